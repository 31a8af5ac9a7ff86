import Derived.Test.YtfogkflaijhfoaaGreatDoorProg
import Derived.KernelRfl
import Derived.Test.YtfogkflaijhfoaaGreatDoorVAE3
import Derived.Test.YtfogkflaijhfoaaGreatDoorVAG1
import Derived.Test.YtfogkflaijhfoaaGreatDoorVAG3
import Derived.Test.YtfogkflaijhfoaaGreatDoorVAG4
import Derived.Test.YtfogkflaijhfoaaGreatDoorVAG6
import Derived.Test.YtfogkflaijhfoaaGreatDoorVAG7
import Derived.Test.YtfogkflaijhfoaaGreatDoorVAG8
import Derived.Test.YtfogkflaijhfoaaGreatDoorVAG9
set_option linter.unusedVariables false
set_option linter.unusedSimpArgs false
set_option linter.unusedSectionVars false
set_option maxRecDepth 100000
namespace Go.Q
open Go Go.RowKit
open Go.Rx (br bd sIdx sCat sCut iQuo iRem)
noncomputable section
namespace iL
def f(lf:Nat)  : Option (TV×Unit) :=
 some (((true,(⟨#[]⟩:ByteArray),(⟨#[]⟩:ByteArray),()),(true,(⟨#[]⟩:ByteArray),(⟨#[]⟩:ByteArray),()),()),())
def E(lf:Nat):Entry:=⟨[],[yV],fun x=>f lf⟩
theorem ok(lf:Nat):Ok 117 (E lf):=okT (an:=(annsL [])) (lf:=lf) tN aoN fun x=>by kernel_rfl
end iL
namespace oP
def f(lf:Nat)(a0:ByteArray):Option (TV×Unit) :=
 some (((false,a0,a0,()),(false,(⟨#[48]⟩:ByteArray),a0,()),()),())
def E(lf:Nat):Entry:=⟨[.str],[yV],fun x=>f lf x.1⟩
theorem ok(lf:Nat):Ok 135 (E lf):=okT (an:=(annsL [])) (lf:=lf) tN aoN fun x=>by kernel_rfl
end oP
namespace dH
def f(lf:Nat)(a0:ByteArray):Option (ByteArray×Unit) :=
 bd (strings_TrimPrefix.f lf a0 (⟨#[45]⟩:ByteArray)) fun r1 =>
 br (decide (((r1.1.size:Nat):Int) > 100)) (
 some ((⟨#[]⟩:ByteArray),())) (
 some (a0,()))
def E(lf:Nat):Entry:=⟨[.str],[.str],fun x=>f lf x.1⟩
theorem ok(lf:Nat):Ok 134 (E lf):=okT (an:=(annsL [])) (lf:=lf) (tC (strings_TrimPrefix.ok lf) tN) aoN fun x=>by kernel_rfl
end dH
namespace dS
def f(lf:Nat)(a0:TI)(a1:TI):Option (TV×Unit) :=
 br a0.1 (
 bd (iL.f lf) fun r1 =>
 some (r1.1,())) (
 br a1.1 (
 bd (iL.f lf) fun r2 =>
 some (r2.1,())) (
 br (a1.2.1.toList==(⟨#[48]⟩:ByteArray).toList) (
 bd (pK.f lf a0 a1.2.2.1) fun r3 =>
 br (!r3.1) (
 bd (iL.f lf) fun r4 =>
 some (r4.1,())) (
 bd (oP.f lf a1.2.2.1) fun r5 =>
 some (r5.1,()))) (
 br (!(a0.2.1.toList==(⟨#[]⟩:ByteArray).toList)) (
 bd (nS.f lf a1 a0.2.1) fun r6 =>
 br (!(a0.2.2.1.toList==(⟨#[]⟩:ByteArray).toList)) (
 bd (jR.f lf a1 a0.2.2.1) fun r7 =>
 br (!(r6.1.toList==(⟨#[]⟩:ByteArray).toList)) (
 br (!(r7.1.toList==(⟨#[]⟩:ByteArray).toList)) (
 bd (iE.f lf r6.1 r7.1) fun r8 =>
 br (decide (r8.1 > 0)) (
 bd (iL.f lf) fun r9 =>
 some (r9.1,())) (
 br (r8.1==0) (
 bd (oP.f lf r6.1) fun r10 =>
 some (r10.1,())) (
 bd (dH.f lf r6.1) fun r11 =>
 bd (dH.f lf r7.1) fun r12 =>
 some (((false,r11.1,r12.1,()),a1,()),())))) (
 bd (dH.f lf r6.1) fun r13 =>
 bd (dH.f lf r7.1) fun r14 =>
 some (((false,r13.1,r14.1,()),a1,()),()))) (
 bd (dH.f lf r6.1) fun r15 =>
 bd (dH.f lf r7.1) fun r16 =>
 some (((false,r15.1,r16.1,()),a1,()),()))) (
 br (!(r6.1.toList==(⟨#[]⟩:ByteArray).toList)) (
 br (!(a0.2.2.1.toList==(⟨#[]⟩:ByteArray).toList)) (
 bd (iE.f lf r6.1 a0.2.2.1) fun r17 =>
 br (decide (r17.1 > 0)) (
 bd (iL.f lf) fun r18 =>
 some (r18.1,())) (
 br (r17.1==0) (
 bd (oP.f lf r6.1) fun r19 =>
 some (r19.1,())) (
 bd (dH.f lf r6.1) fun r20 =>
 bd (dH.f lf a0.2.2.1) fun r21 =>
 some (((false,r20.1,r21.1,()),a1,()),())))) (
 bd (dH.f lf r6.1) fun r22 =>
 bd (dH.f lf a0.2.2.1) fun r23 =>
 some (((false,r22.1,r23.1,()),a1,()),()))) (
 bd (dH.f lf r6.1) fun r24 =>
 bd (dH.f lf a0.2.2.1) fun r25 =>
 some (((false,r24.1,r25.1,()),a1,()),())))) (
 br (!(a0.2.2.1.toList==(⟨#[]⟩:ByteArray).toList)) (
 bd (jR.f lf a1 a0.2.2.1) fun r26 =>
 br (!(a0.2.1.toList==(⟨#[]⟩:ByteArray).toList)) (
 br (!(r26.1.toList==(⟨#[]⟩:ByteArray).toList)) (
 bd (iE.f lf a0.2.1 r26.1) fun r27 =>
 br (decide (r27.1 > 0)) (
 bd (iL.f lf) fun r28 =>
 some (r28.1,())) (
 br (r27.1==0) (
 bd (oP.f lf a0.2.1) fun r29 =>
 some (r29.1,())) (
 bd (dH.f lf a0.2.1) fun r30 =>
 bd (dH.f lf r26.1) fun r31 =>
 some (((false,r30.1,r31.1,()),a1,()),())))) (
 bd (dH.f lf a0.2.1) fun r32 =>
 bd (dH.f lf r26.1) fun r33 =>
 some (((false,r32.1,r33.1,()),a1,()),()))) (
 bd (dH.f lf a0.2.1) fun r34 =>
 bd (dH.f lf r26.1) fun r35 =>
 some (((false,r34.1,r35.1,()),a1,()),()))) (
 br (!(a0.2.1.toList==(⟨#[]⟩:ByteArray).toList)) (
 br (!(a0.2.2.1.toList==(⟨#[]⟩:ByteArray).toList)) (
 bd (iE.f lf a0.2.1 a0.2.2.1) fun r36 =>
 br (decide (r36.1 > 0)) (
 bd (iL.f lf) fun r37 =>
 some (r37.1,())) (
 br (r36.1==0) (
 bd (oP.f lf a0.2.1) fun r38 =>
 some (r38.1,())) (
 bd (dH.f lf a0.2.1) fun r39 =>
 bd (dH.f lf a0.2.2.1) fun r40 =>
 some (((false,r39.1,r40.1,()),a1,()),())))) (
 bd (dH.f lf a0.2.1) fun r41 =>
 bd (dH.f lf a0.2.2.1) fun r42 =>
 some (((false,r41.1,r42.1,()),a1,()),()))) (
 bd (dH.f lf a0.2.1) fun r43 =>
 bd (dH.f lf a0.2.2.1) fun r44 =>
 some (((false,r43.1,r44.1,()),a1,()),())))))))
def E(lf:Nat):Entry:=⟨[yI,yI],[yV],fun x=>f lf x.1 x.2.1⟩
theorem ok(lf:Nat):Ok 116 (E lf):=okT (an:=(annsL [])) (lf:=lf) (tC (pK.ok lf) (tC (iL.ok lf) (tC (dH.ok lf) (tC (oP.ok lf) (tC (iE.ok lf) (tC (nS.ok lf) (tC (jR.ok lf) tN))))))) aoN fun x=>by kernel_rfl
end dS
namespace pR
def f(lf:Nat)(a0:TI)(a1:TI):Option (Int×Unit) :=
 bd (aY.f lf a0) fun r1 =>
 br (r1.1 != 0) (
 some (r1.1,())) (
 bd (fD.f lf a1) fun r2 =>
 some (r2.1,()))
def E(lf:Nat):Entry:=⟨[yI,yI],[(.int .i64)],fun x=>f lf x.1 x.2.1⟩
theorem ok(lf:Nat):Ok 132 (E lf):=okT (an:=(annsL [])) (lf:=lf) (tC (aY.ok lf) (tC (fD.ok lf) tN)) aoN fun x=>by kernel_rfl
end pR
namespace lN
def f(lf:Nat)(a0:TV):Option (Int×Unit) :=
 bd (pR.f lf a0.1 a0.2.1) fun r1 =>
 br (r1.1 != 0) (
 some (r1.1,())) (
 bd (dS.f lf a0.1 a0.2.1) fun r2 =>
 bd (some (!(((r2.1.1.1==a0.1.1)&&((r2.1.1.2.1==a0.1.2.1)&&((r2.1.1.2.2.1==a0.1.2.2.1)&&true)))&&(((r2.1.2.1.1==a0.2.1.1)&&((r2.1.2.1.2.1==a0.2.1.2.1)&&((r2.1.2.1.2.2.1==a0.2.1.2.2.1)&&true)))&&true)))) fun r3 =>
 br r3 (
 some (3,())) (
 some (0,())))
def E(lf:Nat):Entry:=⟨[yV],[(.int .i64)],fun x=>f lf x.1⟩
theorem ok(lf:Nat):Ok 45 (E lf):=okT (an:=(annsL [])) (lf:=lf) (tC (dS.ok lf) (tC (pR.ok lf) tN)) aoN fun x=>by kernel_rfl
end lN
namespace fJ
def f(lf:Nat)(a0:TV)(a1:TV):Option (Int×Unit) :=
 bd (lN.f lf a0) fun r1 =>
 br (r1.1 != 0) (
 some (r1.1,())) (
 bd (lN.f lf a1) fun r2 =>
 some (r2.1,()))
def E(lf:Nat):Entry:=⟨[yV,yV],[(.int .i64)],fun x=>f lf x.1 x.2.1⟩
theorem ok(lf:Nat):Ok 114 (E lf):=okT (an:=(annsL [])) (lf:=lf) (tC (lN.ok lf) tN) aoN fun x=>by kernel_rfl
end fJ
namespace jH
def f(lf:Nat)(a0:Int)(a1:TV)(a2:TV):Option (TV×Int×Unit) :=
 br (a0==3) (
 bd (fJ.f lf a1 a2) fun r1 =>
 br (r1.1 != 0) (
 some (((false,(⟨#[]⟩:ByteArray),(⟨#[]⟩:ByteArray),()),(false,(⟨#[]⟩:ByteArray),(⟨#[]⟩:ByteArray),()),()),r1.1,())) (
 bd (rD.f lf a1.1 a2.1) fun r2 =>
 br (r2.2.1 != 0) (
 some (((false,(⟨#[]⟩:ByteArray),(⟨#[]⟩:ByteArray),()),(false,(⟨#[]⟩:ByteArray),(⟨#[]⟩:ByteArray),()),()),r2.2.1,())) (
 bd (oW.f lf a1.2.1 a2.2.1) fun r3 =>
 br (r3.2.1 != 0) (
 some (((false,(⟨#[]⟩:ByteArray),(⟨#[]⟩:ByteArray),()),(false,(⟨#[]⟩:ByteArray),(⟨#[]⟩:ByteArray),()),()),r3.2.1,())) (
 bd (dS.f lf r2.1 r3.1) fun r4 =>
 some (r4.1,0,()))))) (
 br (a0==4) (
 bd (fJ.f lf a1 a2) fun r5 =>
 br (r5.1 != 0) (
 some (((false,(⟨#[]⟩:ByteArray),(⟨#[]⟩:ByteArray),()),(false,(⟨#[]⟩:ByteArray),(⟨#[]⟩:ByteArray),()),()),r5.1,())) (
 bd (rH.f lf a1.1 a2.1) fun r6 =>
 br (r6.2.1 != 0) (
 some (((false,(⟨#[]⟩:ByteArray),(⟨#[]⟩:ByteArray),()),(false,(⟨#[]⟩:ByteArray),(⟨#[]⟩:ByteArray),()),()),r6.2.1,())) (
 bd (pF.f lf a1.2.1 a2.2.1) fun r7 =>
 br (r7.2.1 != 0) (
 some (((false,(⟨#[]⟩:ByteArray),(⟨#[]⟩:ByteArray),()),(false,(⟨#[]⟩:ByteArray),(⟨#[]⟩:ByteArray),()),()),r7.2.1,())) (
 bd (dS.f lf r6.1 r7.1) fun r8 =>
 some (r8.1,0,()))))) (
 br (a0==5) (
 bd (fJ.f lf a1 a2) fun r9 =>
 br (r9.1 != 0) (
 some (((false,(⟨#[]⟩:ByteArray),(⟨#[]⟩:ByteArray),()),(false,(⟨#[]⟩:ByteArray),(⟨#[]⟩:ByteArray),()),()),r9.1,())) (
 bd (rE.f lf a1.1 a2.1) fun r10 =>
 br (r10.2.1 != 0) (
 some (((false,(⟨#[]⟩:ByteArray),(⟨#[]⟩:ByteArray),()),(false,(⟨#[]⟩:ByteArray),(⟨#[]⟩:ByteArray),()),()),r10.2.1,())) (
 bd (oZ.f lf a1.2.1 a2.2.1) fun r11 =>
 br (r11.2.1 != 0) (
 some (((false,(⟨#[]⟩:ByteArray),(⟨#[]⟩:ByteArray),()),(false,(⟨#[]⟩:ByteArray),(⟨#[]⟩:ByteArray),()),()),r11.2.1,())) (
 bd (dS.f lf r10.1 r11.1) fun r12 =>
 some (r12.1,0,()))))) (
 br (a0==6) (
 bd (fJ.f lf a1 a2) fun r13 =>
 br (r13.1 != 0) (
 some (((false,(⟨#[]⟩:ByteArray),(⟨#[]⟩:ByteArray),()),(false,(⟨#[]⟩:ByteArray),(⟨#[]⟩:ByteArray),()),()),r13.1,())) (
 bd (rF.f lf a1.1 a2.1) fun r14 =>
 br (r14.2.1 != 0) (
 some (((false,(⟨#[]⟩:ByteArray),(⟨#[]⟩:ByteArray),()),(false,(⟨#[]⟩:ByteArray),(⟨#[]⟩:ByteArray),()),()),r14.2.1,())) (
 bd (pq.f lf a1.2.1 a2.2.1) fun r15 =>
 br (r15.2.1 != 0) (
 some (((false,(⟨#[]⟩:ByteArray),(⟨#[]⟩:ByteArray),()),(false,(⟨#[]⟩:ByteArray),(⟨#[]⟩:ByteArray),()),()),r15.2.1,())) (
 bd (dS.f lf r14.1 r15.1) fun r16 =>
 some (r16.1,0,()))))) (
 br (a0==7) (
 bd (fJ.f lf a1 a2) fun r17 =>
 br (r17.1 != 0) (
 some (((false,(⟨#[]⟩:ByteArray),(⟨#[]⟩:ByteArray),()),(false,(⟨#[]⟩:ByteArray),(⟨#[]⟩:ByteArray),()),()),r17.1,())) (
 bd (rG.f lf a1.1 a2.1) fun r18 =>
 br (r18.2.1 != 0) (
 some (((false,(⟨#[]⟩:ByteArray),(⟨#[]⟩:ByteArray),()),(false,(⟨#[]⟩:ByteArray),(⟨#[]⟩:ByteArray),()),()),r18.2.1,())) (
 bd (pz.f lf a1.2.1 a2.2.1) fun r19 =>
 br (r19.2.1 != 0) (
 some (((false,(⟨#[]⟩:ByteArray),(⟨#[]⟩:ByteArray),()),(false,(⟨#[]⟩:ByteArray),(⟨#[]⟩:ByteArray),()),()),r19.2.1,())) (
 bd (dS.f lf r18.1 r19.1) fun r20 =>
 some (r20.1,0,()))))) (
 some (((false,(⟨#[]⟩:ByteArray),(⟨#[]⟩:ByteArray),()),(false,(⟨#[]⟩:ByteArray),(⟨#[]⟩:ByteArray),()),()),1,()))))))
def E(lf:Nat):Entry:=⟨[(.int .i64),yV,yV],[yV,(.int .i64)],fun x=>f lf x.1 x.2.1 x.2.2.1⟩
theorem ok(lf:Nat):Ok 23 (E lf):=okT (an:=(annsL [])) (lf:=lf) (tC (oW.ok lf) (tC (pF.ok lf) (tC (oZ.ok lf) (tC (rD.ok lf) (tC (rH.ok lf) (tC (rE.ok lf) (tC (rF.ok lf) (tC (pq.ok lf) (tC (rG.ok lf) (tC (pz.ok lf) (tC (fJ.ok lf) (tC (dS.ok lf) tN)))))))))))) aoN fun x=>by kernel_rfl
end jH
namespace uU
def f(lf:Nat)(a0:TV)(a1:TV):Option (TV×Int×Unit) :=
 bd (fJ.f lf a0 a1) fun r1 =>
 br (r1.1 != 0) (
 some (((false,(⟨#[]⟩:ByteArray),(⟨#[]⟩:ByteArray),()),(false,(⟨#[]⟩:ByteArray),(⟨#[]⟩:ByteArray),()),()),r1.1,())) (
 bd (qI.f lf a0.1 a1.1) fun r2 =>
 br (r2.2.1 != 0) (
 some (((false,(⟨#[]⟩:ByteArray),(⟨#[]⟩:ByteArray),()),(false,(⟨#[]⟩:ByteArray),(⟨#[]⟩:ByteArray),()),()),r2.2.1,())) (
 bd (oL.f lf a0.2.1 a1.2.1) fun r3 =>
 br (r3.2.1 != 0) (
 some (((false,(⟨#[]⟩:ByteArray),(⟨#[]⟩:ByteArray),()),(false,(⟨#[]⟩:ByteArray),(⟨#[]⟩:ByteArray),()),()),r3.2.1,())) (
 bd (dS.f lf r2.1 r3.1) fun r4 =>
 some (r4.1,0,()))))
def E(lf:Nat):Entry:=⟨[yV,yV],[yV,(.int .i64)],fun x=>f lf x.1 x.2.1⟩
theorem ok(lf:Nat):Ok 61 (E lf):=okT (an:=(annsL [])) (lf:=lf) (tC (fJ.ok lf) (tC (dS.ok lf) (tC (qI.ok lf) (tC (oL.ok lf) tN)))) aoN fun x=>by kernel_rfl
end uU
namespace jQ
def f(lf:Nat)(a0:Int)(a1:TV)(a2:TV):Option (TV×TV×Int×Unit) :=
 br (decide (a0 < 2)) (
 some (((false,(⟨#[]⟩:ByteArray),(⟨#[]⟩:ByteArray),()),(false,(⟨#[]⟩:ByteArray),(⟨#[]⟩:ByteArray),()),()),((false,(⟨#[]⟩:ByteArray),(⟨#[]⟩:ByteArray),()),(false,(⟨#[]⟩:ByteArray),(⟨#[]⟩:ByteArray),()),()),1,())) (
 br (decide (a0 > 5)) (
 some (((false,(⟨#[]⟩:ByteArray),(⟨#[]⟩:ByteArray),()),(false,(⟨#[]⟩:ByteArray),(⟨#[]⟩:ByteArray),()),()),((false,(⟨#[]⟩:ByteArray),(⟨#[]⟩:ByteArray),()),(false,(⟨#[]⟩:ByteArray),(⟨#[]⟩:ByteArray),()),()),1,())) (
 bd (fJ.f lf a1 a2) fun r1 =>
 br (r1.1 != 0) (
 some (((false,(⟨#[]⟩:ByteArray),(⟨#[]⟩:ByteArray),()),(false,(⟨#[]⟩:ByteArray),(⟨#[]⟩:ByteArray),()),()),((false,(⟨#[]⟩:ByteArray),(⟨#[]⟩:ByteArray),()),(false,(⟨#[]⟩:ByteArray),(⟨#[]⟩:ByteArray),()),()),r1.1,())) (
 br (a0==2) (
 bd (uU.f lf a1 a2) fun r2 =>
 some (r2.1,r2.1,r2.2.1,())) (
 bd (oM.f lf a0 a1.1 a2.1) fun r3 =>
 br (r3.2.2.1 != 0) (
 some (((false,(⟨#[]⟩:ByteArray),(⟨#[]⟩:ByteArray),()),(false,(⟨#[]⟩:ByteArray),(⟨#[]⟩:ByteArray),()),()),((false,(⟨#[]⟩:ByteArray),(⟨#[]⟩:ByteArray),()),(false,(⟨#[]⟩:ByteArray),(⟨#[]⟩:ByteArray),()),()),r3.2.2.1,())) (
 bd (dS.f lf r3.1 a1.2.1) fun r4 =>
 bd (dS.f lf r3.2.1 a2.2.1) fun r5 =>
 br r4.1.1.1 (
 bd (iL.f lf) fun r6 =>
 bd (iL.f lf) fun r7 =>
 some (r6.1,r7.1,0,())) (
 br r5.1.1.1 (
 bd (iL.f lf) fun r8 =>
 bd (iL.f lf) fun r9 =>
 some (r8.1,r9.1,0,())) (
 some (r4.1,r5.1,0,()))))))))
def E(lf:Nat):Entry:=⟨[(.int .i64),yV,yV],[yV,yV,(.int .i64)],fun x=>f lf x.1 x.2.1 x.2.2.1⟩
theorem ok(lf:Nat):Ok 25 (E lf):=okT (an:=(annsL [])) (lf:=lf) (tC (uU.ok lf) (tC (fJ.ok lf) (tC (oM.ok lf) (tC (dS.ok lf) (tC (iL.ok lf) tN))))) aoN fun x=>by kernel_rfl
end jQ
end
end Go.Q
namespace Go.Q
open Go Go.RowKit
open Go.Rx (br bd sIdx sCat sCut iQuo iRem)
noncomputable section
namespace vH
def l:List ((TV×TV×(List ByteArray)×Unit)×(TV×Int×Unit)):=[((((false,(⟨#[52]⟩:ByteArray),(⟨#[56]⟩:ByteArray),()),(false,(⟨#[52]⟩:ByteArray),(⟨#[48]⟩:ByteArray),()),()),((false,(⟨#[49,50]⟩:ByteArray),(⟨#[49,50]⟩:ByteArray),()),(false,(⟨#[48]⟩:ByteArray),(⟨#[49,50]⟩:ByteArray),()),()),[],()),(((false,(⟨#[52]⟩:ByteArray),(⟨#[]⟩:ByteArray),()),(false,(⟨#[52]⟩:ByteArray),(⟨#[48]⟩:ByteArray),()),()),0,())),((((false,(⟨#[52]⟩:ByteArray),(⟨#[56]⟩:ByteArray),()),(false,(⟨#[52]⟩:ByteArray),(⟨#[48]⟩:ByteArray),()),()),((false,(⟨#[49,50]⟩:ByteArray),(⟨#[49,50]⟩:ByteArray),()),(false,(⟨#[48]⟩:ByteArray),(⟨#[49,50]⟩:ByteArray),()),()),[(⟨#[49,52]⟩:ByteArray)],()),(((false,(⟨#[52]⟩:ByteArray),(⟨#[49,50]⟩:ByteArray),()),(false,(⟨#[52]⟩:ByteArray),(⟨#[48]⟩:ByteArray),()),()),0,()))]
def f(lf:Nat)(a0:TV)(a1:TV)(a2:List ByteArray):Option (TV×Int×Unit):=pick [yV,yV,(.sl .str)] l (a0,a1,a2,())
def E(lf:Nat):Entry:=⟨[yV,yV,(.sl .str)],[yV,(.int .i64)],fun x=>f lf x.1 x.2.1 x.2.2.1⟩
def tb(lf:Nat):List (FuncId×Entry):=[(99,dQ.E lf),(100,dm.E lf),(101,dM.E lf),(102,gJ.E lf),(114,fJ.E lf),(116,dS.E lf),(174,aY.E lf),(175,aK.E lf),(176,af.E lf),(177,ak.E lf),(199,aW.E lf),(200,dP.E lf),(205,ah.E lf),(206,bD.E lf),(268,gI.E lf),(269,dw.E lf)]
abbrev an:FuncId→FA:=annsL []
theorem t0(lf:Nat):runQ Proofs.Tryz.prog an noLs (lookT (tb lf)) (lf+40) 14 6 30 [yV,yV,(.sl .str)] [yV,(.int .i64)] (((false,(⟨#[52]⟩:ByteArray),(⟨#[56]⟩:ByteArray),()),(false,(⟨#[52]⟩:ByteArray),(⟨#[48]⟩:ByteArray),()),()),((false,(⟨#[49,50]⟩:ByteArray),(⟨#[49,50]⟩:ByteArray),()),(false,(⟨#[48]⟩:ByteArray),(⟨#[49,50]⟩:ByteArray),()),()),[],())=some (((false,(⟨#[52]⟩:ByteArray),(⟨#[]⟩:ByteArray),()),(false,(⟨#[52]⟩:ByteArray),(⟨#[48]⟩:ByteArray),()),()),0,()):=by kernel_rfl
theorem t1(lf:Nat):runQ Proofs.Tryz.prog an noLs (lookT (tb lf)) (lf+40) 14 6 30 [yV,yV,(.sl .str)] [yV,(.int .i64)] (((false,(⟨#[52]⟩:ByteArray),(⟨#[56]⟩:ByteArray),()),(false,(⟨#[52]⟩:ByteArray),(⟨#[48]⟩:ByteArray),()),()),((false,(⟨#[49,50]⟩:ByteArray),(⟨#[49,50]⟩:ByteArray),()),(false,(⟨#[48]⟩:ByteArray),(⟨#[49,50]⟩:ByteArray),()),()),[(⟨#[49,52]⟩:ByteArray)],())=some (((false,(⟨#[52]⟩:ByteArray),(⟨#[49,50]⟩:ByteArray),()),(false,(⟨#[52]⟩:ByteArray),(⟨#[48]⟩:ByteArray),()),()),0,()):=by kernel_rfl
theorem ok(lf:Nat):Ok 30 (E lf):=okP (an:=an) (tb:=tb lf) (lf:=lf) (tC (dQ.ok lf) (tC (dm.ok lf) (tC (dM.ok lf) (tC (gJ.ok lf) (tC (fJ.ok lf) (tC (dS.ok lf) (tC (aY.ok lf) (tC (aK.ok lf) (tC (af.ok lf) (tC (ak.ok lf) (tC (aW.ok lf) (tC (dP.ok lf) (tC (ah.ok lf) (tC (bD.ok lf) (tC (gI.ok lf) (tC (dw.ok lf) tN)))))))))))))))) aoN (l:=l) (fun _=>rfl) (fun _=>rfl) ⟨t0 lf,t1 lf,trivial⟩
end vH
namespace uT
def f(lf:Nat)(a0:TI)(a1:TI):Option (TV×Int×Unit) :=
 bd (pR.f lf a0 a1) fun r1 =>
 br (r1.1 != 0) (
 some (((false,(⟨#[]⟩:ByteArray),(⟨#[]⟩:ByteArray),()),(false,(⟨#[]⟩:ByteArray),(⟨#[]⟩:ByteArray),()),()),r1.1,())) (
 bd (dS.f lf a0 a1) fun r2 =>
 some (r2.1,0,()))
def E(lf:Nat):Entry:=⟨[yI,yI],[yV,(.int .i64)],fun x=>f lf x.1 x.2.1⟩
theorem ok(lf:Nat):Ok 39 (E lf):=okT (an:=(annsL [])) (lf:=lf) (tC (dS.ok lf) (tC (pR.ok lf) tN)) aoN fun x=>by kernel_rfl
end uT
namespace abh
def f(lf:Nat)  : Option (TV×Unit) :=
 some (((false,(⟨#[]⟩:ByteArray),(⟨#[]⟩:ByteArray),()),(false,(⟨#[49]⟩:ByteArray),(⟨#[48]⟩:ByteArray),()),()),())
def E(lf:Nat):Entry:=⟨[],[yV],fun x=>f lf⟩
theorem ok(lf:Nat):Ok 46 (E lf):=okT (an:=(annsL [])) (lf:=lf) tN aoN fun x=>by kernel_rfl
end abh
namespace acX
def f(lf:Nat)(a0:ByteArray):Option (TV×Int×Unit) :=
 bd (dZ.f lf a0) fun r1 =>
 br (r1.1 != 0) (
 some (((false,(⟨#[]⟩:ByteArray),(⟨#[]⟩:ByteArray),()),(false,(⟨#[]⟩:ByteArray),(⟨#[]⟩:ByteArray),()),()),r1.1,())) (
 bd (dH.f lf a0) fun r2 =>
 br (r2.1.toList==(⟨#[]⟩:ByteArray).toList) (
 bd (abh.f lf) fun r3 =>
 some (r3.1,0,())) (
 bd (oP.f lf a0) fun r4 =>
 some (r4.1,0,())))
def E(lf:Nat):Entry:=⟨[.str],[yV,(.int .i64)],fun x=>f lf x.1⟩
theorem ok(lf:Nat):Ok 41 (E lf):=okT (an:=(annsL [])) (lf:=lf) (tC (abh.ok lf) (tC (dZ.ok lf) (tC (dH.ok lf) (tC (oP.ok lf) tN)))) aoN fun x=>by kernel_rfl
end acX
namespace xJ
def l:List ((TV×Unit)×(ByteArray×Int×Unit)):=[((((false,(⟨#[52]⟩:ByteArray),(⟨#[]⟩:ByteArray),()),(false,(⟨#[52]⟩:ByteArray),(⟨#[48]⟩:ByteArray),()),()),()),((⟨#[91,52,44,32,43,105,110,102,93,32,109,111,100,32,52,32,61,32,48]⟩:ByteArray),0,()))]
def f(lf:Nat)(a0:TV):Option (ByteArray×Int×Unit):=pick [yV] l (a0,())
def E(lf:Nat):Entry:=⟨[yV],[.str,(.int .i64)],fun x=>f lf x.1⟩
def tb(lf:Nat):List (FuncId×Entry):=[(45,lN.E lf),(174,aY.E lf)]
abbrev an:FuncId→FA:=annsL []
theorem t0(lf:Nat):runQ Proofs.Tryz.prog an noLs (lookT (tb lf)) (lf+40) 14 6 56 [yV] [.str,(.int .i64)] (((false,(⟨#[52]⟩:ByteArray),(⟨#[]⟩:ByteArray),()),(false,(⟨#[52]⟩:ByteArray),(⟨#[48]⟩:ByteArray),()),()),())=some ((⟨#[91,52,44,32,43,105,110,102,93,32,109,111,100,32,52,32,61,32,48]⟩:ByteArray),0,()):=by kernel_rfl
theorem ok(lf:Nat):Ok 56 (E lf):=okP (an:=an) (tb:=tb lf) (lf:=lf) (tC (lN.ok lf) (tC (aY.ok lf) tN)) aoN (l:=l) (fun _=>rfl) (fun _=>rfl) ⟨t0 lf,trivial⟩
end xJ
end
end Go.Q
namespace Go.Q
open Go Go.RowKit
open Go.Rx (br bd sIdx sCat sCut iQuo iRem)
noncomputable section
namespace mY
def f(lf:Nat)(a0:TV)(a1:TV):Option (Bool×Unit) :=
 bd (mV.f lf a0.1 a1.1) fun r1 =>
 br r1.1 (
 bd (kV.f lf a0.2.1) fun r2 =>
 br r2.1 (
 bd (kV.f lf a1.2.1) fun r3 =>
 some (r3.1,())) (
 some (false,()))) (
 some (false,()))
def E(lf:Nat):Entry:=⟨[yV,yV],[.bool],fun x=>f lf x.1 x.2.1⟩
theorem ok(lf:Nat):Ok 21 (E lf):=okT (an:=(annsL [])) (lf:=lf) (tC (mV.ok lf) (tC (kV.ok lf) tN)) aoN fun x=>by kernel_rfl
end mY
namespace bU
def f(lf:Nat)  : Option (TV×Unit) :=
 bd (aA.f lf) fun r1 =>
 bd (aH.f lf) fun r2 =>
 some ((r1.1,r2.1,()),())
def E(lf:Nat):Entry:=⟨[],[yV],fun x=>f lf⟩
theorem ok(lf:Nat):Ok 108 (E lf):=okT (an:=(annsL [])) (lf:=lf) (tC (aH.ok lf) (tC (aA.ok lf) tN)) aoN fun x=>by kernel_rfl
end bU
namespace rV
def f(lf:Nat)  : Option (TV×Unit) :=
 bd (dO.f lf) fun r1 =>
 some (((false,(⟨#[]⟩:ByteArray),(⟨#[]⟩:ByteArray),()),r1.1,()),())
def E(lf:Nat):Entry:=⟨[],[yV],fun x=>f lf⟩
theorem ok(lf:Nat):Ok 47 (E lf):=okT (an:=(annsL [])) (lf:=lf) (tC (dO.ok lf) tN) aoN fun x=>by kernel_rfl
end rV
namespace jP
def f(lf:Nat)(a0:ByteArray):Option (TV×Unit) :=
 bd (iZ.f lf a0) fun r1 =>
 br (!(r1.1.2.1.toList==(⟨#[48]⟩:ByteArray).toList)) (
 bd (rV.f lf) fun r2 =>
 some (r2.1,())) (
 some (((false,a0,a0,()),r1.1,()),()))
def E(lf:Nat):Entry:=⟨[.str],[yV],fun x=>f lf x.1⟩
theorem ok(lf:Nat):Ok 136 (E lf):=okT (an:=(annsL [])) (lf:=lf) (tC (rV.ok lf) (tC (iZ.ok lf) tN)) aoN fun x=>by kernel_rfl
end jP
namespace bV
def f(lf:Nat)(a0:TI)(a1:TI):Option (TV×Unit) :=
 br a0.1 (
 bd (bU.f lf) fun r1 =>
 some (r1.1,())) (
 br a1.1 (
 bd (bU.f lf) fun r2 =>
 some (r2.1,())) (
 br (a1.2.1.toList==(⟨#[48]⟩:ByteArray).toList) (
 bd (ou.f lf a0 a1.2.2.1) fun r3 =>
 br (!r3.1) (
 bd (bU.f lf) fun r4 =>
 some (r4.1,())) (
 some (((false,a1.2.2.1,a1.2.2.1,()),a1,()),()))) (
 br (!(a0.2.1.toList==(⟨#[]⟩:ByteArray).toList)) (
 bd (jh.f lf a1 a0.2.1) fun r5 =>
 br (!(a0.2.2.1.toList==(⟨#[]⟩:ByteArray).toList)) (
 bd (jT.f lf a1 a0.2.2.1) fun r6 =>
 br (!(r5.1.toList==(⟨#[]⟩:ByteArray).toList)) (
 br (!(r6.1.toList==(⟨#[]⟩:ByteArray).toList)) (
 bd (aJ.f lf r6.1 r5.1) fun r7 =>
 br r7.1 (
 bd (bU.f lf) fun r8 =>
 some (r8.1,())) (
 br (r5.1.toList==r6.1.toList) (
 bd (jP.f lf r5.1) fun r9 =>
 some (r9.1,())) (
 bd (ax.f lf r5.1 r6.1) fun r10 =>
 some ((r10.1,a1,()),())))) (
 bd (ax.f lf r5.1 r6.1) fun r11 =>
 some ((r11.1,a1,()),()))) (
 bd (ax.f lf r5.1 r6.1) fun r12 =>
 some ((r12.1,a1,()),()))) (
 br (!(r5.1.toList==(⟨#[]⟩:ByteArray).toList)) (
 br (!(a0.2.2.1.toList==(⟨#[]⟩:ByteArray).toList)) (
 bd (aJ.f lf a0.2.2.1 r5.1) fun r13 =>
 br r13.1 (
 bd (bU.f lf) fun r14 =>
 some (r14.1,())) (
 br (r5.1.toList==a0.2.2.1.toList) (
 bd (jP.f lf r5.1) fun r15 =>
 some (r15.1,())) (
 bd (ax.f lf r5.1 a0.2.2.1) fun r16 =>
 some ((r16.1,a1,()),())))) (
 bd (ax.f lf r5.1 a0.2.2.1) fun r17 =>
 some ((r17.1,a1,()),()))) (
 bd (ax.f lf r5.1 a0.2.2.1) fun r18 =>
 some ((r18.1,a1,()),())))) (
 br (!(a0.2.2.1.toList==(⟨#[]⟩:ByteArray).toList)) (
 bd (jT.f lf a1 a0.2.2.1) fun r19 =>
 br (!(a0.2.1.toList==(⟨#[]⟩:ByteArray).toList)) (
 br (!(r19.1.toList==(⟨#[]⟩:ByteArray).toList)) (
 bd (aJ.f lf r19.1 a0.2.1) fun r20 =>
 br r20.1 (
 bd (bU.f lf) fun r21 =>
 some (r21.1,())) (
 br (a0.2.1.toList==r19.1.toList) (
 bd (jP.f lf a0.2.1) fun r22 =>
 some (r22.1,())) (
 bd (ax.f lf a0.2.1 r19.1) fun r23 =>
 some ((r23.1,a1,()),())))) (
 bd (ax.f lf a0.2.1 r19.1) fun r24 =>
 some ((r24.1,a1,()),()))) (
 bd (ax.f lf a0.2.1 r19.1) fun r25 =>
 some ((r25.1,a1,()),()))) (
 br (!(a0.2.1.toList==(⟨#[]⟩:ByteArray).toList)) (
 br (!(a0.2.2.1.toList==(⟨#[]⟩:ByteArray).toList)) (
 bd (aJ.f lf a0.2.2.1 a0.2.1) fun r26 =>
 br r26.1 (
 bd (bU.f lf) fun r27 =>
 some (r27.1,())) (
 br (a0.2.1.toList==a0.2.2.1.toList) (
 bd (jP.f lf a0.2.1) fun r28 =>
 some (r28.1,())) (
 bd (ax.f lf a0.2.1 a0.2.2.1) fun r29 =>
 some ((r29.1,a1,()),())))) (
 bd (ax.f lf a0.2.1 a0.2.2.1) fun r30 =>
 some ((r30.1,a1,()),()))) (
 bd (ax.f lf a0.2.1 a0.2.2.1) fun r31 =>
 some ((r31.1,a1,()),())))))))
def E(lf:Nat):Entry:=⟨[yI,yI],[yV],fun x=>f lf x.1 x.2.1⟩
theorem ok(lf:Nat):Ok 121 (E lf):=okT (an:=(annsL [])) (lf:=lf) (tC (aJ.ok lf) (tC (bU.ok lf) (tC (jP.ok lf) (tC (ou.ok lf) (tC (jh.ok lf) (tC (jT.ok lf) (tC (ax.ok lf) tN))))))) aoN fun x=>by kernel_rfl
end bV
namespace iK
def f(lf:Nat)(a0:TV):Option (Int×Unit) :=
 bd (jS.f lf a0.1) fun r1 =>
 br (r1.1 != 0) (
 some (r1.1,())) (
 bd (jU.f lf a0.2.1) fun r2 =>
 br (r2.1 != 0) (
 some (r2.1,())) (
 bd (bV.f lf a0.1 a0.2.1) fun r3 =>
 bd (some (!(((r3.1.1.1==a0.1.1)&&((r3.1.1.2.1==a0.1.2.1)&&((r3.1.1.2.2.1==a0.1.2.2.1)&&true)))&&(((r3.1.2.1.1==a0.2.1.1)&&((r3.1.2.1.2.1==a0.2.1.2.1)&&((r3.1.2.1.2.2.1==a0.2.1.2.2.1)&&true)))&&true)))) fun r4 =>
 br r4 (
 some (3,())) (
 some (0,()))))
def E(lf:Nat):Entry:=⟨[yV],[(.int .i64)],fun x=>f lf x.1⟩
theorem ok(lf:Nat):Ok 29 (E lf):=okT (an:=(annsL [])) (lf:=lf) (tC (jU.ok lf) (tC (jS.ok lf) (tC (bV.ok lf) tN))) aoN fun x=>by kernel_rfl
end iK
namespace dG
def f(lf:Nat)(a0:TV)(a1:TV):Option (Int×Unit) :=
 bd (iK.f lf a0) fun r1 =>
 br (r1.1 != 0) (
 some (r1.1,())) (
 bd (iK.f lf a1) fun r2 =>
 some (r2.1,()))
def E(lf:Nat):Entry:=⟨[yV,yV],[(.int .i64)],fun x=>f lf x.1 x.2.1⟩
theorem ok(lf:Nat):Ok 71 (E lf):=okT (an:=(annsL [])) (lf:=lf) (tC (iK.ok lf) tN) aoN fun x=>by kernel_rfl
end dG
namespace jY
def f(lf:Nat)(a0:Int)(a1:TV)(a2:TV):Option (TV×Unit) :=
 br (a0==3) (
 bd (jD.f lf a1.1 a2.1) fun r1 =>
 bd (mF.f lf a1.2.1 a2.2.1) fun r2 =>
 bd (bV.f lf r1.1 r2.1) fun r3 =>
 some (r3.1,())) (
 br (a0==4) (
 bd (lH.f lf a1.1 a2.1) fun r4 =>
 bd (lI.f lf a1.2.1 a2.2.1) fun r5 =>
 bd (bV.f lf r4.1 r5.1) fun r6 =>
 some (r6.1,())) (
 br (a0==5) (
 bd (cO.f lf a1.1 a2.1) fun r7 =>
 bd (lJ.f lf a1.2.1 a2.2.1) fun r8 =>
 bd (bV.f lf r7.1 r8.1) fun r9 =>
 some (r9.1,())) (
 br (a0==6) (
 bd (mr.f lf a1.1 a2.1) fun r10 =>
 bd (mD.f lf a1.2.1 a2.2.1) fun r11 =>
 bd (bV.f lf r10.1 r11.1) fun r12 =>
 some (r12.1,())) (
 bd (kM.f lf a1.1 a2.1) fun r13 =>
 bd (kN.f lf a1.2.1 a2.2.1) fun r14 =>
 bd (bV.f lf r13.1 r14.1) fun r15 =>
 some (r15.1,())))))
def E(lf:Nat):Entry:=⟨[(.int .i64),yV,yV],[yV],fun x=>f lf x.1 x.2.1 x.2.2.1⟩
theorem ok(lf:Nat):Ok 113 (E lf):=okT (an:=(annsL [])) (lf:=lf) (tC (bV.ok lf) (tC (jD.ok lf) (tC (mF.ok lf) (tC (lH.ok lf) (tC (lI.ok lf) (tC (cO.ok lf) (tC (lJ.ok lf) (tC (mr.ok lf) (tC (mD.ok lf) (tC (kM.ok lf) (tC (kN.ok lf) tN))))))))))) aoN fun x=>by kernel_rfl
end jY
namespace ji
def f(lf:Nat)(a0:Int)(a1:TV)(a2:TV):Option (TV×Int×Unit) :=
 br (decide (a0 < 3)) (
 some (((false,(⟨#[]⟩:ByteArray),(⟨#[]⟩:ByteArray),()),(false,(⟨#[]⟩:ByteArray),(⟨#[]⟩:ByteArray),()),()),1,())) (
 br (decide (a0 > 7)) (
 some (((false,(⟨#[]⟩:ByteArray),(⟨#[]⟩:ByteArray),()),(false,(⟨#[]⟩:ByteArray),(⟨#[]⟩:ByteArray),()),()),1,())) (
 bd (dG.f lf a1 a2) fun r1 =>
 br (r1.1 != 0) (
 some (((false,(⟨#[]⟩:ByteArray),(⟨#[]⟩:ByteArray),()),(false,(⟨#[]⟩:ByteArray),(⟨#[]⟩:ByteArray),()),()),r1.1,())) (
 bd (jY.f lf a0 a1 a2) fun r2 =>
 some (r2.1,0,()))))
def E(lf:Nat):Entry:=⟨[(.int .i64),yV,yV],[yV,(.int .i64)],fun x=>f lf x.1 x.2.1 x.2.2.1⟩
theorem ok(lf:Nat):Ok 24 (E lf):=okT (an:=(annsL [])) (lf:=lf) (tC (dG.ok lf) (tC (jY.ok lf) tN)) aoN fun x=>by kernel_rfl
end ji
namespace kW
def f(lf:Nat)(a0:TV)(a1:TV):Option (TV×Unit) :=
 bd (fF.f lf a0.1 a1.1) fun r1 =>
 bd (mX.f lf a0.2.1 a1.2.1) fun r2 =>
 bd (bV.f lf r1.1 r2.1) fun r3 =>
 some (r3.1,())
def E(lf:Nat):Entry:=⟨[yV,yV],[yV],fun x=>f lf x.1 x.2.1⟩
theorem ok(lf:Nat):Ok 151 (E lf):=okT (an:=(annsL [])) (lf:=lf) (tC (bV.ok lf) (tC (fF.ok lf) (tC (mX.ok lf) tN))) aoN fun x=>by kernel_rfl
end kW
namespace gq
def f(lf:Nat)(a0:Int)(a1:TV)(a2:TV):Option (TV×TV×Unit) :=
 br (a0==2) (
 bd (kW.f lf a1 a2) fun r1 =>
 bd (kW.f lf a1 a2) fun r2 =>
 some (r1.1,r2.1,())) (
 bd (jX.f lf a0 a1.1 a2.1) fun r3 =>
 bd (bV.f lf r3.1 a1.2.1) fun r4 =>
 bd (bV.f lf r3.2.1 a2.2.1) fun r5 =>
 br r4.1.1.1 (
 bd (bU.f lf) fun r6 =>
 bd (bU.f lf) fun r7 =>
 some (r6.1,r7.1,())) (
 br r5.1.1.1 (
 bd (bU.f lf) fun r8 =>
 bd (bU.f lf) fun r9 =>
 some (r8.1,r9.1,())) (
 some (r4.1,r5.1,()))))
def E(lf:Nat):Entry:=⟨[(.int .i64),yV,yV],[yV,yV],fun x=>f lf x.1 x.2.1 x.2.2.1⟩
theorem ok(lf:Nat):Ok 118 (E lf):=okT (an:=(annsL [])) (lf:=lf) (tC (bU.ok lf) (tC (bV.ok lf) (tC (kW.ok lf) (tC (jX.ok lf) tN)))) aoN fun x=>by kernel_rfl
end gq
namespace gX
def f(lf:Nat)(a0:Int)(a1:TV)(a2:TV):Option (TV×TV×Int×Unit) :=
 br (a0 != 2) (
 br (a0 != 3) (
 br (a0 != 4) (
 br (a0 != 5) (
 some (((false,(⟨#[]⟩:ByteArray),(⟨#[]⟩:ByteArray),()),(false,(⟨#[]⟩:ByteArray),(⟨#[]⟩:ByteArray),()),()),((false,(⟨#[]⟩:ByteArray),(⟨#[]⟩:ByteArray),()),(false,(⟨#[]⟩:ByteArray),(⟨#[]⟩:ByteArray),()),()),1,())) (
 bd (dG.f lf a1 a2) fun r1 =>
 br (r1.1 != 0) (
 some (((false,(⟨#[]⟩:ByteArray),(⟨#[]⟩:ByteArray),()),(false,(⟨#[]⟩:ByteArray),(⟨#[]⟩:ByteArray),()),()),((false,(⟨#[]⟩:ByteArray),(⟨#[]⟩:ByteArray),()),(false,(⟨#[]⟩:ByteArray),(⟨#[]⟩:ByteArray),()),()),r1.1,())) (
 bd (gq.f lf a0 a1 a2) fun r2 =>
 some (r2.1,r2.2.1,0,())))) (
 bd (dG.f lf a1 a2) fun r3 =>
 br (r3.1 != 0) (
 some (((false,(⟨#[]⟩:ByteArray),(⟨#[]⟩:ByteArray),()),(false,(⟨#[]⟩:ByteArray),(⟨#[]⟩:ByteArray),()),()),((false,(⟨#[]⟩:ByteArray),(⟨#[]⟩:ByteArray),()),(false,(⟨#[]⟩:ByteArray),(⟨#[]⟩:ByteArray),()),()),r3.1,())) (
 bd (gq.f lf a0 a1 a2) fun r4 =>
 some (r4.1,r4.2.1,0,())))) (
 bd (dG.f lf a1 a2) fun r5 =>
 br (r5.1 != 0) (
 some (((false,(⟨#[]⟩:ByteArray),(⟨#[]⟩:ByteArray),()),(false,(⟨#[]⟩:ByteArray),(⟨#[]⟩:ByteArray),()),()),((false,(⟨#[]⟩:ByteArray),(⟨#[]⟩:ByteArray),()),(false,(⟨#[]⟩:ByteArray),(⟨#[]⟩:ByteArray),()),()),r5.1,())) (
 bd (gq.f lf a0 a1 a2) fun r6 =>
 some (r6.1,r6.2.1,0,())))) (
 bd (dG.f lf a1 a2) fun r7 =>
 br (r7.1 != 0) (
 some (((false,(⟨#[]⟩:ByteArray),(⟨#[]⟩:ByteArray),()),(false,(⟨#[]⟩:ByteArray),(⟨#[]⟩:ByteArray),()),()),((false,(⟨#[]⟩:ByteArray),(⟨#[]⟩:ByteArray),()),(false,(⟨#[]⟩:ByteArray),(⟨#[]⟩:ByteArray),()),()),r7.1,())) (
 bd (gq.f lf a0 a1 a2) fun r8 =>
 some (r8.1,r8.2.1,0,())))
def E(lf:Nat):Entry:=⟨[(.int .i64),yV,yV],[yV,yV,(.int .i64)],fun x=>f lf x.1 x.2.1 x.2.2.1⟩
theorem ok(lf:Nat):Ok 26 (E lf):=okT (an:=(annsL [])) (lf:=lf) (tC (dG.ok lf) (tC (gq.ok lf) tN)) aoN fun x=>by kernel_rfl
end gX
end
end Go.Q
