import Derived.Test.YtgbokahnpmmfoaaGreatDoorProg
import Derived.KernelRfl
import Derived.Test.YtgbokahnpmmfoaaGreatDoorSZE3
import Derived.Test.YtgbokahnpmmfoaaGreatDoorSZG1
import Derived.Test.YtgbokahnpmmfoaaGreatDoorSZG3
import Derived.Test.YtgbokahnpmmfoaaGreatDoorSZG5
set_option linter.unusedVariables false
set_option linter.unusedSimpArgs false
set_option linter.unusedSectionVars false
set_option maxRecDepth 100000
namespace Go.Q
open Go Go.RowKit
open Go.Rx (br bd sIdx sCat sCut iQuo iRem)
noncomputable section
namespace kU
def f(lf:Nat)(a0:ByteArray):Option (TV×Unit) :=
 some (((false,a0,a0,()),(false,(⟨#[48]⟩:ByteArray),a0,()),()),())
def E(lf:Nat):Entry:=⟨[.str],[yV],fun x=>f lf x.1⟩
theorem ok(lf:Nat):Ok 180 (E lf):=okT (an:=(annsL [])) (lf:=lf) tN aoN fun x=>by kernel_rfl
end kU
namespace jJ
def f(lf:Nat)  : Option (TV×Unit) :=
 some (((true,(⟨#[]⟩:ByteArray),(⟨#[]⟩:ByteArray),()),(true,(⟨#[]⟩:ByteArray),(⟨#[]⟩:ByteArray),()),()),())
def E(lf:Nat):Entry:=⟨[],[yV],fun x=>f lf⟩
theorem ok(lf:Nat):Ok 265 (E lf):=okT (an:=(annsL [])) (lf:=lf) tN aoN fun x=>by kernel_rfl
end jJ
namespace bF
def f(lf:Nat)(a0:ByteArray):Option (ByteArray×Unit) :=
 bd (strings_TrimPrefix.f lf a0 (⟨#[45]⟩:ByteArray)) fun r1 =>
 br (decide (((r1.1.size:Nat):Int) > 100)) (
 some ((⟨#[]⟩:ByteArray),())) (
 some (a0,()))
def E(lf:Nat):Entry:=⟨[.str],[.str],fun x=>f lf x.1⟩
theorem ok(lf:Nat):Ok 178 (E lf):=okT (an:=(annsL [])) (lf:=lf) (tC (strings_TrimPrefix.ok lf) tN) aoN fun x=>by kernel_rfl
end bF
namespace ja
def f(lf:Nat)(a0:TI)(a1:TI):Option (TV×Unit) :=
 br a0.1 (
 bd (jJ.f lf) fun r1 =>
 some (r1.1,())) (
 br a1.1 (
 bd (jJ.f lf) fun r2 =>
 some (r2.1,())) (
 br (a1.2.1.toList==(⟨#[48]⟩:ByteArray).toList) (
 bd (jQ.f lf a0 a1.2.2.1) fun r3 =>
 br (!r3.1) (
 bd (jJ.f lf) fun r4 =>
 some (r4.1,())) (
 bd (kU.f lf a1.2.2.1) fun r5 =>
 some (r5.1,()))) (
 br (!(a0.2.1.toList==(⟨#[]⟩:ByteArray).toList)) (
 bd (kN.f lf a1 a0.2.1) fun r6 =>
 br (!(a0.2.2.1.toList==(⟨#[]⟩:ByteArray).toList)) (
 bd (iJ.f lf a1 a0.2.2.1) fun r7 =>
 br (!(r6.1.toList==(⟨#[]⟩:ByteArray).toList)) (
 br (!(r7.1.toList==(⟨#[]⟩:ByteArray).toList)) (
 bd (eY.f lf r6.1 r7.1) fun r8 =>
 br (decide (r8.1 > 0)) (
 bd (jJ.f lf) fun r9 =>
 some (r9.1,())) (
 br (r8.1==0) (
 bd (kU.f lf r6.1) fun r10 =>
 some (r10.1,())) (
 bd (bF.f lf r6.1) fun r11 =>
 bd (bF.f lf r7.1) fun r12 =>
 some (((false,r11.1,r12.1,()),a1,()),())))) (
 bd (bF.f lf r6.1) fun r13 =>
 bd (bF.f lf r7.1) fun r14 =>
 some (((false,r13.1,r14.1,()),a1,()),()))) (
 bd (bF.f lf r6.1) fun r15 =>
 bd (bF.f lf r7.1) fun r16 =>
 some (((false,r15.1,r16.1,()),a1,()),()))) (
 br (!(r6.1.toList==(⟨#[]⟩:ByteArray).toList)) (
 br (!(a0.2.2.1.toList==(⟨#[]⟩:ByteArray).toList)) (
 bd (eY.f lf r6.1 a0.2.2.1) fun r17 =>
 br (decide (r17.1 > 0)) (
 bd (jJ.f lf) fun r18 =>
 some (r18.1,())) (
 br (r17.1==0) (
 bd (kU.f lf r6.1) fun r19 =>
 some (r19.1,())) (
 bd (bF.f lf r6.1) fun r20 =>
 bd (bF.f lf a0.2.2.1) fun r21 =>
 some (((false,r20.1,r21.1,()),a1,()),())))) (
 bd (bF.f lf r6.1) fun r22 =>
 bd (bF.f lf a0.2.2.1) fun r23 =>
 some (((false,r22.1,r23.1,()),a1,()),()))) (
 bd (bF.f lf r6.1) fun r24 =>
 bd (bF.f lf a0.2.2.1) fun r25 =>
 some (((false,r24.1,r25.1,()),a1,()),())))) (
 br (!(a0.2.2.1.toList==(⟨#[]⟩:ByteArray).toList)) (
 bd (iJ.f lf a1 a0.2.2.1) fun r26 =>
 br (!(a0.2.1.toList==(⟨#[]⟩:ByteArray).toList)) (
 br (!(r26.1.toList==(⟨#[]⟩:ByteArray).toList)) (
 bd (eY.f lf a0.2.1 r26.1) fun r27 =>
 br (decide (r27.1 > 0)) (
 bd (jJ.f lf) fun r28 =>
 some (r28.1,())) (
 br (r27.1==0) (
 bd (kU.f lf a0.2.1) fun r29 =>
 some (r29.1,())) (
 bd (bF.f lf a0.2.1) fun r30 =>
 bd (bF.f lf r26.1) fun r31 =>
 some (((false,r30.1,r31.1,()),a1,()),())))) (
 bd (bF.f lf a0.2.1) fun r32 =>
 bd (bF.f lf r26.1) fun r33 =>
 some (((false,r32.1,r33.1,()),a1,()),()))) (
 bd (bF.f lf a0.2.1) fun r34 =>
 bd (bF.f lf r26.1) fun r35 =>
 some (((false,r34.1,r35.1,()),a1,()),()))) (
 br (!(a0.2.1.toList==(⟨#[]⟩:ByteArray).toList)) (
 br (!(a0.2.2.1.toList==(⟨#[]⟩:ByteArray).toList)) (
 bd (eY.f lf a0.2.1 a0.2.2.1) fun r36 =>
 br (decide (r36.1 > 0)) (
 bd (jJ.f lf) fun r37 =>
 some (r37.1,())) (
 br (r36.1==0) (
 bd (kU.f lf a0.2.1) fun r38 =>
 some (r38.1,())) (
 bd (bF.f lf a0.2.1) fun r39 =>
 bd (bF.f lf a0.2.2.1) fun r40 =>
 some (((false,r39.1,r40.1,()),a1,()),())))) (
 bd (bF.f lf a0.2.1) fun r41 =>
 bd (bF.f lf a0.2.2.1) fun r42 =>
 some (((false,r41.1,r42.1,()),a1,()),()))) (
 bd (bF.f lf a0.2.1) fun r43 =>
 bd (bF.f lf a0.2.2.1) fun r44 =>
 some (((false,r43.1,r44.1,()),a1,()),())))))))
def E(lf:Nat):Entry:=⟨[yI,yI],[yV],fun x=>f lf x.1 x.2.1⟩
theorem ok(lf:Nat):Ok 155 (E lf):=okT (an:=(annsL [])) (lf:=lf) (tC (jQ.ok lf) (tC (bF.ok lf) (tC (kU.ok lf) (tC (jJ.ok lf) (tC (kN.ok lf) (tC (iJ.ok lf) (tC (eY.ok lf) tN))))))) aoN fun x=>by kernel_rfl
end ja
namespace oW
def f(lf:Nat)(a0:TI)(a1:TI):Option (Int×Unit) :=
 bd (dh.f lf a0) fun r1 =>
 br (r1.1 != 0) (
 some (r1.1,())) (
 bd (bT.f lf a1) fun r2 =>
 some (r2.1,()))
def E(lf:Nat):Entry:=⟨[yI,yI],[(.int .i64)],fun x=>f lf x.1 x.2.1⟩
theorem ok(lf:Nat):Ok 166 (E lf):=okT (an:=(annsL [])) (lf:=lf) (tC (dh.ok lf) (tC (bT.ok lf) tN)) aoN fun x=>by kernel_rfl
end oW
namespace dD
def f(lf:Nat)(a0:TV):Option (Int×Unit) :=
 bd (oW.f lf a0.1 a0.2.1) fun r1 =>
 br (r1.1 != 0) (
 some (r1.1,())) (
 bd (ja.f lf a0.1 a0.2.1) fun r2 =>
 bd (some (!(((r2.1.1.1==a0.1.1)&&((r2.1.1.2.1==a0.1.2.1)&&((r2.1.1.2.2.1==a0.1.2.2.1)&&true)))&&(((r2.1.2.1.1==a0.2.1.1)&&((r2.1.2.1.2.1==a0.2.1.2.1)&&((r2.1.2.1.2.2.1==a0.2.1.2.2.1)&&true)))&&true)))) fun r3 =>
 br r3 (
 some (3,())) (
 some (0,())))
def E(lf:Nat):Entry:=⟨[yV],[(.int .i64)],fun x=>f lf x.1⟩
theorem ok(lf:Nat):Ok 118 (E lf):=okT (an:=(annsL [])) (lf:=lf) (tC (ja.ok lf) (tC (oW.ok lf) tN)) aoN fun x=>by kernel_rfl
end dD
namespace jI
def f(lf:Nat)(a0:TV)(a1:TV):Option (Int×Unit) :=
 bd (dD.f lf a0) fun r1 =>
 br (r1.1 != 0) (
 some (r1.1,())) (
 bd (dD.f lf a1) fun r2 =>
 some (r2.1,()))
def E(lf:Nat):Entry:=⟨[yV,yV],[(.int .i64)],fun x=>f lf x.1 x.2.1⟩
theorem ok(lf:Nat):Ok 149 (E lf):=okT (an:=(annsL [])) (lf:=lf) (tC (dD.ok lf) tN) aoN fun x=>by kernel_rfl
end jI
namespace lC
def f(lf:Nat)(a0:TV)(a1:TV):Option (TV×Int×Unit) :=
 bd (jI.f lf a0 a1) fun r1 =>
 br (r1.1 != 0) (
 some (((false,(⟨#[]⟩:ByteArray),(⟨#[]⟩:ByteArray),()),(false,(⟨#[]⟩:ByteArray),(⟨#[]⟩:ByteArray),()),()),r1.1,())) (
 bd (mV.f lf a0.1 a1.1) fun r2 =>
 br (r2.2.1 != 0) (
 some (((false,(⟨#[]⟩:ByteArray),(⟨#[]⟩:ByteArray),()),(false,(⟨#[]⟩:ByteArray),(⟨#[]⟩:ByteArray),()),()),r2.2.1,())) (
 bd (lF.f lf a0.2.1 a1.2.1) fun r3 =>
 br (r3.2.1 != 0) (
 some (((false,(⟨#[]⟩:ByteArray),(⟨#[]⟩:ByteArray),()),(false,(⟨#[]⟩:ByteArray),(⟨#[]⟩:ByteArray),()),()),r3.2.1,())) (
 bd (ja.f lf r2.1 r3.1) fun r4 =>
 some (r4.1,0,()))))
def E(lf:Nat):Entry:=⟨[yV,yV],[yV,(.int .i64)],fun x=>f lf x.1 x.2.1⟩
theorem ok(lf:Nat):Ok 70 (E lf):=okT (an:=(annsL [])) (lf:=lf) (tC (mV.ok lf) (tC (lF.ok lf) (tC (jI.ok lf) (tC (ja.ok lf) tN)))) aoN fun x=>by kernel_rfl
end lC
namespace uT
def f(lf:Nat)  : Option (TV×Unit) :=
 some (((false,(⟨#[]⟩:ByteArray),(⟨#[]⟩:ByteArray),()),(false,(⟨#[49]⟩:ByteArray),(⟨#[48]⟩:ByteArray),()),()),())
def E(lf:Nat):Entry:=⟨[],[yV],fun x=>f lf⟩
theorem ok(lf:Nat):Ok 179 (E lf):=okT (an:=(annsL [])) (lf:=lf) tN aoN fun x=>by kernel_rfl
end uT
namespace um
def f(lf:Nat)(a0:ByteArray):Option (TV×Int×Unit) :=
 bd (bg.f lf a0) fun r1 =>
 br (r1.1 != 0) (
 some (((false,(⟨#[]⟩:ByteArray),(⟨#[]⟩:ByteArray),()),(false,(⟨#[]⟩:ByteArray),(⟨#[]⟩:ByteArray),()),()),r1.1,())) (
 bd (bF.f lf a0) fun r2 =>
 br (r2.1.toList==(⟨#[]⟩:ByteArray).toList) (
 bd (uT.f lf) fun r3 =>
 some (r3.1,0,())) (
 bd (kU.f lf a0) fun r4 =>
 some (r4.1,0,())))
def E(lf:Nat):Entry:=⟨[.str],[yV,(.int .i64)],fun x=>f lf x.1⟩
theorem ok(lf:Nat):Ok 129 (E lf):=okT (an:=(annsL [])) (lf:=lf) (tC (bg.ok lf) (tC (bF.ok lf) (tC (uT.ok lf) (tC (kU.ok lf) tN)))) aoN fun x=>by kernel_rfl
end um
namespace dF
def f(lf:Nat)(a0:TV)(a1:ByteArray):Option (Bool×Int×Unit) :=
 bd (dD.f lf a0) fun r1 =>
 br (r1.1 != 0) (
 some (false,r1.1,())) (
 bd (jQ.f lf a0.1 a1) fun r2 =>
 br (r2.2.1 != 0) (
 some (false,r2.2.1,())) (
 bd (kM.f lf a0.2.1 a1) fun r3 =>
 br r2.1 (
 br r3.1 (
 some ((r3.2.1==0),r3.2.1,())) (
 some (false,r3.2.1,()))) (
 some (false,r3.2.1,()))))
def E(lf:Nat):Entry:=⟨[yV,.str],[.bool,(.int .i64)],fun x=>f lf x.1 x.2.1⟩
theorem ok(lf:Nat):Ok 86 (E lf):=okT (an:=(annsL [])) (lf:=lf) (tC (dD.ok lf) (tC (jQ.ok lf) (tC (kM.ok lf) tN))) aoN fun x=>by kernel_rfl
end dF
namespace iq
def f(lf:Nat)(a0:TV)(a1:TV):Option (TV×Int×Unit) :=
 bd (jI.f lf a0 a1) fun r1 =>
 br (r1.1 != 0) (
 some (((false,(⟨#[]⟩:ByteArray),(⟨#[]⟩:ByteArray),()),(false,(⟨#[]⟩:ByteArray),(⟨#[]⟩:ByteArray),()),()),r1.1,())) (
 bd (mQ.f lf a0.1 a1.1) fun r2 =>
 br (r2.2.1 != 0) (
 some (((false,(⟨#[]⟩:ByteArray),(⟨#[]⟩:ByteArray),()),(false,(⟨#[]⟩:ByteArray),(⟨#[]⟩:ByteArray),()),()),r2.2.1,())) (
 bd (lD.f lf a0.2.1 a1.2.1) fun r3 =>
 br (r3.2.1 != 0) (
 some (((false,(⟨#[]⟩:ByteArray),(⟨#[]⟩:ByteArray),()),(false,(⟨#[]⟩:ByteArray),(⟨#[]⟩:ByteArray),()),()),r3.2.1,())) (
 bd (ja.f lf r2.1 r3.1) fun r4 =>
 some (r4.1,0,()))))
def E(lf:Nat):Entry:=⟨[yV,yV],[yV,(.int .i64)],fun x=>f lf x.1 x.2.1⟩
theorem ok(lf:Nat):Ok 64 (E lf):=okT (an:=(annsL [])) (lf:=lf) (tC (mQ.ok lf) (tC (lD.ok lf) (tC (jI.ok lf) (tC (ja.ok lf) tN)))) aoN fun x=>by kernel_rfl
end iq
namespace nZ
def f(lf:Nat)(a0:TV):Option (ByteArray×Int×Unit) :=
 bd (dD.f lf a0) fun r1 =>
 br (r1.1 != 0) (
 some ((⟨#[]⟩:ByteArray),r1.1,())) (
 bd (oZ.f lf a0.1) fun r2 =>
 br (!a0.2.1.1) (
 br (!(a0.2.1.2.1.toList==(⟨#[48]⟩:ByteArray).toList)) (
 br (!(a0.2.1.2.1.toList==(⟨#[49]⟩:ByteArray).toList)) (
 bd (sCat (⟨#[32,109,111,100,32]⟩:ByteArray) a0.2.1.2.1) fun r3 =>
 bd (sCat r3 (⟨#[32,61,32]⟩:ByteArray)) fun r4 =>
 bd (sCat r4 a0.2.1.2.2.1) fun r5 =>
 bd (sCat r2.1 r5) fun r6 =>
 some (r6,r2.2.1,())) (
 some (r2.1,r2.2.1,()))) (
 some (r2.1,r2.2.1,()))) (
 some (r2.1,r2.2.1,())))
def E(lf:Nat):Entry:=⟨[yV],[.str,(.int .i64)],fun x=>f lf x.1⟩
theorem ok(lf:Nat):Ok 90 (E lf):=okT (an:=(annsL [])) (lf:=lf) (tC (dD.ok lf) (tC (oZ.ok lf) tN)) aoN fun x=>by kernel_rfl
end nZ
end
end Go.Q
namespace Go.Q
open Go Go.RowKit
open Go.Rx (br bd sIdx sCat sCut iQuo iRem)
noncomputable section
namespace fK
def f(lf:Nat)(a0:TV)(a1:TV):Option (Bool×Unit) :=
 bd (jZ.f lf a0.1 a1.1) fun r1 =>
 br r1.1 (
 bd (jr.f lf a0.2.1) fun r2 =>
 br r2.1 (
 bd (jr.f lf a1.2.1) fun r3 =>
 some (r3.1,())) (
 some (false,()))) (
 some (false,()))
def E(lf:Nat):Entry:=⟨[yV,yV],[.bool],fun x=>f lf x.1 x.2.1⟩
theorem ok(lf:Nat):Ok 11 (E lf):=okT (an:=(annsL [])) (lf:=lf) (tC (jZ.ok lf) (tC (jr.ok lf) tN)) aoN fun x=>by kernel_rfl
end fK
namespace dG
def f(lf:Nat)  : Option (TV×Unit) :=
 bd (ig.f lf) fun r1 =>
 bd (kK.f lf) fun r2 =>
 some ((r1.1,r2.1,()),())
def E(lf:Nat):Entry:=⟨[],[yV],fun x=>f lf⟩
theorem ok(lf:Nat):Ok 21 (E lf):=okT (an:=(annsL [])) (lf:=lf) (tC (ig.ok lf) (tC (kK.ok lf) tN)) aoN fun x=>by kernel_rfl
end dG
namespace gK
def f(lf:Nat)  : Option (TV×Unit) :=
 bd (eG.f lf) fun r1 =>
 some (((false,(⟨#[]⟩:ByteArray),(⟨#[]⟩:ByteArray),()),r1.1,()),())
def E(lf:Nat):Entry:=⟨[],[yV],fun x=>f lf⟩
theorem ok(lf:Nat):Ok 59 (E lf):=okT (an:=(annsL [])) (lf:=lf) (tC (eG.ok lf) tN) aoN fun x=>by kernel_rfl
end gK
namespace dm
def f(lf:Nat)(a0:ByteArray):Option (TV×Unit) :=
 bd (jh.f lf a0) fun r1 =>
 br (!(r1.1.2.1.toList==(⟨#[48]⟩:ByteArray).toList)) (
 bd (gK.f lf) fun r2 =>
 some (r2.1,())) (
 some (((false,a0,a0,()),r1.1,()),()))
def E(lf:Nat):Entry:=⟨[.str],[yV],fun x=>f lf x.1⟩
theorem ok(lf:Nat):Ok 28 (E lf):=okT (an:=(annsL [])) (lf:=lf) (tC (gK.ok lf) (tC (jh.ok lf) tN)) aoN fun x=>by kernel_rfl
end dm
namespace dw
def f(lf:Nat)(a0:TI)(a1:TI):Option (TV×Unit) :=
 br a0.1 (
 bd (dG.f lf) fun r1 =>
 some (r1.1,())) (
 br a1.1 (
 bd (dG.f lf) fun r2 =>
 some (r2.1,())) (
 br (a1.2.1.toList==(⟨#[48]⟩:ByteArray).toList) (
 bd (iU.f lf a0 a1.2.2.1) fun r3 =>
 br (!r3.1) (
 bd (dG.f lf) fun r4 =>
 some (r4.1,())) (
 some (((false,a1.2.2.1,a1.2.2.1,()),a1,()),()))) (
 br (!(a0.2.1.toList==(⟨#[]⟩:ByteArray).toList)) (
 bd (gq.f lf a1 a0.2.1) fun r5 =>
 br (!(a0.2.2.1.toList==(⟨#[]⟩:ByteArray).toList)) (
 bd (iM.f lf a1 a0.2.2.1) fun r6 =>
 br (!(r5.1.toList==(⟨#[]⟩:ByteArray).toList)) (
 br (!(r6.1.toList==(⟨#[]⟩:ByteArray).toList)) (
 bd (aC.f lf r6.1 r5.1) fun r7 =>
 br r7.1 (
 bd (dG.f lf) fun r8 =>
 some (r8.1,())) (
 br (r5.1.toList==r6.1.toList) (
 bd (dm.f lf r5.1) fun r9 =>
 some (r9.1,())) (
 bd (aO.f lf r5.1 r6.1) fun r10 =>
 some ((r10.1,a1,()),())))) (
 bd (aO.f lf r5.1 r6.1) fun r11 =>
 some ((r11.1,a1,()),()))) (
 bd (aO.f lf r5.1 r6.1) fun r12 =>
 some ((r12.1,a1,()),()))) (
 br (!(r5.1.toList==(⟨#[]⟩:ByteArray).toList)) (
 br (!(a0.2.2.1.toList==(⟨#[]⟩:ByteArray).toList)) (
 bd (aC.f lf a0.2.2.1 r5.1) fun r13 =>
 br r13.1 (
 bd (dG.f lf) fun r14 =>
 some (r14.1,())) (
 br (r5.1.toList==a0.2.2.1.toList) (
 bd (dm.f lf r5.1) fun r15 =>
 some (r15.1,())) (
 bd (aO.f lf r5.1 a0.2.2.1) fun r16 =>
 some ((r16.1,a1,()),())))) (
 bd (aO.f lf r5.1 a0.2.2.1) fun r17 =>
 some ((r17.1,a1,()),()))) (
 bd (aO.f lf r5.1 a0.2.2.1) fun r18 =>
 some ((r18.1,a1,()),())))) (
 br (!(a0.2.2.1.toList==(⟨#[]⟩:ByteArray).toList)) (
 bd (iM.f lf a1 a0.2.2.1) fun r19 =>
 br (!(a0.2.1.toList==(⟨#[]⟩:ByteArray).toList)) (
 br (!(r19.1.toList==(⟨#[]⟩:ByteArray).toList)) (
 bd (aC.f lf r19.1 a0.2.1) fun r20 =>
 br r20.1 (
 bd (dG.f lf) fun r21 =>
 some (r21.1,())) (
 br (a0.2.1.toList==r19.1.toList) (
 bd (dm.f lf a0.2.1) fun r22 =>
 some (r22.1,())) (
 bd (aO.f lf a0.2.1 r19.1) fun r23 =>
 some ((r23.1,a1,()),())))) (
 bd (aO.f lf a0.2.1 r19.1) fun r24 =>
 some ((r24.1,a1,()),()))) (
 bd (aO.f lf a0.2.1 r19.1) fun r25 =>
 some ((r25.1,a1,()),()))) (
 br (!(a0.2.1.toList==(⟨#[]⟩:ByteArray).toList)) (
 br (!(a0.2.2.1.toList==(⟨#[]⟩:ByteArray).toList)) (
 bd (aC.f lf a0.2.2.1 a0.2.1) fun r26 =>
 br r26.1 (
 bd (dG.f lf) fun r27 =>
 some (r27.1,())) (
 br (a0.2.1.toList==a0.2.2.1.toList) (
 bd (dm.f lf a0.2.1) fun r28 =>
 some (r28.1,())) (
 bd (aO.f lf a0.2.1 a0.2.2.1) fun r29 =>
 some ((r29.1,a1,()),())))) (
 bd (aO.f lf a0.2.1 a0.2.2.1) fun r30 =>
 some ((r30.1,a1,()),()))) (
 bd (aO.f lf a0.2.1 a0.2.2.1) fun r31 =>
 some ((r31.1,a1,()),())))))))
def E(lf:Nat):Entry:=⟨[yI,yI],[yV],fun x=>f lf x.1 x.2.1⟩
theorem ok(lf:Nat):Ok 58 (E lf):=okT (an:=(annsL [])) (lf:=lf) (tC (dG.ok lf) (tC (dm.ok lf) (tC (iU.ok lf) (tC (aO.ok lf) (tC (gq.ok lf) (tC (iM.ok lf) (tC (aC.ok lf) tN))))))) aoN fun x=>by kernel_rfl
end dw
namespace aU
def f(lf:Nat)(a0:TV):Option (Int×Unit) :=
 bd (iL.f lf a0.1) fun r1 =>
 br (r1.1 != 0) (
 some (r1.1,())) (
 bd (iO.f lf a0.2.1) fun r2 =>
 br (r2.1 != 0) (
 some (r2.1,())) (
 bd (dw.f lf a0.1 a0.2.1) fun r3 =>
 bd (some (!(((r3.1.1.1==a0.1.1)&&((r3.1.1.2.1==a0.1.2.1)&&((r3.1.1.2.2.1==a0.1.2.2.1)&&true)))&&(((r3.1.2.1.1==a0.2.1.1)&&((r3.1.2.1.2.1==a0.2.1.2.1)&&((r3.1.2.1.2.2.1==a0.2.1.2.2.1)&&true)))&&true)))) fun r4 =>
 br r4 (
 some (3,())) (
 some (0,()))))
def E(lf:Nat):Entry:=⟨[yV],[(.int .i64)],fun x=>f lf x.1⟩
theorem ok(lf:Nat):Ok 42 (E lf):=okT (an:=(annsL [])) (lf:=lf) (tC (dw.ok lf) (tC (iL.ok lf) (tC (iO.ok lf) tN))) aoN fun x=>by kernel_rfl
end aU
namespace gm
def f(lf:Nat)(a0:TV)(a1:ByteArray):Option (Bool×Unit) :=
 bd (iU.f lf a0.1 a1) fun r1 =>
 br r1.1 (
 bd (kT.f lf a0.2.1 a1) fun r2 =>
 some (r2.1,())) (
 some (false,()))
def E(lf:Nat):Entry:=⟨[yV,.str],[.bool],fun x=>f lf x.1 x.2.1⟩
theorem ok(lf:Nat):Ok 41 (E lf):=okT (an:=(annsL [])) (lf:=lf) (tC (iU.ok lf) (tC (kT.ok lf) tN)) aoN fun x=>by kernel_rfl
end gm
namespace iD
def f(lf:Nat)(a0:TV)(a1:TV):Option (Int×Unit) :=
 bd (aU.f lf a0) fun r1 =>
 br (r1.1 != 0) (
 some (r1.1,())) (
 bd (aU.f lf a1) fun r2 =>
 some (r2.1,()))
def E(lf:Nat):Entry:=⟨[yV,yV],[(.int .i64)],fun x=>f lf x.1 x.2.1⟩
theorem ok(lf:Nat):Ok 37 (E lf):=okT (an:=(annsL [])) (lf:=lf) (tC (aU.ok lf) tN) aoN fun x=>by kernel_rfl
end iD
end
end Go.Q
namespace Go.Q
open Go.IntKind (i64)
open Go Go.RowKit
open Go.Rx (br bd sIdx sCat sCut iQuo iRem)
noncomputable section
namespace dQ
def anns:FuncId→FA:=annsL [(10,⟨annOf [(0,⟨kx 25 [0,3],[],[]⟩,⟨kx 25 [2],[],[]⟩)],none,[]⟩)]
def r0{ρ:Type}(lf:Nat)(v0:List (Int×(Int×(TV×Unit))))(v1:Int)(K:Int→Option ρ)(E0:Option ρ)(E1:Option ρ):Option ρ :=
 br (decide (v1 < ((v0.length:Nat):Int))) (
 bd (idxL v0 v1) fun y1 =>
 bd (idxL v0 v1) fun y2 =>
 bd (fK.f lf y1.2.2.1 y2.2.2.1) fun r3 =>
 br (!r3.1) (
 E0) (
 K (i64.wrap (v1+1)))) (
 E1)
def l0(lf:Nat)(v0:List (Int×(Int×(TV×Unit)))):Nat→Int→Option (Bool×(Unit)×(Unit)×Unit)
 | 0,_=>none
 | n+1,v1=>r0 lf v0 v1 (l0 lf v0 n) (some (true,(()),((()),()))) (some (false,(()),((()),())))
def sh0:ShS:=⟨[.s (.sl (.pair (.int .i64) (.pair (.int .i64) (.pair yV .unit)))),.a 2,.s (.int .i64),.a 21],[]⟩
def S0(p:(List (Int×(Int×(TV×Unit))))×Int×Unit):St:=sh0.b p
def xh0:ShS:=⟨[.a 2,.s .bool,.a 22],[]⟩
def xh1:ShS:=⟨[.a 25],[]⟩
def o0(v0:List (Int×(Int×(TV×Unit))))(y:Bool×(Unit)×(Unit)×Unit):Alt:=.two y.1 (.one .ret (xh0.b (false,()))) (.one (.exit 0) (xh1.b (())))
def tb(lf:Nat):List (FuncId×Entry):=[(11,fK.E lf)]
def ais(lf:Nat):List (Nat×(St→Option LTE)):=[(0,sumE sh0 fun(p:(List (Int×(Int×(TV×Unit))))×Int×Unit)=>⟨Bool×(Unit)×(Unit)×Unit,l0 lf p.1 (lf+40) p.2.1,o0 p.1⟩)]
def ls(lf:Nat):List (Nat×FuncId×Sums):=[(13,10,sumsL (ais lf))]
def it0{ρ:Type}(lf n:Nat)(st:St)(k:KE ρ):Option ρ:=itG anns (ls lf) (tb lf) lf 13 10 0 0 (sumsL (ais lf)) n st k
theorem t0{ρ:Type}(lf n:Nat)(v0:List (Int×(Int×(TV×Unit))))(v1:Int)(k:KE ρ):it0 lf (n+1) (S0 (v0,v1,())) k=r0 lf v0 v1 (fun x0=>it0 lf n (S0 (v0,x0,())) k) (k .ret (xh0.b (false,()))) (k (.exit 0) (xh1.b (()))):=by kernel_rfl
theorem u0{ρ:Type}(lf:Nat)(v0:List (Int×(Int×(TV×Unit))))(k:KE ρ):∀ (n:Nat) (v1:Int),it0 lf n (S0 (v0,v1,())) k=bd (l0 lf v0 n v1) fun y=>altK k (o0 v0 y)
 | 0,_=>by rw[l0,au];rfl
 | n+1,v1=>by
  rw[t0];simp only[l0,r0,u0 lf v0 k n,cO,cu,aF,au,br_t,br_f,o0,altK]
theorem sl(lf:Nat):SL anns (ls lf) (tb lf) lf (ls lf):=slC (laC (fun _=>by kernel_rfl) (fun _ (x:(List (Int×(Int×(TV×Unit))))×Int×Unit) k=>aX (u0 lf x.1 k (lf+40) x.2.1)) laN) slN
def f(lf:Nat)(a0:List (Int×(Int×(TV×Unit)))):Option (Bool×Unit) :=
 br (decide (((a0.length:Nat):Int) > 40)) (
 some (false,())) (
 bd (l0 lf a0 (lf+40) 0) fun z4 =>
 br z4.1 (
 some (false,())) (
 some (true,())))
def E(lf:Nat):Entry:=⟨[(.sl (.pair (.int .i64) (.pair (.int .i64) (.pair yV .unit))))],[.bool],fun x=>f lf x.1⟩
theorem ok(lf:Nat):Ok 10 (E lf):=okL (tC (fK.ok lf) tN) (aoC aoN) (sl lf) fun x=>by kernel_rfl
end dQ
namespace di
def f(lf:Nat)(a0:TV):Option (Bool×Unit) :=
 some (a0.1.1,())
def E(lf:Nat):Entry:=⟨[yV],[.bool],fun x=>f lf x.1⟩
theorem ok(lf:Nat):Ok 43 (E lf):=okT (an:=(annsL [])) (lf:=lf) tN aoN fun x=>by kernel_rfl
end di
namespace jv
def f(lf:Nat)(a0:Int×(Int×(TV×Unit)))(a1:Int)(a2:Int):Option (Int×Unit) :=
 br (a0.1 != a1) (
 some (20,())) (
 br (decide (a0.2.1≤a0.1)) (
 some (15,())) (
 br (decide (a0.2.1 > a2)) (
 some (15,())) (
 bd (aU.f lf a0.2.2.1) fun r1 =>
 br (r1.1 != 0) (
 some (r1.1,())) (
 bd (di.f lf a0.2.2.1) fun r2 =>
 br r2.1 (
 some (16,())) (
 some (0,()))))))
def E(lf:Nat):Entry:=⟨[(.pair (.int .i64) (.pair (.int .i64) (.pair yV .unit))),(.int .i64),(.int .i64)],[(.int .i64)],fun x=>f lf x.1 x.2.1 x.2.2.1⟩
theorem ok(lf:Nat):Ok 79 (E lf):=okT (an:=(annsL [])) (lf:=lf) (tC (aU.ok lf) (tC (di.ok lf) tN)) aoN fun x=>by kernel_rfl
end jv
namespace bC
def anns:FuncId→FA:=annsL [(27,⟨annOf [(0,⟨kx 57 [0,1,5,6],[],[]⟩,⟨kx 57 [1,4,5],[],[]⟩)],none,[]⟩)]
def r0{ρ:Type}(lf:Nat)(v0:List (Int×(Int×(TV×Unit))))(v1:Int)(v2 v3:Int)(K:Int→Int→Option ρ)(E0:Int→Int→Option ρ)(E1:Int→Option ρ):Option ρ :=
 br (decide (v3 < ((v0.length:Nat):Int))) (
 bd (idxL v0 v3) fun y1 =>
 bd (jv.f lf y1 v2 v1) fun r2 =>
 br (r2.1 != 0) (
 E0 r2.1 v2) (
 br (decide (v3 > 0)) (
 bd (idxL v0 (i64.wrap (v3-1))) fun y3 =>
 bd (idxL v0 v3) fun y4 =>
 bd (some (((y3.2.2.1.1.1==y4.2.2.1.1.1)&&((y3.2.2.1.1.2.1==y4.2.2.1.1.2.1)&&((y3.2.2.1.1.2.2.1==y4.2.2.1.1.2.2.1)&&true)))&&(((y3.2.2.1.2.1.1==y4.2.2.1.2.1.1)&&((y3.2.2.1.2.1.2.1==y4.2.2.1.2.1.2.1)&&((y3.2.2.1.2.1.2.2.1==y4.2.2.1.2.1.2.2.1)&&true)))&&true))) fun r5 =>
 br r5 (
 E0 7 v2) (
 bd (idxL v0 v3) fun y6 =>
 K y6.2.1 (i64.wrap (v3+1)))) (
 bd (idxL v0 v3) fun y7 =>
 K y7.2.1 (i64.wrap (v3+1))))) (
 E1 v2)
def l0(lf:Nat)(v0:List (Int×(Int×(TV×Unit))))(v1:Int):Nat→Int→Int→Option (Bool×(Int×Int×Unit)×(Int×Unit)×Unit)
 | 0,_,_=>none
 | n+1,v2,v3=>r0 lf v0 v1 v2 v3 (l0 lf v0 v1 n) (fun w0 w1=>some (true,(w0,w1,()),((0,()),()))) (fun w0=>some (false,(0,0,()),((w0,()),())))
def sh0:ShS:=⟨[.s (.sl (.pair (.int .i64) (.pair (.int .i64) (.pair yV .unit)))),.s (.int .i64),.a 3,.s (.int .i64),.s (.int .i64),.a 50],[]⟩
def S0(p:(List (Int×(Int×(TV×Unit))))×Int×Int×Int×Unit):St:=sh0.b p
def xh0:ShS:=⟨[.a 1,.s (.int .i64),.a 2,.s (.int .i64),.s (.int .i64),.a 51],[]⟩
def xh1:ShS:=⟨[.a 1,.s (.int .i64),.a 3,.s (.int .i64),.a 51],[]⟩
def o0(v0:List (Int×(Int×(TV×Unit))))(v1:Int)(y:Bool×(Int×Int×Unit)×(Int×Unit)×Unit):Alt:=.two y.1 (.one .ret (xh0.b (v1,y.2.1.1,y.2.1.2.1,()))) (.one (.exit 0) (xh1.b (v1,y.2.2.1.1,())))
def tb(lf:Nat):List (FuncId×Entry):=[(79,jv.E lf)]
def aiu(lf:Nat):List (Nat×(St→Option LTE)):=[(0,sumE sh0 fun(p:(List (Int×(Int×(TV×Unit))))×Int×Int×Int×Unit)=>⟨Bool×(Int×Int×Unit)×(Int×Unit)×Unit,l0 lf p.1 p.2.1 (lf+40) p.2.2.1 p.2.2.2.1,o0 p.1 p.2.1⟩)]
def ls(lf:Nat):List (Nat×FuncId×Sums):=[(13,27,sumsL (aiu lf))]
def it0{ρ:Type}(lf n:Nat)(st:St)(k:KE ρ):Option ρ:=itG anns (ls lf) (tb lf) lf 13 27 0 0 (sumsL (aiu lf)) n st k
theorem t0{ρ:Type}(lf n:Nat)(v0:List (Int×(Int×(TV×Unit))))(v1 v2 v3:Int)(k:KE ρ):it0 lf (n+1) (S0 (v0,v1,v2,v3,())) k=r0 lf v0 v1 v2 v3 (fun x0 x1=>it0 lf n (S0 (v0,v1,x0,x1,())) k) (fun w0 w1=>k .ret (xh0.b (v1,w0,w1,()))) (fun w0=>k (.exit 0) (xh1.b (v1,w0,()))):=by kernel_rfl
theorem u0{ρ:Type}(lf:Nat)(v0:List (Int×(Int×(TV×Unit))))(v1:Int)(k:KE ρ):∀ (n:Nat) (v2 v3:Int),it0 lf n (S0 (v0,v1,v2,v3,())) k=bd (l0 lf v0 v1 n v2 v3) fun y=>altK k (o0 v0 v1 y)
 | 0,_,_=>by rw[l0,au];rfl
 | n+1,v2,v3=>by
  rw[t0];simp only[l0,r0,u0 lf v0 v1 k n,cO,cu,aF,au,br_t,br_f,o0,altK]
theorem sl(lf:Nat):SL anns (ls lf) (tb lf) lf (ls lf):=slC (laC (fun _=>by kernel_rfl) (fun _ (x:(List (Int×(Int×(TV×Unit))))×Int×Int×Int×Unit) k=>aX (u0 lf x.1 x.2.1 k (lf+40) x.2.2.1 x.2.2.2.1)) laN) slN
def f(lf:Nat)(a0:List (Int×(Int×(TV×Unit))))(a1:Int):Option (Int×Unit) :=
 br (decide (a1 < 1)) (
 some (2,())) (
 br (decide (a1 > 32)) (
 some (2,())) (
 br (((a0.length:Nat):Int)==0) (
 some (20,())) (
 bd (l0 lf a0 a1 (lf+40) 0 0) fun z8 =>
 br z8.1 (
 some (z8.2.1.1,())) (
 br (z8.2.2.1.1 != a1) (
 some (20,())) (
 some (0,()))))))
def E(lf:Nat):Entry:=⟨[(.sl (.pair (.int .i64) (.pair (.int .i64) (.pair yV .unit)))),(.int .i64)],[(.int .i64)],fun x=>f lf x.1 x.2.1⟩
theorem ok(lf:Nat):Ok 27 (E lf):=okL (tC (jv.ok lf) tN) (aoC aoN) (sl lf) fun x=>by kernel_rfl
end bC
end
end Go.Q
namespace Go.Q
open Go.IntKind (i64)
open Go Go.RowKit
open Go.Rx (br bd sIdx sCat sCut iQuo iRem)
noncomputable section
namespace dX
def f(lf:Nat)(a0:TV):Option (Bool×Unit) :=
 some (a0.1.1,())
def E(lf:Nat):Entry:=⟨[yV],[.bool],fun x=>f lf x.1⟩
theorem ok(lf:Nat):Ok 67 (E lf):=okT (an:=(annsL [])) (lf:=lf) tN aoN fun x=>by kernel_rfl
end dX
namespace iZ
def f(lf:Nat)(a0:TV):Option (Int×Unit) :=
 bd (dD.f lf a0) fun r1 =>
 br (r1.1 != 0) (
 some (r1.1,())) (
 bd (dX.f lf a0) fun r2 =>
 br r2.1 (
 some (16,())) (
 some (0,())))
def E(lf:Nat):Entry:=⟨[yV],[(.int .i64)],fun x=>f lf x.1⟩
theorem ok(lf:Nat):Ok 75 (E lf):=okT (an:=(annsL [])) (lf:=lf) (tC (dX.ok lf) (tC (dD.ok lf) tN)) aoN fun x=>by kernel_rfl
end iZ
namespace bQ
def anns:FuncId→FA:=annsL [(26,⟨annOf [(0,⟨kx 69 [0,1,5,20,21,22],[],[]⟩,⟨kx 69 [1,4,5],[],[]⟩)],none,[]⟩)]
def r0{ρ:Type}(lf:Nat)(v0:List (Int×(Int×(TV×Unit))))(v1:Int)(v3:List (Int×(Int×(TV×Unit))))(v4:Int)(v2 v5:Int)(K:Int→Int→Option ρ)(E0:Int→Int→Option ρ)(E1:Int→Option ρ):Option ρ :=
 br (decide (v5 < v4)) (
 bd (idxL v3 v5) fun y1 =>
 br (y1.1 != v2) (
 E0 20 v2) (
 br (decide (y1.1≥y1.2.1)) (
 E0 15 v2) (
 br (decide (y1.2.1 > v1)) (
 E0 15 v2) (
 bd (iZ.f lf y1.2.2.1) fun r2 =>
 br (r2.1 != 0) (
 E0 r2.1 v2) (
 br (decide (v5 > 0)) (
 bd (idxL v0 (i64.wrap (v5-1))) fun y3 =>
 bd (some (((y1.2.2.1.1.1==y3.2.2.1.1.1)&&((y1.2.2.1.1.2.1==y3.2.2.1.1.2.1)&&((y1.2.2.1.1.2.2.1==y3.2.2.1.1.2.2.1)&&true)))&&(((y1.2.2.1.2.1.1==y3.2.2.1.2.1.1)&&((y1.2.2.1.2.1.2.1==y3.2.2.1.2.1.2.1)&&((y1.2.2.1.2.1.2.2.1==y3.2.2.1.2.1.2.2.1)&&true)))&&true))) fun r4 =>
 br r4 (
 E0 7 v2) (
 K y1.2.1 (i64.wrap (v5+1)))) (
 K y1.2.1 (i64.wrap (v5+1)))))))) (
 E1 v2)
def l0(lf:Nat)(v0:List (Int×(Int×(TV×Unit))))(v1:Int)(v3:List (Int×(Int×(TV×Unit))))(v4:Int):Nat→Int→Int→Option (Bool×(Int×Int×Unit)×(Int×Unit)×Unit)
 | 0,_,_=>none
 | n+1,v2,v5=>r0 lf v0 v1 v3 v4 v2 v5 (l0 lf v0 v1 v3 v4 n) (fun w0 w1=>some (true,(w0,w1,()),((0,()),()))) (fun w0=>some (false,(0,0,()),((w0,()),())))
def sh0:ShS:=⟨[.s (.sl (.pair (.int .i64) (.pair (.int .i64) (.pair yV .unit)))),.s (.int .i64),.a 3,.s (.int .i64),.a 14,.s (.sl (.pair (.int .i64) (.pair (.int .i64) (.pair yV .unit)))),.s (.int .i64),.s (.int .i64),.a 46],[]⟩
def S0(p:(List (Int×(Int×(TV×Unit))))×Int×Int×(List (Int×(Int×(TV×Unit))))×Int×Int×Unit):St:=sh0.b p
def xh0:ShS:=⟨[.a 1,.s (.int .i64),.a 2,.s (.int .i64),.s (.int .i64),.a 63],[]⟩
def xh1:ShS:=⟨[.a 1,.s (.int .i64),.a 3,.s (.int .i64),.a 63],[]⟩
def o0(v0:List (Int×(Int×(TV×Unit))))(v1:Int)(v3:List (Int×(Int×(TV×Unit))))(v4:Int)(y:Bool×(Int×Int×Unit)×(Int×Unit)×Unit):Alt:=.two y.1 (.one .ret (xh0.b (v1,y.2.1.1,y.2.1.2.1,()))) (.one (.exit 1) (xh1.b (v1,y.2.2.1.1,())))
def tb(lf:Nat):List (FuncId×Entry):=[(75,iZ.E lf)]
def ait(lf:Nat):List (Nat×(St→Option LTE)):=[(0,sumE sh0 fun(p:(List (Int×(Int×(TV×Unit))))×Int×Int×(List (Int×(Int×(TV×Unit))))×Int×Int×Unit)=>⟨Bool×(Int×Int×Unit)×(Int×Unit)×Unit,l0 lf p.1 p.2.1 p.2.2.2.1 p.2.2.2.2.1 (lf+40) p.2.2.1 p.2.2.2.2.2.1,o0 p.1 p.2.1 p.2.2.2.1 p.2.2.2.2.1⟩)]
def ls(lf:Nat):List (Nat×FuncId×Sums):=[(13,26,sumsL (ait lf))]
def it0{ρ:Type}(lf n:Nat)(st:St)(k:KE ρ):Option ρ:=itG anns (ls lf) (tb lf) lf 13 26 0 0 (sumsL (ait lf)) n st k
theorem t0{ρ:Type}(lf n:Nat)(v0:List (Int×(Int×(TV×Unit))))(v1 v2:Int)(v3:List (Int×(Int×(TV×Unit))))(v4 v5:Int)(k:KE ρ):it0 lf (n+1) (S0 (v0,v1,v2,v3,v4,v5,())) k=r0 lf v0 v1 v3 v4 v2 v5 (fun x0 x1=>it0 lf n (S0 (v0,v1,x0,v3,v4,x1,())) k) (fun w0 w1=>k .ret (xh0.b (v1,w0,w1,()))) (fun w0=>k (.exit 1) (xh1.b (v1,w0,()))):=by kernel_rfl
theorem u0{ρ:Type}(lf:Nat)(v0:List (Int×(Int×(TV×Unit))))(v1:Int)(v3:List (Int×(Int×(TV×Unit))))(v4:Int)(k:KE ρ):∀ (n:Nat) (v2 v5:Int),it0 lf n (S0 (v0,v1,v2,v3,v4,v5,())) k=bd (l0 lf v0 v1 v3 v4 n v2 v5) fun y=>altK k (o0 v0 v1 v3 v4 y)
 | 0,_,_=>by rw[l0,au];rfl
 | n+1,v2,v5=>by
  rw[t0];simp only[l0,r0,u0 lf v0 v1 v3 v4 k n,cO,cu,aF,au,br_t,br_f,o0,altK]
theorem sl(lf:Nat):SL anns (ls lf) (tb lf) lf (ls lf):=slC (laC (fun _=>by kernel_rfl) (fun _ (x:(List (Int×(Int×(TV×Unit))))×Int×Int×(List (Int×(Int×(TV×Unit))))×Int×Int×Unit) k=>aX (u0 lf x.1 x.2.1 x.2.2.2.1 x.2.2.2.2.1 k (lf+40) x.2.2.1 x.2.2.2.2.2.1)) laN) slN
def f(lf:Nat)(a0:List (Int×(Int×(TV×Unit))))(a1:Int):Option (Int×Unit) :=
 br (decide (a1 < 1)) (
 some (2,())) (
 br (decide (a1 > 32)) (
 some (2,())) (
 br (((a0.length:Nat):Int)==0) (
 some (20,())) (
 bd (l0 lf a0 a1 a0 ((a0.length:Nat):Int) (lf+40) 0 0) fun z5 =>
 br z5.1 (
 some (z5.2.1.1,())) (
 br (z5.2.2.1.1 != a1) (
 some (20,())) (
 some (0,()))))))
def E(lf:Nat):Entry:=⟨[(.sl (.pair (.int .i64) (.pair (.int .i64) (.pair yV .unit)))),(.int .i64)],[(.int .i64)],fun x=>f lf x.1 x.2.1⟩
theorem ok(lf:Nat):Ok 26 (E lf):=okL (tC (iZ.ok lf) tN) (aoC aoN) (sl lf) fun x=>by kernel_rfl
end bQ
namespace aY
def anns:FuncId→FA:=annsL [(60,⟨annOf [(0,⟨kx 29 [17,18,19],[],[]⟩,⟨kx 29 [6],[],[]⟩)],none,[]⟩)]
def r0{ρ:Type}(lf:Nat)(v0:List TV)(v1:Int)(v2:Int)(K:Int→Option ρ)(E0:Int→Option ρ)(E1:Option ρ):Option ρ :=
 br (decide (v2 < v1)) (
 bd (idxL v0 v2) fun y2 =>
 bd (dD.f lf y2) fun r3 =>
 br (r3.1 != 0) (
 E0 r3.1) (
 K (i64.wrap (v2+1)))) (
 E1)
def l0(lf:Nat)(v0:List TV)(v1:Int):Nat→Int→Option (Bool×(Int×Unit)×(Unit)×Unit)
 | 0,_=>none
 | n+1,v2=>r0 lf v0 v1 v2 (l0 lf v0 v1 n) (fun w0=>some (true,(w0,()),((()),()))) (some (false,(0,()),((()),())))
def sh0:ShS:=⟨[.a 17,.s (.sl yV),.s (.int .i64),.s (.int .i64),.a 9],[]⟩
def S0(p:(List TV)×Int×Int×Unit):St:=sh0.b p
def xh0:ShS:=⟨[.a 6,.s (.int .i64),.a 22],[]⟩
def xh1:ShS:=⟨[.a 29],[]⟩
def o0(v0:List TV)(v1:Int)(y:Bool×(Int×Unit)×(Unit)×Unit):Alt:=.two y.1 (.one .ret (xh0.b (y.2.1.1,()))) (.one (.exit 0) (xh1.b (())))
def tb(lf:Nat):List (FuncId×Entry):=[(26,bQ.E lf),(118,dD.E lf)]
def aiy(lf:Nat):List (Nat×(St→Option LTE)):=[(0,sumE sh0 fun(p:(List TV)×Int×Int×Unit)=>⟨Bool×(Int×Unit)×(Unit)×Unit,l0 lf p.1 p.2.1 (lf+40) p.2.2.1,o0 p.1 p.2.1⟩)]
def ls(lf:Nat):List (Nat×FuncId×Sums):=[(13,60,sumsL (aiy lf))]
def it0{ρ:Type}(lf n:Nat)(st:St)(k:KE ρ):Option ρ:=itG anns (ls lf) (tb lf) lf 13 60 0 0 (sumsL (aiy lf)) n st k
theorem t0{ρ:Type}(lf n:Nat)(v0:List TV)(v1 v2:Int)(k:KE ρ):it0 lf (n+1) (S0 (v0,v1,v2,())) k=r0 lf v0 v1 v2 (fun x0=>it0 lf n (S0 (v0,v1,x0,())) k) (fun w0=>k .ret (xh0.b (w0,()))) (k (.exit 0) (xh1.b (()))):=by kernel_rfl
theorem u0{ρ:Type}(lf:Nat)(v0:List TV)(v1:Int)(k:KE ρ):∀ (n:Nat) (v2:Int),it0 lf n (S0 (v0,v1,v2,())) k=bd (l0 lf v0 v1 n v2) fun y=>altK k (o0 v0 v1 y)
 | 0,_=>by rw[l0,au];rfl
 | n+1,v2=>by
  rw[t0];simp only[l0,r0,u0 lf v0 v1 k n,cO,cu,aF,au,br_t,br_f,o0,altK]
theorem sl(lf:Nat):SL anns (ls lf) (tb lf) lf (ls lf):=slC (laC (fun _=>by kernel_rfl) (fun _ (x:(List TV)×Int×Int×Unit) k=>aX (u0 lf x.1 x.2.1 k (lf+40) x.2.2.1)) laN) slN
def f(lf:Nat)(a0:List (Int×(Int×(TV×Unit))))(a1:Int)(a2:List TV):Option (Int×Unit) :=
 bd (bQ.f lf a0 a1) fun r1 =>
 br (r1.1 != 0) (
 some (r1.1,())) (
 bd (l0 lf a2 ((a2.length:Nat):Int) (lf+40) 0) fun z4 =>
 br z4.1 (
 some (z4.2.1.1,())) (
 some (0,())))
def E(lf:Nat):Entry:=⟨[(.sl (.pair (.int .i64) (.pair (.int .i64) (.pair yV .unit)))),(.int .i64),(.sl yV)],[(.int .i64)],fun x=>f lf x.1 x.2.1 x.2.2.1⟩
theorem ok(lf:Nat):Ok 60 (E lf):=okL (tC (bQ.ok lf) (tC (dD.ok lf) tN)) (aoC aoN) (sl lf) fun x=>by kernel_rfl
end aY
namespace gQ
def f(lf:Nat)(a0:Int):Option (TV×Unit) :=
 bd (fM.f lf a0) fun r1 =>
 bd (um.f lf r1.1) fun r2 =>
 bd (dI.f lf r2.1 r2.2.1) fun r3 =>
 some (r3.1,())
def E(lf:Nat):Entry:=⟨[(.int .i64)],[yV],fun x=>f lf x.1⟩
theorem ok(lf:Nat):Ok 71 (E lf):=okT (an:=(annsL [])) (lf:=lf) (tC (dI.ok lf) (tC (fM.ok lf) (tC (um.ok lf) tN))) aoN fun x=>by kernel_rfl
end gQ
namespace gX
def f(lf:Nat)  : Option (TV×Unit) :=
 bd (gQ.f lf 0) fun r1 =>
 bd (gQ.f lf 1) fun r2 =>
 bd (lC.f lf r1.1 r2.1) fun r3 =>
 bd (dI.f lf r3.1 r3.2.1) fun r4 =>
 some (r4.1,())
def E(lf:Nat):Entry:=⟨[],[yV],fun x=>f lf⟩
theorem ok(lf:Nat):Ok 61 (E lf):=okT (an:=(annsL [])) (lf:=lf) (tC (dI.ok lf) (tC (lC.ok lf) (tC (gQ.ok lf) tN))) aoN fun x=>by kernel_rfl
end gX
namespace bn
def f(lf:Nat)(a0:Bool)(a1:Int):Option (Bool×Unit) :=
 some (a0,())
def E(lf:Nat):Entry:=⟨[.bool,(.int .i64)],[.bool],fun x=>f lf x.1 x.2.1⟩
theorem ok(lf:Nat):Ok 120 (E lf):=okT (an:=(annsL [])) (lf:=lf) tN aoN fun x=>by kernel_rfl
end bn
end
end Go.Q
