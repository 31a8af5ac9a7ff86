import Derived.Test.YtcgfigjpbicogaaGreatDoorProg
import Derived.KernelRfl
import Derived.Test.YtcgfigjpbicogaaGreatDoorSWE3
import Derived.Test.YtcgfigjpbicogaaGreatDoorSWG1
import Derived.Test.YtcgfigjpbicogaaGreatDoorSWG3
import Derived.Test.YtcgfigjpbicogaaGreatDoorSWG4
import Derived.Test.YtcgfigjpbicogaaGreatDoorSWG5
import Derived.Test.YtcgfigjpbicogaaGreatDoorSWG6
set_option linter.unusedVariables false
set_option linter.unusedSimpArgs false
set_option linter.unusedSectionVars false
set_option maxRecDepth 100000
namespace Go.Q
open Go Go.RowKit
open Go.Rx (br bd sIdx sCat sCut iQuo iRem)
noncomputable section
namespace jA
def f(lf:Nat)(a0:ByteArray):Option (TV×Unit) :=
 some (((false,a0,a0,()),(false,(⟨#[48]⟩:ByteArray),a0,()),()),())
def E(lf:Nat):Entry:=⟨[.str],[yV],fun x=>f lf x.1⟩
theorem ok(lf:Nat):Ok 152 (E lf):=okT (an:=(annsL [])) (lf:=lf) tN aoN fun x=>by kernel_rfl
end jA
namespace jk
def f(lf:Nat)  : Option (TV×Unit) :=
 some (((true,(⟨#[]⟩:ByteArray),(⟨#[]⟩:ByteArray),()),(true,(⟨#[]⟩:ByteArray),(⟨#[]⟩:ByteArray),()),()),())
def E(lf:Nat):Entry:=⟨[],[yV],fun x=>f lf⟩
theorem ok(lf:Nat):Ok 166 (E lf):=okT (an:=(annsL [])) (lf:=lf) tN aoN fun x=>by kernel_rfl
end jk
namespace bF
def f(lf:Nat)(a0:ByteArray):Option (ByteArray×Unit) :=
 bd (strings_TrimPrefix.f lf a0 (⟨#[45]⟩:ByteArray)) fun r1 =>
 br (decide (((r1.1.size:Nat):Int) > 100)) (
 some ((⟨#[]⟩:ByteArray),())) (
 some (a0,()))
def E(lf:Nat):Entry:=⟨[.str],[.str],fun x=>f lf x.1⟩
theorem ok(lf:Nat):Ok 150 (E lf):=okT (an:=(annsL [])) (lf:=lf) (tC (strings_TrimPrefix.ok lf) tN) aoN fun x=>by kernel_rfl
end bF
namespace dZ
def f(lf:Nat)(a0:TI)(a1:TI):Option (TV×Unit) :=
 br a0.1 (
 bd (jk.f lf) fun r1 =>
 some (r1.1,())) (
 br a1.1 (
 bd (jk.f lf) fun r2 =>
 some (r2.1,())) (
 br (a1.2.1.toList==(⟨#[48]⟩:ByteArray).toList) (
 bd (fK.f lf a0 a1.2.2.1) fun r3 =>
 br (!r3.1) (
 bd (jk.f lf) fun r4 =>
 some (r4.1,())) (
 bd (jA.f lf a1.2.2.1) fun r5 =>
 some (r5.1,()))) (
 br (!(a0.2.1.toList==(⟨#[]⟩:ByteArray).toList)) (
 bd (jP.f lf a1 a0.2.1) fun r6 =>
 br (!(a0.2.2.1.toList==(⟨#[]⟩:ByteArray).toList)) (
 bd (gY.f lf a1 a0.2.2.1) fun r7 =>
 br (!(r6.1.toList==(⟨#[]⟩:ByteArray).toList)) (
 br (!(r7.1.toList==(⟨#[]⟩:ByteArray).toList)) (
 bd (eP.f lf r6.1 r7.1) fun r8 =>
 br (decide (r8.1 > 0)) (
 bd (jk.f lf) fun r9 =>
 some (r9.1,())) (
 br (r8.1==0) (
 bd (jA.f lf r6.1) fun r10 =>
 some (r10.1,())) (
 bd (bF.f lf r6.1) fun r11 =>
 bd (bF.f lf r7.1) fun r12 =>
 some (((false,r11.1,r12.1,()),a1,()),())))) (
 bd (bF.f lf r6.1) fun r13 =>
 bd (bF.f lf r7.1) fun r14 =>
 some (((false,r13.1,r14.1,()),a1,()),()))) (
 bd (bF.f lf r6.1) fun r15 =>
 bd (bF.f lf r7.1) fun r16 =>
 some (((false,r15.1,r16.1,()),a1,()),()))) (
 br (!(r6.1.toList==(⟨#[]⟩:ByteArray).toList)) (
 br (!(a0.2.2.1.toList==(⟨#[]⟩:ByteArray).toList)) (
 bd (eP.f lf r6.1 a0.2.2.1) fun r17 =>
 br (decide (r17.1 > 0)) (
 bd (jk.f lf) fun r18 =>
 some (r18.1,())) (
 br (r17.1==0) (
 bd (jA.f lf r6.1) fun r19 =>
 some (r19.1,())) (
 bd (bF.f lf r6.1) fun r20 =>
 bd (bF.f lf a0.2.2.1) fun r21 =>
 some (((false,r20.1,r21.1,()),a1,()),())))) (
 bd (bF.f lf r6.1) fun r22 =>
 bd (bF.f lf a0.2.2.1) fun r23 =>
 some (((false,r22.1,r23.1,()),a1,()),()))) (
 bd (bF.f lf r6.1) fun r24 =>
 bd (bF.f lf a0.2.2.1) fun r25 =>
 some (((false,r24.1,r25.1,()),a1,()),())))) (
 br (!(a0.2.2.1.toList==(⟨#[]⟩:ByteArray).toList)) (
 bd (gY.f lf a1 a0.2.2.1) fun r26 =>
 br (!(a0.2.1.toList==(⟨#[]⟩:ByteArray).toList)) (
 br (!(r26.1.toList==(⟨#[]⟩:ByteArray).toList)) (
 bd (eP.f lf a0.2.1 r26.1) fun r27 =>
 br (decide (r27.1 > 0)) (
 bd (jk.f lf) fun r28 =>
 some (r28.1,())) (
 br (r27.1==0) (
 bd (jA.f lf a0.2.1) fun r29 =>
 some (r29.1,())) (
 bd (bF.f lf a0.2.1) fun r30 =>
 bd (bF.f lf r26.1) fun r31 =>
 some (((false,r30.1,r31.1,()),a1,()),())))) (
 bd (bF.f lf a0.2.1) fun r32 =>
 bd (bF.f lf r26.1) fun r33 =>
 some (((false,r32.1,r33.1,()),a1,()),()))) (
 bd (bF.f lf a0.2.1) fun r34 =>
 bd (bF.f lf r26.1) fun r35 =>
 some (((false,r34.1,r35.1,()),a1,()),()))) (
 br (!(a0.2.1.toList==(⟨#[]⟩:ByteArray).toList)) (
 br (!(a0.2.2.1.toList==(⟨#[]⟩:ByteArray).toList)) (
 bd (eP.f lf a0.2.1 a0.2.2.1) fun r36 =>
 br (decide (r36.1 > 0)) (
 bd (jk.f lf) fun r37 =>
 some (r37.1,())) (
 br (r36.1==0) (
 bd (jA.f lf a0.2.1) fun r38 =>
 some (r38.1,())) (
 bd (bF.f lf a0.2.1) fun r39 =>
 bd (bF.f lf a0.2.2.1) fun r40 =>
 some (((false,r39.1,r40.1,()),a1,()),())))) (
 bd (bF.f lf a0.2.1) fun r41 =>
 bd (bF.f lf a0.2.2.1) fun r42 =>
 some (((false,r41.1,r42.1,()),a1,()),()))) (
 bd (bF.f lf a0.2.1) fun r43 =>
 bd (bF.f lf a0.2.2.1) fun r44 =>
 some (((false,r43.1,r44.1,()),a1,()),())))))))
def E(lf:Nat):Entry:=⟨[yI,yI],[yV],fun x=>f lf x.1 x.2.1⟩
theorem ok(lf:Nat):Ok 65 (E lf):=okT (an:=(annsL [])) (lf:=lf) (tC (fK.ok lf) (tC (bF.ok lf) (tC (jA.ok lf) (tC (jk.ok lf) (tC (jP.ok lf) (tC (gY.ok lf) (tC (eP.ok lf) tN))))))) aoN fun x=>by kernel_rfl
end dZ
namespace mO
def f(lf:Nat)(a0:TI)(a1:TI):Option (Int×Unit) :=
 bd (aY.f lf a0) fun r1 =>
 br (r1.1 != 0) (
 some (r1.1,())) (
 bd (bg.f lf a1) fun r2 =>
 some (r2.1,()))
def E(lf:Nat):Entry:=⟨[yI,yI],[(.int .i64)],fun x=>f lf x.1 x.2.1⟩
theorem ok(lf:Nat):Ok 126 (E lf):=okT (an:=(annsL [])) (lf:=lf) (tC (aY.ok lf) (tC (bg.ok lf) tN)) aoN fun x=>by kernel_rfl
end mO
namespace dB
def f(lf:Nat)(a0:TV):Option (Int×Unit) :=
 bd (mO.f lf a0.1 a0.2.1) fun r1 =>
 br (r1.1 != 0) (
 some (r1.1,())) (
 bd (dZ.f lf a0.1 a0.2.1) fun r2 =>
 bd (some (!(((r2.1.1.1==a0.1.1)&&((r2.1.1.2.1==a0.1.2.1)&&((r2.1.1.2.2.1==a0.1.2.2.1)&&true)))&&(((r2.1.2.1.1==a0.2.1.1)&&((r2.1.2.1.2.1==a0.2.1.2.1)&&((r2.1.2.1.2.2.1==a0.2.1.2.2.1)&&true)))&&true)))) fun r3 =>
 br r3 (
 some (3,())) (
 some (0,())))
def E(lf:Nat):Entry:=⟨[yV],[(.int .i64)],fun x=>f lf x.1⟩
theorem ok(lf:Nat):Ok 76 (E lf):=okT (an:=(annsL [])) (lf:=lf) (tC (dZ.ok lf) (tC (mO.ok lf) tN)) aoN fun x=>by kernel_rfl
end dB
namespace lM
def f(lf:Nat)(a0:TV):Option (ByteArray×Int×Unit) :=
 bd (dB.f lf a0) fun r1 =>
 br (r1.1 != 0) (
 some ((⟨#[]⟩:ByteArray),r1.1,())) (
 bd (mW.f lf a0.1) fun r2 =>
 br (!a0.2.1.1) (
 br (!(a0.2.1.2.1.toList==(⟨#[48]⟩:ByteArray).toList)) (
 br (!(a0.2.1.2.1.toList==(⟨#[49]⟩:ByteArray).toList)) (
 bd (sCat (⟨#[32,109,111,100,32]⟩:ByteArray) a0.2.1.2.1) fun r3 =>
 bd (sCat r3 (⟨#[32,61,32]⟩:ByteArray)) fun r4 =>
 bd (sCat r4 a0.2.1.2.2.1) fun r5 =>
 bd (sCat r2.1 r5) fun r6 =>
 some (r6,r2.2.1,())) (
 some (r2.1,r2.2.1,()))) (
 some (r2.1,r2.2.1,()))) (
 some (r2.1,r2.2.1,())))
def E(lf:Nat):Entry:=⟨[yV],[.str,(.int .i64)],fun x=>f lf x.1⟩
theorem ok(lf:Nat):Ok 42 (E lf):=okT (an:=(annsL [])) (lf:=lf) (tC (dB.ok lf) (tC (mW.ok lf) tN)) aoN fun x=>by kernel_rfl
end lM
namespace gX
def f(lf:Nat)(a0:TV)(a1:TV):Option (Int×Unit) :=
 bd (dB.f lf a0) fun r1 =>
 br (r1.1 != 0) (
 some (r1.1,())) (
 bd (dB.f lf a1) fun r2 =>
 some (r2.1,()))
def E(lf:Nat):Entry:=⟨[yV,yV],[(.int .i64)],fun x=>f lf x.1 x.2.1⟩
theorem ok(lf:Nat):Ok 62 (E lf):=okT (an:=(annsL [])) (lf:=lf) (tC (dB.ok lf) tN) aoN fun x=>by kernel_rfl
end gX
namespace nS
def f(lf:Nat)(a0:TV)(a1:TV):Option (TV×Int×Unit) :=
 bd (gX.f lf a0 a1) fun r1 =>
 br (r1.1 != 0) (
 some (((false,(⟨#[]⟩:ByteArray),(⟨#[]⟩:ByteArray),()),(false,(⟨#[]⟩:ByteArray),(⟨#[]⟩:ByteArray),()),()),r1.1,())) (
 bd (oD.f lf a0.1 a1.1) fun r2 =>
 br (r2.2.1 != 0) (
 some (((false,(⟨#[]⟩:ByteArray),(⟨#[]⟩:ByteArray),()),(false,(⟨#[]⟩:ByteArray),(⟨#[]⟩:ByteArray),()),()),r2.2.1,())) (
 bd (mQ.f lf a0.2.1 a1.2.1) fun r3 =>
 br (r3.2.1 != 0) (
 some (((false,(⟨#[]⟩:ByteArray),(⟨#[]⟩:ByteArray),()),(false,(⟨#[]⟩:ByteArray),(⟨#[]⟩:ByteArray),()),()),r3.2.1,())) (
 bd (dZ.f lf r2.1 r3.1) fun r4 =>
 some (r4.1,0,()))))
def E(lf:Nat):Entry:=⟨[yV,yV],[yV,(.int .i64)],fun x=>f lf x.1 x.2.1⟩
theorem ok(lf:Nat):Ok 57 (E lf):=okT (an:=(annsL [])) (lf:=lf) (tC (gX.ok lf) (tC (dZ.ok lf) (tC (oD.ok lf) (tC (mQ.ok lf) tN)))) aoN fun x=>by kernel_rfl
end nS
namespace oq
def f(lf:Nat)(a0:TV)(a1:ByteArray):Option (Bool×Int×Unit) :=
 bd (dB.f lf a0) fun r1 =>
 br (r1.1 != 0) (
 some (false,r1.1,())) (
 bd (fK.f lf a0.1 a1) fun r2 =>
 br (r2.2.1 != 0) (
 some (false,r2.2.1,())) (
 bd (lN.f lf a0.2.1 a1) fun r3 =>
 br r2.1 (
 br r3.1 (
 some ((r3.2.1==0),r3.2.1,())) (
 some (false,r3.2.1,()))) (
 some (false,r3.2.1,()))))
def E(lf:Nat):Entry:=⟨[yV,.str],[.bool,(.int .i64)],fun x=>f lf x.1 x.2.1⟩
theorem ok(lf:Nat):Ok 84 (E lf):=okT (an:=(annsL [])) (lf:=lf) (tC (dB.ok lf) (tC (fK.ok lf) (tC (lN.ok lf) tN))) aoN fun x=>by kernel_rfl
end oq
namespace kS
def f(lf:Nat)(a0:TV)(a1:TV):Option (TV×Int×Unit) :=
 bd (gX.f lf a0 a1) fun r1 =>
 br (r1.1 != 0) (
 some (((false,(⟨#[]⟩:ByteArray),(⟨#[]⟩:ByteArray),()),(false,(⟨#[]⟩:ByteArray),(⟨#[]⟩:ByteArray),()),()),r1.1,())) (
 bd (oC.f lf a0.1 a1.1) fun r2 =>
 br (r2.2.1 != 0) (
 some (((false,(⟨#[]⟩:ByteArray),(⟨#[]⟩:ByteArray),()),(false,(⟨#[]⟩:ByteArray),(⟨#[]⟩:ByteArray),()),()),r2.2.1,())) (
 bd (iV.f lf a0.2.1 a1.2.1) fun r3 =>
 br (r3.2.1 != 0) (
 some (((false,(⟨#[]⟩:ByteArray),(⟨#[]⟩:ByteArray),()),(false,(⟨#[]⟩:ByteArray),(⟨#[]⟩:ByteArray),()),()),r3.2.1,())) (
 bd (dZ.f lf r2.1 r3.1) fun r4 =>
 some (r4.1,0,()))))
def E(lf:Nat):Entry:=⟨[yV,yV],[yV,(.int .i64)],fun x=>f lf x.1 x.2.1⟩
theorem ok(lf:Nat):Ok 48 (E lf):=okT (an:=(annsL [])) (lf:=lf) (tC (gX.ok lf) (tC (iV.ok lf) (tC (dZ.ok lf) (tC (oC.ok lf) tN)))) aoN fun x=>by kernel_rfl
end kS
namespace gI
def f(lf:Nat)(a0:TV)(a1:TV)(a2:List ByteArray):Option (TV×Int×Unit) :=
 bd (gX.f lf a0 a1) fun r1 =>
 br (r1.1 != 0) (
 some (((false,(⟨#[]⟩:ByteArray),(⟨#[]⟩:ByteArray),()),(false,(⟨#[]⟩:ByteArray),(⟨#[]⟩:ByteArray),()),()),r1.1,())) (
 bd (aW.f lf a0.1 a1.1 a2) fun r2 =>
 br (r2.2.1 != 0) (
 some (((false,(⟨#[]⟩:ByteArray),(⟨#[]⟩:ByteArray),()),(false,(⟨#[]⟩:ByteArray),(⟨#[]⟩:ByteArray),()),()),r2.2.1,())) (
 br a0.1.1 (
 some (a1,0,())) (
 br a1.1.1 (
 some (a0,0,())) (
 bd (iV.f lf a0.2.1 a1.2.1) fun r3 =>
 br (r3.2.1 != 0) (
 some (((false,(⟨#[]⟩:ByteArray),(⟨#[]⟩:ByteArray),()),(false,(⟨#[]⟩:ByteArray),(⟨#[]⟩:ByteArray),()),()),r3.2.1,())) (
 bd (dZ.f lf r2.1 r3.1) fun r4 =>
 some (r4.1,0,()))))))
def E(lf:Nat):Entry:=⟨[yV,yV,(.sl .str)],[yV,(.int .i64)],fun x=>f lf x.1 x.2.1 x.2.2.1⟩
theorem ok(lf:Nat):Ok 26 (E lf):=okT (an:=(annsL [])) (lf:=lf) (tC (gX.ok lf) (tC (aW.ok lf) (tC (iV.ok lf) (tC (dZ.ok lf) tN)))) aoN fun x=>by kernel_rfl
end gI
namespace iI
def f(lf:Nat)(a0:TV)(a1:TV):Option (TV×Int×Unit) :=
 bd (gX.f lf a0 a1) fun r1 =>
 br (r1.1 != 0) (
 some (((false,(⟨#[]⟩:ByteArray),(⟨#[]⟩:ByteArray),()),(false,(⟨#[]⟩:ByteArray),(⟨#[]⟩:ByteArray),()),()),r1.1,())) (
 bd (jX.f lf a0.1 a1.1) fun r2 =>
 br (r2.2.1 != 0) (
 some (((false,(⟨#[]⟩:ByteArray),(⟨#[]⟩:ByteArray),()),(false,(⟨#[]⟩:ByteArray),(⟨#[]⟩:ByteArray),()),()),r2.2.1,())) (
 br (a0.2.1.2.1.toList==(⟨#[49]⟩:ByteArray).toList) (
 bd (dZ.f lf r2.1 a1.2.1) fun r3 =>
 some (r3.1,0,())) (
 bd (dZ.f lf r2.1 a0.2.1) fun r4 =>
 some (r4.1,0,()))))
def E(lf:Nat):Entry:=⟨[yV,yV],[yV,(.int .i64)],fun x=>f lf x.1 x.2.1⟩
theorem ok(lf:Nat):Ok 30 (E lf):=okT (an:=(annsL [])) (lf:=lf) (tC (gX.ok lf) (tC (dZ.ok lf) (tC (jX.ok lf) tN))) aoN fun x=>by kernel_rfl
end iI
end
end Go.Q
namespace Go.Q
open Go Go.RowKit
open Go.Rx (br bd sIdx sCat sCut iQuo iRem)
noncomputable section
namespace iT
def f(lf:Nat)(a0:TV)(a1:TV):Option (Bool×Unit) :=
 bd (jC.f lf a0.1 a1.1) fun r1 =>
 br r1.1 (
 bd (iR.f lf a0.2.1) fun r2 =>
 br r2.1 (
 bd (iR.f lf a1.2.1) fun r3 =>
 some (r3.1,())) (
 some (false,()))) (
 some (false,()))
def E(lf:Nat):Entry:=⟨[yV,yV],[.bool],fun x=>f lf x.1 x.2.1⟩
theorem ok(lf:Nat):Ok 12 (E lf):=okT (an:=(annsL [])) (lf:=lf) (tC (jC.ok lf) (tC (iR.ok lf) tN)) aoN fun x=>by kernel_rfl
end iT
namespace dJ
def f(lf:Nat)  : Option (TV×Unit) :=
 bd (dh.f lf) fun r1 =>
 bd (jJ.f lf) fun r2 =>
 some ((r1.1,r2.1,()),())
def E(lf:Nat):Entry:=⟨[],[yV],fun x=>f lf⟩
theorem ok(lf:Nat):Ok 49 (E lf):=okT (an:=(annsL [])) (lf:=lf) (tC (dh.ok lf) (tC (jJ.ok lf) tN)) aoN fun x=>by kernel_rfl
end dJ
namespace gW
def f(lf:Nat)  : Option (TV×Unit) :=
 bd (dF.f lf) fun r1 =>
 some (((false,(⟨#[]⟩:ByteArray),(⟨#[]⟩:ByteArray),()),r1.1,()),())
def E(lf:Nat):Entry:=⟨[],[yV],fun x=>f lf⟩
theorem ok(lf:Nat):Ok 23 (E lf):=okT (an:=(annsL [])) (lf:=lf) (tC (dF.ok lf) tN) aoN fun x=>by kernel_rfl
end gW
namespace gV
def f(lf:Nat)(a0:ByteArray):Option (TV×Unit) :=
 bd (jD.f lf a0) fun r1 =>
 br (!(r1.1.2.1.toList==(⟨#[48]⟩:ByteArray).toList)) (
 bd (gW.f lf) fun r2 =>
 some (r2.1,())) (
 some (((false,a0,a0,()),r1.1,()),()))
def E(lf:Nat):Entry:=⟨[.str],[yV],fun x=>f lf x.1⟩
theorem ok(lf:Nat):Ok 54 (E lf):=okT (an:=(annsL [])) (lf:=lf) (tC (gW.ok lf) (tC (jD.ok lf) tN)) aoN fun x=>by kernel_rfl
end gV
namespace bf
def f(lf:Nat)(a0:TI)(a1:TI):Option (TV×Unit) :=
 br a0.1 (
 bd (dJ.f lf) fun r1 =>
 some (r1.1,())) (
 br a1.1 (
 bd (dJ.f lf) fun r2 =>
 some (r2.1,())) (
 br (a1.2.1.toList==(⟨#[48]⟩:ByteArray).toList) (
 bd (jR.f lf a0 a1.2.2.1) fun r3 =>
 br (!r3.1) (
 bd (dJ.f lf) fun r4 =>
 some (r4.1,())) (
 some (((false,a1.2.2.1,a1.2.2.1,()),a1,()),()))) (
 br (!(a0.2.1.toList==(⟨#[]⟩:ByteArray).toList)) (
 bd (fQ.f lf a1 a0.2.1) fun r5 =>
 br (!(a0.2.2.1.toList==(⟨#[]⟩:ByteArray).toList)) (
 bd (iq.f lf a1 a0.2.2.1) fun r6 =>
 br (!(r5.1.toList==(⟨#[]⟩:ByteArray).toList)) (
 br (!(r6.1.toList==(⟨#[]⟩:ByteArray).toList)) (
 bd (au.f lf r6.1 r5.1) fun r7 =>
 br r7.1 (
 bd (dJ.f lf) fun r8 =>
 some (r8.1,())) (
 br (r5.1.toList==r6.1.toList) (
 bd (gV.f lf r5.1) fun r9 =>
 some (r9.1,())) (
 bd (aC.f lf r5.1 r6.1) fun r10 =>
 some ((r10.1,a1,()),())))) (
 bd (aC.f lf r5.1 r6.1) fun r11 =>
 some ((r11.1,a1,()),()))) (
 bd (aC.f lf r5.1 r6.1) fun r12 =>
 some ((r12.1,a1,()),()))) (
 br (!(r5.1.toList==(⟨#[]⟩:ByteArray).toList)) (
 br (!(a0.2.2.1.toList==(⟨#[]⟩:ByteArray).toList)) (
 bd (au.f lf a0.2.2.1 r5.1) fun r13 =>
 br r13.1 (
 bd (dJ.f lf) fun r14 =>
 some (r14.1,())) (
 br (r5.1.toList==a0.2.2.1.toList) (
 bd (gV.f lf r5.1) fun r15 =>
 some (r15.1,())) (
 bd (aC.f lf r5.1 a0.2.2.1) fun r16 =>
 some ((r16.1,a1,()),())))) (
 bd (aC.f lf r5.1 a0.2.2.1) fun r17 =>
 some ((r17.1,a1,()),()))) (
 bd (aC.f lf r5.1 a0.2.2.1) fun r18 =>
 some ((r18.1,a1,()),())))) (
 br (!(a0.2.2.1.toList==(⟨#[]⟩:ByteArray).toList)) (
 bd (iq.f lf a1 a0.2.2.1) fun r19 =>
 br (!(a0.2.1.toList==(⟨#[]⟩:ByteArray).toList)) (
 br (!(r19.1.toList==(⟨#[]⟩:ByteArray).toList)) (
 bd (au.f lf r19.1 a0.2.1) fun r20 =>
 br r20.1 (
 bd (dJ.f lf) fun r21 =>
 some (r21.1,())) (
 br (a0.2.1.toList==r19.1.toList) (
 bd (gV.f lf a0.2.1) fun r22 =>
 some (r22.1,())) (
 bd (aC.f lf a0.2.1 r19.1) fun r23 =>
 some ((r23.1,a1,()),())))) (
 bd (aC.f lf a0.2.1 r19.1) fun r24 =>
 some ((r24.1,a1,()),()))) (
 bd (aC.f lf a0.2.1 r19.1) fun r25 =>
 some ((r25.1,a1,()),()))) (
 br (!(a0.2.1.toList==(⟨#[]⟩:ByteArray).toList)) (
 br (!(a0.2.2.1.toList==(⟨#[]⟩:ByteArray).toList)) (
 bd (au.f lf a0.2.2.1 a0.2.1) fun r26 =>
 br r26.1 (
 bd (dJ.f lf) fun r27 =>
 some (r27.1,())) (
 br (a0.2.1.toList==a0.2.2.1.toList) (
 bd (gV.f lf a0.2.1) fun r28 =>
 some (r28.1,())) (
 bd (aC.f lf a0.2.1 a0.2.2.1) fun r29 =>
 some ((r29.1,a1,()),())))) (
 bd (aC.f lf a0.2.1 a0.2.2.1) fun r30 =>
 some ((r30.1,a1,()),()))) (
 bd (aC.f lf a0.2.1 a0.2.2.1) fun r31 =>
 some ((r31.1,a1,()),())))))))
def E(lf:Nat):Entry:=⟨[yI,yI],[yV],fun x=>f lf x.1 x.2.1⟩
theorem ok(lf:Nat):Ok 20 (E lf):=okT (an:=(annsL [])) (lf:=lf) (tC (aC.ok lf) (tC (dJ.ok lf) (tC (jR.ok lf) (tC (fQ.ok lf) (tC (iq.ok lf) (tC (au.ok lf) (tC (gV.ok lf) tN))))))) aoN fun x=>by kernel_rfl
end bf
namespace dV
def f(lf:Nat)(a0:TV):Option (Int×Unit) :=
 bd (ig.f lf a0.1) fun r1 =>
 br (r1.1 != 0) (
 some (r1.1,())) (
 bd (iw.f lf a0.2.1) fun r2 =>
 br (r2.1 != 0) (
 some (r2.1,())) (
 bd (bf.f lf a0.1 a0.2.1) fun r3 =>
 bd (some (!(((r3.1.1.1==a0.1.1)&&((r3.1.1.2.1==a0.1.2.1)&&((r3.1.1.2.2.1==a0.1.2.2.1)&&true)))&&(((r3.1.2.1.1==a0.2.1.1)&&((r3.1.2.1.2.1==a0.2.1.2.1)&&((r3.1.2.1.2.2.1==a0.2.1.2.2.1)&&true)))&&true)))) fun r4 =>
 br r4 (
 some (3,())) (
 some (0,()))))
def E(lf:Nat):Entry:=⟨[yV],[(.int .i64)],fun x=>f lf x.1⟩
theorem ok(lf:Nat):Ok 170 (E lf):=okT (an:=(annsL [])) (lf:=lf) (tC (bf.ok lf) (tC (ig.ok lf) (tC (iw.ok lf) tN))) aoN fun x=>by kernel_rfl
end dV
namespace fE
def f(lf:Nat)(a0:TV)(a1:TV)(a2:List ByteArray):Option (TV×Unit) :=
 bd (iD.f lf a0.1 a1.1 a2) fun r1 =>
 bd (iO.f lf a0.2.1 a1.2.1) fun r2 =>
 bd (bf.f lf r1.1 r2.1) fun r3 =>
 some (r3.1,())
def E(lf:Nat):Entry:=⟨[yV,yV,(.sl .str)],[yV],fun x=>f lf x.1 x.2.1 x.2.2.1⟩
theorem ok(lf:Nat):Ok 69 (E lf):=okT (an:=(annsL [])) (lf:=lf) (tC (bf.ok lf) (tC (iD.ok lf) (tC (iO.ok lf) tN))) aoN fun x=>by kernel_rfl
end fE
namespace eG
def f(lf:Nat)(a0:TV)(a1:TV):Option (TV×Unit) :=
 bd (dF.f lf) fun r1 =>
 bd (some ((a0.2.1.1==r1.1.1)&&((a0.2.1.2.1==r1.1.2.1)&&((a0.2.1.2.2.1==r1.1.2.2.1)&&true)))) fun r2 =>
 br r2 (
 bd (fO.f lf a0.1 a1.1) fun r3 =>
 bd (bf.f lf r3.1 a1.2.1) fun r4 =>
 some (r4.1,())) (
 bd (fO.f lf a0.1 a1.1) fun r5 =>
 bd (bf.f lf r5.1 a0.2.1) fun r6 =>
 some (r6.1,()))
def E(lf:Nat):Entry:=⟨[yV,yV],[yV],fun x=>f lf x.1 x.2.1⟩
theorem ok(lf:Nat):Ok 72 (E lf):=okT (an:=(annsL [])) (lf:=lf) (tC (bf.ok lf) (tC (dF.ok lf) (tC (fO.ok lf) tN))) aoN fun x=>by kernel_rfl
end eG
end
end Go.Q
namespace Go.Q
open Go.IntKind (i64)
open Go Go.RowKit
open Go.Rx (br bd sIdx sCat sCut iQuo iRem)
noncomputable section
namespace dM
def anns:FuncId→FA:=annsL [(4,⟨annOf [(0,⟨kx 25 [0,3],[],[]⟩,⟨kx 25 [2],[],[]⟩)],none,[]⟩)]
def r0{ρ:Type}(lf:Nat)(v0:List (Int×(Int×(TV×Unit))))(v1:Int)(K:Int→Option ρ)(E0:Option ρ)(E1:Option ρ):Option ρ :=
 br (decide (v1 < ((v0.length:Nat):Int))) (
 bd (idxL v0 v1) fun y1 =>
 bd (idxL v0 v1) fun y2 =>
 bd (iT.f lf y1.2.2.1 y2.2.2.1) fun r3 =>
 br (!r3.1) (
 E0) (
 K (i64.wrap (v1+1)))) (
 E1)
def l0(lf:Nat)(v0:List (Int×(Int×(TV×Unit)))):Nat→Int→Option (Bool×(Unit)×(Unit)×Unit)
 | 0,_=>none
 | n+1,v1=>r0 lf v0 v1 (l0 lf v0 n) (some (true,(()),((()),()))) (some (false,(()),((()),())))
def sh0:ShS:=⟨[.s (.sl (.pair (.int .i64) (.pair (.int .i64) (.pair yV .unit)))),.a 2,.s (.int .i64),.a 21],[]⟩
def S0(p:(List (Int×(Int×(TV×Unit))))×Int×Unit):St:=sh0.b p
def xh0:ShS:=⟨[.a 2,.s .bool,.a 22],[]⟩
def xh1:ShS:=⟨[.a 25],[]⟩
def o0(v0:List (Int×(Int×(TV×Unit))))(y:Bool×(Unit)×(Unit)×Unit):Alt:=.two y.1 (.one .ret (xh0.b (false,()))) (.one (.exit 0) (xh1.b (())))
def tb(lf:Nat):List (FuncId×Entry):=[(12,iT.E lf)]
def aeG(lf:Nat):List (Nat×(St→Option LTE)):=[(0,sumE sh0 fun(p:(List (Int×(Int×(TV×Unit))))×Int×Unit)=>⟨Bool×(Unit)×(Unit)×Unit,l0 lf p.1 (lf+40) p.2.1,o0 p.1⟩)]
def ls(lf:Nat):List (Nat×FuncId×Sums):=[(13,4,sumsL (aeG lf))]
def it0{ρ:Type}(lf n:Nat)(st:St)(k:KE ρ):Option ρ:=itG anns (ls lf) (tb lf) lf 13 4 0 0 (sumsL (aeG lf)) n st k
theorem t0{ρ:Type}(lf n:Nat)(v0:List (Int×(Int×(TV×Unit))))(v1:Int)(k:KE ρ):it0 lf (n+1) (S0 (v0,v1,())) k=r0 lf v0 v1 (fun x0=>it0 lf n (S0 (v0,x0,())) k) (k .ret (xh0.b (false,()))) (k (.exit 0) (xh1.b (()))):=by kernel_rfl
theorem u0{ρ:Type}(lf:Nat)(v0:List (Int×(Int×(TV×Unit))))(k:KE ρ):∀ (n:Nat) (v1:Int),it0 lf n (S0 (v0,v1,())) k=bd (l0 lf v0 n v1) fun y=>altK k (o0 v0 y)
 | 0,_=>by rw[l0,bd_none];rfl
 | n+1,v1=>by
  rw[t0];simp only[l0,r0,u0 lf v0 k n,bd_br,bd_bd,bd_some',bd_none,br_t,br_f,o0,altK]
theorem sl(lf:Nat):SL anns (ls lf) (tb lf) lf (ls lf):=slC (laC (fun _=>by kernel_rfl) (fun _ (x:(List (Int×(Int×(TV×Unit))))×Int×Unit) k=>aS (u0 lf x.1 k (lf+40) x.2.1)) laN) slN
def f(lf:Nat)(a0:List (Int×(Int×(TV×Unit)))):Option (Bool×Unit) :=
 br (decide (((a0.length:Nat):Int) > 40)) (
 some (false,())) (
 bd (l0 lf a0 (lf+40) 0) fun z4 =>
 br z4.1 (
 some (false,())) (
 some (true,())))
def E(lf:Nat):Entry:=⟨[(.sl (.pair (.int .i64) (.pair (.int .i64) (.pair yV .unit))))],[.bool],fun x=>f lf x.1⟩
theorem ok(lf:Nat):Ok 4 (E lf):=okL (tC (iT.ok lf) tN) (aoC aoN) (sl lf) fun x=>by kernel_rfl
end dM
namespace dA
def f(lf:Nat)(a0:TV):Option (Bool×Unit) :=
 some (a0.1.1,())
def E(lf:Nat):Entry:=⟨[yV],[.bool],fun x=>f lf x.1⟩
theorem ok(lf:Nat):Ok 125 (E lf):=okT (an:=(annsL [])) (lf:=lf) tN aoN fun x=>by kernel_rfl
end dA
namespace iU
def f(lf:Nat)(a0:Int×(Int×(TV×Unit)))(a1:Int)(a2:Int):Option (Int×Unit) :=
 br (a0.1 != a1) (
 some (20,())) (
 br (decide (a0.2.1≤a0.1)) (
 some (15,())) (
 br (decide (a0.2.1 > a2)) (
 some (15,())) (
 bd (dV.f lf a0.2.2.1) fun r1 =>
 br (r1.1 != 0) (
 some (r1.1,())) (
 bd (dA.f lf a0.2.2.1) fun r2 =>
 br r2.1 (
 some (16,())) (
 some (0,()))))))
def E(lf:Nat):Entry:=⟨[(.pair (.int .i64) (.pair (.int .i64) (.pair yV .unit))),(.int .i64),(.int .i64)],[(.int .i64)],fun x=>f lf x.1 x.2.1 x.2.2.1⟩
theorem ok(lf:Nat):Ok 116 (E lf):=okT (an:=(annsL [])) (lf:=lf) (tC (dA.ok lf) (tC (dV.ok lf) tN)) aoN fun x=>by kernel_rfl
end iU
namespace dm
def anns:FuncId→FA:=annsL [(66,⟨annOf [(0,⟨kx 57 [0,1,5,6],[],[]⟩,⟨kx 57 [1,4,5],[],[]⟩)],none,[]⟩)]
def r0{ρ:Type}(lf:Nat)(v0:List (Int×(Int×(TV×Unit))))(v1:Int)(v2 v3:Int)(K:Int→Int→Option ρ)(E0:Int→Int→Option ρ)(E1:Int→Option ρ):Option ρ :=
 br (decide (v3 < ((v0.length:Nat):Int))) (
 bd (idxL v0 v3) fun y1 =>
 bd (iU.f lf y1 v2 v1) fun r2 =>
 br (r2.1 != 0) (
 E0 r2.1 v2) (
 br (decide (v3 > 0)) (
 bd (idxL v0 (i64.wrap (v3-1))) fun y3 =>
 bd (idxL v0 v3) fun y4 =>
 bd (some (((y3.2.2.1.1.1==y4.2.2.1.1.1)&&((y3.2.2.1.1.2.1==y4.2.2.1.1.2.1)&&((y3.2.2.1.1.2.2.1==y4.2.2.1.1.2.2.1)&&true)))&&(((y3.2.2.1.2.1.1==y4.2.2.1.2.1.1)&&((y3.2.2.1.2.1.2.1==y4.2.2.1.2.1.2.1)&&((y3.2.2.1.2.1.2.2.1==y4.2.2.1.2.1.2.2.1)&&true)))&&true))) fun r5 =>
 br r5 (
 E0 7 v2) (
 bd (idxL v0 v3) fun y6 =>
 K y6.2.1 (i64.wrap (v3+1)))) (
 bd (idxL v0 v3) fun y7 =>
 K y7.2.1 (i64.wrap (v3+1))))) (
 E1 v2)
def l0(lf:Nat)(v0:List (Int×(Int×(TV×Unit))))(v1:Int):Nat→Int→Int→Option (Bool×(Int×Int×Unit)×(Int×Unit)×Unit)
 | 0,_,_=>none
 | n+1,v2,v3=>r0 lf v0 v1 v2 v3 (l0 lf v0 v1 n) (fun w0 w1=>some (true,(w0,w1,()),((0,()),()))) (fun w0=>some (false,(0,0,()),((w0,()),())))
def sh0:ShS:=⟨[.s (.sl (.pair (.int .i64) (.pair (.int .i64) (.pair yV .unit)))),.s (.int .i64),.a 3,.s (.int .i64),.s (.int .i64),.a 50],[]⟩
def S0(p:(List (Int×(Int×(TV×Unit))))×Int×Int×Int×Unit):St:=sh0.b p
def xh0:ShS:=⟨[.a 1,.s (.int .i64),.a 2,.s (.int .i64),.s (.int .i64),.a 51],[]⟩
def xh1:ShS:=⟨[.a 1,.s (.int .i64),.a 3,.s (.int .i64),.a 51],[]⟩
def o0(v0:List (Int×(Int×(TV×Unit))))(v1:Int)(y:Bool×(Int×Int×Unit)×(Int×Unit)×Unit):Alt:=.two y.1 (.one .ret (xh0.b (v1,y.2.1.1,y.2.1.2.1,()))) (.one (.exit 0) (xh1.b (v1,y.2.2.1.1,())))
def tb(lf:Nat):List (FuncId×Entry):=[(116,iU.E lf)]
def ac5(lf:Nat):List (Nat×(St→Option LTE)):=[(0,sumE sh0 fun(p:(List (Int×(Int×(TV×Unit))))×Int×Int×Int×Unit)=>⟨Bool×(Int×Int×Unit)×(Int×Unit)×Unit,l0 lf p.1 p.2.1 (lf+40) p.2.2.1 p.2.2.2.1,o0 p.1 p.2.1⟩)]
def ls(lf:Nat):List (Nat×FuncId×Sums):=[(13,66,sumsL (ac5 lf))]
def it0{ρ:Type}(lf n:Nat)(st:St)(k:KE ρ):Option ρ:=itG anns (ls lf) (tb lf) lf 13 66 0 0 (sumsL (ac5 lf)) n st k
theorem t0{ρ:Type}(lf n:Nat)(v0:List (Int×(Int×(TV×Unit))))(v1 v2 v3:Int)(k:KE ρ):it0 lf (n+1) (S0 (v0,v1,v2,v3,())) k=r0 lf v0 v1 v2 v3 (fun x0 x1=>it0 lf n (S0 (v0,v1,x0,x1,())) k) (fun w0 w1=>k .ret (xh0.b (v1,w0,w1,()))) (fun w0=>k (.exit 0) (xh1.b (v1,w0,()))):=by kernel_rfl
theorem u0{ρ:Type}(lf:Nat)(v0:List (Int×(Int×(TV×Unit))))(v1:Int)(k:KE ρ):∀ (n:Nat) (v2 v3:Int),it0 lf n (S0 (v0,v1,v2,v3,())) k=bd (l0 lf v0 v1 n v2 v3) fun y=>altK k (o0 v0 v1 y)
 | 0,_,_=>by rw[l0,bd_none];rfl
 | n+1,v2,v3=>by
  rw[t0];simp only[l0,r0,u0 lf v0 v1 k n,bd_br,bd_bd,bd_some',bd_none,br_t,br_f,o0,altK]
theorem sl(lf:Nat):SL anns (ls lf) (tb lf) lf (ls lf):=slC (laC (fun _=>by kernel_rfl) (fun _ (x:(List (Int×(Int×(TV×Unit))))×Int×Int×Int×Unit) k=>aS (u0 lf x.1 x.2.1 k (lf+40) x.2.2.1 x.2.2.2.1)) laN) slN
def f(lf:Nat)(a0:List (Int×(Int×(TV×Unit))))(a1:Int):Option (Int×Unit) :=
 br (decide (a1 < 1)) (
 some (2,())) (
 br (decide (a1 > 32)) (
 some (2,())) (
 br (((a0.length:Nat):Int)==0) (
 some (20,())) (
 bd (l0 lf a0 a1 (lf+40) 0 0) fun z8 =>
 br z8.1 (
 some (z8.2.1.1,())) (
 br (z8.2.2.1.1 != a1) (
 some (20,())) (
 some (0,()))))))
def E(lf:Nat):Entry:=⟨[(.sl (.pair (.int .i64) (.pair (.int .i64) (.pair yV .unit)))),(.int .i64)],[(.int .i64)],fun x=>f lf x.1 x.2.1⟩
theorem ok(lf:Nat):Ok 66 (E lf):=okL (tC (iU.ok lf) tN) (aoC aoN) (sl lf) fun x=>by kernel_rfl
end dm
namespace fM
def f(lf:Nat)(a0:List (Int×(Int×(TV×Unit))))(a1:List (Int×(Int×(TV×Unit))))(a2:Int):Option (Int×Unit) :=
 bd (dm.f lf a0 a2) fun r1 =>
 br (r1.1 != 0) (
 some (r1.1,())) (
 bd (dm.f lf a1 a2) fun r2 =>
 some (r2.1,()))
def E(lf:Nat):Entry:=⟨[(.sl (.pair (.int .i64) (.pair (.int .i64) (.pair yV .unit)))),(.sl (.pair (.int .i64) (.pair (.int .i64) (.pair yV .unit)))),(.int .i64)],[(.int .i64)],fun x=>f lf x.1 x.2.1 x.2.2.1⟩
theorem ok(lf:Nat):Ok 27 (E lf):=okT (an:=(annsL [])) (lf:=lf) (tC (dm.ok lf) tN) aoN fun x=>by kernel_rfl
end fM
end
end Go.Q
