import Derived.Test.YtgbokahnpmmfoaaGreatDoorProg
import Derived.KernelRfl
import Derived.Test.YtgbokahnpmmfoaaGreatDoorSHE3
import Derived.Test.YtgbokahnpmmfoaaGreatDoorSHG1
import Derived.Test.YtgbokahnpmmfoaaGreatDoorSHG3
import Derived.Test.YtgbokahnpmmfoaaGreatDoorSHG5
set_option linter.unusedVariables false
set_option linter.unusedSimpArgs false
set_option linter.unusedSectionVars false
set_option maxRecDepth 100000
namespace Go.Q
open Go Go.RowKit
open Go.Rx (br bd sIdx sCat sCut iQuo iRem)
noncomputable section
namespace kS
def f(lf:Nat)(a0:ByteArray):Option (TV×Unit) :=
 some (((false,a0,a0,()),(false,(⟨#[48]⟩:ByteArray),a0,()),()),())
def E(lf:Nat):Entry:=⟨[.str],[yV],fun x=>f lf x.1⟩
theorem ok(lf:Nat):Ok 180 (E lf):=okT (an:=(annsL [])) (lf:=lf) tN aoN fun x=>by kernel_rfl
end kS
namespace jm
def f(lf:Nat)  : Option (TV×Unit) :=
 some (((true,(⟨#[]⟩:ByteArray),(⟨#[]⟩:ByteArray),()),(true,(⟨#[]⟩:ByteArray),(⟨#[]⟩:ByteArray),()),()),())
def E(lf:Nat):Entry:=⟨[],[yV],fun x=>f lf⟩
theorem ok(lf:Nat):Ok 265 (E lf):=okT (an:=(annsL [])) (lf:=lf) tN aoN fun x=>by kernel_rfl
end jm
namespace aY
def f(lf:Nat)(a0:ByteArray):Option (ByteArray×Unit) :=
 bd (strings_TrimPrefix.f lf a0 (⟨#[45]⟩:ByteArray)) fun r1 =>
 br (decide (((r1.1.size:Nat):Int) > 100)) (
 some ((⟨#[]⟩:ByteArray),())) (
 some (a0,()))
def E(lf:Nat):Entry:=⟨[.str],[.str],fun x=>f lf x.1⟩
theorem ok(lf:Nat):Ok 178 (E lf):=okT (an:=(annsL [])) (lf:=lf) (tC (strings_TrimPrefix.ok lf) tN) aoN fun x=>by kernel_rfl
end aY
namespace iL
def f(lf:Nat)(a0:TI)(a1:TI):Option (TV×Unit) :=
 br a0.1 (
 bd (jm.f lf) fun r1 =>
 some (r1.1,())) (
 br a1.1 (
 bd (jm.f lf) fun r2 =>
 some (r2.1,())) (
 br (a1.2.1.toList==(⟨#[48]⟩:ByteArray).toList) (
 bd (jA.f lf a0 a1.2.2.1) fun r3 =>
 br (!r3.1) (
 bd (jm.f lf) fun r4 =>
 some (r4.1,())) (
 bd (kS.f lf a1.2.2.1) fun r5 =>
 some (r5.1,()))) (
 br (!(a0.2.1.toList==(⟨#[]⟩:ByteArray).toList)) (
 bd (jX.f lf a1 a0.2.1) fun r6 =>
 br (!(a0.2.2.1.toList==(⟨#[]⟩:ByteArray).toList)) (
 bd (gU.f lf a1 a0.2.2.1) fun r7 =>
 br (!(r6.1.toList==(⟨#[]⟩:ByteArray).toList)) (
 br (!(r7.1.toList==(⟨#[]⟩:ByteArray).toList)) (
 bd (dX.f lf r6.1 r7.1) fun r8 =>
 br (decide (r8.1 > 0)) (
 bd (jm.f lf) fun r9 =>
 some (r9.1,())) (
 br (r8.1==0) (
 bd (kS.f lf r6.1) fun r10 =>
 some (r10.1,())) (
 bd (aY.f lf r6.1) fun r11 =>
 bd (aY.f lf r7.1) fun r12 =>
 some (((false,r11.1,r12.1,()),a1,()),())))) (
 bd (aY.f lf r6.1) fun r13 =>
 bd (aY.f lf r7.1) fun r14 =>
 some (((false,r13.1,r14.1,()),a1,()),()))) (
 bd (aY.f lf r6.1) fun r15 =>
 bd (aY.f lf r7.1) fun r16 =>
 some (((false,r15.1,r16.1,()),a1,()),()))) (
 br (!(r6.1.toList==(⟨#[]⟩:ByteArray).toList)) (
 br (!(a0.2.2.1.toList==(⟨#[]⟩:ByteArray).toList)) (
 bd (dX.f lf r6.1 a0.2.2.1) fun r17 =>
 br (decide (r17.1 > 0)) (
 bd (jm.f lf) fun r18 =>
 some (r18.1,())) (
 br (r17.1==0) (
 bd (kS.f lf r6.1) fun r19 =>
 some (r19.1,())) (
 bd (aY.f lf r6.1) fun r20 =>
 bd (aY.f lf a0.2.2.1) fun r21 =>
 some (((false,r20.1,r21.1,()),a1,()),())))) (
 bd (aY.f lf r6.1) fun r22 =>
 bd (aY.f lf a0.2.2.1) fun r23 =>
 some (((false,r22.1,r23.1,()),a1,()),()))) (
 bd (aY.f lf r6.1) fun r24 =>
 bd (aY.f lf a0.2.2.1) fun r25 =>
 some (((false,r24.1,r25.1,()),a1,()),())))) (
 br (!(a0.2.2.1.toList==(⟨#[]⟩:ByteArray).toList)) (
 bd (gU.f lf a1 a0.2.2.1) fun r26 =>
 br (!(a0.2.1.toList==(⟨#[]⟩:ByteArray).toList)) (
 br (!(r26.1.toList==(⟨#[]⟩:ByteArray).toList)) (
 bd (dX.f lf a0.2.1 r26.1) fun r27 =>
 br (decide (r27.1 > 0)) (
 bd (jm.f lf) fun r28 =>
 some (r28.1,())) (
 br (r27.1==0) (
 bd (kS.f lf a0.2.1) fun r29 =>
 some (r29.1,())) (
 bd (aY.f lf a0.2.1) fun r30 =>
 bd (aY.f lf r26.1) fun r31 =>
 some (((false,r30.1,r31.1,()),a1,()),())))) (
 bd (aY.f lf a0.2.1) fun r32 =>
 bd (aY.f lf r26.1) fun r33 =>
 some (((false,r32.1,r33.1,()),a1,()),()))) (
 bd (aY.f lf a0.2.1) fun r34 =>
 bd (aY.f lf r26.1) fun r35 =>
 some (((false,r34.1,r35.1,()),a1,()),()))) (
 br (!(a0.2.1.toList==(⟨#[]⟩:ByteArray).toList)) (
 br (!(a0.2.2.1.toList==(⟨#[]⟩:ByteArray).toList)) (
 bd (dX.f lf a0.2.1 a0.2.2.1) fun r36 =>
 br (decide (r36.1 > 0)) (
 bd (jm.f lf) fun r37 =>
 some (r37.1,())) (
 br (r36.1==0) (
 bd (kS.f lf a0.2.1) fun r38 =>
 some (r38.1,())) (
 bd (aY.f lf a0.2.1) fun r39 =>
 bd (aY.f lf a0.2.2.1) fun r40 =>
 some (((false,r39.1,r40.1,()),a1,()),())))) (
 bd (aY.f lf a0.2.1) fun r41 =>
 bd (aY.f lf a0.2.2.1) fun r42 =>
 some (((false,r41.1,r42.1,()),a1,()),()))) (
 bd (aY.f lf a0.2.1) fun r43 =>
 bd (aY.f lf a0.2.2.1) fun r44 =>
 some (((false,r43.1,r44.1,()),a1,()),())))))))
def E(lf:Nat):Entry:=⟨[yI,yI],[yV],fun x=>f lf x.1 x.2.1⟩
theorem ok(lf:Nat):Ok 155 (E lf):=okT (an:=(annsL [])) (lf:=lf) (tC (jA.ok lf) (tC (aY.ok lf) (tC (kS.ok lf) (tC (jm.ok lf) (tC (jX.ok lf) (tC (gU.ok lf) (tC (dX.ok lf) tN))))))) aoN fun x=>by kernel_rfl
end iL
namespace nZ
def f(lf:Nat)(a0:TI)(a1:TI):Option (Int×Unit) :=
 bd (bP.f lf a0) fun r1 =>
 br (r1.1 != 0) (
 some (r1.1,())) (
 bd (bC.f lf a1) fun r2 =>
 some (r2.1,()))
def E(lf:Nat):Entry:=⟨[yI,yI],[(.int .i64)],fun x=>f lf x.1 x.2.1⟩
theorem ok(lf:Nat):Ok 166 (E lf):=okT (an:=(annsL [])) (lf:=lf) (tC (bP.ok lf) (tC (bC.ok lf) tN)) aoN fun x=>by kernel_rfl
end nZ
namespace dQ
def f(lf:Nat)(a0:TV):Option (Int×Unit) :=
 bd (nZ.f lf a0.1 a0.2.1) fun r1 =>
 br (r1.1 != 0) (
 some (r1.1,())) (
 bd (iL.f lf a0.1 a0.2.1) fun r2 =>
 bd (some (!(((r2.1.1.1==a0.1.1)&&((r2.1.1.2.1==a0.1.2.1)&&((r2.1.1.2.2.1==a0.1.2.2.1)&&true)))&&(((r2.1.2.1.1==a0.2.1.1)&&((r2.1.2.1.2.1==a0.2.1.2.1)&&((r2.1.2.1.2.2.1==a0.2.1.2.2.1)&&true)))&&true)))) fun r3 =>
 br r3 (
 some (3,())) (
 some (0,())))
def E(lf:Nat):Entry:=⟨[yV],[(.int .i64)],fun x=>f lf x.1⟩
theorem ok(lf:Nat):Ok 118 (E lf):=okT (an:=(annsL [])) (lf:=lf) (tC (iL.ok lf) (tC (nZ.ok lf) tN)) aoN fun x=>by kernel_rfl
end dQ
namespace ny
def f(lf:Nat)(a0:TV)(a1:TV):Option (Int×Unit) :=
 bd (dQ.f lf a0) fun r1 =>
 br (r1.1 != 0) (
 some (r1.1,())) (
 bd (dQ.f lf a1) fun r2 =>
 some (r2.1,()))
def E(lf:Nat):Entry:=⟨[yV,yV],[(.int .i64)],fun x=>f lf x.1 x.2.1⟩
theorem ok(lf:Nat):Ok 149 (E lf):=okT (an:=(annsL [])) (lf:=lf) (tC (dQ.ok lf) tN) aoN fun x=>by kernel_rfl
end ny
namespace nJ
def f(lf:Nat)(a0:TV)(a1:TV):Option (TV×Int×Unit) :=
 bd (ny.f lf a0 a1) fun r1 =>
 br (r1.1 != 0) (
 some (((false,(⟨#[]⟩:ByteArray),(⟨#[]⟩:ByteArray),()),(false,(⟨#[]⟩:ByteArray),(⟨#[]⟩:ByteArray),()),()),r1.1,())) (
 bd (pY.f lf a0.1 a1.1) fun r2 =>
 br (r2.2.1 != 0) (
 some (((false,(⟨#[]⟩:ByteArray),(⟨#[]⟩:ByteArray),()),(false,(⟨#[]⟩:ByteArray),(⟨#[]⟩:ByteArray),()),()),r2.2.1,())) (
 bd (oq.f lf a0.2.1 a1.2.1) fun r3 =>
 br (r3.2.1 != 0) (
 some (((false,(⟨#[]⟩:ByteArray),(⟨#[]⟩:ByteArray),()),(false,(⟨#[]⟩:ByteArray),(⟨#[]⟩:ByteArray),()),()),r3.2.1,())) (
 bd (iL.f lf r2.1 r3.1) fun r4 =>
 some (r4.1,0,()))))
def E(lf:Nat):Entry:=⟨[yV,yV],[yV,(.int .i64)],fun x=>f lf x.1 x.2.1⟩
theorem ok(lf:Nat):Ok 70 (E lf):=okT (an:=(annsL [])) (lf:=lf) (tC (pY.ok lf) (tC (oq.ok lf) (tC (ny.ok lf) (tC (iL.ok lf) tN)))) aoN fun x=>by kernel_rfl
end nJ
namespace xh
def f(lf:Nat)  : Option (TV×Unit) :=
 some (((false,(⟨#[]⟩:ByteArray),(⟨#[]⟩:ByteArray),()),(false,(⟨#[49]⟩:ByteArray),(⟨#[48]⟩:ByteArray),()),()),())
def E(lf:Nat):Entry:=⟨[],[yV],fun x=>f lf⟩
theorem ok(lf:Nat):Ok 179 (E lf):=okT (an:=(annsL [])) (lf:=lf) tN aoN fun x=>by kernel_rfl
end xh
namespace zI
def f(lf:Nat)(a0:ByteArray):Option (TV×Int×Unit) :=
 bd (aW.f lf a0) fun r1 =>
 br (r1.1 != 0) (
 some (((false,(⟨#[]⟩:ByteArray),(⟨#[]⟩:ByteArray),()),(false,(⟨#[]⟩:ByteArray),(⟨#[]⟩:ByteArray),()),()),r1.1,())) (
 bd (aY.f lf a0) fun r2 =>
 br (r2.1.toList==(⟨#[]⟩:ByteArray).toList) (
 bd (xh.f lf) fun r3 =>
 some (r3.1,0,())) (
 bd (kS.f lf a0) fun r4 =>
 some (r4.1,0,())))
def E(lf:Nat):Entry:=⟨[.str],[yV,(.int .i64)],fun x=>f lf x.1⟩
theorem ok(lf:Nat):Ok 129 (E lf):=okT (an:=(annsL [])) (lf:=lf) (tC (aW.ok lf) (tC (aY.ok lf) (tC (xh.ok lf) (tC (kS.ok lf) tN)))) aoN fun x=>by kernel_rfl
end zI
namespace dR
def f(lf:Nat)(a0:TV)(a1:ByteArray):Option (Bool×Int×Unit) :=
 bd (dQ.f lf a0) fun r1 =>
 br (r1.1 != 0) (
 some (false,r1.1,())) (
 bd (jA.f lf a0.1 a1) fun r2 =>
 br (r2.2.1 != 0) (
 some (false,r2.2.1,())) (
 bd (jW.f lf a0.2.1 a1) fun r3 =>
 br r2.1 (
 br r3.1 (
 some ((r3.2.1==0),r3.2.1,())) (
 some (false,r3.2.1,()))) (
 some (false,r3.2.1,()))))
def E(lf:Nat):Entry:=⟨[yV,.str],[.bool,(.int .i64)],fun x=>f lf x.1 x.2.1⟩
theorem ok(lf:Nat):Ok 86 (E lf):=okT (an:=(annsL [])) (lf:=lf) (tC (dQ.ok lf) (tC (jA.ok lf) (tC (jW.ok lf) tN))) aoN fun x=>by kernel_rfl
end dR
namespace jM
def f(lf:Nat)(a0:TV)(a1:TV):Option (TV×Int×Unit) :=
 bd (ny.f lf a0 a1) fun r1 =>
 br (r1.1 != 0) (
 some (((false,(⟨#[]⟩:ByteArray),(⟨#[]⟩:ByteArray),()),(false,(⟨#[]⟩:ByteArray),(⟨#[]⟩:ByteArray),()),()),r1.1,())) (
 bd (pX.f lf a0.1 a1.1) fun r2 =>
 br (r2.2.1 != 0) (
 some (((false,(⟨#[]⟩:ByteArray),(⟨#[]⟩:ByteArray),()),(false,(⟨#[]⟩:ByteArray),(⟨#[]⟩:ByteArray),()),()),r2.2.1,())) (
 bd (oh.f lf a0.2.1 a1.2.1) fun r3 =>
 br (r3.2.1 != 0) (
 some (((false,(⟨#[]⟩:ByteArray),(⟨#[]⟩:ByteArray),()),(false,(⟨#[]⟩:ByteArray),(⟨#[]⟩:ByteArray),()),()),r3.2.1,())) (
 bd (iL.f lf r2.1 r3.1) fun r4 =>
 some (r4.1,0,()))))
def E(lf:Nat):Entry:=⟨[yV,yV],[yV,(.int .i64)],fun x=>f lf x.1 x.2.1⟩
theorem ok(lf:Nat):Ok 64 (E lf):=okT (an:=(annsL [])) (lf:=lf) (tC (pX.ok lf) (tC (oh.ok lf) (tC (ny.ok lf) (tC (iL.ok lf) tN)))) aoN fun x=>by kernel_rfl
end jM
namespace jl
def f(lf:Nat)(a0:TV):Option (ByteArray×Int×Unit) :=
 bd (dQ.f lf a0) fun r1 =>
 br (r1.1 != 0) (
 some ((⟨#[]⟩:ByteArray),r1.1,())) (
 bd (kQ.f lf a0.1) fun r2 =>
 br (!a0.2.1.1) (
 br (!(a0.2.1.2.1.toList==(⟨#[48]⟩:ByteArray).toList)) (
 br (!(a0.2.1.2.1.toList==(⟨#[49]⟩:ByteArray).toList)) (
 bd (sCat (⟨#[32,109,111,100,32]⟩:ByteArray) a0.2.1.2.1) fun r3 =>
 bd (sCat r3 (⟨#[32,61,32]⟩:ByteArray)) fun r4 =>
 bd (sCat r4 a0.2.1.2.2.1) fun r5 =>
 bd (sCat r2.1 r5) fun r6 =>
 some (r6,r2.2.1,())) (
 some (r2.1,r2.2.1,()))) (
 some (r2.1,r2.2.1,()))) (
 some (r2.1,r2.2.1,())))
def E(lf:Nat):Entry:=⟨[yV],[.str,(.int .i64)],fun x=>f lf x.1⟩
theorem ok(lf:Nat):Ok 90 (E lf):=okT (an:=(annsL [])) (lf:=lf) (tC (dQ.ok lf) (tC (kQ.ok lf) tN)) aoN fun x=>by kernel_rfl
end jl
end
end Go.Q
namespace Go.Q
open Go Go.RowKit
open Go.Rx (br bd sIdx sCat sCut iQuo iRem)
noncomputable section
namespace jb
def f(lf:Nat)(a0:TV)(a1:TV):Option (Bool×Unit) :=
 bd (jK.f lf a0.1 a1.1) fun r1 =>
 br r1.1 (
 bd (ja.f lf a0.2.1) fun r2 =>
 br r2.1 (
 bd (ja.f lf a1.2.1) fun r3 =>
 some (r3.1,())) (
 some (false,()))) (
 some (false,()))
def E(lf:Nat):Entry:=⟨[yV,yV],[.bool],fun x=>f lf x.1 x.2.1⟩
theorem ok(lf:Nat):Ok 11 (E lf):=okT (an:=(annsL [])) (lf:=lf) (tC (jK.ok lf) (tC (ja.ok lf) tN)) aoN fun x=>by kernel_rfl
end jb
namespace cZ
def f(lf:Nat)  : Option (TV×Unit) :=
 bd (fP.f lf) fun r1 =>
 bd (jT.f lf) fun r2 =>
 some ((r1.1,r2.1,()),())
def E(lf:Nat):Entry:=⟨[],[yV],fun x=>f lf⟩
theorem ok(lf:Nat):Ok 21 (E lf):=okT (an:=(annsL [])) (lf:=lf) (tC (fP.ok lf) (tC (jT.ok lf) tN)) aoN fun x=>by kernel_rfl
end cZ
namespace gJ
def f(lf:Nat)  : Option (TV×Unit) :=
 bd (eP.f lf) fun r1 =>
 some (((false,(⟨#[]⟩:ByteArray),(⟨#[]⟩:ByteArray),()),r1.1,()),())
def E(lf:Nat):Entry:=⟨[],[yV],fun x=>f lf⟩
theorem ok(lf:Nat):Ok 59 (E lf):=okT (an:=(annsL [])) (lf:=lf) (tC (eP.ok lf) tN) aoN fun x=>by kernel_rfl
end gJ
namespace gI
def f(lf:Nat)(a0:ByteArray):Option (TV×Unit) :=
 bd (jL.f lf a0) fun r1 =>
 br (!(r1.1.2.1.toList==(⟨#[48]⟩:ByteArray).toList)) (
 bd (gJ.f lf) fun r2 =>
 some (r2.1,())) (
 some (((false,a0,a0,()),r1.1,()),()))
def E(lf:Nat):Entry:=⟨[.str],[yV],fun x=>f lf x.1⟩
theorem ok(lf:Nat):Ok 28 (E lf):=okT (an:=(annsL [])) (lf:=lf) (tC (gJ.ok lf) (tC (jL.ok lf) tN)) aoN fun x=>by kernel_rfl
end gI
namespace bZ
def f(lf:Nat)(a0:TI)(a1:TI):Option (TV×Unit) :=
 br a0.1 (
 bd (cZ.f lf) fun r1 =>
 some (r1.1,())) (
 br a1.1 (
 bd (cZ.f lf) fun r2 =>
 some (r2.1,())) (
 br (a1.2.1.toList==(⟨#[48]⟩:ByteArray).toList) (
 bd (iH.f lf a0 a1.2.2.1) fun r3 =>
 br (!r3.1) (
 bd (cZ.f lf) fun r4 =>
 some (r4.1,())) (
 some (((false,a1.2.2.1,a1.2.2.1,()),a1,()),()))) (
 br (!(a0.2.1.toList==(⟨#[]⟩:ByteArray).toList)) (
 bd (fC.f lf a1 a0.2.1) fun r5 =>
 br (!(a0.2.2.1.toList==(⟨#[]⟩:ByteArray).toList)) (
 bd (ig.f lf a1 a0.2.2.1) fun r6 =>
 br (!(r5.1.toList==(⟨#[]⟩:ByteArray).toList)) (
 br (!(r6.1.toList==(⟨#[]⟩:ByteArray).toList)) (
 bd (aC.f lf r6.1 r5.1) fun r7 =>
 br r7.1 (
 bd (cZ.f lf) fun r8 =>
 some (r8.1,())) (
 br (r5.1.toList==r6.1.toList) (
 bd (gI.f lf r5.1) fun r9 =>
 some (r9.1,())) (
 bd (aN.f lf r5.1 r6.1) fun r10 =>
 some ((r10.1,a1,()),())))) (
 bd (aN.f lf r5.1 r6.1) fun r11 =>
 some ((r11.1,a1,()),()))) (
 bd (aN.f lf r5.1 r6.1) fun r12 =>
 some ((r12.1,a1,()),()))) (
 br (!(r5.1.toList==(⟨#[]⟩:ByteArray).toList)) (
 br (!(a0.2.2.1.toList==(⟨#[]⟩:ByteArray).toList)) (
 bd (aC.f lf a0.2.2.1 r5.1) fun r13 =>
 br r13.1 (
 bd (cZ.f lf) fun r14 =>
 some (r14.1,())) (
 br (r5.1.toList==a0.2.2.1.toList) (
 bd (gI.f lf r5.1) fun r15 =>
 some (r15.1,())) (
 bd (aN.f lf r5.1 a0.2.2.1) fun r16 =>
 some ((r16.1,a1,()),())))) (
 bd (aN.f lf r5.1 a0.2.2.1) fun r17 =>
 some ((r17.1,a1,()),()))) (
 bd (aN.f lf r5.1 a0.2.2.1) fun r18 =>
 some ((r18.1,a1,()),())))) (
 br (!(a0.2.2.1.toList==(⟨#[]⟩:ByteArray).toList)) (
 bd (ig.f lf a1 a0.2.2.1) fun r19 =>
 br (!(a0.2.1.toList==(⟨#[]⟩:ByteArray).toList)) (
 br (!(r19.1.toList==(⟨#[]⟩:ByteArray).toList)) (
 bd (aC.f lf r19.1 a0.2.1) fun r20 =>
 br r20.1 (
 bd (cZ.f lf) fun r21 =>
 some (r21.1,())) (
 br (a0.2.1.toList==r19.1.toList) (
 bd (gI.f lf a0.2.1) fun r22 =>
 some (r22.1,())) (
 bd (aN.f lf a0.2.1 r19.1) fun r23 =>
 some ((r23.1,a1,()),())))) (
 bd (aN.f lf a0.2.1 r19.1) fun r24 =>
 some ((r24.1,a1,()),()))) (
 bd (aN.f lf a0.2.1 r19.1) fun r25 =>
 some ((r25.1,a1,()),()))) (
 br (!(a0.2.1.toList==(⟨#[]⟩:ByteArray).toList)) (
 br (!(a0.2.2.1.toList==(⟨#[]⟩:ByteArray).toList)) (
 bd (aC.f lf a0.2.2.1 a0.2.1) fun r26 =>
 br r26.1 (
 bd (cZ.f lf) fun r27 =>
 some (r27.1,())) (
 br (a0.2.1.toList==a0.2.2.1.toList) (
 bd (gI.f lf a0.2.1) fun r28 =>
 some (r28.1,())) (
 bd (aN.f lf a0.2.1 a0.2.2.1) fun r29 =>
 some ((r29.1,a1,()),())))) (
 bd (aN.f lf a0.2.1 a0.2.2.1) fun r30 =>
 some ((r30.1,a1,()),()))) (
 bd (aN.f lf a0.2.1 a0.2.2.1) fun r31 =>
 some ((r31.1,a1,()),())))))))
def E(lf:Nat):Entry:=⟨[yI,yI],[yV],fun x=>f lf x.1 x.2.1⟩
theorem ok(lf:Nat):Ok 58 (E lf):=okT (an:=(annsL [])) (lf:=lf) (tC (cZ.ok lf) (tC (gI.ok lf) (tC (iH.ok lf) (tC (aN.ok lf) (tC (fC.ok lf) (tC (ig.ok lf) (tC (aC.ok lf) tN))))))) aoN fun x=>by kernel_rfl
end bZ
namespace dI
def f(lf:Nat)(a0:TV):Option (Int×Unit) :=
 bd (gZ.f lf a0.1) fun r1 =>
 br (r1.1 != 0) (
 some (r1.1,())) (
 bd (iq.f lf a0.2.1) fun r2 =>
 br (r2.1 != 0) (
 some (r2.1,())) (
 bd (bZ.f lf a0.1 a0.2.1) fun r3 =>
 bd (some (!(((r3.1.1.1==a0.1.1)&&((r3.1.1.2.1==a0.1.2.1)&&((r3.1.1.2.2.1==a0.1.2.2.1)&&true)))&&(((r3.1.2.1.1==a0.2.1.1)&&((r3.1.2.1.2.1==a0.2.1.2.1)&&((r3.1.2.1.2.2.1==a0.2.1.2.2.1)&&true)))&&true)))) fun r4 =>
 br r4 (
 some (3,())) (
 some (0,()))))
def E(lf:Nat):Entry:=⟨[yV],[(.int .i64)],fun x=>f lf x.1⟩
theorem ok(lf:Nat):Ok 42 (E lf):=okT (an:=(annsL [])) (lf:=lf) (tC (bZ.ok lf) (tC (gZ.ok lf) (tC (iq.ok lf) tN))) aoN fun x=>by kernel_rfl
end dI
namespace jq
def f(lf:Nat)(a0:TV)(a1:ByteArray):Option (Bool×Unit) :=
 bd (iH.f lf a0.1 a1) fun r1 =>
 br r1.1 (
 bd (kE.f lf a0.2.1 a1) fun r2 =>
 some (r2.1,())) (
 some (false,()))
def E(lf:Nat):Entry:=⟨[yV,.str],[.bool],fun x=>f lf x.1 x.2.1⟩
theorem ok(lf:Nat):Ok 41 (E lf):=okT (an:=(annsL [])) (lf:=lf) (tC (iH.ok lf) (tC (kE.ok lf) tN)) aoN fun x=>by kernel_rfl
end jq
namespace dB
def f(lf:Nat)(a0:TV):Option (ByteArray×Unit) :=
 bd (jE.f lf a0.1) fun r1 =>
 br (!a0.2.1.1) (
 br (!(a0.2.1.2.1.toList==(⟨#[48]⟩:ByteArray).toList)) (
 br (!(a0.2.1.2.1.toList==(⟨#[49]⟩:ByteArray).toList)) (
 bd (sCat (⟨#[32,109,111,100,32]⟩:ByteArray) a0.2.1.2.1) fun r2 =>
 bd (sCat r2 (⟨#[32,61,32]⟩:ByteArray)) fun r3 =>
 bd (sCat r3 a0.2.1.2.2.1) fun r4 =>
 bd (sCat r1.1 r4) fun r5 =>
 some (r5,())) (
 some (r1.1,()))) (
 some (r1.1,()))) (
 some (r1.1,()))
def E(lf:Nat):Entry:=⟨[yV],[.str],fun x=>f lf x.1⟩
theorem ok(lf:Nat):Ok 142 (E lf):=okT (an:=(annsL [])) (lf:=lf) (tC (jE.ok lf) tN) aoN fun x=>by kernel_rfl
end dB
end
end Go.Q
namespace Go.Q
open Go.IntKind (i64)
open Go Go.RowKit
open Go.Rx (br bd sIdx sCat sCut iQuo iRem)
noncomputable section
namespace dO
def anns:FuncId→FA:=annsL [(10,⟨annOf [(0,⟨kx 25 [0,3],[],[]⟩,⟨kx 25 [2],[],[]⟩)],none,[]⟩)]
def r0{ρ:Type}(lf:Nat)(v0:List (Int×(Int×(TV×Unit))))(v1:Int)(K:Int→Option ρ)(E0:Option ρ)(E1:Option ρ):Option ρ :=
 br (decide (v1 < ((v0.length:Nat):Int))) (
 bd (idxL v0 v1) fun y1 =>
 bd (idxL v0 v1) fun y2 =>
 bd (jb.f lf y1.2.2.1 y2.2.2.1) fun r3 =>
 br (!r3.1) (
 E0) (
 K (i64.wrap (v1+1)))) (
 E1)
def l0(lf:Nat)(v0:List (Int×(Int×(TV×Unit)))):Nat→Int→Option (Bool×(Unit)×(Unit)×Unit)
 | 0,_=>none
 | n+1,v1=>r0 lf v0 v1 (l0 lf v0 n) (some (true,(()),((()),()))) (some (false,(()),((()),())))
def sh0:ShS:=⟨[.s (.sl (.pair (.int .i64) (.pair (.int .i64) (.pair yV .unit)))),.a 2,.s (.int .i64),.a 21],[]⟩
def S0(p:(List (Int×(Int×(TV×Unit))))×Int×Unit):St:=sh0.b p
def xh0:ShS:=⟨[.a 2,.s .bool,.a 22],[]⟩
def xh1:ShS:=⟨[.a 25],[]⟩
def o0(v0:List (Int×(Int×(TV×Unit))))(y:Bool×(Unit)×(Unit)×Unit):Alt:=.two y.1 (.one .ret (xh0.b (false,()))) (.one (.exit 0) (xh1.b (())))
def tb(lf:Nat):List (FuncId×Entry):=[(11,jb.E lf)]
def agq(lf:Nat):List (Nat×(St→Option LTE)):=[(0,sumE sh0 fun(p:(List (Int×(Int×(TV×Unit))))×Int×Unit)=>⟨Bool×(Unit)×(Unit)×Unit,l0 lf p.1 (lf+40) p.2.1,o0 p.1⟩)]
def ls(lf:Nat):List (Nat×FuncId×Sums):=[(13,10,sumsL (agq lf))]
def it0{ρ:Type}(lf n:Nat)(st:St)(k:KE ρ):Option ρ:=itG anns (ls lf) (tb lf) lf 13 10 0 0 (sumsL (agq lf)) n st k
theorem t0{ρ:Type}(lf n:Nat)(v0:List (Int×(Int×(TV×Unit))))(v1:Int)(k:KE ρ):it0 lf (n+1) (S0 (v0,v1,())) k=r0 lf v0 v1 (fun x0=>it0 lf n (S0 (v0,x0,())) k) (k .ret (xh0.b (false,()))) (k (.exit 0) (xh1.b (()))):=by kernel_rfl
theorem u0{ρ:Type}(lf:Nat)(v0:List (Int×(Int×(TV×Unit))))(k:KE ρ):∀ (n:Nat) (v1:Int),it0 lf n (S0 (v0,v1,())) k=bd (l0 lf v0 n v1) fun y=>altK k (o0 v0 y)
 | 0,_=>by rw[l0,au];rfl
 | n+1,v1=>by
  rw[t0];simp only[l0,r0,u0 lf v0 k n,bG,bF,aF,au,br_t,br_f,o0,altK]
theorem sl(lf:Nat):SL anns (ls lf) (tb lf) lf (ls lf):=slC (laC (fun _=>by kernel_rfl) (fun _ (x:(List (Int×(Int×(TV×Unit))))×Int×Unit) k=>aS (u0 lf x.1 k (lf+40) x.2.1)) laN) slN
def f(lf:Nat)(a0:List (Int×(Int×(TV×Unit)))):Option (Bool×Unit) :=
 br (decide (((a0.length:Nat):Int) > 40)) (
 some (false,())) (
 bd (l0 lf a0 (lf+40) 0) fun z4 =>
 br z4.1 (
 some (false,())) (
 some (true,())))
def E(lf:Nat):Entry:=⟨[(.sl (.pair (.int .i64) (.pair (.int .i64) (.pair yV .unit))))],[.bool],fun x=>f lf x.1⟩
theorem ok(lf:Nat):Ok 10 (E lf):=okL (tC (jb.ok lf) tN) (aoC aoN) (sl lf) fun x=>by kernel_rfl
end dO
namespace fZ
def f(lf:Nat)(a0:TV):Option (Bool×Unit) :=
 some (a0.1.1,())
def E(lf:Nat):Entry:=⟨[yV],[.bool],fun x=>f lf x.1⟩
theorem ok(lf:Nat):Ok 43 (E lf):=okT (an:=(annsL [])) (lf:=lf) tN aoN fun x=>by kernel_rfl
end fZ
namespace jc
def f(lf:Nat)(a0:Int×(Int×(TV×Unit)))(a1:Int)(a2:Int):Option (Int×Unit) :=
 br (a0.1 != a1) (
 some (20,())) (
 br (decide (a0.2.1≤a0.1)) (
 some (15,())) (
 br (decide (a0.2.1 > a2)) (
 some (15,())) (
 bd (dI.f lf a0.2.2.1) fun r1 =>
 br (r1.1 != 0) (
 some (r1.1,())) (
 bd (fZ.f lf a0.2.2.1) fun r2 =>
 br r2.1 (
 some (16,())) (
 some (0,()))))))
def E(lf:Nat):Entry:=⟨[(.pair (.int .i64) (.pair (.int .i64) (.pair yV .unit))),(.int .i64),(.int .i64)],[(.int .i64)],fun x=>f lf x.1 x.2.1 x.2.2.1⟩
theorem ok(lf:Nat):Ok 79 (E lf):=okT (an:=(annsL [])) (lf:=lf) (tC (dI.ok lf) (tC (fZ.ok lf) tN)) aoN fun x=>by kernel_rfl
end jc
namespace aV
def anns:FuncId→FA:=annsL [(27,⟨annOf [(0,⟨kx 57 [0,1,5,6],[],[]⟩,⟨kx 57 [1,4,5],[],[]⟩)],none,[]⟩)]
def r0{ρ:Type}(lf:Nat)(v0:List (Int×(Int×(TV×Unit))))(v1:Int)(v2 v3:Int)(K:Int→Int→Option ρ)(E0:Int→Int→Option ρ)(E1:Int→Option ρ):Option ρ :=
 br (decide (v3 < ((v0.length:Nat):Int))) (
 bd (idxL v0 v3) fun y1 =>
 bd (jc.f lf y1 v2 v1) fun r2 =>
 br (r2.1 != 0) (
 E0 r2.1 v2) (
 br (decide (v3 > 0)) (
 bd (idxL v0 (i64.wrap (v3-1))) fun y3 =>
 bd (idxL v0 v3) fun y4 =>
 bd (some (((y3.2.2.1.1.1==y4.2.2.1.1.1)&&((y3.2.2.1.1.2.1==y4.2.2.1.1.2.1)&&((y3.2.2.1.1.2.2.1==y4.2.2.1.1.2.2.1)&&true)))&&(((y3.2.2.1.2.1.1==y4.2.2.1.2.1.1)&&((y3.2.2.1.2.1.2.1==y4.2.2.1.2.1.2.1)&&((y3.2.2.1.2.1.2.2.1==y4.2.2.1.2.1.2.2.1)&&true)))&&true))) fun r5 =>
 br r5 (
 E0 7 v2) (
 bd (idxL v0 v3) fun y6 =>
 K y6.2.1 (i64.wrap (v3+1)))) (
 bd (idxL v0 v3) fun y7 =>
 K y7.2.1 (i64.wrap (v3+1))))) (
 E1 v2)
def l0(lf:Nat)(v0:List (Int×(Int×(TV×Unit))))(v1:Int):Nat→Int→Int→Option (Bool×(Int×Int×Unit)×(Int×Unit)×Unit)
 | 0,_,_=>none
 | n+1,v2,v3=>r0 lf v0 v1 v2 v3 (l0 lf v0 v1 n) (fun w0 w1=>some (true,(w0,w1,()),((0,()),()))) (fun w0=>some (false,(0,0,()),((w0,()),())))
def sh0:ShS:=⟨[.s (.sl (.pair (.int .i64) (.pair (.int .i64) (.pair yV .unit)))),.s (.int .i64),.a 3,.s (.int .i64),.s (.int .i64),.a 50],[]⟩
def S0(p:(List (Int×(Int×(TV×Unit))))×Int×Int×Int×Unit):St:=sh0.b p
def xh0:ShS:=⟨[.a 1,.s (.int .i64),.a 2,.s (.int .i64),.s (.int .i64),.a 51],[]⟩
def xh1:ShS:=⟨[.a 1,.s (.int .i64),.a 3,.s (.int .i64),.a 51],[]⟩
def o0(v0:List (Int×(Int×(TV×Unit))))(v1:Int)(y:Bool×(Int×Int×Unit)×(Int×Unit)×Unit):Alt:=.two y.1 (.one .ret (xh0.b (v1,y.2.1.1,y.2.1.2.1,()))) (.one (.exit 0) (xh1.b (v1,y.2.2.1.1,())))
def tb(lf:Nat):List (FuncId×Entry):=[(79,jc.E lf)]
def agt(lf:Nat):List (Nat×(St→Option LTE)):=[(0,sumE sh0 fun(p:(List (Int×(Int×(TV×Unit))))×Int×Int×Int×Unit)=>⟨Bool×(Int×Int×Unit)×(Int×Unit)×Unit,l0 lf p.1 p.2.1 (lf+40) p.2.2.1 p.2.2.2.1,o0 p.1 p.2.1⟩)]
def ls(lf:Nat):List (Nat×FuncId×Sums):=[(13,27,sumsL (agt lf))]
def it0{ρ:Type}(lf n:Nat)(st:St)(k:KE ρ):Option ρ:=itG anns (ls lf) (tb lf) lf 13 27 0 0 (sumsL (agt lf)) n st k
theorem t0{ρ:Type}(lf n:Nat)(v0:List (Int×(Int×(TV×Unit))))(v1 v2 v3:Int)(k:KE ρ):it0 lf (n+1) (S0 (v0,v1,v2,v3,())) k=r0 lf v0 v1 v2 v3 (fun x0 x1=>it0 lf n (S0 (v0,v1,x0,x1,())) k) (fun w0 w1=>k .ret (xh0.b (v1,w0,w1,()))) (fun w0=>k (.exit 0) (xh1.b (v1,w0,()))):=by kernel_rfl
theorem u0{ρ:Type}(lf:Nat)(v0:List (Int×(Int×(TV×Unit))))(v1:Int)(k:KE ρ):∀ (n:Nat) (v2 v3:Int),it0 lf n (S0 (v0,v1,v2,v3,())) k=bd (l0 lf v0 v1 n v2 v3) fun y=>altK k (o0 v0 v1 y)
 | 0,_,_=>by rw[l0,au];rfl
 | n+1,v2,v3=>by
  rw[t0];simp only[l0,r0,u0 lf v0 v1 k n,bG,bF,aF,au,br_t,br_f,o0,altK]
theorem sl(lf:Nat):SL anns (ls lf) (tb lf) lf (ls lf):=slC (laC (fun _=>by kernel_rfl) (fun _ (x:(List (Int×(Int×(TV×Unit))))×Int×Int×Int×Unit) k=>aS (u0 lf x.1 x.2.1 k (lf+40) x.2.2.1 x.2.2.2.1)) laN) slN
def f(lf:Nat)(a0:List (Int×(Int×(TV×Unit))))(a1:Int):Option (Int×Unit) :=
 br (decide (a1 < 1)) (
 some (2,())) (
 br (decide (a1 > 32)) (
 some (2,())) (
 br (((a0.length:Nat):Int)==0) (
 some (20,())) (
 bd (l0 lf a0 a1 (lf+40) 0 0) fun z8 =>
 br z8.1 (
 some (z8.2.1.1,())) (
 br (z8.2.2.1.1 != a1) (
 some (20,())) (
 some (0,()))))))
def E(lf:Nat):Entry:=⟨[(.sl (.pair (.int .i64) (.pair (.int .i64) (.pair yV .unit)))),(.int .i64)],[(.int .i64)],fun x=>f lf x.1 x.2.1⟩
theorem ok(lf:Nat):Ok 27 (E lf):=okL (tC (jc.ok lf) tN) (aoC aoN) (sl lf) fun x=>by kernel_rfl
end aV
end
end Go.Q
namespace Go.Q
open Go.IntKind (i64)
open Go Go.RowKit
open Go.Rx (br bd sIdx sCat sCut iQuo iRem)
noncomputable section
namespace aP
def anns:FuncId→FA:=annsL [(83,⟨annOf [(0,⟨kx 35 [0,3,4],[⟨.tmp 3,yV,29⟩],[]⟩,⟨kx 35 [2,3],[⟨.tmp 3,yV,29⟩],[]⟩),(1,⟨kx 35 [0,3,4,5],[⟨.tmp 3,yV,29⟩],[]⟩,⟨kx 35 [0,2,3,4],[⟨.tmp 3,yV,29⟩],[]⟩)],none,[]⟩)]
def r1{ρ:Type}(lf:Nat)(v0:List (Int×(Int×(TV×Unit))))(v1:Int)(v2:Int)(v3:List TV)(K:Int→(List TV)→Option ρ)(E0:(List TV)→Option ρ):Option ρ :=
 bd (idxL v0 v1) fun y2 =>
 br (decide (v2 < y2.2.1)) (
 bd (idxL v0 v1) fun y3 =>
 bd (apL true 80 v3 [y3.2.2.1]) fun q4 =>
 K (i64.wrap (v2+1)) q4) (
 E0 v3)
def l1(lf:Nat)(v0:List (Int×(Int×(TV×Unit))))(v1:Int):Nat→Int→(List TV)→Option (((List TV)×Unit)×Unit)
 | 0,_,_=>none
 | n+1,v2,v3=>r1 lf v0 v1 v2 v3 (l1 lf v0 v1 n) (fun w0=>some ((w0,()),()))
def sh1:ShS:=⟨[.s (.sl (.pair (.int .i64) (.pair (.int .i64) (.pair yV .unit)))),.a 2,.s (.row 1),.s (.int .i64),.s (.int .i64),.a 29],[.gone,.row yV 29 false]⟩
def S1(p:(List (Int×(Int×(TV×Unit))))×Int×Int×(List TV)×Unit):St:=sh1.b p
def xh0:ShS:=⟨[.s (.sl (.pair (.int .i64) (.pair (.int .i64) (.pair yV .unit)))),.a 2,.s (.row 1),.s (.int .i64),.a 30],[.gone,.row yV 29 false]⟩
def o1(v0:List (Int×(Int×(TV×Unit))))(v1:Int)(y:((List TV)×Unit)×Unit):Alt:=.one (.exit 2) (xh0.b (v0,v1,y.1.1,()))
def r0{ρ:Type}(lf:Nat)(v0:List (Int×(Int×(TV×Unit))))(v1:Int)(v2:List TV)(K:Int→(List TV)→Option ρ)(E0:(List TV)→Option ρ):Option ρ :=
 br (decide (v1 < ((v0.length:Nat):Int))) (
 bd (idxL v0 v1) fun y1 =>
 bd (l1 lf v0 v1 (lf+40) y1.1 v2) fun z5 =>
 K (i64.wrap (v1+1)) z5.1.1) (
 E0 v2)
def l0(lf:Nat)(v0:List (Int×(Int×(TV×Unit)))):Nat→Int→(List TV)→Option (((List TV)×Unit)×Unit)
 | 0,_,_=>none
 | n+1,v1,v2=>r0 lf v0 v1 v2 (l0 lf v0 n) (fun w0=>some ((w0,()),()))
def sh0:ShS:=⟨[.s (.sl (.pair (.int .i64) (.pair (.int .i64) (.pair yV .unit)))),.a 2,.s (.row 0),.s (.int .i64),.a 30],[.row yV 29 false]⟩
def S0(p:(List (Int×(Int×(TV×Unit))))×Int×(List TV)×Unit):St:=sh0.b p
def xh1:ShS:=⟨[.a 3,.s (.row 0),.a 31],[.row yV 29 false]⟩
def o0(v0:List (Int×(Int×(TV×Unit))))(y:((List TV)×Unit)×Unit):Alt:=.one (.exit 0) (xh1.b (y.1.1,()))
def tb(lf:Nat):List (FuncId×Entry):=[]
def ady(lf:Nat):List (Nat×(St→Option LTE)):=[(0,sumE sh0 fun(p:(List (Int×(Int×(TV×Unit))))×Int×(List TV)×Unit)=>⟨((List TV)×Unit)×Unit,l0 lf p.1 (lf+40) p.2.1 p.2.2.1,o0 p.1⟩),
 (1,sumE sh1 fun(p:(List (Int×(Int×(TV×Unit))))×Int×Int×(List TV)×Unit)=>⟨((List TV)×Unit)×Unit,l1 lf p.1 p.2.1 (lf+40) p.2.2.1 p.2.2.2.1,o1 p.1 p.2.1⟩)]
def ls(lf:Nat):List (Nat×FuncId×Sums):=[(13,83,sumsL (ady lf))]
def it1{ρ:Type}(lf n:Nat)(st:St)(k:KE ρ):Option ρ:=itG anns (ls lf) (tb lf) lf 13 83 1 1 (sumsL (ady lf)) n st k
theorem t1{ρ:Type}(lf n:Nat)(v0:List (Int×(Int×(TV×Unit))))(v1 v2:Int)(v3:List TV)(k:KE ρ):it1 lf (n+1) (S1 (v0,v1,v2,v3,())) k=r1 lf v0 v1 v2 v3 (fun x0 x1=>it1 lf n (S1 (v0,v1,x0,x1,())) k) (fun w0=>k (.exit 2) (xh0.b (v0,v1,w0,()))):=by kernel_rfl
theorem u1{ρ:Type}(lf:Nat)(v0:List (Int×(Int×(TV×Unit))))(v1:Int)(k:KE ρ):∀ (n:Nat) (v2:Int) (v3:List TV),it1 lf n (S1 (v0,v1,v2,v3,())) k=bd (l1 lf v0 v1 n v2 v3) fun y=>altK k (o1 v0 v1 y)
 | 0,_,_=>by rw[l1,au];rfl
 | n+1,v2,v3=>by
  rw[t1];simp only[l1,r1,u1 lf v0 v1 k n,bG,bF,aF,au,br_t,br_f,o1,altK]
def it0{ρ:Type}(lf n:Nat)(st:St)(k:KE ρ):Option ρ:=itG anns (ls lf) (tb lf) lf 13 83 0 0 (sumsL (ady lf)) n st k
theorem t0{ρ:Type}(lf n:Nat)(v0:List (Int×(Int×(TV×Unit))))(v1:Int)(v2:List TV)(k:KE ρ):it0 lf (n+1) (S0 (v0,v1,v2,())) k=r0 lf v0 v1 v2 (fun x0 x1=>it0 lf n (S0 (v0,x0,x1,())) k) (fun w0=>k (.exit 0) (xh1.b (w0,()))):=by kernel_rfl
theorem u0{ρ:Type}(lf:Nat)(v0:List (Int×(Int×(TV×Unit))))(k:KE ρ):∀ (n:Nat) (v1:Int) (v2:List TV),it0 lf n (S0 (v0,v1,v2,())) k=bd (l0 lf v0 n v1 v2) fun y=>altK k (o0 v0 y)
 | 0,_,_=>by rw[l0,au];rfl
 | n+1,v1,v2=>by
  rw[t0];simp only[l0,r0,u0 lf v0 k n,bG,bF,aF,au,br_t,br_f,o0,altK]
theorem sl(lf:Nat):SL anns (ls lf) (tb lf) lf (ls lf):=slC (laC (fun _=>by kernel_rfl) (fun _ (x:(List (Int×(Int×(TV×Unit))))×Int×(List TV)×Unit) k=>aS (u0 lf x.1 k (lf+40) x.2.1 x.2.2.1)) (laC (fun _=>by kernel_rfl) (fun _ (x:(List (Int×(Int×(TV×Unit))))×Int×Int×(List TV)×Unit) k=>aS (u1 lf x.1 x.2.1 k (lf+40) x.2.2.1 x.2.2.2.1)) laN)) slN
def f(lf:Nat)(a0:List (Int×(Int×(TV×Unit)))):Option ((List TV)×Unit) :=
 bd (l0 lf a0 (lf+40) 0 []) fun z6 =>
 some (z6.1.1,())
def spk(lf:Nat):Spk:=.fresh [(.sl (.pair (.int .i64) (.pair (.int .i64) (.pair yV .unit))))] yV 29 fun x=>f lf x.1
theorem ok(lf:Nat):SpkOK Proofs.Tryz.prog (spk lf) 83:=okF tN' (aoC aoN) (sl lf) rfl fun x=>by kernel_rfl
end aP
namespace kF
def anns(lf:Nat):FuncId→FA:=annsL [(83,⟨annOf [],some (aP.spk lf),[]⟩)]
def f(lf:Nat)(a0:List (Int×(Int×(TV×Unit))))(a1:Int)(a2:Int):Option (TV×Int×Unit) :=
 bd (aV.f lf a0 a1) fun r1 =>
 br (r1.1 != 0) (
 some (((false,(⟨#[]⟩:ByteArray),(⟨#[]⟩:ByteArray),()),(false,(⟨#[]⟩:ByteArray),(⟨#[]⟩:ByteArray),()),()),r1.1,())) (
 br (decide (a2 < 0)) (
 some (((false,(⟨#[]⟩:ByteArray),(⟨#[]⟩:ByteArray),()),(false,(⟨#[]⟩:ByteArray),(⟨#[]⟩:ByteArray),()),()),6,())) (
 br (decide (a2≥a1)) (
 some (((false,(⟨#[]⟩:ByteArray),(⟨#[]⟩:ByteArray),()),(false,(⟨#[]⟩:ByteArray),(⟨#[]⟩:ByteArray),()),()),6,())) (
 bd (aP.f lf a0) fun r2 =>
 bd (idxB r2.1.length a2) fun j3 =>
 bd (r2.1[j3]?) fun y4 =>
 some (y4,0,()))))
def E(lf:Nat):Entry:=⟨[(.sl (.pair (.int .i64) (.pair (.int .i64) (.pair yV .unit)))),(.int .i64),(.int .i64)],[yV,(.int .i64)],fun x=>f lf x.1 x.2.1 x.2.2.1⟩
theorem ok(lf:Nat):Ok 32 (E lf):=okT (an:=(anns lf)) (lf:=lf) (tC (aV.ok lf) tN) (aoP (aP.ok lf) aoN) fun x=>by kernel_rfl
end kF
namespace eF
def anns(lf:Nat):FuncId→FA:=annsL [(83,⟨annOf [],some (aP.spk lf),[]⟩),(87,⟨annOf [(0,⟨kx 25 [1,5,6],[],[]⟩,⟨kx 25 [4],[],[]⟩)],none,[]⟩)]
def r0{ρ:Type}(lf:Nat)(v0:List ByteArray)(v2:List TV)(v1:Int)(K:Int→Option ρ)(E0:Option ρ)(E1:Option ρ):Option ρ :=
 br (decide (v1 < ((v2.length:Nat):Int))) (
 bd (idxB v2.length v1) fun j2 =>
 bd (v2[j2]?) fun y3 =>
 bd (idxL v0 v1) fun y4 =>
 bd (jq.f lf y3 y4) fun r5 =>
 br (!r5.1) (
 E0) (
 K (i64.wrap (v1+1)))) (
 E1)
def l0(lf:Nat)(v0:List ByteArray)(v2:List TV):Nat→Int→Option (Bool×(Unit)×(Unit)×Unit)
 | 0,_=>none
 | n+1,v1=>r0 lf v0 v2 v1 (l0 lf v0 v2 n) (some (true,(()),((()),()))) (some (false,(()),((()),())))
def sh0:ShS:=⟨[.a 1,.s (.sl .str),.a 3,.s (.row 0),.s (.int .i64),.a 18],[.row yV 29 false]⟩
def S0(p:(List ByteArray)×Int×(List TV)×Unit):St:=sh0.b p
def xh0:ShS:=⟨[.a 4,.s .bool,.a 20],[.row yV 29 false]⟩
def xh1:ShS:=⟨[.a 25],[.row yV 29 false]⟩
def o0(v0:List ByteArray)(v2:List TV)(y:Bool×(Unit)×(Unit)×Unit):Alt:=.two y.1 (.one .ret (xh0.b (false,v2,()))) (.one (.exit 0) (xh1.b (v2,())))
def tb(lf:Nat):List (FuncId×Entry):=[(41,jq.E lf)]
def agA(lf:Nat):List (Nat×(St→Option LTE)):=[(0,sumE sh0 fun(p:(List ByteArray)×Int×(List TV)×Unit)=>⟨Bool×(Unit)×(Unit)×Unit,l0 lf p.1 p.2.2.1 (lf+40) p.2.1,o0 p.1 p.2.2.1⟩)]
def ls(lf:Nat):List (Nat×FuncId×Sums):=[(13,87,sumsL (agA lf))]
def it0{ρ:Type}(lf n:Nat)(st:St)(k:KE ρ):Option ρ:=itG (anns lf) (ls lf) (tb lf) lf 13 87 0 1 (sumsL (agA lf)) n st k
theorem t0{ρ:Type}(lf n:Nat)(v0:List ByteArray)(v1:Int)(v2:List TV)(k:KE ρ):it0 lf (n+1) (S0 (v0,v1,v2,())) k=r0 lf v0 v2 v1 (fun x0=>it0 lf n (S0 (v0,x0,v2,())) k) (k .ret (xh0.b (false,v2,()))) (k (.exit 0) (xh1.b (v2,()))):=by kernel_rfl
theorem u0{ρ:Type}(lf:Nat)(v0:List ByteArray)(v2:List TV)(k:KE ρ):∀ (n:Nat) (v1:Int),it0 lf n (S0 (v0,v1,v2,())) k=bd (l0 lf v0 v2 n v1) fun y=>altK k (o0 v0 v2 y)
 | 0,_=>by rw[l0,au];rfl
 | n+1,v1=>by
  rw[t0];simp only[l0,r0,u0 lf v0 v2 k n,bG,bF,aF,au,br_t,br_f,o0,altK]
theorem sl(lf:Nat):SL (anns lf) (ls lf) (tb lf) lf (ls lf):=slC (laC (fun _=>by kernel_rfl) (fun _ (x:(List ByteArray)×Int×(List TV)×Unit) k=>aS (u0 lf x.1 x.2.2.1 k (lf+40) x.2.1)) laN) slN
def f(lf:Nat)(a0:List (Int×(Int×(TV×Unit))))(a1:List ByteArray):Option (Bool×Unit) :=
 bd (aP.f lf a0) fun r1 =>
 bd (l0 lf a1 r1.1 (lf+40) 0) fun z6 =>
 br z6.1 (
 some (false,())) (
 some (true,()))
def E(lf:Nat):Entry:=⟨[(.sl (.pair (.int .i64) (.pair (.int .i64) (.pair yV .unit)))),(.sl .str)],[.bool],fun x=>f lf x.1 x.2.1⟩
theorem ok(lf:Nat):Ok 87 (E lf):=okL (tC (jq.ok lf) tN) (aoP (aP.ok lf) (aoC aoN)) (sl lf) fun x=>by kernel_rfl
end eF
end
end Go.Q
