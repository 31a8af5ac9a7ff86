import Derived.Test.YtioemjeplgnccaaGreatDoorProg
import Derived.KernelRfl
import Derived.Test.YtioemjeplgnccaaGreatDoorTDE3
import Derived.Test.YtioemjeplgnccaaGreatDoorTDG1
import Derived.Test.YtioemjeplgnccaaGreatDoorTDG2
import Derived.Test.YtioemjeplgnccaaGreatDoorTDG3
import Derived.Test.YtioemjeplgnccaaGreatDoorTDG5
import Derived.Test.YtioemjeplgnccaaGreatDoorTDG6
set_option linter.unusedVariables false
set_option linter.unusedSimpArgs false
set_option linter.unusedSectionVars false
set_option maxRecDepth 100000
set_option maxHeartbeats 40000000
namespace Go.Q
open Go Go.RowKit
open Go.Rx (br bd sIdx sCat sCut iQuo iRem iShl)
noncomputable section
namespace fA
def f(lf:Nat)(a0:ByteArray):Option (Bool×Unit) :=
 bd (strings_TrimPrefix.f lf a0 (⟨#[45]⟩:ByteArray)) fun r1 =>
 some ((decide (((r1.1.size:Nat):Int) > 100)),())
def E(lf:Nat):Entry:=⟨[.str],[.bool],fun x=>f lf x.1⟩
theorem ok(lf:Nat):Ok 180 (E lf):=okT (an:=(annsL [])) (lf:=lf) (tC (strings_TrimPrefix.ok lf) tN) aoN fun x=>by kernel_rfl
end fA
namespace fP
def f(lf:Nat)  : Option (TI×Unit) :=
 some ((false,(⟨#[49]⟩:ByteArray),(⟨#[48]⟩:ByteArray),()),())
def E(lf:Nat):Entry:=⟨[],[yI],fun x=>f lf⟩
theorem ok(lf:Nat):Ok 181 (E lf):=okT (an:=(annsL [])) (lf:=lf) tN aoN fun x=>by kernel_rfl
end fP
namespace dD
def f(lf:Nat)(a0:ByteArray)(a1:ByteArray):Option (TI×Unit) :=
 bd (oO.f lf a0) fun r1 =>
 bd (fB.f lf r1.1 r1.2.1) fun r2 =>
 br (!(r2.1.toList==(⟨#[48]⟩:ByteArray).toList)) (
 bd (dA.f lf a1 r2.1) fun r3 =>
 bd (fB.f lf r3.1 r3.2.1) fun r4 =>
 bd (fA.f lf r2.1) fun r5 =>
 br r5.1 (
 bd (fP.f lf) fun r6 =>
 some (r6.1,())) (
 bd (fA.f lf r4.1) fun r7 =>
 br r7.1 (
 bd (fP.f lf) fun r8 =>
 some (r8.1,())) (
 some ((false,r2.1,r4.1,()),())))) (
 bd (fA.f lf r2.1) fun r9 =>
 br r9.1 (
 bd (fP.f lf) fun r10 =>
 some (r10.1,())) (
 bd (fA.f lf a1) fun r11 =>
 br r11.1 (
 bd (fP.f lf) fun r12 =>
 some (r12.1,())) (
 some ((false,r2.1,a1,()),()))))
def E(lf:Nat):Entry:=⟨[.str,.str],[yI],fun x=>f lf x.1 x.2.1⟩
theorem ok(lf:Nat):Ok 120 (E lf):=okT (an:=(annsL [])) (lf:=lf) (tC (dA.ok lf) (tC (fB.ok lf) (tC (oO.ok lf) (tC (fA.ok lf) (tC (fP.ok lf) tN))))) aoN fun x=>by kernel_rfl
end dD
namespace dL
def f(lf:Nat)(a0:ByteArray)(a1:ByteArray):Option (ByteArray×Unit) :=
 bd (oP.f lf a0 a1) fun r1 =>
 bd (fB.f lf r1.1 r1.2.1) fun r2 =>
 some (r2.1,())
def E(lf:Nat):Entry:=⟨[.str,.str],[.str],fun x=>f lf x.1 x.2.1⟩
theorem ok(lf:Nat):Ok 121 (E lf):=okT (an:=(annsL [])) (lf:=lf) (tC (fB.ok lf) (tC (oP.ok lf) tN)) aoN fun x=>by kernel_rfl
end dL
namespace lS
def f(lf:Nat)(a0:ByteArray)(a1:ByteArray):Option (ByteArray×Unit) :=
 bd (fJ.f lf a0 a1) fun r1 =>
 bd (fB.f lf r1.1 r1.2.1) fun r2 =>
 some (r2.1,())
def E(lf:Nat):Entry:=⟨[.str,.str],[.str],fun x=>f lf x.1 x.2.1⟩
theorem ok(lf:Nat):Ok 122 (E lf):=okT (an:=(annsL [])) (lf:=lf) (tC (fJ.ok lf) (tC (fB.ok lf) tN)) aoN fun x=>by kernel_rfl
end lS
namespace lY
def f(lf:Nat)(a0:TI)(a1:TI):Option (TI×Unit) :=
 bd (dL.f lf a0.2.1 a1.2.1) fun r1 =>
 bd (lS.f lf a0.2.2.1 a1.2.2.1) fun r2 =>
 bd (dD.f lf r1.1 r2.1) fun r3 =>
 some (r3.1,())
def E(lf:Nat):Entry:=⟨[yI,yI],[yI],fun x=>f lf x.1 x.2.1⟩
theorem ok(lf:Nat):Ok 119 (E lf):=okT (an:=(annsL [])) (lf:=lf) (tC (dD.ok lf) (tC (dL.ok lf) (tC (lS.ok lf) tN))) aoN fun x=>by kernel_rfl
end lY
namespace jo
def f(lf:Nat)(a0:ByteArray):Option (Int×Unit) :=
 bd (bY.f lf a0) fun r1 =>
 br (r1.1==10) (
 some (10,())) (
 br (r1.1==0) (
 bd (fA.f lf a0) fun r2 =>
 br r2.1 (
 some (10,())) (
 br (r1.1 != 0) (
 some (r1.1,())) (
 some (0,())))) (
 br (r1.1 != 0) (
 some (r1.1,())) (
 some (0,()))))
def E(lf:Nat):Entry:=⟨[.str],[(.int .i64)],fun x=>f lf x.1⟩
theorem ok(lf:Nat):Ok 137 (E lf):=okT (an:=(annsL [])) (lf:=lf) (tC (bY.ok lf) (tC (fA.ok lf) tN)) aoN fun x=>by kernel_rfl
end jo
namespace kM
def f(lf:Nat)(a0:Int)(a1:Int):Option (Int×Unit) :=
 some (a0,())
def E(lf:Nat):Entry:=⟨[(.int .i64),(.int .i64)],[(.int .i64)],fun x=>f lf x.1 x.2.1⟩
theorem ok(lf:Nat):Ok 190 (E lf):=okT (an:=(annsL [])) (lf:=lf) tN aoN fun x=>by kernel_rfl
end kM
namespace eU
def f(lf:Nat)(a0:ByteArray)(a1:ByteArray):Option (Bool×Unit) :=
 bd (dR.f lf a0 a1) fun r1 =>
 bd (kM.f lf r1.1 r1.2.1) fun r2 =>
 some ((decide (r2.1 < 0)),())
def E(lf:Nat):Entry:=⟨[.str,.str],[.bool],fun x=>f lf x.1 x.2.1⟩
theorem ok(lf:Nat):Ok 138 (E lf):=okT (an:=(annsL [])) (lf:=lf) (tC (dR.ok lf) (tC (kM.ok lf) tN)) aoN fun x=>by kernel_rfl
end eU
namespace dB
def f(lf:Nat)(a0:TI):Option (Int×Unit) :=
 br a0.1 (
 br (!(a0.2.1.toList==(⟨#[]⟩:ByteArray).toList)) (
 some (3,())) (
 br (!(a0.2.2.1.toList==(⟨#[]⟩:ByteArray).toList)) (
 some (3,())) (
 some (0,())))) (
 bd (jo.f lf a0.2.1) fun r1 =>
 br (r1.1 != 0) (
 some (r1.1,())) (
 bd (jo.f lf a0.2.2.1) fun r2 =>
 br (r2.1 != 0) (
 some (r2.1,())) (
 bd (eU.f lf a0.2.1 (⟨#[48]⟩:ByteArray)) fun r3 =>
 br r3.1 (
 some (2,())) (
 br (!(a0.2.1.toList==(⟨#[48]⟩:ByteArray).toList)) (
 bd (eU.f lf a0.2.2.1 (⟨#[48]⟩:ByteArray)) fun r4 =>
 br r4.1 (
 some (2,())) (
 bd (eU.f lf a0.2.2.1 a0.2.1) fun r5 =>
 br (!r5.1) (
 some (2,())) (
 some (0,())))) (
 some (0,()))))))
def E(lf:Nat):Entry:=⟨[yI],[(.int .i64)],fun x=>f lf x.1⟩
theorem ok(lf:Nat):Ok 69 (E lf):=okT (an:=(annsL [])) (lf:=lf) (tC (jo.ok lf) (tC (eU.ok lf) tN)) aoN fun x=>by kernel_rfl
end dB
namespace dQ
def f(lf:Nat)(a0:TI)(a1:TI):Option (Int×Unit) :=
 bd (dB.f lf a0) fun r1 =>
 br (r1.1 != 0) (
 some (r1.1,())) (
 bd (dB.f lf a1) fun r2 =>
 some (r2.1,()))
def E(lf:Nat):Entry:=⟨[yI,yI],[(.int .i64)],fun x=>f lf x.1 x.2.1⟩
theorem ok(lf:Nat):Ok 183 (E lf):=okT (an:=(annsL [])) (lf:=lf) (tC (dB.ok lf) tN) aoN fun x=>by kernel_rfl
end dQ
namespace aX
def f(lf:Nat)  : Option (TI×Unit) :=
 some ((true,(⟨#[]⟩:ByteArray),(⟨#[]⟩:ByteArray),()),())
def E(lf:Nat):Entry:=⟨[],[yI],fun x=>f lf⟩
theorem ok(lf:Nat):Ok 184 (E lf):=okT (an:=(annsL [])) (lf:=lf) tN aoN fun x=>by kernel_rfl
end aX
namespace iE
def f(lf:Nat)(a0:TI)(a1:TI):Option (TI×Int×Unit) :=
 bd (dQ.f lf a0 a1) fun r1 =>
 br (r1.1 != 0) (
 some ((false,(⟨#[]⟩:ByteArray),(⟨#[]⟩:ByteArray),()),r1.1,())) (
 br a0.1 (
 bd (aX.f lf) fun r2 =>
 some (r2.1,0,())) (
 br a1.1 (
 bd (aX.f lf) fun r3 =>
 some (r3.1,0,())) (
 bd (lY.f lf a0 a1) fun r4 =>
 some (r4.1,0,()))))
def E(lf:Nat):Entry:=⟨[yI,yI],[yI,(.int .i64)],fun x=>f lf x.1 x.2.1⟩
theorem ok(lf:Nat):Ok 56 (E lf):=okT (an:=(annsL [])) (lf:=lf) (tC (lY.ok lf) (tC (dQ.ok lf) (tC (aX.ok lf) tN))) aoN fun x=>by kernel_rfl
end iE
namespace jU
def f(lf:Nat)(a0:ByteArray)(a1:ByteArray):Option (ByteArray×Unit) :=
 bd (fM.f lf a0 a1) fun r1 =>
 bd (fB.f lf r1.1 r1.2.1) fun r2 =>
 some (r2.1,())
def E(lf:Nat):Entry:=⟨[.str,.str],[.str],fun x=>f lf x.1 x.2.1⟩
theorem ok(lf:Nat):Ok 125 (E lf):=okT (an:=(annsL [])) (lf:=lf) (tC (fM.ok lf) (tC (fB.ok lf) tN)) aoN fun x=>by kernel_rfl
end jU
namespace mg
def f(lf:Nat)(a0:TI)(a1:TI):Option (TI×Unit) :=
 bd (dL.f lf a0.2.1 a1.2.1) fun r1 =>
 bd (jU.f lf a0.2.2.1 a1.2.2.1) fun r2 =>
 bd (dD.f lf r1.1 r2.1) fun r3 =>
 some (r3.1,())
def E(lf:Nat):Entry:=⟨[yI,yI],[yI],fun x=>f lf x.1 x.2.1⟩
theorem ok(lf:Nat):Ok 124 (E lf):=okT (an:=(annsL [])) (lf:=lf) (tC (dD.ok lf) (tC (dL.ok lf) (tC (jU.ok lf) tN))) aoN fun x=>by kernel_rfl
end mg
namespace iJ
def f(lf:Nat)(a0:TI)(a1:TI):Option (TI×Int×Unit) :=
 bd (dQ.f lf a0 a1) fun r1 =>
 br (r1.1 != 0) (
 some ((false,(⟨#[]⟩:ByteArray),(⟨#[]⟩:ByteArray),()),r1.1,())) (
 br a0.1 (
 bd (aX.f lf) fun r2 =>
 some (r2.1,0,())) (
 br a1.1 (
 bd (aX.f lf) fun r3 =>
 some (r3.1,0,())) (
 bd (mg.f lf a0 a1) fun r4 =>
 some (r4.1,0,()))))
def E(lf:Nat):Entry:=⟨[yI,yI],[yI,(.int .i64)],fun x=>f lf x.1 x.2.1⟩
theorem ok(lf:Nat):Ok 57 (E lf):=okT (an:=(annsL [])) (lf:=lf) (tC (mg.ok lf) (tC (dQ.ok lf) (tC (aX.ok lf) tN))) aoN fun x=>by kernel_rfl
end iJ
namespace ji
def f(lf:Nat)(a0:ByteArray)(a1:ByteArray):Option (ByteArray×Unit) :=
 bd (gV.f lf a0 a1) fun r1 =>
 bd (fB.f lf r1.1 r1.2.1) fun r2 =>
 some (r2.1,())
def E(lf:Nat):Entry:=⟨[.str,.str],[.str],fun x=>f lf x.1 x.2.1⟩
theorem ok(lf:Nat):Ok 127 (E lf):=okT (an:=(annsL [])) (lf:=lf) (tC (gV.ok lf) (tC (fB.ok lf) tN)) aoN fun x=>by kernel_rfl
end ji
namespace lZ
def f(lf:Nat)(a0:TI)(a1:TI):Option (TI×Unit) :=
 bd (ji.f lf a0.2.1 a1.2.1) fun r1 =>
 bd (ji.f lf a0.2.1 a1.2.2.1) fun r2 =>
 bd (ji.f lf a1.2.1 a0.2.2.1) fun r3 =>
 bd (dL.f lf r2.1 r3.1) fun r4 =>
 bd (dL.f lf r1.1 r4.1) fun r5 =>
 bd (ji.f lf a0.2.2.1 a1.2.2.1) fun r6 =>
 bd (dD.f lf r5.1 r6.1) fun r7 =>
 some (r7.1,())
def E(lf:Nat):Entry:=⟨[yI,yI],[yI],fun x=>f lf x.1 x.2.1⟩
theorem ok(lf:Nat):Ok 126 (E lf):=okT (an:=(annsL [])) (lf:=lf) (tC (dD.ok lf) (tC (dL.ok lf) (tC (ji.ok lf) tN))) aoN fun x=>by kernel_rfl
end lZ
namespace iF
def f(lf:Nat)(a0:TI)(a1:TI):Option (TI×Int×Unit) :=
 bd (dQ.f lf a0 a1) fun r1 =>
 br (r1.1 != 0) (
 some ((false,(⟨#[]⟩:ByteArray),(⟨#[]⟩:ByteArray),()),r1.1,())) (
 br a0.1 (
 bd (aX.f lf) fun r2 =>
 some (r2.1,0,())) (
 br a1.1 (
 bd (aX.f lf) fun r3 =>
 some (r3.1,0,())) (
 bd (lZ.f lf a0 a1) fun r4 =>
 some (r4.1,0,()))))
def E(lf:Nat):Entry:=⟨[yI,yI],[yI,(.int .i64)],fun x=>f lf x.1 x.2.1⟩
theorem ok(lf:Nat):Ok 58 (E lf):=okT (an:=(annsL [])) (lf:=lf) (tC (lZ.ok lf) (tC (dQ.ok lf) (tC (aX.ok lf) tN))) aoN fun x=>by kernel_rfl
end iF
namespace gG
def f(lf:Nat)(a0:ByteArray):Option (TI×Unit) :=
 some ((false,(⟨#[48]⟩:ByteArray),a0,()),())
def E(lf:Nat):Entry:=⟨[.str],[yI],fun x=>f lf x.1⟩
theorem ok(lf:Nat):Ok 185 (E lf):=okT (an:=(annsL [])) (lf:=lf) tN aoN fun x=>by kernel_rfl
end gG
namespace gW
def f(lf:Nat)(a0:ByteArray)(a1:ByteArray):Option (Bool×Unit) :=
 br (a0.toList==(⟨#[48]⟩:ByteArray).toList) (
 some ((a1.toList==(⟨#[48]⟩:ByteArray).toList),())) (
 bd (dA.f lf a1 a0) fun r1 =>
 bd (fB.f lf r1.1 r1.2.1) fun r2 =>
 some ((r2.1.toList==(⟨#[48]⟩:ByteArray).toList),()))
def E(lf:Nat):Entry:=⟨[.str,.str],[.bool],fun x=>f lf x.1 x.2.1⟩
theorem ok(lf:Nat):Ok 186 (E lf):=okT (an:=(annsL [])) (lf:=lf) (tC (dA.ok lf) (tC (fB.ok lf) tN)) aoN fun x=>by kernel_rfl
end gW
namespace nG
def f(lf:Nat)(a0:TI)(a1:TI):Option (TI×Unit) :=
 bd (gG.f lf (⟨#[48]⟩:ByteArray)) fun r1 =>
 bd (some ((a1.1==r1.1.1)&&((a1.2.1==r1.1.2.1)&&((a1.2.2.1==r1.1.2.2.1)&&true)))) fun r2 =>
 br r2 (
 bd (aX.f lf) fun r3 =>
 some (r3.1,())) (
 br (!(a1.2.1.toList==(⟨#[48]⟩:ByteArray).toList)) (
 bd (gG.f lf (⟨#[48]⟩:ByteArray)) fun r4 =>
 bd (some ((a0.1==r4.1.1)&&((a0.2.1==r4.1.2.1)&&((a0.2.2.1==r4.1.2.2.1)&&true)))) fun r5 =>
 br r5 (
 some (a0,())) (
 bd (fP.f lf) fun r6 =>
 some (r6.1,()))) (
 bd (gW.f lf a1.2.2.1 a0.2.1) fun r7 =>
 br r7.1 (
 bd (fK.f lf a0.2.1 a1.2.2.1) fun r8 =>
 bd (fB.f lf r8.1 r8.2.1) fun r9 =>
 bd (fK.f lf a0.2.2.1 a1.2.2.1) fun r10 =>
 bd (fB.f lf r10.1 r10.2.1) fun r11 =>
 bd (dD.f lf r9.1 r11.1) fun r12 =>
 some (r12.1,())) (
 bd (fP.f lf) fun r13 =>
 some (r13.1,()))))
def E(lf:Nat):Entry:=⟨[yI,yI],[yI],fun x=>f lf x.1 x.2.1⟩
theorem ok(lf:Nat):Ok 128 (E lf):=okT (an:=(annsL [])) (lf:=lf) (tC (fK.ok lf) (tC (fB.ok lf) (tC (dD.ok lf) (tC (fP.ok lf) (tC (aX.ok lf) (tC (gG.ok lf) (tC (gW.ok lf) tN))))))) aoN fun x=>by kernel_rfl
end nG
namespace iG
def f(lf:Nat)(a0:TI)(a1:TI):Option (TI×Int×Unit) :=
 bd (dQ.f lf a0 a1) fun r1 =>
 br (r1.1 != 0) (
 some ((false,(⟨#[]⟩:ByteArray),(⟨#[]⟩:ByteArray),()),r1.1,())) (
 br a0.1 (
 bd (aX.f lf) fun r2 =>
 some (r2.1,0,())) (
 br a1.1 (
 bd (aX.f lf) fun r3 =>
 some (r3.1,0,())) (
 bd (nG.f lf a0 a1) fun r4 =>
 some (r4.1,0,()))))
def E(lf:Nat):Entry:=⟨[yI,yI],[yI,(.int .i64)],fun x=>f lf x.1 x.2.1⟩
theorem ok(lf:Nat):Ok 59 (E lf):=okT (an:=(annsL [])) (lf:=lf) (tC (nG.ok lf) (tC (dQ.ok lf) (tC (aX.ok lf) tN))) aoN fun x=>by kernel_rfl
end iG
namespace mX
def f(lf:Nat)(a0:TI)(a1:TI):Option (TI×Unit) :=
 bd (gG.f lf (⟨#[48]⟩:ByteArray)) fun r1 =>
 bd (some ((a1.1==r1.1.1)&&((a1.2.1==r1.1.2.1)&&((a1.2.2.1==r1.1.2.2.1)&&true)))) fun r2 =>
 br r2 (
 bd (aX.f lf) fun r3 =>
 some (r3.1,())) (
 br (a1.2.1.toList==(⟨#[48]⟩:ByteArray).toList) (
 bd (gW.f lf a1.2.2.1 a0.2.1) fun r4 =>
 br r4.1 (
 bd (dA.f lf a0.2.2.1 a1.2.2.1) fun r5 =>
 bd (fB.f lf r5.1 r5.2.1) fun r6 =>
 bd (dD.f lf (⟨#[48]⟩:ByteArray) r6.1) fun r7 =>
 some (r7.1,())) (
 bd (dL.f lf a1.2.1 a1.2.2.1) fun r8 =>
 bd (dL.f lf a0.2.1 r8.1) fun r9 =>
 bd (dD.f lf r9.1 a0.2.2.1) fun r10 =>
 some (r10.1,()))) (
 bd (dL.f lf a1.2.1 a1.2.2.1) fun r11 =>
 bd (dL.f lf a0.2.1 r11.1) fun r12 =>
 bd (dD.f lf r12.1 a0.2.2.1) fun r13 =>
 some (r13.1,())))
def E(lf:Nat):Entry:=⟨[yI,yI],[yI],fun x=>f lf x.1 x.2.1⟩
theorem ok(lf:Nat):Ok 129 (E lf):=okT (an:=(annsL [])) (lf:=lf) (tC (dA.ok lf) (tC (fB.ok lf) (tC (dD.ok lf) (tC (dL.ok lf) (tC (aX.ok lf) (tC (gG.ok lf) (tC (gW.ok lf) tN))))))) aoN fun x=>by kernel_rfl
end mX
namespace iH
def f(lf:Nat)(a0:TI)(a1:TI):Option (TI×Int×Unit) :=
 bd (dQ.f lf a0 a1) fun r1 =>
 br (r1.1 != 0) (
 some ((false,(⟨#[]⟩:ByteArray),(⟨#[]⟩:ByteArray),()),r1.1,())) (
 br a0.1 (
 bd (aX.f lf) fun r2 =>
 some (r2.1,0,())) (
 br a1.1 (
 bd (aX.f lf) fun r3 =>
 some (r3.1,0,())) (
 bd (mX.f lf a0 a1) fun r4 =>
 some (r4.1,0,()))))
def E(lf:Nat):Entry:=⟨[yI,yI],[yI,(.int .i64)],fun x=>f lf x.1 x.2.1⟩
theorem ok(lf:Nat):Ok 60 (E lf):=okT (an:=(annsL [])) (lf:=lf) (tC (mX.ok lf) (tC (dQ.ok lf) (tC (aX.ok lf) tN))) aoN fun x=>by kernel_rfl
end iH
namespace iK
def f(lf:Nat)(a0:ByteArray)(a1:ByteArray)(a2:ByteArray):Option (ByteArray×Int×Unit) :=
 bd (dA.f lf a0 a2) fun r1 =>
 br (r1.2.1 != 0) (
 some ((⟨#[]⟩:ByteArray),r1.2.1,())) (
 bd (dA.f lf a1 a2) fun r2 =>
 br (r2.2.1 != 0) (
 some ((⟨#[]⟩:ByteArray),r2.2.1,())) (
 bd (jU.f lf r1.1 r2.1) fun r3 =>
 bd (dA.f lf r3.1 a2) fun r4 =>
 some (r4.1,r4.2.1,())))
def E(lf:Nat):Entry:=⟨[.str,.str,.str],[.str,(.int .i64)],fun x=>f lf x.1 x.2.1 x.2.2.1⟩
theorem ok(lf:Nat):Ok 246 (E lf):=okT (an:=(annsL [])) (lf:=lf) (tC (dA.ok lf) (tC (jU.ok lf) tN)) aoN fun x=>by kernel_rfl
end iK
end
end Go.Q
namespace Go.Q
open Go Go.RowKit
open Go.Rx (br bd sIdx sCat sCut iQuo iRem iShl)
noncomputable section
namespace kS
def f(lf:Nat)(a0:TI)(a1:ByteArray):Option (ByteArray×Int×Unit) :=
 bd (dB.f lf a0) fun r1 =>
 br (r1.1 != 0) (
 some ((⟨#[]⟩:ByteArray),r1.1,())) (
 bd (bY.f lf a1) fun r2 =>
 br (r2.1 != 0) (
 some ((⟨#[]⟩:ByteArray),r2.1,())) (
 br a0.1 (
 some ((⟨#[]⟩:ByteArray),16,())) (
 br (!(a0.2.1.toList==(⟨#[48]⟩:ByteArray).toList)) (
 bd (iK.f lf a0.2.2.1 a1 a0.2.1) fun r3 =>
 br (r3.2.1 != 0) (
 some ((⟨#[]⟩:ByteArray),r3.2.1,())) (
 bd (fJ.f lf a1 r3.1) fun r4 =>
 some (r4.1,r4.2.1,()))) (
 bd (eU.f lf a0.2.2.1 a1) fun r5 =>
 br r5.1 (
 some ((⟨#[]⟩:ByteArray),6,())) (
 some (a0.2.2.1,0,()))))))
def E(lf:Nat):Entry:=⟨[yI,.str],[.str,(.int .i64)],fun x=>f lf x.1 x.2.1⟩
theorem ok(lf:Nat):Ok 205 (E lf):=okT (an:=(annsL [])) (lf:=lf) (tC (fJ.ok lf) (tC (bY.ok lf) (tC (dB.ok lf) (tC (eU.ok lf) (tC (iK.ok lf) tN))))) aoN fun x=>by kernel_rfl
end kS
namespace iR
def f(lf:Nat)(a0:TI)(a1:ByteArray):Option (ByteArray×Int×Unit) :=
 bd (dB.f lf a0) fun r1 =>
 br (r1.1 != 0) (
 some ((⟨#[]⟩:ByteArray),r1.1,())) (
 bd (bY.f lf a1) fun r2 =>
 br (r2.1 != 0) (
 some ((⟨#[]⟩:ByteArray),r2.1,())) (
 br a0.1 (
 some ((⟨#[]⟩:ByteArray),16,())) (
 br (!(a0.2.1.toList==(⟨#[48]⟩:ByteArray).toList)) (
 bd (iK.f lf a1 a0.2.2.1 a0.2.1) fun r3 =>
 br (r3.2.1 != 0) (
 some ((⟨#[]⟩:ByteArray),r3.2.1,())) (
 bd (fM.f lf a1 r3.1) fun r4 =>
 some (r4.1,r4.2.1,()))) (
 bd (eU.f lf a1 a0.2.2.1) fun r5 =>
 br r5.1 (
 some ((⟨#[]⟩:ByteArray),6,())) (
 some (a0.2.2.1,0,()))))))
def E(lf:Nat):Entry:=⟨[yI,.str],[.str,(.int .i64)],fun x=>f lf x.1 x.2.1⟩
theorem ok(lf:Nat):Ok 206 (E lf):=okT (an:=(annsL [])) (lf:=lf) (tC (fM.ok lf) (tC (bY.ok lf) (tC (dB.ok lf) (tC (eU.ok lf) (tC (iK.ok lf) tN))))) aoN fun x=>by kernel_rfl
end iR
namespace bG
def f(lf:Nat)(a0:TI)(a1:ByteArray):Option (Bool×Int×Unit) :=
 bd (dB.f lf a0) fun r1 =>
 br (r1.1 != 0) (
 some (false,r1.1,())) (
 bd (bY.f lf a1) fun r2 =>
 br (r2.1 != 0) (
 some (false,r2.1,())) (
 br a0.1 (
 some (false,0,())) (
 br (a0.2.1.toList==(⟨#[48]⟩:ByteArray).toList) (
 some ((a1.toList==a0.2.2.1.toList),0,())) (
 bd (dA.f lf a1 a0.2.1) fun r3 =>
 bd (fB.f lf r3.1 r3.2.1) fun r4 =>
 some ((r4.1.toList==a0.2.2.1.toList),0,())))))
def E(lf:Nat):Entry:=⟨[yI,.str],[.bool,(.int .i64)],fun x=>f lf x.1 x.2.1⟩
theorem ok(lf:Nat):Ok 21 (E lf):=okT (an:=(annsL [])) (lf:=lf) (tC (dA.ok lf) (tC (bY.ok lf) (tC (dB.ok lf) (tC (fB.ok lf) tN)))) aoN fun x=>by kernel_rfl
end bG
end
end Go.Q
namespace Go.Q
open Go Go.RowKit
open Go.Rx (br bd sIdx sCat sCut iQuo iRem iShl)
noncomputable section
namespace jv
def f(lf:Nat)(a0:TI):Option (Bool×Unit) :=
 bd (kz.f lf a0.2.1) fun r1 =>
 br r1.1 (
 bd (kz.f lf a0.2.2.1) fun r2 =>
 some (r2.1,())) (
 some (false,()))
def E(lf:Nat):Entry:=⟨[yI],[.bool],fun x=>f lf x.1⟩
theorem ok(lf:Nat):Ok 24 (E lf):=okT (an:=(annsL [])) (lf:=lf) (tC (kz.ok lf) tN) aoN fun x=>by kernel_rfl
end jv
namespace iq
def f(lf:Nat)(a0:ByteArray):Option (Int×Unit) :=
 bd (dH.f lf a0) fun r1 =>
 br (!r1.1) (
 some (3,())) (
 bd (aF.f lf a0) fun r2 =>
 br (decide (r2.1 > 100)) (
 some (10,())) (
 some (0,())))
def E(lf:Nat):Entry:=⟨[.str],[(.int .i64)],fun x=>f lf x.1⟩
theorem ok(lf:Nat):Ok 75 (E lf):=okT (an:=(annsL [])) (lf:=lf) (tC (aF.ok lf) (tC (dH.ok lf) tN)) aoN fun x=>by kernel_rfl
end iq
namespace iW
def f(lf:Nat)(a0:TI):Option (Int×Unit) :=
 br a0.1 (
 br (!(a0.2.1.toList==(⟨#[]⟩:ByteArray).toList)) (
 some (3,())) (
 br (!(a0.2.2.1.toList==(⟨#[]⟩:ByteArray).toList)) (
 some (3,())) (
 some (0,())))) (
 bd (iq.f lf a0.2.1) fun r1 =>
 br (r1.1 != 0) (
 some (r1.1,())) (
 bd (iq.f lf a0.2.2.1) fun r2 =>
 br (r2.1 != 0) (
 some (r2.1,())) (
 bd (eP.f lf a0.2.1) fun r3 =>
 br (decide (r3.1 < 0)) (
 some (2,())) (
 br (!(a0.2.1.toList==(⟨#[48]⟩:ByteArray).toList)) (
 bd (eP.f lf a0.2.2.1) fun r4 =>
 br (decide (r4.1 < 0)) (
 some (2,())) (
 bd (aW.f lf a0.2.2.1 a0.2.1) fun r5 =>
 br (!r5.1) (
 some (2,())) (
 some (0,())))) (
 some (0,()))))))
def E(lf:Nat):Entry:=⟨[yI],[(.int .i64)],fun x=>f lf x.1⟩
theorem ok(lf:Nat):Ok 26 (E lf):=okT (an:=(annsL [])) (lf:=lf) (tC (aW.ok lf) (tC (iq.ok lf) (tC (eP.ok lf) tN))) aoN fun x=>by kernel_rfl
end iW
namespace kN
def f(lf:Nat)  : Option (TI×Unit) :=
 some ((true,(⟨#[]⟩:ByteArray),(⟨#[]⟩:ByteArray),()),())
def E(lf:Nat):Entry:=⟨[],[yI],fun x=>f lf⟩
theorem ok(lf:Nat):Ok 142 (E lf):=okT (an:=(annsL [])) (lf:=lf) tN aoN fun x=>by kernel_rfl
end kN
namespace gm
def f(lf:Nat)(a0:TI)(a1:ByteArray):Option (ByteArray×Bool×Unit) :=
 br (a0.2.1.toList==(⟨#[48]⟩:ByteArray).toList) (
 bd (aW.f lf a0.2.2.1 a1) fun r1 =>
 br r1.1 (
 some ((⟨#[]⟩:ByteArray),false,())) (
 some (a0.2.2.1,true,()))) (
 bd (cZ.f lf a0.2.2.1 a1) fun r2 =>
 bd (eH.f lf r2.1 a0.2.1) fun r3 =>
 bd (gI.f lf a1 r3.1) fun r4 =>
 some (r4.1,true,()))
def E(lf:Nat):Entry:=⟨[yI,.str],[.str,.bool],fun x=>f lf x.1 x.2.1⟩
theorem ok(lf:Nat):Ok 78 (E lf):=okT (an:=(annsL [])) (lf:=lf) (tC (aW.ok lf) (tC (cZ.ok lf) (tC (gI.ok lf) (tC (eH.ok lf) tN)))) aoN fun x=>by kernel_rfl
end gm
namespace fG
def f(lf:Nat)  : Option (TI×Unit) :=
 some ((false,(⟨#[49]⟩:ByteArray),(⟨#[48]⟩:ByteArray),()),())
def E(lf:Nat):Entry:=⟨[],[yI],fun x=>f lf⟩
theorem ok(lf:Nat):Ok 203 (E lf):=okT (an:=(annsL [])) (lf:=lf) tN aoN fun x=>by kernel_rfl
end fG
namespace gq
def f(lf:Nat)(a0:ByteArray)(a1:ByteArray):Option (TI×Unit) :=
 bd (ig.f lf a0) fun r1 =>
 br (!(a0.toList==(⟨#[48]⟩:ByteArray).toList)) (
 bd (eH.f lf a1 r1.1) fun r2 =>
 bd (aF.f lf r1.1) fun r3 =>
 br (decide (r3.1 > 100)) (
 bd (fG.f lf) fun r4 =>
 some (r4.1,())) (
 bd (aF.f lf r2.1) fun r5 =>
 br (decide (r5.1 > 100)) (
 bd (fG.f lf) fun r6 =>
 some (r6.1,())) (
 some ((false,r1.1,r2.1,()),())))) (
 bd (aF.f lf r1.1) fun r7 =>
 br (decide (r7.1 > 100)) (
 bd (fG.f lf) fun r8 =>
 some (r8.1,())) (
 bd (aF.f lf a1) fun r9 =>
 br (decide (r9.1 > 100)) (
 bd (fG.f lf) fun r10 =>
 some (r10.1,())) (
 some ((false,r1.1,a1,()),()))))
def E(lf:Nat):Entry:=⟨[.str,.str],[yI],fun x=>f lf x.1 x.2.1⟩
theorem ok(lf:Nat):Ok 202 (E lf):=okT (an:=(annsL [])) (lf:=lf) (tC (aF.ok lf) (tC (eH.ok lf) (tC (fG.ok lf) (tC (ig.ok lf) tN)))) aoN fun x=>by kernel_rfl
end gq
namespace iP
def f(lf:Nat)(a0:TI):Option (TI×Unit) :=
 br a0.1 (
 some (a0,())) (
 bd (cO.f lf a0.2.2.1) fun r1 =>
 bd (gq.f lf a0.2.1 r1.1) fun r2 =>
 some (r2.1,()))
def E(lf:Nat):Entry:=⟨[yI],[yI],fun x=>f lf x.1⟩
theorem ok(lf:Nat):Ok 145 (E lf):=okT (an:=(annsL [])) (lf:=lf) (tC (cO.ok lf) (tC (gq.ok lf) tN)) aoN fun x=>by kernel_rfl
end iP
namespace iU
def f(lf:Nat)(a0:TI)(a1:ByteArray):Option (ByteArray×Bool×Unit) :=
 bd (iP.f lf a0) fun r1 =>
 bd (cO.f lf a1) fun r2 =>
 bd (gm.f lf r1.1 r2.1) fun r3 =>
 br (!r3.2.1) (
 some ((⟨#[]⟩:ByteArray),false,())) (
 bd (cO.f lf r3.1) fun r4 =>
 some (r4.1,true,()))
def E(lf:Nat):Entry:=⟨[yI,.str],[.str,.bool],fun x=>f lf x.1 x.2.1⟩
theorem ok(lf:Nat):Ok 79 (E lf):=okT (an:=(annsL [])) (lf:=lf) (tC (gm.ok lf) (tC (iP.ok lf) (tC (cO.ok lf) tN))) aoN fun x=>by kernel_rfl
end iU
namespace kE
def f(lf:Nat)(a0:ByteArray):Option (TI×Unit) :=
 bd (gq.f lf (⟨#[48]⟩:ByteArray) a0) fun r1 =>
 some (r1.1,())
def E(lf:Nat):Entry:=⟨[.str],[yI],fun x=>f lf x.1⟩
theorem ok(lf:Nat):Ok 147 (E lf):=okT (an:=(annsL [])) (lf:=lf) (tC (gq.ok lf) tN) aoN fun x=>by kernel_rfl
end kE
namespace ja
def f(lf:Nat)(a0:ByteArray)(a1:ByteArray):Option (Bool×Unit) :=
 br (a0.toList==(⟨#[48]⟩:ByteArray).toList) (
 some ((a1.toList==(⟨#[48]⟩:ByteArray).toList),())) (
 bd (eH.f lf a1 a0) fun r1 =>
 some ((r1.1.toList==(⟨#[48]⟩:ByteArray).toList),()))
def E(lf:Nat):Entry:=⟨[.str,.str],[.bool],fun x=>f lf x.1 x.2.1⟩
theorem ok(lf:Nat):Ok 83 (E lf):=okT (an:=(annsL [])) (lf:=lf) (tC (eH.ok lf) tN) aoN fun x=>by kernel_rfl
end ja
namespace kW
def f(lf:Nat)(a0:TI)(a1:ByteArray):Option (Bool×Unit) :=
 br (!a0.1) (
 bd (cZ.f lf a1 a0.2.2.1) fun r1 =>
 bd (ja.f lf a0.2.1 r1.1) fun r2 =>
 some (r2.1,())) (
 some (false,()))
def E(lf:Nat):Entry:=⟨[yI,.str],[.bool],fun x=>f lf x.1 x.2.1⟩
theorem ok(lf:Nat):Ok 31 (E lf):=okT (an:=(annsL [])) (lf:=lf) (tC (ja.ok lf) (tC (cZ.ok lf) tN)) aoN fun x=>by kernel_rfl
end kW
end
end Go.Q
namespace Go.Q
open Go Go.RowKit
open Go.Rx (br bd sIdx sCat sCut iQuo iRem iShl)
noncomputable section
namespace lI
def f(lf:Nat)(a0:ByteArray):Option (TV×Unit) :=
 some (((false,a0,a0,()),(false,(⟨#[48]⟩:ByteArray),a0,()),()),())
def E(lf:Nat):Entry:=⟨[.str],[yV],fun x=>f lf x.1⟩
theorem ok(lf:Nat):Ok 89 (E lf):=okT (an:=(annsL [])) (lf:=lf) tN aoN fun x=>by kernel_rfl
end lI
namespace jO
def f(lf:Nat)  : Option (TV×Unit) :=
 some (((true,(⟨#[]⟩:ByteArray),(⟨#[]⟩:ByteArray),()),(true,(⟨#[]⟩:ByteArray),(⟨#[]⟩:ByteArray),()),()),())
def E(lf:Nat):Entry:=⟨[],[yV],fun x=>f lf⟩
theorem ok(lf:Nat):Ok 204 (E lf):=okT (an:=(annsL [])) (lf:=lf) tN aoN fun x=>by kernel_rfl
end jO
namespace cu
def f(lf:Nat)(a0:ByteArray):Option (ByteArray×Unit) :=
 bd (strings_TrimPrefix.f lf a0 (⟨#[45]⟩:ByteArray)) fun r1 =>
 br (decide (((r1.1.size:Nat):Int) > 100)) (
 some ((⟨#[]⟩:ByteArray),())) (
 some (a0,()))
def E(lf:Nat):Entry:=⟨[.str],[.str],fun x=>f lf x.1⟩
theorem ok(lf:Nat):Ok 87 (E lf):=okT (an:=(annsL [])) (lf:=lf) (tC (strings_TrimPrefix.ok lf) tN) aoN fun x=>by kernel_rfl
end cu
namespace fD
def f(lf:Nat)(a0:TI)(a1:TI):Option (TV×Unit) :=
 br a0.1 (
 bd (jO.f lf) fun r1 =>
 some (r1.1,())) (
 br a1.1 (
 bd (jO.f lf) fun r2 =>
 some (r2.1,())) (
 br (a1.2.1.toList==(⟨#[48]⟩:ByteArray).toList) (
 bd (bJ.f lf a0 a1.2.2.1) fun r3 =>
 br (!r3.1) (
 bd (jO.f lf) fun r4 =>
 some (r4.1,())) (
 bd (lI.f lf a1.2.2.1) fun r5 =>
 some (r5.1,()))) (
 br (!(a0.2.1.toList==(⟨#[]⟩:ByteArray).toList)) (
 bd (kS.f lf a1 a0.2.1) fun r6 =>
 br (!(a0.2.2.1.toList==(⟨#[]⟩:ByteArray).toList)) (
 bd (iR.f lf a1 a0.2.2.1) fun r7 =>
 br (!(r6.1.toList==(⟨#[]⟩:ByteArray).toList)) (
 br (!(r7.1.toList==(⟨#[]⟩:ByteArray).toList)) (
 bd (dR.f lf r6.1 r7.1) fun r8 =>
 br (decide (r8.1 > 0)) (
 bd (jO.f lf) fun r9 =>
 some (r9.1,())) (
 br (r8.1==0) (
 bd (lI.f lf r6.1) fun r10 =>
 some (r10.1,())) (
 bd (cu.f lf r6.1) fun r11 =>
 bd (cu.f lf r7.1) fun r12 =>
 some (((false,r11.1,r12.1,()),a1,()),())))) (
 bd (cu.f lf r6.1) fun r13 =>
 bd (cu.f lf r7.1) fun r14 =>
 some (((false,r13.1,r14.1,()),a1,()),()))) (
 bd (cu.f lf r6.1) fun r15 =>
 bd (cu.f lf r7.1) fun r16 =>
 some (((false,r15.1,r16.1,()),a1,()),()))) (
 br (!(r6.1.toList==(⟨#[]⟩:ByteArray).toList)) (
 br (!(a0.2.2.1.toList==(⟨#[]⟩:ByteArray).toList)) (
 bd (dR.f lf r6.1 a0.2.2.1) fun r17 =>
 br (decide (r17.1 > 0)) (
 bd (jO.f lf) fun r18 =>
 some (r18.1,())) (
 br (r17.1==0) (
 bd (lI.f lf r6.1) fun r19 =>
 some (r19.1,())) (
 bd (cu.f lf r6.1) fun r20 =>
 bd (cu.f lf a0.2.2.1) fun r21 =>
 some (((false,r20.1,r21.1,()),a1,()),())))) (
 bd (cu.f lf r6.1) fun r22 =>
 bd (cu.f lf a0.2.2.1) fun r23 =>
 some (((false,r22.1,r23.1,()),a1,()),()))) (
 bd (cu.f lf r6.1) fun r24 =>
 bd (cu.f lf a0.2.2.1) fun r25 =>
 some (((false,r24.1,r25.1,()),a1,()),())))) (
 br (!(a0.2.2.1.toList==(⟨#[]⟩:ByteArray).toList)) (
 bd (iR.f lf a1 a0.2.2.1) fun r26 =>
 br (!(a0.2.1.toList==(⟨#[]⟩:ByteArray).toList)) (
 br (!(r26.1.toList==(⟨#[]⟩:ByteArray).toList)) (
 bd (dR.f lf a0.2.1 r26.1) fun r27 =>
 br (decide (r27.1 > 0)) (
 bd (jO.f lf) fun r28 =>
 some (r28.1,())) (
 br (r27.1==0) (
 bd (lI.f lf a0.2.1) fun r29 =>
 some (r29.1,())) (
 bd (cu.f lf a0.2.1) fun r30 =>
 bd (cu.f lf r26.1) fun r31 =>
 some (((false,r30.1,r31.1,()),a1,()),())))) (
 bd (cu.f lf a0.2.1) fun r32 =>
 bd (cu.f lf r26.1) fun r33 =>
 some (((false,r32.1,r33.1,()),a1,()),()))) (
 bd (cu.f lf a0.2.1) fun r34 =>
 bd (cu.f lf r26.1) fun r35 =>
 some (((false,r34.1,r35.1,()),a1,()),()))) (
 br (!(a0.2.1.toList==(⟨#[]⟩:ByteArray).toList)) (
 br (!(a0.2.2.1.toList==(⟨#[]⟩:ByteArray).toList)) (
 bd (dR.f lf a0.2.1 a0.2.2.1) fun r36 =>
 br (decide (r36.1 > 0)) (
 bd (jO.f lf) fun r37 =>
 some (r37.1,())) (
 br (r36.1==0) (
 bd (lI.f lf a0.2.1) fun r38 =>
 some (r38.1,())) (
 bd (cu.f lf a0.2.1) fun r39 =>
 bd (cu.f lf a0.2.2.1) fun r40 =>
 some (((false,r39.1,r40.1,()),a1,()),())))) (
 bd (cu.f lf a0.2.1) fun r41 =>
 bd (cu.f lf a0.2.2.1) fun r42 =>
 some (((false,r41.1,r42.1,()),a1,()),()))) (
 bd (cu.f lf a0.2.1) fun r43 =>
 bd (cu.f lf a0.2.2.1) fun r44 =>
 some (((false,r43.1,r44.1,()),a1,()),())))))))
def E(lf:Nat):Entry:=⟨[yI,yI],[yV],fun x=>f lf x.1 x.2.1⟩
theorem ok(lf:Nat):Ok 86 (E lf):=okT (an:=(annsL [])) (lf:=lf) (tC (bJ.ok lf) (tC (cu.ok lf) (tC (lI.ok lf) (tC (dR.ok lf) (tC (jO.ok lf) (tC (kS.ok lf) (tC (iR.ok lf) tN))))))) aoN fun x=>by kernel_rfl
end fD
namespace lX
def f(lf:Nat)(a0:TI)(a1:TI):Option (Int×Unit) :=
 bd (bV.f lf a0) fun r1 =>
 br (r1.1 != 0) (
 some (r1.1,())) (
 bd (dB.f lf a1) fun r2 =>
 some (r2.1,()))
def E(lf:Nat):Entry:=⟨[yI,yI],[(.int .i64)],fun x=>f lf x.1 x.2.1⟩
theorem ok(lf:Nat):Ok 85 (E lf):=okT (an:=(annsL [])) (lf:=lf) (tC (bV.ok lf) (tC (dB.ok lf) tN)) aoN fun x=>by kernel_rfl
end lX
namespace jM
def f(lf:Nat)(a0:TV):Option (Int×Unit) :=
 bd (lX.f lf a0.1 a0.2.1) fun r1 =>
 br (r1.1 != 0) (
 some (r1.1,())) (
 bd (fD.f lf a0.1 a0.2.1) fun r2 =>
 bd (some (!(((r2.1.1.1==a0.1.1)&&((r2.1.1.2.1==a0.1.2.1)&&((r2.1.1.2.2.1==a0.1.2.2.1)&&true)))&&(((r2.1.2.1.1==a0.2.1.1)&&((r2.1.2.1.2.1==a0.2.1.2.1)&&((r2.1.2.1.2.2.1==a0.2.1.2.2.1)&&true)))&&true)))) fun r3 =>
 br r3 (
 some (3,())) (
 some (0,())))
def E(lf:Nat):Entry:=⟨[yV],[(.int .i64)],fun x=>f lf x.1⟩
theorem ok(lf:Nat):Ok 71 (E lf):=okT (an:=(annsL [])) (lf:=lf) (tC (lX.ok lf) (tC (fD.ok lf) tN)) aoN fun x=>by kernel_rfl
end jM
namespace jL
def f(lf:Nat)(a0:TV)(a1:TV):Option (Int×Unit) :=
 bd (jM.f lf a0) fun r1 =>
 br (r1.1 != 0) (
 some (r1.1,())) (
 bd (jM.f lf a1) fun r2 =>
 some (r2.1,()))
def E(lf:Nat):Entry:=⟨[yV,yV],[(.int .i64)],fun x=>f lf x.1 x.2.1⟩
theorem ok(lf:Nat):Ok 130 (E lf):=okT (an:=(annsL [])) (lf:=lf) (tC (jM.ok lf) tN) aoN fun x=>by kernel_rfl
end jL
namespace di
def f(lf:Nat)(a0:Int)(a1:TV)(a2:TV):Option (TV×Int×Unit) :=
 br (a0==3) (
 bd (jL.f lf a1 a2) fun r1 =>
 br (r1.1 != 0) (
 some (((false,(⟨#[]⟩:ByteArray),(⟨#[]⟩:ByteArray),()),(false,(⟨#[]⟩:ByteArray),(⟨#[]⟩:ByteArray),()),()),r1.1,())) (
 bd (jG.f lf a1.1 a2.1) fun r2 =>
 br (r2.2.1 != 0) (
 some (((false,(⟨#[]⟩:ByteArray),(⟨#[]⟩:ByteArray),()),(false,(⟨#[]⟩:ByteArray),(⟨#[]⟩:ByteArray),()),()),r2.2.1,())) (
 bd (iE.f lf a1.2.1 a2.2.1) fun r3 =>
 br (r3.2.1 != 0) (
 some (((false,(⟨#[]⟩:ByteArray),(⟨#[]⟩:ByteArray),()),(false,(⟨#[]⟩:ByteArray),(⟨#[]⟩:ByteArray),()),()),r3.2.1,())) (
 bd (fD.f lf r2.1 r3.1) fun r4 =>
 some (r4.1,0,()))))) (
 br (a0==4) (
 bd (jL.f lf a1 a2) fun r5 =>
 br (r5.1 != 0) (
 some (((false,(⟨#[]⟩:ByteArray),(⟨#[]⟩:ByteArray),()),(false,(⟨#[]⟩:ByteArray),(⟨#[]⟩:ByteArray),()),()),r5.1,())) (
 bd (jK.f lf a1.1 a2.1) fun r6 =>
 br (r6.2.1 != 0) (
 some (((false,(⟨#[]⟩:ByteArray),(⟨#[]⟩:ByteArray),()),(false,(⟨#[]⟩:ByteArray),(⟨#[]⟩:ByteArray),()),()),r6.2.1,())) (
 bd (iJ.f lf a1.2.1 a2.2.1) fun r7 =>
 br (r7.2.1 != 0) (
 some (((false,(⟨#[]⟩:ByteArray),(⟨#[]⟩:ByteArray),()),(false,(⟨#[]⟩:ByteArray),(⟨#[]⟩:ByteArray),()),()),r7.2.1,())) (
 bd (fD.f lf r6.1 r7.1) fun r8 =>
 some (r8.1,0,()))))) (
 br (a0==5) (
 bd (jL.f lf a1 a2) fun r9 =>
 br (r9.1 != 0) (
 some (((false,(⟨#[]⟩:ByteArray),(⟨#[]⟩:ByteArray),()),(false,(⟨#[]⟩:ByteArray),(⟨#[]⟩:ByteArray),()),()),r9.1,())) (
 bd (jH.f lf a1.1 a2.1) fun r10 =>
 br (r10.2.1 != 0) (
 some (((false,(⟨#[]⟩:ByteArray),(⟨#[]⟩:ByteArray),()),(false,(⟨#[]⟩:ByteArray),(⟨#[]⟩:ByteArray),()),()),r10.2.1,())) (
 bd (iF.f lf a1.2.1 a2.2.1) fun r11 =>
 br (r11.2.1 != 0) (
 some (((false,(⟨#[]⟩:ByteArray),(⟨#[]⟩:ByteArray),()),(false,(⟨#[]⟩:ByteArray),(⟨#[]⟩:ByteArray),()),()),r11.2.1,())) (
 bd (fD.f lf r10.1 r11.1) fun r12 =>
 some (r12.1,0,()))))) (
 br (a0==6) (
 bd (jL.f lf a1 a2) fun r13 =>
 br (r13.1 != 0) (
 some (((false,(⟨#[]⟩:ByteArray),(⟨#[]⟩:ByteArray),()),(false,(⟨#[]⟩:ByteArray),(⟨#[]⟩:ByteArray),()),()),r13.1,())) (
 bd (jI.f lf a1.1 a2.1) fun r14 =>
 br (r14.2.1 != 0) (
 some (((false,(⟨#[]⟩:ByteArray),(⟨#[]⟩:ByteArray),()),(false,(⟨#[]⟩:ByteArray),(⟨#[]⟩:ByteArray),()),()),r14.2.1,())) (
 bd (iG.f lf a1.2.1 a2.2.1) fun r15 =>
 br (r15.2.1 != 0) (
 some (((false,(⟨#[]⟩:ByteArray),(⟨#[]⟩:ByteArray),()),(false,(⟨#[]⟩:ByteArray),(⟨#[]⟩:ByteArray),()),()),r15.2.1,())) (
 bd (fD.f lf r14.1 r15.1) fun r16 =>
 some (r16.1,0,()))))) (
 br (a0==7) (
 bd (jL.f lf a1 a2) fun r17 =>
 br (r17.1 != 0) (
 some (((false,(⟨#[]⟩:ByteArray),(⟨#[]⟩:ByteArray),()),(false,(⟨#[]⟩:ByteArray),(⟨#[]⟩:ByteArray),()),()),r17.1,())) (
 bd (jJ.f lf a1.1 a2.1) fun r18 =>
 br (r18.2.1 != 0) (
 some (((false,(⟨#[]⟩:ByteArray),(⟨#[]⟩:ByteArray),()),(false,(⟨#[]⟩:ByteArray),(⟨#[]⟩:ByteArray),()),()),r18.2.1,())) (
 bd (iH.f lf a1.2.1 a2.2.1) fun r19 =>
 br (r19.2.1 != 0) (
 some (((false,(⟨#[]⟩:ByteArray),(⟨#[]⟩:ByteArray),()),(false,(⟨#[]⟩:ByteArray),(⟨#[]⟩:ByteArray),()),()),r19.2.1,())) (
 bd (fD.f lf r18.1 r19.1) fun r20 =>
 some (r20.1,0,()))))) (
 some (((false,(⟨#[]⟩:ByteArray),(⟨#[]⟩:ByteArray),()),(false,(⟨#[]⟩:ByteArray),(⟨#[]⟩:ByteArray),()),()),1,()))))))
def E(lf:Nat):Entry:=⟨[(.int .i64),yV,yV],[yV,(.int .i64)],fun x=>f lf x.1 x.2.1 x.2.2.1⟩
theorem ok(lf:Nat):Ok 17 (E lf):=okT (an:=(annsL [])) (lf:=lf) (tC (jG.ok lf) (tC (jK.ok lf) (tC (jH.ok lf) (tC (jI.ok lf) (tC (jJ.ok lf) (tC (iE.ok lf) (tC (iJ.ok lf) (tC (iF.ok lf) (tC (iG.ok lf) (tC (iH.ok lf) (tC (fD.ok lf) (tC (jL.ok lf) tN)))))))))))) aoN fun x=>by kernel_rfl
end di
namespace dF
def f(lf:Nat)(a0:TV)(a1:ByteArray):Option (Bool×Int×Unit) :=
 bd (jM.f lf a0) fun r1 =>
 br (r1.1 != 0) (
 some (false,r1.1,())) (
 bd (bJ.f lf a0.1 a1) fun r2 =>
 br (r2.2.1 != 0) (
 some (false,r2.2.1,())) (
 bd (bG.f lf a0.2.1 a1) fun r3 =>
 br r2.1 (
 br r3.1 (
 some ((r3.2.1==0),r3.2.1,())) (
 some (false,r3.2.1,()))) (
 some (false,r3.2.1,()))))
def E(lf:Nat):Entry:=⟨[yV,.str],[.bool,(.int .i64)],fun x=>f lf x.1 x.2.1⟩
theorem ok(lf:Nat):Ok 22 (E lf):=okT (an:=(annsL [])) (lf:=lf) (tC (bJ.ok lf) (tC (bG.ok lf) (tC (jM.ok lf) tN))) aoN fun x=>by kernel_rfl
end dF
namespace sW
def l:List ((TI×TI×Unit)×(TV×Int×Unit)):=[(((false,(⟨#[50]⟩:ByteArray),(⟨#[54]⟩:ByteArray),()),(false,(⟨#[50]⟩:ByteArray),(⟨#[48]⟩:ByteArray),()),()),(((false,(⟨#[50]⟩:ByteArray),(⟨#[54]⟩:ByteArray),()),(false,(⟨#[50]⟩:ByteArray),(⟨#[48]⟩:ByteArray),()),()),0,()))]
def f(lf:Nat)(a0:TI)(a1:TI):Option (TV×Int×Unit):=pick [yI,yI] l (a0,a1,())
def E(lf:Nat):Entry:=⟨[yI,yI],[yV,(.int .i64)],fun x=>f lf x.1 x.2.1⟩
def tb(lf:Nat):List (FuncId×Entry):=[(85,lX.E lf),(86,fD.E lf)]
abbrev an:FuncId→FA:=annsL []
theorem ok(lf:Nat):Ok 32 (E lf):=okP (an:=an) (tb:=tb lf) (lf:=lf) (tC (lX.ok lf) (tC (fD.ok lf) tN)) aoN (l:=l) (fun _=>rfl) (fun _=>rfl) ⟨by as_aux_lemma=>kernel_rfl,trivial⟩
end sW
namespace wR
def l:List ((ByteArray×Unit)×(TV×Int×Unit)):=[(((⟨#[51]⟩:ByteArray),()),(((false,(⟨#[51]⟩:ByteArray),(⟨#[51]⟩:ByteArray),()),(false,(⟨#[48]⟩:ByteArray),(⟨#[51]⟩:ByteArray),()),()),0,()))]
def f(lf:Nat)(a0:ByteArray):Option (TV×Int×Unit):=pick [.str] l (a0,())
def E(lf:Nat):Entry:=⟨[.str],[yV,(.int .i64)],fun x=>f lf x.1⟩
def tb(lf:Nat):List (FuncId×Entry):=[(64,bY.E lf),(87,cu.E lf),(89,lI.E lf)]
abbrev an:FuncId→FA:=annsL []
theorem ok(lf:Nat):Ok 33 (E lf):=okP (an:=an) (tb:=tb lf) (lf:=lf) (tC (bY.ok lf) (tC (cu.ok lf) (tC (lI.ok lf) tN))) aoN (l:=l) (fun _=>rfl) (fun _=>rfl) ⟨by as_aux_lemma=>kernel_rfl,trivial⟩
end wR
end
end Go.Q
