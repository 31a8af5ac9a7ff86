import Derived.Test.YtfogkflaijhfoaaGreatDoorProg
import Derived.KernelRfl
import Derived.Test.YtfogkflaijhfoaaGreatDoorVAE3
import Derived.Test.YtfogkflaijhfoaaGreatDoorVAG1
import Derived.Test.YtfogkflaijhfoaaGreatDoorVAG3
import Derived.Test.YtfogkflaijhfoaaGreatDoorVAG4
import Derived.Test.YtfogkflaijhfoaaGreatDoorVAG5
import Derived.Test.YtfogkflaijhfoaaGreatDoorVAG8
set_option linter.unusedVariables false
set_option linter.unusedSimpArgs false
set_option linter.unusedSectionVars false
set_option maxRecDepth 100000
namespace Go.Q
open Go Go.RowKit
open Go.Rx (br bd sIdx sCat sCut iQuo iRem)
noncomputable section
namespace iG
def f(lf:Nat)(a0:ByteArray):Option (Bool×Unit) :=
 bd (strings_TrimPrefix.f lf a0 (⟨#[45]⟩:ByteArray)) fun r1 =>
 some ((decide (((r1.1.size:Nat):Int) > 100)),())
def E(lf:Nat):Entry:=⟨[.str],[.bool],fun x=>f lf x.1⟩
theorem ok(lf:Nat):Ok 208 (E lf):=okT (an:=(annsL [])) (lf:=lf) (tC (strings_TrimPrefix.ok lf) tN) aoN fun x=>by kernel_rfl
end iG
namespace iU
def f(lf:Nat)  : Option (TI×Unit) :=
 some ((false,(⟨#[49]⟩:ByteArray),(⟨#[48]⟩:ByteArray),()),())
def E(lf:Nat):Entry:=⟨[],[yI],fun x=>f lf⟩
theorem ok(lf:Nat):Ok 209 (E lf):=okT (an:=(annsL [])) (lf:=lf) tN aoN fun x=>by kernel_rfl
end iU
namespace dm
def f(lf:Nat)(a0:ByteArray)(a1:ByteArray):Option (TI×Unit) :=
 bd (uF.f lf a0) fun r1 =>
 bd (gY.f lf r1.1 r1.2.1) fun r2 =>
 br (!(r2.1.toList==(⟨#[48]⟩:ByteArray).toList)) (
 bd (iR.f lf a1 r2.1) fun r3 =>
 bd (gY.f lf r3.1 r3.2.1) fun r4 =>
 bd (iG.f lf r2.1) fun r5 =>
 br r5.1 (
 bd (iU.f lf) fun r6 =>
 some (r6.1,())) (
 bd (iG.f lf r4.1) fun r7 =>
 br r7.1 (
 bd (iU.f lf) fun r8 =>
 some (r8.1,())) (
 some ((false,r2.1,r4.1,()),())))) (
 bd (iG.f lf r2.1) fun r9 =>
 br r9.1 (
 bd (iU.f lf) fun r10 =>
 some (r10.1,())) (
 bd (iG.f lf a1) fun r11 =>
 br r11.1 (
 bd (iU.f lf) fun r12 =>
 some (r12.1,())) (
 some ((false,r2.1,a1,()),()))))
def E(lf:Nat):Entry:=⟨[.str,.str],[yI],fun x=>f lf x.1 x.2.1⟩
theorem ok(lf:Nat):Ok 100 (E lf):=okT (an:=(annsL [])) (lf:=lf) (tC (iR.ok lf) (tC (gY.ok lf) (tC (uF.ok lf) (tC (iG.ok lf) (tC (iU.ok lf) tN))))) aoN fun x=>by kernel_rfl
end dm
namespace dM
def f(lf:Nat)(a0:ByteArray)(a1:ByteArray):Option (ByteArray×Unit) :=
 bd (uG.f lf a0 a1) fun r1 =>
 bd (gY.f lf r1.1 r1.2.1) fun r2 =>
 some (r2.1,())
def E(lf:Nat):Entry:=⟨[.str,.str],[.str],fun x=>f lf x.1 x.2.1⟩
theorem ok(lf:Nat):Ok 101 (E lf):=okT (an:=(annsL [])) (lf:=lf) (tC (gY.ok lf) (tC (uG.ok lf) tN)) aoN fun x=>by kernel_rfl
end dM
namespace lX
def f(lf:Nat)(a0:ByteArray)(a1:ByteArray):Option (ByteArray×Unit) :=
 bd (nC.f lf a0 a1) fun r1 =>
 bd (gY.f lf r1.1 r1.2.1) fun r2 =>
 some (r2.1,())
def E(lf:Nat):Entry:=⟨[.str,.str],[.str],fun x=>f lf x.1 x.2.1⟩
theorem ok(lf:Nat):Ok 125 (E lf):=okT (an:=(annsL [])) (lf:=lf) (tC (nC.ok lf) (tC (gY.ok lf) tN)) aoN fun x=>by kernel_rfl
end lX
namespace pY
def f(lf:Nat)(a0:TI)(a1:TI):Option (TI×Unit) :=
 bd (dM.f lf a0.2.1 a1.2.1) fun r1 =>
 bd (lX.f lf a0.2.2.1 a1.2.2.1) fun r2 =>
 bd (dm.f lf r1.1 r2.1) fun r3 =>
 some (r3.1,())
def E(lf:Nat):Entry:=⟨[yI,yI],[yI],fun x=>f lf x.1 x.2.1⟩
theorem ok(lf:Nat):Ok 124 (E lf):=okT (an:=(annsL [])) (lf:=lf) (tC (dm.ok lf) (tC (dM.ok lf) (tC (lX.ok lf) tN))) aoN fun x=>by kernel_rfl
end pY
namespace kQ
def f(lf:Nat)(a0:ByteArray):Option (Int×Unit) :=
 bd (dZ.f lf a0) fun r1 =>
 br (r1.1==10) (
 some (10,())) (
 br (r1.1==0) (
 bd (iG.f lf a0) fun r2 =>
 br r2.1 (
 some (10,())) (
 br (r1.1 != 0) (
 some (r1.1,())) (
 some (0,())))) (
 br (r1.1 != 0) (
 some (r1.1,())) (
 some (0,()))))
def E(lf:Nat):Entry:=⟨[.str],[(.int .i64)],fun x=>f lf x.1⟩
theorem ok(lf:Nat):Ok 289 (E lf):=okT (an:=(annsL [])) (lf:=lf) (tC (dZ.ok lf) (tC (iG.ok lf) tN)) aoN fun x=>by kernel_rfl
end kQ
namespace nK
def f(lf:Nat)(a0:Int)(a1:Int):Option (Int×Unit) :=
 some (a0,())
def E(lf:Nat):Entry:=⟨[(.int .i64),(.int .i64)],[(.int .i64)],fun x=>f lf x.1 x.2.1⟩
theorem ok(lf:Nat):Ok 339 (E lf):=okT (an:=(annsL [])) (lf:=lf) tN aoN fun x=>by kernel_rfl
end nK
namespace iF
def f(lf:Nat)(a0:ByteArray)(a1:ByteArray):Option (Bool×Unit) :=
 bd (iE.f lf a0 a1) fun r1 =>
 bd (nK.f lf r1.1 r1.2.1) fun r2 =>
 some ((decide (r2.1 < 0)),())
def E(lf:Nat):Entry:=⟨[.str,.str],[.bool],fun x=>f lf x.1 x.2.1⟩
theorem ok(lf:Nat):Ok 290 (E lf):=okT (an:=(annsL [])) (lf:=lf) (tC (iE.ok lf) (tC (nK.ok lf) tN)) aoN fun x=>by kernel_rfl
end iF
namespace fD
def f(lf:Nat)(a0:TI):Option (Int×Unit) :=
 br a0.1 (
 br (!(a0.2.1.toList==(⟨#[]⟩:ByteArray).toList)) (
 some (3,())) (
 br (!(a0.2.2.1.toList==(⟨#[]⟩:ByteArray).toList)) (
 some (3,())) (
 some (0,())))) (
 bd (kQ.f lf a0.2.1) fun r1 =>
 br (r1.1 != 0) (
 some (r1.1,())) (
 bd (kQ.f lf a0.2.2.1) fun r2 =>
 br (r2.1 != 0) (
 some (r2.1,())) (
 bd (iF.f lf a0.2.1 (⟨#[48]⟩:ByteArray)) fun r3 =>
 br r3.1 (
 some (2,())) (
 br (!(a0.2.1.toList==(⟨#[48]⟩:ByteArray).toList)) (
 bd (iF.f lf a0.2.2.1 (⟨#[48]⟩:ByteArray)) fun r4 =>
 br r4.1 (
 some (2,())) (
 bd (iF.f lf a0.2.2.1 a0.2.1) fun r5 =>
 br (!r5.1) (
 some (2,())) (
 some (0,())))) (
 some (0,()))))))
def E(lf:Nat):Entry:=⟨[yI],[(.int .i64)],fun x=>f lf x.1⟩
theorem ok(lf:Nat):Ok 201 (E lf):=okT (an:=(annsL [])) (lf:=lf) (tC (kQ.ok lf) (tC (iF.ok lf) tN)) aoN fun x=>by kernel_rfl
end fD
namespace dQ
def f(lf:Nat)(a0:TI)(a1:TI):Option (Int×Unit) :=
 bd (fD.f lf a0) fun r1 =>
 br (r1.1 != 0) (
 some (r1.1,())) (
 bd (fD.f lf a1) fun r2 =>
 some (r2.1,()))
def E(lf:Nat):Entry:=⟨[yI,yI],[(.int .i64)],fun x=>f lf x.1 x.2.1⟩
theorem ok(lf:Nat):Ok 99 (E lf):=okT (an:=(annsL [])) (lf:=lf) (tC (fD.ok lf) tN) aoN fun x=>by kernel_rfl
end dQ
namespace aT
def f(lf:Nat)  : Option (TI×Unit) :=
 some ((true,(⟨#[]⟩:ByteArray),(⟨#[]⟩:ByteArray),()),())
def E(lf:Nat):Entry:=⟨[],[yI],fun x=>f lf⟩
theorem ok(lf:Nat):Ok 236 (E lf):=okT (an:=(annsL [])) (lf:=lf) tN aoN fun x=>by kernel_rfl
end aT
namespace oW
def f(lf:Nat)(a0:TI)(a1:TI):Option (TI×Int×Unit) :=
 bd (dQ.f lf a0 a1) fun r1 =>
 br (r1.1 != 0) (
 some ((false,(⟨#[]⟩:ByteArray),(⟨#[]⟩:ByteArray),()),r1.1,())) (
 br a0.1 (
 bd (aT.f lf) fun r2 =>
 some (r2.1,0,())) (
 br a1.1 (
 bd (aT.f lf) fun r3 =>
 some (r3.1,0,())) (
 bd (pY.f lf a0 a1) fun r4 =>
 some (r4.1,0,()))))
def E(lf:Nat):Entry:=⟨[yI,yI],[yI,(.int .i64)],fun x=>f lf x.1 x.2.1⟩
theorem ok(lf:Nat):Ok 33 (E lf):=okT (an:=(annsL [])) (lf:=lf) (tC (dQ.ok lf) (tC (pY.ok lf) (tC (aT.ok lf) tN))) aoN fun x=>by kernel_rfl
end oW
namespace gJ
def f(lf:Nat)(a0:ByteArray)(a1:ByteArray):Option (ByteArray×Unit) :=
 bd (oD.f lf a0 a1) fun r1 =>
 bd (gY.f lf r1.1 r1.2.1) fun r2 =>
 some (r2.1,())
def E(lf:Nat):Entry:=⟨[.str,.str],[.str],fun x=>f lf x.1 x.2.1⟩
theorem ok(lf:Nat):Ok 102 (E lf):=okT (an:=(annsL [])) (lf:=lf) (tC (oD.ok lf) (tC (gY.ok lf) tN)) aoN fun x=>by kernel_rfl
end gJ
namespace qf
def f(lf:Nat)(a0:TI)(a1:TI):Option (TI×Unit) :=
 bd (dM.f lf a0.2.1 a1.2.1) fun r1 =>
 bd (gJ.f lf a0.2.2.1 a1.2.2.1) fun r2 =>
 bd (dm.f lf r1.1 r2.1) fun r3 =>
 some (r3.1,())
def E(lf:Nat):Entry:=⟨[yI,yI],[yI],fun x=>f lf x.1 x.2.1⟩
theorem ok(lf:Nat):Ok 127 (E lf):=okT (an:=(annsL [])) (lf:=lf) (tC (dm.ok lf) (tC (dM.ok lf) (tC (gJ.ok lf) tN))) aoN fun x=>by kernel_rfl
end qf
namespace pF
def f(lf:Nat)(a0:TI)(a1:TI):Option (TI×Int×Unit) :=
 bd (dQ.f lf a0 a1) fun r1 =>
 br (r1.1 != 0) (
 some ((false,(⟨#[]⟩:ByteArray),(⟨#[]⟩:ByteArray),()),r1.1,())) (
 br a0.1 (
 bd (aT.f lf) fun r2 =>
 some (r2.1,0,())) (
 br a1.1 (
 bd (aT.f lf) fun r3 =>
 some (r3.1,0,())) (
 bd (qf.f lf a0 a1) fun r4 =>
 some (r4.1,0,()))))
def E(lf:Nat):Entry:=⟨[yI,yI],[yI,(.int .i64)],fun x=>f lf x.1 x.2.1⟩
theorem ok(lf:Nat):Ok 34 (E lf):=okT (an:=(annsL [])) (lf:=lf) (tC (dQ.ok lf) (tC (qf.ok lf) (tC (aT.ok lf) tN))) aoN fun x=>by kernel_rfl
end pF
namespace iV
def f(lf:Nat)(a0:ByteArray)(a1:ByteArray):Option (ByteArray×Unit) :=
 bd (oV.f lf a0 a1) fun r1 =>
 bd (gY.f lf r1.1 r1.2.1) fun r2 =>
 some (r2.1,())
def E(lf:Nat):Entry:=⟨[.str,.str],[.str],fun x=>f lf x.1 x.2.1⟩
theorem ok(lf:Nat):Ok 129 (E lf):=okT (an:=(annsL [])) (lf:=lf) (tC (oV.ok lf) (tC (gY.ok lf) tN)) aoN fun x=>by kernel_rfl
end iV
namespace qc
def f(lf:Nat)(a0:TI)(a1:TI):Option (TI×Unit) :=
 bd (iV.f lf a0.2.1 a1.2.1) fun r1 =>
 bd (iV.f lf a0.2.1 a1.2.2.1) fun r2 =>
 bd (iV.f lf a1.2.1 a0.2.2.1) fun r3 =>
 bd (dM.f lf r2.1 r3.1) fun r4 =>
 bd (dM.f lf r1.1 r4.1) fun r5 =>
 bd (iV.f lf a0.2.2.1 a1.2.2.1) fun r6 =>
 bd (dm.f lf r5.1 r6.1) fun r7 =>
 some (r7.1,())
def E(lf:Nat):Entry:=⟨[yI,yI],[yI],fun x=>f lf x.1 x.2.1⟩
theorem ok(lf:Nat):Ok 128 (E lf):=okT (an:=(annsL [])) (lf:=lf) (tC (dm.ok lf) (tC (dM.ok lf) (tC (iV.ok lf) tN))) aoN fun x=>by kernel_rfl
end qc
namespace oZ
def f(lf:Nat)(a0:TI)(a1:TI):Option (TI×Int×Unit) :=
 bd (dQ.f lf a0 a1) fun r1 =>
 br (r1.1 != 0) (
 some ((false,(⟨#[]⟩:ByteArray),(⟨#[]⟩:ByteArray),()),r1.1,())) (
 br a0.1 (
 bd (aT.f lf) fun r2 =>
 some (r2.1,0,())) (
 br a1.1 (
 bd (aT.f lf) fun r3 =>
 some (r3.1,0,())) (
 bd (qc.f lf a0 a1) fun r4 =>
 some (r4.1,0,()))))
def E(lf:Nat):Entry:=⟨[yI,yI],[yI,(.int .i64)],fun x=>f lf x.1 x.2.1⟩
theorem ok(lf:Nat):Ok 35 (E lf):=okT (an:=(annsL [])) (lf:=lf) (tC (dQ.ok lf) (tC (qc.ok lf) (tC (aT.ok lf) tN))) aoN fun x=>by kernel_rfl
end oZ
namespace eX
def f(lf:Nat)(a0:ByteArray)(a1:ByteArray):Option (Bool×Unit) :=
 br (a0.toList==(⟨#[48]⟩:ByteArray).toList) (
 some ((a1.toList==(⟨#[48]⟩:ByteArray).toList),())) (
 bd (iR.f lf a1 a0) fun r1 =>
 bd (gY.f lf r1.1 r1.2.1) fun r2 =>
 some ((r2.1.toList==(⟨#[48]⟩:ByteArray).toList),()))
def E(lf:Nat):Entry:=⟨[.str,.str],[.bool],fun x=>f lf x.1 x.2.1⟩
theorem ok(lf:Nat):Ok 211 (E lf):=okT (an:=(annsL [])) (lf:=lf) (tC (iR.ok lf) (tC (gY.ok lf) tN)) aoN fun x=>by kernel_rfl
end eX
namespace jl
def f(lf:Nat)(a0:ByteArray):Option (TI×Unit) :=
 some ((false,(⟨#[48]⟩:ByteArray),a0,()),())
def E(lf:Nat):Entry:=⟨[.str],[yI],fun x=>f lf x.1⟩
theorem ok(lf:Nat):Ok 256 (E lf):=okT (an:=(annsL [])) (lf:=lf) tN aoN fun x=>by kernel_rfl
end jl
namespace qZ
def f(lf:Nat)(a0:TI)(a1:TI):Option (TI×Unit) :=
 bd (jl.f lf (⟨#[48]⟩:ByteArray)) fun r1 =>
 bd (some ((a1.1==r1.1.1)&&((a1.2.1==r1.1.2.1)&&((a1.2.2.1==r1.1.2.2.1)&&true)))) fun r2 =>
 br r2 (
 bd (aT.f lf) fun r3 =>
 some (r3.1,())) (
 br (!(a1.2.1.toList==(⟨#[48]⟩:ByteArray).toList)) (
 bd (jl.f lf (⟨#[48]⟩:ByteArray)) fun r4 =>
 bd (some ((a0.1==r4.1.1)&&((a0.2.1==r4.1.2.1)&&((a0.2.2.1==r4.1.2.2.1)&&true)))) fun r5 =>
 br r5 (
 some (a0,())) (
 bd (iU.f lf) fun r6 =>
 some (r6.1,()))) (
 bd (eX.f lf a1.2.2.1 a0.2.1) fun r7 =>
 br r7.1 (
 bd (lU.f lf a0.2.1 a1.2.2.1) fun r8 =>
 bd (gY.f lf r8.1 r8.2.1) fun r9 =>
 bd (lU.f lf a0.2.2.1 a1.2.2.1) fun r10 =>
 bd (gY.f lf r10.1 r10.2.1) fun r11 =>
 bd (dm.f lf r9.1 r11.1) fun r12 =>
 some (r12.1,())) (
 bd (iU.f lf) fun r13 =>
 some (r13.1,()))))
def E(lf:Nat):Entry:=⟨[yI,yI],[yI],fun x=>f lf x.1 x.2.1⟩
theorem ok(lf:Nat):Ok 213 (E lf):=okT (an:=(annsL [])) (lf:=lf) (tC (dm.ok lf) (tC (lU.ok lf) (tC (gY.ok lf) (tC (iU.ok lf) (tC (eX.ok lf) (tC (aT.ok lf) (tC (jl.ok lf) tN))))))) aoN fun x=>by kernel_rfl
end qZ
namespace pq
def f(lf:Nat)(a0:TI)(a1:TI):Option (TI×Int×Unit) :=
 bd (dQ.f lf a0 a1) fun r1 =>
 br (r1.1 != 0) (
 some ((false,(⟨#[]⟩:ByteArray),(⟨#[]⟩:ByteArray),()),r1.1,())) (
 br a0.1 (
 bd (aT.f lf) fun r2 =>
 some (r2.1,0,())) (
 br a1.1 (
 bd (aT.f lf) fun r3 =>
 some (r3.1,0,())) (
 bd (qZ.f lf a0 a1) fun r4 =>
 some (r4.1,0,()))))
def E(lf:Nat):Entry:=⟨[yI,yI],[yI,(.int .i64)],fun x=>f lf x.1 x.2.1⟩
theorem ok(lf:Nat):Ok 109 (E lf):=okT (an:=(annsL [])) (lf:=lf) (tC (dQ.ok lf) (tC (qZ.ok lf) (tC (aT.ok lf) tN))) aoN fun x=>by kernel_rfl
end pq
namespace qN
def f(lf:Nat)(a0:TI)(a1:TI):Option (TI×Unit) :=
 bd (jl.f lf (⟨#[48]⟩:ByteArray)) fun r1 =>
 bd (some ((a1.1==r1.1.1)&&((a1.2.1==r1.1.2.1)&&((a1.2.2.1==r1.1.2.2.1)&&true)))) fun r2 =>
 br r2 (
 bd (aT.f lf) fun r3 =>
 some (r3.1,())) (
 br (a1.2.1.toList==(⟨#[48]⟩:ByteArray).toList) (
 bd (eX.f lf a1.2.2.1 a0.2.1) fun r4 =>
 br r4.1 (
 bd (iR.f lf a0.2.2.1 a1.2.2.1) fun r5 =>
 bd (gY.f lf r5.1 r5.2.1) fun r6 =>
 bd (dm.f lf (⟨#[48]⟩:ByteArray) r6.1) fun r7 =>
 some (r7.1,())) (
 bd (dM.f lf a1.2.1 a1.2.2.1) fun r8 =>
 bd (dM.f lf a0.2.1 r8.1) fun r9 =>
 bd (dm.f lf r9.1 a0.2.2.1) fun r10 =>
 some (r10.1,()))) (
 bd (dM.f lf a1.2.1 a1.2.2.1) fun r11 =>
 bd (dM.f lf a0.2.1 r11.1) fun r12 =>
 bd (dm.f lf r12.1 a0.2.2.1) fun r13 =>
 some (r13.1,())))
def E(lf:Nat):Entry:=⟨[yI,yI],[yI],fun x=>f lf x.1 x.2.1⟩
theorem ok(lf:Nat):Ok 215 (E lf):=okT (an:=(annsL [])) (lf:=lf) (tC (dm.ok lf) (tC (dM.ok lf) (tC (iR.ok lf) (tC (gY.ok lf) (tC (eX.ok lf) (tC (aT.ok lf) (tC (jl.ok lf) tN))))))) aoN fun x=>by kernel_rfl
end qN
namespace pz
def f(lf:Nat)(a0:TI)(a1:TI):Option (TI×Int×Unit) :=
 bd (dQ.f lf a0 a1) fun r1 =>
 br (r1.1 != 0) (
 some ((false,(⟨#[]⟩:ByteArray),(⟨#[]⟩:ByteArray),()),r1.1,())) (
 br a0.1 (
 bd (aT.f lf) fun r2 =>
 some (r2.1,0,())) (
 br a1.1 (
 bd (aT.f lf) fun r3 =>
 some (r3.1,0,())) (
 bd (qN.f lf a0 a1) fun r4 =>
 some (r4.1,0,()))))
def E(lf:Nat):Entry:=⟨[yI,yI],[yI,(.int .i64)],fun x=>f lf x.1 x.2.1⟩
theorem ok(lf:Nat):Ok 111 (E lf):=okT (an:=(annsL [])) (lf:=lf) (tC (dQ.ok lf) (tC (qN.ok lf) (tC (aT.ok lf) tN))) aoN fun x=>by kernel_rfl
end pz
namespace jJ
def f(lf:Nat)(a0:ByteArray)(a1:ByteArray)(a2:ByteArray):Option (ByteArray×Int×Unit) :=
 bd (iR.f lf a0 a2) fun r1 =>
 br (r1.2.1 != 0) (
 some ((⟨#[]⟩:ByteArray),r1.2.1,())) (
 bd (iR.f lf a1 a2) fun r2 =>
 br (r2.2.1 != 0) (
 some ((⟨#[]⟩:ByteArray),r2.2.1,())) (
 bd (gJ.f lf r1.1 r2.1) fun r3 =>
 bd (iR.f lf r3.1 a2) fun r4 =>
 some (r4.1,r4.2.1,())))
def E(lf:Nat):Entry:=⟨[.str,.str,.str],[.str,(.int .i64)],fun x=>f lf x.1 x.2.1 x.2.2.1⟩
theorem ok(lf:Nat):Ok 351 (E lf):=okT (an:=(annsL [])) (lf:=lf) (tC (gJ.ok lf) (tC (iR.ok lf) tN)) aoN fun x=>by kernel_rfl
end jJ
end
end Go.Q
namespace Go.Q
open Go Go.RowKit
open Go.Rx (br bd sIdx sCat sCut iQuo iRem)
noncomputable section
namespace nS
def f(lf:Nat)(a0:TI)(a1:ByteArray):Option (ByteArray×Int×Unit) :=
 bd (fD.f lf a0) fun r1 =>
 br (r1.1 != 0) (
 some ((⟨#[]⟩:ByteArray),r1.1,())) (
 bd (dZ.f lf a1) fun r2 =>
 br (r2.1 != 0) (
 some ((⟨#[]⟩:ByteArray),r2.1,())) (
 br a0.1 (
 some ((⟨#[]⟩:ByteArray),16,())) (
 br (!(a0.2.1.toList==(⟨#[48]⟩:ByteArray).toList)) (
 bd (jJ.f lf a0.2.2.1 a1 a0.2.1) fun r3 =>
 br (r3.2.1 != 0) (
 some ((⟨#[]⟩:ByteArray),r3.2.1,())) (
 bd (nC.f lf a1 r3.1) fun r4 =>
 some (r4.1,r4.2.1,()))) (
 bd (iF.f lf a0.2.2.1 a1) fun r5 =>
 br r5.1 (
 some ((⟨#[]⟩:ByteArray),6,())) (
 some (a0.2.2.1,0,()))))))
def E(lf:Nat):Entry:=⟨[yI,.str],[.str,(.int .i64)],fun x=>f lf x.1 x.2.1⟩
theorem ok(lf:Nat):Ok 312 (E lf):=okT (an:=(annsL [])) (lf:=lf) (tC (dZ.ok lf) (tC (nC.ok lf) (tC (fD.ok lf) (tC (iF.ok lf) (tC (jJ.ok lf) tN))))) aoN fun x=>by kernel_rfl
end nS
namespace jR
def f(lf:Nat)(a0:TI)(a1:ByteArray):Option (ByteArray×Int×Unit) :=
 bd (fD.f lf a0) fun r1 =>
 br (r1.1 != 0) (
 some ((⟨#[]⟩:ByteArray),r1.1,())) (
 bd (dZ.f lf a1) fun r2 =>
 br (r2.1 != 0) (
 some ((⟨#[]⟩:ByteArray),r2.1,())) (
 br a0.1 (
 some ((⟨#[]⟩:ByteArray),16,())) (
 br (!(a0.2.1.toList==(⟨#[48]⟩:ByteArray).toList)) (
 bd (jJ.f lf a1 a0.2.2.1 a0.2.1) fun r3 =>
 br (r3.2.1 != 0) (
 some ((⟨#[]⟩:ByteArray),r3.2.1,())) (
 bd (oD.f lf a1 r3.1) fun r4 =>
 some (r4.1,r4.2.1,()))) (
 bd (iF.f lf a1 a0.2.2.1) fun r5 =>
 br r5.1 (
 some ((⟨#[]⟩:ByteArray),6,())) (
 some (a0.2.2.1,0,()))))))
def E(lf:Nat):Entry:=⟨[yI,.str],[.str,(.int .i64)],fun x=>f lf x.1 x.2.1⟩
theorem ok(lf:Nat):Ok 313 (E lf):=okT (an:=(annsL [])) (lf:=lf) (tC (dZ.ok lf) (tC (oD.ok lf) (tC (fD.ok lf) (tC (iF.ok lf) (tC (jJ.ok lf) tN))))) aoN fun x=>by kernel_rfl
end jR
namespace kP
def f(lf:Nat)(a0:TI)(a1:TI):Option (Bool×Unit) :=
 br a0.1 (
 some (a0.1,())) (
 br a1.1 (
 some (a0.1,())) (
 bd (eX.f lf a1.2.1 a0.2.1) fun r1 =>
 br r1.1 (
 bd (gJ.f lf a0.2.2.1 a1.2.2.1) fun r2 =>
 bd (eX.f lf a1.2.1 r2.1) fun r3 =>
 some (r3.1,())) (
 some (false,()))))
def E(lf:Nat):Entry:=⟨[yI,yI],[.bool],fun x=>f lf x.1 x.2.1⟩
theorem ok(lf:Nat):Ok 103 (E lf):=okT (an:=(annsL [])) (lf:=lf) (tC (gJ.ok lf) (tC (eX.ok lf) tN)) aoN fun x=>by kernel_rfl
end kP
namespace qM
def f(lf:Nat)(a0:TI)(a1:TI):Option (TI×Unit) :=
 bd (kP.f lf a0 a1) fun r1 =>
 br r1.1 (
 some (a0,())) (
 bd (kP.f lf a1 a0) fun r2 =>
 br r2.1 (
 some (a1,())) (
 bd (dM.f lf a0.2.1 a1.2.1) fun r3 =>
 bd (gJ.f lf a1.2.2.1 a0.2.2.1) fun r4 =>
 br (a0.2.1.toList==(⟨#[48]⟩:ByteArray).toList) (
 bd (aT.f lf) fun r5 =>
 some (r5.1,())) (
 br (a1.2.1.toList==(⟨#[48]⟩:ByteArray).toList) (
 bd (aT.f lf) fun r6 =>
 some (r6.1,())) (
 bd (eX.f lf r3.1 r4.1) fun r7 =>
 br (!r7.1) (
 bd (aT.f lf) fun r8 =>
 some (r8.1,())) (
 bd (dK.f lf a0.2.1 a1.2.1) fun r9 =>
 bd (lU.f lf r4.1 r3.1) fun r10 =>
 bd (gY.f lf r10.1 r10.2.1) fun r11 =>
 bd (iV.f lf r9.2.1 r11.1) fun r12 =>
 bd (uH.f lf a0.2.1 a1.2.1) fun r13 =>
 bd (gY.f lf r13.1 r13.2.1) fun r14 =>
 bd (iV.f lf r12.1 a0.2.1) fun r15 =>
 bd (lX.f lf a0.2.2.1 r15.1) fun r16 =>
 bd (dm.f lf r14.1 r16.1) fun r17 =>
 some (r17.1,()))))))
def E(lf:Nat):Entry:=⟨[yI,yI],[yI],fun x=>f lf x.1 x.2.1⟩
theorem ok(lf:Nat):Ok 253 (E lf):=okT (an:=(annsL [])) (lf:=lf) (tC (dm.ok lf) (tC (dM.ok lf) (tC (gJ.ok lf) (tC (kP.ok lf) (tC (lX.ok lf) (tC (iV.ok lf) (tC (lU.ok lf) (tC (gY.ok lf) (tC (eX.ok lf) (tC (aT.ok lf) (tC (dK.ok lf) (tC (uH.ok lf) tN)))))))))))) aoN fun x=>by kernel_rfl
end qM
namespace oL
def f(lf:Nat)(a0:TI)(a1:TI):Option (TI×Int×Unit) :=
 bd (dQ.f lf a0 a1) fun r1 =>
 br (r1.1 != 0) (
 some ((false,(⟨#[]⟩:ByteArray),(⟨#[]⟩:ByteArray),()),r1.1,())) (
 br a0.1 (
 bd (aT.f lf) fun r2 =>
 some (r2.1,0,())) (
 br a1.1 (
 bd (aT.f lf) fun r3 =>
 some (r3.1,0,())) (
 bd (qM.f lf a0 a1) fun r4 =>
 some (r4.1,0,()))))
def E(lf:Nat):Entry:=⟨[yI,yI],[yI,(.int .i64)],fun x=>f lf x.1 x.2.1⟩
theorem ok(lf:Nat):Ok 150 (E lf):=okT (an:=(annsL [])) (lf:=lf) (tC (dQ.ok lf) (tC (aT.ok lf) (tC (qM.ok lf) tN))) aoN fun x=>by kernel_rfl
end oL
end
end Go.Q
namespace Go.Q
open Go Go.RowKit
open Go.Rx (br bd sIdx sCat sCut iQuo iRem)
noncomputable section
namespace kV
def f(lf:Nat)(a0:TI):Option (Bool×Unit) :=
 bd (mQ.f lf a0.2.1) fun r1 =>
 br r1.1 (
 bd (mQ.f lf a0.2.2.1) fun r2 =>
 some (r2.1,())) (
 some (false,()))
def E(lf:Nat):Entry:=⟨[yI],[.bool],fun x=>f lf x.1⟩
theorem ok(lf:Nat):Ok 106 (E lf):=okT (an:=(annsL [])) (lf:=lf) (tC (mQ.ok lf) tN) aoN fun x=>by kernel_rfl
end kV
namespace aH
def f(lf:Nat)  : Option (TI×Unit) :=
 some ((true,(⟨#[]⟩:ByteArray),(⟨#[]⟩:ByteArray),()),())
def E(lf:Nat):Entry:=⟨[],[yI],fun x=>f lf⟩
theorem ok(lf:Nat):Ok 16 (E lf):=okT (an:=(annsL [])) (lf:=lf) tN aoN fun x=>by kernel_rfl
end aH
namespace jG
def f(lf:Nat)(a0:ByteArray):Option (Int×Unit) :=
 bd (eY.f lf a0) fun r1 =>
 br (!r1.1) (
 some (3,())) (
 bd (bn.f lf a0) fun r2 =>
 br (decide (r2.1 > 100)) (
 some (10,())) (
 some (0,())))
def E(lf:Nat):Entry:=⟨[.str],[(.int .i64)],fun x=>f lf x.1⟩
theorem ok(lf:Nat):Ok 96 (E lf):=okT (an:=(annsL [])) (lf:=lf) (tC (bn.ok lf) (tC (eY.ok lf) tN)) aoN fun x=>by kernel_rfl
end jG
namespace jU
def f(lf:Nat)(a0:TI):Option (Int×Unit) :=
 br a0.1 (
 br (!(a0.2.1.toList==(⟨#[]⟩:ByteArray).toList)) (
 some (3,())) (
 br (!(a0.2.2.1.toList==(⟨#[]⟩:ByteArray).toList)) (
 some (3,())) (
 some (0,())))) (
 bd (jG.f lf a0.2.1) fun r1 =>
 br (r1.1 != 0) (
 some (r1.1,())) (
 bd (jG.f lf a0.2.2.1) fun r2 =>
 br (r2.1 != 0) (
 some (r2.1,())) (
 bd (bK.f lf a0.2.1) fun r3 =>
 br (decide (r3.1 < 0)) (
 some (2,())) (
 br (!(a0.2.1.toList==(⟨#[48]⟩:ByteArray).toList)) (
 bd (bK.f lf a0.2.2.1) fun r4 =>
 br (decide (r4.1 < 0)) (
 some (2,())) (
 bd (aJ.f lf a0.2.2.1 a0.2.1) fun r5 =>
 br (!r5.1) (
 some (2,())) (
 some (0,())))) (
 some (0,()))))))
def E(lf:Nat):Entry:=⟨[yI],[(.int .i64)],fun x=>f lf x.1⟩
theorem ok(lf:Nat):Ok 17 (E lf):=okT (an:=(annsL [])) (lf:=lf) (tC (jG.ok lf) (tC (bK.ok lf) (tC (aJ.ok lf) tN))) aoN fun x=>by kernel_rfl
end jU
namespace dO
def f(lf:Nat)  : Option (TI×Unit) :=
 some ((false,(⟨#[49]⟩:ByteArray),(⟨#[48]⟩:ByteArray),()),())
def E(lf:Nat):Entry:=⟨[],[yI],fun x=>f lf⟩
theorem ok(lf:Nat):Ok 137 (E lf):=okT (an:=(annsL [])) (lf:=lf) tN aoN fun x=>by kernel_rfl
end dO
namespace bJ
def f(lf:Nat)(a0:ByteArray)(a1:ByteArray):Option (TI×Unit) :=
 bd (bY.f lf a0) fun r1 =>
 br (!(a0.toList==(⟨#[48]⟩:ByteArray).toList)) (
 bd (bH.f lf a1 r1.1) fun r2 =>
 bd (bn.f lf r1.1) fun r3 =>
 br (decide (r3.1 > 100)) (
 bd (dO.f lf) fun r4 =>
 some (r4.1,())) (
 bd (bn.f lf r2.1) fun r5 =>
 br (decide (r5.1 > 100)) (
 bd (dO.f lf) fun r6 =>
 some (r6.1,())) (
 some ((false,r1.1,r2.1,()),())))) (
 bd (bn.f lf r1.1) fun r7 =>
 br (decide (r7.1 > 100)) (
 bd (dO.f lf) fun r8 =>
 some (r8.1,())) (
 bd (bn.f lf a1) fun r9 =>
 br (decide (r9.1 > 100)) (
 bd (dO.f lf) fun r10 =>
 some (r10.1,())) (
 some ((false,r1.1,a1,()),()))))
def E(lf:Nat):Entry:=⟨[.str,.str],[yI],fun x=>f lf x.1 x.2.1⟩
theorem ok(lf:Nat):Ok 297 (E lf):=okT (an:=(annsL [])) (lf:=lf) (tC (bH.ok lf) (tC (bn.ok lf) (tC (dO.ok lf) (tC (bY.ok lf) tN)))) aoN fun x=>by kernel_rfl
end bJ
namespace iZ
def f(lf:Nat)(a0:ByteArray):Option (TI×Unit) :=
 bd (bJ.f lf (⟨#[48]⟩:ByteArray) a0) fun r1 =>
 some (r1.1,())
def E(lf:Nat):Entry:=⟨[.str],[yI],fun x=>f lf x.1⟩
theorem ok(lf:Nat):Ok 243 (E lf):=okT (an:=(annsL [])) (lf:=lf) (tC (bJ.ok lf) tN) aoN fun x=>by kernel_rfl
end iZ
namespace jh
def f(lf:Nat)(a0:TI)(a1:ByteArray):Option (ByteArray×Bool×Unit) :=
 br (a0.2.1.toList==(⟨#[48]⟩:ByteArray).toList) (
 bd (aJ.f lf a0.2.2.1 a1) fun r1 =>
 br r1.1 (
 some ((⟨#[]⟩:ByteArray),false,())) (
 some (a0.2.2.1,true,()))) (
 bd (aQ.f lf a0.2.2.1 a1) fun r2 =>
 bd (bH.f lf r2.1 a0.2.1) fun r3 =>
 bd (dB.f lf a1 r3.1) fun r4 =>
 some (r4.1,true,()))
def E(lf:Nat):Entry:=⟨[yI,.str],[.str,.bool],fun x=>f lf x.1 x.2.1⟩
theorem ok(lf:Nat):Ok 233 (E lf):=okT (an:=(annsL [])) (lf:=lf) (tC (dB.ok lf) (tC (aQ.ok lf) (tC (bH.ok lf) (tC (aJ.ok lf) tN)))) aoN fun x=>by kernel_rfl
end jh
namespace jO
def f(lf:Nat)(a0:TI):Option (TI×Unit) :=
 br a0.1 (
 some (a0,())) (
 bd (di.f lf a0.2.2.1) fun r1 =>
 bd (bJ.f lf a0.2.1 r1.1) fun r2 =>
 some (r2.1,()))
def E(lf:Nat):Entry:=⟨[yI],[yI],fun x=>f lf x.1⟩
theorem ok(lf:Nat):Ok 258 (E lf):=okT (an:=(annsL [])) (lf:=lf) (tC (di.ok lf) (tC (bJ.ok lf) tN)) aoN fun x=>by kernel_rfl
end jO
namespace jT
def f(lf:Nat)(a0:TI)(a1:ByteArray):Option (ByteArray×Bool×Unit) :=
 bd (jO.f lf a0) fun r1 =>
 bd (di.f lf a1) fun r2 =>
 bd (jh.f lf r1.1 r2.1) fun r3 =>
 br (!r3.2.1) (
 some ((⟨#[]⟩:ByteArray),false,())) (
 bd (di.f lf r3.1) fun r4 =>
 some (r4.1,true,()))
def E(lf:Nat):Entry:=⟨[yI,.str],[.str,.bool],fun x=>f lf x.1 x.2.1⟩
theorem ok(lf:Nat):Ok 234 (E lf):=okT (an:=(annsL [])) (lf:=lf) (tC (di.ok lf) (tC (jh.ok lf) (tC (jO.ok lf) tN))) aoN fun x=>by kernel_rfl
end jT
namespace mF
def f(lf:Nat)(a0:TI)(a1:TI):Option (TI×Unit) :=
 br a0.1 (
 bd (aH.f lf) fun r1 =>
 some (r1.1,())) (
 br a1.1 (
 bd (aH.f lf) fun r2 =>
 some (r2.1,())) (
 bd (bg.f lf a0.2.1 a1.2.1) fun r3 =>
 bd (dB.f lf a0.2.2.1 a1.2.2.1) fun r4 =>
 bd (bJ.f lf r3.1 r4.1) fun r5 =>
 some (r5.1,())))
def E(lf:Nat):Entry:=⟨[yI,yI],[yI],fun x=>f lf x.1 x.2.1⟩
theorem ok(lf:Nat):Ok 217 (E lf):=okT (an:=(annsL [])) (lf:=lf) (tC (aH.ok lf) (tC (dB.ok lf) (tC (bJ.ok lf) (tC (bg.ok lf) tN)))) aoN fun x=>by kernel_rfl
end mF
namespace lI
def f(lf:Nat)(a0:TI)(a1:TI):Option (TI×Unit) :=
 br a0.1 (
 bd (aH.f lf) fun r1 =>
 some (r1.1,())) (
 br a1.1 (
 bd (aH.f lf) fun r2 =>
 some (r2.1,())) (
 bd (bg.f lf a0.2.1 a1.2.1) fun r3 =>
 bd (aQ.f lf a0.2.2.1 a1.2.2.1) fun r4 =>
 bd (bJ.f lf r3.1 r4.1) fun r5 =>
 some (r5.1,())))
def E(lf:Nat):Entry:=⟨[yI,yI],[yI],fun x=>f lf x.1 x.2.1⟩
theorem ok(lf:Nat):Ok 219 (E lf):=okT (an:=(annsL [])) (lf:=lf) (tC (aH.ok lf) (tC (aQ.ok lf) (tC (bJ.ok lf) (tC (bg.ok lf) tN)))) aoN fun x=>by kernel_rfl
end lI
namespace lJ
def f(lf:Nat)(a0:TI)(a1:TI):Option (TI×Unit) :=
 br a0.1 (
 bd (aH.f lf) fun r1 =>
 some (r1.1,())) (
 br a1.1 (
 bd (aH.f lf) fun r2 =>
 some (r2.1,())) (
 bd (aX.f lf a0.2.1 a1.2.1) fun r3 =>
 bd (aX.f lf a0.2.1 a1.2.2.1) fun r4 =>
 bd (bg.f lf r3.1 r4.1) fun r5 =>
 bd (aX.f lf a1.2.1 a0.2.2.1) fun r6 =>
 bd (bg.f lf r5.1 r6.1) fun r7 =>
 bd (aX.f lf a0.2.2.1 a1.2.2.1) fun r8 =>
 bd (bJ.f lf r7.1 r8.1) fun r9 =>
 some (r9.1,())))
def E(lf:Nat):Entry:=⟨[yI,yI],[yI],fun x=>f lf x.1 x.2.1⟩
theorem ok(lf:Nat):Ok 221 (E lf):=okT (an:=(annsL [])) (lf:=lf) (tC (aH.ok lf) (tC (aX.ok lf) (tC (bJ.ok lf) (tC (bg.ok lf) tN)))) aoN fun x=>by kernel_rfl
end lJ
namespace dU
def f(lf:Nat)(a0:ByteArray)(a1:ByteArray):Option (Bool×Unit) :=
 br (a0.toList==(⟨#[48]⟩:ByteArray).toList) (
 some ((a1.toList==(⟨#[48]⟩:ByteArray).toList),())) (
 bd (bH.f lf a1 a0) fun r1 =>
 some ((r1.1.toList==(⟨#[48]⟩:ByteArray).toList),()))
def E(lf:Nat):Entry:=⟨[.str,.str],[.bool],fun x=>f lf x.1 x.2.1⟩
theorem ok(lf:Nat):Ok 273 (E lf):=okT (an:=(annsL [])) (lf:=lf) (tC (bH.ok lf) tN) aoN fun x=>by kernel_rfl
end dU
namespace iw
def f(lf:Nat)(a0:TI):Option (Bool×Unit) :=
 br (a0.2.1.toList==(⟨#[48]⟩:ByteArray).toList) (
 some ((a0.2.2.1.toList==(⟨#[48]⟩:ByteArray).toList),())) (
 some (false,()))
def E(lf:Nat):Entry:=⟨[yI],[.bool],fun x=>f lf x.1⟩
theorem ok(lf:Nat):Ok 304 (E lf):=okT (an:=(annsL [])) (lf:=lf) tN aoN fun x=>by kernel_rfl
end iw
namespace mD
def f(lf:Nat)(a0:TI)(a1:TI):Option (TI×Unit) :=
 br a0.1 (
 bd (aH.f lf) fun r1 =>
 some (r1.1,())) (
 br a1.1 (
 bd (aH.f lf) fun r2 =>
 some (r2.1,())) (
 bd (iw.f lf a1) fun r3 =>
 br r3.1 (
 bd (aH.f lf) fun r4 =>
 some (r4.1,())) (
 br (a1.2.1.toList==(⟨#[48]⟩:ByteArray).toList) (
 bd (dU.f lf a1.2.2.1 a0.2.1) fun r5 =>
 br r5.1 (
 bd (aP.f lf a0.2.1 a1.2.2.1) fun r6 =>
 bd (aP.f lf a0.2.2.1 a1.2.2.1) fun r7 =>
 bd (bJ.f lf r6.1 r7.1) fun r8 =>
 some (r8.1,())) (
 br (!(a1.2.1.toList==(⟨#[48]⟩:ByteArray).toList)) (
 bd (iw.f lf a0) fun r9 =>
 br r9.1 (
 some (a0,())) (
 bd (dO.f lf) fun r10 =>
 some (r10.1,()))) (
 bd (dO.f lf) fun r11 =>
 some (r11.1,())))) (
 br (!(a1.2.1.toList==(⟨#[48]⟩:ByteArray).toList)) (
 bd (iw.f lf a0) fun r12 =>
 br r12.1 (
 some (a0,())) (
 bd (dO.f lf) fun r13 =>
 some (r13.1,()))) (
 bd (dO.f lf) fun r14 =>
 some (r14.1,()))))))
def E(lf:Nat):Entry:=⟨[yI,yI],[yI],fun x=>f lf x.1 x.2.1⟩
theorem ok(lf:Nat):Ok 223 (E lf):=okT (an:=(annsL [])) (lf:=lf) (tC (aH.ok lf) (tC (aP.ok lf) (tC (dO.ok lf) (tC (dU.ok lf) (tC (bJ.ok lf) (tC (iw.ok lf) tN)))))) aoN fun x=>by kernel_rfl
end mD
namespace kN
def f(lf:Nat)(a0:TI)(a1:TI):Option (TI×Unit) :=
 br a0.1 (
 bd (aH.f lf) fun r1 =>
 some (r1.1,())) (
 br a1.1 (
 bd (aH.f lf) fun r2 =>
 some (r2.1,())) (
 bd (iw.f lf a1) fun r3 =>
 br r3.1 (
 bd (aH.f lf) fun r4 =>
 some (r4.1,())) (
 br (a1.2.1.toList==(⟨#[48]⟩:ByteArray).toList) (
 bd (dU.f lf a1.2.2.1 a0.2.1) fun r5 =>
 br r5.1 (
 bd (bH.f lf a0.2.2.1 a1.2.2.1) fun r6 =>
 bd (iZ.f lf r6.1) fun r7 =>
 some (r7.1,())) (
 bd (bg.f lf a1.2.1 a1.2.2.1) fun r8 =>
 bd (bg.f lf a0.2.1 r8.1) fun r9 =>
 bd (bJ.f lf r9.1 a0.2.2.1) fun r10 =>
 some (r10.1,()))) (
 bd (bg.f lf a1.2.1 a1.2.2.1) fun r11 =>
 bd (bg.f lf a0.2.1 r11.1) fun r12 =>
 bd (bJ.f lf r12.1 a0.2.2.1) fun r13 =>
 some (r13.1,())))))
def E(lf:Nat):Entry:=⟨[yI,yI],[yI],fun x=>f lf x.1 x.2.1⟩
theorem ok(lf:Nat):Ok 225 (E lf):=okT (an:=(annsL [])) (lf:=lf) (tC (aH.ok lf) (tC (bH.ok lf) (tC (iZ.ok lf) (tC (dU.ok lf) (tC (bJ.ok lf) (tC (bg.ok lf) (tC (iw.ok lf) tN))))))) aoN fun x=>by kernel_rfl
end kN
namespace jF
def f(lf:Nat)(a0:TI)(a1:ByteArray):Option (Bool×Unit) :=
 br (!a0.1) (
 bd (aQ.f lf a1 a0.2.2.1) fun r1 =>
 bd (dU.f lf a0.2.1 r1.1) fun r2 =>
 some (r2.1,())) (
 some (false,()))
def E(lf:Nat):Entry:=⟨[yI,.str],[.bool],fun x=>f lf x.1 x.2.1⟩
theorem ok(lf:Nat):Ok 181 (E lf):=okT (an:=(annsL [])) (lf:=lf) (tC (aQ.ok lf) (tC (dU.ok lf) tN)) aoN fun x=>by kernel_rfl
end jF
namespace mX
def f(lf:Nat)(a0:TI)(a1:TI):Option (TI×Unit) :=
 br a0.1 (
 bd (aH.f lf) fun r1 =>
 some (r1.1,())) (
 br a1.1 (
 bd (aH.f lf) fun r2 =>
 some (r2.1,())) (
 br (a0.2.1.toList==(⟨#[48]⟩:ByteArray).toList) (
 br (!(a0.2.1.toList==(⟨#[48]⟩:ByteArray).toList)) (
 bd (jF.f lf a0 a1.2.2.1) fun r3 =>
 br r3.1 (
 some (a1,())) (
 bd (aH.f lf) fun r4 =>
 some (r4.1,()))) (
 bd (jF.f lf a1 a0.2.2.1) fun r5 =>
 br r5.1 (
 some (a0,())) (
 bd (aH.f lf) fun r6 =>
 some (r6.1,())))) (
 br (a1.2.1.toList==(⟨#[48]⟩:ByteArray).toList) (
 br (!(a0.2.1.toList==(⟨#[48]⟩:ByteArray).toList)) (
 bd (jF.f lf a0 a1.2.2.1) fun r7 =>
 br r7.1 (
 some (a1,())) (
 bd (aH.f lf) fun r8 =>
 some (r8.1,()))) (
 bd (jF.f lf a1 a0.2.2.1) fun r9 =>
 br r9.1 (
 some (a0,())) (
 bd (aH.f lf) fun r10 =>
 some (r10.1,())))) (
 bd (bg.f lf a0.2.1 a1.2.1) fun r11 =>
 bd (aQ.f lf a1.2.2.1 a0.2.2.1) fun r12 =>
 bd (dU.f lf r11.1 r12.1) fun r13 =>
 br (!r13.1) (
 bd (aH.f lf) fun r14 =>
 some (r14.1,())) (
 bd (bZ.f lf a0.2.1 a1.2.1) fun r15 =>
 bd (aP.f lf r12.1 r11.1) fun r16 =>
 bd (aX.f lf r15.1 r16.1) fun r17 =>
 bd (aP.f lf a1.2.1 r11.1) fun r18 =>
 bd (aX.f lf a0.2.1 r18.1) fun r19 =>
 bd (aX.f lf a0.2.1 r17.1) fun r20 =>
 bd (dB.f lf a0.2.2.1 r20.1) fun r21 =>
 bd (bJ.f lf r19.1 r21.1) fun r22 =>
 some (r22.1,()))))))
def E(lf:Nat):Entry:=⟨[yI,yI],[yI],fun x=>f lf x.1 x.2.1⟩
theorem ok(lf:Nat):Ok 255 (E lf):=okT (an:=(annsL [])) (lf:=lf) (tC (aH.ok lf) (tC (dB.ok lf) (tC (aQ.ok lf) (tC (aX.ok lf) (tC (aP.ok lf) (tC (jF.ok lf) (tC (dU.ok lf) (tC (bJ.ok lf) (tC (bg.ok lf) (tC (bZ.ok lf) tN)))))))))) aoN fun x=>by kernel_rfl
end mX
end
end Go.Q
