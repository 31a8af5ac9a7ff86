import Derived.Test.YtcgfigjpbicogaaGreatDoorProg
import Derived.KernelRfl
import Derived.Test.YtcgfigjpbicogaaGreatDoorSWE3
import Derived.Test.YtcgfigjpbicogaaGreatDoorSWG11
import Derived.Test.YtcgfigjpbicogaaGreatDoorSWG12
import Derived.Test.YtcgfigjpbicogaaGreatDoorSWG7
import Derived.Test.YtcgfigjpbicogaaGreatDoorSWG8
set_option linter.unusedVariables false
set_option linter.unusedSimpArgs false
set_option linter.unusedSectionVars false
set_option maxRecDepth 100000
namespace Go.Q
open Go Go.RowKit
open Go.Rx (br bd sIdx sCat sCut iQuo iRem)
noncomputable section
namespace dw
def f(lf:Nat)(a0:List (Int×(Int×(TV×Unit))))(a1:List (Int×(Int×(TV×Unit))))(a2:Int×((List ByteArray)×Unit)):Option (Bool×Unit) :=
 bd (dM.f lf a0) fun r1 =>
 br (!r1.1) (
 bd (fP.f lf) fun r2 =>
 some (r2.1,())) (
 bd (dM.f lf a1) fun r3 =>
 br (!r3.1) (
 bd (fP.f lf) fun r4 =>
 some (r4.1,())) (
 bd (dY.f lf a2.2.1) fun r5 =>
 br (!r5.1) (
 bd (fP.f lf) fun r6 =>
 some (r6.1,())) (
 bd (fA.f lf a0 a1 a2.1 a2.2.1) fun r7 =>
 bd (jf.f lf a0 a1 a2.1 a2.2.1) fun r8 =>
 bd (dX.f lf a0 a1 a2.1) fun r9 =>
 bd (iP.f lf a0 a1 a2.1) fun r10 =>
 bd (dG.f lf r7.1 r8.1) fun r11 =>
 br r11.1 (
 br (r7.2.1==r8.2.1) (
 bd (dG.f lf r9.1 r10.1) fun r12 =>
 br r12.1 (
 br (r9.2.1==r10.2.1) (
 br (r9.2.2.1==r10.2.2.1) (
 bd (fP.f lf) fun r13 =>
 some (r13.1,())) (
 some (false,()))) (
 some (false,()))) (
 some (false,()))) (
 some (false,()))) (
 some (false,())))))
def E(lf:Nat):Entry:=⟨[(.sl (.pair (.int .i64) (.pair (.int .i64) (.pair yV .unit)))),(.sl (.pair (.int .i64) (.pair (.int .i64) (.pair yV .unit)))),(.pair (.int .i64) (.pair (.sl .str) .unit))],[.bool],fun x=>f lf x.1 x.2.1 x.2.2.1⟩
theorem ok(lf:Nat):Ok 3 (E lf):=okT (an:=(annsL [])) (lf:=lf) (tC (dM.ok lf) (tC (dY.ok lf) (tC (fP.ok lf) (tC (fA.ok lf) (tC (jf.ok lf) (tC (dX.ok lf) (tC (iP.ok lf) (tC (dG.ok lf) tN)))))))) aoN fun x=>by kernel_rfl
end dw
end
end Go.Q
