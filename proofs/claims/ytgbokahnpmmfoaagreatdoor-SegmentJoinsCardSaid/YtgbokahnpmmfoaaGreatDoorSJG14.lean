import Derived.Test.YtgbokahnpmmfoaaGreatDoorProg
import Derived.KernelRfl
import Derived.Test.YtgbokahnpmmfoaaGreatDoorSJE3
import Derived.Test.YtgbokahnpmmfoaaGreatDoorSJG11
import Derived.Test.YtgbokahnpmmfoaaGreatDoorSJG12
import Derived.Test.YtgbokahnpmmfoaaGreatDoorSJG13
import Derived.Test.YtgbokahnpmmfoaaGreatDoorSJG7
import Derived.Test.YtgbokahnpmmfoaaGreatDoorSJG8
set_option linter.unusedVariables false
set_option linter.unusedSimpArgs false
set_option linter.unusedSectionVars false
set_option maxRecDepth 100000
namespace Go.Q
open Go Go.RowKit
open Go.Rx (br bd sIdx sCat sCut iQuo iRem)
noncomputable section
namespace dN
def f(lf:Nat)(a0:List (Int×(Int×(TV×Unit))))(a1:List (Int×(Int×(TV×Unit))))(a2:Int):Option (Bool×Unit) :=
 bd (dZ.f lf a0) fun r1 =>
 br (!r1.1) (
 bd (iY.f lf) fun r2 =>
 some (r2.1,())) (
 bd (dZ.f lf a1) fun r3 =>
 br (!r3.1) (
 bd (iY.f lf) fun r4 =>
 some (r4.1,())) (
 bd (iH.f lf a0 a1 a2) fun r5 =>
 bd (kS.f lf a0 a1 a2) fun r6 =>
 bd (gU.f lf a0 a1 a2) fun r7 =>
 bd (kz.f lf a0 a1 a2) fun r8 =>
 bd (gV.f lf a0 a1 a2) fun r9 =>
 bd (kD.f lf a0 a1 a2) fun r10 =>
 br (r5.1==r6.1) (
 br (r5.2.1==r6.2.1) (
 bd (dO.f lf r7.1 r8.1) fun r11 =>
 br r11.1 (
 br (r7.2.1==r8.2.1) (
 bd (dO.f lf r9.1 r10.1) fun r12 =>
 br r12.1 (
 br (r9.2.1==r10.2.1) (
 br (r9.2.2.1==r10.2.2.1) (
 bd (iY.f lf) fun r13 =>
 some (r13.1,())) (
 some (false,()))) (
 some (false,()))) (
 some (false,()))) (
 some (false,()))) (
 some (false,()))) (
 some (false,()))) (
 some (false,()))))
def E(lf:Nat):Entry:=⟨[(.sl (.pair (.int .i64) (.pair (.int .i64) (.pair yV .unit)))),(.sl (.pair (.int .i64) (.pair (.int .i64) (.pair yV .unit)))),(.int .i64)],[.bool],fun x=>f lf x.1 x.2.1 x.2.2.1⟩
theorem ok(lf:Nat):Ok 8 (E lf):=okT (an:=(annsL [])) (lf:=lf) (tC (dZ.ok lf) (tC (iY.ok lf) (tC (dO.ok lf) (tC (iH.ok lf) (tC (kS.ok lf) (tC (gU.ok lf) (tC (kz.ok lf) (tC (gV.ok lf) (tC (kD.ok lf) tN))))))))) aoN fun x=>by kernel_rfl
end dN
end
end Go.Q
