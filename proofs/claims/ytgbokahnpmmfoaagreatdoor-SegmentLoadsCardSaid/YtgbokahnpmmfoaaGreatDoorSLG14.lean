import Derived.Test.YtgbokahnpmmfoaaGreatDoorProg
import Derived.KernelRfl
import Derived.Test.YtgbokahnpmmfoaaGreatDoorSLE3
import Derived.Test.YtgbokahnpmmfoaaGreatDoorSLG11
import Derived.Test.YtgbokahnpmmfoaaGreatDoorSLG12
import Derived.Test.YtgbokahnpmmfoaaGreatDoorSLG13
import Derived.Test.YtgbokahnpmmfoaaGreatDoorSLG7
import Derived.Test.YtgbokahnpmmfoaaGreatDoorSLG8
import Derived.Test.YtgbokahnpmmfoaaGreatDoorSLG9
set_option linter.unusedVariables false
set_option linter.unusedSimpArgs false
set_option linter.unusedSectionVars false
set_option maxRecDepth 100000
namespace Go.Q
open Go Go.RowKit
open Go.Rx (br bd sIdx sCat sCut iQuo iRem)
noncomputable section
namespace dR
def f(lf:Nat)(a0:List (Int×(Int×(TV×Unit))))(a1:Int×(TV×(TV×Unit))):Option (Bool×Unit) :=
 bd (fJ.f lf a0) fun r1 =>
 br (!r1.1) (
 bd (iY.f lf) fun r2 =>
 some (r2.1,())) (
 bd (iD.f lf a1.2.1 a1.2.2.1) fun r3 =>
 br (!r3.1) (
 bd (iY.f lf) fun r4 =>
 some (r4.1,())) (
 bd (dL.f lf a0 a1.1 a1.2.1) fun r5 =>
 bd (kL.f lf a0 a1.1 a1.2.1) fun r6 =>
 bd (bQ.f lf a0 a1.1 a1.2.1 a1.2.2.1) fun r7 =>
 bd (jU.f lf a0 a1.1 a1.2.1 a1.2.2.1) fun r8 =>
 bd (dK.f lf a0 a1.1 a1.2.1 a1.2.2.1) fun r9 =>
 bd (kK.f lf a0 a1.1 a1.2.1 a1.2.2.1) fun r10 =>
 bd (some (((r5.1.1.1==r6.1.1.1)&&((r5.1.1.2.1==r6.1.1.2.1)&&((r5.1.1.2.2.1==r6.1.1.2.2.1)&&true)))&&(((r5.1.2.1.1==r6.1.2.1.1)&&((r5.1.2.1.2.1==r6.1.2.1.2.1)&&((r5.1.2.1.2.2.1==r6.1.2.1.2.2.1)&&true)))&&true))) fun r11 =>
 br r11 (
 br (r5.2.1==r6.2.1) (
 bd (eU.f lf r7.1 r8.1) fun r12 =>
 br r12.1 (
 br (r7.2.1==r8.2.1) (
 br (r7.2.2.1==r8.2.2.1) (
 bd (some (((r9.1.1.1==r10.1.1.1)&&((r9.1.1.2.1==r10.1.1.2.1)&&((r9.1.1.2.2.1==r10.1.1.2.2.1)&&true)))&&(((r9.1.2.1.1==r10.1.2.1.1)&&((r9.1.2.1.2.1==r10.1.2.1.2.1)&&((r9.1.2.1.2.2.1==r10.1.2.1.2.2.1)&&true)))&&true))) fun r13 =>
 br r13 (
 br (r9.2.1==r10.2.1) (
 bd (iY.f lf) fun r14 =>
 some (r14.1,())) (
 some (false,()))) (
 some (false,()))) (
 some (false,()))) (
 some (false,()))) (
 some (false,()))) (
 some (false,()))) (
 some (false,()))))
def E(lf:Nat):Entry:=⟨[(.sl (.pair (.int .i64) (.pair (.int .i64) (.pair yV .unit)))),(.pair (.int .i64) (.pair yV (.pair yV .unit)))],[.bool],fun x=>f lf x.1 x.2.1⟩
theorem ok(lf:Nat):Ok 3 (E lf):=okT (an:=(annsL [])) (lf:=lf) (tC (fJ.ok lf) (tC (iD.ok lf) (tC (iY.ok lf) (tC (dL.ok lf) (tC (kL.ok lf) (tC (bQ.ok lf) (tC (jU.ok lf) (tC (dK.ok lf) (tC (kK.ok lf) (tC (eU.ok lf) tN)))))))))) aoN fun x=>by kernel_rfl
end dR
end
end Go.Q
