import Derived.Test.YtlikbeopppeojaaGreatDoorProg
import Derived.KernelRfl
import Derived.Test.YtlikbeopppeojaaGreatDoorEHE3
import Derived.Test.YtlikbeopppeojaaGreatDoorEHG4
import Derived.Test.YtlikbeopppeojaaGreatDoorEHG7
import Derived.Test.YtlikbeopppeojaaGreatDoorEHG8
import Derived.Test.YtlikbeopppeojaaGreatDoorEHG9
set_option linter.unusedVariables false
set_option linter.unusedSimpArgs false
set_option linter.unusedSectionVars false
set_option maxRecDepth 100000
namespace Go.Q
open Go Go.RowKit
open Go.Rx (br bd sIdx sCat sCut iQuo iRem iShl)
noncomputable section
namespace surveyorlaw24_EnvHolds
def f (lf : Nat) (a0 : List TV) (a1 : Int) (a2 : List ByteArray) : Option (Bool × Unit) :=
 bd (surveyorref24_Few.f lf a0) fun r1 =>
 br (!r1.1) (
 bd (surveyorlaw24_awake.f lf) fun r2 =>
 some (r2.1, ())) (
 bd (surveyorref06_FewInts.f lf a2) fun r3 =>
 br (!r3.1) (
 bd (surveyorlaw24_awake.f lf) fun r4 =>
 some (r4.1, ())) (
 bd (env_Holds.f lf a0 a2) fun r5 =>
 bd (surveyorref24_Holds.f lf a0 a2) fun r6 =>
 bd (env_Top.f lf a1) fun r7 =>
 bd (surveyorref24_Top.f lf a1) fun r8 =>
 bd (env_Zero.f lf a1) fun r9 =>
 bd (surveyorref24_Zero.f lf a1) fun r10 =>
 bd (env_Check.f lf a0) fun r11 =>
 bd (surveyorref24_Check.f lf a0) fun r12 =>
 br (r11.1 == r12.1) (
 br (r5.1 == r6.1) (
 br (r5.2.1 == r6.2.1) (
 bd (surveyorref24_Same.f lf r7.1 r8.1) fun r13 =>
 br r13.1 (
 br (r7.2.1 == r8.2.1) (
 bd (surveyorref24_Same.f lf r9.1 r10.1) fun r14 =>
 br r14.1 (
 br (r9.2.1 == r10.2.1) (
 bd (surveyorlaw24_awake.f lf) fun r15 =>
 some (r15.1, ())) (
 some (false, ()))) (
 some (false, ()))) (
 some (false, ()))) (
 some (false, ()))) (
 some (false, ()))) (
 some (false, ()))) (
 some (false, ()))))
def E (lf : Nat) : Entry := ⟨[(.sl yV), (.int .i64), (.sl .str)], [.bool], fun x => f lf x.1 x.2.1 x.2.2.1⟩
theorem ok (lf : Nat) : Ok 3 (E lf) := okT (an := (annsL [])) (lf := lf) (tC (surveyorref24_Few.ok lf) (tC (surveyorref06_FewInts.ok lf) (tC (surveyorlaw24_awake.ok lf) (tC (env_Holds.ok lf) (tC (surveyorref24_Holds.ok lf) (tC (env_Top.ok lf) (tC (surveyorref24_Top.ok lf) (tC (env_Zero.ok lf) (tC (surveyorref24_Zero.ok lf) (tC (env_Check.ok lf) (tC (surveyorref24_Check.ok lf) (tC (surveyorref24_Same.ok lf) tN)))))))))))) aoN fun x => by kernel_rfl
end surveyorlaw24_EnvHolds
end
end Go.Q
