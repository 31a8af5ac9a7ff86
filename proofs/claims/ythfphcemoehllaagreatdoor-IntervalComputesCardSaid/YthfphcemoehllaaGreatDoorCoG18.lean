import Derived.Test.YthfphcemoehllaaGreatDoorProg
import Derived.KernelRfl
import Derived.Test.YthfphcemoehllaaGreatDoorCoG15
import Derived.Test.YthfphcemoehllaaGreatDoorCoG16
import Derived.Test.YthfphcemoehllaaGreatDoorCoG17
import Derived.Test.YthfphcemoehllaaGreatDoorE3
set_option linter.unusedVariables false
set_option linter.unusedSimpArgs false
set_option linter.unusedSectionVars false
namespace Go.Q
open Go Go.RowKit
open Go.Rx (br bd sIdx sCat sCut iQuo iRem)
set_option linter.unusedVariables false
set_option linter.unusedSimpArgs false
set_option maxRecDepth 100000
noncomputable section
namespace surveyorlaw21_IntervalComputes
noncomputable def f (lf : Nat) (a0 : Bool × (ByteArray × (ByteArray × Unit))) (a1 : Bool × (ByteArray × (ByteArray × Unit))) : Option (Bool × Unit) :=
 bd (surveyorref21_Few.f lf a0 a1) fun r1 =>
 br (!r1.1) (
 bd (surveyorlaw21_awake.f lf) fun r2 =>
 some (r2.1, ())) (
 bd (surveyorlaw21_apply.f lf 3 a0 a1) fun r3 =>
 bd (surveyorref21_Compute.f lf 3 a0 a1) fun r4 =>
 bd (some (!((r3.1.1 == r4.1.1) && ((r3.1.2.1 == r4.1.2.1) && ((r3.1.2.2.1 == r4.1.2.2.1) && true))))) fun r5 =>
 br r5 (
 some (false, ())) (
 br (r3.2.1 != r4.2.1) (
 some (false, ())) (
 bd (surveyorlaw21_apply.f lf 4 a0 a1) fun r6 =>
 bd (surveyorref21_Compute.f lf 4 a0 a1) fun r7 =>
 bd (some (!((r6.1.1 == r7.1.1) && ((r6.1.2.1 == r7.1.2.1) && ((r6.1.2.2.1 == r7.1.2.2.1) && true))))) fun r8 =>
 br r8 (
 some (false, ())) (
 br (r6.2.1 != r7.2.1) (
 some (false, ())) (
 bd (surveyorlaw21_apply.f lf 5 a0 a1) fun r9 =>
 bd (surveyorref21_Compute.f lf 5 a0 a1) fun r10 =>
 bd (some (!((r9.1.1 == r10.1.1) && ((r9.1.2.1 == r10.1.2.1) && ((r9.1.2.2.1 == r10.1.2.2.1) && true))))) fun r11 =>
 br r11 (
 some (false, ())) (
 br (r9.2.1 != r10.2.1) (
 some (false, ())) (
 bd (surveyorlaw21_apply.f lf 6 a0 a1) fun r12 =>
 bd (surveyorref21_Compute.f lf 6 a0 a1) fun r13 =>
 bd (some (!((r12.1.1 == r13.1.1) && ((r12.1.2.1 == r13.1.2.1) && ((r12.1.2.2.1 == r13.1.2.2.1) && true))))) fun r14 =>
 br r14 (
 some (false, ())) (
 br (r12.2.1 != r13.2.1) (
 some (false, ())) (
 bd (surveyorlaw21_apply.f lf 7 a0 a1) fun r15 =>
 bd (surveyorref21_Compute.f lf 7 a0 a1) fun r16 =>
 bd (some (!((r15.1.1 == r16.1.1) && ((r15.1.2.1 == r16.1.2.1) && ((r15.1.2.2.1 == r16.1.2.2.1) && true))))) fun r17 =>
 br r17 (
 some (false, ())) (
 br (r15.2.1 != r16.2.1) (
 some (false, ())) (
 bd (surveyorlaw21_awake.f lf) fun r18 =>
 some (r18.1, ()))))))))))))
noncomputable def E (lf : Nat) : Entry := ⟨[(.pair .bool (.pair .str (.pair .str .unit))), (.pair .bool (.pair .str (.pair .str .unit)))], [.bool], fun x => f lf x.1 x.2.1⟩
theorem ok (lf : Nat) : Ok 8 (E lf) := okT (an := (annsL [])) (lf := lf) (tC (surveyorref21_Few.ok lf) (tC (surveyorlaw21_awake.ok lf) (tC (surveyorlaw21_apply.ok lf) (tC (surveyorref21_Compute.ok lf) tN)))) aoN fun x => by kernel_rfl
end surveyorlaw21_IntervalComputes
end
end Go.Q
