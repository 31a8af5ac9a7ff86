import Derived.Test.YtfogkflaijhfoaaGreatDoorProg
import Derived.KernelRfl
import Derived.Test.YtfogkflaijhfoaaGreatDoorVJE3
import Derived.Test.YtfogkflaijhfoaaGreatDoorVJG7
import Derived.Test.YtfogkflaijhfoaaGreatDoorVJG8
set_option linter.unusedVariables false
set_option linter.unusedSimpArgs false
set_option linter.unusedSectionVars false
set_option maxRecDepth 100000
namespace Go.Q
open Go Go.RowKit
open Go.Rx (br bd sIdx sCat sCut iQuo iRem)
noncomputable section
namespace surveyorlaw23_ValueJoins
def f (lf : Nat) (a0 : TV) (a1 : TV) : Option (Bool × Unit) :=
 bd (surveyorref23_Few.f lf a0 a1) fun r1 =>
 br (!r1.1) (
 bd (surveyorlaw23_awake.f lf) fun r2 =>
 some (r2.1, ())) (
 bd (value_Leq.f lf a0 a1) fun r3 =>
 bd (surveyorref23_Leq.f lf a0 a1) fun r4 =>
 bd (value_Join.f lf a0 a1) fun r5 =>
 bd (surveyorref23_Join.f lf a0 a1) fun r6 =>
 bd (value_Meet.f lf a0 a1) fun r7 =>
 bd (surveyorref23_Meet.f lf a0 a1) fun r8 =>
 bd (value_Neg.f lf a0) fun r9 =>
 bd (surveyorref23_Neg.f lf a0) fun r10 =>
 br (r3.1 == r4.1) (
 br (r3.2.1 == r4.2.1) (
 bd (some (((r5.1.1.1 == r6.1.1.1) && ((r5.1.1.2.1 == r6.1.1.2.1) && ((r5.1.1.2.2.1 == r6.1.1.2.2.1) && true))) && (((r5.1.2.1.1 == r6.1.2.1.1) && ((r5.1.2.1.2.1 == r6.1.2.1.2.1) && ((r5.1.2.1.2.2.1 == r6.1.2.1.2.2.1) && true))) && true))) fun r11 =>
 br r11 (
 br (r5.2.1 == r6.2.1) (
 bd (some (((r7.1.1.1 == r8.1.1.1) && ((r7.1.1.2.1 == r8.1.1.2.1) && ((r7.1.1.2.2.1 == r8.1.1.2.2.1) && true))) && (((r7.1.2.1.1 == r8.1.2.1.1) && ((r7.1.2.1.2.1 == r8.1.2.1.2.1) && ((r7.1.2.1.2.2.1 == r8.1.2.1.2.2.1) && true))) && true))) fun r12 =>
 br r12 (
 br (r7.2.1 == r8.2.1) (
 bd (some (((r9.1.1.1 == r10.1.1.1) && ((r9.1.1.2.1 == r10.1.1.2.1) && ((r9.1.1.2.2.1 == r10.1.1.2.2.1) && true))) && (((r9.1.2.1.1 == r10.1.2.1.1) && ((r9.1.2.1.2.1 == r10.1.2.1.2.1) && ((r9.1.2.1.2.2.1 == r10.1.2.1.2.2.1) && true))) && true))) fun r13 =>
 br r13 (
 br (r9.2.1 == r10.2.1) (
 bd (surveyorlaw23_awake.f lf) fun r14 =>
 some (r14.1, ())) (
 some (false, ()))) (
 some (false, ()))) (
 some (false, ()))) (
 some (false, ()))) (
 some (false, ()))) (
 some (false, ()))) (
 some (false, ()))) (
 some (false, ())))
def E (lf : Nat) : Entry := ⟨[yV, yV], [.bool], fun x => f lf x.1 x.2.1⟩
theorem ok (lf : Nat) : Ok 10 (E lf) := okT (an := (annsL [])) (lf := lf) (tC (surveyorref23_Few.ok lf) (tC (surveyorlaw23_awake.ok lf) (tC (value_Leq.ok lf) (tC (surveyorref23_Leq.ok lf) (tC (value_Join.ok lf) (tC (surveyorref23_Join.ok lf) (tC (value_Meet.ok lf) (tC (surveyorref23_Meet.ok lf) (tC (value_Neg.ok lf) (tC (surveyorref23_Neg.ok lf) tN)))))))))) aoN fun x => by kernel_rfl
end surveyorlaw23_ValueJoins
end
end Go.Q
