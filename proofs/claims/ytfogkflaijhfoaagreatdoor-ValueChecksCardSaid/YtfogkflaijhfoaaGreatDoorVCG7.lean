import Derived.Test.YtfogkflaijhfoaaGreatDoorProg
import Derived.KernelRfl
import Derived.Test.YtfogkflaijhfoaaGreatDoorVCE3
import Derived.Test.YtfogkflaijhfoaaGreatDoorVCG3
import Derived.Test.YtfogkflaijhfoaaGreatDoorVCG5
import Derived.Test.YtfogkflaijhfoaaGreatDoorVCG6
set_option linter.unusedVariables false
set_option linter.unusedSimpArgs false
set_option linter.unusedSectionVars false
set_option maxRecDepth 100000
namespace Go.Q
open Go Go.RowKit
open Go.Rx (br bd sIdx sCat sCut iQuo iRem)
noncomputable section
namespace surveyorlaw23_ValueChecks
def f (lf : Nat) (a0 : TV) (a1 : ByteArray) : Option (Bool × Unit) :=
 bd (surveyorref23_Few.f lf a0 a0) fun r1 =>
 br (!r1.1) (
 bd (surveyorlaw23_awake.f lf) fun r2 =>
 some (r2.1, ())) (
 bd (surveyorref01_Few.f lf a1) fun r3 =>
 br (!r3.1) (
 bd (surveyorlaw23_awake.f lf) fun r4 =>
 some (r4.1, ())) (
 bd (value_Make.f lf a0.1 a0.2.1) fun r5 =>
 bd (surveyorref23_Make.f lf a0.1 a0.2.1) fun r6 =>
 bd (value_Of.f lf a1) fun r7 =>
 bd (surveyorref23_Of.f lf a1) fun r8 =>
 bd (value_Holds.f lf a0 a1) fun r9 =>
 bd (surveyorref23_Holds.f lf a0 a1) fun r10 =>
 bd (value_Check.f lf a0) fun r11 =>
 bd (surveyorref23_Check.f lf a0) fun r12 =>
 br (r11.1 == r12.1) (
 bd (some (((r5.1.1.1 == r6.1.1.1) && ((r5.1.1.2.1 == r6.1.1.2.1) && ((r5.1.1.2.2.1 == r6.1.1.2.2.1) && true))) && (((r5.1.2.1.1 == r6.1.2.1.1) && ((r5.1.2.1.2.1 == r6.1.2.1.2.1) && ((r5.1.2.1.2.2.1 == r6.1.2.1.2.2.1) && true))) && true))) fun r13 =>
 br r13 (
 br (r5.2.1 == r6.2.1) (
 bd (some (((r7.1.1.1 == r8.1.1.1) && ((r7.1.1.2.1 == r8.1.1.2.1) && ((r7.1.1.2.2.1 == r8.1.1.2.2.1) && true))) && (((r7.1.2.1.1 == r8.1.2.1.1) && ((r7.1.2.1.2.1 == r8.1.2.1.2.1) && ((r7.1.2.1.2.2.1 == r8.1.2.1.2.2.1) && true))) && true))) fun r14 =>
 br r14 (
 br (r7.2.1 == r8.2.1) (
 br (r9.1 == r10.1) (
 br (r9.2.1 == r10.2.1) (
 bd (value_Top.f lf) fun r15 =>
 bd (surveyorref23_Top.f lf) fun r16 =>
 bd (some (((r15.1.1.1 == r16.1.1.1) && ((r15.1.1.2.1 == r16.1.1.2.1) && ((r15.1.1.2.2.1 == r16.1.1.2.2.1) && true))) && (((r15.1.2.1.1 == r16.1.2.1.1) && ((r15.1.2.1.2.1 == r16.1.2.1.2.1) && ((r15.1.2.1.2.2.1 == r16.1.2.1.2.2.1) && true))) && true))) fun r17 =>
 br r17 (
 bd (surveyorlaw23_awake.f lf) fun r18 =>
 some (r18.1, ())) (
 some (false, ()))) (
 some (false, ()))) (
 some (false, ()))) (
 some (false, ()))) (
 some (false, ()))) (
 some (false, ()))) (
 some (false, ()))) (
 some (false, ()))))
def E (lf : Nat) : Entry := ⟨[yV, .str], [.bool], fun x => f lf x.1 x.2.1⟩
theorem ok (lf : Nat) : Ok 7 (E lf) := okT (an := (annsL [])) (lf := lf) (tC (surveyorref23_Few.ok lf) (tC (surveyorlaw23_awake.ok lf) (tC (surveyorref23_Check.ok lf) (tC (surveyorref01_Few.ok lf) (tC (value_Make.ok lf) (tC (surveyorref23_Make.ok lf) (tC (value_Of.ok lf) (tC (surveyorref23_Of.ok lf) (tC (value_Holds.ok lf) (tC (surveyorref23_Holds.ok lf) (tC (value_Check.ok lf) (tC (value_Top.ok lf) (tC (surveyorref23_Top.ok lf) tN))))))))))))) aoN fun x => by kernel_rfl
end surveyorlaw23_ValueChecks
end
end Go.Q
