import Derived.Test.YtfogkflaijhfoaaGreatDoorProg
import Derived.KernelRfl
import Derived.Test.YtfogkflaijhfoaaGreatDoorVWE3
import Derived.Test.YtfogkflaijhfoaaGreatDoorVWG7
import Derived.Test.YtfogkflaijhfoaaGreatDoorVWG8
set_option linter.unusedVariables false
set_option linter.unusedSimpArgs false
set_option linter.unusedSectionVars false
set_option maxRecDepth 100000
namespace Go.Q
open Go Go.RowKit
open Go.Rx (br bd sIdx sCat sCut iQuo iRem)
noncomputable section
namespace surveyorlaw23_ValueWidens
def f (lf : Nat) (a0 : TV) (a1 : TV) (a2 : List ByteArray) : Option (Bool × Unit) :=
 bd (surveyorref23_Few.f lf a0 a1) fun r1 =>
 br (!r1.1) (
 bd (surveyorlaw23_awake.f lf) fun r2 =>
 some (r2.1, ())) (
 bd (surveyorlaw23_few.f lf a2) fun r3 =>
 br (!r3.1) (
 bd (surveyorlaw23_awake.f lf) fun r4 =>
 some (r4.1, ())) (
 bd (value_Widen.f lf a0 a1 a2) fun r5 =>
 bd (surveyorref23_Widen.f lf a0 a1 a2) fun r6 =>
 bd (value_Narrow.f lf a0 a1) fun r7 =>
 bd (surveyorref23_Narrow.f lf a0 a1) fun r8 =>
 bd (value_Single.f lf a0) fun r9 =>
 bd (surveyorref23_Single.f lf a0) fun r10 =>
 bd (value_Format.f lf a0) fun r11 =>
 bd (surveyorref23_Format.f lf a0) fun r12 =>
 bd (some (((r5.1.1.1 == r6.1.1.1) && ((r5.1.1.2.1 == r6.1.1.2.1) && ((r5.1.1.2.2.1 == r6.1.1.2.2.1) && true))) && (((r5.1.2.1.1 == r6.1.2.1.1) && ((r5.1.2.1.2.1 == r6.1.2.1.2.1) && ((r5.1.2.1.2.2.1 == r6.1.2.1.2.2.1) && true))) && true))) fun r13 =>
 br r13 (
 br (r5.2.1 == r6.2.1) (
 bd (some (((r7.1.1.1 == r8.1.1.1) && ((r7.1.1.2.1 == r8.1.1.2.1) && ((r7.1.1.2.2.1 == r8.1.1.2.2.1) && true))) && (((r7.1.2.1.1 == r8.1.2.1.1) && ((r7.1.2.1.2.1 == r8.1.2.1.2.1) && ((r7.1.2.1.2.2.1 == r8.1.2.1.2.2.1) && true))) && true))) fun r14 =>
 br r14 (
 br (r7.2.1 == r8.2.1) (
 br (r9.1.toList == r10.1.toList) (
 br (r9.2.1 == r10.2.1) (
 br (r9.2.2.1 == r10.2.2.1) (
 br (r11.1.toList == r12.1.toList) (
 br (r11.2.1 == r12.2.1) (
 bd (surveyorlaw23_awake.f lf) fun r15 =>
 some (r15.1, ())) (
 some (false, ()))) (
 some (false, ()))) (
 some (false, ()))) (
 some (false, ()))) (
 some (false, ()))) (
 some (false, ()))) (
 some (false, ()))) (
 some (false, ()))) (
 some (false, ()))))
def E (lf : Nat) : Entry := ⟨[yV, yV, (.sl .str)], [.bool], fun x => f lf x.1 x.2.1 x.2.2.1⟩
theorem ok (lf : Nat) : Ok 9 (E lf) := okT (an := (annsL [])) (lf := lf) (tC (surveyorref23_Few.ok lf) (tC (surveyorlaw23_awake.ok lf) (tC (surveyorlaw23_few.ok lf) (tC (value_Widen.ok lf) (tC (surveyorref23_Widen.ok lf) (tC (value_Narrow.ok lf) (tC (surveyorref23_Narrow.ok lf) (tC (value_Single.ok lf) (tC (surveyorref23_Single.ok lf) (tC (value_Format.ok lf) (tC (surveyorref23_Format.ok lf) tN))))))))))) aoN fun x => by kernel_rfl
end surveyorlaw23_ValueWidens
end
end Go.Q
