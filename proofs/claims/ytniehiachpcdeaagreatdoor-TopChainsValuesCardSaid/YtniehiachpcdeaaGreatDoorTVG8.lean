import Derived.Test.YtniehiachpcdeaaGreatDoorProg
import Derived.KernelRfl
import Derived.Test.YtniehiachpcdeaaGreatDoorTVE3
import Derived.Test.YtniehiachpcdeaaGreatDoorTVG3
set_option linter.unusedVariables false
set_option linter.unusedSimpArgs false
set_option linter.unusedSectionVars false
set_option maxRecDepth 100000
namespace Go.Q
open Go.IntKind (i64)
open Go Go.RowKit
open Go.Rx (br bd sIdx sCat sCut iQuo iRem)
noncomputable section
namespace surveyortop_trySize
def f (lf : Nat) (a0 : TV) : Option (Int × Unit) :=
 br (a0.1.2.1.toList == (⟨#[]⟩ : ByteArray).toList) (
 br (a0.1.2.2.1.toList == (⟨#[]⟩ : ByteArray).toList) (
 br (a0.2.1.2.1.toList == (⟨#[]⟩ : ByteArray).toList) (
 br (a0.2.1.2.2.1.toList == (⟨#[]⟩ : ByteArray).toList) (
 some (0, ())) (
 bd (surveyorref01_Int.f lf a0.2.1.2.2.1) fun r1 =>
 br (!r1.2.1) (
 some (1001, ())) (
 br (decide (r1.1 < (-1000))) (
 some (1001, ())) (
 br (decide (r1.1 > 1000)) (
 some (1001, ())) (
 some ((if (i64.wrap (0 - r1.1)) > (if r1.1 > 0 then r1.1 else 0) then (i64.wrap (0 - r1.1)) else (if r1.1 > 0 then r1.1 else 0)), ())))))) (
 bd (surveyorref01_Int.f lf a0.2.1.2.1) fun r2 =>
 br (!r2.2.1) (
 some (1001, ())) (
 br (decide (r2.1 < (-1000))) (
 some (1001, ())) (
 br (decide (r2.1 > 1000)) (
 some (1001, ())) (
 br (a0.2.1.2.2.1.toList == (⟨#[]⟩ : ByteArray).toList) (
 some ((if (i64.wrap (0 - r2.1)) > (if r2.1 > 0 then r2.1 else 0) then (i64.wrap (0 - r2.1)) else (if r2.1 > 0 then r2.1 else 0)), ())) (
 bd (surveyorref01_Int.f lf a0.2.1.2.2.1) fun r3 =>
 br (!r3.2.1) (
 some (1001, ())) (
 br (decide (r3.1 < (-1000))) (
 some (1001, ())) (
 br (decide (r3.1 > 1000)) (
 some (1001, ())) (
 some ((if (i64.wrap (0 - r3.1)) > (if r3.1 > (if (i64.wrap (0 - r2.1)) > (if r2.1 > 0 then r2.1 else 0) then (i64.wrap (0 - r2.1)) else (if r2.1 > 0 then r2.1 else 0)) then r3.1 else (if (i64.wrap (0 - r2.1)) > (if r2.1 > 0 then r2.1 else 0) then (i64.wrap (0 - r2.1)) else (if r2.1 > 0 then r2.1 else 0))) then (i64.wrap (0 - r3.1)) else (if r3.1 > (if (i64.wrap (0 - r2.1)) > (if r2.1 > 0 then r2.1 else 0) then (i64.wrap (0 - r2.1)) else (if r2.1 > 0 then r2.1 else 0)) then r3.1 else (if (i64.wrap (0 - r2.1)) > (if r2.1 > 0 then r2.1 else 0) then (i64.wrap (0 - r2.1)) else (if r2.1 > 0 then r2.1 else 0)))), ())))))))))) (
 bd (surveyorref01_Int.f lf a0.1.2.2.1) fun r4 =>
 br (!r4.2.1) (
 some (1001, ())) (
 br (decide (r4.1 < (-1000))) (
 some (1001, ())) (
 br (decide (r4.1 > 1000)) (
 some (1001, ())) (
 br (a0.2.1.2.1.toList == (⟨#[]⟩ : ByteArray).toList) (
 br (a0.2.1.2.2.1.toList == (⟨#[]⟩ : ByteArray).toList) (
 some ((if (i64.wrap (0 - r4.1)) > (if r4.1 > 0 then r4.1 else 0) then (i64.wrap (0 - r4.1)) else (if r4.1 > 0 then r4.1 else 0)), ())) (
 bd (surveyorref01_Int.f lf a0.2.1.2.2.1) fun r5 =>
 br (!r5.2.1) (
 some (1001, ())) (
 br (decide (r5.1 < (-1000))) (
 some (1001, ())) (
 br (decide (r5.1 > 1000)) (
 some (1001, ())) (
 some ((if (i64.wrap (0 - r5.1)) > (if r5.1 > (if (i64.wrap (0 - r4.1)) > (if r4.1 > 0 then r4.1 else 0) then (i64.wrap (0 - r4.1)) else (if r4.1 > 0 then r4.1 else 0)) then r5.1 else (if (i64.wrap (0 - r4.1)) > (if r4.1 > 0 then r4.1 else 0) then (i64.wrap (0 - r4.1)) else (if r4.1 > 0 then r4.1 else 0))) then (i64.wrap (0 - r5.1)) else (if r5.1 > (if (i64.wrap (0 - r4.1)) > (if r4.1 > 0 then r4.1 else 0) then (i64.wrap (0 - r4.1)) else (if r4.1 > 0 then r4.1 else 0)) then r5.1 else (if (i64.wrap (0 - r4.1)) > (if r4.1 > 0 then r4.1 else 0) then (i64.wrap (0 - r4.1)) else (if r4.1 > 0 then r4.1 else 0)))), ())))))) (
 bd (surveyorref01_Int.f lf a0.2.1.2.1) fun r6 =>
 br (!r6.2.1) (
 some (1001, ())) (
 br (decide (r6.1 < (-1000))) (
 some (1001, ())) (
 br (decide (r6.1 > 1000)) (
 some (1001, ())) (
 br (a0.2.1.2.2.1.toList == (⟨#[]⟩ : ByteArray).toList) (
 some ((if (i64.wrap (0 - r6.1)) > (if r6.1 > (if (i64.wrap (0 - r4.1)) > (if r4.1 > 0 then r4.1 else 0) then (i64.wrap (0 - r4.1)) else (if r4.1 > 0 then r4.1 else 0)) then r6.1 else (if (i64.wrap (0 - r4.1)) > (if r4.1 > 0 then r4.1 else 0) then (i64.wrap (0 - r4.1)) else (if r4.1 > 0 then r4.1 else 0))) then (i64.wrap (0 - r6.1)) else (if r6.1 > (if (i64.wrap (0 - r4.1)) > (if r4.1 > 0 then r4.1 else 0) then (i64.wrap (0 - r4.1)) else (if r4.1 > 0 then r4.1 else 0)) then r6.1 else (if (i64.wrap (0 - r4.1)) > (if r4.1 > 0 then r4.1 else 0) then (i64.wrap (0 - r4.1)) else (if r4.1 > 0 then r4.1 else 0)))), ())) (
 bd (surveyorref01_Int.f lf a0.2.1.2.2.1) fun r7 =>
 br (!r7.2.1) (
 some (1001, ())) (
 br (decide (r7.1 < (-1000))) (
 some (1001, ())) (
 br (decide (r7.1 > 1000)) (
 some (1001, ())) (
 some ((if (i64.wrap (0 - r7.1)) > (if r7.1 > (if (i64.wrap (0 - r6.1)) > (if r6.1 > (if (i64.wrap (0 - r4.1)) > (if r4.1 > 0 then r4.1 else 0) then (i64.wrap (0 - r4.1)) else (if r4.1 > 0 then r4.1 else 0)) then r6.1 else (if (i64.wrap (0 - r4.1)) > (if r4.1 > 0 then r4.1 else 0) then (i64.wrap (0 - r4.1)) else (if r4.1 > 0 then r4.1 else 0))) then (i64.wrap (0 - r6.1)) else (if r6.1 > (if (i64.wrap (0 - r4.1)) > (if r4.1 > 0 then r4.1 else 0) then (i64.wrap (0 - r4.1)) else (if r4.1 > 0 then r4.1 else 0)) then r6.1 else (if (i64.wrap (0 - r4.1)) > (if r4.1 > 0 then r4.1 else 0) then (i64.wrap (0 - r4.1)) else (if r4.1 > 0 then r4.1 else 0)))) then r7.1 else (if (i64.wrap (0 - r6.1)) > (if r6.1 > (if (i64.wrap (0 - r4.1)) > (if r4.1 > 0 then r4.1 else 0) then (i64.wrap (0 - r4.1)) else (if r4.1 > 0 then r4.1 else 0)) then r6.1 else (if (i64.wrap (0 - r4.1)) > (if r4.1 > 0 then r4.1 else 0) then (i64.wrap (0 - r4.1)) else (if r4.1 > 0 then r4.1 else 0))) then (i64.wrap (0 - r6.1)) else (if r6.1 > (if (i64.wrap (0 - r4.1)) > (if r4.1 > 0 then r4.1 else 0) then (i64.wrap (0 - r4.1)) else (if r4.1 > 0 then r4.1 else 0)) then r6.1 else (if (i64.wrap (0 - r4.1)) > (if r4.1 > 0 then r4.1 else 0) then (i64.wrap (0 - r4.1)) else (if r4.1 > 0 then r4.1 else 0))))) then (i64.wrap (0 - r7.1)) else (if r7.1 > (if (i64.wrap (0 - r6.1)) > (if r6.1 > (if (i64.wrap (0 - r4.1)) > (if r4.1 > 0 then r4.1 else 0) then (i64.wrap (0 - r4.1)) else (if r4.1 > 0 then r4.1 else 0)) then r6.1 else (if (i64.wrap (0 - r4.1)) > (if r4.1 > 0 then r4.1 else 0) then (i64.wrap (0 - r4.1)) else (if r4.1 > 0 then r4.1 else 0))) then (i64.wrap (0 - r6.1)) else (if r6.1 > (if (i64.wrap (0 - r4.1)) > (if r4.1 > 0 then r4.1 else 0) then (i64.wrap (0 - r4.1)) else (if r4.1 > 0 then r4.1 else 0)) then r6.1 else (if (i64.wrap (0 - r4.1)) > (if r4.1 > 0 then r4.1 else 0) then (i64.wrap (0 - r4.1)) else (if r4.1 > 0 then r4.1 else 0)))) then r7.1 else (if (i64.wrap (0 - r6.1)) > (if r6.1 > (if (i64.wrap (0 - r4.1)) > (if r4.1 > 0 then r4.1 else 0) then (i64.wrap (0 - r4.1)) else (if r4.1 > 0 then r4.1 else 0)) then r6.1 else (if (i64.wrap (0 - r4.1)) > (if r4.1 > 0 then r4.1 else 0) then (i64.wrap (0 - r4.1)) else (if r4.1 > 0 then r4.1 else 0))) then (i64.wrap (0 - r6.1)) else (if r6.1 > (if (i64.wrap (0 - r4.1)) > (if r4.1 > 0 then r4.1 else 0) then (i64.wrap (0 - r4.1)) else (if r4.1 > 0 then r4.1 else 0)) then r6.1 else (if (i64.wrap (0 - r4.1)) > (if r4.1 > 0 then r4.1 else 0) then (i64.wrap (0 - r4.1)) else (if r4.1 > 0 then r4.1 else 0)))))), ())))))))))))))) (
 bd (surveyorref01_Int.f lf a0.1.2.1) fun r8 =>
 br (!r8.2.1) (
 some (1001, ())) (
 br (decide (r8.1 < (-1000))) (
 some (1001, ())) (
 br (decide (r8.1 > 1000)) (
 some (1001, ())) (
 br (a0.1.2.2.1.toList == (⟨#[]⟩ : ByteArray).toList) (
 br (a0.2.1.2.1.toList == (⟨#[]⟩ : ByteArray).toList) (
 br (a0.2.1.2.2.1.toList == (⟨#[]⟩ : ByteArray).toList) (
 some ((if (i64.wrap (0 - r8.1)) > (if r8.1 > 0 then r8.1 else 0) then (i64.wrap (0 - r8.1)) else (if r8.1 > 0 then r8.1 else 0)), ())) (
 bd (surveyorref01_Int.f lf a0.2.1.2.2.1) fun r9 =>
 br (!r9.2.1) (
 some (1001, ())) (
 br (decide (r9.1 < (-1000))) (
 some (1001, ())) (
 br (decide (r9.1 > 1000)) (
 some (1001, ())) (
 some ((if (i64.wrap (0 - r9.1)) > (if r9.1 > (if (i64.wrap (0 - r8.1)) > (if r8.1 > 0 then r8.1 else 0) then (i64.wrap (0 - r8.1)) else (if r8.1 > 0 then r8.1 else 0)) then r9.1 else (if (i64.wrap (0 - r8.1)) > (if r8.1 > 0 then r8.1 else 0) then (i64.wrap (0 - r8.1)) else (if r8.1 > 0 then r8.1 else 0))) then (i64.wrap (0 - r9.1)) else (if r9.1 > (if (i64.wrap (0 - r8.1)) > (if r8.1 > 0 then r8.1 else 0) then (i64.wrap (0 - r8.1)) else (if r8.1 > 0 then r8.1 else 0)) then r9.1 else (if (i64.wrap (0 - r8.1)) > (if r8.1 > 0 then r8.1 else 0) then (i64.wrap (0 - r8.1)) else (if r8.1 > 0 then r8.1 else 0)))), ())))))) (
 bd (surveyorref01_Int.f lf a0.2.1.2.1) fun r10 =>
 br (!r10.2.1) (
 some (1001, ())) (
 br (decide (r10.1 < (-1000))) (
 some (1001, ())) (
 br (decide (r10.1 > 1000)) (
 some (1001, ())) (
 br (a0.2.1.2.2.1.toList == (⟨#[]⟩ : ByteArray).toList) (
 some ((if (i64.wrap (0 - r10.1)) > (if r10.1 > (if (i64.wrap (0 - r8.1)) > (if r8.1 > 0 then r8.1 else 0) then (i64.wrap (0 - r8.1)) else (if r8.1 > 0 then r8.1 else 0)) then r10.1 else (if (i64.wrap (0 - r8.1)) > (if r8.1 > 0 then r8.1 else 0) then (i64.wrap (0 - r8.1)) else (if r8.1 > 0 then r8.1 else 0))) then (i64.wrap (0 - r10.1)) else (if r10.1 > (if (i64.wrap (0 - r8.1)) > (if r8.1 > 0 then r8.1 else 0) then (i64.wrap (0 - r8.1)) else (if r8.1 > 0 then r8.1 else 0)) then r10.1 else (if (i64.wrap (0 - r8.1)) > (if r8.1 > 0 then r8.1 else 0) then (i64.wrap (0 - r8.1)) else (if r8.1 > 0 then r8.1 else 0)))), ())) (
 bd (surveyorref01_Int.f lf a0.2.1.2.2.1) fun r11 =>
 br (!r11.2.1) (
 some (1001, ())) (
 br (decide (r11.1 < (-1000))) (
 some (1001, ())) (
 br (decide (r11.1 > 1000)) (
 some (1001, ())) (
 some ((if (i64.wrap (0 - r11.1)) > (if r11.1 > (if (i64.wrap (0 - r10.1)) > (if r10.1 > (if (i64.wrap (0 - r8.1)) > (if r8.1 > 0 then r8.1 else 0) then (i64.wrap (0 - r8.1)) else (if r8.1 > 0 then r8.1 else 0)) then r10.1 else (if (i64.wrap (0 - r8.1)) > (if r8.1 > 0 then r8.1 else 0) then (i64.wrap (0 - r8.1)) else (if r8.1 > 0 then r8.1 else 0))) then (i64.wrap (0 - r10.1)) else (if r10.1 > (if (i64.wrap (0 - r8.1)) > (if r8.1 > 0 then r8.1 else 0) then (i64.wrap (0 - r8.1)) else (if r8.1 > 0 then r8.1 else 0)) then r10.1 else (if (i64.wrap (0 - r8.1)) > (if r8.1 > 0 then r8.1 else 0) then (i64.wrap (0 - r8.1)) else (if r8.1 > 0 then r8.1 else 0)))) then r11.1 else (if (i64.wrap (0 - r10.1)) > (if r10.1 > (if (i64.wrap (0 - r8.1)) > (if r8.1 > 0 then r8.1 else 0) then (i64.wrap (0 - r8.1)) else (if r8.1 > 0 then r8.1 else 0)) then r10.1 else (if (i64.wrap (0 - r8.1)) > (if r8.1 > 0 then r8.1 else 0) then (i64.wrap (0 - r8.1)) else (if r8.1 > 0 then r8.1 else 0))) then (i64.wrap (0 - r10.1)) else (if r10.1 > (if (i64.wrap (0 - r8.1)) > (if r8.1 > 0 then r8.1 else 0) then (i64.wrap (0 - r8.1)) else (if r8.1 > 0 then r8.1 else 0)) then r10.1 else (if (i64.wrap (0 - r8.1)) > (if r8.1 > 0 then r8.1 else 0) then (i64.wrap (0 - r8.1)) else (if r8.1 > 0 then r8.1 else 0))))) then (i64.wrap (0 - r11.1)) else (if r11.1 > (if (i64.wrap (0 - r10.1)) > (if r10.1 > (if (i64.wrap (0 - r8.1)) > (if r8.1 > 0 then r8.1 else 0) then (i64.wrap (0 - r8.1)) else (if r8.1 > 0 then r8.1 else 0)) then r10.1 else (if (i64.wrap (0 - r8.1)) > (if r8.1 > 0 then r8.1 else 0) then (i64.wrap (0 - r8.1)) else (if r8.1 > 0 then r8.1 else 0))) then (i64.wrap (0 - r10.1)) else (if r10.1 > (if (i64.wrap (0 - r8.1)) > (if r8.1 > 0 then r8.1 else 0) then (i64.wrap (0 - r8.1)) else (if r8.1 > 0 then r8.1 else 0)) then r10.1 else (if (i64.wrap (0 - r8.1)) > (if r8.1 > 0 then r8.1 else 0) then (i64.wrap (0 - r8.1)) else (if r8.1 > 0 then r8.1 else 0)))) then r11.1 else (if (i64.wrap (0 - r10.1)) > (if r10.1 > (if (i64.wrap (0 - r8.1)) > (if r8.1 > 0 then r8.1 else 0) then (i64.wrap (0 - r8.1)) else (if r8.1 > 0 then r8.1 else 0)) then r10.1 else (if (i64.wrap (0 - r8.1)) > (if r8.1 > 0 then r8.1 else 0) then (i64.wrap (0 - r8.1)) else (if r8.1 > 0 then r8.1 else 0))) then (i64.wrap (0 - r10.1)) else (if r10.1 > (if (i64.wrap (0 - r8.1)) > (if r8.1 > 0 then r8.1 else 0) then (i64.wrap (0 - r8.1)) else (if r8.1 > 0 then r8.1 else 0)) then r10.1 else (if (i64.wrap (0 - r8.1)) > (if r8.1 > 0 then r8.1 else 0) then (i64.wrap (0 - r8.1)) else (if r8.1 > 0 then r8.1 else 0)))))), ())))))))))) (
 bd (surveyorref01_Int.f lf a0.1.2.2.1) fun r12 =>
 br (!r12.2.1) (
 some (1001, ())) (
 br (decide (r12.1 < (-1000))) (
 some (1001, ())) (
 br (decide (r12.1 > 1000)) (
 some (1001, ())) (
 br (a0.2.1.2.1.toList == (⟨#[]⟩ : ByteArray).toList) (
 br (a0.2.1.2.2.1.toList == (⟨#[]⟩ : ByteArray).toList) (
 some ((if (i64.wrap (0 - r12.1)) > (if r12.1 > (if (i64.wrap (0 - r8.1)) > (if r8.1 > 0 then r8.1 else 0) then (i64.wrap (0 - r8.1)) else (if r8.1 > 0 then r8.1 else 0)) then r12.1 else (if (i64.wrap (0 - r8.1)) > (if r8.1 > 0 then r8.1 else 0) then (i64.wrap (0 - r8.1)) else (if r8.1 > 0 then r8.1 else 0))) then (i64.wrap (0 - r12.1)) else (if r12.1 > (if (i64.wrap (0 - r8.1)) > (if r8.1 > 0 then r8.1 else 0) then (i64.wrap (0 - r8.1)) else (if r8.1 > 0 then r8.1 else 0)) then r12.1 else (if (i64.wrap (0 - r8.1)) > (if r8.1 > 0 then r8.1 else 0) then (i64.wrap (0 - r8.1)) else (if r8.1 > 0 then r8.1 else 0)))), ())) (
 bd (surveyorref01_Int.f lf a0.2.1.2.2.1) fun r13 =>
 br (!r13.2.1) (
 some (1001, ())) (
 br (decide (r13.1 < (-1000))) (
 some (1001, ())) (
 br (decide (r13.1 > 1000)) (
 some (1001, ())) (
 some ((if (i64.wrap (0 - r13.1)) > (if r13.1 > (if (i64.wrap (0 - r12.1)) > (if r12.1 > (if (i64.wrap (0 - r8.1)) > (if r8.1 > 0 then r8.1 else 0) then (i64.wrap (0 - r8.1)) else (if r8.1 > 0 then r8.1 else 0)) then r12.1 else (if (i64.wrap (0 - r8.1)) > (if r8.1 > 0 then r8.1 else 0) then (i64.wrap (0 - r8.1)) else (if r8.1 > 0 then r8.1 else 0))) then (i64.wrap (0 - r12.1)) else (if r12.1 > (if (i64.wrap (0 - r8.1)) > (if r8.1 > 0 then r8.1 else 0) then (i64.wrap (0 - r8.1)) else (if r8.1 > 0 then r8.1 else 0)) then r12.1 else (if (i64.wrap (0 - r8.1)) > (if r8.1 > 0 then r8.1 else 0) then (i64.wrap (0 - r8.1)) else (if r8.1 > 0 then r8.1 else 0)))) then r13.1 else (if (i64.wrap (0 - r12.1)) > (if r12.1 > (if (i64.wrap (0 - r8.1)) > (if r8.1 > 0 then r8.1 else 0) then (i64.wrap (0 - r8.1)) else (if r8.1 > 0 then r8.1 else 0)) then r12.1 else (if (i64.wrap (0 - r8.1)) > (if r8.1 > 0 then r8.1 else 0) then (i64.wrap (0 - r8.1)) else (if r8.1 > 0 then r8.1 else 0))) then (i64.wrap (0 - r12.1)) else (if r12.1 > (if (i64.wrap (0 - r8.1)) > (if r8.1 > 0 then r8.1 else 0) then (i64.wrap (0 - r8.1)) else (if r8.1 > 0 then r8.1 else 0)) then r12.1 else (if (i64.wrap (0 - r8.1)) > (if r8.1 > 0 then r8.1 else 0) then (i64.wrap (0 - r8.1)) else (if r8.1 > 0 then r8.1 else 0))))) then (i64.wrap (0 - r13.1)) else (if r13.1 > (if (i64.wrap (0 - r12.1)) > (if r12.1 > (if (i64.wrap (0 - r8.1)) > (if r8.1 > 0 then r8.1 else 0) then (i64.wrap (0 - r8.1)) else (if r8.1 > 0 then r8.1 else 0)) then r12.1 else (if (i64.wrap (0 - r8.1)) > (if r8.1 > 0 then r8.1 else 0) then (i64.wrap (0 - r8.1)) else (if r8.1 > 0 then r8.1 else 0))) then (i64.wrap (0 - r12.1)) else (if r12.1 > (if (i64.wrap (0 - r8.1)) > (if r8.1 > 0 then r8.1 else 0) then (i64.wrap (0 - r8.1)) else (if r8.1 > 0 then r8.1 else 0)) then r12.1 else (if (i64.wrap (0 - r8.1)) > (if r8.1 > 0 then r8.1 else 0) then (i64.wrap (0 - r8.1)) else (if r8.1 > 0 then r8.1 else 0)))) then r13.1 else (if (i64.wrap (0 - r12.1)) > (if r12.1 > (if (i64.wrap (0 - r8.1)) > (if r8.1 > 0 then r8.1 else 0) then (i64.wrap (0 - r8.1)) else (if r8.1 > 0 then r8.1 else 0)) then r12.1 else (if (i64.wrap (0 - r8.1)) > (if r8.1 > 0 then r8.1 else 0) then (i64.wrap (0 - r8.1)) else (if r8.1 > 0 then r8.1 else 0))) then (i64.wrap (0 - r12.1)) else (if r12.1 > (if (i64.wrap (0 - r8.1)) > (if r8.1 > 0 then r8.1 else 0) then (i64.wrap (0 - r8.1)) else (if r8.1 > 0 then r8.1 else 0)) then r12.1 else (if (i64.wrap (0 - r8.1)) > (if r8.1 > 0 then r8.1 else 0) then (i64.wrap (0 - r8.1)) else (if r8.1 > 0 then r8.1 else 0)))))), ())))))) (
 bd (surveyorref01_Int.f lf a0.2.1.2.1) fun r14 =>
 br (!r14.2.1) (
 some (1001, ())) (
 br (decide (r14.1 < (-1000))) (
 some (1001, ())) (
 br (decide (r14.1 > 1000)) (
 some (1001, ())) (
 br (a0.2.1.2.2.1.toList == (⟨#[]⟩ : ByteArray).toList) (
 some ((if (i64.wrap (0 - r14.1)) > (if r14.1 > (if (i64.wrap (0 - r12.1)) > (if r12.1 > (if (i64.wrap (0 - r8.1)) > (if r8.1 > 0 then r8.1 else 0) then (i64.wrap (0 - r8.1)) else (if r8.1 > 0 then r8.1 else 0)) then r12.1 else (if (i64.wrap (0 - r8.1)) > (if r8.1 > 0 then r8.1 else 0) then (i64.wrap (0 - r8.1)) else (if r8.1 > 0 then r8.1 else 0))) then (i64.wrap (0 - r12.1)) else (if r12.1 > (if (i64.wrap (0 - r8.1)) > (if r8.1 > 0 then r8.1 else 0) then (i64.wrap (0 - r8.1)) else (if r8.1 > 0 then r8.1 else 0)) then r12.1 else (if (i64.wrap (0 - r8.1)) > (if r8.1 > 0 then r8.1 else 0) then (i64.wrap (0 - r8.1)) else (if r8.1 > 0 then r8.1 else 0)))) then r14.1 else (if (i64.wrap (0 - r12.1)) > (if r12.1 > (if (i64.wrap (0 - r8.1)) > (if r8.1 > 0 then r8.1 else 0) then (i64.wrap (0 - r8.1)) else (if r8.1 > 0 then r8.1 else 0)) then r12.1 else (if (i64.wrap (0 - r8.1)) > (if r8.1 > 0 then r8.1 else 0) then (i64.wrap (0 - r8.1)) else (if r8.1 > 0 then r8.1 else 0))) then (i64.wrap (0 - r12.1)) else (if r12.1 > (if (i64.wrap (0 - r8.1)) > (if r8.1 > 0 then r8.1 else 0) then (i64.wrap (0 - r8.1)) else (if r8.1 > 0 then r8.1 else 0)) then r12.1 else (if (i64.wrap (0 - r8.1)) > (if r8.1 > 0 then r8.1 else 0) then (i64.wrap (0 - r8.1)) else (if r8.1 > 0 then r8.1 else 0))))) then (i64.wrap (0 - r14.1)) else (if r14.1 > (if (i64.wrap (0 - r12.1)) > (if r12.1 > (if (i64.wrap (0 - r8.1)) > (if r8.1 > 0 then r8.1 else 0) then (i64.wrap (0 - r8.1)) else (if r8.1 > 0 then r8.1 else 0)) then r12.1 else (if (i64.wrap (0 - r8.1)) > (if r8.1 > 0 then r8.1 else 0) then (i64.wrap (0 - r8.1)) else (if r8.1 > 0 then r8.1 else 0))) then (i64.wrap (0 - r12.1)) else (if r12.1 > (if (i64.wrap (0 - r8.1)) > (if r8.1 > 0 then r8.1 else 0) then (i64.wrap (0 - r8.1)) else (if r8.1 > 0 then r8.1 else 0)) then r12.1 else (if (i64.wrap (0 - r8.1)) > (if r8.1 > 0 then r8.1 else 0) then (i64.wrap (0 - r8.1)) else (if r8.1 > 0 then r8.1 else 0)))) then r14.1 else (if (i64.wrap (0 - r12.1)) > (if r12.1 > (if (i64.wrap (0 - r8.1)) > (if r8.1 > 0 then r8.1 else 0) then (i64.wrap (0 - r8.1)) else (if r8.1 > 0 then r8.1 else 0)) then r12.1 else (if (i64.wrap (0 - r8.1)) > (if r8.1 > 0 then r8.1 else 0) then (i64.wrap (0 - r8.1)) else (if r8.1 > 0 then r8.1 else 0))) then (i64.wrap (0 - r12.1)) else (if r12.1 > (if (i64.wrap (0 - r8.1)) > (if r8.1 > 0 then r8.1 else 0) then (i64.wrap (0 - r8.1)) else (if r8.1 > 0 then r8.1 else 0)) then r12.1 else (if (i64.wrap (0 - r8.1)) > (if r8.1 > 0 then r8.1 else 0) then (i64.wrap (0 - r8.1)) else (if r8.1 > 0 then r8.1 else 0)))))), ())) (
 bd (surveyorref01_Int.f lf a0.2.1.2.2.1) fun r15 =>
 br (!r15.2.1) (
 some (1001, ())) (
 br (decide (r15.1 < (-1000))) (
 some (1001, ())) (
 br (decide (r15.1 > 1000)) (
 some (1001, ())) (
 some ((if (i64.wrap (0 - r15.1)) > (if r15.1 > (if (i64.wrap (0 - r14.1)) > (if r14.1 > (if (i64.wrap (0 - r12.1)) > (if r12.1 > (if (i64.wrap (0 - r8.1)) > (if r8.1 > 0 then r8.1 else 0) then (i64.wrap (0 - r8.1)) else (if r8.1 > 0 then r8.1 else 0)) then r12.1 else (if (i64.wrap (0 - r8.1)) > (if r8.1 > 0 then r8.1 else 0) then (i64.wrap (0 - r8.1)) else (if r8.1 > 0 then r8.1 else 0))) then (i64.wrap (0 - r12.1)) else (if r12.1 > (if (i64.wrap (0 - r8.1)) > (if r8.1 > 0 then r8.1 else 0) then (i64.wrap (0 - r8.1)) else (if r8.1 > 0 then r8.1 else 0)) then r12.1 else (if (i64.wrap (0 - r8.1)) > (if r8.1 > 0 then r8.1 else 0) then (i64.wrap (0 - r8.1)) else (if r8.1 > 0 then r8.1 else 0)))) then r14.1 else (if (i64.wrap (0 - r12.1)) > (if r12.1 > (if (i64.wrap (0 - r8.1)) > (if r8.1 > 0 then r8.1 else 0) then (i64.wrap (0 - r8.1)) else (if r8.1 > 0 then r8.1 else 0)) then r12.1 else (if (i64.wrap (0 - r8.1)) > (if r8.1 > 0 then r8.1 else 0) then (i64.wrap (0 - r8.1)) else (if r8.1 > 0 then r8.1 else 0))) then (i64.wrap (0 - r12.1)) else (if r12.1 > (if (i64.wrap (0 - r8.1)) > (if r8.1 > 0 then r8.1 else 0) then (i64.wrap (0 - r8.1)) else (if r8.1 > 0 then r8.1 else 0)) then r12.1 else (if (i64.wrap (0 - r8.1)) > (if r8.1 > 0 then r8.1 else 0) then (i64.wrap (0 - r8.1)) else (if r8.1 > 0 then r8.1 else 0))))) then (i64.wrap (0 - r14.1)) else (if r14.1 > (if (i64.wrap (0 - r12.1)) > (if r12.1 > (if (i64.wrap (0 - r8.1)) > (if r8.1 > 0 then r8.1 else 0) then (i64.wrap (0 - r8.1)) else (if r8.1 > 0 then r8.1 else 0)) then r12.1 else (if (i64.wrap (0 - r8.1)) > (if r8.1 > 0 then r8.1 else 0) then (i64.wrap (0 - r8.1)) else (if r8.1 > 0 then r8.1 else 0))) then (i64.wrap (0 - r12.1)) else (if r12.1 > (if (i64.wrap (0 - r8.1)) > (if r8.1 > 0 then r8.1 else 0) then (i64.wrap (0 - r8.1)) else (if r8.1 > 0 then r8.1 else 0)) then r12.1 else (if (i64.wrap (0 - r8.1)) > (if r8.1 > 0 then r8.1 else 0) then (i64.wrap (0 - r8.1)) else (if r8.1 > 0 then r8.1 else 0)))) then r14.1 else (if (i64.wrap (0 - r12.1)) > (if r12.1 > (if (i64.wrap (0 - r8.1)) > (if r8.1 > 0 then r8.1 else 0) then (i64.wrap (0 - r8.1)) else (if r8.1 > 0 then r8.1 else 0)) then r12.1 else (if (i64.wrap (0 - r8.1)) > (if r8.1 > 0 then r8.1 else 0) then (i64.wrap (0 - r8.1)) else (if r8.1 > 0 then r8.1 else 0))) then (i64.wrap (0 - r12.1)) else (if r12.1 > (if (i64.wrap (0 - r8.1)) > (if r8.1 > 0 then r8.1 else 0) then (i64.wrap (0 - r8.1)) else (if r8.1 > 0 then r8.1 else 0)) then r12.1 else (if (i64.wrap (0 - r8.1)) > (if r8.1 > 0 then r8.1 else 0) then (i64.wrap (0 - r8.1)) else (if r8.1 > 0 then r8.1 else 0)))))) then r15.1 else (if (i64.wrap (0 - r14.1)) > (if r14.1 > (if (i64.wrap (0 - r12.1)) > (if r12.1 > (if (i64.wrap (0 - r8.1)) > (if r8.1 > 0 then r8.1 else 0) then (i64.wrap (0 - r8.1)) else (if r8.1 > 0 then r8.1 else 0)) then r12.1 else (if (i64.wrap (0 - r8.1)) > (if r8.1 > 0 then r8.1 else 0) then (i64.wrap (0 - r8.1)) else (if r8.1 > 0 then r8.1 else 0))) then (i64.wrap (0 - r12.1)) else (if r12.1 > (if (i64.wrap (0 - r8.1)) > (if r8.1 > 0 then r8.1 else 0) then (i64.wrap (0 - r8.1)) else (if r8.1 > 0 then r8.1 else 0)) then r12.1 else (if (i64.wrap (0 - r8.1)) > (if r8.1 > 0 then r8.1 else 0) then (i64.wrap (0 - r8.1)) else (if r8.1 > 0 then r8.1 else 0)))) then r14.1 else (if (i64.wrap (0 - r12.1)) > (if r12.1 > (if (i64.wrap (0 - r8.1)) > (if r8.1 > 0 then r8.1 else 0) then (i64.wrap (0 - r8.1)) else (if r8.1 > 0 then r8.1 else 0)) then r12.1 else (if (i64.wrap (0 - r8.1)) > (if r8.1 > 0 then r8.1 else 0) then (i64.wrap (0 - r8.1)) else (if r8.1 > 0 then r8.1 else 0))) then (i64.wrap (0 - r12.1)) else (if r12.1 > (if (i64.wrap (0 - r8.1)) > (if r8.1 > 0 then r8.1 else 0) then (i64.wrap (0 - r8.1)) else (if r8.1 > 0 then r8.1 else 0)) then r12.1 else (if (i64.wrap (0 - r8.1)) > (if r8.1 > 0 then r8.1 else 0) then (i64.wrap (0 - r8.1)) else (if r8.1 > 0 then r8.1 else 0))))) then (i64.wrap (0 - r14.1)) else (if r14.1 > (if (i64.wrap (0 - r12.1)) > (if r12.1 > (if (i64.wrap (0 - r8.1)) > (if r8.1 > 0 then r8.1 else 0) then (i64.wrap (0 - r8.1)) else (if r8.1 > 0 then r8.1 else 0)) then r12.1 else (if (i64.wrap (0 - r8.1)) > (if r8.1 > 0 then r8.1 else 0) then (i64.wrap (0 - r8.1)) else (if r8.1 > 0 then r8.1 else 0))) then (i64.wrap (0 - r12.1)) else (if r12.1 > (if (i64.wrap (0 - r8.1)) > (if r8.1 > 0 then r8.1 else 0) then (i64.wrap (0 - r8.1)) else (if r8.1 > 0 then r8.1 else 0)) then r12.1 else (if (i64.wrap (0 - r8.1)) > (if r8.1 > 0 then r8.1 else 0) then (i64.wrap (0 - r8.1)) else (if r8.1 > 0 then r8.1 else 0)))) then r14.1 else (if (i64.wrap (0 - r12.1)) > (if r12.1 > (if (i64.wrap (0 - r8.1)) > (if r8.1 > 0 then r8.1 else 0) then (i64.wrap (0 - r8.1)) else (if r8.1 > 0 then r8.1 else 0)) then r12.1 else (if (i64.wrap (0 - r8.1)) > (if r8.1 > 0 then r8.1 else 0) then (i64.wrap (0 - r8.1)) else (if r8.1 > 0 then r8.1 else 0))) then (i64.wrap (0 - r12.1)) else (if r12.1 > (if (i64.wrap (0 - r8.1)) > (if r8.1 > 0 then r8.1 else 0) then (i64.wrap (0 - r8.1)) else (if r8.1 > 0 then r8.1 else 0)) then r12.1 else (if (i64.wrap (0 - r8.1)) > (if r8.1 > 0 then r8.1 else 0) then (i64.wrap (0 - r8.1)) else (if r8.1 > 0 then r8.1 else 0))))))) then (i64.wrap (0 - r15.1)) else (if r15.1 > (if (i64.wrap (0 - r14.1)) > (if r14.1 > (if (i64.wrap (0 - r12.1)) > (if r12.1 > (if (i64.wrap (0 - r8.1)) > (if r8.1 > 0 then r8.1 else 0) then (i64.wrap (0 - r8.1)) else (if r8.1 > 0 then r8.1 else 0)) then r12.1 else (if (i64.wrap (0 - r8.1)) > (if r8.1 > 0 then r8.1 else 0) then (i64.wrap (0 - r8.1)) else (if r8.1 > 0 then r8.1 else 0))) then (i64.wrap (0 - r12.1)) else (if r12.1 > (if (i64.wrap (0 - r8.1)) > (if r8.1 > 0 then r8.1 else 0) then (i64.wrap (0 - r8.1)) else (if r8.1 > 0 then r8.1 else 0)) then r12.1 else (if (i64.wrap (0 - r8.1)) > (if r8.1 > 0 then r8.1 else 0) then (i64.wrap (0 - r8.1)) else (if r8.1 > 0 then r8.1 else 0)))) then r14.1 else (if (i64.wrap (0 - r12.1)) > (if r12.1 > (if (i64.wrap (0 - r8.1)) > (if r8.1 > 0 then r8.1 else 0) then (i64.wrap (0 - r8.1)) else (if r8.1 > 0 then r8.1 else 0)) then r12.1 else (if (i64.wrap (0 - r8.1)) > (if r8.1 > 0 then r8.1 else 0) then (i64.wrap (0 - r8.1)) else (if r8.1 > 0 then r8.1 else 0))) then (i64.wrap (0 - r12.1)) else (if r12.1 > (if (i64.wrap (0 - r8.1)) > (if r8.1 > 0 then r8.1 else 0) then (i64.wrap (0 - r8.1)) else (if r8.1 > 0 then r8.1 else 0)) then r12.1 else (if (i64.wrap (0 - r8.1)) > (if r8.1 > 0 then r8.1 else 0) then (i64.wrap (0 - r8.1)) else (if r8.1 > 0 then r8.1 else 0))))) then (i64.wrap (0 - r14.1)) else (if r14.1 > (if (i64.wrap (0 - r12.1)) > (if r12.1 > (if (i64.wrap (0 - r8.1)) > (if r8.1 > 0 then r8.1 else 0) then (i64.wrap (0 - r8.1)) else (if r8.1 > 0 then r8.1 else 0)) then r12.1 else (if (i64.wrap (0 - r8.1)) > (if r8.1 > 0 then r8.1 else 0) then (i64.wrap (0 - r8.1)) else (if r8.1 > 0 then r8.1 else 0))) then (i64.wrap (0 - r12.1)) else (if r12.1 > (if (i64.wrap (0 - r8.1)) > (if r8.1 > 0 then r8.1 else 0) then (i64.wrap (0 - r8.1)) else (if r8.1 > 0 then r8.1 else 0)) then r12.1 else (if (i64.wrap (0 - r8.1)) > (if r8.1 > 0 then r8.1 else 0) then (i64.wrap (0 - r8.1)) else (if r8.1 > 0 then r8.1 else 0)))) then r14.1 else (if (i64.wrap (0 - r12.1)) > (if r12.1 > (if (i64.wrap (0 - r8.1)) > (if r8.1 > 0 then r8.1 else 0) then (i64.wrap (0 - r8.1)) else (if r8.1 > 0 then r8.1 else 0)) then r12.1 else (if (i64.wrap (0 - r8.1)) > (if r8.1 > 0 then r8.1 else 0) then (i64.wrap (0 - r8.1)) else (if r8.1 > 0 then r8.1 else 0))) then (i64.wrap (0 - r12.1)) else (if r12.1 > (if (i64.wrap (0 - r8.1)) > (if r8.1 > 0 then r8.1 else 0) then (i64.wrap (0 - r8.1)) else (if r8.1 > 0 then r8.1 else 0)) then r12.1 else (if (i64.wrap (0 - r8.1)) > (if r8.1 > 0 then r8.1 else 0) then (i64.wrap (0 - r8.1)) else (if r8.1 > 0 then r8.1 else 0)))))) then r15.1 else (if (i64.wrap (0 - r14.1)) > (if r14.1 > (if (i64.wrap (0 - r12.1)) > (if r12.1 > (if (i64.wrap (0 - r8.1)) > (if r8.1 > 0 then r8.1 else 0) then (i64.wrap (0 - r8.1)) else (if r8.1 > 0 then r8.1 else 0)) then r12.1 else (if (i64.wrap (0 - r8.1)) > (if r8.1 > 0 then r8.1 else 0) then (i64.wrap (0 - r8.1)) else (if r8.1 > 0 then r8.1 else 0))) then (i64.wrap (0 - r12.1)) else (if r12.1 > (if (i64.wrap (0 - r8.1)) > (if r8.1 > 0 then r8.1 else 0) then (i64.wrap (0 - r8.1)) else (if r8.1 > 0 then r8.1 else 0)) then r12.1 else (if (i64.wrap (0 - r8.1)) > (if r8.1 > 0 then r8.1 else 0) then (i64.wrap (0 - r8.1)) else (if r8.1 > 0 then r8.1 else 0)))) then r14.1 else (if (i64.wrap (0 - r12.1)) > (if r12.1 > (if (i64.wrap (0 - r8.1)) > (if r8.1 > 0 then r8.1 else 0) then (i64.wrap (0 - r8.1)) else (if r8.1 > 0 then r8.1 else 0)) then r12.1 else (if (i64.wrap (0 - r8.1)) > (if r8.1 > 0 then r8.1 else 0) then (i64.wrap (0 - r8.1)) else (if r8.1 > 0 then r8.1 else 0))) then (i64.wrap (0 - r12.1)) else (if r12.1 > (if (i64.wrap (0 - r8.1)) > (if r8.1 > 0 then r8.1 else 0) then (i64.wrap (0 - r8.1)) else (if r8.1 > 0 then r8.1 else 0)) then r12.1 else (if (i64.wrap (0 - r8.1)) > (if r8.1 > 0 then r8.1 else 0) then (i64.wrap (0 - r8.1)) else (if r8.1 > 0 then r8.1 else 0))))) then (i64.wrap (0 - r14.1)) else (if r14.1 > (if (i64.wrap (0 - r12.1)) > (if r12.1 > (if (i64.wrap (0 - r8.1)) > (if r8.1 > 0 then r8.1 else 0) then (i64.wrap (0 - r8.1)) else (if r8.1 > 0 then r8.1 else 0)) then r12.1 else (if (i64.wrap (0 - r8.1)) > (if r8.1 > 0 then r8.1 else 0) then (i64.wrap (0 - r8.1)) else (if r8.1 > 0 then r8.1 else 0))) then (i64.wrap (0 - r12.1)) else (if r12.1 > (if (i64.wrap (0 - r8.1)) > (if r8.1 > 0 then r8.1 else 0) then (i64.wrap (0 - r8.1)) else (if r8.1 > 0 then r8.1 else 0)) then r12.1 else (if (i64.wrap (0 - r8.1)) > (if r8.1 > 0 then r8.1 else 0) then (i64.wrap (0 - r8.1)) else (if r8.1 > 0 then r8.1 else 0)))) then r14.1 else (if (i64.wrap (0 - r12.1)) > (if r12.1 > (if (i64.wrap (0 - r8.1)) > (if r8.1 > 0 then r8.1 else 0) then (i64.wrap (0 - r8.1)) else (if r8.1 > 0 then r8.1 else 0)) then r12.1 else (if (i64.wrap (0 - r8.1)) > (if r8.1 > 0 then r8.1 else 0) then (i64.wrap (0 - r8.1)) else (if r8.1 > 0 then r8.1 else 0))) then (i64.wrap (0 - r12.1)) else (if r12.1 > (if (i64.wrap (0 - r8.1)) > (if r8.1 > 0 then r8.1 else 0) then (i64.wrap (0 - r8.1)) else (if r8.1 > 0 then r8.1 else 0)) then r12.1 else (if (i64.wrap (0 - r8.1)) > (if r8.1 > 0 then r8.1 else 0) then (i64.wrap (0 - r8.1)) else (if r8.1 > 0 then r8.1 else 0)))))))), ())))))))))))))))))
def E (lf : Nat) : Entry := ⟨[yV], [(.int .i64)], fun x => f lf x.1⟩
theorem ok (lf : Nat) : Ok 48 (E lf) := okT (an := (annsL [])) (lf := lf) (tC (surveyorref01_Int.ok lf) tN) aoN fun x => by kernel_rfl
end surveyortop_trySize
end
end Go.Q
