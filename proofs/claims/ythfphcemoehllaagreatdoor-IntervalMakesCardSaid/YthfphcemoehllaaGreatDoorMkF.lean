import Derived.Test.YthfphcemoehllaaGreatDoorProg
import Derived.KernelRfl
import Derived.Test.YthfphcemoehllaaGreatDoorE3
import Derived.Test.YthfphcemoehllaaGreatDoorU10
import Derived.Test.YthfphcemoehllaaGreatDoorU11
import Derived.Test.YthfphcemoehllaaGreatDoorU12
import Derived.Test.YthfphcemoehllaaGreatDoorU4
import Derived.Test.YthfphcemoehllaaGreatDoorU9
set_option linter.unusedVariables false
set_option linter.unusedSimpArgs false
set_option linter.unusedSectionVars false
namespace Go.Q
open Go Go.RowKit
open Go.Rx (br bd sIdx sCat sCut iQuo iRem)
set_option linter.unusedVariables false
set_option linter.unusedSimpArgs false
set_option maxRecDepth 100000
noncomputable section
noncomputable def surveyorlaw21_IntervalMakes.f (lf : Nat) (a0 : (Bool × (ByteArray × (ByteArray × Unit)))) (a1 : (ByteArray × (ByteArray × Unit))) (a2 : ByteArray) : Option (Bool × Unit) :=
 bd (surveyorlaw21_span.f lf a1.1 a1.2.1) fun r1 =>
 bd (surveyorref21_Few.f lf a0 r1.1) fun r2 =>
 br (!r2.1) (
  bd (surveyorlaw21_awake.f lf) fun r3 =>
  some (r3.1, ())) (
  br (decide (((a2.size : Nat) : Int) > 450)) (
   bd (surveyorlaw21_awake.f lf) fun r4 =>
   some (r4.1, ())) (
   bd (interval_Make.f lf a1.1 a1.2.1) fun r5 =>
   bd (surveyorref21_Make.f lf a1.1 a1.2.1) fun r6 =>
   bd (interval_Holds.f lf a0 a2) fun r7 =>
   bd (surveyorref21_Holds.f lf a0 a2) fun r8 =>
   bd (interval_Check.f lf a0) fun r9 =>
   bd (surveyorref21_Check.f lf a0) fun r10 =>
   br (r9.1 == r10.1) (
    bd (some ((r5.1.1 == r6.1.1) && ((r5.1.2.1 == r6.1.2.1) && ((r5.1.2.2.1 == r6.1.2.2.1) && true)))) fun r11 =>
    br r11 (
     br (r5.2.1 == r6.2.1) (
      br (r7.1 == r8.1) (
       br (r7.2.1 == r8.2.1) (
        bd (interval_Top.f lf) fun r12 =>
        bd (some ((r12.1.1 == false) && ((r12.1.2.1 == (⟨#[]⟩ : ByteArray)) && ((r12.1.2.2.1 == (⟨#[]⟩ : ByteArray)) && true)))) fun r13 =>
        br r13 (
         bd (surveyorlaw21_awake.f lf) fun r14 =>
         some (r14.1, ())) (
         some (false, ()))) (
        some (false, ()))) (
       some (false, ()))) (
      some (false, ()))) (
     some (false, ()))) (
    some (false, ()))))
noncomputable def surveyorlaw21_IntervalMakes.E (lf : Nat) : Entry := ⟨[(.pair .bool (.pair .str (.pair .str .unit))), (.pair .str (.pair .str .unit)), .str], [.bool], fun x => surveyorlaw21_IntervalMakes.f lf x.1 x.2.1 x.2.2.1⟩
theorem surveyorlaw21_IntervalMakes.ev (lf : Nat) (x : Tys (surveyorlaw21_IntervalMakes.E lf).ps) : (surveyorlaw21_IntervalMakes.E lf).f x = runQ Proofs.Tryz.prog (fun _ => FA.none) noLs (lookT [(11, surveyorref21_Few.E lf), (12, surveyorlaw21_awake.E lf), (19, surveyorref21_Check.E lf), (31, interval_Holds.E lf), (39, surveyorlaw21_span.E lf), (40, interval_Make.E lf), (41, surveyorref21_Make.E lf), (42, surveyorref21_Holds.E lf), (43, interval_Check.E lf), (44, interval_Top.E lf)]) (lf + 40) 14 6 9 (surveyorlaw21_IntervalMakes.E lf).ps (surveyorlaw21_IntervalMakes.E lf).rs x := by kernel_rfl
theorem surveyorlaw21_IntervalMakes.ok (lf : Nat) : EntryOK Proofs.Tryz.prog TabG 9 (surveyorlaw21_IntervalMakes.E lf) := entryT (lookT_cons (surveyorref21_Few.ok lf) (lookT_cons (surveyorlaw21_awake.ok lf) (lookT_cons (surveyorref21_Check.ok lf) (lookT_cons (interval_Holds.ok lf) (lookT_cons (surveyorlaw21_span.ok lf) (lookT_cons (interval_Make.ok lf) (lookT_cons (surveyorref21_Make.ok lf) (lookT_cons (surveyorref21_Holds.ok lf) (lookT_cons (interval_Check.ok lf) (lookT_cons (interval_Top.ok lf) lookT_nil)))))))))) (annsOK_none fun _ => rfl) (surveyorlaw21_IntervalMakes.ev lf)
end
end Go.Q
