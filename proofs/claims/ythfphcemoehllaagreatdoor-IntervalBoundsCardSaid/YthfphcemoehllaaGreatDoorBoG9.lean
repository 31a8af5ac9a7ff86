import Derived.Test.YthfphcemoehllaaGreatDoorProg
import Derived.KernelRfl
import Derived.Test.YthfphcemoehllaaGreatDoorBoG5
import Derived.Test.YthfphcemoehllaaGreatDoorE3
set_option linter.unusedVariables false
set_option linter.unusedSimpArgs false
set_option linter.unusedSectionVars false
namespace Go.Q
open Go Go.RowKit
open Go.Rx (br bd sIdx sCat sCut iQuo iRem)
set_option linter.unusedVariables false
set_option linter.unusedSimpArgs false
set_option maxRecDepth 100000
noncomputable section
noncomputable def surveyorref21_bound.f (lf : Nat) (a0 : ByteArray) : Option (Int × Unit) :=
 br (a0.toList == (⟨#[]⟩ : ByteArray).toList) (
  some (0, ())) (
  bd (surveyorref06_Number.f lf a0) fun r1 =>
  some (r1.1, ()))
noncomputable def surveyorref21_bound.E (lf : Nat) : Entry := ⟨[.str], [(.int .i64)], fun x => surveyorref21_bound.f lf x.1⟩
theorem surveyorref21_bound.ev (lf : Nat) (x : Tys (surveyorref21_bound.E lf).ps) : (surveyorref21_bound.E lf).f x = runQ Proofs.Tryz.prog (fun _ => FA.none) noLs (lookT [(69, surveyorref06_Number.E lf)]) (lf + 40) 14 6 67 (surveyorref21_bound.E lf).ps (surveyorref21_bound.E lf).rs x := by kernel_rfl
theorem surveyorref21_bound.ok (lf : Nat) : EntryOK Proofs.Tryz.prog TabG 67 (surveyorref21_bound.E lf) := entryT (lookT_cons (surveyorref06_Number.ok lf) lookT_nil) (annsOK_none fun _ => rfl) (surveyorref21_bound.ev lf)
noncomputable def surveyorref21_Check.f (lf : Nat) (a0 : (Bool × (ByteArray × (ByteArray × Unit)))) : Option (Int × Unit) :=
 br a0.1 (
  br (!(a0.2.1.toList == (⟨#[]⟩ : ByteArray).toList)) (
   some (3, ())) (
   br (!(a0.2.2.1.toList == (⟨#[]⟩ : ByteArray).toList)) (
    some (3, ())) (
    bd (surveyorref21_bound.f lf a0.2.1) fun r1 =>
    br (r1.1 != 0) (
     some (r1.1, ())) (
     bd (surveyorref21_bound.f lf a0.2.2.1) fun r2 =>
     br (r2.1 != 0) (
      some (r2.1, ())) (
      br (!(a0.2.1.toList == (⟨#[]⟩ : ByteArray).toList)) (
       br (!(a0.2.2.1.toList == (⟨#[]⟩ : ByteArray).toList)) (
        bd (surveyorref01_Less.f lf a0.2.2.1 a0.2.1) fun r3 =>
        br r3.1 (
         some (14, ())) (
         some (0, ()))) (
        some (0, ()))) (
       some (0, ()))))))) (
  bd (surveyorref21_bound.f lf a0.2.1) fun r4 =>
  br (r4.1 != 0) (
   some (r4.1, ())) (
   bd (surveyorref21_bound.f lf a0.2.2.1) fun r5 =>
   br (r5.1 != 0) (
    some (r5.1, ())) (
    br (!(a0.2.1.toList == (⟨#[]⟩ : ByteArray).toList)) (
     br (!(a0.2.2.1.toList == (⟨#[]⟩ : ByteArray).toList)) (
      bd (surveyorref01_Less.f lf a0.2.2.1 a0.2.1) fun r6 =>
      br r6.1 (
       some (14, ())) (
       some (0, ()))) (
      some (0, ()))) (
     some (0, ())))))
noncomputable def surveyorref21_Check.E (lf : Nat) : Entry := ⟨[(.pair .bool (.pair .str (.pair .str .unit)))], [(.int .i64)], fun x => surveyorref21_Check.f lf x.1⟩
theorem surveyorref21_Check.ev (lf : Nat) (x : Tys (surveyorref21_Check.E lf).ps) : (surveyorref21_Check.E lf).f x = runQ Proofs.Tryz.prog (fun _ => FA.none) noLs (lookT [(67, surveyorref21_bound.E lf), (68, surveyorref01_Less.E lf)]) (lf + 40) 14 6 19 (surveyorref21_Check.E lf).ps (surveyorref21_Check.E lf).rs x := by kernel_rfl
theorem surveyorref21_Check.ok (lf : Nat) : EntryOK Proofs.Tryz.prog TabG 19 (surveyorref21_Check.E lf) := entryT (lookT_cons (surveyorref21_bound.ok lf) (lookT_cons (surveyorref01_Less.ok lf) lookT_nil)) (annsOK_none fun _ => rfl) (surveyorref21_Check.ev lf)
end
end Go.Q
