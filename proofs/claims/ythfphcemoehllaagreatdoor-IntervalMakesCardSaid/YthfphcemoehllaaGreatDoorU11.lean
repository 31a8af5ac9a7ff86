import Derived.Test.YthfphcemoehllaaGreatDoorProg
import Derived.KernelRfl
import Derived.Test.YthfphcemoehllaaGreatDoorE3
import Derived.Test.YthfphcemoehllaaGreatDoorU10
import Derived.Test.YthfphcemoehllaaGreatDoorU5
set_option linter.unusedVariables false
set_option linter.unusedSimpArgs false
set_option linter.unusedSectionVars false
namespace Go.Q
open Go Go.RowKit
open Go.Rx (br bd sIdx sCat sCut iQuo iRem)
set_option linter.unusedVariables false
set_option linter.unusedSimpArgs false
set_option maxRecDepth 100000
noncomputable section
noncomputable def surveyorref21_Narrow.f (lf : Nat) (a0 : (Bool × (ByteArray × (ByteArray × Unit)))) (a1 : (Bool × (ByteArray × (ByteArray × Unit)))) : Option ((Bool × (ByteArray × (ByteArray × Unit))) × Int × Unit) :=
 bd (surveyorref21_both.f lf a0 a1) fun r1 =>
 br (r1.1 != 0) (
  some ((false, (⟨#[]⟩ : ByteArray), (⟨#[]⟩ : ByteArray), ()), r1.1, ())) (
  bd (surveyorref21_Narrowed.f lf a0 a1) fun r2 =>
  some (r2.1, 0, ()))
noncomputable def surveyorref21_Narrow.E (lf : Nat) : Entry := ⟨[(.pair .bool (.pair .str (.pair .str .unit))), (.pair .bool (.pair .str (.pair .str .unit)))], [(.pair .bool (.pair .str (.pair .str .unit))), (.int .i64)], fun x => surveyorref21_Narrow.f lf x.1 x.2.1⟩
theorem surveyorref21_Narrow.ev (lf : Nat) (x : Tys (surveyorref21_Narrow.E lf).ps) : (surveyorref21_Narrow.E lf).f x = runQ Proofs.Tryz.prog (fun _ => FA.none) noLs (lookT [(60, surveyorref21_both.E lf), (65, surveyorref21_Narrowed.E lf)]) (lf + 40) 14 6 16 (surveyorref21_Narrow.E lf).ps (surveyorref21_Narrow.E lf).rs x := by kernel_rfl
theorem surveyorref21_Narrow.ok (lf : Nat) : EntryOK Proofs.Tryz.prog TabG 16 (surveyorref21_Narrow.E lf) := entryT (lookT_cons (surveyorref21_both.ok lf) (lookT_cons (surveyorref21_Narrowed.ok lf) lookT_nil)) (annsOK_none fun _ => rfl) (surveyorref21_Narrow.ev lf)
noncomputable def surveyorref21_Text.f (lf : Nat) (a0 : (Bool × (ByteArray × (ByteArray × Unit)))) : Option (ByteArray × Unit) :=
 br a0.1 (
  some ((⟨#[101, 109, 112, 116, 121]⟩ : ByteArray), ())) (
  br (a0.2.1.toList == (⟨#[]⟩ : ByteArray).toList) (
   br (a0.2.2.1.toList == (⟨#[]⟩ : ByteArray).toList) (
    bd (sCat (⟨#[91]⟩ : ByteArray) (⟨#[45, 105, 110, 102]⟩ : ByteArray)) fun r1 =>
    bd (sCat r1 (⟨#[44, 32]⟩ : ByteArray)) fun r2 =>
    bd (sCat r2 (⟨#[43, 105, 110, 102]⟩ : ByteArray)) fun r3 =>
    bd (sCat r3 (⟨#[93]⟩ : ByteArray)) fun r4 =>
    some (r4, ())) (
    bd (sCat (⟨#[91]⟩ : ByteArray) (⟨#[45, 105, 110, 102]⟩ : ByteArray)) fun r5 =>
    bd (sCat r5 (⟨#[44, 32]⟩ : ByteArray)) fun r6 =>
    bd (sCat r6 a0.2.2.1) fun r7 =>
    bd (sCat r7 (⟨#[93]⟩ : ByteArray)) fun r8 =>
    some (r8, ()))) (
   br (a0.2.2.1.toList == (⟨#[]⟩ : ByteArray).toList) (
    bd (sCat (⟨#[91]⟩ : ByteArray) a0.2.1) fun r9 =>
    bd (sCat r9 (⟨#[44, 32]⟩ : ByteArray)) fun r10 =>
    bd (sCat r10 (⟨#[43, 105, 110, 102]⟩ : ByteArray)) fun r11 =>
    bd (sCat r11 (⟨#[93]⟩ : ByteArray)) fun r12 =>
    some (r12, ())) (
    bd (sCat (⟨#[91]⟩ : ByteArray) a0.2.1) fun r13 =>
    bd (sCat r13 (⟨#[44, 32]⟩ : ByteArray)) fun r14 =>
    bd (sCat r14 a0.2.2.1) fun r15 =>
    bd (sCat r15 (⟨#[93]⟩ : ByteArray)) fun r16 =>
    some (r16, ()))))
noncomputable def surveyorref21_Text.E (lf : Nat) : Entry := ⟨[(.pair .bool (.pair .str (.pair .str .unit)))], [.str], fun x => surveyorref21_Text.f lf x.1⟩
theorem surveyorref21_Text.ev (lf : Nat) (x : Tys (surveyorref21_Text.E lf).ps) : (surveyorref21_Text.E lf).f x = runQ Proofs.Tryz.prog (fun _ => FA.none) noLs (lookT []) (lf + 40) 14 6 66 (surveyorref21_Text.E lf).ps (surveyorref21_Text.E lf).rs x := by kernel_rfl
theorem surveyorref21_Text.ok (lf : Nat) : EntryOK Proofs.Tryz.prog TabG 66 (surveyorref21_Text.E lf) := entryT lookT_nil (annsOK_none fun _ => rfl) (surveyorref21_Text.ev lf)
noncomputable def surveyorref21_Format.f (lf : Nat) (a0 : (Bool × (ByteArray × (ByteArray × Unit)))) : Option (ByteArray × Int × Unit) :=
 bd (surveyorref21_Check.f lf a0) fun r1 =>
 br (r1.1 != 0) (
  some ((⟨#[]⟩ : ByteArray), r1.1, ())) (
  bd (surveyorref21_Text.f lf a0) fun r2 =>
  some (r2.1, 0, ()))
noncomputable def surveyorref21_Format.E (lf : Nat) : Entry := ⟨[(.pair .bool (.pair .str (.pair .str .unit)))], [.str, (.int .i64)], fun x => surveyorref21_Format.f lf x.1⟩
theorem surveyorref21_Format.ev (lf : Nat) (x : Tys (surveyorref21_Format.E lf).ps) : (surveyorref21_Format.E lf).f x = runQ Proofs.Tryz.prog (fun _ => FA.none) noLs (lookT [(19, surveyorref21_Check.E lf), (66, surveyorref21_Text.E lf)]) (lf + 40) 14 6 18 (surveyorref21_Format.E lf).ps (surveyorref21_Format.E lf).rs x := by kernel_rfl
theorem surveyorref21_Format.ok (lf : Nat) : EntryOK Proofs.Tryz.prog TabG 18 (surveyorref21_Format.E lf) := entryT (lookT_cons (surveyorref21_Check.ok lf) (lookT_cons (surveyorref21_Text.ok lf) lookT_nil)) (annsOK_none fun _ => rfl) (surveyorref21_Format.ev lf)
noncomputable def surveyorref21_In.f (lf : Nat) (a0 : (Bool × (ByteArray × (ByteArray × Unit)))) (a1 : ByteArray) : Option (Bool × Unit) :=
 br (!a0.1) (
  br (a0.2.1.toList == (⟨#[]⟩ : ByteArray).toList) (
   br (a0.2.2.1.toList == (⟨#[]⟩ : ByteArray).toList) (
    some (true, ())) (
    bd (surveyorref01_Less.f lf a0.2.2.1 a1) fun r1 =>
    some ((!r1.1), ()))) (
   bd (surveyorref01_Less.f lf a1 a0.2.1) fun r2 =>
   br (!r2.1) (
    br (a0.2.2.1.toList == (⟨#[]⟩ : ByteArray).toList) (
     some (true, ())) (
     bd (surveyorref01_Less.f lf a0.2.2.1 a1) fun r3 =>
     some ((!r3.1), ()))) (
    some (false, ())))) (
  some (false, ()))
noncomputable def surveyorref21_In.E (lf : Nat) : Entry := ⟨[(.pair .bool (.pair .str (.pair .str .unit))), .str], [.bool], fun x => surveyorref21_In.f lf x.1 x.2.1⟩
theorem surveyorref21_In.ev (lf : Nat) (x : Tys (surveyorref21_In.E lf).ps) : (surveyorref21_In.E lf).f x = runQ Proofs.Tryz.prog (fun _ => FA.none) noLs (lookT [(68, surveyorref01_Less.E lf)]) (lf + 40) 14 6 28 (surveyorref21_In.E lf).ps (surveyorref21_In.E lf).rs x := by kernel_rfl
theorem surveyorref21_In.ok (lf : Nat) : EntryOK Proofs.Tryz.prog TabG 28 (surveyorref21_In.E lf) := entryT (lookT_cons (surveyorref01_Less.ok lf) lookT_nil) (annsOK_none fun _ => rfl) (surveyorref21_In.ev lf)
noncomputable def surveyorref21_Inside.f (lf : Nat) (a0 : (Bool × (ByteArray × (ByteArray × Unit)))) (a1 : (Bool × (ByteArray × (ByteArray × Unit)))) : Option (Bool × Unit) :=
 br a0.1 (
  some (a0.1, ())) (
  br a1.1 (
   some (a0.1, ())) (
   br (a1.2.1.toList == (⟨#[]⟩ : ByteArray).toList) (
    br (a1.2.2.1.toList == (⟨#[]⟩ : ByteArray).toList) (
     some (true, ())) (
     br (!(a0.2.2.1.toList == (⟨#[]⟩ : ByteArray).toList)) (
      bd (surveyorref01_Less.f lf a1.2.2.1 a0.2.2.1) fun r1 =>
      some ((!r1.1), ())) (
      some (false, ())))) (
    br (!(a0.2.1.toList == (⟨#[]⟩ : ByteArray).toList)) (
     bd (surveyorref01_Less.f lf a0.2.1 a1.2.1) fun r2 =>
     br (a1.2.2.1.toList == (⟨#[]⟩ : ByteArray).toList) (
      br (!r2.1) (
       some (true, ())) (
       some (false, ()))) (
      br (!(a0.2.2.1.toList == (⟨#[]⟩ : ByteArray).toList)) (
       bd (surveyorref01_Less.f lf a1.2.2.1 a0.2.2.1) fun r3 =>
       br (!r2.1) (
        some ((!r3.1), ())) (
        some (false, ()))) (
       br (!r2.1) (
        some (false, ())) (
        some (false, ()))))) (
     br (a1.2.2.1.toList == (⟨#[]⟩ : ByteArray).toList) (
      some (false, ())) (
      br (!(a0.2.2.1.toList == (⟨#[]⟩ : ByteArray).toList)) (
       bd (surveyorref01_Less.f lf a1.2.2.1 a0.2.2.1) fun r4 =>
       some (false, ())) (
       some (false, ())))))))
noncomputable def surveyorref21_Inside.E (lf : Nat) : Entry := ⟨[(.pair .bool (.pair .str (.pair .str .unit))), (.pair .bool (.pair .str (.pair .str .unit)))], [.bool], fun x => surveyorref21_Inside.f lf x.1 x.2.1⟩
theorem surveyorref21_Inside.ev (lf : Nat) (x : Tys (surveyorref21_Inside.E lf).ps) : (surveyorref21_Inside.E lf).f x = runQ Proofs.Tryz.prog (fun _ => FA.none) noLs (lookT [(68, surveyorref01_Less.E lf)]) (lf + 40) 14 6 78 (surveyorref21_Inside.E lf).ps (surveyorref21_Inside.E lf).rs x := by kernel_rfl
theorem surveyorref21_Inside.ok (lf : Nat) : EntryOK Proofs.Tryz.prog TabG 78 (surveyorref21_Inside.E lf) := entryT (lookT_cons (surveyorref01_Less.ok lf) lookT_nil) (annsOK_none fun _ => rfl) (surveyorref21_Inside.ev lf)
noncomputable def surveyorref21_Leq.f (lf : Nat) (a0 : (Bool × (ByteArray × (ByteArray × Unit)))) (a1 : (Bool × (ByteArray × (ByteArray × Unit)))) : Option (Bool × Int × Unit) :=
 bd (surveyorref21_both.f lf a0 a1) fun r1 =>
 br (r1.1 != 0) (
  some (false, r1.1, ())) (
  bd (surveyorref21_Inside.f lf a0 a1) fun r2 =>
  some (r2.1, 0, ()))
noncomputable def surveyorref21_Leq.E (lf : Nat) : Entry := ⟨[(.pair .bool (.pair .str (.pair .str .unit))), (.pair .bool (.pair .str (.pair .str .unit)))], [.bool, (.int .i64)], fun x => surveyorref21_Leq.f lf x.1 x.2.1⟩
theorem surveyorref21_Leq.ev (lf : Nat) (x : Tys (surveyorref21_Leq.E lf).ps) : (surveyorref21_Leq.E lf).f x = runQ Proofs.Tryz.prog (fun _ => FA.none) noLs (lookT [(60, surveyorref21_both.E lf), (78, surveyorref21_Inside.E lf)]) (lf + 40) 14 6 32 (surveyorref21_Leq.E lf).ps (surveyorref21_Leq.E lf).rs x := by kernel_rfl
theorem surveyorref21_Leq.ok (lf : Nat) : EntryOK Proofs.Tryz.prog TabG 32 (surveyorref21_Leq.E lf) := entryT (lookT_cons (surveyorref21_both.ok lf) (lookT_cons (surveyorref21_Inside.ok lf) lookT_nil)) (annsOK_none fun _ => rfl) (surveyorref21_Leq.ev lf)
noncomputable def surveyorref21_Join.f (lf : Nat) (a0 : (Bool × (ByteArray × (ByteArray × Unit)))) (a1 : (Bool × (ByteArray × (ByteArray × Unit)))) : Option ((Bool × (ByteArray × (ByteArray × Unit))) × Int × Unit) :=
 bd (surveyorref21_both.f lf a0 a1) fun r1 =>
 br (r1.1 != 0) (
  some ((false, (⟨#[]⟩ : ByteArray), (⟨#[]⟩ : ByteArray), ()), r1.1, ())) (
  bd (surveyorref21_Joined.f lf a0 a1) fun r2 =>
  some (r2.1, 0, ()))
noncomputable def surveyorref21_Join.E (lf : Nat) : Entry := ⟨[(.pair .bool (.pair .str (.pair .str .unit))), (.pair .bool (.pair .str (.pair .str .unit)))], [(.pair .bool (.pair .str (.pair .str .unit))), (.int .i64)], fun x => surveyorref21_Join.f lf x.1 x.2.1⟩
theorem surveyorref21_Join.ev (lf : Nat) (x : Tys (surveyorref21_Join.E lf).ps) : (surveyorref21_Join.E lf).f x = runQ Proofs.Tryz.prog (fun _ => FA.none) noLs (lookT [(60, surveyorref21_both.E lf), (79, surveyorref21_Joined.E lf)]) (lf + 40) 14 6 33 (surveyorref21_Join.E lf).ps (surveyorref21_Join.E lf).rs x := by kernel_rfl
theorem surveyorref21_Join.ok (lf : Nat) : EntryOK Proofs.Tryz.prog TabG 33 (surveyorref21_Join.E lf) := entryT (lookT_cons (surveyorref21_both.ok lf) (lookT_cons (surveyorref21_Joined.ok lf) lookT_nil)) (annsOK_none fun _ => rfl) (surveyorref21_Join.ev lf)
noncomputable def surveyorref21_lower.f (lf : Nat) (a0 : ByteArray) (a1 : ByteArray) : Option (ByteArray × Unit) :=
 br (a0.toList == (⟨#[]⟩ : ByteArray).toList) (
  some (a1, ())) (
  br (a1.toList == (⟨#[]⟩ : ByteArray).toList) (
   some (a0, ())) (
   bd (surveyorref21_greatest.f lf a0 a1) fun r1 =>
   some (r1.1, ())))
noncomputable def surveyorref21_lower.E (lf : Nat) : Entry := ⟨[.str, .str], [.str], fun x => surveyorref21_lower.f lf x.1 x.2.1⟩
theorem surveyorref21_lower.ev (lf : Nat) (x : Tys (surveyorref21_lower.E lf).ps) : (surveyorref21_lower.E lf).f x = runQ Proofs.Tryz.prog (fun _ => FA.none) noLs (lookT [(122, surveyorref21_greatest.E lf)]) (lf + 40) 14 6 123 (surveyorref21_lower.E lf).ps (surveyorref21_lower.E lf).rs x := by kernel_rfl
theorem surveyorref21_lower.ok (lf : Nat) : EntryOK Proofs.Tryz.prog TabG 123 (surveyorref21_lower.E lf) := entryT (lookT_cons (surveyorref21_greatest.ok lf) lookT_nil) (annsOK_none fun _ => rfl) (surveyorref21_lower.ev lf)
noncomputable def surveyorref21_upper.f (lf : Nat) (a0 : ByteArray) (a1 : ByteArray) : Option (ByteArray × Unit) :=
 br (a0.toList == (⟨#[]⟩ : ByteArray).toList) (
  some (a1, ())) (
  br (a1.toList == (⟨#[]⟩ : ByteArray).toList) (
   some (a0, ())) (
   bd (surveyorref21_least.f lf a0 a1) fun r1 =>
   some (r1.1, ())))
noncomputable def surveyorref21_upper.E (lf : Nat) : Entry := ⟨[.str, .str], [.str], fun x => surveyorref21_upper.f lf x.1 x.2.1⟩
theorem surveyorref21_upper.ev (lf : Nat) (x : Tys (surveyorref21_upper.E lf).ps) : (surveyorref21_upper.E lf).f x = runQ Proofs.Tryz.prog (fun _ => FA.none) noLs (lookT [(121, surveyorref21_least.E lf)]) (lf + 40) 14 6 124 (surveyorref21_upper.E lf).ps (surveyorref21_upper.E lf).rs x := by kernel_rfl
theorem surveyorref21_upper.ok (lf : Nat) : EntryOK Proofs.Tryz.prog TabG 124 (surveyorref21_upper.E lf) := entryT (lookT_cons (surveyorref21_least.ok lf) lookT_nil) (annsOK_none fun _ => rfl) (surveyorref21_upper.ev lf)
noncomputable def surveyorref21_Met.f (lf : Nat) (a0 : (Bool × (ByteArray × (ByteArray × Unit)))) (a1 : (Bool × (ByteArray × (ByteArray × Unit)))) : Option ((Bool × (ByteArray × (ByteArray × Unit))) × Unit) :=
 br a0.1 (
  bd (surveyorref21_None.f lf) fun r1 =>
  some (r1.1, ())) (
  br a1.1 (
   bd (surveyorref21_None.f lf) fun r2 =>
   some (r2.1, ())) (
   bd (surveyorref21_lower.f lf a0.2.1 a1.2.1) fun r3 =>
   bd (surveyorref21_upper.f lf a0.2.2.1 a1.2.2.1) fun r4 =>
   bd (surveyorref21_Range.f lf r3.1 r4.1) fun r5 =>
   some (r5.1, ())))
noncomputable def surveyorref21_Met.E (lf : Nat) : Entry := ⟨[(.pair .bool (.pair .str (.pair .str .unit))), (.pair .bool (.pair .str (.pair .str .unit)))], [(.pair .bool (.pair .str (.pair .str .unit)))], fun x => surveyorref21_Met.f lf x.1 x.2.1⟩
theorem surveyorref21_Met.ev (lf : Nat) (x : Tys (surveyorref21_Met.E lf).ps) : (surveyorref21_Met.E lf).f x = runQ Proofs.Tryz.prog (fun _ => FA.none) noLs (lookT [(86, surveyorref21_Range.E lf), (107, surveyorref21_None.E lf), (123, surveyorref21_lower.E lf), (124, surveyorref21_upper.E lf)]) (lf + 40) 14 6 80 (surveyorref21_Met.E lf).ps (surveyorref21_Met.E lf).rs x := by kernel_rfl
theorem surveyorref21_Met.ok (lf : Nat) : EntryOK Proofs.Tryz.prog TabG 80 (surveyorref21_Met.E lf) := entryT (lookT_cons (surveyorref21_Range.ok lf) (lookT_cons (surveyorref21_None.ok lf) (lookT_cons (surveyorref21_lower.ok lf) (lookT_cons (surveyorref21_upper.ok lf) lookT_nil)))) (annsOK_none fun _ => rfl) (surveyorref21_Met.ev lf)
noncomputable def surveyorref21_Meet.f (lf : Nat) (a0 : (Bool × (ByteArray × (ByteArray × Unit)))) (a1 : (Bool × (ByteArray × (ByteArray × Unit)))) : Option ((Bool × (ByteArray × (ByteArray × Unit))) × Int × Unit) :=
 bd (surveyorref21_both.f lf a0 a1) fun r1 =>
 br (r1.1 != 0) (
  some ((false, (⟨#[]⟩ : ByteArray), (⟨#[]⟩ : ByteArray), ()), r1.1, ())) (
  bd (surveyorref21_Met.f lf a0 a1) fun r2 =>
  some (r2.1, 0, ()))
noncomputable def surveyorref21_Meet.E (lf : Nat) : Entry := ⟨[(.pair .bool (.pair .str (.pair .str .unit))), (.pair .bool (.pair .str (.pair .str .unit)))], [(.pair .bool (.pair .str (.pair .str .unit))), (.int .i64)], fun x => surveyorref21_Meet.f lf x.1 x.2.1⟩
theorem surveyorref21_Meet.ev (lf : Nat) (x : Tys (surveyorref21_Meet.E lf).ps) : (surveyorref21_Meet.E lf).f x = runQ Proofs.Tryz.prog (fun _ => FA.none) noLs (lookT [(60, surveyorref21_both.E lf), (80, surveyorref21_Met.E lf)]) (lf + 40) 14 6 34 (surveyorref21_Meet.E lf).ps (surveyorref21_Meet.E lf).rs x := by kernel_rfl
theorem surveyorref21_Meet.ok (lf : Nat) : EntryOK Proofs.Tryz.prog TabG 34 (surveyorref21_Meet.E lf) := entryT (lookT_cons (surveyorref21_both.ok lf) (lookT_cons (surveyorref21_Met.ok lf) lookT_nil)) (annsOK_none fun _ => rfl) (surveyorref21_Meet.ev lf)
noncomputable def surveyorref21_negated.f (lf : Nat) (a0 : ByteArray) : Option (ByteArray × Unit) :=
 br (a0.toList == (⟨#[]⟩ : ByteArray).toList) (
  some ((⟨#[]⟩ : ByteArray), ())) (
  bd (surveyorref01_Negated.f lf a0) fun r1 =>
  some (r1.1, ()))
noncomputable def surveyorref21_negated.E (lf : Nat) : Entry := ⟨[.str], [.str], fun x => surveyorref21_negated.f lf x.1⟩
theorem surveyorref21_negated.ev (lf : Nat) (x : Tys (surveyorref21_negated.E lf).ps) : (surveyorref21_negated.E lf).f x = runQ Proofs.Tryz.prog (fun _ => FA.none) noLs (lookT [(161, surveyorref01_Negated.E lf)]) (lf + 40) 14 6 126 (surveyorref21_negated.E lf).ps (surveyorref21_negated.E lf).rs x := by kernel_rfl
theorem surveyorref21_negated.ok (lf : Nat) : EntryOK Proofs.Tryz.prog TabG 126 (surveyorref21_negated.E lf) := entryT (lookT_cons (surveyorref01_Negated.ok lf) lookT_nil) (annsOK_none fun _ => rfl) (surveyorref21_negated.ev lf)
noncomputable def surveyorref21_Turned.f (lf : Nat) (a0 : (Bool × (ByteArray × (ByteArray × Unit)))) : Option ((Bool × (ByteArray × (ByteArray × Unit))) × Unit) :=
 br a0.1 (
  some (a0, ())) (
  bd (surveyorref21_negated.f lf a0.2.2.1) fun r1 =>
  bd (surveyorref21_negated.f lf a0.2.1) fun r2 =>
  bd (surveyorref21_Range.f lf r1.1 r2.1) fun r3 =>
  some (r3.1, ()))
noncomputable def surveyorref21_Turned.E (lf : Nat) : Entry := ⟨[(.pair .bool (.pair .str (.pair .str .unit)))], [(.pair .bool (.pair .str (.pair .str .unit)))], fun x => surveyorref21_Turned.f lf x.1⟩
theorem surveyorref21_Turned.ev (lf : Nat) (x : Tys (surveyorref21_Turned.E lf).ps) : (surveyorref21_Turned.E lf).f x = runQ Proofs.Tryz.prog (fun _ => FA.none) noLs (lookT [(86, surveyorref21_Range.E lf), (126, surveyorref21_negated.E lf)]) (lf + 40) 14 6 82 (surveyorref21_Turned.E lf).ps (surveyorref21_Turned.E lf).rs x := by kernel_rfl
theorem surveyorref21_Turned.ok (lf : Nat) : EntryOK Proofs.Tryz.prog TabG 82 (surveyorref21_Turned.E lf) := entryT (lookT_cons (surveyorref21_Range.ok lf) (lookT_cons (surveyorref21_negated.ok lf) lookT_nil)) (annsOK_none fun _ => rfl) (surveyorref21_Turned.ev lf)
noncomputable def surveyorref21_Neg.f (lf : Nat) (a0 : (Bool × (ByteArray × (ByteArray × Unit)))) : Option ((Bool × (ByteArray × (ByteArray × Unit))) × Int × Unit) :=
 bd (surveyorref21_Check.f lf a0) fun r1 =>
 br (r1.1 != 0) (
  some ((false, (⟨#[]⟩ : ByteArray), (⟨#[]⟩ : ByteArray), ()), r1.1, ())) (
  bd (surveyorref21_Turned.f lf a0) fun r2 =>
  some (r2.1, 0, ()))
noncomputable def surveyorref21_Neg.E (lf : Nat) : Entry := ⟨[(.pair .bool (.pair .str (.pair .str .unit)))], [(.pair .bool (.pair .str (.pair .str .unit))), (.int .i64)], fun x => surveyorref21_Neg.f lf x.1⟩
theorem surveyorref21_Neg.ev (lf : Nat) (x : Tys (surveyorref21_Neg.E lf).ps) : (surveyorref21_Neg.E lf).f x = runQ Proofs.Tryz.prog (fun _ => FA.none) noLs (lookT [(19, surveyorref21_Check.E lf), (82, surveyorref21_Turned.E lf)]) (lf + 40) 14 6 36 (surveyorref21_Neg.E lf).ps (surveyorref21_Neg.E lf).rs x := by kernel_rfl
theorem surveyorref21_Neg.ok (lf : Nat) : EntryOK Proofs.Tryz.prog TabG 36 (surveyorref21_Neg.E lf) := entryT (lookT_cons (surveyorref21_Check.ok lf) (lookT_cons (surveyorref21_Turned.ok lf) lookT_nil)) (annsOK_none fun _ => rfl) (surveyorref21_Neg.ev lf)
noncomputable def surveyorref21_Make.f (lf : Nat) (a0 : ByteArray) (a1 : ByteArray) : Option ((Bool × (ByteArray × (ByteArray × Unit))) × Int × Unit) :=
 br (!(a0.toList == (⟨#[]⟩ : ByteArray).toList)) (
  bd (surveyorref01_Check.f lf a0) fun r1 =>
  br (r1.1 != 0) (
   some ((false, (⟨#[]⟩ : ByteArray), (⟨#[]⟩ : ByteArray), ()), r1.1, ())) (
   br (!(a1.toList == (⟨#[]⟩ : ByteArray).toList)) (
    bd (surveyorref01_Check.f lf a1) fun r2 =>
    br (r2.1 != 0) (
     some ((false, (⟨#[]⟩ : ByteArray), (⟨#[]⟩ : ByteArray), ()), r2.1, ())) (
     bd (surveyorref21_Range.f lf a0 a1) fun r3 =>
     some (r3.1, 0, ()))) (
    bd (surveyorref21_Range.f lf a0 a1) fun r4 =>
    some (r4.1, 0, ())))) (
  br (!(a1.toList == (⟨#[]⟩ : ByteArray).toList)) (
   bd (surveyorref01_Check.f lf a1) fun r5 =>
   br (r5.1 != 0) (
    some ((false, (⟨#[]⟩ : ByteArray), (⟨#[]⟩ : ByteArray), ()), r5.1, ())) (
    bd (surveyorref21_Range.f lf a0 a1) fun r6 =>
    some (r6.1, 0, ()))) (
   bd (surveyorref21_Range.f lf a0 a1) fun r7 =>
   some (r7.1, 0, ())))
noncomputable def surveyorref21_Make.E (lf : Nat) : Entry := ⟨[.str, .str], [(.pair .bool (.pair .str (.pair .str .unit))), (.int .i64)], fun x => surveyorref21_Make.f lf x.1 x.2.1⟩
theorem surveyorref21_Make.ev (lf : Nat) (x : Tys (surveyorref21_Make.E lf).ps) : (surveyorref21_Make.E lf).f x = runQ Proofs.Tryz.prog (fun _ => FA.none) noLs (lookT [(27, surveyorref01_Check.E lf), (86, surveyorref21_Range.E lf)]) (lf + 40) 14 6 41 (surveyorref21_Make.E lf).ps (surveyorref21_Make.E lf).rs x := by kernel_rfl
theorem surveyorref21_Make.ok (lf : Nat) : EntryOK Proofs.Tryz.prog TabG 41 (surveyorref21_Make.E lf) := entryT (lookT_cons (surveyorref01_Check.ok lf) (lookT_cons (surveyorref21_Range.ok lf) lookT_nil)) (annsOK_none fun _ => rfl) (surveyorref21_Make.ev lf)
noncomputable def surveyorref21_Holds.f (lf : Nat) (a0 : (Bool × (ByteArray × (ByteArray × Unit)))) (a1 : ByteArray) : Option (Bool × Int × Unit) :=
 bd (surveyorref21_Check.f lf a0) fun r1 =>
 br (r1.1 != 0) (
  some (false, r1.1, ())) (
  bd (surveyorref01_Check.f lf a1) fun r2 =>
  br (r2.1 != 0) (
   some (false, r2.1, ())) (
   bd (surveyorref21_In.f lf a0 a1) fun r3 =>
   some (r3.1, 0, ())))
noncomputable def surveyorref21_Holds.E (lf : Nat) : Entry := ⟨[(.pair .bool (.pair .str (.pair .str .unit))), .str], [.bool, (.int .i64)], fun x => surveyorref21_Holds.f lf x.1 x.2.1⟩
theorem surveyorref21_Holds.ev (lf : Nat) (x : Tys (surveyorref21_Holds.E lf).ps) : (surveyorref21_Holds.E lf).f x = runQ Proofs.Tryz.prog (fun _ => FA.none) noLs (lookT [(19, surveyorref21_Check.E lf), (27, surveyorref01_Check.E lf), (28, surveyorref21_In.E lf)]) (lf + 40) 14 6 42 (surveyorref21_Holds.E lf).ps (surveyorref21_Holds.E lf).rs x := by kernel_rfl
theorem surveyorref21_Holds.ok (lf : Nat) : EntryOK Proofs.Tryz.prog TabG 42 (surveyorref21_Holds.E lf) := entryT (lookT_cons (surveyorref21_Check.ok lf) (lookT_cons (surveyorref01_Check.ok lf) (lookT_cons (surveyorref21_In.ok lf) lookT_nil))) (annsOK_none fun _ => rfl) (surveyorref21_Holds.ev lf)
end
end Go.Q
