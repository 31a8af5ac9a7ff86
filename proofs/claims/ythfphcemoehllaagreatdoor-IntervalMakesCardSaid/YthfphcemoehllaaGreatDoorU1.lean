import Derived.Test.YthfphcemoehllaaGreatDoorProg
import Derived.KernelRfl
import Derived.Test.YthfphcemoehllaaGreatDoorE3
set_option linter.unusedVariables false
set_option linter.unusedSimpArgs false
set_option linter.unusedSectionVars false
namespace Go.Q
open Go Go.RowKit
open Go.Rx (br bd sIdx sCat sCut iQuo iRem)
set_option linter.unusedVariables false
set_option linter.unusedSimpArgs false
set_option maxRecDepth 100000
noncomputable section
noncomputable def stringslite_HasPrefix.f (lf : Nat) (a0 : ByteArray) (a1 : ByteArray) : Option (Bool × Unit) :=
 br (decide (((a0.size : Nat) : Int) ≥ ((a1.size : Nat) : Int))) (
  bd (sCut a0 none (some ((a1.size : Nat) : Int))) fun r1 =>
  some ((r1.toList == a1.toList), ())) (
  some (false, ()))
noncomputable def stringslite_HasPrefix.E (lf : Nat) : Entry := ⟨[.str, .str], [.bool], fun x => stringslite_HasPrefix.f lf x.1 x.2.1⟩
theorem stringslite_HasPrefix.ev (lf : Nat) (x : Tys (stringslite_HasPrefix.E lf).ps) : (stringslite_HasPrefix.E lf).f x = runQ Proofs.Tryz.prog (fun _ => FA.none) noLs (lookT []) (lf + 40) 14 6 199 (stringslite_HasPrefix.E lf).ps (stringslite_HasPrefix.E lf).rs x := by kernel_rfl
theorem stringslite_HasPrefix.ok (lf : Nat) : EntryOK Proofs.Tryz.prog TabG 199 (stringslite_HasPrefix.E lf) := entryT lookT_nil (annsOK_none fun _ => rfl) (stringslite_HasPrefix.ev lf)
noncomputable def stringslite_CutPrefix.f (lf : Nat) (a0 : ByteArray) (a1 : ByteArray) : Option (ByteArray × Bool × Unit) :=
 bd (stringslite_HasPrefix.f lf a0 a1) fun r1 =>
 br (!r1.1) (
  some (a0, false, ())) (
  bd (sCut a0 (some ((a1.size : Nat) : Int)) none) fun r2 =>
  some (r2, true, ()))
noncomputable def stringslite_CutPrefix.E (lf : Nat) : Entry := ⟨[.str, .str], [.str, .bool], fun x => stringslite_CutPrefix.f lf x.1 x.2.1⟩
theorem stringslite_CutPrefix.ev (lf : Nat) (x : Tys (stringslite_CutPrefix.E lf).ps) : (stringslite_CutPrefix.E lf).f x = runQ Proofs.Tryz.prog (fun _ => FA.none) noLs (lookT [(199, stringslite_HasPrefix.E lf)]) (lf + 40) 14 6 175 (stringslite_CutPrefix.E lf).ps (stringslite_CutPrefix.E lf).rs x := by kernel_rfl
theorem stringslite_CutPrefix.ok (lf : Nat) : EntryOK Proofs.Tryz.prog TabG 175 (stringslite_CutPrefix.E lf) := entryT (lookT_cons (stringslite_HasPrefix.ok lf) lookT_nil) (annsOK_none fun _ => rfl) (stringslite_CutPrefix.ev lf)
noncomputable def stringslite_TrimPrefix.f (lf : Nat) (a0 : ByteArray) (a1 : ByteArray) : Option (ByteArray × Unit) :=
 bd (stringslite_HasPrefix.f lf a0 a1) fun r1 =>
 br r1.1 (
  bd (sCut a0 (some ((a1.size : Nat) : Int)) none) fun r2 =>
  some (r2, ())) (
  some (a0, ()))
noncomputable def stringslite_TrimPrefix.E (lf : Nat) : Entry := ⟨[.str, .str], [.str], fun x => stringslite_TrimPrefix.f lf x.1 x.2.1⟩
theorem stringslite_TrimPrefix.ev (lf : Nat) (x : Tys (stringslite_TrimPrefix.E lf).ps) : (stringslite_TrimPrefix.E lf).f x = runQ Proofs.Tryz.prog (fun _ => FA.none) noLs (lookT [(199, stringslite_HasPrefix.E lf)]) (lf + 40) 14 6 187 (stringslite_TrimPrefix.E lf).ps (stringslite_TrimPrefix.E lf).rs x := by kernel_rfl
theorem stringslite_TrimPrefix.ok (lf : Nat) : EntryOK Proofs.Tryz.prog TabG 187 (stringslite_TrimPrefix.E lf) := entryT (lookT_cons (stringslite_HasPrefix.ok lf) lookT_nil) (annsOK_none fun _ => rfl) (stringslite_TrimPrefix.ev lf)
end
end Go.Q
namespace Go.Q
open Go Go.RowKit
open Go.Rx (br bd sIdx sCat sCut iQuo iRem)
set_option linter.unusedVariables false
set_option linter.unusedSimpArgs false
set_option maxRecDepth 100000
noncomputable section
noncomputable def strings_CutPrefix.f (lf : Nat) (a0 : ByteArray) (a1 : ByteArray) : Option (ByteArray × Bool × Unit) :=
 bd (stringslite_CutPrefix.f lf a0 a1) fun r1 =>
 some (r1.1, r1.2.1, ())
noncomputable def strings_CutPrefix.E (lf : Nat) : Entry := ⟨[.str, .str], [.str, .bool], fun x => strings_CutPrefix.f lf x.1 x.2.1⟩
theorem strings_CutPrefix.ev (lf : Nat) (x : Tys (strings_CutPrefix.E lf).ps) : (strings_CutPrefix.E lf).f x = runQ Proofs.Tryz.prog (fun _ => FA.none) noLs (lookT [(175, stringslite_CutPrefix.E lf)]) (lf + 40) 14 6 148 (strings_CutPrefix.E lf).ps (strings_CutPrefix.E lf).rs x := by kernel_rfl
theorem strings_CutPrefix.ok (lf : Nat) : EntryOK Proofs.Tryz.prog TabG 148 (strings_CutPrefix.E lf) := entryT (lookT_cons (stringslite_CutPrefix.ok lf) lookT_nil) (annsOK_none fun _ => rfl) (strings_CutPrefix.ev lf)
noncomputable def strings_TrimPrefix.f (lf : Nat) (a0 : ByteArray) (a1 : ByteArray) : Option (ByteArray × Unit) :=
 bd (stringslite_TrimPrefix.f lf a0 a1) fun r1 =>
 some (r1.1, ())
noncomputable def strings_TrimPrefix.E (lf : Nat) : Entry := ⟨[.str, .str], [.str], fun x => strings_TrimPrefix.f lf x.1 x.2.1⟩
theorem strings_TrimPrefix.ev (lf : Nat) (x : Tys (strings_TrimPrefix.E lf).ps) : (strings_TrimPrefix.E lf).f x = runQ Proofs.Tryz.prog (fun _ => FA.none) noLs (lookT [(187, stringslite_TrimPrefix.E lf)]) (lf + 40) 14 6 160 (strings_TrimPrefix.E lf).ps (strings_TrimPrefix.E lf).rs x := by kernel_rfl
theorem strings_TrimPrefix.ok (lf : Nat) : EntryOK Proofs.Tryz.prog TabG 160 (strings_TrimPrefix.E lf) := entryT (lookT_cons (stringslite_TrimPrefix.ok lf) lookT_nil) (annsOK_none fun _ => rfl) (strings_TrimPrefix.ev lf)
end
end Go.Q
namespace Go.Q
open Go Go.RowKit
open Go.Rx (br bd sIdx sCat sCut iQuo iRem)
set_option linter.unusedVariables false
set_option linter.unusedSimpArgs false
set_option maxRecDepth 100000
noncomputable section
noncomputable def bigint_canonical.f (lf : Nat) (a0 : ByteArray) : Option (Bool × Unit) :=
 bd (strings_CutPrefix.f lf a0 (⟨#[45]⟩ : ByteArray)) fun r1 =>
 br (r1.1.toList == (⟨#[48]⟩ : ByteArray).toList) (
  some ((!r1.2.1), ())) (
  br (!(r1.1.toList == (⟨#[]⟩ : ByteArray).toList)) (
   bd (sIdx r1.1 0) fun r2 =>
   br (((r2.toNat : Nat) : Int) != 48) (
    bd (B.Trim.f lf r1.1 (⟨#[48, 49, 50, 51, 52, 53, 54, 55, 56, 57]⟩ : ByteArray)) fun r3 =>
    some ((r3.1.toList == (⟨#[]⟩ : ByteArray).toList), ())) (
    some (false, ()))) (
   some (false, ())))
noncomputable def bigint_canonical.E (lf : Nat) : Entry := ⟨[.str], [.bool], fun x => bigint_canonical.f lf x.1⟩
theorem bigint_canonical.ev (lf : Nat) (x : Tys (bigint_canonical.E lf).ps) : (bigint_canonical.E lf).f x = runQ Proofs.Tryz.prog (fun _ => FA.none) noLs (lookT [(148, strings_CutPrefix.E lf), (159, B.Trim.E lf)]) (lf + 40) 14 6 119 (bigint_canonical.E lf).ps (bigint_canonical.E lf).rs x := by kernel_rfl
theorem bigint_canonical.ok (lf : Nat) : EntryOK Proofs.Tryz.prog TabG 119 (bigint_canonical.E lf) := entryT (lookT_cons (strings_CutPrefix.ok lf) (lookT_cons (B.Trim.ok lf) lookT_nil)) (annsOK_none fun _ => rfl) (bigint_canonical.ev lf)
noncomputable def bigint_digits.f (lf : Nat) (a0 : ByteArray) : Option (Int × Unit) :=
 bd (strings_TrimPrefix.f lf a0 (⟨#[45]⟩ : ByteArray)) fun r1 =>
 some (((r1.1.size : Nat) : Int), ())
noncomputable def bigint_digits.E (lf : Nat) : Entry := ⟨[.str], [(.int .i64)], fun x => bigint_digits.f lf x.1⟩
theorem bigint_digits.ev (lf : Nat) (x : Tys (bigint_digits.E lf).ps) : (bigint_digits.E lf).f x = runQ Proofs.Tryz.prog (fun _ => FA.none) noLs (lookT [(160, strings_TrimPrefix.E lf)]) (lf + 40) 14 6 120 (bigint_digits.E lf).ps (bigint_digits.E lf).rs x := by kernel_rfl
theorem bigint_digits.ok (lf : Nat) : EntryOK Proofs.Tryz.prog TabG 120 (bigint_digits.E lf) := entryT (lookT_cons (strings_TrimPrefix.ok lf) lookT_nil) (annsOK_none fun _ => rfl) (bigint_digits.ev lf)
noncomputable def bigint_Check.f (lf : Nat) (a0 : ByteArray) : Option (Int × Unit) :=
 bd (bigint_canonical.f lf a0) fun r1 =>
 br (!r1.1) (
  some (3, ())) (
  bd (bigint_digits.f lf a0) fun r2 =>
  br (decide (r2.1 > 4096)) (
   some (10, ())) (
   some (0, ())))
noncomputable def bigint_Check.E (lf : Nat) : Entry := ⟨[.str], [(.int .i64)], fun x => bigint_Check.f lf x.1⟩
theorem bigint_Check.ev (lf : Nat) (x : Tys (bigint_Check.E lf).ps) : (bigint_Check.E lf).f x = runQ Proofs.Tryz.prog (fun _ => FA.none) noLs (lookT [(119, bigint_canonical.E lf), (120, bigint_digits.E lf)]) (lf + 40) 14 6 77 (bigint_Check.E lf).ps (bigint_Check.E lf).rs x := by kernel_rfl
theorem bigint_Check.ok (lf : Nat) : EntryOK Proofs.Tryz.prog TabG 77 (bigint_Check.E lf) := entryT (lookT_cons (bigint_canonical.ok lf) (lookT_cons (bigint_digits.ok lf) lookT_nil)) (annsOK_none fun _ => rfl) (bigint_Check.ev lf)
noncomputable def bigint_trim.anns : FuncId → FA := fun g => bif g == 149 then ⟨fun li => bif li == 0 then (⟨[1, 2, 3, 4, 5, 6, 7, 8, 9, 10, 11, 12, 13, 14, 15, 16, 17, 18, 19, 20], [], []⟩, ⟨[1, 3, 4, 5, 6, 7, 8, 9, 10, 11, 12, 13, 14, 15, 16, 17, 18, 19, 20], [], []⟩) else (⟨[], [], []⟩, ⟨[], [], []⟩), none⟩ else FA.none
theorem bigint_trim.sp : AnnsOK Proofs.Tryz.prog bigint_trim.anns := by
  intro g s h
  unfold bigint_trim.anns at h
  by_cases e149 : g = 149
  · subst e149
    cases h
  have e149' : (g == 149) = false := by simpa using e149
  rw [e149', cond_false] at h
  cases h
noncomputable def bigint_trim.l0 (lf : Nat) : Nat → (List Int) → Option (((List Int) × Unit) × Unit)
  | 0, _ => none
  | n + 1, v0_0 =>
  br (decide (((v0_0.length : Nat) : Int) > 0)) (
   bd (idxL v0_0 (IntKind.i64.wrap (((v0_0.length : Nat) : Int) - 1))) fun y1 =>
   br (y1 == 0) (
    bd (cutL v0_0 none (some (IntKind.i64.wrap (((v0_0.length : Nat) : Int) - 1)))) fun l2 =>
    bigint_trim.l0 lf n l2) (
    some ((v0_0, ()), ()))) (
   some ((v0_0, ()), ()))
noncomputable def bigint_trim.S0 (v0_0 : (List Int)) : St := ([.sl (.int .i64) v0_0, .any, .any, .any, .any, .any, .any, .any, .any, .any, .any, .any, .any, .any, .any, .any, .any, .any, .any, .any, .any], [])
noncomputable def bigint_trim.X0 (w0 : (List Int)) : St := ([.sl (.int .i64) w0, .any, .any, .any, .any, .any, .any, .any, .any, .any, .any, .any, .any, .any, .any, .any, .any, .any, .any, .any, .any], [])
noncomputable def bigint_trim.m0 : (st : St) → Option {x : (List Int) × Unit // st = bigint_trim.S0 x.1}
  | (((.sl (.int .i64) v0_0) :: .any :: .any :: .any :: .any :: .any :: .any :: .any :: .any :: .any :: .any :: .any :: .any :: .any :: .any :: .any :: .any :: .any :: .any :: .any :: .any :: []), ([])) => some ⟨(v0_0, ()), rfl⟩
  | _ => none
noncomputable def bigint_trim.o0 (y : ((List Int) × Unit) × Unit) : Alt := .one (.exit 0) (bigint_trim.X0 y.1.1)
noncomputable def bigint_trim.tb (lf : Nat) : List (FuncId × Entry) := []
noncomputable def bigint_trim.s13_149 (lf : Nat) : Sums := fun li st => match li with
  | 0 => ((bigint_trim.m0 st).map fun p => (⟨((List Int) × Unit) × Unit, bigint_trim.l0 lf (lf + 40) p.1.1, bigint_trim.o0⟩ : LTE))
  | _ => none
noncomputable def bigint_trim.ls (lf : Nat) : List (Nat × FuncId × Sums) := [(13, 149, bigint_trim.s13_149 lf)]
noncomputable def bigint_trim.dr (lf : Nat) (ρ : Type) : Draws ρ := drawA Proofs.Tryz.prog (lookT (bigint_trim.tb lf)) 0 fun n => clQ Proofs.Tryz.prog bigint_trim.anns (lookT (bigint_trim.tb lf)) (lf + 40) 14 6 n ρ
noncomputable def bigint_trim.it0 {ρ : Type} (lf n : Nat) (st : St) (k : KE ρ) : Option ρ := iterK (nrmS 0 ((bigint_trim.anns 149).ann 0).1 0) (nrmS 0 ((bigint_trim.anns 149).ann 0).2 0) (codeK Proofs.Tryz.prog 149 (bigint_trim.anns 149).ann (bigint_trim.s13_149 lf) (bigint_trim.dr lf ρ) (goK Proofs.Tryz.prog bigint_trim.anns (lsOf (bigint_trim.ls lf)) (bigint_trim.dr lf ρ) (lookT (bigint_trim.tb lf)) 0 (lf + 40) 13) 0 (lf + 40) none 1 (loopP Proofs.Tryz.prog 149 0)) n st k
theorem bigint_trim.t0 {ρ : Type} (lf n : Nat) (v0_0 : (List Int)) (k : KE ρ) : bigint_trim.it0 lf (n + 1) (bigint_trim.S0 v0_0) k =
  br (decide (((v0_0.length : Nat) : Int) > 0)) (
   bd (idxL v0_0 (IntKind.i64.wrap (((v0_0.length : Nat) : Int) - 1))) fun y1 =>
   br (y1 == 0) (
    bd (cutL v0_0 none (some (IntKind.i64.wrap (((v0_0.length : Nat) : Int) - 1)))) fun l2 =>
    bigint_trim.it0 lf n (bigint_trim.S0 l2) k) (
    k (.exit 0) (bigint_trim.X0 v0_0))) (
   k (.exit 0) (bigint_trim.X0 v0_0)) := by kernel_rfl
theorem bigint_trim.u0 {ρ : Type} (lf : Nat) (k : KE ρ) : ∀ (n : Nat) (v0_0 : (List Int)), bigint_trim.it0 lf n (bigint_trim.S0 v0_0) k = bd (bigint_trim.l0 lf n v0_0) fun y => altK k (bigint_trim.o0 y)
  | 0, _ => by rw [bigint_trim.l0, bd_none]; rfl
  | n + 1, v0_0 => by
    rw [bigint_trim.t0]; simp only [bigint_trim.l0, bigint_trim.u0 lf k n, bd_br, bd_bd, bd_some', bd_none, br_t, br_f, bigint_trim.o0, altK]
theorem bigint_trim.a13_149 (lf : Nat) (ρ : Type) : ∀ i, LsAt ρ Proofs.Tryz.prog 149 (bigint_trim.anns 149).ann (bigint_trim.s13_149 lf) (bigint_trim.dr lf ρ) (goK Proofs.Tryz.prog bigint_trim.anns (lsOf (bigint_trim.ls lf)) (bigint_trim.dr lf ρ) (lookT (bigint_trim.tb lf)) 0 (lf + 40) 13) 0 (lf + 40) none i (loopP Proofs.Tryz.prog 149 i)
  | 0 => by
    intro st T h k r he
    obtain ⟨p, _, rfl⟩ := Option.map_eq_some_iff.1 h
    obtain ⟨x, rfl⟩ := p
    exact (bigint_trim.u0 lf k (lf + 40) _).trans he
  | _ + 1 => lsAt_none rfl
theorem bigint_trim.sums (lf : Nat) (ρ : Type) : SumsOK ρ Proofs.Tryz.prog bigint_trim.anns (lsOf (bigint_trim.ls lf)) (bigint_trim.dr lf ρ) (lookT (bigint_trim.tb lf)) 0 (lf + 40) := by
  refine sumsOK_of rfl fun p hp => ?_
  simp only [bigint_trim.ls, List.mem_cons, List.not_mem_nil, or_false] at hp
  subst hp
  exact bigint_trim.a13_149 lf ρ
noncomputable def bigint_trim.f (lf : Nat) (a0 : (List Int)) : Option ((List Int) × Unit) :=
 bd (bigint_trim.l0 lf (lf + 40) a0) fun z3 =>
 some (z3.1.1, ())
noncomputable def bigint_trim.E (lf : Nat) : Entry := ⟨[(.sl (.int .i64))], [(.sl (.int .i64))], fun x => bigint_trim.f lf x.1⟩
theorem bigint_trim.ev (lf : Nat) (x : Tys (bigint_trim.E lf).ps) : (bigint_trim.E lf).f x = runQ Proofs.Tryz.prog bigint_trim.anns (lsOf (bigint_trim.ls lf)) (lookT (bigint_trim.tb lf)) (lf + 40) 14 6 149 (bigint_trim.E lf).ps (bigint_trim.E lf).rs x := by kernel_rfl
theorem bigint_trim.ok (lf : Nat) : EntryOK Proofs.Tryz.prog TabG 149 (bigint_trim.E lf) := entryL (l := bigint_trim.tb lf) lookT_nil (bigint_trim.sp) (bigint_trim.sums lf _) (bigint_trim.ev lf)
noncomputable def bigint_read.anns : FuncId → FA := fun g => bif g == 176 then ⟨fun li => bif li == 0 then (⟨[0, 1, 3, 4, 5, 6, 7, 8, 9, 10, 11, 12], [], []⟩, ⟨[], [], []⟩) else (⟨[], [], []⟩, ⟨[], [], []⟩), none⟩ else bif g == 177 then ⟨fun li => bif li == 0 then (⟨[2, 4, 5, 6, 7, 8, 9, 10, 11, 12, 13, 14, 15, 16, 17, 18, 19, 20, 21, 22, 23, 24, 25], [⟨.ref 2 0, (.int .i64), 3⟩], []⟩, ⟨[0, 1, 2, 3, 4, 5, 6, 7, 8, 9, 10, 11, 12, 13, 14, 15, 16, 17, 18, 19, 20, 21, 22, 23, 24, 25], [⟨.ref 2 0, (.int .i64), 3⟩], []⟩) else (⟨[], [], []⟩, ⟨[], [], []⟩), none⟩ else FA.none
theorem bigint_read.sp : AnnsOK Proofs.Tryz.prog bigint_read.anns := by
  intro g s h
  unfold bigint_read.anns at h
  by_cases e176 : g = 176
  · subst e176
    cases h
  have e176' : (g == 176) = false := by simpa using e176
  rw [e176', cond_false] at h
  by_cases e177 : g = 177
  · subst e177
    cases h
  have e177' : (g == 177) = false := by simpa using e177
  rw [e177', cond_false] at h
  cases h
noncomputable def bigint_read.l0 (lf : Nat) (v0_1 : Bool) (v0_2 : ByteArray) : Nat → Int → (List Int) → Option (((List Int) × Unit) × Unit)
  | 0, _, _ => none
  | n + 1, v0_0, v0_3 =>
  br (decide (v0_0 > 0)) (
   bd (sCut v0_2 (some (if (IntKind.i64.wrap (v0_0 - 9)) > 0 then (IntKind.i64.wrap (v0_0 - 9)) else 0)) (some v0_0)) fun r2 =>
   bd (B.Atoi.f lf r2) fun r3 =>
   bd (apL true 8 v0_3 [r3.1]) fun l4 =>
   bigint_read.l0 lf v0_1 v0_2 n (IntKind.i64.wrap (v0_0 - 9)) l4) (
   some ((v0_3, ()), ()))
noncomputable def bigint_read.S0 (v0_0 : Int) (v0_1 : Bool) (v0_2 : ByteArray) (v0_3 : (List Int)) : St := ([.yld 3, .ptr 1 0, .any, .v (.int .i64 v0_0), .any, .any, .any, .any, .any, .any, .any, .any, .any, .any, .any, .any, .any, .any, .any, .any, .any, .any, .any, .any, .any, .any], [some (.cells [.v (.bool v0_1), .v (.slice none 0 0)] 98), some (.cells [.v (.string v0_2)] 9), some (.cells [.row 4] 96), some (.rnd ⟨[.any, .any, .ptr 2 0, .any, .any, .any, .any, .any, .any, .any, .any, .any, .any], 176, 0, .ready, none⟩), some (.row (.int .i64) v0_3 3 false)])
noncomputable def bigint_read.X0 (w0 : Bool) (w1 : ByteArray) (w2 : (List Int)) : St := ([.any, .any, .any, .any, .any, .any, .any, .any, .any, .any, .any, .any, .any, .any, .any, .any, .any, .any, .any, .any, .any, .any, .any, .any, .any, .any], [some (.cells [.v (.bool w0), .v (.slice none 0 0)] 98), some (.cells [.v (.string w1)] 9), some (.cells [.row 4] 96), some (.rnd ⟨[.any, .any, .ptr 2 0, .any, .any, .any, .any, .any, .any, .any, .any, .any, .any], 176, 0, .ready, none⟩), some (.row (.int .i64) w2 3 false)])
noncomputable def bigint_read.m0 : (st : St) → Option {x : Int × Bool × ByteArray × (List Int) × Unit // st = bigint_read.S0 x.1 x.2.1 x.2.2.1 x.2.2.2.1}
  | (((.yld 3) :: (.ptr 1 0) :: .any :: (.v (.int .i64 v0_0)) :: .any :: .any :: .any :: .any :: .any :: .any :: .any :: .any :: .any :: .any :: .any :: .any :: .any :: .any :: .any :: .any :: .any :: .any :: .any :: .any :: .any :: .any :: []), ((some (.cells ((.v (.bool v0_1)) :: (.v (.slice none 0 0)) :: []) 98)) :: (some (.cells ((.v (.string v0_2)) :: []) 9)) :: (some (.cells ((.row 4) :: []) 96)) :: (some (.rnd ⟨(.any :: .any :: (.ptr 2 0) :: .any :: .any :: .any :: .any :: .any :: .any :: .any :: .any :: .any :: .any :: []), 176, 0, .ready, none⟩)) :: (some (.row (.int .i64) v0_3 3 false)) :: [])) => some ⟨(v0_0, v0_1, v0_2, v0_3, ()), rfl⟩
  | _ => none
noncomputable def bigint_read.o0 (v0_1 : Bool) (v0_2 : ByteArray) (y : ((List Int) × Unit) × Unit) : Alt := .one (.exit 0) (bigint_read.X0 v0_1 v0_2 y.1.1)
noncomputable def bigint_read.tb (lf : Nat) : List (FuncId × Entry) := [(148, strings_CutPrefix.E lf), (149, bigint_trim.E lf), (178, B.Atoi.E lf)]
noncomputable def bigint_read.s10_177 (lf : Nat) : Sums := fun li st => match li with
  | 0 => ((bigint_read.m0 st).map fun p => (⟨((List Int) × Unit) × Unit, bigint_read.l0 lf p.1.2.1 p.1.2.2.1 (lf + 40) p.1.1 p.1.2.2.2.1, bigint_read.o0 p.1.2.1 p.1.2.2.1⟩ : LTE))
  | _ => none
noncomputable def bigint_read.ls (lf : Nat) : List (Nat × FuncId × Sums) := [(10, 177, bigint_read.s10_177 lf)]
noncomputable def bigint_read.dr (lf : Nat) (ρ : Type) : Draws ρ := drawA Proofs.Tryz.prog (lookT (bigint_read.tb lf)) 0 fun n => clQ Proofs.Tryz.prog bigint_read.anns (lookT (bigint_read.tb lf)) (lf + 40) 14 6 n ρ
noncomputable def bigint_read.it0 {ρ : Type} (lf n : Nat) (st : St) (k : KE ρ) : Option ρ := iterK (nrmS 0 ((bigint_read.anns 177).ann 0).1 4) (nrmS 0 ((bigint_read.anns 177).ann 0).2 4) (codeK Proofs.Tryz.prog 177 (bigint_read.anns 177).ann (bigint_read.s10_177 lf) (bigint_read.dr lf ρ) (goK Proofs.Tryz.prog bigint_read.anns (lsOf (bigint_read.ls lf)) (bigint_read.dr lf ρ) (lookT (bigint_read.tb lf)) 0 (lf + 40) 10) 0 (lf + 40) none 1 (loopP Proofs.Tryz.prog 177 0)) n st k
theorem bigint_read.t0 {ρ : Type} (lf n : Nat) (v0_0 : Int) (v0_1 : Bool) (v0_2 : ByteArray) (v0_3 : (List Int)) (k : KE ρ) : bigint_read.it0 lf (n + 1) (bigint_read.S0 v0_0 v0_1 v0_2 v0_3) k =
  br (decide (v0_0 > 0)) (
   bd (sCut v0_2 (some (if (IntKind.i64.wrap (v0_0 - 9)) > 0 then (IntKind.i64.wrap (v0_0 - 9)) else 0)) (some v0_0)) fun r2 =>
   bd (B.Atoi.f lf r2) fun r3 =>
   bd (apL true 8 v0_3 [r3.1]) fun l4 =>
   bigint_read.it0 lf n (bigint_read.S0 (IntKind.i64.wrap (v0_0 - 9)) v0_1 v0_2 l4) k) (
   k (.exit 0) (bigint_read.X0 v0_1 v0_2 v0_3)) := by kernel_rfl
theorem bigint_read.u0 {ρ : Type} (lf : Nat) (v0_1 : Bool) (v0_2 : ByteArray) (k : KE ρ) : ∀ (n : Nat) (v0_0 : Int) (v0_3 : (List Int)), bigint_read.it0 lf n (bigint_read.S0 v0_0 v0_1 v0_2 v0_3) k = bd (bigint_read.l0 lf v0_1 v0_2 n v0_0 v0_3) fun y => altK k (bigint_read.o0 v0_1 v0_2 y)
  | 0, _, _ => by rw [bigint_read.l0, bd_none]; rfl
  | n + 1, v0_0, v0_3 => by
    rw [bigint_read.t0]; simp only [bigint_read.l0, bigint_read.u0 lf v0_1 v0_2 k n, bd_br, bd_bd, bd_some', bd_none, br_t, br_f, bigint_read.o0, altK]
theorem bigint_read.a10_177 (lf : Nat) (ρ : Type) : ∀ i, LsAt ρ Proofs.Tryz.prog 177 (bigint_read.anns 177).ann (bigint_read.s10_177 lf) (bigint_read.dr lf ρ) (goK Proofs.Tryz.prog bigint_read.anns (lsOf (bigint_read.ls lf)) (bigint_read.dr lf ρ) (lookT (bigint_read.tb lf)) 0 (lf + 40) 10) 0 (lf + 40) none i (loopP Proofs.Tryz.prog 177 i)
  | 0 => by
    intro st T h k r he
    obtain ⟨p, _, rfl⟩ := Option.map_eq_some_iff.1 h
    obtain ⟨x, rfl⟩ := p
    exact (bigint_read.u0 lf _ _ k (lf + 40) _ _).trans he
  | _ + 1 => lsAt_none rfl
theorem bigint_read.sums (lf : Nat) (ρ : Type) : SumsOK ρ Proofs.Tryz.prog bigint_read.anns (lsOf (bigint_read.ls lf)) (bigint_read.dr lf ρ) (lookT (bigint_read.tb lf)) 0 (lf + 40) := by
  refine sumsOK_of rfl fun p hp => ?_
  simp only [bigint_read.ls, List.mem_cons, List.not_mem_nil, or_false] at hp
  subst hp
  exact bigint_read.a10_177 lf ρ
noncomputable def bigint_read.f (lf : Nat) (a0 : ByteArray) : Option ((Bool × ((List Int) × Unit)) × Unit) :=
 bd (strings_CutPrefix.f lf a0 (⟨#[45]⟩ : ByteArray)) fun r1 =>
 bd (bigint_read.l0 lf false r1.1 (lf + 40) ((r1.1.size : Nat) : Int) []) fun z5 =>
 bd (bigint_trim.f lf z5.1.1) fun r6 =>
 some ((r1.2.1, r6.1, ()), ())
noncomputable def bigint_read.E (lf : Nat) : Entry := ⟨[.str], [(.pair .bool (.pair (.sl (.int .i64)) .unit))], fun x => bigint_read.f lf x.1⟩
theorem bigint_read.ev (lf : Nat) (x : Tys (bigint_read.E lf).ps) : (bigint_read.E lf).f x = runQ Proofs.Tryz.prog bigint_read.anns (lsOf (bigint_read.ls lf)) (lookT (bigint_read.tb lf)) (lf + 40) 14 6 109 (bigint_read.E lf).ps (bigint_read.E lf).rs x := by kernel_rfl
theorem bigint_read.ok (lf : Nat) : EntryOK Proofs.Tryz.prog TabG 109 (bigint_read.E lf) := entryL (l := bigint_read.tb lf) (lookT_cons (strings_CutPrefix.ok lf) (lookT_cons (bigint_trim.ok lf) (lookT_cons (B.Atoi.ok lf) lookT_nil))) (bigint_read.sp) (bigint_read.sums lf _) (bigint_read.ev lf)
noncomputable def bigint_pair.f (lf : Nat) (a0 : ByteArray) (a1 : ByteArray) : Option ((Bool × ((List Int) × Unit)) × (Bool × ((List Int) × Unit)) × Int × Unit) :=
 bd (bigint_Check.f lf a0) fun r1 =>
 br (r1.1 != 0) (
  some ((false, [], ()), (false, [], ()), r1.1, ())) (
  bd (bigint_Check.f lf a1) fun r2 =>
  br (r2.1 != 0) (
   some ((false, [], ()), (false, [], ()), r2.1, ())) (
   bd (bigint_read.f lf a0) fun r3 =>
   bd (bigint_read.f lf a1) fun r4 =>
   some (r3.1, r4.1, 0, ())))
noncomputable def bigint_pair.E (lf : Nat) : Entry := ⟨[.str, .str], [(.pair .bool (.pair (.sl (.int .i64)) .unit)), (.pair .bool (.pair (.sl (.int .i64)) .unit)), (.int .i64)], fun x => bigint_pair.f lf x.1 x.2.1⟩
theorem bigint_pair.ev (lf : Nat) (x : Tys (bigint_pair.E lf).ps) : (bigint_pair.E lf).f x = runQ Proofs.Tryz.prog (fun _ => FA.none) noLs (lookT [(77, bigint_Check.E lf), (109, bigint_read.E lf)]) (lf + 40) 14 6 72 (bigint_pair.E lf).ps (bigint_pair.E lf).rs x := by kernel_rfl
theorem bigint_pair.ok (lf : Nat) : EntryOK Proofs.Tryz.prog TabG 72 (bigint_pair.E lf) := entryT (lookT_cons (bigint_Check.ok lf) (lookT_cons (bigint_read.ok lf) lookT_nil)) (annsOK_none fun _ => rfl) (bigint_pair.ev lf)
noncomputable def bigint_sign.f (lf : Nat) (a0 : (Bool × ((List Int) × Unit))) : Option (Int × Unit) :=
 br (((a0.2.1.length : Nat) : Int) == 0) (
  some (0, ())) (
  br a0.1 (
   some ((-1), ())) (
   some (1, ())))
noncomputable def bigint_sign.E (lf : Nat) : Entry := ⟨[(.pair .bool (.pair (.sl (.int .i64)) .unit))], [(.int .i64)], fun x => bigint_sign.f lf x.1⟩
theorem bigint_sign.ev (lf : Nat) (x : Tys (bigint_sign.E lf).ps) : (bigint_sign.E lf).f x = runQ Proofs.Tryz.prog (fun _ => FA.none) noLs (lookT []) (lf + 40) 14 6 73 (bigint_sign.E lf).ps (bigint_sign.E lf).rs x := by kernel_rfl
theorem bigint_sign.ok (lf : Nat) : EntryOK Proofs.Tryz.prog TabG 73 (bigint_sign.E lf) := entryT lookT_nil (annsOK_none fun _ => rfl) (bigint_sign.ev lf)
noncomputable def bigint_plus.anns : FuncId → FA := fun g => bif g == 152 then ⟨fun li => bif li == 0 then (⟨[2, 3, 4, 7, 8, 9, 10, 11, 12, 13, 14, 15, 16, 17, 18, 19, 22, 23, 24, 25, 26, 27, 28, 29, 30, 31, 32, 33, 34, 35, 36, 37, 38, 39, 40, 41, 42, 43, 44, 45, 46, 47, 48, 49, 50, 51, 52, 53], [], []⟩, ⟨[0, 1, 2, 3, 6, 7, 8, 9, 10, 11, 12, 13, 14, 15, 16, 17, 18, 19, 20, 21, 22, 23, 24, 25, 26, 27, 28, 29, 30, 31, 32, 33, 34, 35, 36, 37, 38, 39, 40, 41, 42, 43, 44, 45, 46, 47, 48, 49, 50, 51, 52, 53], [], []⟩) else (⟨[], [], []⟩, ⟨[], [], []⟩), none⟩ else FA.none
theorem bigint_plus.sp : AnnsOK Proofs.Tryz.prog bigint_plus.anns := by
  intro g s h
  unfold bigint_plus.anns at h
  by_cases e152 : g = 152
  · subst e152
    cases h
  have e152' : (g == 152) = false := by simpa using e152
  rw [e152', cond_false] at h
  cases h
noncomputable def bigint_plus.l0 (lf : Nat) (v0_0 : (List Int)) (v0_1 : (List Int)) (v0_3 : Int) : Nat → Int → Int → (List Int) → Option (((List Int) × Unit) × Unit)
  | 0, _, _, _ => none
  | n + 1, v0_2, v0_4, v0_5 =>
  br (decide (v0_4 < v0_3)) (
   br (decide (v0_4 < ((v0_0.length : Nat) : Int))) (
    bd (idxL v0_0 v0_4) fun y2 =>
    br (decide (v0_4 < ((v0_1.length : Nat) : Int))) (
     bd (idxL v0_1 v0_4) fun y3 =>
     bd (iRem (IntKind.i64.wrap ((IntKind.i64.wrap (v0_2 + y2)) + y3)) 1000000000) fun r4 =>
     bd (iQuo .i64 (IntKind.i64.wrap ((IntKind.i64.wrap (v0_2 + y2)) + y3)) 1000000000) fun r5 =>
     bd (idxB v0_5.length v0_4) fun j6 =>
     bd (upE v0_5 j6 fun _ => some r4) fun l7 =>
     bigint_plus.l0 lf v0_0 v0_1 v0_3 n r5 (IntKind.i64.wrap (v0_4 + 1)) l7) (
     bd (iRem (IntKind.i64.wrap (v0_2 + y2)) 1000000000) fun r9 =>
     bd (iQuo .i64 (IntKind.i64.wrap (v0_2 + y2)) 1000000000) fun r10 =>
     bd (idxB v0_5.length v0_4) fun j11 =>
     bd (upE v0_5 j11 fun _ => some r9) fun l12 =>
     bigint_plus.l0 lf v0_0 v0_1 v0_3 n r10 (IntKind.i64.wrap (v0_4 + 1)) l12)) (
    br (decide (v0_4 < ((v0_1.length : Nat) : Int))) (
     bd (idxL v0_1 v0_4) fun y14 =>
     bd (iRem (IntKind.i64.wrap (v0_2 + y14)) 1000000000) fun r15 =>
     bd (iQuo .i64 (IntKind.i64.wrap (v0_2 + y14)) 1000000000) fun r16 =>
     bd (idxB v0_5.length v0_4) fun j17 =>
     bd (upE v0_5 j17 fun _ => some r15) fun l18 =>
     bigint_plus.l0 lf v0_0 v0_1 v0_3 n r16 (IntKind.i64.wrap (v0_4 + 1)) l18) (
     bd (iRem v0_2 1000000000) fun r20 =>
     bd (iQuo .i64 v0_2 1000000000) fun r21 =>
     bd (idxB v0_5.length v0_4) fun j22 =>
     bd (upE v0_5 j22 fun _ => some r20) fun l23 =>
     bigint_plus.l0 lf v0_0 v0_1 v0_3 n r21 (IntKind.i64.wrap (v0_4 + 1)) l23))) (
   some ((v0_5, ()), ()))
noncomputable def bigint_plus.S0 (v0_0 : (List Int)) (v0_1 : (List Int)) (v0_2 : Int) (v0_3 : Int) (v0_4 : Int) (v0_5 : (List Int)) : St := ([.sl (.int .i64) v0_0, .sl (.int .i64) v0_1, .any, .any, .any, .row 0, .v (.int .i64 v0_2), .any, .any, .any, .any, .any, .any, .any, .any, .any, .any, .any, .any, .any, .v (.int .i64 v0_3), .v (.int .i64 v0_4), .any, .any, .any, .any, .any, .any, .any, .any, .any, .any, .any, .any, .any, .any, .any, .any, .any, .any, .any, .any, .any, .any, .any, .any, .any, .any, .any, .any, .any, .any, .any, .any], [some (.row (.int .i64) v0_5 3 false)])
noncomputable def bigint_plus.X0 (w0 : (List Int)) : St := ([.any, .any, .any, .any, .any, .row 0, .any, .any, .any, .any, .any, .any, .any, .any, .any, .any, .any, .any, .any, .any, .any, .any, .any, .any, .any, .any, .any, .any, .any, .any, .any, .any, .any, .any, .any, .any, .any, .any, .any, .any, .any, .any, .any, .any, .any, .any, .any, .any, .any, .any, .any, .any, .any, .any], [some (.row (.int .i64) w0 3 false)])
noncomputable def bigint_plus.m0 : (st : St) → Option {x : (List Int) × (List Int) × Int × Int × Int × (List Int) × Unit // st = bigint_plus.S0 x.1 x.2.1 x.2.2.1 x.2.2.2.1 x.2.2.2.2.1 x.2.2.2.2.2.1}
  | (((.sl (.int .i64) v0_0) :: (.sl (.int .i64) v0_1) :: .any :: .any :: .any :: (.row 0) :: (.v (.int .i64 v0_2)) :: .any :: .any :: .any :: .any :: .any :: .any :: .any :: .any :: .any :: .any :: .any :: .any :: .any :: (.v (.int .i64 v0_3)) :: (.v (.int .i64 v0_4)) :: .any :: .any :: .any :: .any :: .any :: .any :: .any :: .any :: .any :: .any :: .any :: .any :: .any :: .any :: .any :: .any :: .any :: .any :: .any :: .any :: .any :: .any :: .any :: .any :: .any :: .any :: .any :: .any :: .any :: .any :: .any :: .any :: []), ((some (.row (.int .i64) v0_5 3 false)) :: [])) => some ⟨(v0_0, v0_1, v0_2, v0_3, v0_4, v0_5, ()), rfl⟩
  | _ => none
noncomputable def bigint_plus.o0 (v0_0 : (List Int)) (v0_1 : (List Int)) (v0_3 : Int) (y : ((List Int) × Unit) × Unit) : Alt := .one (.exit 0) (bigint_plus.X0 y.1.1)
noncomputable def bigint_plus.tb (lf : Nat) : List (FuncId × Entry) := [(149, bigint_trim.E lf)]
noncomputable def bigint_plus.s13_152 (lf : Nat) : Sums := fun li st => match li with
  | 0 => ((bigint_plus.m0 st).map fun p => (⟨((List Int) × Unit) × Unit, bigint_plus.l0 lf p.1.1 p.1.2.1 p.1.2.2.2.1 (lf + 40) p.1.2.2.1 p.1.2.2.2.2.1 p.1.2.2.2.2.2.1, bigint_plus.o0 p.1.1 p.1.2.1 p.1.2.2.2.1⟩ : LTE))
  | _ => none
noncomputable def bigint_plus.ls (lf : Nat) : List (Nat × FuncId × Sums) := [(13, 152, bigint_plus.s13_152 lf)]
noncomputable def bigint_plus.dr (lf : Nat) (ρ : Type) : Draws ρ := drawA Proofs.Tryz.prog (lookT (bigint_plus.tb lf)) 0 fun n => clQ Proofs.Tryz.prog bigint_plus.anns (lookT (bigint_plus.tb lf)) (lf + 40) 14 6 n ρ
noncomputable def bigint_plus.it0 {ρ : Type} (lf n : Nat) (st : St) (k : KE ρ) : Option ρ := iterK (nrmS 0 ((bigint_plus.anns 152).ann 0).1 1) (nrmS 0 ((bigint_plus.anns 152).ann 0).2 1) (codeK Proofs.Tryz.prog 152 (bigint_plus.anns 152).ann (bigint_plus.s13_152 lf) (bigint_plus.dr lf ρ) (goK Proofs.Tryz.prog bigint_plus.anns (lsOf (bigint_plus.ls lf)) (bigint_plus.dr lf ρ) (lookT (bigint_plus.tb lf)) 0 (lf + 40) 13) 0 (lf + 40) none 1 (loopP Proofs.Tryz.prog 152 0)) n st k
theorem bigint_plus.t0 {ρ : Type} (lf n : Nat) (v0_0 : (List Int)) (v0_1 : (List Int)) (v0_2 : Int) (v0_3 : Int) (v0_4 : Int) (v0_5 : (List Int)) (k : KE ρ) : bigint_plus.it0 lf (n + 1) (bigint_plus.S0 v0_0 v0_1 v0_2 v0_3 v0_4 v0_5) k =
  br (decide (v0_4 < v0_3)) (
   br (decide (v0_4 < ((v0_0.length : Nat) : Int))) (
    bd (idxL v0_0 v0_4) fun y2 =>
    br (decide (v0_4 < ((v0_1.length : Nat) : Int))) (
     bd (idxL v0_1 v0_4) fun y3 =>
     bd (iRem (IntKind.i64.wrap ((IntKind.i64.wrap (v0_2 + y2)) + y3)) 1000000000) fun r4 =>
     bd (iQuo .i64 (IntKind.i64.wrap ((IntKind.i64.wrap (v0_2 + y2)) + y3)) 1000000000) fun r5 =>
     bd (idxB v0_5.length v0_4) fun j6 =>
     bd (upE v0_5 j6 fun _ => some r4) fun l7 =>
     bigint_plus.it0 lf n (bigint_plus.S0 v0_0 v0_1 r5 v0_3 (IntKind.i64.wrap (v0_4 + 1)) l7) k) (
     bd (iRem (IntKind.i64.wrap (v0_2 + y2)) 1000000000) fun r9 =>
     bd (iQuo .i64 (IntKind.i64.wrap (v0_2 + y2)) 1000000000) fun r10 =>
     bd (idxB v0_5.length v0_4) fun j11 =>
     bd (upE v0_5 j11 fun _ => some r9) fun l12 =>
     bigint_plus.it0 lf n (bigint_plus.S0 v0_0 v0_1 r10 v0_3 (IntKind.i64.wrap (v0_4 + 1)) l12) k)) (
    br (decide (v0_4 < ((v0_1.length : Nat) : Int))) (
     bd (idxL v0_1 v0_4) fun y14 =>
     bd (iRem (IntKind.i64.wrap (v0_2 + y14)) 1000000000) fun r15 =>
     bd (iQuo .i64 (IntKind.i64.wrap (v0_2 + y14)) 1000000000) fun r16 =>
     bd (idxB v0_5.length v0_4) fun j17 =>
     bd (upE v0_5 j17 fun _ => some r15) fun l18 =>
     bigint_plus.it0 lf n (bigint_plus.S0 v0_0 v0_1 r16 v0_3 (IntKind.i64.wrap (v0_4 + 1)) l18) k) (
     bd (iRem v0_2 1000000000) fun r20 =>
     bd (iQuo .i64 v0_2 1000000000) fun r21 =>
     bd (idxB v0_5.length v0_4) fun j22 =>
     bd (upE v0_5 j22 fun _ => some r20) fun l23 =>
     bigint_plus.it0 lf n (bigint_plus.S0 v0_0 v0_1 r21 v0_3 (IntKind.i64.wrap (v0_4 + 1)) l23) k))) (
   k (.exit 0) (bigint_plus.X0 v0_5)) := by kernel_rfl
theorem bigint_plus.u0 {ρ : Type} (lf : Nat) (v0_0 : (List Int)) (v0_1 : (List Int)) (v0_3 : Int) (k : KE ρ) : ∀ (n : Nat) (v0_2 : Int) (v0_4 : Int) (v0_5 : (List Int)), bigint_plus.it0 lf n (bigint_plus.S0 v0_0 v0_1 v0_2 v0_3 v0_4 v0_5) k = bd (bigint_plus.l0 lf v0_0 v0_1 v0_3 n v0_2 v0_4 v0_5) fun y => altK k (bigint_plus.o0 v0_0 v0_1 v0_3 y)
  | 0, _, _, _ => by rw [bigint_plus.l0, bd_none]; rfl
  | n + 1, v0_2, v0_4, v0_5 => by
    rw [bigint_plus.t0]; simp only [bigint_plus.l0, bigint_plus.u0 lf v0_0 v0_1 v0_3 k n, bd_br, bd_bd, bd_some', bd_none, br_t, br_f, bigint_plus.o0, altK]
theorem bigint_plus.a13_152 (lf : Nat) (ρ : Type) : ∀ i, LsAt ρ Proofs.Tryz.prog 152 (bigint_plus.anns 152).ann (bigint_plus.s13_152 lf) (bigint_plus.dr lf ρ) (goK Proofs.Tryz.prog bigint_plus.anns (lsOf (bigint_plus.ls lf)) (bigint_plus.dr lf ρ) (lookT (bigint_plus.tb lf)) 0 (lf + 40) 13) 0 (lf + 40) none i (loopP Proofs.Tryz.prog 152 i)
  | 0 => by
    intro st T h k r he
    obtain ⟨p, _, rfl⟩ := Option.map_eq_some_iff.1 h
    obtain ⟨x, rfl⟩ := p
    exact (bigint_plus.u0 lf _ _ _ k (lf + 40) _ _ _).trans he
  | _ + 1 => lsAt_none rfl
theorem bigint_plus.sums (lf : Nat) (ρ : Type) : SumsOK ρ Proofs.Tryz.prog bigint_plus.anns (lsOf (bigint_plus.ls lf)) (bigint_plus.dr lf ρ) (lookT (bigint_plus.tb lf)) 0 (lf + 40) := by
  refine sumsOK_of rfl fun p hp => ?_
  simp only [bigint_plus.ls, List.mem_cons, List.not_mem_nil, or_false] at hp
  subst hp
  exact bigint_plus.a13_152 lf ρ
noncomputable def bigint_plus.f (lf : Nat) (a0 : (List Int)) (a1 : (List Int)) : Option ((List Int) × Unit) :=
 br (decide (((a0.length : Nat) : Int) < ((a1.length : Nat) : Int))) (
  bd (mkL (IntKind.i64.wrap (((a1.length : Nat) : Int) + 1)) (IntKind.i64.wrap (((a1.length : Nat) : Int) + 1)) 8 0) fun l1 =>
  bd (bigint_plus.l0 lf a1 a0 ((l1.length : Nat) : Int) (lf + 40) 0 0 l1) fun z25 =>
  bd (bigint_trim.f lf z25.1.1) fun r26 =>
  some (r26.1, ())) (
  bd (mkL (IntKind.i64.wrap (((a0.length : Nat) : Int) + 1)) (IntKind.i64.wrap (((a0.length : Nat) : Int) + 1)) 8 0) fun l27 =>
  bd (bigint_plus.l0 lf a0 a1 ((l27.length : Nat) : Int) (lf + 40) 0 0 l27) fun z28 =>
  bd (bigint_trim.f lf z28.1.1) fun r29 =>
  some (r29.1, ()))
noncomputable def bigint_plus.E (lf : Nat) : Entry := ⟨[(.sl (.int .i64)), (.sl (.int .i64))], [(.sl (.int .i64))], fun x => bigint_plus.f lf x.1 x.2.1⟩
theorem bigint_plus.ev (lf : Nat) (x : Tys (bigint_plus.E lf).ps) : (bigint_plus.E lf).f x = runQ Proofs.Tryz.prog bigint_plus.anns (lsOf (bigint_plus.ls lf)) (lookT (bigint_plus.tb lf)) (lf + 40) 14 6 152 (bigint_plus.E lf).ps (bigint_plus.E lf).rs x := by kernel_rfl
theorem bigint_plus.ok (lf : Nat) : EntryOK Proofs.Tryz.prog TabG 152 (bigint_plus.E lf) := entryL (l := bigint_plus.tb lf) (lookT_cons (bigint_trim.ok lf) lookT_nil) (bigint_plus.sp) (bigint_plus.sums lf _) (bigint_plus.ev lf)
noncomputable def bigint_operations_1.f (lf : Nat) (a0 : (Bool × ((List Int) × Unit))) (a1 : (Bool × ((List Int) × Unit))) : Option (Bool × Unit) :=
 some (a0.1, ())
noncomputable def bigint_operations_1.E (lf : Nat) : Entry := ⟨[(.pair .bool (.pair (.sl (.int .i64)) .unit)), (.pair .bool (.pair (.sl (.int .i64)) .unit))], [.bool], fun x => bigint_operations_1.f lf x.1 x.2.1⟩
theorem bigint_operations_1.ev (lf : Nat) (x : Tys (bigint_operations_1.E lf).ps) : (bigint_operations_1.E lf).f x = runQ Proofs.Tryz.prog (fun _ => FA.none) noLs (lookT []) (lf + 40) 14 6 153 (bigint_operations_1.E lf).ps (bigint_operations_1.E lf).rs x := by kernel_rfl
theorem bigint_operations_1.ok (lf : Nat) : EntryOK Proofs.Tryz.prog TabG 153 (bigint_operations_1.E lf) := entryT lookT_nil (annsOK_none fun _ => rfl) (bigint_operations_1.ev lf)
noncomputable def bigint_order.anns : FuncId → FA := fun g => bif g == 155 then ⟨fun li => bif li == 0 then (⟨[0, 1, 2, 5, 6, 7, 8, 9, 10, 11, 12, 13, 14, 15, 16, 17, 18, 19, 20, 21, 22, 23, 24, 25, 26, 27, 28, 29, 30, 31, 32], [], []⟩, ⟨[], [], []⟩) else (⟨[], [], []⟩, ⟨[], [], []⟩), none⟩ else bif g == 202 then ⟨fun li => bif li == 0 then (⟨[2, 4, 5, 6, 7, 8, 9, 10, 11, 12, 13, 14, 15, 16, 17, 18], [], []⟩, ⟨[0, 1, 2, 3, 4, 5, 6, 7, 8, 9, 10, 11, 12, 13, 14, 15, 16, 17, 18], [], []⟩) else (⟨[], [], []⟩, ⟨[], [], []⟩), none⟩ else FA.none
theorem bigint_order.sp : AnnsOK Proofs.Tryz.prog bigint_order.anns := by
  intro g s h
  unfold bigint_order.anns at h
  by_cases e155 : g = 155
  · subst e155
    cases h
  have e155' : (g == 155) = false := by simpa using e155
  rw [e155', cond_false] at h
  by_cases e202 : g = 202
  · subst e202
    cases h
  have e202' : (g == 202) = false := by simpa using e202
  rw [e202', cond_false] at h
  cases h
noncomputable def bigint_order.l0 (lf : Nat) (v0_1 : (List Int)) (v0_2 : Int) (v0_3 : (List Int)) : Nat → Int → Option (Bool × (Int × Unit) × (Unit) × Unit)
  | 0, _ => none
  | n + 1, v0_0 =>
  br (decide (v0_0 ≥ 0)) (
   bd (idxL v0_3 v0_0) fun y1 =>
   bd (idxL v0_1 v0_0) fun y2 =>
   br (y1 != y2) (
    bd (idxL v0_1 v0_0) fun y3 =>
    some (true, ((IntKind.i64.wrap (y1 - y3)), ()), ((()), ()))) (
    bigint_order.l0 lf v0_1 v0_2 v0_3 n (IntKind.i64.wrap (v0_0 - 1)))) (
   some (false, (0, ()), ((()), ())))
noncomputable def bigint_order.S0 (v0_0 : Int) (v0_1 : (List Int)) (v0_2 : Int) (v0_3 : (List Int)) : St := ([.yld 3, .ptr 2 0, .any, .v (.int .i64 v0_0), .any, .any, .any, .any, .any, .any, .any, .any, .any, .any, .any, .any, .any, .any, .any], [some (.cells [.sl (.int .i64) v0_1] 96), some (.cells [.v (.int .i64 v0_2)] 3), some (.cells [.sl (.int .i64) v0_3] 96), some (.rnd ⟨[.any, .any, .any, .ptr 0 0, .ptr 1 0, .any, .any, .any, .any, .any, .any, .any, .any, .any, .any, .any, .any, .any, .any, .any, .any, .any, .any, .any, .any, .any, .any, .any, .any, .any, .any, .any, .any], 155, 0, .ready, none⟩)])
noncomputable def bigint_order.X0 (w0 : (List Int)) (w1 : Int) (w2 : (List Int)) : St := ([.any, .any, .any, .any, .any, .any, .any, .any, .any, .any, .any, .any, .any, .any, .any, .any, .any, .any, .any], [some (.cells [.sl (.int .i64) w0] 96), some (.cells [.v (.int .i64 w1)] 3), some (.cells [.sl (.int .i64) w2] 96), some (.rnd ⟨[.any, .any, .any, .ptr 0 0, .ptr 1 0, .any, .any, .any, .any, .any, .any, .any, .any, .any, .any, .any, .any, .any, .any, .any, .any, .any, .any, .any, .any, .any, .any, .any, .any, .any, .any, .any, .any], 155, 0, .done, (some .ret)⟩)])
noncomputable def bigint_order.X1 (w0 : (List Int)) (w1 : Int) (w2 : (List Int)) : St := ([.any, .any, .any, .any, .any, .any, .any, .any, .any, .any, .any, .any, .any, .any, .any, .any, .any, .any, .any], [some (.cells [.sl (.int .i64) w0] 96), some (.cells [.v (.int .i64 w1)] 3), some (.cells [.sl (.int .i64) w2] 96), some (.rnd ⟨[.any, .any, .any, .ptr 0 0, .ptr 1 0, .any, .any, .any, .any, .any, .any, .any, .any, .any, .any, .any, .any, .any, .any, .any, .any, .any, .any, .any, .any, .any, .any, .any, .any, .any, .any, .any, .any], 155, 0, .ready, none⟩)])
noncomputable def bigint_order.m0 : (st : St) → Option {x : Int × (List Int) × Int × (List Int) × Unit // st = bigint_order.S0 x.1 x.2.1 x.2.2.1 x.2.2.2.1}
  | (((.yld 3) :: (.ptr 2 0) :: .any :: (.v (.int .i64 v0_0)) :: .any :: .any :: .any :: .any :: .any :: .any :: .any :: .any :: .any :: .any :: .any :: .any :: .any :: .any :: .any :: []), ((some (.cells ((.sl (.int .i64) v0_1) :: []) 96)) :: (some (.cells ((.v (.int .i64 v0_2)) :: []) 3)) :: (some (.cells ((.sl (.int .i64) v0_3) :: []) 96)) :: (some (.rnd ⟨(.any :: .any :: .any :: (.ptr 0 0) :: (.ptr 1 0) :: .any :: .any :: .any :: .any :: .any :: .any :: .any :: .any :: .any :: .any :: .any :: .any :: .any :: .any :: .any :: .any :: .any :: .any :: .any :: .any :: .any :: .any :: .any :: .any :: .any :: .any :: .any :: .any :: []), 155, 0, .ready, none⟩)) :: [])) => some ⟨(v0_0, v0_1, v0_2, v0_3, ()), rfl⟩
  | _ => none
noncomputable def bigint_order.o0 (v0_1 : (List Int)) (v0_2 : Int) (v0_3 : (List Int)) (y : Bool × (Int × Unit) × (Unit) × Unit) : Alt := .two y.1 (.one .ret (bigint_order.X0 v0_1 y.2.1.1 v0_3)) (.one (.exit 0) (bigint_order.X1 v0_1 v0_2 v0_3))
noncomputable def bigint_order.tb (lf : Nat) : List (FuncId × Entry) := []
noncomputable def bigint_order.s12_202 (lf : Nat) : Sums := fun li st => match li with
  | 0 => ((bigint_order.m0 st).map fun p => (⟨Bool × (Int × Unit) × (Unit) × Unit, bigint_order.l0 lf p.1.2.1 p.1.2.2.1 p.1.2.2.2.1 (lf + 40) p.1.1, bigint_order.o0 p.1.2.1 p.1.2.2.1 p.1.2.2.2.1⟩ : LTE))
  | _ => none
noncomputable def bigint_order.ls (lf : Nat) : List (Nat × FuncId × Sums) := [(12, 202, bigint_order.s12_202 lf)]
noncomputable def bigint_order.dr (lf : Nat) (ρ : Type) : Draws ρ := drawA Proofs.Tryz.prog (lookT (bigint_order.tb lf)) 0 fun n => clQ Proofs.Tryz.prog bigint_order.anns (lookT (bigint_order.tb lf)) (lf + 40) 14 6 n ρ
noncomputable def bigint_order.it0 {ρ : Type} (lf n : Nat) (st : St) (k : KE ρ) : Option ρ := iterK (nrmS 0 ((bigint_order.anns 202).ann 0).1 4) (nrmS 0 ((bigint_order.anns 202).ann 0).2 4) (codeK Proofs.Tryz.prog 202 (bigint_order.anns 202).ann (bigint_order.s12_202 lf) (bigint_order.dr lf ρ) (goK Proofs.Tryz.prog bigint_order.anns (lsOf (bigint_order.ls lf)) (bigint_order.dr lf ρ) (lookT (bigint_order.tb lf)) 0 (lf + 40) 12) 0 (lf + 40) none 1 (loopP Proofs.Tryz.prog 202 0)) n st k
theorem bigint_order.t0 {ρ : Type} (lf n : Nat) (v0_0 : Int) (v0_1 : (List Int)) (v0_2 : Int) (v0_3 : (List Int)) (k : KE ρ) : bigint_order.it0 lf (n + 1) (bigint_order.S0 v0_0 v0_1 v0_2 v0_3) k =
  br (decide (v0_0 ≥ 0)) (
   bd (idxL v0_3 v0_0) fun y1 =>
   bd (idxL v0_1 v0_0) fun y2 =>
   br (y1 != y2) (
    bd (idxL v0_1 v0_0) fun y3 =>
    k .ret (bigint_order.X0 v0_1 (IntKind.i64.wrap (y1 - y3)) v0_3)) (
    bigint_order.it0 lf n (bigint_order.S0 (IntKind.i64.wrap (v0_0 - 1)) v0_1 v0_2 v0_3) k)) (
   k (.exit 0) (bigint_order.X1 v0_1 v0_2 v0_3)) := by kernel_rfl
theorem bigint_order.u0 {ρ : Type} (lf : Nat) (v0_1 : (List Int)) (v0_2 : Int) (v0_3 : (List Int)) (k : KE ρ) : ∀ (n : Nat) (v0_0 : Int), bigint_order.it0 lf n (bigint_order.S0 v0_0 v0_1 v0_2 v0_3) k = bd (bigint_order.l0 lf v0_1 v0_2 v0_3 n v0_0) fun y => altK k (bigint_order.o0 v0_1 v0_2 v0_3 y)
  | 0, _ => by rw [bigint_order.l0, bd_none]; rfl
  | n + 1, v0_0 => by
    rw [bigint_order.t0]; simp only [bigint_order.l0, bigint_order.u0 lf v0_1 v0_2 v0_3 k n, bd_br, bd_bd, bd_some', bd_none, br_t, br_f, bigint_order.o0, altK]
theorem bigint_order.a12_202 (lf : Nat) (ρ : Type) : ∀ i, LsAt ρ Proofs.Tryz.prog 202 (bigint_order.anns 202).ann (bigint_order.s12_202 lf) (bigint_order.dr lf ρ) (goK Proofs.Tryz.prog bigint_order.anns (lsOf (bigint_order.ls lf)) (bigint_order.dr lf ρ) (lookT (bigint_order.tb lf)) 0 (lf + 40) 12) 0 (lf + 40) none i (loopP Proofs.Tryz.prog 202 i)
  | 0 => by
    intro st T h k r he
    obtain ⟨p, _, rfl⟩ := Option.map_eq_some_iff.1 h
    obtain ⟨x, rfl⟩ := p
    exact (bigint_order.u0 lf _ _ _ k (lf + 40) _).trans he
  | _ + 1 => lsAt_none rfl
theorem bigint_order.sums (lf : Nat) (ρ : Type) : SumsOK ρ Proofs.Tryz.prog bigint_order.anns (lsOf (bigint_order.ls lf)) (bigint_order.dr lf ρ) (lookT (bigint_order.tb lf)) 0 (lf + 40) := by
  refine sumsOK_of rfl fun p hp => ?_
  simp only [bigint_order.ls, List.mem_cons, List.not_mem_nil, or_false] at hp
  subst hp
  exact bigint_order.a12_202 lf ρ
noncomputable def bigint_order.f (lf : Nat) (a0 : (List Int)) (a1 : (List Int)) : Option (Int × Unit) :=
 br (((a0.length : Nat) : Int) != ((a1.length : Nat) : Int)) (
  some ((IntKind.i64.wrap (((a0.length : Nat) : Int) - ((a1.length : Nat) : Int))), ())) (
  bd (bigint_order.l0 lf a1 0 a0 (lf + 40) (IntKind.i64.wrap (((a0.length : Nat) : Int) - 1))) fun z4 =>
  br z4.1 (
   some (z4.2.1.1, ())) (
   some (0, ())))
noncomputable def bigint_order.E (lf : Nat) : Entry := ⟨[(.sl (.int .i64)), (.sl (.int .i64))], [(.int .i64)], fun x => bigint_order.f lf x.1 x.2.1⟩
theorem bigint_order.ev (lf : Nat) (x : Tys (bigint_order.E lf).ps) : (bigint_order.E lf).f x = runQ Proofs.Tryz.prog bigint_order.anns (lsOf (bigint_order.ls lf)) (lookT (bigint_order.tb lf)) (lf + 40) 14 6 155 (bigint_order.E lf).ps (bigint_order.E lf).rs x := by kernel_rfl
theorem bigint_order.ok (lf : Nat) : EntryOK Proofs.Tryz.prog TabG 155 (bigint_order.E lf) := entryL (l := bigint_order.tb lf) lookT_nil (bigint_order.sp) (bigint_order.sums lf _) (bigint_order.ev lf)
end
end Go.Q
