import Derived.Test.YthfphcemoehllaaGreatDoorProg
import Derived.KernelRfl
import Derived.Test.YthfphcemoehllaaGreatDoorE3
import Derived.Test.YthfphcemoehllaaGreatDoorU1
import Derived.Test.YthfphcemoehllaaGreatDoorU2
set_option linter.unusedVariables false
set_option linter.unusedSimpArgs false
set_option linter.unusedSectionVars false
namespace Go.Q
open Go Go.RowKit
open Go.Rx (br bd sIdx sCat sCut iQuo iRem)
set_option linter.unusedVariables false
set_option linter.unusedSimpArgs false
set_option maxRecDepth 100000
noncomputable section
noncomputable def bigint_Add.f (lf : Nat) (a0 : ByteArray) (a1 : ByteArray) : Option (ByteArray × Int × Unit) :=
 bd (bigint_pair.f lf a0 a1) fun r1 =>
 br (r1.2.2.1 != 0) (
  some ((⟨#[]⟩ : ByteArray), r1.2.2.1, ())) (
  bd (bigint_sum.f lf r1.1 r1.2.1) fun r2 =>
  bd (bigint_written.f lf r2.1) fun r3 =>
  some (r3.1, r3.2.1, ()))
noncomputable def bigint_Add.E (lf : Nat) : Entry := ⟨[.str, .str], [.str, (.int .i64)], fun x => bigint_Add.f lf x.1 x.2.1⟩
theorem bigint_Add.ev (lf : Nat) (x : Tys (bigint_Add.E lf).ps) : (bigint_Add.E lf).f x = runQ Proofs.Tryz.prog (fun _ => FA.none) noLs (lookT [(72, bigint_pair.E lf), (74, bigint_sum.E lf), (136, bigint_written.E lf)]) (lf + 40) 14 6 90 (bigint_Add.E lf).ps (bigint_Add.E lf).rs x := by kernel_rfl
theorem bigint_Add.ok (lf : Nat) : EntryOK Proofs.Tryz.prog TabG 90 (bigint_Add.E lf) := entryT (lookT_cons (bigint_pair.ok lf) (lookT_cons (bigint_sum.ok lf) (lookT_cons (bigint_written.ok lf) lookT_nil))) (annsOK_none fun _ => rfl) (bigint_Add.ev lf)
noncomputable def bigint_Sub.f (lf : Nat) (a0 : ByteArray) (a1 : ByteArray) : Option (ByteArray × Int × Unit) :=
 bd (bigint_pair.f lf a0 a1) fun r1 =>
 br (r1.2.2.1 != 0) (
  some ((⟨#[]⟩ : ByteArray), r1.2.2.1, ())) (
  bd (bigint_negated.f lf r1.2.1) fun r2 =>
  bd (bigint_sum.f lf r1.1 r2.1) fun r3 =>
  bd (bigint_written.f lf r3.1) fun r4 =>
  some (r4.1, r4.2.1, ()))
noncomputable def bigint_Sub.E (lf : Nat) : Entry := ⟨[.str, .str], [.str, (.int .i64)], fun x => bigint_Sub.f lf x.1 x.2.1⟩
theorem bigint_Sub.ev (lf : Nat) (x : Tys (bigint_Sub.E lf).ps) : (bigint_Sub.E lf).f x = runQ Proofs.Tryz.prog (fun _ => FA.none) noLs (lookT [(72, bigint_pair.E lf), (74, bigint_sum.E lf), (75, bigint_negated.E lf), (136, bigint_written.E lf)]) (lf + 40) 14 6 91 (bigint_Sub.E lf).ps (bigint_Sub.E lf).rs x := by kernel_rfl
theorem bigint_Sub.ok (lf : Nat) : EntryOK Proofs.Tryz.prog TabG 91 (bigint_Sub.E lf) := entryT (lookT_cons (bigint_pair.ok lf) (lookT_cons (bigint_sum.ok lf) (lookT_cons (bigint_negated.ok lf) (lookT_cons (bigint_written.ok lf) lookT_nil)))) (annsOK_none fun _ => rfl) (bigint_Sub.ev lf)
noncomputable def bigint_Neg.f (lf : Nat) (a0 : ByteArray) : Option (ByteArray × Int × Unit) :=
 bd (bigint_Sub.f lf (⟨#[48]⟩ : ByteArray) a0) fun r1 =>
 some (r1.1, r1.2.1, ())
noncomputable def bigint_Neg.E (lf : Nat) : Entry := ⟨[.str], [.str, (.int .i64)], fun x => bigint_Neg.f lf x.1⟩
theorem bigint_Neg.ev (lf : Nat) (x : Tys (bigint_Neg.E lf).ps) : (bigint_Neg.E lf).f x = runQ Proofs.Tryz.prog (fun _ => FA.none) noLs (lookT [(91, bigint_Sub.E lf)]) (lf + 40) 14 6 47 (bigint_Neg.E lf).ps (bigint_Neg.E lf).rs x := by kernel_rfl
theorem bigint_Neg.ok (lf : Nat) : EntryOK Proofs.Tryz.prog TabG 47 (bigint_Neg.E lf) := entryT (lookT_cons (bigint_Sub.ok lf) lookT_nil) (annsOK_none fun _ => rfl) (bigint_Neg.ev lf)
noncomputable def bigint_times.anns : FuncId → FA := fun g => bif g == 172 then ⟨fun li => bif li == 0 then (⟨[0, 2, 3, 4, 6, 7, 8, 9, 10, 11, 12, 13, 14, 15, 16, 20, 21, 22, 23, 24, 25, 26, 27, 28, 29, 30, 31, 32, 33, 34, 35, 36, 37, 38, 39, 40, 41, 42, 43, 44, 45, 46, 47, 48, 49, 50, 51, 52, 53, 54, 55, 56, 57, 58, 59, 60, 61, 62], [], []⟩, ⟨[0, 1, 2, 3, 6, 7, 8, 9, 10, 11, 12, 13, 14, 15, 16, 17, 18, 19, 20, 21, 22, 23, 24, 25, 26, 27, 28, 29, 30, 31, 32, 33, 34, 35, 36, 37, 38, 39, 40, 41, 42, 43, 44, 45, 46, 47, 48, 49, 50, 51, 52, 53, 54, 55, 56, 57, 58, 59, 60, 61, 62], [], []⟩) else bif li == 1 then (⟨[0, 2, 3, 4, 9, 10, 11, 12, 13, 14, 15, 16, 20, 21, 22, 23, 27, 28, 29, 30, 31, 32, 33, 34, 35, 36, 37, 38, 39, 40, 41, 42, 43, 44, 45, 46, 47, 48, 49, 50, 51, 52, 53, 54, 55, 56, 57, 58, 59, 60, 61, 62], [], []⟩, ⟨[0, 2, 3, 7, 9, 10, 11, 12, 13, 14, 15, 16, 20, 21, 22, 23, 24, 25, 26, 27, 28, 29, 30, 31, 32, 33, 34, 35, 36, 37, 38, 39, 40, 41, 42, 43, 44, 45, 46, 47, 48, 49, 50, 51, 52, 53, 54, 55, 56, 57, 58, 59, 60, 61, 62], [], []⟩) else (⟨[], [], []⟩, ⟨[], [], []⟩), none⟩ else FA.none
theorem bigint_times.sp : AnnsOK Proofs.Tryz.prog bigint_times.anns := by
  intro g s h
  unfold bigint_times.anns at h
  by_cases e172 : g = 172
  · subst e172
    cases h
  have e172' : (g == 172) = false := by simpa using e172
  rw [e172', cond_false] at h
  cases h
noncomputable def bigint_times.l1 (lf : Nat) (v1_0 : (List Int)) (v1_1 : Int) (v1_2 : Int) (v1_4 : (List Int)) (v1_5 : Int) (v1_6 : Int) (v1_7 : (List Int)) (v1_8 : Int) : Nat → Int → Int → (List Int) → Option ((Int × (List Int) × Unit) × Unit)
  | 0, _, _, _ => none
  | n + 1, v1_3, v1_9, v1_10 =>
  br (decide (v1_9 < v1_8)) (
   bd (idxL v1_7 v1_9) fun y3 =>
   bd (idxB v1_10.length (IntKind.i64.wrap (v1_1 + v1_9))) fun j4 =>
   bd (v1_10[j4]?) fun y5 =>
   bd (iRem (IntKind.i64.wrap (v1_3 + (IntKind.i64.wrap (y5 + (IntKind.i64.wrap (v1_2 * y3)))))) 1000000000) fun r6 =>
   bd (iQuo .i64 (IntKind.i64.wrap (v1_3 + (IntKind.i64.wrap (y5 + (IntKind.i64.wrap (v1_2 * y3)))))) 1000000000) fun r7 =>
   bd (idxB v1_10.length (IntKind.i64.wrap (v1_1 + v1_9))) fun j8 =>
   bd (upE v1_10 j8 fun _ => some r6) fun l9 =>
   bigint_times.l1 lf v1_0 v1_1 v1_2 v1_4 v1_5 v1_6 v1_7 v1_8 n r7 (IntKind.i64.wrap (v1_9 + 1)) l9) (
   some ((v1_3, v1_10, ()), ()))
noncomputable def bigint_times.S1 (v1_0 : (List Int)) (v1_1 : Int) (v1_2 : Int) (v1_3 : Int) (v1_4 : (List Int)) (v1_5 : Int) (v1_6 : Int) (v1_7 : (List Int)) (v1_8 : Int) (v1_9 : Int) (v1_10 : (List Int)) : St := ([.any, .sl (.int .i64) v1_0, .any, .any, .any, .row 0, .v (.int .i64 v1_1), .v (.int .i64 v1_2), .v (.int .i64 v1_3), .any, .any, .any, .any, .any, .any, .any, .any, .sl (.int .i64) v1_4, .v (.int .i64 v1_5), .v (.int .i64 v1_6), .any, .any, .any, .any, .sl (.int .i64) v1_7, .v (.int .i64 v1_8), .v (.int .i64 v1_9), .any, .any, .any, .any, .any, .any, .any, .any, .any, .any, .any, .any, .any, .any, .any, .any, .any, .any, .any, .any, .any, .any, .any, .any, .any, .any, .any, .any, .any, .any, .any, .any, .any, .any, .any, .any], [some (.row (.int .i64) v1_10 3 false)])
noncomputable def bigint_times.X0 (w0 : (List Int)) (w1 : Int) (w2 : Int) (w3 : (List Int)) (w4 : Int) (w5 : Int) (w6 : (List Int)) : St := ([.any, .sl (.int .i64) w0, .any, .any, .any, .row 0, .v (.int .i64 w1), .any, .v (.int .i64 w2), .any, .any, .any, .any, .any, .any, .any, .any, .sl (.int .i64) w3, .v (.int .i64 w4), .v (.int .i64 w5), .any, .any, .any, .any, .any, .any, .any, .any, .any, .any, .any, .any, .any, .any, .any, .any, .any, .any, .any, .any, .any, .any, .any, .any, .any, .any, .any, .any, .any, .any, .any, .any, .any, .any, .any, .any, .any, .any, .any, .any, .any, .any, .any], [some (.row (.int .i64) w6 3 false)])
noncomputable def bigint_times.m1 : (st : St) → Option {x : (List Int) × Int × Int × Int × (List Int) × Int × Int × (List Int) × Int × Int × (List Int) × Unit // st = bigint_times.S1 x.1 x.2.1 x.2.2.1 x.2.2.2.1 x.2.2.2.2.1 x.2.2.2.2.2.1 x.2.2.2.2.2.2.1 x.2.2.2.2.2.2.2.1 x.2.2.2.2.2.2.2.2.1 x.2.2.2.2.2.2.2.2.2.1 x.2.2.2.2.2.2.2.2.2.2.1}
  | ((.any :: (.sl (.int .i64) v1_0) :: .any :: .any :: .any :: (.row 0) :: (.v (.int .i64 v1_1)) :: (.v (.int .i64 v1_2)) :: (.v (.int .i64 v1_3)) :: .any :: .any :: .any :: .any :: .any :: .any :: .any :: .any :: (.sl (.int .i64) v1_4) :: (.v (.int .i64 v1_5)) :: (.v (.int .i64 v1_6)) :: .any :: .any :: .any :: .any :: (.sl (.int .i64) v1_7) :: (.v (.int .i64 v1_8)) :: (.v (.int .i64 v1_9)) :: .any :: .any :: .any :: .any :: .any :: .any :: .any :: .any :: .any :: .any :: .any :: .any :: .any :: .any :: .any :: .any :: .any :: .any :: .any :: .any :: .any :: .any :: .any :: .any :: .any :: .any :: .any :: .any :: .any :: .any :: .any :: .any :: .any :: .any :: .any :: .any :: []), ((some (.row (.int .i64) v1_10 3 false)) :: [])) => some ⟨(v1_0, v1_1, v1_2, v1_3, v1_4, v1_5, v1_6, v1_7, v1_8, v1_9, v1_10, ()), rfl⟩
  | _ => none
noncomputable def bigint_times.o1 (v1_0 : (List Int)) (v1_1 : Int) (v1_2 : Int) (v1_4 : (List Int)) (v1_5 : Int) (v1_6 : Int) (v1_7 : (List Int)) (v1_8 : Int) (y : (Int × (List Int) × Unit) × Unit) : Alt := .one (.exit 2) (bigint_times.X0 v1_0 v1_1 y.1.1 v1_4 v1_5 v1_6 y.1.2.1)
noncomputable def bigint_times.l0 (lf : Nat) (v0_0 : (List Int)) (v0_1 : (List Int)) (v0_2 : Int) : Nat → Int → (List Int) → Option (((List Int) × Unit) × Unit)
  | 0, _, _ => none
  | n + 1, v0_3, v0_4 =>
  br (decide (v0_3 < v0_2)) (
   bd (idxL v0_1 v0_3) fun y2 =>
   bd (bigint_times.l1 lf v0_0 v0_3 y2 v0_1 v0_2 v0_3 v0_0 ((v0_0.length : Nat) : Int) (lf + 40) 0 0 v0_4) fun z11 =>
   bd (idxB z11.1.2.1.length (IntKind.i64.wrap (v0_3 + ((v0_0.length : Nat) : Int)))) fun j12 =>
   bd (upE z11.1.2.1 j12 fun _ => some z11.1.1) fun l13 =>
   bigint_times.l0 lf v0_0 v0_1 v0_2 n (IntKind.i64.wrap (v0_3 + 1)) l13) (
   some ((v0_4, ()), ()))
noncomputable def bigint_times.S0 (v0_0 : (List Int)) (v0_1 : (List Int)) (v0_2 : Int) (v0_3 : Int) (v0_4 : (List Int)) : St := ([.any, .sl (.int .i64) v0_0, .any, .any, .any, .row 0, .any, .any, .any, .any, .any, .any, .any, .any, .any, .any, .any, .sl (.int .i64) v0_1, .v (.int .i64 v0_2), .v (.int .i64 v0_3), .any, .any, .any, .any, .any, .any, .any, .any, .any, .any, .any, .any, .any, .any, .any, .any, .any, .any, .any, .any, .any, .any, .any, .any, .any, .any, .any, .any, .any, .any, .any, .any, .any, .any, .any, .any, .any, .any, .any, .any, .any, .any, .any], [some (.row (.int .i64) v0_4 3 false)])
noncomputable def bigint_times.X1 (w0 : (List Int)) : St := ([.any, .any, .any, .any, .any, .row 0, .any, .any, .any, .any, .any, .any, .any, .any, .any, .any, .any, .any, .any, .any, .any, .any, .any, .any, .any, .any, .any, .any, .any, .any, .any, .any, .any, .any, .any, .any, .any, .any, .any, .any, .any, .any, .any, .any, .any, .any, .any, .any, .any, .any, .any, .any, .any, .any, .any, .any, .any, .any, .any, .any, .any, .any, .any], [some (.row (.int .i64) w0 3 false)])
noncomputable def bigint_times.m0 : (st : St) → Option {x : (List Int) × (List Int) × Int × Int × (List Int) × Unit // st = bigint_times.S0 x.1 x.2.1 x.2.2.1 x.2.2.2.1 x.2.2.2.2.1}
  | ((.any :: (.sl (.int .i64) v0_0) :: .any :: .any :: .any :: (.row 0) :: .any :: .any :: .any :: .any :: .any :: .any :: .any :: .any :: .any :: .any :: .any :: (.sl (.int .i64) v0_1) :: (.v (.int .i64 v0_2)) :: (.v (.int .i64 v0_3)) :: .any :: .any :: .any :: .any :: .any :: .any :: .any :: .any :: .any :: .any :: .any :: .any :: .any :: .any :: .any :: .any :: .any :: .any :: .any :: .any :: .any :: .any :: .any :: .any :: .any :: .any :: .any :: .any :: .any :: .any :: .any :: .any :: .any :: .any :: .any :: .any :: .any :: .any :: .any :: .any :: .any :: .any :: .any :: []), ((some (.row (.int .i64) v0_4 3 false)) :: [])) => some ⟨(v0_0, v0_1, v0_2, v0_3, v0_4, ()), rfl⟩
  | _ => none
noncomputable def bigint_times.o0 (v0_0 : (List Int)) (v0_1 : (List Int)) (v0_2 : Int) (y : ((List Int) × Unit) × Unit) : Alt := .one (.exit 0) (bigint_times.X1 y.1.1)
noncomputable def bigint_times.tb (lf : Nat) : List (FuncId × Entry) := [(149, bigint_trim.E lf)]
noncomputable def bigint_times.s13_172 (lf : Nat) : Sums := fun li st => match li with
  | 0 => ((bigint_times.m0 st).map fun p => (⟨((List Int) × Unit) × Unit, bigint_times.l0 lf p.1.1 p.1.2.1 p.1.2.2.1 (lf + 40) p.1.2.2.2.1 p.1.2.2.2.2.1, bigint_times.o0 p.1.1 p.1.2.1 p.1.2.2.1⟩ : LTE))
  | 1 => ((bigint_times.m1 st).map fun p => (⟨(Int × (List Int) × Unit) × Unit, bigint_times.l1 lf p.1.1 p.1.2.1 p.1.2.2.1 p.1.2.2.2.2.1 p.1.2.2.2.2.2.1 p.1.2.2.2.2.2.2.1 p.1.2.2.2.2.2.2.2.1 p.1.2.2.2.2.2.2.2.2.1 (lf + 40) p.1.2.2.2.1 p.1.2.2.2.2.2.2.2.2.2.1 p.1.2.2.2.2.2.2.2.2.2.2.1, bigint_times.o1 p.1.1 p.1.2.1 p.1.2.2.1 p.1.2.2.2.2.1 p.1.2.2.2.2.2.1 p.1.2.2.2.2.2.2.1 p.1.2.2.2.2.2.2.2.1 p.1.2.2.2.2.2.2.2.2.1⟩ : LTE))
  | _ => none
noncomputable def bigint_times.ls (lf : Nat) : List (Nat × FuncId × Sums) := [(13, 172, bigint_times.s13_172 lf)]
noncomputable def bigint_times.dr (lf : Nat) (ρ : Type) : Draws ρ := drawA Proofs.Tryz.prog (lookT (bigint_times.tb lf)) 0 fun n => clQ Proofs.Tryz.prog bigint_times.anns (lookT (bigint_times.tb lf)) (lf + 40) 14 6 n ρ
noncomputable def bigint_times.it1 {ρ : Type} (lf n : Nat) (st : St) (k : KE ρ) : Option ρ := iterK (nrmS 0 ((bigint_times.anns 172).ann 1).1 1) (nrmS 0 ((bigint_times.anns 172).ann 1).2 1) (codeK Proofs.Tryz.prog 172 (bigint_times.anns 172).ann (bigint_times.s13_172 lf) (bigint_times.dr lf ρ) (goK Proofs.Tryz.prog bigint_times.anns (lsOf (bigint_times.ls lf)) (bigint_times.dr lf ρ) (lookT (bigint_times.tb lf)) 0 (lf + 40) 13) 0 (lf + 40) none 2 (loopP Proofs.Tryz.prog 172 1)) n st k
theorem bigint_times.t1 {ρ : Type} (lf n : Nat) (v1_0 : (List Int)) (v1_1 : Int) (v1_2 : Int) (v1_3 : Int) (v1_4 : (List Int)) (v1_5 : Int) (v1_6 : Int) (v1_7 : (List Int)) (v1_8 : Int) (v1_9 : Int) (v1_10 : (List Int)) (k : KE ρ) : bigint_times.it1 lf (n + 1) (bigint_times.S1 v1_0 v1_1 v1_2 v1_3 v1_4 v1_5 v1_6 v1_7 v1_8 v1_9 v1_10) k =
  br (decide (v1_9 < v1_8)) (
   bd (idxL v1_7 v1_9) fun y3 =>
   bd (idxB v1_10.length (IntKind.i64.wrap (v1_1 + v1_9))) fun j4 =>
   bd (v1_10[j4]?) fun y5 =>
   bd (iRem (IntKind.i64.wrap (v1_3 + (IntKind.i64.wrap (y5 + (IntKind.i64.wrap (v1_2 * y3)))))) 1000000000) fun r6 =>
   bd (iQuo .i64 (IntKind.i64.wrap (v1_3 + (IntKind.i64.wrap (y5 + (IntKind.i64.wrap (v1_2 * y3)))))) 1000000000) fun r7 =>
   bd (idxB v1_10.length (IntKind.i64.wrap (v1_1 + v1_9))) fun j8 =>
   bd (upE v1_10 j8 fun _ => some r6) fun l9 =>
   bigint_times.it1 lf n (bigint_times.S1 v1_0 v1_1 v1_2 r7 v1_4 v1_5 v1_6 v1_7 v1_8 (IntKind.i64.wrap (v1_9 + 1)) l9) k) (
   k (.exit 2) (bigint_times.X0 v1_0 v1_1 v1_3 v1_4 v1_5 v1_6 v1_10)) := by kernel_rfl
theorem bigint_times.u1 {ρ : Type} (lf : Nat) (v1_0 : (List Int)) (v1_1 : Int) (v1_2 : Int) (v1_4 : (List Int)) (v1_5 : Int) (v1_6 : Int) (v1_7 : (List Int)) (v1_8 : Int) (k : KE ρ) : ∀ (n : Nat) (v1_3 : Int) (v1_9 : Int) (v1_10 : (List Int)), bigint_times.it1 lf n (bigint_times.S1 v1_0 v1_1 v1_2 v1_3 v1_4 v1_5 v1_6 v1_7 v1_8 v1_9 v1_10) k = bd (bigint_times.l1 lf v1_0 v1_1 v1_2 v1_4 v1_5 v1_6 v1_7 v1_8 n v1_3 v1_9 v1_10) fun y => altK k (bigint_times.o1 v1_0 v1_1 v1_2 v1_4 v1_5 v1_6 v1_7 v1_8 y)
  | 0, _, _, _ => by rw [bigint_times.l1, bd_none]; rfl
  | n + 1, v1_3, v1_9, v1_10 => by
    rw [bigint_times.t1]; simp only [bigint_times.l1, bigint_times.u1 lf v1_0 v1_1 v1_2 v1_4 v1_5 v1_6 v1_7 v1_8 k n, bd_br, bd_bd, bd_some', bd_none, br_t, br_f, bigint_times.o1, altK]
noncomputable def bigint_times.it0 {ρ : Type} (lf n : Nat) (st : St) (k : KE ρ) : Option ρ := iterK (nrmS 0 ((bigint_times.anns 172).ann 0).1 1) (nrmS 0 ((bigint_times.anns 172).ann 0).2 1) (codeK Proofs.Tryz.prog 172 (bigint_times.anns 172).ann (bigint_times.s13_172 lf) (bigint_times.dr lf ρ) (goK Proofs.Tryz.prog bigint_times.anns (lsOf (bigint_times.ls lf)) (bigint_times.dr lf ρ) (lookT (bigint_times.tb lf)) 0 (lf + 40) 13) 0 (lf + 40) none 1 (loopP Proofs.Tryz.prog 172 0)) n st k
theorem bigint_times.t0 {ρ : Type} (lf n : Nat) (v0_0 : (List Int)) (v0_1 : (List Int)) (v0_2 : Int) (v0_3 : Int) (v0_4 : (List Int)) (k : KE ρ) : bigint_times.it0 lf (n + 1) (bigint_times.S0 v0_0 v0_1 v0_2 v0_3 v0_4) k =
  br (decide (v0_3 < v0_2)) (
   bd (idxL v0_1 v0_3) fun y2 =>
   bd (bigint_times.l1 lf v0_0 v0_3 y2 v0_1 v0_2 v0_3 v0_0 ((v0_0.length : Nat) : Int) (lf + 40) 0 0 v0_4) fun z11 =>
   bd (idxB z11.1.2.1.length (IntKind.i64.wrap (v0_3 + ((v0_0.length : Nat) : Int)))) fun j12 =>
   bd (upE z11.1.2.1 j12 fun _ => some z11.1.1) fun l13 =>
   bigint_times.it0 lf n (bigint_times.S0 v0_0 v0_1 v0_2 (IntKind.i64.wrap (v0_3 + 1)) l13) k) (
   k (.exit 0) (bigint_times.X1 v0_4)) := by kernel_rfl
theorem bigint_times.u0 {ρ : Type} (lf : Nat) (v0_0 : (List Int)) (v0_1 : (List Int)) (v0_2 : Int) (k : KE ρ) : ∀ (n : Nat) (v0_3 : Int) (v0_4 : (List Int)), bigint_times.it0 lf n (bigint_times.S0 v0_0 v0_1 v0_2 v0_3 v0_4) k = bd (bigint_times.l0 lf v0_0 v0_1 v0_2 n v0_3 v0_4) fun y => altK k (bigint_times.o0 v0_0 v0_1 v0_2 y)
  | 0, _, _ => by rw [bigint_times.l0, bd_none]; rfl
  | n + 1, v0_3, v0_4 => by
    rw [bigint_times.t0]; simp only [bigint_times.l0, bigint_times.u0 lf v0_0 v0_1 v0_2 k n, bd_br, bd_bd, bd_some', bd_none, br_t, br_f, bigint_times.o0, altK]
theorem bigint_times.a13_172 (lf : Nat) (ρ : Type) : ∀ i, LsAt ρ Proofs.Tryz.prog 172 (bigint_times.anns 172).ann (bigint_times.s13_172 lf) (bigint_times.dr lf ρ) (goK Proofs.Tryz.prog bigint_times.anns (lsOf (bigint_times.ls lf)) (bigint_times.dr lf ρ) (lookT (bigint_times.tb lf)) 0 (lf + 40) 13) 0 (lf + 40) none i (loopP Proofs.Tryz.prog 172 i)
  | 0 => by
    intro st T h k r he
    obtain ⟨p, _, rfl⟩ := Option.map_eq_some_iff.1 h
    obtain ⟨x, rfl⟩ := p
    exact (bigint_times.u0 lf _ _ _ k (lf + 40) _ _).trans he
  | 1 => by
    intro st T h k r he
    obtain ⟨p, _, rfl⟩ := Option.map_eq_some_iff.1 h
    obtain ⟨x, rfl⟩ := p
    exact (bigint_times.u1 lf _ _ _ _ _ _ _ _ k (lf + 40) _ _ _).trans he
  | _ + 2 => lsAt_none rfl
theorem bigint_times.sums (lf : Nat) (ρ : Type) : SumsOK ρ Proofs.Tryz.prog bigint_times.anns (lsOf (bigint_times.ls lf)) (bigint_times.dr lf ρ) (lookT (bigint_times.tb lf)) 0 (lf + 40) := by
  refine sumsOK_of rfl fun p hp => ?_
  simp only [bigint_times.ls, List.mem_cons, List.not_mem_nil, or_false] at hp
  subst hp
  exact bigint_times.a13_172 lf ρ
noncomputable def bigint_times.f (lf : Nat) (a0 : (List Int)) (a1 : (List Int)) : Option ((List Int) × Unit) :=
 bd (mkL (IntKind.i64.wrap (((a0.length : Nat) : Int) + ((a1.length : Nat) : Int))) (IntKind.i64.wrap (((a0.length : Nat) : Int) + ((a1.length : Nat) : Int))) 8 0) fun l1 =>
 bd (bigint_times.l0 lf a1 a0 ((a0.length : Nat) : Int) (lf + 40) 0 l1) fun z15 =>
 bd (bigint_trim.f lf z15.1.1) fun r16 =>
 some (r16.1, ())
noncomputable def bigint_times.E (lf : Nat) : Entry := ⟨[(.sl (.int .i64)), (.sl (.int .i64))], [(.sl (.int .i64))], fun x => bigint_times.f lf x.1 x.2.1⟩
theorem bigint_times.ev (lf : Nat) (x : Tys (bigint_times.E lf).ps) : (bigint_times.E lf).f x = runQ Proofs.Tryz.prog bigint_times.anns (lsOf (bigint_times.ls lf)) (lookT (bigint_times.tb lf)) (lf + 40) 14 6 172 (bigint_times.E lf).ps (bigint_times.E lf).rs x := by kernel_rfl
theorem bigint_times.ok (lf : Nat) : EntryOK Proofs.Tryz.prog TabG 172 (bigint_times.E lf) := entryL (l := bigint_times.tb lf) (lookT_cons (bigint_trim.ok lf) lookT_nil) (bigint_times.sp) (bigint_times.sums lf _) (bigint_times.ev lf)
noncomputable def bigint_product.f (lf : Nat) (a0 : (Bool × ((List Int) × Unit))) (a1 : (Bool × ((List Int) × Unit))) : Option ((Bool × ((List Int) × Unit)) × Unit) :=
 bd (bigint_times.f lf a0.2.1 a1.2.1) fun r1 =>
 some (((a0.1 != a1.1), r1.1, ()), ())
noncomputable def bigint_product.E (lf : Nat) : Entry := ⟨[(.pair .bool (.pair (.sl (.int .i64)) .unit)), (.pair .bool (.pair (.sl (.int .i64)) .unit))], [(.pair .bool (.pair (.sl (.int .i64)) .unit))], fun x => bigint_product.f lf x.1 x.2.1⟩
theorem bigint_product.ev (lf : Nat) (x : Tys (bigint_product.E lf).ps) : (bigint_product.E lf).f x = runQ Proofs.Tryz.prog (fun _ => FA.none) noLs (lookT [(172, bigint_times.E lf)]) (lf + 40) 14 6 137 (bigint_product.E lf).ps (bigint_product.E lf).rs x := by kernel_rfl
theorem bigint_product.ok (lf : Nat) : EntryOK Proofs.Tryz.prog TabG 137 (bigint_product.E lf) := entryT (lookT_cons (bigint_times.ok lf) lookT_nil) (annsOK_none fun _ => rfl) (bigint_product.ev lf)
noncomputable def bigint_Mul.f (lf : Nat) (a0 : ByteArray) (a1 : ByteArray) : Option (ByteArray × Int × Unit) :=
 bd (bigint_pair.f lf a0 a1) fun r1 =>
 br (r1.2.2.1 != 0) (
  some ((⟨#[]⟩ : ByteArray), r1.2.2.1, ())) (
  bd (bigint_product.f lf r1.1 r1.2.1) fun r2 =>
  bd (bigint_written.f lf r2.1) fun r3 =>
  some (r3.1, r3.2.1, ()))
noncomputable def bigint_Mul.E (lf : Nat) : Entry := ⟨[.str, .str], [.str, (.int .i64)], fun x => bigint_Mul.f lf x.1 x.2.1⟩
theorem bigint_Mul.ev (lf : Nat) (x : Tys (bigint_Mul.E lf).ps) : (bigint_Mul.E lf).f x = runQ Proofs.Tryz.prog (fun _ => FA.none) noLs (lookT [(72, bigint_pair.E lf), (136, bigint_written.E lf), (137, bigint_product.E lf)]) (lf + 40) 14 6 92 (bigint_Mul.E lf).ps (bigint_Mul.E lf).rs x := by kernel_rfl
theorem bigint_Mul.ok (lf : Nat) : EntryOK Proofs.Tryz.prog TabG 92 (bigint_Mul.E lf) := entryT (lookT_cons (bigint_pair.ok lf) (lookT_cons (bigint_written.ok lf) (lookT_cons (bigint_product.ok lf) lookT_nil))) (annsOK_none fun _ => rfl) (bigint_Mul.ev lf)
noncomputable def bigint_short.anns : FuncId → FA := fun g => bif g == 202 then ⟨fun li => bif li == 0 then (⟨[2, 4, 5, 6, 7, 8, 9, 10, 11, 12, 13, 14, 15, 16, 17, 18], [], []⟩, ⟨[0, 1, 2, 3, 4, 5, 6, 7, 8, 9, 10, 11, 12, 13, 14, 15, 16, 17, 18], [], []⟩) else (⟨[], [], []⟩, ⟨[], [], []⟩), none⟩ else bif g == 222 then ⟨fun li => bif li == 0 then (⟨[0, 1, 2, 4, 5, 8, 9, 10, 11, 12, 13, 14, 15, 16, 17, 18, 19, 20, 21, 22, 23, 24, 25, 26, 27, 28, 29, 30, 31, 32], [], []⟩, ⟨[], [], []⟩) else (⟨[], [], []⟩, ⟨[], [], []⟩), none⟩ else FA.none
theorem bigint_short.sp : AnnsOK Proofs.Tryz.prog bigint_short.anns := by
  intro g s h
  unfold bigint_short.anns at h
  by_cases e202 : g = 202
  · subst e202
    cases h
  have e202' : (g == 202) = false := by simpa using e202
  rw [e202', cond_false] at h
  by_cases e222 : g = 222
  · subst e222
    cases h
  have e222' : (g == 222) = false := by simpa using e222
  rw [e222', cond_false] at h
  cases h
noncomputable def bigint_short.l0 (lf : Nat) (v0_1 : Int) (v0_4 : (List Int)) : Nat → Int → (List Int) → Int → Option (((List Int) × Int × Unit) × Unit)
  | 0, _, _, _ => none
  | n + 1, v0_0, v0_2, v0_3 =>
  br (decide (v0_0 ≥ 0)) (
   bd (idxL v0_4 v0_0) fun y2 =>
   bd (iQuo .i64 (IntKind.i64.wrap ((IntKind.i64.wrap (v0_3 * 1000000000)) + y2)) v0_1) fun r3 =>
   bd (iRem (IntKind.i64.wrap ((IntKind.i64.wrap (v0_3 * 1000000000)) + y2)) v0_1) fun r4 =>
   bd (idxB v0_2.length v0_0) fun j5 =>
   bd (upE v0_2 j5 fun _ => some r3) fun l6 =>
   bigint_short.l0 lf v0_1 v0_4 n (IntKind.i64.wrap (v0_0 - 1)) l6 r4) (
   some ((v0_2, v0_3, ()), ()))
noncomputable def bigint_short.S0 (v0_0 : Int) (v0_1 : Int) (v0_2 : (List Int)) (v0_3 : Int) (v0_4 : (List Int)) : St := ([.yld 5, .ptr 4 0, .any, .v (.int .i64 v0_0), .any, .any, .any, .any, .any, .any, .any, .any, .any, .any, .any, .any, .any, .any, .any], [some (.cells [.v (.int .i64 v0_1)] 3), some (.row (.int .i64) v0_2 3 false), some (.cells [.row 1] 96), some (.cells [.v (.int .i64 v0_3)] 3), some (.cells [.sl (.int .i64) v0_4] 96), some (.rnd ⟨[.any, .any, .any, .ptr 0 0, .any, .any, .ptr 2 0, .ptr 3 0, .any, .any, .any, .any, .any, .any, .any, .any, .any, .any, .any, .any, .any, .any, .any, .any, .any, .any, .any, .any, .any, .any, .any, .any, .any], 222, 0, .ready, none⟩)])
noncomputable def bigint_short.X0 (w0 : Int) (w1 : (List Int)) (w2 : Int) (w3 : (List Int)) : St := ([.any, .any, .any, .any, .any, .any, .any, .any, .any, .any, .any, .any, .any, .any, .any, .any, .any, .any, .any], [some (.cells [.v (.int .i64 w0)] 3), some (.row (.int .i64) w1 3 false), some (.cells [.row 1] 96), some (.cells [.v (.int .i64 w2)] 3), some (.cells [.sl (.int .i64) w3] 96), some (.rnd ⟨[.any, .any, .any, .ptr 0 0, .any, .any, .ptr 2 0, .ptr 3 0, .any, .any, .any, .any, .any, .any, .any, .any, .any, .any, .any, .any, .any, .any, .any, .any, .any, .any, .any, .any, .any, .any, .any, .any, .any], 222, 0, .ready, none⟩)])
noncomputable def bigint_short.m0 : (st : St) → Option {x : Int × Int × (List Int) × Int × (List Int) × Unit // st = bigint_short.S0 x.1 x.2.1 x.2.2.1 x.2.2.2.1 x.2.2.2.2.1}
  | (((.yld 5) :: (.ptr 4 0) :: .any :: (.v (.int .i64 v0_0)) :: .any :: .any :: .any :: .any :: .any :: .any :: .any :: .any :: .any :: .any :: .any :: .any :: .any :: .any :: .any :: []), ((some (.cells ((.v (.int .i64 v0_1)) :: []) 3)) :: (some (.row (.int .i64) v0_2 3 false)) :: (some (.cells ((.row 1) :: []) 96)) :: (some (.cells ((.v (.int .i64 v0_3)) :: []) 3)) :: (some (.cells ((.sl (.int .i64) v0_4) :: []) 96)) :: (some (.rnd ⟨(.any :: .any :: .any :: (.ptr 0 0) :: .any :: .any :: (.ptr 2 0) :: (.ptr 3 0) :: .any :: .any :: .any :: .any :: .any :: .any :: .any :: .any :: .any :: .any :: .any :: .any :: .any :: .any :: .any :: .any :: .any :: .any :: .any :: .any :: .any :: .any :: .any :: .any :: .any :: []), 222, 0, .ready, none⟩)) :: [])) => some ⟨(v0_0, v0_1, v0_2, v0_3, v0_4, ()), rfl⟩
  | _ => none
noncomputable def bigint_short.o0 (v0_1 : Int) (v0_4 : (List Int)) (y : ((List Int) × Int × Unit) × Unit) : Alt := .one (.exit 0) (bigint_short.X0 v0_1 y.1.1 y.1.2.1 v0_4)
noncomputable def bigint_short.tb (lf : Nat) : List (FuncId × Entry) := [(149, bigint_trim.E lf)]
noncomputable def bigint_short.s12_202 (lf : Nat) : Sums := fun li st => match li with
  | 0 => ((bigint_short.m0 st).map fun p => (⟨((List Int) × Int × Unit) × Unit, bigint_short.l0 lf p.1.2.1 p.1.2.2.2.2.1 (lf + 40) p.1.1 p.1.2.2.1 p.1.2.2.2.1, bigint_short.o0 p.1.2.1 p.1.2.2.2.2.1⟩ : LTE))
  | _ => none
noncomputable def bigint_short.ls (lf : Nat) : List (Nat × FuncId × Sums) := [(12, 202, bigint_short.s12_202 lf)]
noncomputable def bigint_short.dr (lf : Nat) (ρ : Type) : Draws ρ := drawA Proofs.Tryz.prog (lookT (bigint_short.tb lf)) 0 fun n => clQ Proofs.Tryz.prog bigint_short.anns (lookT (bigint_short.tb lf)) (lf + 40) 14 6 n ρ
noncomputable def bigint_short.it0 {ρ : Type} (lf n : Nat) (st : St) (k : KE ρ) : Option ρ := iterK (nrmS 0 ((bigint_short.anns 202).ann 0).1 6) (nrmS 0 ((bigint_short.anns 202).ann 0).2 6) (codeK Proofs.Tryz.prog 202 (bigint_short.anns 202).ann (bigint_short.s12_202 lf) (bigint_short.dr lf ρ) (goK Proofs.Tryz.prog bigint_short.anns (lsOf (bigint_short.ls lf)) (bigint_short.dr lf ρ) (lookT (bigint_short.tb lf)) 0 (lf + 40) 12) 0 (lf + 40) none 1 (loopP Proofs.Tryz.prog 202 0)) n st k
theorem bigint_short.t0 {ρ : Type} (lf n : Nat) (v0_0 : Int) (v0_1 : Int) (v0_2 : (List Int)) (v0_3 : Int) (v0_4 : (List Int)) (k : KE ρ) : bigint_short.it0 lf (n + 1) (bigint_short.S0 v0_0 v0_1 v0_2 v0_3 v0_4) k =
  br (decide (v0_0 ≥ 0)) (
   bd (idxL v0_4 v0_0) fun y2 =>
   bd (iQuo .i64 (IntKind.i64.wrap ((IntKind.i64.wrap (v0_3 * 1000000000)) + y2)) v0_1) fun r3 =>
   bd (iRem (IntKind.i64.wrap ((IntKind.i64.wrap (v0_3 * 1000000000)) + y2)) v0_1) fun r4 =>
   bd (idxB v0_2.length v0_0) fun j5 =>
   bd (upE v0_2 j5 fun _ => some r3) fun l6 =>
   bigint_short.it0 lf n (bigint_short.S0 (IntKind.i64.wrap (v0_0 - 1)) v0_1 l6 r4 v0_4) k) (
   k (.exit 0) (bigint_short.X0 v0_1 v0_2 v0_3 v0_4)) := by kernel_rfl
theorem bigint_short.u0 {ρ : Type} (lf : Nat) (v0_1 : Int) (v0_4 : (List Int)) (k : KE ρ) : ∀ (n : Nat) (v0_0 : Int) (v0_2 : (List Int)) (v0_3 : Int), bigint_short.it0 lf n (bigint_short.S0 v0_0 v0_1 v0_2 v0_3 v0_4) k = bd (bigint_short.l0 lf v0_1 v0_4 n v0_0 v0_2 v0_3) fun y => altK k (bigint_short.o0 v0_1 v0_4 y)
  | 0, _, _, _ => by rw [bigint_short.l0, bd_none]; rfl
  | n + 1, v0_0, v0_2, v0_3 => by
    rw [bigint_short.t0]; simp only [bigint_short.l0, bigint_short.u0 lf v0_1 v0_4 k n, bd_br, bd_bd, bd_some', bd_none, br_t, br_f, bigint_short.o0, altK]
theorem bigint_short.a12_202 (lf : Nat) (ρ : Type) : ∀ i, LsAt ρ Proofs.Tryz.prog 202 (bigint_short.anns 202).ann (bigint_short.s12_202 lf) (bigint_short.dr lf ρ) (goK Proofs.Tryz.prog bigint_short.anns (lsOf (bigint_short.ls lf)) (bigint_short.dr lf ρ) (lookT (bigint_short.tb lf)) 0 (lf + 40) 12) 0 (lf + 40) none i (loopP Proofs.Tryz.prog 202 i)
  | 0 => by
    intro st T h k r he
    obtain ⟨p, _, rfl⟩ := Option.map_eq_some_iff.1 h
    obtain ⟨x, rfl⟩ := p
    exact (bigint_short.u0 lf _ _ k (lf + 40) _ _ _).trans he
  | _ + 1 => lsAt_none rfl
theorem bigint_short.sums (lf : Nat) (ρ : Type) : SumsOK ρ Proofs.Tryz.prog bigint_short.anns (lsOf (bigint_short.ls lf)) (bigint_short.dr lf ρ) (lookT (bigint_short.tb lf)) 0 (lf + 40) := by
  refine sumsOK_of rfl fun p hp => ?_
  simp only [bigint_short.ls, List.mem_cons, List.not_mem_nil, or_false] at hp
  subst hp
  exact bigint_short.a12_202 lf ρ
noncomputable def bigint_short.f (lf : Nat) (a0 : (List Int)) (a1 : Int) : Option ((List Int) × Int × Unit) :=
 bd (mkL ((a0.length : Nat) : Int) ((a0.length : Nat) : Int) 8 0) fun l1 =>
 bd (bigint_short.l0 lf a1 a0 (lf + 40) (IntKind.i64.wrap (((a0.length : Nat) : Int) - 1)) l1 0) fun z8 =>
 bd (bigint_trim.f lf z8.1.1) fun r9 =>
 some (r9.1, z8.1.2.1, ())
noncomputable def bigint_short.E (lf : Nat) : Entry := ⟨[(.sl (.int .i64)), (.int .i64)], [(.sl (.int .i64)), (.int .i64)], fun x => bigint_short.f lf x.1 x.2.1⟩
theorem bigint_short.ev (lf : Nat) (x : Tys (bigint_short.E lf).ps) : (bigint_short.E lf).f x = runQ Proofs.Tryz.prog bigint_short.anns (lsOf (bigint_short.ls lf)) (lookT (bigint_short.tb lf)) (lf + 40) 14 6 222 (bigint_short.E lf).ps (bigint_short.E lf).rs x := by kernel_rfl
theorem bigint_short.ok (lf : Nat) : EntryOK Proofs.Tryz.prog TabG 222 (bigint_short.E lf) := entryL (l := bigint_short.tb lf) (lookT_cons (bigint_trim.ok lf) lookT_nil) (bigint_short.sp) (bigint_short.sums lf _) (bigint_short.ev lf)
noncomputable def bigint_divide.f (lf : Nat) (a0 : (List Int)) (a1 : (List Int)) : Option ((List Int) × (List Int) × Unit) :=
 bd (bigint_order.f lf a0 a1) fun r1 =>
 br (decide (r1.1 < 0)) (
  some ([], a0, ())) (
  br (((a1.length : Nat) : Int) == 1) (
   bd (idxL a1 0) fun y2 =>
   bd (bigint_short.f lf a0 y2) fun r3 =>
   bd (bigint_trim.f lf [r3.2.1]) fun r4 =>
   some (r3.1, r4.1, ())) (
   bd (idxL a1 (IntKind.i64.wrap (((a1.length : Nat) : Int) - 1))) fun y5 =>
   bd (iQuo .i64 1000000000 (IntKind.i64.wrap (y5 + 1))) fun r6 =>
   bd (bigint_times.f lf a0 [r6]) fun r7 =>
   none))
noncomputable def bigint_divide.E (lf : Nat) : Entry := ⟨[(.sl (.int .i64)), (.sl (.int .i64))], [(.sl (.int .i64)), (.sl (.int .i64))], fun x => bigint_divide.f lf x.1 x.2.1⟩
theorem bigint_divide.ev (lf : Nat) (x : Tys (bigint_divide.E lf).ps) : (bigint_divide.E lf).f x = runQ Proofs.Tryz.prog (fun _ => FA.none) noLs (lookT [(149, bigint_trim.E lf), (155, bigint_order.E lf), (172, bigint_times.E lf), (222, bigint_short.E lf)]) (lf + 40) 14 6 198 (bigint_divide.E lf).ps (bigint_divide.E lf).rs x := by kernel_rfl
theorem bigint_divide.ok (lf : Nat) : EntryOK Proofs.Tryz.prog TabG 198 (bigint_divide.E lf) := entryT (lookT_cons (bigint_trim.ok lf) (lookT_cons (bigint_order.ok lf) (lookT_cons (bigint_times.ok lf) (lookT_cons (bigint_short.ok lf) lookT_nil)))) (annsOK_none fun _ => rfl) (bigint_divide.ev lf)
noncomputable def bigint_quotient.f (lf : Nat) (a0 : (Bool × ((List Int) × Unit))) (a1 : (Bool × ((List Int) × Unit))) : Option ((Bool × ((List Int) × Unit)) × (Bool × ((List Int) × Unit)) × Unit) :=
 bd (bigint_divide.f lf a0.2.1 a1.2.1) fun r1 =>
 br (a0.1 == a1.1) (
  some ((false, r1.1, ()), (a1.1, r1.2.1, ()), ())) (
  br (decide (((r1.2.1.length : Nat) : Int) > 0)) (
   bd (bigint_plus.f lf r1.1 [1]) fun r2 =>
   bd (bigint_minus.f lf a1.2.1 r1.2.1) fun r3 =>
   some ((true, r2.1, ()), (a1.1, r3.1, ()), ())) (
   some ((true, r1.1, ()), (a1.1, r1.2.1, ()), ())))
noncomputable def bigint_quotient.E (lf : Nat) : Entry := ⟨[(.pair .bool (.pair (.sl (.int .i64)) .unit)), (.pair .bool (.pair (.sl (.int .i64)) .unit))], [(.pair .bool (.pair (.sl (.int .i64)) .unit)), (.pair .bool (.pair (.sl (.int .i64)) .unit))], fun x => bigint_quotient.f lf x.1 x.2.1⟩
theorem bigint_quotient.ev (lf : Nat) (x : Tys (bigint_quotient.E lf).ps) : (bigint_quotient.E lf).f x = runQ Proofs.Tryz.prog (fun _ => FA.none) noLs (lookT [(152, bigint_plus.E lf), (156, bigint_minus.E lf), (198, bigint_divide.E lf)]) (lf + 40) 14 6 173 (bigint_quotient.E lf).ps (bigint_quotient.E lf).rs x := by kernel_rfl
theorem bigint_quotient.ok (lf : Nat) : EntryOK Proofs.Tryz.prog TabG 173 (bigint_quotient.E lf) := entryT (lookT_cons (bigint_plus.ok lf) (lookT_cons (bigint_minus.ok lf) (lookT_cons (bigint_divide.ok lf) lookT_nil))) (annsOK_none fun _ => rfl) (bigint_quotient.ev lf)
noncomputable def bigint_divided.f (lf : Nat) (a0 : ByteArray) (a1 : ByteArray) : Option (ByteArray × ByteArray × Int × Unit) :=
 bd (bigint_pair.f lf a0 a1) fun r1 =>
 br (r1.2.2.1 != 0) (
  some ((⟨#[]⟩ : ByteArray), (⟨#[]⟩ : ByteArray), r1.2.2.1, ())) (
  br (((r1.2.1.2.1.length : Nat) : Int) == 0) (
   some ((⟨#[]⟩ : ByteArray), (⟨#[]⟩ : ByteArray), 19, ())) (
   bd (bigint_quotient.f lf r1.1 r1.2.1) fun r2 =>
   bd (bigint_number_text.f lf r2.1) fun r3 =>
   bd (bigint_number_text.f lf r2.2.1) fun r4 =>
   some (r3.1, r4.1, 0, ())))
noncomputable def bigint_divided.E (lf : Nat) : Entry := ⟨[.str, .str], [.str, .str, (.int .i64)], fun x => bigint_divided.f lf x.1 x.2.1⟩
theorem bigint_divided.ev (lf : Nat) (x : Tys (bigint_divided.E lf).ps) : (bigint_divided.E lf).f x = runQ Proofs.Tryz.prog (fun _ => FA.none) noLs (lookT [(72, bigint_pair.E lf), (171, bigint_number_text.E lf), (173, bigint_quotient.E lf)]) (lf + 40) 14 6 138 (bigint_divided.E lf).ps (bigint_divided.E lf).rs x := by kernel_rfl
theorem bigint_divided.ok (lf : Nat) : EntryOK Proofs.Tryz.prog TabG 138 (bigint_divided.E lf) := entryT (lookT_cons (bigint_pair.ok lf) (lookT_cons (bigint_number_text.ok lf) (lookT_cons (bigint_quotient.ok lf) lookT_nil))) (annsOK_none fun _ => rfl) (bigint_divided.ev lf)
noncomputable def bigint_Quo.f (lf : Nat) (a0 : ByteArray) (a1 : ByteArray) : Option (ByteArray × Int × Unit) :=
 bd (bigint_divided.f lf a0 a1) fun r1 =>
 some (r1.1, r1.2.2.1, ())
noncomputable def bigint_Quo.E (lf : Nat) : Entry := ⟨[.str, .str], [.str, (.int .i64)], fun x => bigint_Quo.f lf x.1 x.2.1⟩
theorem bigint_Quo.ev (lf : Nat) (x : Tys (bigint_Quo.E lf).ps) : (bigint_Quo.E lf).f x = runQ Proofs.Tryz.prog (fun _ => FA.none) noLs (lookT [(138, bigint_divided.E lf)]) (lf + 40) 14 6 93 (bigint_Quo.E lf).ps (bigint_Quo.E lf).rs x := by kernel_rfl
theorem bigint_Quo.ok (lf : Nat) : EntryOK Proofs.Tryz.prog TabG 93 (bigint_Quo.E lf) := entryT (lookT_cons (bigint_divided.ok lf) lookT_nil) (annsOK_none fun _ => rfl) (bigint_Quo.ev lf)
noncomputable def bigint_Rem.f (lf : Nat) (a0 : ByteArray) (a1 : ByteArray) : Option (ByteArray × Int × Unit) :=
 bd (bigint_divided.f lf a0 a1) fun r1 =>
 some (r1.2.1, r1.2.2.1, ())
noncomputable def bigint_Rem.E (lf : Nat) : Entry := ⟨[.str, .str], [.str, (.int .i64)], fun x => bigint_Rem.f lf x.1 x.2.1⟩
theorem bigint_Rem.ev (lf : Nat) (x : Tys (bigint_Rem.E lf).ps) : (bigint_Rem.E lf).f x = runQ Proofs.Tryz.prog (fun _ => FA.none) noLs (lookT [(138, bigint_divided.E lf)]) (lf + 40) 14 6 94 (bigint_Rem.E lf).ps (bigint_Rem.E lf).rs x := by kernel_rfl
theorem bigint_Rem.ok (lf : Nat) : EntryOK Proofs.Tryz.prog TabG 94 (bigint_Rem.E lf) := entryT (lookT_cons (bigint_divided.ok lf) lookT_nil) (annsOK_none fun _ => rfl) (bigint_Rem.ev lf)
end
end Go.Q
