import Derived.Test.YthfphcemoehllaaGreatDoorProg
import Derived.KernelRfl
import Derived.Test.YthfphcemoehllaaGreatDoorE3
import Derived.Test.YthfphcemoehllaaGreatDoorU1
set_option linter.unusedVariables false
set_option linter.unusedSimpArgs false
set_option linter.unusedSectionVars false
namespace Go.Q
open Go Go.RowKit
open Go.Rx (br bd sIdx sCat sCut iQuo iRem)
set_option linter.unusedVariables false
set_option linter.unusedSimpArgs false
set_option maxRecDepth 100000
noncomputable section
noncomputable def bigint_minus.anns : FuncId → FA := fun g => bif g == 156 then ⟨fun li => bif li == 0 then (⟨[2, 3, 4, 7, 8, 9, 10, 11, 12, 15, 16, 17, 18, 19, 20, 21, 22, 23, 24, 25, 26, 27, 28, 29, 30, 31, 32, 33, 34, 35, 36, 37, 38, 39, 40, 41, 42, 43], [], []⟩, ⟨[0, 1, 2, 3, 6, 7, 8, 9, 10, 11, 12, 13, 14, 15, 16, 17, 18, 19, 20, 21, 22, 23, 24, 25, 26, 27, 28, 29, 30, 31, 32, 33, 34, 35, 36, 37, 38, 39, 40, 41, 42, 43], [], []⟩) else (⟨[], [], []⟩, ⟨[], [], []⟩), none⟩ else FA.none
theorem bigint_minus.sp : AnnsOK Proofs.Tryz.prog bigint_minus.anns := by
  intro g s h
  unfold bigint_minus.anns at h
  by_cases e156 : g = 156
  · subst e156
    cases h
  have e156' : (g == 156) = false := by simpa using e156
  rw [e156', cond_false] at h
  cases h
noncomputable def bigint_minus.l0 (lf : Nat) (v0_0 : (List Int)) (v0_1 : (List Int)) (v0_3 : Int) : Nat → Int → Int → (List Int) → Option (((List Int) × Unit) × Unit)
  | 0, _, _, _ => none
  | n + 1, v0_2, v0_4, v0_5 =>
  br (decide (v0_4 < v0_3)) (
   bd (idxL v0_0 v0_4) fun y2 =>
   br (decide (v0_4 < ((v0_1.length : Nat) : Int))) (
    bd (idxL v0_1 v0_4) fun y3 =>
    br (decide ((IntKind.i64.wrap ((IntKind.i64.wrap (y2 - v0_2)) - y3)) < 0)) (
     bd (idxB v0_5.length v0_4) fun j4 =>
     bd (upE v0_5 j4 fun _ => some (IntKind.i64.wrap ((IntKind.i64.wrap ((IntKind.i64.wrap (y2 - v0_2)) - y3)) + 1000000000))) fun l5 =>
     bigint_minus.l0 lf v0_0 v0_1 v0_3 n 1 (IntKind.i64.wrap (v0_4 + 1)) l5) (
     bd (idxB v0_5.length v0_4) fun j7 =>
     bd (upE v0_5 j7 fun _ => some (IntKind.i64.wrap ((IntKind.i64.wrap (y2 - v0_2)) - y3))) fun l8 =>
     bigint_minus.l0 lf v0_0 v0_1 v0_3 n 0 (IntKind.i64.wrap (v0_4 + 1)) l8)) (
    br (decide ((IntKind.i64.wrap (y2 - v0_2)) < 0)) (
     bd (idxB v0_5.length v0_4) fun j10 =>
     bd (upE v0_5 j10 fun _ => some (IntKind.i64.wrap ((IntKind.i64.wrap (y2 - v0_2)) + 1000000000))) fun l11 =>
     bigint_minus.l0 lf v0_0 v0_1 v0_3 n 1 (IntKind.i64.wrap (v0_4 + 1)) l11) (
     bd (idxB v0_5.length v0_4) fun j13 =>
     bd (upE v0_5 j13 fun _ => some (IntKind.i64.wrap (y2 - v0_2))) fun l14 =>
     bigint_minus.l0 lf v0_0 v0_1 v0_3 n 0 (IntKind.i64.wrap (v0_4 + 1)) l14))) (
   some ((v0_5, ()), ()))
noncomputable def bigint_minus.S0 (v0_0 : (List Int)) (v0_1 : (List Int)) (v0_2 : Int) (v0_3 : Int) (v0_4 : Int) (v0_5 : (List Int)) : St := ([.sl (.int .i64) v0_0, .sl (.int .i64) v0_1, .any, .any, .any, .row 0, .v (.int .i64 v0_2), .any, .any, .any, .any, .any, .any, .v (.int .i64 v0_3), .v (.int .i64 v0_4), .any, .any, .any, .any, .any, .any, .any, .any, .any, .any, .any, .any, .any, .any, .any, .any, .any, .any, .any, .any, .any, .any, .any, .any, .any, .any, .any, .any, .any], [some (.row (.int .i64) v0_5 3 false)])
noncomputable def bigint_minus.X0 (w0 : (List Int)) : St := ([.any, .any, .any, .any, .any, .row 0, .any, .any, .any, .any, .any, .any, .any, .any, .any, .any, .any, .any, .any, .any, .any, .any, .any, .any, .any, .any, .any, .any, .any, .any, .any, .any, .any, .any, .any, .any, .any, .any, .any, .any, .any, .any, .any, .any], [some (.row (.int .i64) w0 3 false)])
noncomputable def bigint_minus.m0 : (st : St) → Option {x : (List Int) × (List Int) × Int × Int × Int × (List Int) × Unit // st = bigint_minus.S0 x.1 x.2.1 x.2.2.1 x.2.2.2.1 x.2.2.2.2.1 x.2.2.2.2.2.1}
  | (((.sl (.int .i64) v0_0) :: (.sl (.int .i64) v0_1) :: .any :: .any :: .any :: (.row 0) :: (.v (.int .i64 v0_2)) :: .any :: .any :: .any :: .any :: .any :: .any :: (.v (.int .i64 v0_3)) :: (.v (.int .i64 v0_4)) :: .any :: .any :: .any :: .any :: .any :: .any :: .any :: .any :: .any :: .any :: .any :: .any :: .any :: .any :: .any :: .any :: .any :: .any :: .any :: .any :: .any :: .any :: .any :: .any :: .any :: .any :: .any :: .any :: .any :: []), ((some (.row (.int .i64) v0_5 3 false)) :: [])) => some ⟨(v0_0, v0_1, v0_2, v0_3, v0_4, v0_5, ()), rfl⟩
  | _ => none
noncomputable def bigint_minus.o0 (v0_0 : (List Int)) (v0_1 : (List Int)) (v0_3 : Int) (y : ((List Int) × Unit) × Unit) : Alt := .one (.exit 0) (bigint_minus.X0 y.1.1)
noncomputable def bigint_minus.tb (lf : Nat) : List (FuncId × Entry) := [(149, bigint_trim.E lf)]
noncomputable def bigint_minus.s13_156 (lf : Nat) : Sums := fun li st => match li with
  | 0 => ((bigint_minus.m0 st).map fun p => (⟨((List Int) × Unit) × Unit, bigint_minus.l0 lf p.1.1 p.1.2.1 p.1.2.2.2.1 (lf + 40) p.1.2.2.1 p.1.2.2.2.2.1 p.1.2.2.2.2.2.1, bigint_minus.o0 p.1.1 p.1.2.1 p.1.2.2.2.1⟩ : LTE))
  | _ => none
noncomputable def bigint_minus.ls (lf : Nat) : List (Nat × FuncId × Sums) := [(13, 156, bigint_minus.s13_156 lf)]
noncomputable def bigint_minus.dr (lf : Nat) (ρ : Type) : Draws ρ := drawA Proofs.Tryz.prog (lookT (bigint_minus.tb lf)) 0 fun n => clQ Proofs.Tryz.prog bigint_minus.anns (lookT (bigint_minus.tb lf)) (lf + 40) 14 6 n ρ
noncomputable def bigint_minus.it0 {ρ : Type} (lf n : Nat) (st : St) (k : KE ρ) : Option ρ := iterK (nrmS 0 ((bigint_minus.anns 156).ann 0).1 1) (nrmS 0 ((bigint_minus.anns 156).ann 0).2 1) (codeK Proofs.Tryz.prog 156 (bigint_minus.anns 156).ann (bigint_minus.s13_156 lf) (bigint_minus.dr lf ρ) (goK Proofs.Tryz.prog bigint_minus.anns (lsOf (bigint_minus.ls lf)) (bigint_minus.dr lf ρ) (lookT (bigint_minus.tb lf)) 0 (lf + 40) 13) 0 (lf + 40) none 1 (loopP Proofs.Tryz.prog 156 0)) n st k
theorem bigint_minus.t0 {ρ : Type} (lf n : Nat) (v0_0 : (List Int)) (v0_1 : (List Int)) (v0_2 : Int) (v0_3 : Int) (v0_4 : Int) (v0_5 : (List Int)) (k : KE ρ) : bigint_minus.it0 lf (n + 1) (bigint_minus.S0 v0_0 v0_1 v0_2 v0_3 v0_4 v0_5) k =
  br (decide (v0_4 < v0_3)) (
   bd (idxL v0_0 v0_4) fun y2 =>
   br (decide (v0_4 < ((v0_1.length : Nat) : Int))) (
    bd (idxL v0_1 v0_4) fun y3 =>
    br (decide ((IntKind.i64.wrap ((IntKind.i64.wrap (y2 - v0_2)) - y3)) < 0)) (
     bd (idxB v0_5.length v0_4) fun j4 =>
     bd (upE v0_5 j4 fun _ => some (IntKind.i64.wrap ((IntKind.i64.wrap ((IntKind.i64.wrap (y2 - v0_2)) - y3)) + 1000000000))) fun l5 =>
     bigint_minus.it0 lf n (bigint_minus.S0 v0_0 v0_1 1 v0_3 (IntKind.i64.wrap (v0_4 + 1)) l5) k) (
     bd (idxB v0_5.length v0_4) fun j7 =>
     bd (upE v0_5 j7 fun _ => some (IntKind.i64.wrap ((IntKind.i64.wrap (y2 - v0_2)) - y3))) fun l8 =>
     bigint_minus.it0 lf n (bigint_minus.S0 v0_0 v0_1 0 v0_3 (IntKind.i64.wrap (v0_4 + 1)) l8) k)) (
    br (decide ((IntKind.i64.wrap (y2 - v0_2)) < 0)) (
     bd (idxB v0_5.length v0_4) fun j10 =>
     bd (upE v0_5 j10 fun _ => some (IntKind.i64.wrap ((IntKind.i64.wrap (y2 - v0_2)) + 1000000000))) fun l11 =>
     bigint_minus.it0 lf n (bigint_minus.S0 v0_0 v0_1 1 v0_3 (IntKind.i64.wrap (v0_4 + 1)) l11) k) (
     bd (idxB v0_5.length v0_4) fun j13 =>
     bd (upE v0_5 j13 fun _ => some (IntKind.i64.wrap (y2 - v0_2))) fun l14 =>
     bigint_minus.it0 lf n (bigint_minus.S0 v0_0 v0_1 0 v0_3 (IntKind.i64.wrap (v0_4 + 1)) l14) k))) (
   k (.exit 0) (bigint_minus.X0 v0_5)) := by kernel_rfl
theorem bigint_minus.u0 {ρ : Type} (lf : Nat) (v0_0 : (List Int)) (v0_1 : (List Int)) (v0_3 : Int) (k : KE ρ) : ∀ (n : Nat) (v0_2 : Int) (v0_4 : Int) (v0_5 : (List Int)), bigint_minus.it0 lf n (bigint_minus.S0 v0_0 v0_1 v0_2 v0_3 v0_4 v0_5) k = bd (bigint_minus.l0 lf v0_0 v0_1 v0_3 n v0_2 v0_4 v0_5) fun y => altK k (bigint_minus.o0 v0_0 v0_1 v0_3 y)
  | 0, _, _, _ => by rw [bigint_minus.l0, bd_none]; rfl
  | n + 1, v0_2, v0_4, v0_5 => by
    rw [bigint_minus.t0]; simp only [bigint_minus.l0, bigint_minus.u0 lf v0_0 v0_1 v0_3 k n, bd_br, bd_bd, bd_some', bd_none, br_t, br_f, bigint_minus.o0, altK]
theorem bigint_minus.a13_156 (lf : Nat) (ρ : Type) : ∀ i, LsAt ρ Proofs.Tryz.prog 156 (bigint_minus.anns 156).ann (bigint_minus.s13_156 lf) (bigint_minus.dr lf ρ) (goK Proofs.Tryz.prog bigint_minus.anns (lsOf (bigint_minus.ls lf)) (bigint_minus.dr lf ρ) (lookT (bigint_minus.tb lf)) 0 (lf + 40) 13) 0 (lf + 40) none i (loopP Proofs.Tryz.prog 156 i)
  | 0 => by
    intro st T h k r he
    obtain ⟨p, _, rfl⟩ := Option.map_eq_some_iff.1 h
    obtain ⟨x, rfl⟩ := p
    exact (bigint_minus.u0 lf _ _ _ k (lf + 40) _ _ _).trans he
  | _ + 1 => lsAt_none rfl
theorem bigint_minus.sums (lf : Nat) (ρ : Type) : SumsOK ρ Proofs.Tryz.prog bigint_minus.anns (lsOf (bigint_minus.ls lf)) (bigint_minus.dr lf ρ) (lookT (bigint_minus.tb lf)) 0 (lf + 40) := by
  refine sumsOK_of rfl fun p hp => ?_
  simp only [bigint_minus.ls, List.mem_cons, List.not_mem_nil, or_false] at hp
  subst hp
  exact bigint_minus.a13_156 lf ρ
noncomputable def bigint_minus.f (lf : Nat) (a0 : (List Int)) (a1 : (List Int)) : Option ((List Int) × Unit) :=
 bd (mkL ((a0.length : Nat) : Int) ((a0.length : Nat) : Int) 8 0) fun l1 =>
 bd (bigint_minus.l0 lf a0 a1 ((l1.length : Nat) : Int) (lf + 40) 0 0 l1) fun z16 =>
 bd (bigint_trim.f lf z16.1.1) fun r17 =>
 some (r17.1, ())
noncomputable def bigint_minus.E (lf : Nat) : Entry := ⟨[(.sl (.int .i64)), (.sl (.int .i64))], [(.sl (.int .i64))], fun x => bigint_minus.f lf x.1 x.2.1⟩
theorem bigint_minus.ev (lf : Nat) (x : Tys (bigint_minus.E lf).ps) : (bigint_minus.E lf).f x = runQ Proofs.Tryz.prog bigint_minus.anns (lsOf (bigint_minus.ls lf)) (lookT (bigint_minus.tb lf)) (lf + 40) 14 6 156 (bigint_minus.E lf).ps (bigint_minus.E lf).rs x := by kernel_rfl
theorem bigint_minus.ok (lf : Nat) : EntryOK Proofs.Tryz.prog TabG 156 (bigint_minus.E lf) := entryL (l := bigint_minus.tb lf) (lookT_cons (bigint_trim.ok lf) lookT_nil) (bigint_minus.sp) (bigint_minus.sums lf _) (bigint_minus.ev lf)
noncomputable def bigint_operations_2.f (lf : Nat) (a0 : (List Int)) (a1 : (List Int)) : Option ((List Int) × Unit) :=
 bd (bigint_order.f lf a0 a1) fun r1 =>
 br (decide (r1.1 < 0)) (
  bd (bigint_minus.f lf a1 a0) fun r2 =>
  some (r2.1, ())) (
  bd (bigint_minus.f lf a0 a1) fun r3 =>
  some (r3.1, ()))
noncomputable def bigint_operations_2.E (lf : Nat) : Entry := ⟨[(.sl (.int .i64)), (.sl (.int .i64))], [(.sl (.int .i64))], fun x => bigint_operations_2.f lf x.1 x.2.1⟩
theorem bigint_operations_2.ev (lf : Nat) (x : Tys (bigint_operations_2.E lf).ps) : (bigint_operations_2.E lf).f x = runQ Proofs.Tryz.prog (fun _ => FA.none) noLs (lookT [(155, bigint_order.E lf), (156, bigint_minus.E lf)]) (lf + 40) 14 6 154 (bigint_operations_2.E lf).ps (bigint_operations_2.E lf).rs x := by kernel_rfl
theorem bigint_operations_2.ok (lf : Nat) : EntryOK Proofs.Tryz.prog TabG 154 (bigint_operations_2.E lf) := entryT (lookT_cons (bigint_order.ok lf) (lookT_cons (bigint_minus.ok lf) lookT_nil)) (annsOK_none fun _ => rfl) (bigint_operations_2.ev lf)
noncomputable def bigint_operations_3.f (lf : Nat) (a0 : (Bool × ((List Int) × Unit))) (a1 : (Bool × ((List Int) × Unit))) : Option (Bool × Unit) :=
 bd (bigint_order.f lf a0.2.1 a1.2.1) fun r1 =>
 some (((decide (r1.1 < 0)) != a0.1), ())
noncomputable def bigint_operations_3.E (lf : Nat) : Entry := ⟨[(.pair .bool (.pair (.sl (.int .i64)) .unit)), (.pair .bool (.pair (.sl (.int .i64)) .unit))], [.bool], fun x => bigint_operations_3.f lf x.1 x.2.1⟩
theorem bigint_operations_3.ev (lf : Nat) (x : Tys (bigint_operations_3.E lf).ps) : (bigint_operations_3.E lf).f x = runQ Proofs.Tryz.prog (fun _ => FA.none) noLs (lookT [(155, bigint_order.E lf)]) (lf + 40) 14 6 157 (bigint_operations_3.E lf).ps (bigint_operations_3.E lf).rs x := by kernel_rfl
theorem bigint_operations_3.ok (lf : Nat) : EntryOK Proofs.Tryz.prog TabG 157 (bigint_operations_3.E lf) := entryT (lookT_cons (bigint_order.ok lf) lookT_nil) (annsOK_none fun _ => rfl) (bigint_operations_3.ev lf)
noncomputable def bigint_sum.f (lf : Nat) (a0 : (Bool × ((List Int) × Unit))) (a1 : (Bool × ((List Int) × Unit))) : Option ((Bool × ((List Int) × Unit)) × Unit) :=
 br (a0.1 != a1.1) (
  bd (bigint_operations_3.f lf a0 a1) fun r1 =>
  bd (bigint_operations_2.f lf a0.2.1 a1.2.1) fun r2 =>
  some ((r1.1, r2.1, ()), ())) (
  bd (bigint_operations_1.f lf a0 a1) fun r3 =>
  bd (bigint_plus.f lf a0.2.1 a1.2.1) fun r4 =>
  some ((r3.1, r4.1, ()), ()))
noncomputable def bigint_sum.E (lf : Nat) : Entry := ⟨[(.pair .bool (.pair (.sl (.int .i64)) .unit)), (.pair .bool (.pair (.sl (.int .i64)) .unit))], [(.pair .bool (.pair (.sl (.int .i64)) .unit))], fun x => bigint_sum.f lf x.1 x.2.1⟩
theorem bigint_sum.ev (lf : Nat) (x : Tys (bigint_sum.E lf).ps) : (bigint_sum.E lf).f x = runQ Proofs.Tryz.prog (fun _ => FA.none) noLs (lookT [(152, bigint_plus.E lf), (153, bigint_operations_1.E lf), (154, bigint_operations_2.E lf), (157, bigint_operations_3.E lf)]) (lf + 40) 14 6 74 (bigint_sum.E lf).ps (bigint_sum.E lf).rs x := by kernel_rfl
theorem bigint_sum.ok (lf : Nat) : EntryOK Proofs.Tryz.prog TabG 74 (bigint_sum.E lf) := entryT (lookT_cons (bigint_plus.ok lf) (lookT_cons (bigint_operations_1.ok lf) (lookT_cons (bigint_operations_2.ok lf) (lookT_cons (bigint_operations_3.ok lf) lookT_nil)))) (annsOK_none fun _ => rfl) (bigint_sum.ev lf)
noncomputable def bigint_negated.f (lf : Nat) (a0 : (Bool × ((List Int) × Unit))) : Option ((Bool × ((List Int) × Unit)) × Unit) :=
 some (((!a0.1), a0.2.1, ()), ())
noncomputable def bigint_negated.E (lf : Nat) : Entry := ⟨[(.pair .bool (.pair (.sl (.int .i64)) .unit))], [(.pair .bool (.pair (.sl (.int .i64)) .unit))], fun x => bigint_negated.f lf x.1⟩
theorem bigint_negated.ev (lf : Nat) (x : Tys (bigint_negated.E lf).ps) : (bigint_negated.E lf).f x = runQ Proofs.Tryz.prog (fun _ => FA.none) noLs (lookT []) (lf + 40) 14 6 75 (bigint_negated.E lf).ps (bigint_negated.E lf).rs x := by kernel_rfl
theorem bigint_negated.ok (lf : Nat) : EntryOK Proofs.Tryz.prog TabG 75 (bigint_negated.E lf) := entryT lookT_nil (annsOK_none fun _ => rfl) (bigint_negated.ev lf)
noncomputable def bigint_Compare.f (lf : Nat) (a0 : ByteArray) (a1 : ByteArray) : Option (Int × Int × Unit) :=
 bd (bigint_pair.f lf a0 a1) fun r1 =>
 br (r1.2.2.1 != 0) (
  some (0, r1.2.2.1, ())) (
  bd (bigint_negated.f lf r1.2.1) fun r2 =>
  bd (bigint_sum.f lf r1.1 r2.1) fun r3 =>
  bd (bigint_sign.f lf r3.1) fun r4 =>
  some (r4.1, 0, ()))
noncomputable def bigint_Compare.E (lf : Nat) : Entry := ⟨[.str, .str], [(.int .i64), (.int .i64)], fun x => bigint_Compare.f lf x.1 x.2.1⟩
theorem bigint_Compare.ev (lf : Nat) (x : Tys (bigint_Compare.E lf).ps) : (bigint_Compare.E lf).f x = runQ Proofs.Tryz.prog (fun _ => FA.none) noLs (lookT [(72, bigint_pair.E lf), (73, bigint_sign.E lf), (74, bigint_sum.E lf), (75, bigint_negated.E lf)]) (lf + 40) 14 6 29 (bigint_Compare.E lf).ps (bigint_Compare.E lf).rs x := by kernel_rfl
theorem bigint_Compare.ok (lf : Nat) : EntryOK Proofs.Tryz.prog TabG 29 (bigint_Compare.E lf) := entryT (lookT_cons (bigint_pair.ok lf) (lookT_cons (bigint_sign.ok lf) (lookT_cons (bigint_sum.ok lf) (lookT_cons (bigint_negated.ok lf) lookT_nil)))) (annsOK_none fun _ => rfl) (bigint_Compare.ev lf)
noncomputable def bigint_number_size.f (lf : Nat) (a0 : (Bool × ((List Int) × Unit))) : Option (Int × Unit) :=
 br (((a0.2.1.length : Nat) : Int) == 0) (
  some (0, ())) (
  bd (idxL a0.2.1 (IntKind.i64.wrap (((a0.2.1.length : Nat) : Int) - 1))) fun y1 =>
  bd (B.Itoa.f lf y1) fun r2 =>
  some ((IntKind.i64.wrap ((IntKind.i64.wrap ((IntKind.i64.wrap (((a0.2.1.length : Nat) : Int) - 1)) * 9)) + ((r2.1.size : Nat) : Int))), ()))
noncomputable def bigint_number_size.E (lf : Nat) : Entry := ⟨[(.pair .bool (.pair (.sl (.int .i64)) .unit))], [(.int .i64)], fun x => bigint_number_size.f lf x.1⟩
theorem bigint_number_size.ev (lf : Nat) (x : Tys (bigint_number_size.E lf).ps) : (bigint_number_size.E lf).f x = runQ Proofs.Tryz.prog (fun _ => FA.none) noLs (lookT [(193, B.Itoa.E lf)]) (lf + 40) 14 6 170 (bigint_number_size.E lf).ps (bigint_number_size.E lf).rs x := by kernel_rfl
theorem bigint_number_size.ok (lf : Nat) : EntryOK Proofs.Tryz.prog TabG 170 (bigint_number_size.E lf) := entryT (lookT_cons (B.Itoa.ok lf) lookT_nil) (annsOK_none fun _ => rfl) (bigint_number_size.ev lf)
noncomputable def bigint_number_text.anns : FuncId → FA := fun g => bif g == 171 then ⟨fun li => bif li == 0 then (⟨[0, 2, 4, 5, 6, 7, 8, 9, 10, 11, 12, 13, 14, 15, 16, 17, 18, 19, 20, 21, 22, 23, 24, 25, 26, 27, 28, 29, 30, 31, 32, 33, 34], [], []⟩, ⟨[], [], []⟩) else (⟨[], [], []⟩, ⟨[], [], []⟩), none⟩ else bif g == 197 then ⟨fun li => (⟨[], [], []⟩, ⟨[], [], []⟩), some (.bString 180 5)⟩ else bif g == 202 then ⟨fun li => bif li == 0 then (⟨[2, 4, 5, 6, 7, 8, 9, 10, 11, 12, 13, 14, 15, 16, 17, 18], [⟨.ref 1 1, (.int .u8), 5⟩], []⟩, ⟨[0, 1, 2, 3, 4, 5, 6, 7, 8, 9, 10, 11, 12, 13, 14, 15, 16, 17, 18], [⟨.ref 1 1, (.int .u8), 5⟩], []⟩) else (⟨[], [], []⟩, ⟨[], [], []⟩), none⟩ else bif g == 217 then ⟨fun li => (⟨[], [], []⟩, ⟨[], [], []⟩), some (.copyCheck 180)⟩ else FA.none
theorem bigint_number_text.sp : AnnsOK Proofs.Tryz.prog bigint_number_text.anns := by
  intro g s h
  unfold bigint_number_text.anns at h
  by_cases e171 : g = 171
  · subst e171
    cases h
  have e171' : (g == 171) = false := by simpa using e171
  rw [e171', cond_false] at h
  by_cases e197 : g = 197
  · subst e197
    cases h
    exact bString_ok
  have e197' : (g == 197) = false := by simpa using e197
  rw [e197', cond_false] at h
  by_cases e202 : g = 202
  · subst e202
    cases h
  have e202' : (g == 202) = false := by simpa using e202
  rw [e202', cond_false] at h
  by_cases e217 : g = 217
  · subst e217
    cases h
    exact copyCheck_ok
  have e217' : (g == 217) = false := by simpa using e217
  rw [e217', cond_false] at h
  cases h
noncomputable def bigint_number_text.l0 (lf : Nat) (v0_1 : Bool) (v0_2 : (List Int)) (v0_3 : (List Int)) (v0_4 : (List Int)) : Nat → Int → (List Int) → Option (((List Int) × Unit) × Unit)
  | 0, _, _ => none
  | n + 1, v0_0, v0_5 =>
  br (decide (v0_0 ≥ 0)) (
   bd (idxL v0_4 v0_0) fun y2 =>
   bd (B.Itoa.f lf y2) fun r3 =>
   br (decide (v0_0 < (IntKind.i64.wrap (((v0_2.length : Nat) : Int) - 1)))) (
    bd (B.Repeat.f lf (⟨#[48]⟩ : ByteArray) (IntKind.i64.wrap (9 - ((r3.1.size : Nat) : Int)))) fun r4 =>
    bd (apL true 1 v0_5 (sBytes r4.1)) fun l5 =>
    bd (apL true 1 l5 (sBytes r3.1)) fun l6 =>
    bigint_number_text.l0 lf v0_1 v0_2 v0_3 v0_4 n (IntKind.i64.wrap (v0_0 - 1)) l6) (
    bd (apL true 1 v0_5 (sBytes r3.1)) fun l7 =>
    bigint_number_text.l0 lf v0_1 v0_2 v0_3 v0_4 n (IntKind.i64.wrap (v0_0 - 1)) l7)) (
   some ((v0_5, ()), ()))
noncomputable def bigint_number_text.S0 (v0_0 : Int) (v0_1 : Bool) (v0_2 : (List Int)) (v0_3 : (List Int)) (v0_4 : (List Int)) (v0_5 : (List Int)) : St := ([.yld 5, .ptr 4 0, .any, .v (.int .i64 v0_0), .any, .any, .any, .any, .any, .any, .any, .any, .any, .any, .any, .any, .any, .any, .any], [some (.cells [.v (.bool v0_1), .sl (.int .i64) v0_2] 98), some (.cells [.ptr 1 0, .row 6] 180), some (.row (.int .u8) v0_3 5 false), some .gone, some (.cells [.sl (.int .i64) v0_4] 96), some (.rnd ⟨[.any, .ptr 0 0, .any, .ptr 1 0, .any, .any, .any, .any, .any, .any, .any, .any, .any, .any, .any, .any, .any, .any, .any, .any, .any, .any, .any, .any, .any, .any, .any, .any, .any, .any, .any, .any, .any, .any, .any], 171, 0, .ready, none⟩), some (.row (.int .u8) v0_5 5 false)])
noncomputable def bigint_number_text.X0 (w0 : Bool) (w1 : (List Int)) (w2 : (List Int)) (w3 : (List Int)) (w4 : (List Int)) : St := ([.any, .any, .any, .any, .any, .any, .any, .any, .any, .any, .any, .any, .any, .any, .any, .any, .any, .any, .any], [some (.cells [.v (.bool w0), .sl (.int .i64) w1] 98), some (.cells [.ptr 1 0, .row 6] 180), some (.row (.int .u8) w2 5 false), some .gone, some (.cells [.sl (.int .i64) w3] 96), some (.rnd ⟨[.any, .ptr 0 0, .any, .ptr 1 0, .any, .any, .any, .any, .any, .any, .any, .any, .any, .any, .any, .any, .any, .any, .any, .any, .any, .any, .any, .any, .any, .any, .any, .any, .any, .any, .any, .any, .any, .any, .any], 171, 0, .ready, none⟩), some (.row (.int .u8) w4 5 false)])
noncomputable def bigint_number_text.m0 : (st : St) → Option {x : Int × Bool × (List Int) × (List Int) × (List Int) × (List Int) × Unit // st = bigint_number_text.S0 x.1 x.2.1 x.2.2.1 x.2.2.2.1 x.2.2.2.2.1 x.2.2.2.2.2.1}
  | (((.yld 5) :: (.ptr 4 0) :: .any :: (.v (.int .i64 v0_0)) :: .any :: .any :: .any :: .any :: .any :: .any :: .any :: .any :: .any :: .any :: .any :: .any :: .any :: .any :: .any :: []), ((some (.cells ((.v (.bool v0_1)) :: (.sl (.int .i64) v0_2) :: []) 98)) :: (some (.cells ((.ptr 1 0) :: (.row 6) :: []) 180)) :: (some (.row (.int .u8) v0_3 5 false)) :: (some .gone) :: (some (.cells ((.sl (.int .i64) v0_4) :: []) 96)) :: (some (.rnd ⟨(.any :: (.ptr 0 0) :: .any :: (.ptr 1 0) :: .any :: .any :: .any :: .any :: .any :: .any :: .any :: .any :: .any :: .any :: .any :: .any :: .any :: .any :: .any :: .any :: .any :: .any :: .any :: .any :: .any :: .any :: .any :: .any :: .any :: .any :: .any :: .any :: .any :: .any :: .any :: []), 171, 0, .ready, none⟩)) :: (some (.row (.int .u8) v0_5 5 false)) :: [])) => some ⟨(v0_0, v0_1, v0_2, v0_3, v0_4, v0_5, ()), rfl⟩
  | _ => none
noncomputable def bigint_number_text.o0 (v0_1 : Bool) (v0_2 : (List Int)) (v0_3 : (List Int)) (v0_4 : (List Int)) (y : ((List Int) × Unit) × Unit) : Alt := .one (.exit 0) (bigint_number_text.X0 v0_1 v0_2 v0_3 v0_4 y.1.1)
noncomputable def bigint_number_text.l2 (lf : Nat) (v2_1 : Bool) (v2_2 : (List Int)) (v2_3 : (List Int)) : Nat → Int → (List Int) → Option ((Bool × (List Int) × (List Int) × (List Int) × Unit) × Unit)
  | 0, _, _ => none
  | n + 1, v2_0, v2_4 =>
  br (decide (v2_0 ≥ 0)) (
   bd (idxL v2_3 v2_0) fun y16 =>
   bd (B.Itoa.f lf y16) fun r17 =>
   br (decide (v2_0 < (IntKind.i64.wrap (((v2_2.length : Nat) : Int) - 1)))) (
    bd (B.Repeat.f lf (⟨#[48]⟩ : ByteArray) (IntKind.i64.wrap (9 - ((r17.1.size : Nat) : Int)))) fun r18 =>
    bd (apL true 1 v2_4 (sBytes r18.1)) fun l19 =>
    bd (apL true 1 l19 (sBytes r17.1)) fun l20 =>
    bigint_number_text.l2 lf v2_1 v2_2 v2_3 n (IntKind.i64.wrap (v2_0 - 1)) l20) (
    bd (apL true 1 v2_4 (sBytes r17.1)) fun l21 =>
    bigint_number_text.l2 lf v2_1 v2_2 v2_3 n (IntKind.i64.wrap (v2_0 - 1)) l21)) (
   some ((v2_1, v2_2, v2_3, v2_4, ()), ()))
noncomputable def bigint_number_text.S2 (v2_0 : Int) (v2_1 : Bool) (v2_2 : (List Int)) (v2_3 : (List Int)) (v2_4 : (List Int)) : St := ([.yld 3, .ptr 2 0, .any, .v (.int .i64 v2_0), .any, .any, .any, .any, .any, .any, .any, .any, .any, .any, .any, .any, .any, .any, .any], [some (.cells [.v (.bool v2_1), .sl (.int .i64) v2_2] 98), some (.cells [.ptr 1 0, .row 4] 180), some (.cells [.sl (.int .i64) v2_3] 96), some (.rnd ⟨[.any, .ptr 0 0, .any, .ptr 1 0, .any, .any, .any, .any, .any, .any, .any, .any, .any, .any, .any, .any, .any, .any, .any, .any, .any, .any, .any, .any, .any, .any, .any, .any, .any, .any, .any, .any, .any, .any, .any], 171, 0, .ready, none⟩), some (.row (.int .u8) v2_4 5 false)])
noncomputable def bigint_number_text.X1 (w0 : Bool) (w1 : (List Int)) (w2 : (List Int)) (w3 : (List Int)) : St := ([.any, .any, .any, .any, .any, .any, .any, .any, .any, .any, .any, .any, .any, .any, .any, .any, .any, .any, .any], [some (.cells [.v (.bool w0), .sl (.int .i64) w1] 98), some (.cells [.ptr 1 0, .row 4] 180), some (.cells [.sl (.int .i64) w2] 96), some (.rnd ⟨[.any, .ptr 0 0, .any, .ptr 1 0, .any, .any, .any, .any, .any, .any, .any, .any, .any, .any, .any, .any, .any, .any, .any, .any, .any, .any, .any, .any, .any, .any, .any, .any, .any, .any, .any, .any, .any, .any, .any], 171, 0, .ready, none⟩), some (.row (.int .u8) w3 5 false)])
noncomputable def bigint_number_text.m2 : (st : St) → Option {x : Int × Bool × (List Int) × (List Int) × (List Int) × Unit // st = bigint_number_text.S2 x.1 x.2.1 x.2.2.1 x.2.2.2.1 x.2.2.2.2.1}
  | (((.yld 3) :: (.ptr 2 0) :: .any :: (.v (.int .i64 v2_0)) :: .any :: .any :: .any :: .any :: .any :: .any :: .any :: .any :: .any :: .any :: .any :: .any :: .any :: .any :: .any :: []), ((some (.cells ((.v (.bool v2_1)) :: (.sl (.int .i64) v2_2) :: []) 98)) :: (some (.cells ((.ptr 1 0) :: (.row 4) :: []) 180)) :: (some (.cells ((.sl (.int .i64) v2_3) :: []) 96)) :: (some (.rnd ⟨(.any :: (.ptr 0 0) :: .any :: (.ptr 1 0) :: .any :: .any :: .any :: .any :: .any :: .any :: .any :: .any :: .any :: .any :: .any :: .any :: .any :: .any :: .any :: .any :: .any :: .any :: .any :: .any :: .any :: .any :: .any :: .any :: .any :: .any :: .any :: .any :: .any :: .any :: .any :: []), 171, 0, .ready, none⟩)) :: (some (.row (.int .u8) v2_4 5 false)) :: [])) => some ⟨(v2_0, v2_1, v2_2, v2_3, v2_4, ()), rfl⟩
  | _ => none
noncomputable def bigint_number_text.o2 (v2_1 : Bool) (v2_2 : (List Int)) (v2_3 : (List Int)) (y : (Bool × (List Int) × (List Int) × (List Int) × Unit) × Unit) : Alt := .one (.exit 0) (bigint_number_text.X1 y.1.1 y.1.2.1 y.1.2.2.1 y.1.2.2.2.1)
noncomputable def bigint_number_text.l1 (lf : Nat) (v1_0 : Int) (v1_1 : Bool) (v1_2 : (List Int)) (v1_3 : (List Int)) (v1_4 : (List Int)) : Nat → Option (Bool × (Bool × (List Int) × (List Int) × (List Int) × Unit) × (Bool × (List Int) × (List Int) × (List Int) × Unit) × Unit)
  | 0 => none
  | n + 1 =>
  br (decide (v1_0 ≥ 0)) (
   bd (idxL v1_3 v1_0) fun y10 =>
   bd (B.Itoa.f lf y10) fun r11 =>
   br (decide (v1_0 < (IntKind.i64.wrap (((v1_2.length : Nat) : Int) - 1)))) (
    bd (B.Repeat.f lf (⟨#[48]⟩ : ByteArray) (IntKind.i64.wrap (9 - ((r11.1.size : Nat) : Int)))) fun r12 =>
    bd (apL true 1 v1_4 (sBytes r12.1)) fun l13 =>
    bd (apL true 1 l13 (sBytes r11.1)) fun l14 =>
    bd (bigint_number_text.l2 lf v1_1 v1_2 v1_3 n (IntKind.i64.wrap (v1_0 - 1)) l14) fun z22 => some (false, (false, [], [], [], ()), ((z22.1.1, z22.1.2.1, z22.1.2.2.1, z22.1.2.2.2.1, ()), ()))) (
    bd (apL true 1 v1_4 (sBytes r11.1)) fun l15 =>
    bd (bigint_number_text.l2 lf v1_1 v1_2 v1_3 n (IntKind.i64.wrap (v1_0 - 1)) l15) fun z23 => some (false, (false, [], [], [], ()), ((z23.1.1, z23.1.2.1, z23.1.2.2.1, z23.1.2.2.2.1, ()), ())))) (
   some (true, (v1_1, v1_2, v1_3, v1_4, ()), ((false, [], [], [], ()), ())))
noncomputable def bigint_number_text.S1 (v1_0 : Int) (v1_1 : Bool) (v1_2 : (List Int)) (v1_3 : (List Int)) (v1_4 : (List Int)) : St := ([.yld 3, .ptr 2 0, .any, .v (.int .i64 v1_0), .any, .any, .any, .any, .any, .any, .any, .any, .any, .any, .any, .any, .any, .any, .any], [some (.cells [.v (.bool v1_1), .sl (.int .i64) v1_2] 98), some (.cells [.v (.pointer none), .row 4] 180), some (.cells [.sl (.int .i64) v1_3] 96), some (.rnd ⟨[.any, .ptr 0 0, .any, .ptr 1 0, .any, .any, .any, .any, .any, .any, .any, .any, .any, .any, .any, .any, .any, .any, .any, .any, .any, .any, .any, .any, .any, .any, .any, .any, .any, .any, .any, .any, .any, .any, .any], 171, 0, .ready, none⟩), some (.row (.int .u8) v1_4 5 false)])
noncomputable def bigint_number_text.X2 (w0 : Bool) (w1 : (List Int)) (w2 : (List Int)) (w3 : (List Int)) : St := ([.any, .any, .any, .any, .any, .any, .any, .any, .any, .any, .any, .any, .any, .any, .any, .any, .any, .any, .any], [some (.cells [.v (.bool w0), .sl (.int .i64) w1] 98), some (.cells [.v (.pointer none), .row 4] 180), some (.cells [.sl (.int .i64) w2] 96), some (.rnd ⟨[.any, .ptr 0 0, .any, .ptr 1 0, .any, .any, .any, .any, .any, .any, .any, .any, .any, .any, .any, .any, .any, .any, .any, .any, .any, .any, .any, .any, .any, .any, .any, .any, .any, .any, .any, .any, .any, .any, .any], 171, 0, .ready, none⟩), some (.row (.int .u8) w3 5 false)])
noncomputable def bigint_number_text.m1 : (st : St) → Option {x : Int × Bool × (List Int) × (List Int) × (List Int) × Unit // st = bigint_number_text.S1 x.1 x.2.1 x.2.2.1 x.2.2.2.1 x.2.2.2.2.1}
  | (((.yld 3) :: (.ptr 2 0) :: .any :: (.v (.int .i64 v1_0)) :: .any :: .any :: .any :: .any :: .any :: .any :: .any :: .any :: .any :: .any :: .any :: .any :: .any :: .any :: .any :: []), ((some (.cells ((.v (.bool v1_1)) :: (.sl (.int .i64) v1_2) :: []) 98)) :: (some (.cells ((.v (.pointer none)) :: (.row 4) :: []) 180)) :: (some (.cells ((.sl (.int .i64) v1_3) :: []) 96)) :: (some (.rnd ⟨(.any :: (.ptr 0 0) :: .any :: (.ptr 1 0) :: .any :: .any :: .any :: .any :: .any :: .any :: .any :: .any :: .any :: .any :: .any :: .any :: .any :: .any :: .any :: .any :: .any :: .any :: .any :: .any :: .any :: .any :: .any :: .any :: .any :: .any :: .any :: .any :: .any :: .any :: .any :: []), 171, 0, .ready, none⟩)) :: (some (.row (.int .u8) v1_4 5 false)) :: [])) => some ⟨(v1_0, v1_1, v1_2, v1_3, v1_4, ()), rfl⟩
  | _ => none
noncomputable def bigint_number_text.o1 (v1_0 : Int) (v1_1 : Bool) (v1_2 : (List Int)) (v1_3 : (List Int)) (v1_4 : (List Int)) (y : Bool × (Bool × (List Int) × (List Int) × (List Int) × Unit) × (Bool × (List Int) × (List Int) × (List Int) × Unit) × Unit) : Alt := .two y.1 (.one (.exit 0) (bigint_number_text.X2 y.2.1.1 y.2.1.2.1 y.2.1.2.2.1 y.2.1.2.2.2.1)) (.one (.exit 0) (bigint_number_text.X1 y.2.2.1.1 y.2.2.1.2.1 y.2.2.1.2.2.1 y.2.2.1.2.2.2.1))
noncomputable def bigint_number_text.tb (lf : Nat) : List (FuncId × Entry) := [(193, B.Itoa.E lf), (196, B.Repeat.E lf)]
noncomputable def bigint_number_text.s12_202 (lf : Nat) : Sums := fun li st => match li with
  | 0 => (match ((bigint_number_text.m0 st).map fun p => (⟨((List Int) × Unit) × Unit, bigint_number_text.l0 lf p.1.2.1 p.1.2.2.1 p.1.2.2.2.1 p.1.2.2.2.2.1 (lf + 40) p.1.1 p.1.2.2.2.2.2.1, bigint_number_text.o0 p.1.2.1 p.1.2.2.1 p.1.2.2.2.1 p.1.2.2.2.2.1⟩ : LTE)) with | some T => some T | none => (match ((bigint_number_text.m2 st).map fun p => (⟨(Bool × (List Int) × (List Int) × (List Int) × Unit) × Unit, bigint_number_text.l2 lf p.1.2.1 p.1.2.2.1 p.1.2.2.2.1 (lf + 40) p.1.1 p.1.2.2.2.2.1, bigint_number_text.o2 p.1.2.1 p.1.2.2.1 p.1.2.2.2.1⟩ : LTE)) with | some T => some T | none => ((bigint_number_text.m1 st).map fun p => (⟨Bool × (Bool × (List Int) × (List Int) × (List Int) × Unit) × (Bool × (List Int) × (List Int) × (List Int) × Unit) × Unit, bigint_number_text.l1 lf p.1.1 p.1.2.1 p.1.2.2.1 p.1.2.2.2.1 p.1.2.2.2.2.1 (lf + 40), bigint_number_text.o1 p.1.1 p.1.2.1 p.1.2.2.1 p.1.2.2.2.1 p.1.2.2.2.2.1⟩ : LTE))))
  | _ => none
noncomputable def bigint_number_text.ls (lf : Nat) : List (Nat × FuncId × Sums) := [(12, 202, bigint_number_text.s12_202 lf)]
noncomputable def bigint_number_text.dr (lf : Nat) (ρ : Type) : Draws ρ := drawA Proofs.Tryz.prog (lookT (bigint_number_text.tb lf)) 0 fun n => clQ Proofs.Tryz.prog bigint_number_text.anns (lookT (bigint_number_text.tb lf)) (lf + 40) 14 6 n ρ
noncomputable def bigint_number_text.it0 {ρ : Type} (lf n : Nat) (st : St) (k : KE ρ) : Option ρ := iterK (nrmS 0 ((bigint_number_text.anns 202).ann 0).1 6) (nrmS 0 ((bigint_number_text.anns 202).ann 0).2 6) (codeK Proofs.Tryz.prog 202 (bigint_number_text.anns 202).ann (bigint_number_text.s12_202 lf) (bigint_number_text.dr lf ρ) (goK Proofs.Tryz.prog bigint_number_text.anns (lsOf (bigint_number_text.ls lf)) (bigint_number_text.dr lf ρ) (lookT (bigint_number_text.tb lf)) 0 (lf + 40) 12) 0 (lf + 40) none 1 (loopP Proofs.Tryz.prog 202 0)) n st k
theorem bigint_number_text.t0 {ρ : Type} (lf n : Nat) (v0_0 : Int) (v0_1 : Bool) (v0_2 : (List Int)) (v0_3 : (List Int)) (v0_4 : (List Int)) (v0_5 : (List Int)) (k : KE ρ) : bigint_number_text.it0 lf (n + 1) (bigint_number_text.S0 v0_0 v0_1 v0_2 v0_3 v0_4 v0_5) k =
  br (decide (v0_0 ≥ 0)) (
   bd (idxL v0_4 v0_0) fun y2 =>
   bd (B.Itoa.f lf y2) fun r3 =>
   br (decide (v0_0 < (IntKind.i64.wrap (((v0_2.length : Nat) : Int) - 1)))) (
    bd (B.Repeat.f lf (⟨#[48]⟩ : ByteArray) (IntKind.i64.wrap (9 - ((r3.1.size : Nat) : Int)))) fun r4 =>
    bd (apL true 1 v0_5 (sBytes r4.1)) fun l5 =>
    bd (apL true 1 l5 (sBytes r3.1)) fun l6 =>
    bigint_number_text.it0 lf n (bigint_number_text.S0 (IntKind.i64.wrap (v0_0 - 1)) v0_1 v0_2 v0_3 v0_4 l6) k) (
    bd (apL true 1 v0_5 (sBytes r3.1)) fun l7 =>
    bigint_number_text.it0 lf n (bigint_number_text.S0 (IntKind.i64.wrap (v0_0 - 1)) v0_1 v0_2 v0_3 v0_4 l7) k)) (
   k (.exit 0) (bigint_number_text.X0 v0_1 v0_2 v0_3 v0_4 v0_5)) := by kernel_rfl
theorem bigint_number_text.u0 {ρ : Type} (lf : Nat) (v0_1 : Bool) (v0_2 : (List Int)) (v0_3 : (List Int)) (v0_4 : (List Int)) (k : KE ρ) : ∀ (n : Nat) (v0_0 : Int) (v0_5 : (List Int)), bigint_number_text.it0 lf n (bigint_number_text.S0 v0_0 v0_1 v0_2 v0_3 v0_4 v0_5) k = bd (bigint_number_text.l0 lf v0_1 v0_2 v0_3 v0_4 n v0_0 v0_5) fun y => altK k (bigint_number_text.o0 v0_1 v0_2 v0_3 v0_4 y)
  | 0, _, _ => by rw [bigint_number_text.l0, bd_none]; rfl
  | n + 1, v0_0, v0_5 => by
    rw [bigint_number_text.t0]; simp only [bigint_number_text.l0, bigint_number_text.u0 lf v0_1 v0_2 v0_3 v0_4 k n, bd_br, bd_bd, bd_some', bd_none, br_t, br_f, bigint_number_text.o0, altK]
noncomputable def bigint_number_text.it2 {ρ : Type} (lf n : Nat) (st : St) (k : KE ρ) : Option ρ := iterK (nrmS 0 ((bigint_number_text.anns 202).ann 0).1 4) (nrmS 0 ((bigint_number_text.anns 202).ann 0).2 4) (codeK Proofs.Tryz.prog 202 (bigint_number_text.anns 202).ann (bigint_number_text.s12_202 lf) (bigint_number_text.dr lf ρ) (goK Proofs.Tryz.prog bigint_number_text.anns (lsOf (bigint_number_text.ls lf)) (bigint_number_text.dr lf ρ) (lookT (bigint_number_text.tb lf)) 0 (lf + 40) 12) 0 (lf + 40) none 1 (loopP Proofs.Tryz.prog 202 0)) n st k
theorem bigint_number_text.t2 {ρ : Type} (lf n : Nat) (v2_0 : Int) (v2_1 : Bool) (v2_2 : (List Int)) (v2_3 : (List Int)) (v2_4 : (List Int)) (k : KE ρ) : bigint_number_text.it2 lf (n + 1) (bigint_number_text.S2 v2_0 v2_1 v2_2 v2_3 v2_4) k =
  br (decide (v2_0 ≥ 0)) (
   bd (idxL v2_3 v2_0) fun y16 =>
   bd (B.Itoa.f lf y16) fun r17 =>
   br (decide (v2_0 < (IntKind.i64.wrap (((v2_2.length : Nat) : Int) - 1)))) (
    bd (B.Repeat.f lf (⟨#[48]⟩ : ByteArray) (IntKind.i64.wrap (9 - ((r17.1.size : Nat) : Int)))) fun r18 =>
    bd (apL true 1 v2_4 (sBytes r18.1)) fun l19 =>
    bd (apL true 1 l19 (sBytes r17.1)) fun l20 =>
    bigint_number_text.it2 lf n (bigint_number_text.S2 (IntKind.i64.wrap (v2_0 - 1)) v2_1 v2_2 v2_3 l20) k) (
    bd (apL true 1 v2_4 (sBytes r17.1)) fun l21 =>
    bigint_number_text.it2 lf n (bigint_number_text.S2 (IntKind.i64.wrap (v2_0 - 1)) v2_1 v2_2 v2_3 l21) k)) (
   k (.exit 0) (bigint_number_text.X1 v2_1 v2_2 v2_3 v2_4)) := by kernel_rfl
theorem bigint_number_text.u2 {ρ : Type} (lf : Nat) (v2_1 : Bool) (v2_2 : (List Int)) (v2_3 : (List Int)) (k : KE ρ) : ∀ (n : Nat) (v2_0 : Int) (v2_4 : (List Int)), bigint_number_text.it2 lf n (bigint_number_text.S2 v2_0 v2_1 v2_2 v2_3 v2_4) k = bd (bigint_number_text.l2 lf v2_1 v2_2 v2_3 n v2_0 v2_4) fun y => altK k (bigint_number_text.o2 v2_1 v2_2 v2_3 y)
  | 0, _, _ => by rw [bigint_number_text.l2, bd_none]; rfl
  | n + 1, v2_0, v2_4 => by
    rw [bigint_number_text.t2]; simp only [bigint_number_text.l2, bigint_number_text.u2 lf v2_1 v2_2 v2_3 k n, bd_br, bd_bd, bd_some', bd_none, br_t, br_f, bigint_number_text.o2, altK]
noncomputable def bigint_number_text.it1 {ρ : Type} (lf n : Nat) (st : St) (k : KE ρ) : Option ρ := iterK (nrmS 0 ((bigint_number_text.anns 202).ann 0).1 4) (nrmS 0 ((bigint_number_text.anns 202).ann 0).2 4) (codeK Proofs.Tryz.prog 202 (bigint_number_text.anns 202).ann (bigint_number_text.s12_202 lf) (bigint_number_text.dr lf ρ) (goK Proofs.Tryz.prog bigint_number_text.anns (lsOf (bigint_number_text.ls lf)) (bigint_number_text.dr lf ρ) (lookT (bigint_number_text.tb lf)) 0 (lf + 40) 12) 0 (lf + 40) none 1 (loopP Proofs.Tryz.prog 202 0)) n st k
theorem bigint_number_text.t1 {ρ : Type} (lf n : Nat) (v1_0 : Int) (v1_1 : Bool) (v1_2 : (List Int)) (v1_3 : (List Int)) (v1_4 : (List Int)) (k : KE ρ) : bigint_number_text.it1 lf (n + 1) (bigint_number_text.S1 v1_0 v1_1 v1_2 v1_3 v1_4) k =
  br (decide (v1_0 ≥ 0)) (
   bd (idxL v1_3 v1_0) fun y10 =>
   bd (B.Itoa.f lf y10) fun r11 =>
   br (decide (v1_0 < (IntKind.i64.wrap (((v1_2.length : Nat) : Int) - 1)))) (
    bd (B.Repeat.f lf (⟨#[48]⟩ : ByteArray) (IntKind.i64.wrap (9 - ((r11.1.size : Nat) : Int)))) fun r12 =>
    bd (apL true 1 v1_4 (sBytes r12.1)) fun l13 =>
    bd (apL true 1 l13 (sBytes r11.1)) fun l14 =>
    bigint_number_text.it2 lf n (bigint_number_text.S2 (IntKind.i64.wrap (v1_0 - 1)) v1_1 v1_2 v1_3 l14) k) (
    bd (apL true 1 v1_4 (sBytes r11.1)) fun l15 =>
    bigint_number_text.it2 lf n (bigint_number_text.S2 (IntKind.i64.wrap (v1_0 - 1)) v1_1 v1_2 v1_3 l15) k)) (
   k (.exit 0) (bigint_number_text.X2 v1_1 v1_2 v1_3 v1_4)) := by kernel_rfl
theorem bigint_number_text.u1 {ρ : Type} (lf : Nat) (v1_0 : Int) (v1_1 : Bool) (v1_2 : (List Int)) (v1_3 : (List Int)) (v1_4 : (List Int)) (k : KE ρ) : ∀ (n : Nat), bigint_number_text.it1 lf n (bigint_number_text.S1 v1_0 v1_1 v1_2 v1_3 v1_4) k = bd (bigint_number_text.l1 lf v1_0 v1_1 v1_2 v1_3 v1_4 n) fun y => altK k (bigint_number_text.o1 v1_0 v1_1 v1_2 v1_3 v1_4 y)
  | 0 => by rw [bigint_number_text.l1, bd_none]; rfl
  | n + 1 => by
    rw [bigint_number_text.t1]; simp only [bigint_number_text.l1, bigint_number_text.u2, bd_br, bd_bd, bd_some', bd_none, br_t, br_f, bigint_number_text.o1, bigint_number_text.o2, altK]
theorem bigint_number_text.a12_202 (lf : Nat) (ρ : Type) : ∀ i, LsAt ρ Proofs.Tryz.prog 202 (bigint_number_text.anns 202).ann (bigint_number_text.s12_202 lf) (bigint_number_text.dr lf ρ) (goK Proofs.Tryz.prog bigint_number_text.anns (lsOf (bigint_number_text.ls lf)) (bigint_number_text.dr lf ρ) (lookT (bigint_number_text.tb lf)) 0 (lf + 40) 12) 0 (lf + 40) none i (loopP Proofs.Tryz.prog 202 i)
  | 0 => by
    intro st T h k r he
    simp only [bigint_number_text.s12_202] at h
    split at h
    · rename_i T' h'
      cases h
      replace h := h'
      obtain ⟨p, _, rfl⟩ := Option.map_eq_some_iff.1 h
      obtain ⟨x, rfl⟩ := p
      exact (bigint_number_text.u0 lf _ _ _ _ k (lf + 40) _ _).trans he
    split at h
    · rename_i T' h'
      cases h
      replace h := h'
      obtain ⟨p, _, rfl⟩ := Option.map_eq_some_iff.1 h
      obtain ⟨x, rfl⟩ := p
      exact (bigint_number_text.u2 lf _ _ _ k (lf + 40) _ _).trans he
    obtain ⟨p, _, rfl⟩ := Option.map_eq_some_iff.1 h
    obtain ⟨x, rfl⟩ := p
    exact (bigint_number_text.u1 lf _ _ _ _ _ k (lf + 40)).trans he
  | _ + 1 => lsAt_none rfl
theorem bigint_number_text.sums (lf : Nat) (ρ : Type) : SumsOK ρ Proofs.Tryz.prog bigint_number_text.anns (lsOf (bigint_number_text.ls lf)) (bigint_number_text.dr lf ρ) (lookT (bigint_number_text.tb lf)) 0 (lf + 40) := by
  refine sumsOK_of rfl fun p hp => ?_
  simp only [bigint_number_text.ls, List.mem_cons, List.not_mem_nil, or_false] at hp
  subst hp
  exact bigint_number_text.a12_202 lf ρ
noncomputable def bigint_number_text.f (lf : Nat) (a0 : (Bool × ((List Int) × Unit))) : Option (ByteArray × Unit) :=
 br (((a0.2.1.length : Nat) : Int) == 0) (
  some ((⟨#[48]⟩ : ByteArray), ())) (
  br a0.1 (
   bd (apL true 1 [] [45]) fun l1 =>
   bd (bigint_number_text.l0 lf a0.1 a0.2.1 [45] a0.2.1 (lf + 40) (IntKind.i64.wrap (((a0.2.1.length : Nat) : Int) - 1)) l1) fun z8 =>
   bd (if 0 < z8.1.1.length then some (bytesS z8.1.1) else none) fun s9 =>
   some (s9, ())) (
   bd (bigint_number_text.l1 lf (IntKind.i64.wrap (((a0.2.1.length : Nat) : Int) - 1)) a0.1 a0.2.1 a0.2.1 [] (lf + 40)) fun z24 =>
   br z24.1 (
    bd (if 0 < z24.2.1.2.2.2.1.length then some (bytesS z24.2.1.2.2.2.1) else none) fun s25 =>
    some (s25, ())) (
    bd (if 0 < z24.2.2.1.2.2.2.1.length then some (bytesS z24.2.2.1.2.2.2.1) else none) fun s26 =>
    some (s26, ()))))
noncomputable def bigint_number_text.E (lf : Nat) : Entry := ⟨[(.pair .bool (.pair (.sl (.int .i64)) .unit))], [.str], fun x => bigint_number_text.f lf x.1⟩
theorem bigint_number_text.ev (lf : Nat) (x : Tys (bigint_number_text.E lf).ps) : (bigint_number_text.E lf).f x = runQ Proofs.Tryz.prog bigint_number_text.anns (lsOf (bigint_number_text.ls lf)) (lookT (bigint_number_text.tb lf)) (lf + 40) 14 6 171 (bigint_number_text.E lf).ps (bigint_number_text.E lf).rs x := by kernel_rfl
theorem bigint_number_text.ok (lf : Nat) : EntryOK Proofs.Tryz.prog TabG 171 (bigint_number_text.E lf) := entryL (l := bigint_number_text.tb lf) (lookT_cons (B.Itoa.ok lf) (lookT_cons (B.Repeat.ok lf) lookT_nil)) (bigint_number_text.sp) (bigint_number_text.sums lf _) (bigint_number_text.ev lf)
noncomputable def bigint_written.f (lf : Nat) (a0 : (Bool × ((List Int) × Unit))) : Option (ByteArray × Int × Unit) :=
 bd (bigint_number_size.f lf a0) fun r1 =>
 br (decide (r1.1 > 4096)) (
  some ((⟨#[]⟩ : ByteArray), 10, ())) (
  bd (bigint_number_text.f lf a0) fun r2 =>
  some (r2.1, 0, ()))
noncomputable def bigint_written.E (lf : Nat) : Entry := ⟨[(.pair .bool (.pair (.sl (.int .i64)) .unit))], [.str, (.int .i64)], fun x => bigint_written.f lf x.1⟩
theorem bigint_written.ev (lf : Nat) (x : Tys (bigint_written.E lf).ps) : (bigint_written.E lf).f x = runQ Proofs.Tryz.prog (fun _ => FA.none) noLs (lookT [(170, bigint_number_size.E lf), (171, bigint_number_text.E lf)]) (lf + 40) 14 6 136 (bigint_written.E lf).ps (bigint_written.E lf).rs x := by kernel_rfl
theorem bigint_written.ok (lf : Nat) : EntryOK Proofs.Tryz.prog TabG 136 (bigint_written.E lf) := entryT (lookT_cons (bigint_number_size.ok lf) (lookT_cons (bigint_number_text.ok lf) lookT_nil)) (annsOK_none fun _ => rfl) (bigint_written.ev lf)
end
end Go.Q
