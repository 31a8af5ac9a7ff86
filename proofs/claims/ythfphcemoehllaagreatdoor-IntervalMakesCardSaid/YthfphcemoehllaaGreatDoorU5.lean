import Derived.Test.YthfphcemoehllaaGreatDoorProg
import Derived.KernelRfl
import Derived.Test.YthfphcemoehllaaGreatDoorE3
set_option linter.unusedVariables false
set_option linter.unusedSimpArgs false
set_option linter.unusedSectionVars false
namespace Go.Q
open Go Go.RowKit
open Go.Rx (br bd sIdx sCat sCut iQuo iRem)
set_option linter.unusedVariables false
set_option linter.unusedSimpArgs false
set_option maxRecDepth 100000
noncomputable section
noncomputable def surveyorref01_Negative.f (lf : Nat) (a0 : ByteArray) : Option (Bool × Unit) :=
 bd (sIdx a0 0) fun r1 =>
 some ((((r1.toNat : Nat) : Int) == 45), ())
noncomputable def surveyorref01_Negative.E (lf : Nat) : Entry := ⟨[.str], [.bool], fun x => surveyorref01_Negative.f lf x.1⟩
theorem surveyorref01_Negative.ev (lf : Nat) (x : Tys (surveyorref01_Negative.E lf).ps) : (surveyorref01_Negative.E lf).f x = runQ Proofs.Tryz.prog (fun _ => FA.none) noLs (lookT []) (lf + 40) 14 6 89 (surveyorref01_Negative.E lf).ps (surveyorref01_Negative.E lf).rs x := by kernel_rfl
theorem surveyorref01_Negative.ok (lf : Nat) : EntryOK Proofs.Tryz.prog TabG 89 (surveyorref01_Negative.E lf) := entryT lookT_nil (annsOK_none fun _ => rfl) (surveyorref01_Negative.ev lf)
noncomputable def surveyorref01_Sign.f (lf : Nat) (a0 : ByteArray) : Option (Int × Unit) :=
 br (a0.toList == (⟨#[48]⟩ : ByteArray).toList) (
  some (0, ())) (
  bd (surveyorref01_Negative.f lf a0) fun r1 =>
  br r1.1 (
   some ((-1), ())) (
   some (1, ())))
noncomputable def surveyorref01_Sign.E (lf : Nat) : Entry := ⟨[.str], [(.int .i64)], fun x => surveyorref01_Sign.f lf x.1⟩
theorem surveyorref01_Sign.ev (lf : Nat) (x : Tys (surveyorref01_Sign.E lf).ps) : (surveyorref01_Sign.E lf).f x = runQ Proofs.Tryz.prog (fun _ => FA.none) noLs (lookT [(89, surveyorref01_Negative.E lf)]) (lf + 40) 14 6 144 (surveyorref01_Sign.E lf).ps (surveyorref01_Sign.E lf).rs x := by kernel_rfl
theorem surveyorref01_Sign.ok (lf : Nat) : EntryOK Proofs.Tryz.prog TabG 144 (surveyorref01_Sign.E lf) := entryT (lookT_cons (surveyorref01_Negative.ok lf) lookT_nil) (annsOK_none fun _ => rfl) (surveyorref01_Sign.ev lf)
noncomputable def surveyorref01_order.anns : FuncId → FA := fun g => bif g == 145 then ⟨fun li => bif li == 0 then (⟨[2, 3, 4, 6, 7, 8, 9, 10, 11, 12, 13, 14, 15, 16, 17, 18, 19, 20, 21, 22, 23, 24, 25, 26, 27, 28, 29, 30, 31, 32, 33, 34, 35, 36, 37, 38, 39, 40], [], []⟩, ⟨[0, 1, 2, 3, 5, 6, 7, 8, 9, 10, 11, 12, 13, 14, 15, 16, 17, 18, 19, 20, 21, 22, 23, 24, 25, 26, 27, 28, 29, 30, 31, 32, 33, 34, 35, 36, 37, 38, 39, 40], [], []⟩) else (⟨[], [], []⟩, ⟨[], [], []⟩), none⟩ else FA.none
theorem surveyorref01_order.sp : AnnsOK Proofs.Tryz.prog surveyorref01_order.anns := by
  intro g s h
  unfold surveyorref01_order.anns at h
  by_cases e145 : g = 145
  · subst e145
    cases h
  have e145' : (g == 145) = false := by simpa using e145
  rw [e145', cond_false] at h
  cases h
noncomputable def surveyorref01_order.l0 (lf : Nat) (v0_0 : (List Int)) (v0_1 : (List Int)) : Nat → Int → Option (Bool × (Int × Unit) × (Unit) × Unit)
  | 0, _ => none
  | n + 1, v0_2 =>
  br (decide (v0_2 ≥ 0)) (
   bd (idxL v0_0 v0_2) fun y1 =>
   bd (idxL v0_1 v0_2) fun y2 =>
   br (y1 != y2) (
    bd (idxL v0_0 v0_2) fun y3 =>
    bd (idxL v0_1 v0_2) fun y4 =>
    br (decide (y3 < y4)) (
     some (true, ((-1), ()), ((()), ()))) (
     some (true, (1, ()), ((()), ())))) (
    surveyorref01_order.l0 lf v0_0 v0_1 n (IntKind.i64.wrap (v0_2 - 1)))) (
   some (false, (0, ()), ((()), ())))
noncomputable def surveyorref01_order.S0 (v0_0 : (List Int)) (v0_1 : (List Int)) (v0_2 : Int) : St := ([.sl (.int .i64) v0_0, .sl (.int .i64) v0_1, .any, .any, .any, .v (.int .i64 v0_2), .any, .any, .any, .any, .any, .any, .any, .any, .any, .any, .any, .any, .any, .any, .any, .any, .any, .any, .any, .any, .any, .any, .any, .any, .any, .any, .any, .any, .any, .any, .any, .any, .any, .any, .any], [])
noncomputable def surveyorref01_order.X0 (w0 : Int) : St := ([.any, .any, .any, .any, .v (.int .i64 w0), .any, .any, .any, .any, .any, .any, .any, .any, .any, .any, .any, .any, .any, .any, .any, .any, .any, .any, .any, .any, .any, .any, .any, .any, .any, .any, .any, .any, .any, .any, .any, .any, .any, .any, .any, .any], [])
noncomputable def surveyorref01_order.X1 : St := ([.any, .any, .any, .any, .any, .any, .any, .any, .any, .any, .any, .any, .any, .any, .any, .any, .any, .any, .any, .any, .any, .any, .any, .any, .any, .any, .any, .any, .any, .any, .any, .any, .any, .any, .any, .any, .any, .any, .any, .any, .any], [])
noncomputable def surveyorref01_order.m0 : (st : St) → Option {x : (List Int) × (List Int) × Int × Unit // st = surveyorref01_order.S0 x.1 x.2.1 x.2.2.1}
  | (((.sl (.int .i64) v0_0) :: (.sl (.int .i64) v0_1) :: .any :: .any :: .any :: (.v (.int .i64 v0_2)) :: .any :: .any :: .any :: .any :: .any :: .any :: .any :: .any :: .any :: .any :: .any :: .any :: .any :: .any :: .any :: .any :: .any :: .any :: .any :: .any :: .any :: .any :: .any :: .any :: .any :: .any :: .any :: .any :: .any :: .any :: .any :: .any :: .any :: .any :: .any :: []), ([])) => some ⟨(v0_0, v0_1, v0_2, ()), rfl⟩
  | _ => none
noncomputable def surveyorref01_order.o0 (v0_0 : (List Int)) (v0_1 : (List Int)) (y : Bool × (Int × Unit) × (Unit) × Unit) : Alt := .two y.1 (.one .ret (surveyorref01_order.X0 y.2.1.1)) (.one (.exit 0) (surveyorref01_order.X1 ))
noncomputable def surveyorref01_order.tb (lf : Nat) : List (FuncId × Entry) := []
noncomputable def surveyorref01_order.s13_145 (lf : Nat) : Sums := fun li st => match li with
  | 0 => ((surveyorref01_order.m0 st).map fun p => (⟨Bool × (Int × Unit) × (Unit) × Unit, surveyorref01_order.l0 lf p.1.1 p.1.2.1 (lf + 40) p.1.2.2.1, surveyorref01_order.o0 p.1.1 p.1.2.1⟩ : LTE))
  | _ => none
noncomputable def surveyorref01_order.ls (lf : Nat) : List (Nat × FuncId × Sums) := [(13, 145, surveyorref01_order.s13_145 lf)]
noncomputable def surveyorref01_order.dr (lf : Nat) (ρ : Type) : Draws ρ := drawA Proofs.Tryz.prog (lookT (surveyorref01_order.tb lf)) 0 fun n => clQ Proofs.Tryz.prog surveyorref01_order.anns (lookT (surveyorref01_order.tb lf)) (lf + 40) 14 6 n ρ
noncomputable def surveyorref01_order.it0 {ρ : Type} (lf n : Nat) (st : St) (k : KE ρ) : Option ρ := iterK (nrmS 0 ((surveyorref01_order.anns 145).ann 0).1 0) (nrmS 0 ((surveyorref01_order.anns 145).ann 0).2 0) (codeK Proofs.Tryz.prog 145 (surveyorref01_order.anns 145).ann (surveyorref01_order.s13_145 lf) (surveyorref01_order.dr lf ρ) (goK Proofs.Tryz.prog surveyorref01_order.anns (lsOf (surveyorref01_order.ls lf)) (surveyorref01_order.dr lf ρ) (lookT (surveyorref01_order.tb lf)) 0 (lf + 40) 13) 0 (lf + 40) none 1 (loopP Proofs.Tryz.prog 145 0)) n st k
theorem surveyorref01_order.t0 {ρ : Type} (lf n : Nat) (v0_0 : (List Int)) (v0_1 : (List Int)) (v0_2 : Int) (k : KE ρ) : surveyorref01_order.it0 lf (n + 1) (surveyorref01_order.S0 v0_0 v0_1 v0_2) k =
  br (decide (v0_2 ≥ 0)) (
   bd (idxL v0_0 v0_2) fun y1 =>
   bd (idxL v0_1 v0_2) fun y2 =>
   br (y1 != y2) (
    bd (idxL v0_0 v0_2) fun y3 =>
    bd (idxL v0_1 v0_2) fun y4 =>
    br (decide (y3 < y4)) (
     k .ret (surveyorref01_order.X0 (-1))) (
     k .ret (surveyorref01_order.X0 1))) (
    surveyorref01_order.it0 lf n (surveyorref01_order.S0 v0_0 v0_1 (IntKind.i64.wrap (v0_2 - 1))) k)) (
   k (.exit 0) (surveyorref01_order.X1 )) := by kernel_rfl
theorem surveyorref01_order.u0 {ρ : Type} (lf : Nat) (v0_0 : (List Int)) (v0_1 : (List Int)) (k : KE ρ) : ∀ (n : Nat) (v0_2 : Int), surveyorref01_order.it0 lf n (surveyorref01_order.S0 v0_0 v0_1 v0_2) k = bd (surveyorref01_order.l0 lf v0_0 v0_1 n v0_2) fun y => altK k (surveyorref01_order.o0 v0_0 v0_1 y)
  | 0, _ => by rw [surveyorref01_order.l0, bd_none]; rfl
  | n + 1, v0_2 => by
    rw [surveyorref01_order.t0]; simp only [surveyorref01_order.l0, surveyorref01_order.u0 lf v0_0 v0_1 k n, bd_br, bd_bd, bd_some', bd_none, br_t, br_f, surveyorref01_order.o0, altK]
theorem surveyorref01_order.a13_145 (lf : Nat) (ρ : Type) : ∀ i, LsAt ρ Proofs.Tryz.prog 145 (surveyorref01_order.anns 145).ann (surveyorref01_order.s13_145 lf) (surveyorref01_order.dr lf ρ) (goK Proofs.Tryz.prog surveyorref01_order.anns (lsOf (surveyorref01_order.ls lf)) (surveyorref01_order.dr lf ρ) (lookT (surveyorref01_order.tb lf)) 0 (lf + 40) 13) 0 (lf + 40) none i (loopP Proofs.Tryz.prog 145 i)
  | 0 => by
    intro st T h k r he
    obtain ⟨p, _, rfl⟩ := Option.map_eq_some_iff.1 h
    obtain ⟨x, rfl⟩ := p
    exact (surveyorref01_order.u0 lf _ _ k (lf + 40) _).trans he
  | _ + 1 => lsAt_none rfl
theorem surveyorref01_order.sums (lf : Nat) (ρ : Type) : SumsOK ρ Proofs.Tryz.prog surveyorref01_order.anns (lsOf (surveyorref01_order.ls lf)) (surveyorref01_order.dr lf ρ) (lookT (surveyorref01_order.tb lf)) 0 (lf + 40) := by
  refine sumsOK_of rfl fun p hp => ?_
  simp only [surveyorref01_order.ls, List.mem_cons, List.not_mem_nil, or_false] at hp
  subst hp
  exact surveyorref01_order.a13_145 lf ρ
noncomputable def surveyorref01_order.f (lf : Nat) (a0 : (List Int)) (a1 : (List Int)) : Option (Int × Unit) :=
 br (((a0.length : Nat) : Int) != ((a1.length : Nat) : Int)) (
  br (decide (((a0.length : Nat) : Int) < ((a1.length : Nat) : Int))) (
   some ((-1), ())) (
   some (1, ()))) (
  bd (surveyorref01_order.l0 lf a0 a1 (lf + 40) (IntKind.i64.wrap (((a0.length : Nat) : Int) - 1))) fun z5 =>
  br z5.1 (
   some (z5.2.1.1, ())) (
   some (0, ())))
noncomputable def surveyorref01_order.E (lf : Nat) : Entry := ⟨[(.sl (.int .i64)), (.sl (.int .i64))], [(.int .i64)], fun x => surveyorref01_order.f lf x.1 x.2.1⟩
theorem surveyorref01_order.ev (lf : Nat) (x : Tys (surveyorref01_order.E lf).ps) : (surveyorref01_order.E lf).f x = runQ Proofs.Tryz.prog surveyorref01_order.anns (lsOf (surveyorref01_order.ls lf)) (lookT (surveyorref01_order.tb lf)) (lf + 40) 14 6 145 (surveyorref01_order.E lf).ps (surveyorref01_order.E lf).rs x := by kernel_rfl
theorem surveyorref01_order.ok (lf : Nat) : EntryOK Proofs.Tryz.prog TabG 145 (surveyorref01_order.E lf) := entryL (l := surveyorref01_order.tb lf) lookT_nil (surveyorref01_order.sp) (surveyorref01_order.sums lf _) (surveyorref01_order.ev lf)
noncomputable def surveyorref01_cut.anns : FuncId → FA := fun g => bif g == 146 then ⟨fun li => bif li == 0 then (⟨[1, 2, 4, 5, 6, 7, 8, 9, 10, 11, 12, 13, 14, 15, 16, 17, 18, 19, 20], [], []⟩, ⟨[1, 4, 5, 6, 7, 8, 9, 10, 11, 12, 13, 14, 15, 16, 17, 18, 19, 20], [], []⟩) else (⟨[], [], []⟩, ⟨[], [], []⟩), none⟩ else FA.none
theorem surveyorref01_cut.sp : AnnsOK Proofs.Tryz.prog surveyorref01_cut.anns := by
  intro g s h
  unfold surveyorref01_cut.anns at h
  by_cases e146 : g = 146
  · subst e146
    cases h
  have e146' : (g == 146) = false := by simpa using e146
  rw [e146', cond_false] at h
  cases h
noncomputable def surveyorref01_cut.l0 (lf : Nat) (v0_0 : (List Int)) : Nat → Int → Option ((Int × Unit) × Unit)
  | 0, _ => none
  | n + 1, v0_1 =>
  br (decide (v0_1 > 0)) (
   bd (idxL v0_0 (IntKind.i64.wrap (v0_1 - 1))) fun y1 =>
   br (y1 == 0) (
    surveyorref01_cut.l0 lf v0_0 n (IntKind.i64.wrap (v0_1 - 1))) (
    some ((v0_1, ()), ()))) (
   some ((v0_1, ()), ()))
noncomputable def surveyorref01_cut.S0 (v0_0 : (List Int)) (v0_1 : Int) : St := ([.sl (.int .i64) v0_0, .any, .any, .v (.int .i64 v0_1), .any, .any, .any, .any, .any, .any, .any, .any, .any, .any, .any, .any, .any, .any, .any, .any, .any], [])
noncomputable def surveyorref01_cut.X0 (w0 : (List Int)) (w1 : Int) : St := ([.sl (.int .i64) w0, .any, .any, .v (.int .i64 w1), .any, .any, .any, .any, .any, .any, .any, .any, .any, .any, .any, .any, .any, .any, .any, .any, .any], [])
noncomputable def surveyorref01_cut.m0 : (st : St) → Option {x : (List Int) × Int × Unit // st = surveyorref01_cut.S0 x.1 x.2.1}
  | (((.sl (.int .i64) v0_0) :: .any :: .any :: (.v (.int .i64 v0_1)) :: .any :: .any :: .any :: .any :: .any :: .any :: .any :: .any :: .any :: .any :: .any :: .any :: .any :: .any :: .any :: .any :: .any :: []), ([])) => some ⟨(v0_0, v0_1, ()), rfl⟩
  | _ => none
noncomputable def surveyorref01_cut.o0 (v0_0 : (List Int)) (y : (Int × Unit) × Unit) : Alt := .one (.exit 0) (surveyorref01_cut.X0 v0_0 y.1.1)
noncomputable def surveyorref01_cut.tb (lf : Nat) : List (FuncId × Entry) := []
noncomputable def surveyorref01_cut.s13_146 (lf : Nat) : Sums := fun li st => match li with
  | 0 => ((surveyorref01_cut.m0 st).map fun p => (⟨(Int × Unit) × Unit, surveyorref01_cut.l0 lf p.1.1 (lf + 40) p.1.2.1, surveyorref01_cut.o0 p.1.1⟩ : LTE))
  | _ => none
noncomputable def surveyorref01_cut.ls (lf : Nat) : List (Nat × FuncId × Sums) := [(13, 146, surveyorref01_cut.s13_146 lf)]
noncomputable def surveyorref01_cut.dr (lf : Nat) (ρ : Type) : Draws ρ := drawA Proofs.Tryz.prog (lookT (surveyorref01_cut.tb lf)) 0 fun n => clQ Proofs.Tryz.prog surveyorref01_cut.anns (lookT (surveyorref01_cut.tb lf)) (lf + 40) 14 6 n ρ
noncomputable def surveyorref01_cut.it0 {ρ : Type} (lf n : Nat) (st : St) (k : KE ρ) : Option ρ := iterK (nrmS 0 ((surveyorref01_cut.anns 146).ann 0).1 0) (nrmS 0 ((surveyorref01_cut.anns 146).ann 0).2 0) (codeK Proofs.Tryz.prog 146 (surveyorref01_cut.anns 146).ann (surveyorref01_cut.s13_146 lf) (surveyorref01_cut.dr lf ρ) (goK Proofs.Tryz.prog surveyorref01_cut.anns (lsOf (surveyorref01_cut.ls lf)) (surveyorref01_cut.dr lf ρ) (lookT (surveyorref01_cut.tb lf)) 0 (lf + 40) 13) 0 (lf + 40) none 1 (loopP Proofs.Tryz.prog 146 0)) n st k
theorem surveyorref01_cut.t0 {ρ : Type} (lf n : Nat) (v0_0 : (List Int)) (v0_1 : Int) (k : KE ρ) : surveyorref01_cut.it0 lf (n + 1) (surveyorref01_cut.S0 v0_0 v0_1) k =
  br (decide (v0_1 > 0)) (
   bd (idxL v0_0 (IntKind.i64.wrap (v0_1 - 1))) fun y1 =>
   br (y1 == 0) (
    surveyorref01_cut.it0 lf n (surveyorref01_cut.S0 v0_0 (IntKind.i64.wrap (v0_1 - 1))) k) (
    k (.exit 0) (surveyorref01_cut.X0 v0_0 v0_1))) (
   k (.exit 0) (surveyorref01_cut.X0 v0_0 v0_1)) := by kernel_rfl
theorem surveyorref01_cut.u0 {ρ : Type} (lf : Nat) (v0_0 : (List Int)) (k : KE ρ) : ∀ (n : Nat) (v0_1 : Int), surveyorref01_cut.it0 lf n (surveyorref01_cut.S0 v0_0 v0_1) k = bd (surveyorref01_cut.l0 lf v0_0 n v0_1) fun y => altK k (surveyorref01_cut.o0 v0_0 y)
  | 0, _ => by rw [surveyorref01_cut.l0, bd_none]; rfl
  | n + 1, v0_1 => by
    rw [surveyorref01_cut.t0]; simp only [surveyorref01_cut.l0, surveyorref01_cut.u0 lf v0_0 k n, bd_br, bd_bd, bd_some', bd_none, br_t, br_f, surveyorref01_cut.o0, altK]
theorem surveyorref01_cut.a13_146 (lf : Nat) (ρ : Type) : ∀ i, LsAt ρ Proofs.Tryz.prog 146 (surveyorref01_cut.anns 146).ann (surveyorref01_cut.s13_146 lf) (surveyorref01_cut.dr lf ρ) (goK Proofs.Tryz.prog surveyorref01_cut.anns (lsOf (surveyorref01_cut.ls lf)) (surveyorref01_cut.dr lf ρ) (lookT (surveyorref01_cut.tb lf)) 0 (lf + 40) 13) 0 (lf + 40) none i (loopP Proofs.Tryz.prog 146 i)
  | 0 => by
    intro st T h k r he
    obtain ⟨p, _, rfl⟩ := Option.map_eq_some_iff.1 h
    obtain ⟨x, rfl⟩ := p
    exact (surveyorref01_cut.u0 lf _ k (lf + 40) _).trans he
  | _ + 1 => lsAt_none rfl
theorem surveyorref01_cut.sums (lf : Nat) (ρ : Type) : SumsOK ρ Proofs.Tryz.prog surveyorref01_cut.anns (lsOf (surveyorref01_cut.ls lf)) (surveyorref01_cut.dr lf ρ) (lookT (surveyorref01_cut.tb lf)) 0 (lf + 40) := by
  refine sumsOK_of rfl fun p hp => ?_
  simp only [surveyorref01_cut.ls, List.mem_cons, List.not_mem_nil, or_false] at hp
  subst hp
  exact surveyorref01_cut.a13_146 lf ρ
noncomputable def surveyorref01_cut.f (lf : Nat) (a0 : (List Int)) : Option ((List Int) × Unit) :=
 bd (surveyorref01_cut.l0 lf a0 (lf + 40) ((a0.length : Nat) : Int)) fun z2 =>
 bd (cutL a0 none (some z2.1.1)) fun l3 =>
 some (l3, ())
noncomputable def surveyorref01_cut.E (lf : Nat) : Entry := ⟨[(.sl (.int .i64))], [(.sl (.int .i64))], fun x => surveyorref01_cut.f lf x.1⟩
theorem surveyorref01_cut.ev (lf : Nat) (x : Tys (surveyorref01_cut.E lf).ps) : (surveyorref01_cut.E lf).f x = runQ Proofs.Tryz.prog surveyorref01_cut.anns (lsOf (surveyorref01_cut.ls lf)) (lookT (surveyorref01_cut.tb lf)) (lf + 40) 14 6 146 (surveyorref01_cut.E lf).ps (surveyorref01_cut.E lf).rs x := by kernel_rfl
theorem surveyorref01_cut.ok (lf : Nat) : EntryOK Proofs.Tryz.prog TabG 146 (surveyorref01_cut.E lf) := entryL (l := surveyorref01_cut.tb lf) lookT_nil (surveyorref01_cut.sp) (surveyorref01_cut.sums lf _) (surveyorref01_cut.ev lf)
noncomputable def surveyorref01_digits.anns : FuncId → FA := fun g => bif g == 147 then ⟨fun li => bif li == 0 then (⟨[1, 2, 5, 6, 7, 8, 9, 10, 11, 12, 13, 14, 15, 16, 17, 18, 19, 20, 21, 22, 23, 24, 25, 26], [⟨.tmp 3, (.int .i64), 3⟩], []⟩, ⟨[0, 1, 4, 5, 6, 7, 8, 9, 10, 11, 12, 13, 14, 15, 16, 17, 18, 19, 20, 21, 22, 23, 24, 25, 26], [⟨.tmp 3, (.int .i64), 3⟩], []⟩) else (⟨[], [], []⟩, ⟨[], [], []⟩), none⟩ else FA.none
theorem surveyorref01_digits.sp : AnnsOK Proofs.Tryz.prog surveyorref01_digits.anns := by
  intro g s h
  unfold surveyorref01_digits.anns at h
  by_cases e147 : g = 147
  · subst e147
    cases h
  have e147' : (g == 147) = false := by simpa using e147
  rw [e147', cond_false] at h
  cases h
noncomputable def surveyorref01_digits.l0 (lf : Nat) (v0_0 : ByteArray) : Nat → Int → (List Int) → Option (((List Int) × Unit) × Unit)
  | 0, _, _ => none
  | n + 1, v0_1, v0_2 =>
  br (decide (v0_1 ≥ 0)) (
   bd (sIdx v0_0 v0_1) fun r1 =>
   br (((r1.toNat : Nat) : Int) != 45) (
    bd (sIdx v0_0 v0_1) fun r2 =>
    bd (apL true 8 v0_2 [(IntKind.i64.wrap (IntKind.u8.wrap (((r2.toNat : Nat) : Int) - 48)))]) fun l3 =>
    surveyorref01_digits.l0 lf v0_0 n (IntKind.i64.wrap (v0_1 - 1)) l3) (
    some ((v0_2, ()), ()))) (
   some ((v0_2, ()), ()))
noncomputable def surveyorref01_digits.S0 (v0_0 : ByteArray) (v0_1 : Int) (v0_2 : (List Int)) : St := ([.v (.string v0_0), .any, .any, .row 0, .v (.int .i64 v0_1), .any, .any, .any, .any, .any, .any, .any, .any, .any, .any, .any, .any, .any, .any, .any, .any, .any, .any, .any, .any, .any, .any], [some (.row (.int .i64) v0_2 3 false)])
noncomputable def surveyorref01_digits.X0 (w0 : (List Int)) : St := ([.any, .any, .any, .row 0, .any, .any, .any, .any, .any, .any, .any, .any, .any, .any, .any, .any, .any, .any, .any, .any, .any, .any, .any, .any, .any, .any, .any], [some (.row (.int .i64) w0 3 false)])
noncomputable def surveyorref01_digits.m0 : (st : St) → Option {x : ByteArray × Int × (List Int) × Unit // st = surveyorref01_digits.S0 x.1 x.2.1 x.2.2.1}
  | (((.v (.string v0_0)) :: .any :: .any :: (.row 0) :: (.v (.int .i64 v0_1)) :: .any :: .any :: .any :: .any :: .any :: .any :: .any :: .any :: .any :: .any :: .any :: .any :: .any :: .any :: .any :: .any :: .any :: .any :: .any :: .any :: .any :: .any :: []), ((some (.row (.int .i64) v0_2 3 false)) :: [])) => some ⟨(v0_0, v0_1, v0_2, ()), rfl⟩
  | _ => none
noncomputable def surveyorref01_digits.o0 (v0_0 : ByteArray) (y : ((List Int) × Unit) × Unit) : Alt := .one (.exit 0) (surveyorref01_digits.X0 y.1.1)
noncomputable def surveyorref01_digits.tb (lf : Nat) : List (FuncId × Entry) := []
noncomputable def surveyorref01_digits.s13_147 (lf : Nat) : Sums := fun li st => match li with
  | 0 => ((surveyorref01_digits.m0 st).map fun p => (⟨((List Int) × Unit) × Unit, surveyorref01_digits.l0 lf p.1.1 (lf + 40) p.1.2.1 p.1.2.2.1, surveyorref01_digits.o0 p.1.1⟩ : LTE))
  | _ => none
noncomputable def surveyorref01_digits.ls (lf : Nat) : List (Nat × FuncId × Sums) := [(13, 147, surveyorref01_digits.s13_147 lf)]
noncomputable def surveyorref01_digits.dr (lf : Nat) (ρ : Type) : Draws ρ := drawA Proofs.Tryz.prog (lookT (surveyorref01_digits.tb lf)) 0 fun n => clQ Proofs.Tryz.prog surveyorref01_digits.anns (lookT (surveyorref01_digits.tb lf)) (lf + 40) 14 6 n ρ
noncomputable def surveyorref01_digits.it0 {ρ : Type} (lf n : Nat) (st : St) (k : KE ρ) : Option ρ := iterK (nrmS 0 ((surveyorref01_digits.anns 147).ann 0).1 0) (nrmS 0 ((surveyorref01_digits.anns 147).ann 0).2 0) (codeK Proofs.Tryz.prog 147 (surveyorref01_digits.anns 147).ann (surveyorref01_digits.s13_147 lf) (surveyorref01_digits.dr lf ρ) (goK Proofs.Tryz.prog surveyorref01_digits.anns (lsOf (surveyorref01_digits.ls lf)) (surveyorref01_digits.dr lf ρ) (lookT (surveyorref01_digits.tb lf)) 0 (lf + 40) 13) 0 (lf + 40) none 1 (loopP Proofs.Tryz.prog 147 0)) n st k
theorem surveyorref01_digits.t0 {ρ : Type} (lf n : Nat) (v0_0 : ByteArray) (v0_1 : Int) (v0_2 : (List Int)) (k : KE ρ) : surveyorref01_digits.it0 lf (n + 1) (surveyorref01_digits.S0 v0_0 v0_1 v0_2) k =
  br (decide (v0_1 ≥ 0)) (
   bd (sIdx v0_0 v0_1) fun r1 =>
   br (((r1.toNat : Nat) : Int) != 45) (
    bd (sIdx v0_0 v0_1) fun r2 =>
    bd (apL true 8 v0_2 [(IntKind.i64.wrap (IntKind.u8.wrap (((r2.toNat : Nat) : Int) - 48)))]) fun l3 =>
    surveyorref01_digits.it0 lf n (surveyorref01_digits.S0 v0_0 (IntKind.i64.wrap (v0_1 - 1)) l3) k) (
    k (.exit 0) (surveyorref01_digits.X0 v0_2))) (
   k (.exit 0) (surveyorref01_digits.X0 v0_2)) := by kernel_rfl
theorem surveyorref01_digits.u0 {ρ : Type} (lf : Nat) (v0_0 : ByteArray) (k : KE ρ) : ∀ (n : Nat) (v0_1 : Int) (v0_2 : (List Int)), surveyorref01_digits.it0 lf n (surveyorref01_digits.S0 v0_0 v0_1 v0_2) k = bd (surveyorref01_digits.l0 lf v0_0 n v0_1 v0_2) fun y => altK k (surveyorref01_digits.o0 v0_0 y)
  | 0, _, _ => by rw [surveyorref01_digits.l0, bd_none]; rfl
  | n + 1, v0_1, v0_2 => by
    rw [surveyorref01_digits.t0]; simp only [surveyorref01_digits.l0, surveyorref01_digits.u0 lf v0_0 k n, bd_br, bd_bd, bd_some', bd_none, br_t, br_f, surveyorref01_digits.o0, altK]
theorem surveyorref01_digits.a13_147 (lf : Nat) (ρ : Type) : ∀ i, LsAt ρ Proofs.Tryz.prog 147 (surveyorref01_digits.anns 147).ann (surveyorref01_digits.s13_147 lf) (surveyorref01_digits.dr lf ρ) (goK Proofs.Tryz.prog surveyorref01_digits.anns (lsOf (surveyorref01_digits.ls lf)) (surveyorref01_digits.dr lf ρ) (lookT (surveyorref01_digits.tb lf)) 0 (lf + 40) 13) 0 (lf + 40) none i (loopP Proofs.Tryz.prog 147 i)
  | 0 => by
    intro st T h k r he
    obtain ⟨p, _, rfl⟩ := Option.map_eq_some_iff.1 h
    obtain ⟨x, rfl⟩ := p
    exact (surveyorref01_digits.u0 lf _ k (lf + 40) _ _).trans he
  | _ + 1 => lsAt_none rfl
theorem surveyorref01_digits.sums (lf : Nat) (ρ : Type) : SumsOK ρ Proofs.Tryz.prog surveyorref01_digits.anns (lsOf (surveyorref01_digits.ls lf)) (surveyorref01_digits.dr lf ρ) (lookT (surveyorref01_digits.tb lf)) 0 (lf + 40) := by
  refine sumsOK_of rfl fun p hp => ?_
  simp only [surveyorref01_digits.ls, List.mem_cons, List.not_mem_nil, or_false] at hp
  subst hp
  exact surveyorref01_digits.a13_147 lf ρ
noncomputable def surveyorref01_digits.f (lf : Nat) (a0 : ByteArray) : Option ((List Int) × Unit) :=
 bd (surveyorref01_digits.l0 lf a0 (lf + 40) (IntKind.i64.wrap (((a0.size : Nat) : Int) - 1)) []) fun z4 =>
 some (z4.1.1, ())
noncomputable def surveyorref01_digits.E (lf : Nat) : Entry := ⟨[.str], [(.sl (.int .i64))], fun x => surveyorref01_digits.f lf x.1⟩
theorem surveyorref01_digits.ev (lf : Nat) (x : Tys (surveyorref01_digits.E lf).ps) : (surveyorref01_digits.E lf).f x = runQ Proofs.Tryz.prog surveyorref01_digits.anns (lsOf (surveyorref01_digits.ls lf)) (lookT (surveyorref01_digits.tb lf)) (lf + 40) 14 6 147 (surveyorref01_digits.E lf).ps (surveyorref01_digits.E lf).rs x := by kernel_rfl
theorem surveyorref01_digits.ok (lf : Nat) : EntryOK Proofs.Tryz.prog TabG 147 (surveyorref01_digits.E lf) := entryL (l := surveyorref01_digits.tb lf) lookT_nil (surveyorref01_digits.sp) (surveyorref01_digits.sums lf _) (surveyorref01_digits.ev lf)
noncomputable def surveyorref01_Order.f (lf : Nat) (a0 : ByteArray) (a1 : ByteArray) : Option (Int × Unit) :=
 bd (surveyorref01_Sign.f lf a0) fun r1 =>
 bd (surveyorref01_Sign.f lf a1) fun r2 =>
 br (r1.1 != r2.1) (
  br (decide (r1.1 < r2.1)) (
   some ((-1), ())) (
   some (1, ()))) (
  bd (surveyorref01_digits.f lf a0) fun r3 =>
  bd (surveyorref01_cut.f lf r3.1) fun r4 =>
  bd (surveyorref01_digits.f lf a1) fun r5 =>
  bd (surveyorref01_cut.f lf r5.1) fun r6 =>
  bd (surveyorref01_order.f lf r4.1 r6.1) fun r7 =>
  some ((IntKind.i64.wrap (r1.1 * r7.1)), ()))
noncomputable def surveyorref01_Order.E (lf : Nat) : Entry := ⟨[.str, .str], [(.int .i64)], fun x => surveyorref01_Order.f lf x.1 x.2.1⟩
theorem surveyorref01_Order.ev (lf : Nat) (x : Tys (surveyorref01_Order.E lf).ps) : (surveyorref01_Order.E lf).f x = runQ Proofs.Tryz.prog (fun _ => FA.none) noLs (lookT [(144, surveyorref01_Sign.E lf), (145, surveyorref01_order.E lf), (146, surveyorref01_cut.E lf), (147, surveyorref01_digits.E lf)]) (lf + 40) 14 6 108 (surveyorref01_Order.E lf).ps (surveyorref01_Order.E lf).rs x := by kernel_rfl
theorem surveyorref01_Order.ok (lf : Nat) : EntryOK Proofs.Tryz.prog TabG 108 (surveyorref01_Order.E lf) := entryT (lookT_cons (surveyorref01_Sign.ok lf) (lookT_cons (surveyorref01_order.ok lf) (lookT_cons (surveyorref01_cut.ok lf) (lookT_cons (surveyorref01_digits.ok lf) lookT_nil)))) (annsOK_none fun _ => rfl) (surveyorref01_Order.ev lf)
noncomputable def surveyorref01_Less.f (lf : Nat) (a0 : ByteArray) (a1 : ByteArray) : Option (Bool × Unit) :=
 bd (surveyorref01_Order.f lf a0 a1) fun r1 =>
 some ((decide (r1.1 < 0)), ())
noncomputable def surveyorref01_Less.E (lf : Nat) : Entry := ⟨[.str, .str], [.bool], fun x => surveyorref01_Less.f lf x.1 x.2.1⟩
theorem surveyorref01_Less.ev (lf : Nat) (x : Tys (surveyorref01_Less.E lf).ps) : (surveyorref01_Less.E lf).f x = runQ Proofs.Tryz.prog (fun _ => FA.none) noLs (lookT [(108, surveyorref01_Order.E lf)]) (lf + 40) 14 6 68 (surveyorref01_Less.E lf).ps (surveyorref01_Less.E lf).rs x := by kernel_rfl
theorem surveyorref01_Less.ok (lf : Nat) : EntryOK Proofs.Tryz.prog TabG 68 (surveyorref01_Less.E lf) := entryT (lookT_cons (surveyorref01_Order.ok lf) lookT_nil) (annsOK_none fun _ => rfl) (surveyorref01_Less.ev lf)
noncomputable def surveyorref01_Digits.f (lf : Nat) (a0 : ByteArray) : Option (Int × Unit) :=
 bd (surveyorref01_Negative.f lf a0) fun r1 =>
 br r1.1 (
  some ((IntKind.i64.wrap (((a0.size : Nat) : Int) - 1)), ())) (
  some (((a0.size : Nat) : Int), ()))
noncomputable def surveyorref01_Digits.E (lf : Nat) : Entry := ⟨[.str], [(.int .i64)], fun x => surveyorref01_Digits.f lf x.1⟩
theorem surveyorref01_Digits.ev (lf : Nat) (x : Tys (surveyorref01_Digits.E lf).ps) : (surveyorref01_Digits.E lf).f x = runQ Proofs.Tryz.prog (fun _ => FA.none) noLs (lookT [(89, surveyorref01_Negative.E lf)]) (lf + 40) 14 6 45 (surveyorref01_Digits.E lf).ps (surveyorref01_Digits.E lf).rs x := by kernel_rfl
theorem surveyorref01_Digits.ok (lf : Nat) : EntryOK Proofs.Tryz.prog TabG 45 (surveyorref01_Digits.E lf) := entryT (lookT_cons (surveyorref01_Negative.ok lf) lookT_nil) (annsOK_none fun _ => rfl) (surveyorref01_Digits.ev lf)
noncomputable def surveyorref01_Form.anns : FuncId → FA := fun g => bif g == 71 then ⟨fun li => bif li == 0 then (⟨[1, 2, 3, 5, 6, 7, 8, 9, 10, 11, 12, 13, 14, 15, 16, 17, 18, 19, 20, 21, 22, 23, 24, 25, 26, 27, 28, 29, 30, 31, 32, 33, 34, 35, 36, 37, 38, 39, 40, 41], [], []⟩, ⟨[0, 1, 3, 4, 5, 6, 7, 8, 9, 10, 11, 12, 13, 14, 15, 16, 17, 18, 19, 20, 21, 22, 23, 24, 25, 26, 27, 28, 29, 30, 31, 32, 33, 34, 35, 36, 37, 38, 39, 40, 41], [], []⟩) else (⟨[], [], []⟩, ⟨[], [], []⟩), none⟩ else FA.none
theorem surveyorref01_Form.sp : AnnsOK Proofs.Tryz.prog surveyorref01_Form.anns := by
  intro g s h
  unfold surveyorref01_Form.anns at h
  by_cases e71 : g = 71
  · subst e71
    cases h
  have e71' : (g == 71) = false := by simpa using e71
  rw [e71', cond_false] at h
  cases h
noncomputable def surveyorref01_Form.l0 (lf : Nat) (v0_0 : ByteArray) : Nat → Int → Option (Bool × (Unit) × (Unit) × Unit)
  | 0, _ => none
  | n + 1, v0_1 =>
  br (decide (v0_1 < ((v0_0.size : Nat) : Int))) (
   bd (sIdx v0_0 v0_1) fun r3 =>
   br (decide (((r3.toNat : Nat) : Int) < 48)) (
    some (true, (()), ((()), ()))) (
    bd (sIdx v0_0 v0_1) fun r4 =>
    br (decide (((r4.toNat : Nat) : Int) > 57)) (
     some (true, (()), ((()), ()))) (
     surveyorref01_Form.l0 lf v0_0 n (IntKind.i64.wrap (v0_1 + 1))))) (
   some (false, (()), ((()), ())))
noncomputable def surveyorref01_Form.S0 (v0_0 : ByteArray) (v0_1 : Int) : St := ([.v (.string v0_0), .any, .any, .any, .v (.int .i64 v0_1), .any, .any, .any, .any, .any, .any, .any, .any, .any, .any, .any, .any, .any, .any, .any, .any, .any, .any, .any, .any, .any, .any, .any, .any, .any, .any, .any, .any, .any, .any, .any, .any, .any, .any, .any, .any, .any], [])
noncomputable def surveyorref01_Form.X0 (w0 : Bool) : St := ([.any, .any, .v (.bool w0), .any, .any, .any, .any, .any, .any, .any, .any, .any, .any, .any, .any, .any, .any, .any, .any, .any, .any, .any, .any, .any, .any, .any, .any, .any, .any, .any, .any, .any, .any, .any, .any, .any, .any, .any, .any, .any, .any, .any], [])
noncomputable def surveyorref01_Form.X1 : St := ([.any, .any, .any, .any, .any, .any, .any, .any, .any, .any, .any, .any, .any, .any, .any, .any, .any, .any, .any, .any, .any, .any, .any, .any, .any, .any, .any, .any, .any, .any, .any, .any, .any, .any, .any, .any, .any, .any, .any, .any, .any, .any], [])
noncomputable def surveyorref01_Form.m0 : (st : St) → Option {x : ByteArray × Int × Unit // st = surveyorref01_Form.S0 x.1 x.2.1}
  | (((.v (.string v0_0)) :: .any :: .any :: .any :: (.v (.int .i64 v0_1)) :: .any :: .any :: .any :: .any :: .any :: .any :: .any :: .any :: .any :: .any :: .any :: .any :: .any :: .any :: .any :: .any :: .any :: .any :: .any :: .any :: .any :: .any :: .any :: .any :: .any :: .any :: .any :: .any :: .any :: .any :: .any :: .any :: .any :: .any :: .any :: .any :: .any :: []), ([])) => some ⟨(v0_0, v0_1, ()), rfl⟩
  | _ => none
noncomputable def surveyorref01_Form.o0 (v0_0 : ByteArray) (y : Bool × (Unit) × (Unit) × Unit) : Alt := .two y.1 (.one .ret (surveyorref01_Form.X0 false)) (.one (.exit 0) (surveyorref01_Form.X1 ))
noncomputable def surveyorref01_Form.tb (lf : Nat) : List (FuncId × Entry) := []
noncomputable def surveyorref01_Form.s13_71 (lf : Nat) : Sums := fun li st => match li with
  | 0 => ((surveyorref01_Form.m0 st).map fun p => (⟨Bool × (Unit) × (Unit) × Unit, surveyorref01_Form.l0 lf p.1.1 (lf + 40) p.1.2.1, surveyorref01_Form.o0 p.1.1⟩ : LTE))
  | _ => none
noncomputable def surveyorref01_Form.ls (lf : Nat) : List (Nat × FuncId × Sums) := [(13, 71, surveyorref01_Form.s13_71 lf)]
noncomputable def surveyorref01_Form.dr (lf : Nat) (ρ : Type) : Draws ρ := drawA Proofs.Tryz.prog (lookT (surveyorref01_Form.tb lf)) 0 fun n => clQ Proofs.Tryz.prog surveyorref01_Form.anns (lookT (surveyorref01_Form.tb lf)) (lf + 40) 14 6 n ρ
noncomputable def surveyorref01_Form.it0 {ρ : Type} (lf n : Nat) (st : St) (k : KE ρ) : Option ρ := iterK (nrmS 0 ((surveyorref01_Form.anns 71).ann 0).1 0) (nrmS 0 ((surveyorref01_Form.anns 71).ann 0).2 0) (codeK Proofs.Tryz.prog 71 (surveyorref01_Form.anns 71).ann (surveyorref01_Form.s13_71 lf) (surveyorref01_Form.dr lf ρ) (goK Proofs.Tryz.prog surveyorref01_Form.anns (lsOf (surveyorref01_Form.ls lf)) (surveyorref01_Form.dr lf ρ) (lookT (surveyorref01_Form.tb lf)) 0 (lf + 40) 13) 0 (lf + 40) none 1 (loopP Proofs.Tryz.prog 71 0)) n st k
theorem surveyorref01_Form.t0 {ρ : Type} (lf n : Nat) (v0_0 : ByteArray) (v0_1 : Int) (k : KE ρ) : surveyorref01_Form.it0 lf (n + 1) (surveyorref01_Form.S0 v0_0 v0_1) k =
  br (decide (v0_1 < ((v0_0.size : Nat) : Int))) (
   bd (sIdx v0_0 v0_1) fun r3 =>
   br (decide (((r3.toNat : Nat) : Int) < 48)) (
    k .ret (surveyorref01_Form.X0 false)) (
    bd (sIdx v0_0 v0_1) fun r4 =>
    br (decide (((r4.toNat : Nat) : Int) > 57)) (
     k .ret (surveyorref01_Form.X0 false)) (
     surveyorref01_Form.it0 lf n (surveyorref01_Form.S0 v0_0 (IntKind.i64.wrap (v0_1 + 1))) k))) (
   k (.exit 0) (surveyorref01_Form.X1 )) := by kernel_rfl
theorem surveyorref01_Form.u0 {ρ : Type} (lf : Nat) (v0_0 : ByteArray) (k : KE ρ) : ∀ (n : Nat) (v0_1 : Int), surveyorref01_Form.it0 lf n (surveyorref01_Form.S0 v0_0 v0_1) k = bd (surveyorref01_Form.l0 lf v0_0 n v0_1) fun y => altK k (surveyorref01_Form.o0 v0_0 y)
  | 0, _ => by rw [surveyorref01_Form.l0, bd_none]; rfl
  | n + 1, v0_1 => by
    rw [surveyorref01_Form.t0]; simp only [surveyorref01_Form.l0, surveyorref01_Form.u0 lf v0_0 k n, bd_br, bd_bd, bd_some', bd_none, br_t, br_f, surveyorref01_Form.o0, altK]
theorem surveyorref01_Form.a13_71 (lf : Nat) (ρ : Type) : ∀ i, LsAt ρ Proofs.Tryz.prog 71 (surveyorref01_Form.anns 71).ann (surveyorref01_Form.s13_71 lf) (surveyorref01_Form.dr lf ρ) (goK Proofs.Tryz.prog surveyorref01_Form.anns (lsOf (surveyorref01_Form.ls lf)) (surveyorref01_Form.dr lf ρ) (lookT (surveyorref01_Form.tb lf)) 0 (lf + 40) 13) 0 (lf + 40) none i (loopP Proofs.Tryz.prog 71 i)
  | 0 => by
    intro st T h k r he
    obtain ⟨p, _, rfl⟩ := Option.map_eq_some_iff.1 h
    obtain ⟨x, rfl⟩ := p
    exact (surveyorref01_Form.u0 lf _ k (lf + 40) _).trans he
  | _ + 1 => lsAt_none rfl
theorem surveyorref01_Form.sums (lf : Nat) (ρ : Type) : SumsOK ρ Proofs.Tryz.prog surveyorref01_Form.anns (lsOf (surveyorref01_Form.ls lf)) (surveyorref01_Form.dr lf ρ) (lookT (surveyorref01_Form.tb lf)) 0 (lf + 40) := by
  refine sumsOK_of rfl fun p hp => ?_
  simp only [surveyorref01_Form.ls, List.mem_cons, List.not_mem_nil, or_false] at hp
  subst hp
  exact surveyorref01_Form.a13_71 lf ρ
noncomputable def surveyorref01_Form.f (lf : Nat) (a0 : ByteArray) : Option (Bool × Unit) :=
 br (a0.toList == (⟨#[48]⟩ : ByteArray).toList) (
  some (true, ())) (
  br (decide (((a0.size : Nat) : Int) > 0)) (
   bd (sIdx a0 0) fun r1 =>
   br (((r1.toNat : Nat) : Int) == 45) (
    br (1 == ((a0.size : Nat) : Int)) (
     some (false, ())) (
     bd (sIdx a0 1) fun r2 =>
     br (((r2.toNat : Nat) : Int) == 48) (
      some (false, ())) (
      bd (surveyorref01_Form.l0 lf a0 (lf + 40) 1) fun z5 =>
      br z5.1 (
       some (false, ())) (
       some (true, ()))))) (
    br (0 == ((a0.size : Nat) : Int)) (
     some (false, ())) (
     bd (sIdx a0 0) fun r6 =>
     br (((r6.toNat : Nat) : Int) == 48) (
      some (false, ())) (
      bd (surveyorref01_Form.l0 lf a0 (lf + 40) 0) fun z7 =>
      br z7.1 (
       some (false, ())) (
       some (true, ())))))) (
   br (0 == ((a0.size : Nat) : Int)) (
    some (false, ())) (
    bd (sIdx a0 0) fun r8 =>
    br (((r8.toNat : Nat) : Int) == 48) (
     some (false, ())) (
     bd (surveyorref01_Form.l0 lf a0 (lf + 40) 0) fun z9 =>
     br z9.1 (
      some (false, ())) (
      some (true, ()))))))
noncomputable def surveyorref01_Form.E (lf : Nat) : Entry := ⟨[.str], [.bool], fun x => surveyorref01_Form.f lf x.1⟩
theorem surveyorref01_Form.ev (lf : Nat) (x : Tys (surveyorref01_Form.E lf).ps) : (surveyorref01_Form.E lf).f x = runQ Proofs.Tryz.prog surveyorref01_Form.anns (lsOf (surveyorref01_Form.ls lf)) (lookT (surveyorref01_Form.tb lf)) (lf + 40) 14 6 71 (surveyorref01_Form.E lf).ps (surveyorref01_Form.E lf).rs x := by kernel_rfl
theorem surveyorref01_Form.ok (lf : Nat) : EntryOK Proofs.Tryz.prog TabG 71 (surveyorref01_Form.E lf) := entryL (l := surveyorref01_Form.tb lf) lookT_nil (surveyorref01_Form.sp) (surveyorref01_Form.sums lf _) (surveyorref01_Form.ev lf)
noncomputable def surveyorref01_Check.f (lf : Nat) (a0 : ByteArray) : Option (Int × Unit) :=
 bd (surveyorref01_Form.f lf a0) fun r1 =>
 br (!r1.1) (
  some (3, ())) (
  bd (surveyorref01_Digits.f lf a0) fun r2 =>
  br (decide (r2.1 > 4096)) (
   some (10, ())) (
   some (0, ())))
noncomputable def surveyorref01_Check.E (lf : Nat) : Entry := ⟨[.str], [(.int .i64)], fun x => surveyorref01_Check.f lf x.1⟩
theorem surveyorref01_Check.ev (lf : Nat) (x : Tys (surveyorref01_Check.E lf).ps) : (surveyorref01_Check.E lf).f x = runQ Proofs.Tryz.prog (fun _ => FA.none) noLs (lookT [(45, surveyorref01_Digits.E lf), (71, surveyorref01_Form.E lf)]) (lf + 40) 14 6 27 (surveyorref01_Check.E lf).ps (surveyorref01_Check.E lf).rs x := by kernel_rfl
theorem surveyorref01_Check.ok (lf : Nat) : EntryOK Proofs.Tryz.prog TabG 27 (surveyorref01_Check.E lf) := entryT (lookT_cons (surveyorref01_Digits.ok lf) (lookT_cons (surveyorref01_Form.ok lf) lookT_nil)) (annsOK_none fun _ => rfl) (surveyorref01_Check.ev lf)
noncomputable def surveyorref01_Negated.f (lf : Nat) (a0 : ByteArray) : Option (ByteArray × Unit) :=
 br (a0.toList == (⟨#[48]⟩ : ByteArray).toList) (
  some (a0, ())) (
  bd (surveyorref01_Negative.f lf a0) fun r1 =>
  br r1.1 (
   bd (sCut a0 (some 1) none) fun r2 =>
   some (r2, ())) (
   bd (sCat (⟨#[45]⟩ : ByteArray) a0) fun r3 =>
   some (r3, ())))
noncomputable def surveyorref01_Negated.E (lf : Nat) : Entry := ⟨[.str], [.str], fun x => surveyorref01_Negated.f lf x.1⟩
theorem surveyorref01_Negated.ev (lf : Nat) (x : Tys (surveyorref01_Negated.E lf).ps) : (surveyorref01_Negated.E lf).f x = runQ Proofs.Tryz.prog (fun _ => FA.none) noLs (lookT [(89, surveyorref01_Negative.E lf)]) (lf + 40) 14 6 161 (surveyorref01_Negated.E lf).ps (surveyorref01_Negated.E lf).rs x := by kernel_rfl
theorem surveyorref01_Negated.ok (lf : Nat) : EntryOK Proofs.Tryz.prog TabG 161 (surveyorref01_Negated.E lf) := entryT (lookT_cons (surveyorref01_Negative.ok lf) lookT_nil) (annsOK_none fun _ => rfl) (surveyorref01_Negated.ev lf)
end
end Go.Q
namespace Go.Q
open Go Go.RowKit
open Go.Rx (br bd sIdx sCat sCut iQuo iRem)
set_option linter.unusedVariables false
set_option linter.unusedSimpArgs false
set_option maxRecDepth 100000
noncomputable section
noncomputable def surveyorref06_Number.f (lf : Nat) (a0 : ByteArray) : Option (Int × Unit) :=
 bd (surveyorref01_Check.f lf a0) fun r1 =>
 br (r1.1 != 0) (
  some (r1.1, ())) (
  bd (surveyorref01_Digits.f lf a0) fun r2 =>
  br (decide (r2.1 > 100)) (
   some (10, ())) (
   some (0, ())))
noncomputable def surveyorref06_Number.E (lf : Nat) : Entry := ⟨[.str], [(.int .i64)], fun x => surveyorref06_Number.f lf x.1⟩
theorem surveyorref06_Number.ev (lf : Nat) (x : Tys (surveyorref06_Number.E lf).ps) : (surveyorref06_Number.E lf).f x = runQ Proofs.Tryz.prog (fun _ => FA.none) noLs (lookT [(27, surveyorref01_Check.E lf), (45, surveyorref01_Digits.E lf)]) (lf + 40) 14 6 69 (surveyorref06_Number.E lf).ps (surveyorref06_Number.E lf).rs x := by kernel_rfl
theorem surveyorref06_Number.ok (lf : Nat) : EntryOK Proofs.Tryz.prog TabG 69 (surveyorref06_Number.E lf) := entryT (lookT_cons (surveyorref01_Check.ok lf) (lookT_cons (surveyorref01_Digits.ok lf) lookT_nil)) (annsOK_none fun _ => rfl) (surveyorref06_Number.ev lf)
end
end Go.Q
