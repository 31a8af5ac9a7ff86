import Derived.Test.YthfphcemoehllaaGreatDoorProg
import Derived.KernelRfl
import Derived.Test.YthfphcemoehllaaGreatDoorE3
import Derived.Test.YthfphcemoehllaaGreatDoorU5
set_option linter.unusedVariables false
set_option linter.unusedSimpArgs false
set_option linter.unusedSectionVars false
namespace Go.Q
open Go Go.RowKit
open Go.Rx (br bd sIdx sCat sCut iQuo iRem)
set_option linter.unusedVariables false
set_option linter.unusedSimpArgs false
set_option maxRecDepth 100000
noncomputable section
noncomputable def surveyorref21_Few.f (lf : Nat) (a0 : (Bool × (ByteArray × (ByteArray × Unit)))) (a1 : (Bool × (ByteArray × (ByteArray × Unit)))) : Option (Bool × Unit) :=
 br (decide (((a0.2.1.size : Nat) : Int) ≤ 450)) (
  br (decide (((a0.2.2.1.size : Nat) : Int) ≤ 450)) (
   br (decide (((a1.2.1.size : Nat) : Int) ≤ 450)) (
    some ((decide (((a1.2.2.1.size : Nat) : Int) ≤ 450)), ())) (
    some (false, ()))) (
   some (false, ()))) (
  some (false, ()))
noncomputable def surveyorref21_Few.E (lf : Nat) : Entry := ⟨[(.pair .bool (.pair .str (.pair .str .unit))), (.pair .bool (.pair .str (.pair .str .unit)))], [.bool], fun x => surveyorref21_Few.f lf x.1 x.2.1⟩
theorem surveyorref21_Few.ev (lf : Nat) (x : Tys (surveyorref21_Few.E lf).ps) : (surveyorref21_Few.E lf).f x = runQ Proofs.Tryz.prog (fun _ => FA.none) noLs (lookT []) (lf + 40) 14 6 11 (surveyorref21_Few.E lf).ps (surveyorref21_Few.E lf).rs x := by kernel_rfl
theorem surveyorref21_Few.ok (lf : Nat) : EntryOK Proofs.Tryz.prog TabG 11 (surveyorref21_Few.E lf) := entryT lookT_nil (annsOK_none fun _ => rfl) (surveyorref21_Few.ev lf)
noncomputable def surveyorref21_Thresholds.anns : FuncId → FA := fun g => bif g == 20 then ⟨fun li => bif li == 0 then (⟨[1, 2, 4, 5, 6, 7, 8, 9, 10, 11, 12, 13, 14, 15, 16, 17, 18, 19, 20, 21, 22, 23, 24, 25, 26, 27, 28, 29, 30, 31, 32, 33, 34, 35, 36], [], []⟩, ⟨[0, 1, 3, 4, 5, 6, 7, 8, 9, 10, 11, 12, 13, 14, 15, 16, 17, 18, 19, 20, 21, 22, 23, 24, 25, 26, 27, 28, 29, 30, 31, 32, 33, 34, 35, 36], [], []⟩) else (⟨[], [], []⟩, ⟨[], [], []⟩), none⟩ else FA.none
theorem surveyorref21_Thresholds.sp : AnnsOK Proofs.Tryz.prog surveyorref21_Thresholds.anns := by
  intro g s h
  unfold surveyorref21_Thresholds.anns at h
  by_cases e20 : g = 20
  · subst e20
    cases h
  have e20' : (g == 20) = false := by simpa using e20
  rw [e20', cond_false] at h
  cases h
noncomputable def surveyorref21_Thresholds.l0 (lf : Nat) (v0_0 : (List ByteArray)) : Nat → Int → Option (Bool × (Int × Unit) × (Unit) × Unit)
  | 0, _ => none
  | n + 1, v0_1 =>
  br (decide (v0_1 < ((v0_0.length : Nat) : Int))) (
   bd (idxL v0_0 v0_1) fun y1 =>
   bd (surveyorref06_Number.f lf y1) fun r2 =>
   br (r2.1 != 0) (
    some (true, (r2.1, ()), ((()), ()))) (
    br (decide (v0_1 > 0)) (
     bd (idxL v0_0 (IntKind.i64.wrap (v0_1 - 1))) fun y3 =>
     bd (idxL v0_0 v0_1) fun y4 =>
     bd (surveyorref01_Less.f lf y3 y4) fun r5 =>
     br (!r5.1) (
      some (true, (14, ()), ((()), ()))) (
      surveyorref21_Thresholds.l0 lf v0_0 n (IntKind.i64.wrap (v0_1 + 1)))) (
     surveyorref21_Thresholds.l0 lf v0_0 n (IntKind.i64.wrap (v0_1 + 1))))) (
   some (false, (0, ()), ((()), ())))
noncomputable def surveyorref21_Thresholds.S0 (v0_0 : (List ByteArray)) (v0_1 : Int) : St := ([.sl .str v0_0, .any, .any, .v (.int .i64 v0_1), .any, .any, .any, .any, .any, .any, .any, .any, .any, .any, .any, .any, .any, .any, .any, .any, .any, .any, .any, .any, .any, .any, .any, .any, .any, .any, .any, .any, .any, .any, .any, .any, .any], [])
noncomputable def surveyorref21_Thresholds.X0 (w0 : Int) : St := ([.any, .any, .v (.int .i64 w0), .any, .any, .any, .any, .any, .any, .any, .any, .any, .any, .any, .any, .any, .any, .any, .any, .any, .any, .any, .any, .any, .any, .any, .any, .any, .any, .any, .any, .any, .any, .any, .any, .any, .any], [])
noncomputable def surveyorref21_Thresholds.X1 : St := ([.any, .any, .any, .any, .any, .any, .any, .any, .any, .any, .any, .any, .any, .any, .any, .any, .any, .any, .any, .any, .any, .any, .any, .any, .any, .any, .any, .any, .any, .any, .any, .any, .any, .any, .any, .any, .any], [])
noncomputable def surveyorref21_Thresholds.m0 : (st : St) → Option {x : (List ByteArray) × Int × Unit // st = surveyorref21_Thresholds.S0 x.1 x.2.1}
  | (((.sl .str v0_0) :: .any :: .any :: (.v (.int .i64 v0_1)) :: .any :: .any :: .any :: .any :: .any :: .any :: .any :: .any :: .any :: .any :: .any :: .any :: .any :: .any :: .any :: .any :: .any :: .any :: .any :: .any :: .any :: .any :: .any :: .any :: .any :: .any :: .any :: .any :: .any :: .any :: .any :: .any :: .any :: []), ([])) => some ⟨(v0_0, v0_1, ()), rfl⟩
  | _ => none
noncomputable def surveyorref21_Thresholds.o0 (v0_0 : (List ByteArray)) (y : Bool × (Int × Unit) × (Unit) × Unit) : Alt := .two y.1 (.one .ret (surveyorref21_Thresholds.X0 y.2.1.1)) (.one (.exit 0) (surveyorref21_Thresholds.X1 ))
noncomputable def surveyorref21_Thresholds.tb (lf : Nat) : List (FuncId × Entry) := [(68, surveyorref01_Less.E lf), (69, surveyorref06_Number.E lf)]
noncomputable def surveyorref21_Thresholds.s13_20 (lf : Nat) : Sums := fun li st => match li with
  | 0 => ((surveyorref21_Thresholds.m0 st).map fun p => (⟨Bool × (Int × Unit) × (Unit) × Unit, surveyorref21_Thresholds.l0 lf p.1.1 (lf + 40) p.1.2.1, surveyorref21_Thresholds.o0 p.1.1⟩ : LTE))
  | _ => none
noncomputable def surveyorref21_Thresholds.ls (lf : Nat) : List (Nat × FuncId × Sums) := [(13, 20, surveyorref21_Thresholds.s13_20 lf)]
noncomputable def surveyorref21_Thresholds.dr (lf : Nat) (ρ : Type) : Draws ρ := drawA Proofs.Tryz.prog (lookT (surveyorref21_Thresholds.tb lf)) 0 fun n => clQ Proofs.Tryz.prog surveyorref21_Thresholds.anns (lookT (surveyorref21_Thresholds.tb lf)) (lf + 40) 14 6 n ρ
noncomputable def surveyorref21_Thresholds.it0 {ρ : Type} (lf n : Nat) (st : St) (k : KE ρ) : Option ρ := iterK (nrmS 0 ((surveyorref21_Thresholds.anns 20).ann 0).1 0) (nrmS 0 ((surveyorref21_Thresholds.anns 20).ann 0).2 0) (codeK Proofs.Tryz.prog 20 (surveyorref21_Thresholds.anns 20).ann (surveyorref21_Thresholds.s13_20 lf) (surveyorref21_Thresholds.dr lf ρ) (goK Proofs.Tryz.prog surveyorref21_Thresholds.anns (lsOf (surveyorref21_Thresholds.ls lf)) (surveyorref21_Thresholds.dr lf ρ) (lookT (surveyorref21_Thresholds.tb lf)) 0 (lf + 40) 13) 0 (lf + 40) none 1 (loopP Proofs.Tryz.prog 20 0)) n st k
theorem surveyorref21_Thresholds.t0 {ρ : Type} (lf n : Nat) (v0_0 : (List ByteArray)) (v0_1 : Int) (k : KE ρ) : surveyorref21_Thresholds.it0 lf (n + 1) (surveyorref21_Thresholds.S0 v0_0 v0_1) k =
  br (decide (v0_1 < ((v0_0.length : Nat) : Int))) (
   bd (idxL v0_0 v0_1) fun y1 =>
   bd (surveyorref06_Number.f lf y1) fun r2 =>
   br (r2.1 != 0) (
    k .ret (surveyorref21_Thresholds.X0 r2.1)) (
    br (decide (v0_1 > 0)) (
     bd (idxL v0_0 (IntKind.i64.wrap (v0_1 - 1))) fun y3 =>
     bd (idxL v0_0 v0_1) fun y4 =>
     bd (surveyorref01_Less.f lf y3 y4) fun r5 =>
     br (!r5.1) (
      k .ret (surveyorref21_Thresholds.X0 14)) (
      surveyorref21_Thresholds.it0 lf n (surveyorref21_Thresholds.S0 v0_0 (IntKind.i64.wrap (v0_1 + 1))) k)) (
     surveyorref21_Thresholds.it0 lf n (surveyorref21_Thresholds.S0 v0_0 (IntKind.i64.wrap (v0_1 + 1))) k))) (
   k (.exit 0) (surveyorref21_Thresholds.X1 )) := by kernel_rfl
theorem surveyorref21_Thresholds.u0 {ρ : Type} (lf : Nat) (v0_0 : (List ByteArray)) (k : KE ρ) : ∀ (n : Nat) (v0_1 : Int), surveyorref21_Thresholds.it0 lf n (surveyorref21_Thresholds.S0 v0_0 v0_1) k = bd (surveyorref21_Thresholds.l0 lf v0_0 n v0_1) fun y => altK k (surveyorref21_Thresholds.o0 v0_0 y)
  | 0, _ => by rw [surveyorref21_Thresholds.l0, bd_none]; rfl
  | n + 1, v0_1 => by
    rw [surveyorref21_Thresholds.t0]; simp only [surveyorref21_Thresholds.l0, surveyorref21_Thresholds.u0 lf v0_0 k n, bd_br, bd_bd, bd_some', bd_none, br_t, br_f, surveyorref21_Thresholds.o0, altK]
theorem surveyorref21_Thresholds.a13_20 (lf : Nat) (ρ : Type) : ∀ i, LsAt ρ Proofs.Tryz.prog 20 (surveyorref21_Thresholds.anns 20).ann (surveyorref21_Thresholds.s13_20 lf) (surveyorref21_Thresholds.dr lf ρ) (goK Proofs.Tryz.prog surveyorref21_Thresholds.anns (lsOf (surveyorref21_Thresholds.ls lf)) (surveyorref21_Thresholds.dr lf ρ) (lookT (surveyorref21_Thresholds.tb lf)) 0 (lf + 40) 13) 0 (lf + 40) none i (loopP Proofs.Tryz.prog 20 i)
  | 0 => by
    intro st T h k r he
    obtain ⟨p, _, rfl⟩ := Option.map_eq_some_iff.1 h
    obtain ⟨x, rfl⟩ := p
    exact (surveyorref21_Thresholds.u0 lf _ k (lf + 40) _).trans he
  | _ + 1 => lsAt_none rfl
theorem surveyorref21_Thresholds.sums (lf : Nat) (ρ : Type) : SumsOK ρ Proofs.Tryz.prog surveyorref21_Thresholds.anns (lsOf (surveyorref21_Thresholds.ls lf)) (surveyorref21_Thresholds.dr lf ρ) (lookT (surveyorref21_Thresholds.tb lf)) 0 (lf + 40) := by
  refine sumsOK_of rfl fun p hp => ?_
  simp only [surveyorref21_Thresholds.ls, List.mem_cons, List.not_mem_nil, or_false] at hp
  subst hp
  exact surveyorref21_Thresholds.a13_20 lf ρ
noncomputable def surveyorref21_Thresholds.f (lf : Nat) (a0 : (List ByteArray)) : Option (Int × Unit) :=
 br (decide (((a0.length : Nat) : Int) > 1024)) (
  some (5, ())) (
  bd (surveyorref21_Thresholds.l0 lf a0 (lf + 40) 0) fun z6 =>
  br z6.1 (
   some (z6.2.1.1, ())) (
   some (0, ())))
noncomputable def surveyorref21_Thresholds.E (lf : Nat) : Entry := ⟨[(.sl .str)], [(.int .i64)], fun x => surveyorref21_Thresholds.f lf x.1⟩
theorem surveyorref21_Thresholds.ev (lf : Nat) (x : Tys (surveyorref21_Thresholds.E lf).ps) : (surveyorref21_Thresholds.E lf).f x = runQ Proofs.Tryz.prog surveyorref21_Thresholds.anns (lsOf (surveyorref21_Thresholds.ls lf)) (lookT (surveyorref21_Thresholds.tb lf)) (lf + 40) 14 6 20 (surveyorref21_Thresholds.E lf).ps (surveyorref21_Thresholds.E lf).rs x := by kernel_rfl
theorem surveyorref21_Thresholds.ok (lf : Nat) : EntryOK Proofs.Tryz.prog TabG 20 (surveyorref21_Thresholds.E lf) := entryL (l := surveyorref21_Thresholds.tb lf) (lookT_cons (surveyorref01_Less.ok lf) (lookT_cons (surveyorref06_Number.ok lf) lookT_nil)) (surveyorref21_Thresholds.sp) (surveyorref21_Thresholds.sums lf _) (surveyorref21_Thresholds.ev lf)
noncomputable def surveyorref21_bound.f (lf : Nat) (a0 : ByteArray) : Option (Int × Unit) :=
 br (a0.toList == (⟨#[]⟩ : ByteArray).toList) (
  some (0, ())) (
  bd (surveyorref06_Number.f lf a0) fun r1 =>
  some (r1.1, ()))
noncomputable def surveyorref21_bound.E (lf : Nat) : Entry := ⟨[.str], [(.int .i64)], fun x => surveyorref21_bound.f lf x.1⟩
theorem surveyorref21_bound.ev (lf : Nat) (x : Tys (surveyorref21_bound.E lf).ps) : (surveyorref21_bound.E lf).f x = runQ Proofs.Tryz.prog (fun _ => FA.none) noLs (lookT [(69, surveyorref06_Number.E lf)]) (lf + 40) 14 6 67 (surveyorref21_bound.E lf).ps (surveyorref21_bound.E lf).rs x := by kernel_rfl
theorem surveyorref21_bound.ok (lf : Nat) : EntryOK Proofs.Tryz.prog TabG 67 (surveyorref21_bound.E lf) := entryT (lookT_cons (surveyorref06_Number.ok lf) lookT_nil) (annsOK_none fun _ => rfl) (surveyorref21_bound.ev lf)
noncomputable def surveyorref21_Check.f (lf : Nat) (a0 : (Bool × (ByteArray × (ByteArray × Unit)))) : Option (Int × Unit) :=
 br a0.1 (
  br (!(a0.2.1.toList == (⟨#[]⟩ : ByteArray).toList)) (
   some (3, ())) (
   br (!(a0.2.2.1.toList == (⟨#[]⟩ : ByteArray).toList)) (
    some (3, ())) (
    bd (surveyorref21_bound.f lf a0.2.1) fun r1 =>
    br (r1.1 != 0) (
     some (r1.1, ())) (
     bd (surveyorref21_bound.f lf a0.2.2.1) fun r2 =>
     br (r2.1 != 0) (
      some (r2.1, ())) (
      br (!(a0.2.1.toList == (⟨#[]⟩ : ByteArray).toList)) (
       br (!(a0.2.2.1.toList == (⟨#[]⟩ : ByteArray).toList)) (
        bd (surveyorref01_Less.f lf a0.2.2.1 a0.2.1) fun r3 =>
        br r3.1 (
         some (14, ())) (
         some (0, ()))) (
        some (0, ()))) (
       some (0, ()))))))) (
  bd (surveyorref21_bound.f lf a0.2.1) fun r4 =>
  br (r4.1 != 0) (
   some (r4.1, ())) (
   bd (surveyorref21_bound.f lf a0.2.2.1) fun r5 =>
   br (r5.1 != 0) (
    some (r5.1, ())) (
    br (!(a0.2.1.toList == (⟨#[]⟩ : ByteArray).toList)) (
     br (!(a0.2.2.1.toList == (⟨#[]⟩ : ByteArray).toList)) (
      bd (surveyorref01_Less.f lf a0.2.2.1 a0.2.1) fun r6 =>
      br r6.1 (
       some (14, ())) (
       some (0, ()))) (
      some (0, ()))) (
     some (0, ())))))
noncomputable def surveyorref21_Check.E (lf : Nat) : Entry := ⟨[(.pair .bool (.pair .str (.pair .str .unit)))], [(.int .i64)], fun x => surveyorref21_Check.f lf x.1⟩
theorem surveyorref21_Check.ev (lf : Nat) (x : Tys (surveyorref21_Check.E lf).ps) : (surveyorref21_Check.E lf).f x = runQ Proofs.Tryz.prog (fun _ => FA.none) noLs (lookT [(67, surveyorref21_bound.E lf), (68, surveyorref01_Less.E lf)]) (lf + 40) 14 6 19 (surveyorref21_Check.E lf).ps (surveyorref21_Check.E lf).rs x := by kernel_rfl
theorem surveyorref21_Check.ok (lf : Nat) : EntryOK Proofs.Tryz.prog TabG 19 (surveyorref21_Check.E lf) := entryT (lookT_cons (surveyorref21_bound.ok lf) (lookT_cons (surveyorref01_Less.ok lf) lookT_nil)) (annsOK_none fun _ => rfl) (surveyorref21_Check.ev lf)
noncomputable def surveyorref21_both.f (lf : Nat) (a0 : (Bool × (ByteArray × (ByteArray × Unit)))) (a1 : (Bool × (ByteArray × (ByteArray × Unit)))) : Option (Int × Unit) :=
 bd (surveyorref21_Check.f lf a0) fun r1 =>
 br (r1.1 != 0) (
  some (r1.1, ())) (
  bd (surveyorref21_Check.f lf a1) fun r2 =>
  some (r2.1, ()))
noncomputable def surveyorref21_both.E (lf : Nat) : Entry := ⟨[(.pair .bool (.pair .str (.pair .str .unit))), (.pair .bool (.pair .str (.pair .str .unit)))], [(.int .i64)], fun x => surveyorref21_both.f lf x.1 x.2.1⟩
theorem surveyorref21_both.ev (lf : Nat) (x : Tys (surveyorref21_both.E lf).ps) : (surveyorref21_both.E lf).f x = runQ Proofs.Tryz.prog (fun _ => FA.none) noLs (lookT [(19, surveyorref21_Check.E lf)]) (lf + 40) 14 6 60 (surveyorref21_both.E lf).ps (surveyorref21_both.E lf).rs x := by kernel_rfl
theorem surveyorref21_both.ok (lf : Nat) : EntryOK Proofs.Tryz.prog TabG 60 (surveyorref21_both.E lf) := entryT (lookT_cons (surveyorref21_Check.ok lf) lookT_nil) (annsOK_none fun _ => rfl) (surveyorref21_both.ev lf)
noncomputable def surveyorref21_None.f (lf : Nat)  : Option ((Bool × (ByteArray × (ByteArray × Unit))) × Unit) :=
 some ((true, (⟨#[]⟩ : ByteArray), (⟨#[]⟩ : ByteArray), ()), ())
noncomputable def surveyorref21_None.E (lf : Nat) : Entry := ⟨[], [(.pair .bool (.pair .str (.pair .str .unit)))], fun x => surveyorref21_None.f lf ⟩
theorem surveyorref21_None.ev (lf : Nat) (x : Tys (surveyorref21_None.E lf).ps) : (surveyorref21_None.E lf).f x = runQ Proofs.Tryz.prog (fun _ => FA.none) noLs (lookT []) (lf + 40) 14 6 107 (surveyorref21_None.E lf).ps (surveyorref21_None.E lf).rs x := by kernel_rfl
theorem surveyorref21_None.ok (lf : Nat) : EntryOK Proofs.Tryz.prog TabG 107 (surveyorref21_None.E lf) := entryT lookT_nil (annsOK_none fun _ => rfl) (surveyorref21_None.ev lf)
noncomputable def surveyorref21_clip.f (lf : Nat) (a0 : ByteArray) : Option (ByteArray × Unit) :=
 br (!(a0.toList == (⟨#[]⟩ : ByteArray).toList)) (
  bd (surveyorref01_Digits.f lf a0) fun r1 =>
  br (decide (r1.1 > 100)) (
   some ((⟨#[]⟩ : ByteArray), ())) (
   some (a0, ()))) (
  some (a0, ()))
noncomputable def surveyorref21_clip.E (lf : Nat) : Entry := ⟨[.str], [.str], fun x => surveyorref21_clip.f lf x.1⟩
theorem surveyorref21_clip.ev (lf : Nat) (x : Tys (surveyorref21_clip.E lf).ps) : (surveyorref21_clip.E lf).f x = runQ Proofs.Tryz.prog (fun _ => FA.none) noLs (lookT [(45, surveyorref01_Digits.E lf)]) (lf + 40) 14 6 134 (surveyorref21_clip.E lf).ps (surveyorref21_clip.E lf).rs x := by kernel_rfl
theorem surveyorref21_clip.ok (lf : Nat) : EntryOK Proofs.Tryz.prog TabG 134 (surveyorref21_clip.E lf) := entryT (lookT_cons (surveyorref01_Digits.ok lf) lookT_nil) (annsOK_none fun _ => rfl) (surveyorref21_clip.ev lf)
noncomputable def surveyorref21_Range.f (lf : Nat) (a0 : ByteArray) (a1 : ByteArray) : Option ((Bool × (ByteArray × (ByteArray × Unit))) × Unit) :=
 br (!(a0.toList == (⟨#[]⟩ : ByteArray).toList)) (
  br (!(a1.toList == (⟨#[]⟩ : ByteArray).toList)) (
   bd (surveyorref01_Less.f lf a1 a0) fun r1 =>
   br r1.1 (
    bd (surveyorref21_None.f lf) fun r2 =>
    some (r2.1, ())) (
    bd (surveyorref21_clip.f lf a0) fun r3 =>
    bd (surveyorref21_clip.f lf a1) fun r4 =>
    some ((false, r3.1, r4.1, ()), ()))) (
   bd (surveyorref21_clip.f lf a0) fun r5 =>
   bd (surveyorref21_clip.f lf a1) fun r6 =>
   some ((false, r5.1, r6.1, ()), ()))) (
  bd (surveyorref21_clip.f lf a0) fun r7 =>
  bd (surveyorref21_clip.f lf a1) fun r8 =>
  some ((false, r7.1, r8.1, ()), ()))
noncomputable def surveyorref21_Range.E (lf : Nat) : Entry := ⟨[.str, .str], [(.pair .bool (.pair .str (.pair .str .unit)))], fun x => surveyorref21_Range.f lf x.1 x.2.1⟩
theorem surveyorref21_Range.ev (lf : Nat) (x : Tys (surveyorref21_Range.E lf).ps) : (surveyorref21_Range.E lf).f x = runQ Proofs.Tryz.prog (fun _ => FA.none) noLs (lookT [(68, surveyorref01_Less.E lf), (107, surveyorref21_None.E lf), (134, surveyorref21_clip.E lf)]) (lf + 40) 14 6 86 (surveyorref21_Range.E lf).ps (surveyorref21_Range.E lf).rs x := by kernel_rfl
theorem surveyorref21_Range.ok (lf : Nat) : EntryOK Proofs.Tryz.prog TabG 86 (surveyorref21_Range.E lf) := entryT (lookT_cons (surveyorref01_Less.ok lf) (lookT_cons (surveyorref21_None.ok lf) (lookT_cons (surveyorref21_clip.ok lf) lookT_nil))) (annsOK_none fun _ => rfl) (surveyorref21_Range.ev lf)
noncomputable def surveyorref21_least.f (lf : Nat) (a0 : ByteArray) (a1 : ByteArray) : Option (ByteArray × Unit) :=
 br (a0.toList == (⟨#[]⟩ : ByteArray).toList) (
  some ((⟨#[]⟩ : ByteArray), ())) (
  br (a1.toList == (⟨#[]⟩ : ByteArray).toList) (
   some ((⟨#[]⟩ : ByteArray), ())) (
   bd (surveyorref01_Less.f lf a1 a0) fun r1 =>
   br r1.1 (
    some (a1, ())) (
    some (a0, ()))))
noncomputable def surveyorref21_least.E (lf : Nat) : Entry := ⟨[.str, .str], [.str], fun x => surveyorref21_least.f lf x.1 x.2.1⟩
theorem surveyorref21_least.ev (lf : Nat) (x : Tys (surveyorref21_least.E lf).ps) : (surveyorref21_least.E lf).f x = runQ Proofs.Tryz.prog (fun _ => FA.none) noLs (lookT [(68, surveyorref01_Less.E lf)]) (lf + 40) 14 6 121 (surveyorref21_least.E lf).ps (surveyorref21_least.E lf).rs x := by kernel_rfl
theorem surveyorref21_least.ok (lf : Nat) : EntryOK Proofs.Tryz.prog TabG 121 (surveyorref21_least.E lf) := entryT (lookT_cons (surveyorref01_Less.ok lf) lookT_nil) (annsOK_none fun _ => rfl) (surveyorref21_least.ev lf)
noncomputable def surveyorref21_greatest.f (lf : Nat) (a0 : ByteArray) (a1 : ByteArray) : Option (ByteArray × Unit) :=
 br (a0.toList == (⟨#[]⟩ : ByteArray).toList) (
  some ((⟨#[]⟩ : ByteArray), ())) (
  br (a1.toList == (⟨#[]⟩ : ByteArray).toList) (
   some ((⟨#[]⟩ : ByteArray), ())) (
   bd (surveyorref01_Less.f lf a0 a1) fun r1 =>
   br r1.1 (
    some (a1, ())) (
    some (a0, ()))))
noncomputable def surveyorref21_greatest.E (lf : Nat) : Entry := ⟨[.str, .str], [.str], fun x => surveyorref21_greatest.f lf x.1 x.2.1⟩
theorem surveyorref21_greatest.ev (lf : Nat) (x : Tys (surveyorref21_greatest.E lf).ps) : (surveyorref21_greatest.E lf).f x = runQ Proofs.Tryz.prog (fun _ => FA.none) noLs (lookT [(68, surveyorref01_Less.E lf)]) (lf + 40) 14 6 122 (surveyorref21_greatest.E lf).ps (surveyorref21_greatest.E lf).rs x := by kernel_rfl
theorem surveyorref21_greatest.ok (lf : Nat) : EntryOK Proofs.Tryz.prog TabG 122 (surveyorref21_greatest.E lf) := entryT (lookT_cons (surveyorref01_Less.ok lf) lookT_nil) (annsOK_none fun _ => rfl) (surveyorref21_greatest.ev lf)
noncomputable def surveyorref21_Joined.f (lf : Nat) (a0 : (Bool × (ByteArray × (ByteArray × Unit)))) (a1 : (Bool × (ByteArray × (ByteArray × Unit)))) : Option ((Bool × (ByteArray × (ByteArray × Unit))) × Unit) :=
 br a0.1 (
  some (a1, ())) (
  br a1.1 (
   some (a0, ())) (
   bd (surveyorref21_least.f lf a0.2.1 a1.2.1) fun r1 =>
   bd (surveyorref21_greatest.f lf a0.2.2.1 a1.2.2.1) fun r2 =>
   bd (surveyorref21_Range.f lf r1.1 r2.1) fun r3 =>
   some (r3.1, ())))
noncomputable def surveyorref21_Joined.E (lf : Nat) : Entry := ⟨[(.pair .bool (.pair .str (.pair .str .unit))), (.pair .bool (.pair .str (.pair .str .unit)))], [(.pair .bool (.pair .str (.pair .str .unit)))], fun x => surveyorref21_Joined.f lf x.1 x.2.1⟩
theorem surveyorref21_Joined.ev (lf : Nat) (x : Tys (surveyorref21_Joined.E lf).ps) : (surveyorref21_Joined.E lf).f x = runQ Proofs.Tryz.prog (fun _ => FA.none) noLs (lookT [(86, surveyorref21_Range.E lf), (121, surveyorref21_least.E lf), (122, surveyorref21_greatest.E lf)]) (lf + 40) 14 6 79 (surveyorref21_Joined.E lf).ps (surveyorref21_Joined.E lf).rs x := by kernel_rfl
theorem surveyorref21_Joined.ok (lf : Nat) : EntryOK Proofs.Tryz.prog TabG 79 (surveyorref21_Joined.E lf) := entryT (lookT_cons (surveyorref21_Range.ok lf) (lookT_cons (surveyorref21_least.ok lf) (lookT_cons (surveyorref21_greatest.ok lf) lookT_nil))) (annsOK_none fun _ => rfl) (surveyorref21_Joined.ev lf)
noncomputable def surveyorref21_Below.anns : FuncId → FA := fun g => bif g == 104 then ⟨fun li => bif li == 0 then (⟨[2, 3, 4, 7, 8, 9, 10, 11, 12, 13, 14, 15, 16, 17, 18, 19, 20, 21, 22, 23, 24, 25, 26, 27, 28], [], []⟩, ⟨[0, 1, 2, 3, 6, 7, 8, 9, 10, 11, 12, 13, 14, 15, 16, 17, 18, 19, 20, 21, 22, 23, 24, 25, 26, 27, 28], [], []⟩) else (⟨[], [], []⟩, ⟨[], [], []⟩), none⟩ else FA.none
theorem surveyorref21_Below.sp : AnnsOK Proofs.Tryz.prog surveyorref21_Below.anns := by
  intro g s h
  unfold surveyorref21_Below.anns at h
  by_cases e104 : g = 104
  · subst e104
    cases h
  have e104' : (g == 104) = false := by simpa using e104
  rw [e104', cond_false] at h
  cases h
noncomputable def surveyorref21_Below.l0 (lf : Nat) (v0_0 : (List ByteArray)) (v0_1 : ByteArray) : Nat → ByteArray → Int → Option ((ByteArray × Unit) × Unit)
  | 0, _, _ => none
  | n + 1, v0_2, v0_3 =>
  br (decide (v0_3 < ((v0_0.length : Nat) : Int))) (
   br (!(v0_1.toList == (⟨#[]⟩ : ByteArray).toList)) (
    bd (idxL v0_0 v0_3) fun y1 =>
    bd (surveyorref01_Less.f lf v0_1 y1) fun r2 =>
    br (!r2.1) (
     bd (idxL v0_0 v0_3) fun y3 =>
     surveyorref21_Below.l0 lf v0_0 v0_1 n y3 (IntKind.i64.wrap (v0_3 + 1))) (
     surveyorref21_Below.l0 lf v0_0 v0_1 n v0_2 (IntKind.i64.wrap (v0_3 + 1)))) (
    surveyorref21_Below.l0 lf v0_0 v0_1 n v0_2 (IntKind.i64.wrap (v0_3 + 1)))) (
   some ((v0_2, ()), ()))
noncomputable def surveyorref21_Below.S0 (v0_0 : (List ByteArray)) (v0_1 : ByteArray) (v0_2 : ByteArray) (v0_3 : Int) : St := ([.sl .str v0_0, .v (.string v0_1), .any, .any, .any, .v (.string v0_2), .v (.int .i64 v0_3), .any, .any, .any, .any, .any, .any, .any, .any, .any, .any, .any, .any, .any, .any, .any, .any, .any, .any, .any, .any, .any, .any], [])
noncomputable def surveyorref21_Below.X0 (w0 : ByteArray) : St := ([.any, .any, .any, .any, .any, .v (.string w0), .any, .any, .any, .any, .any, .any, .any, .any, .any, .any, .any, .any, .any, .any, .any, .any, .any, .any, .any, .any, .any, .any, .any], [])
noncomputable def surveyorref21_Below.m0 : (st : St) → Option {x : (List ByteArray) × ByteArray × ByteArray × Int × Unit // st = surveyorref21_Below.S0 x.1 x.2.1 x.2.2.1 x.2.2.2.1}
  | (((.sl .str v0_0) :: (.v (.string v0_1)) :: .any :: .any :: .any :: (.v (.string v0_2)) :: (.v (.int .i64 v0_3)) :: .any :: .any :: .any :: .any :: .any :: .any :: .any :: .any :: .any :: .any :: .any :: .any :: .any :: .any :: .any :: .any :: .any :: .any :: .any :: .any :: .any :: .any :: []), ([])) => some ⟨(v0_0, v0_1, v0_2, v0_3, ()), rfl⟩
  | _ => none
noncomputable def surveyorref21_Below.o0 (v0_0 : (List ByteArray)) (v0_1 : ByteArray) (y : (ByteArray × Unit) × Unit) : Alt := .one (.exit 0) (surveyorref21_Below.X0 y.1.1)
noncomputable def surveyorref21_Below.tb (lf : Nat) : List (FuncId × Entry) := [(68, surveyorref01_Less.E lf)]
noncomputable def surveyorref21_Below.s13_104 (lf : Nat) : Sums := fun li st => match li with
  | 0 => ((surveyorref21_Below.m0 st).map fun p => (⟨(ByteArray × Unit) × Unit, surveyorref21_Below.l0 lf p.1.1 p.1.2.1 (lf + 40) p.1.2.2.1 p.1.2.2.2.1, surveyorref21_Below.o0 p.1.1 p.1.2.1⟩ : LTE))
  | _ => none
noncomputable def surveyorref21_Below.ls (lf : Nat) : List (Nat × FuncId × Sums) := [(13, 104, surveyorref21_Below.s13_104 lf)]
noncomputable def surveyorref21_Below.dr (lf : Nat) (ρ : Type) : Draws ρ := drawA Proofs.Tryz.prog (lookT (surveyorref21_Below.tb lf)) 0 fun n => clQ Proofs.Tryz.prog surveyorref21_Below.anns (lookT (surveyorref21_Below.tb lf)) (lf + 40) 14 6 n ρ
noncomputable def surveyorref21_Below.it0 {ρ : Type} (lf n : Nat) (st : St) (k : KE ρ) : Option ρ := iterK (nrmS 0 ((surveyorref21_Below.anns 104).ann 0).1 0) (nrmS 0 ((surveyorref21_Below.anns 104).ann 0).2 0) (codeK Proofs.Tryz.prog 104 (surveyorref21_Below.anns 104).ann (surveyorref21_Below.s13_104 lf) (surveyorref21_Below.dr lf ρ) (goK Proofs.Tryz.prog surveyorref21_Below.anns (lsOf (surveyorref21_Below.ls lf)) (surveyorref21_Below.dr lf ρ) (lookT (surveyorref21_Below.tb lf)) 0 (lf + 40) 13) 0 (lf + 40) none 1 (loopP Proofs.Tryz.prog 104 0)) n st k
theorem surveyorref21_Below.t0 {ρ : Type} (lf n : Nat) (v0_0 : (List ByteArray)) (v0_1 : ByteArray) (v0_2 : ByteArray) (v0_3 : Int) (k : KE ρ) : surveyorref21_Below.it0 lf (n + 1) (surveyorref21_Below.S0 v0_0 v0_1 v0_2 v0_3) k =
  br (decide (v0_3 < ((v0_0.length : Nat) : Int))) (
   br (!(v0_1.toList == (⟨#[]⟩ : ByteArray).toList)) (
    bd (idxL v0_0 v0_3) fun y1 =>
    bd (surveyorref01_Less.f lf v0_1 y1) fun r2 =>
    br (!r2.1) (
     bd (idxL v0_0 v0_3) fun y3 =>
     surveyorref21_Below.it0 lf n (surveyorref21_Below.S0 v0_0 v0_1 y3 (IntKind.i64.wrap (v0_3 + 1))) k) (
     surveyorref21_Below.it0 lf n (surveyorref21_Below.S0 v0_0 v0_1 v0_2 (IntKind.i64.wrap (v0_3 + 1))) k)) (
    surveyorref21_Below.it0 lf n (surveyorref21_Below.S0 v0_0 v0_1 v0_2 (IntKind.i64.wrap (v0_3 + 1))) k)) (
   k (.exit 0) (surveyorref21_Below.X0 v0_2)) := by kernel_rfl
theorem surveyorref21_Below.u0 {ρ : Type} (lf : Nat) (v0_0 : (List ByteArray)) (v0_1 : ByteArray) (k : KE ρ) : ∀ (n : Nat) (v0_2 : ByteArray) (v0_3 : Int), surveyorref21_Below.it0 lf n (surveyorref21_Below.S0 v0_0 v0_1 v0_2 v0_3) k = bd (surveyorref21_Below.l0 lf v0_0 v0_1 n v0_2 v0_3) fun y => altK k (surveyorref21_Below.o0 v0_0 v0_1 y)
  | 0, _, _ => by rw [surveyorref21_Below.l0, bd_none]; rfl
  | n + 1, v0_2, v0_3 => by
    rw [surveyorref21_Below.t0]; simp only [surveyorref21_Below.l0, surveyorref21_Below.u0 lf v0_0 v0_1 k n, bd_br, bd_bd, bd_some', bd_none, br_t, br_f, surveyorref21_Below.o0, altK]
theorem surveyorref21_Below.a13_104 (lf : Nat) (ρ : Type) : ∀ i, LsAt ρ Proofs.Tryz.prog 104 (surveyorref21_Below.anns 104).ann (surveyorref21_Below.s13_104 lf) (surveyorref21_Below.dr lf ρ) (goK Proofs.Tryz.prog surveyorref21_Below.anns (lsOf (surveyorref21_Below.ls lf)) (surveyorref21_Below.dr lf ρ) (lookT (surveyorref21_Below.tb lf)) 0 (lf + 40) 13) 0 (lf + 40) none i (loopP Proofs.Tryz.prog 104 i)
  | 0 => by
    intro st T h k r he
    obtain ⟨p, _, rfl⟩ := Option.map_eq_some_iff.1 h
    obtain ⟨x, rfl⟩ := p
    exact (surveyorref21_Below.u0 lf _ _ k (lf + 40) _ _).trans he
  | _ + 1 => lsAt_none rfl
theorem surveyorref21_Below.sums (lf : Nat) (ρ : Type) : SumsOK ρ Proofs.Tryz.prog surveyorref21_Below.anns (lsOf (surveyorref21_Below.ls lf)) (surveyorref21_Below.dr lf ρ) (lookT (surveyorref21_Below.tb lf)) 0 (lf + 40) := by
  refine sumsOK_of rfl fun p hp => ?_
  simp only [surveyorref21_Below.ls, List.mem_cons, List.not_mem_nil, or_false] at hp
  subst hp
  exact surveyorref21_Below.a13_104 lf ρ
noncomputable def surveyorref21_Below.f (lf : Nat) (a0 : (List ByteArray)) (a1 : ByteArray) : Option (ByteArray × Unit) :=
 bd (surveyorref21_Below.l0 lf a0 a1 (lf + 40) (⟨#[]⟩ : ByteArray) 0) fun z4 =>
 some (z4.1.1, ())
noncomputable def surveyorref21_Below.E (lf : Nat) : Entry := ⟨[(.sl .str), .str], [.str], fun x => surveyorref21_Below.f lf x.1 x.2.1⟩
theorem surveyorref21_Below.ev (lf : Nat) (x : Tys (surveyorref21_Below.E lf).ps) : (surveyorref21_Below.E lf).f x = runQ Proofs.Tryz.prog surveyorref21_Below.anns (lsOf (surveyorref21_Below.ls lf)) (lookT (surveyorref21_Below.tb lf)) (lf + 40) 14 6 104 (surveyorref21_Below.E lf).ps (surveyorref21_Below.E lf).rs x := by kernel_rfl
theorem surveyorref21_Below.ok (lf : Nat) : EntryOK Proofs.Tryz.prog TabG 104 (surveyorref21_Below.E lf) := entryL (l := surveyorref21_Below.tb lf) (lookT_cons (surveyorref01_Less.ok lf) lookT_nil) (surveyorref21_Below.sp) (surveyorref21_Below.sums lf _) (surveyorref21_Below.ev lf)
noncomputable def surveyorref21_Above.anns : FuncId → FA := fun g => bif g == 105 then ⟨fun li => bif li == 0 then (⟨[2, 3, 4, 6, 7, 8, 9, 10, 11, 12, 13, 14, 15, 16, 17, 18, 19, 20, 21, 22, 23, 24, 25, 26], [], []⟩, ⟨[0, 1, 2, 3, 5, 6, 7, 8, 9, 10, 11, 12, 13, 14, 15, 16, 17, 18, 19, 20, 21, 22, 23, 24, 25, 26], [], []⟩) else (⟨[], [], []⟩, ⟨[], [], []⟩), none⟩ else FA.none
theorem surveyorref21_Above.sp : AnnsOK Proofs.Tryz.prog surveyorref21_Above.anns := by
  intro g s h
  unfold surveyorref21_Above.anns at h
  by_cases e105 : g = 105
  · subst e105
    cases h
  have e105' : (g == 105) = false := by simpa using e105
  rw [e105', cond_false] at h
  cases h
noncomputable def surveyorref21_Above.l0 (lf : Nat) (v0_0 : (List ByteArray)) (v0_1 : ByteArray) : Nat → Int → Option (Bool × (ByteArray × Unit) × (Unit) × Unit)
  | 0, _ => none
  | n + 1, v0_2 =>
  br (decide (v0_2 < ((v0_0.length : Nat) : Int))) (
   br (!(v0_1.toList == (⟨#[]⟩ : ByteArray).toList)) (
    bd (idxL v0_0 v0_2) fun y1 =>
    bd (surveyorref01_Less.f lf y1 v0_1) fun r2 =>
    br (!r2.1) (
     bd (idxL v0_0 v0_2) fun y3 =>
     some (true, (y3, ()), ((()), ()))) (
     surveyorref21_Above.l0 lf v0_0 v0_1 n (IntKind.i64.wrap (v0_2 + 1)))) (
    surveyorref21_Above.l0 lf v0_0 v0_1 n (IntKind.i64.wrap (v0_2 + 1)))) (
   some (false, ((⟨#[]⟩ : ByteArray), ()), ((()), ())))
noncomputable def surveyorref21_Above.S0 (v0_0 : (List ByteArray)) (v0_1 : ByteArray) (v0_2 : Int) : St := ([.sl .str v0_0, .v (.string v0_1), .any, .any, .any, .v (.int .i64 v0_2), .any, .any, .any, .any, .any, .any, .any, .any, .any, .any, .any, .any, .any, .any, .any, .any, .any, .any, .any, .any, .any], [])
noncomputable def surveyorref21_Above.X0 (w0 : ByteArray) : St := ([.any, .any, .any, .any, .v (.string w0), .any, .any, .any, .any, .any, .any, .any, .any, .any, .any, .any, .any, .any, .any, .any, .any, .any, .any, .any, .any, .any, .any], [])
noncomputable def surveyorref21_Above.X1 : St := ([.any, .any, .any, .any, .any, .any, .any, .any, .any, .any, .any, .any, .any, .any, .any, .any, .any, .any, .any, .any, .any, .any, .any, .any, .any, .any, .any], [])
noncomputable def surveyorref21_Above.m0 : (st : St) → Option {x : (List ByteArray) × ByteArray × Int × Unit // st = surveyorref21_Above.S0 x.1 x.2.1 x.2.2.1}
  | (((.sl .str v0_0) :: (.v (.string v0_1)) :: .any :: .any :: .any :: (.v (.int .i64 v0_2)) :: .any :: .any :: .any :: .any :: .any :: .any :: .any :: .any :: .any :: .any :: .any :: .any :: .any :: .any :: .any :: .any :: .any :: .any :: .any :: .any :: .any :: []), ([])) => some ⟨(v0_0, v0_1, v0_2, ()), rfl⟩
  | _ => none
noncomputable def surveyorref21_Above.o0 (v0_0 : (List ByteArray)) (v0_1 : ByteArray) (y : Bool × (ByteArray × Unit) × (Unit) × Unit) : Alt := .two y.1 (.one .ret (surveyorref21_Above.X0 y.2.1.1)) (.one (.exit 0) (surveyorref21_Above.X1 ))
noncomputable def surveyorref21_Above.tb (lf : Nat) : List (FuncId × Entry) := [(68, surveyorref01_Less.E lf)]
noncomputable def surveyorref21_Above.s13_105 (lf : Nat) : Sums := fun li st => match li with
  | 0 => ((surveyorref21_Above.m0 st).map fun p => (⟨Bool × (ByteArray × Unit) × (Unit) × Unit, surveyorref21_Above.l0 lf p.1.1 p.1.2.1 (lf + 40) p.1.2.2.1, surveyorref21_Above.o0 p.1.1 p.1.2.1⟩ : LTE))
  | _ => none
noncomputable def surveyorref21_Above.ls (lf : Nat) : List (Nat × FuncId × Sums) := [(13, 105, surveyorref21_Above.s13_105 lf)]
noncomputable def surveyorref21_Above.dr (lf : Nat) (ρ : Type) : Draws ρ := drawA Proofs.Tryz.prog (lookT (surveyorref21_Above.tb lf)) 0 fun n => clQ Proofs.Tryz.prog surveyorref21_Above.anns (lookT (surveyorref21_Above.tb lf)) (lf + 40) 14 6 n ρ
noncomputable def surveyorref21_Above.it0 {ρ : Type} (lf n : Nat) (st : St) (k : KE ρ) : Option ρ := iterK (nrmS 0 ((surveyorref21_Above.anns 105).ann 0).1 0) (nrmS 0 ((surveyorref21_Above.anns 105).ann 0).2 0) (codeK Proofs.Tryz.prog 105 (surveyorref21_Above.anns 105).ann (surveyorref21_Above.s13_105 lf) (surveyorref21_Above.dr lf ρ) (goK Proofs.Tryz.prog surveyorref21_Above.anns (lsOf (surveyorref21_Above.ls lf)) (surveyorref21_Above.dr lf ρ) (lookT (surveyorref21_Above.tb lf)) 0 (lf + 40) 13) 0 (lf + 40) none 1 (loopP Proofs.Tryz.prog 105 0)) n st k
theorem surveyorref21_Above.t0 {ρ : Type} (lf n : Nat) (v0_0 : (List ByteArray)) (v0_1 : ByteArray) (v0_2 : Int) (k : KE ρ) : surveyorref21_Above.it0 lf (n + 1) (surveyorref21_Above.S0 v0_0 v0_1 v0_2) k =
  br (decide (v0_2 < ((v0_0.length : Nat) : Int))) (
   br (!(v0_1.toList == (⟨#[]⟩ : ByteArray).toList)) (
    bd (idxL v0_0 v0_2) fun y1 =>
    bd (surveyorref01_Less.f lf y1 v0_1) fun r2 =>
    br (!r2.1) (
     bd (idxL v0_0 v0_2) fun y3 =>
     k .ret (surveyorref21_Above.X0 y3)) (
     surveyorref21_Above.it0 lf n (surveyorref21_Above.S0 v0_0 v0_1 (IntKind.i64.wrap (v0_2 + 1))) k)) (
    surveyorref21_Above.it0 lf n (surveyorref21_Above.S0 v0_0 v0_1 (IntKind.i64.wrap (v0_2 + 1))) k)) (
   k (.exit 0) (surveyorref21_Above.X1 )) := by kernel_rfl
theorem surveyorref21_Above.u0 {ρ : Type} (lf : Nat) (v0_0 : (List ByteArray)) (v0_1 : ByteArray) (k : KE ρ) : ∀ (n : Nat) (v0_2 : Int), surveyorref21_Above.it0 lf n (surveyorref21_Above.S0 v0_0 v0_1 v0_2) k = bd (surveyorref21_Above.l0 lf v0_0 v0_1 n v0_2) fun y => altK k (surveyorref21_Above.o0 v0_0 v0_1 y)
  | 0, _ => by rw [surveyorref21_Above.l0, bd_none]; rfl
  | n + 1, v0_2 => by
    rw [surveyorref21_Above.t0]; simp only [surveyorref21_Above.l0, surveyorref21_Above.u0 lf v0_0 v0_1 k n, bd_br, bd_bd, bd_some', bd_none, br_t, br_f, surveyorref21_Above.o0, altK]
theorem surveyorref21_Above.a13_105 (lf : Nat) (ρ : Type) : ∀ i, LsAt ρ Proofs.Tryz.prog 105 (surveyorref21_Above.anns 105).ann (surveyorref21_Above.s13_105 lf) (surveyorref21_Above.dr lf ρ) (goK Proofs.Tryz.prog surveyorref21_Above.anns (lsOf (surveyorref21_Above.ls lf)) (surveyorref21_Above.dr lf ρ) (lookT (surveyorref21_Above.tb lf)) 0 (lf + 40) 13) 0 (lf + 40) none i (loopP Proofs.Tryz.prog 105 i)
  | 0 => by
    intro st T h k r he
    obtain ⟨p, _, rfl⟩ := Option.map_eq_some_iff.1 h
    obtain ⟨x, rfl⟩ := p
    exact (surveyorref21_Above.u0 lf _ _ k (lf + 40) _).trans he
  | _ + 1 => lsAt_none rfl
theorem surveyorref21_Above.sums (lf : Nat) (ρ : Type) : SumsOK ρ Proofs.Tryz.prog surveyorref21_Above.anns (lsOf (surveyorref21_Above.ls lf)) (surveyorref21_Above.dr lf ρ) (lookT (surveyorref21_Above.tb lf)) 0 (lf + 40) := by
  refine sumsOK_of rfl fun p hp => ?_
  simp only [surveyorref21_Above.ls, List.mem_cons, List.not_mem_nil, or_false] at hp
  subst hp
  exact surveyorref21_Above.a13_105 lf ρ
noncomputable def surveyorref21_Above.f (lf : Nat) (a0 : (List ByteArray)) (a1 : ByteArray) : Option (ByteArray × Unit) :=
 bd (surveyorref21_Above.l0 lf a0 a1 (lf + 40) 0) fun z4 =>
 br z4.1 (
  some (z4.2.1.1, ())) (
  some ((⟨#[]⟩ : ByteArray), ()))
noncomputable def surveyorref21_Above.E (lf : Nat) : Entry := ⟨[(.sl .str), .str], [.str], fun x => surveyorref21_Above.f lf x.1 x.2.1⟩
theorem surveyorref21_Above.ev (lf : Nat) (x : Tys (surveyorref21_Above.E lf).ps) : (surveyorref21_Above.E lf).f x = runQ Proofs.Tryz.prog surveyorref21_Above.anns (lsOf (surveyorref21_Above.ls lf)) (lookT (surveyorref21_Above.tb lf)) (lf + 40) 14 6 105 (surveyorref21_Above.E lf).ps (surveyorref21_Above.E lf).rs x := by kernel_rfl
theorem surveyorref21_Above.ok (lf : Nat) : EntryOK Proofs.Tryz.prog TabG 105 (surveyorref21_Above.E lf) := entryL (l := surveyorref21_Above.tb lf) (lookT_cons (surveyorref01_Less.ok lf) lookT_nil) (surveyorref21_Above.sp) (surveyorref21_Above.sums lf _) (surveyorref21_Above.ev lf)
noncomputable def surveyorref21_Widened.f (lf : Nat) (a0 : (Bool × (ByteArray × (ByteArray × Unit)))) (a1 : (Bool × (ByteArray × (ByteArray × Unit)))) (a2 : (List ByteArray)) : Option ((Bool × (ByteArray × (ByteArray × Unit))) × Unit) :=
 br a0.1 (
  some (a1, ())) (
  br a1.1 (
   some (a0, ())) (
   bd (surveyorref21_Joined.f lf a0 a1) fun r1 =>
   br (!(r1.1.2.1.toList == a0.2.1.toList)) (
    bd (surveyorref21_Below.f lf a2 r1.1.2.1) fun r2 =>
    br (!(r1.1.2.2.1.toList == a0.2.2.1.toList)) (
     bd (surveyorref21_Above.f lf a2 r1.1.2.2.1) fun r3 =>
     some ((r1.1.1, r2.1, r3.1, ()), ())) (
     some ((r1.1.1, r2.1, r1.1.2.2.1, ()), ()))) (
    br (!(r1.1.2.2.1.toList == a0.2.2.1.toList)) (
     bd (surveyorref21_Above.f lf a2 r1.1.2.2.1) fun r4 =>
     some ((r1.1.1, r1.1.2.1, r4.1, ()), ())) (
     some (r1.1, ())))))
noncomputable def surveyorref21_Widened.E (lf : Nat) : Entry := ⟨[(.pair .bool (.pair .str (.pair .str .unit))), (.pair .bool (.pair .str (.pair .str .unit))), (.sl .str)], [(.pair .bool (.pair .str (.pair .str .unit)))], fun x => surveyorref21_Widened.f lf x.1 x.2.1 x.2.2.1⟩
theorem surveyorref21_Widened.ev (lf : Nat) (x : Tys (surveyorref21_Widened.E lf).ps) : (surveyorref21_Widened.E lf).f x = runQ Proofs.Tryz.prog (fun _ => FA.none) noLs (lookT [(79, surveyorref21_Joined.E lf), (104, surveyorref21_Below.E lf), (105, surveyorref21_Above.E lf)]) (lf + 40) 14 6 61 (surveyorref21_Widened.E lf).ps (surveyorref21_Widened.E lf).rs x := by kernel_rfl
theorem surveyorref21_Widened.ok (lf : Nat) : EntryOK Proofs.Tryz.prog TabG 61 (surveyorref21_Widened.E lf) := entryT (lookT_cons (surveyorref21_Joined.ok lf) (lookT_cons (surveyorref21_Below.ok lf) (lookT_cons (surveyorref21_Above.ok lf) lookT_nil))) (annsOK_none fun _ => rfl) (surveyorref21_Widened.ev lf)
noncomputable def surveyorref21_Widen.f (lf : Nat) (a0 : (Bool × (ByteArray × (ByteArray × Unit)))) (a1 : (Bool × (ByteArray × (ByteArray × Unit)))) (a2 : (List ByteArray)) : Option ((Bool × (ByteArray × (ByteArray × Unit))) × Int × Unit) :=
 bd (surveyorref21_both.f lf a0 a1) fun r1 =>
 br (r1.1 != 0) (
  some ((false, (⟨#[]⟩ : ByteArray), (⟨#[]⟩ : ByteArray), ()), r1.1, ())) (
  bd (surveyorref21_Thresholds.f lf a2) fun r2 =>
  br (r2.1 != 0) (
   some ((false, (⟨#[]⟩ : ByteArray), (⟨#[]⟩ : ByteArray), ()), r2.1, ())) (
   bd (surveyorref21_Widened.f lf a0 a1 a2) fun r3 =>
   some (r3.1, 0, ())))
noncomputable def surveyorref21_Widen.E (lf : Nat) : Entry := ⟨[(.pair .bool (.pair .str (.pair .str .unit))), (.pair .bool (.pair .str (.pair .str .unit))), (.sl .str)], [(.pair .bool (.pair .str (.pair .str .unit))), (.int .i64)], fun x => surveyorref21_Widen.f lf x.1 x.2.1 x.2.2.1⟩
theorem surveyorref21_Widen.ev (lf : Nat) (x : Tys (surveyorref21_Widen.E lf).ps) : (surveyorref21_Widen.E lf).f x = runQ Proofs.Tryz.prog (fun _ => FA.none) noLs (lookT [(20, surveyorref21_Thresholds.E lf), (60, surveyorref21_both.E lf), (61, surveyorref21_Widened.E lf)]) (lf + 40) 14 6 14 (surveyorref21_Widen.E lf).ps (surveyorref21_Widen.E lf).rs x := by kernel_rfl
theorem surveyorref21_Widen.ok (lf : Nat) : EntryOK Proofs.Tryz.prog TabG 14 (surveyorref21_Widen.E lf) := entryT (lookT_cons (surveyorref21_Thresholds.ok lf) (lookT_cons (surveyorref21_both.ok lf) (lookT_cons (surveyorref21_Widened.ok lf) lookT_nil))) (annsOK_none fun _ => rfl) (surveyorref21_Widen.ev lf)
noncomputable def surveyorref21_Narrowed.f (lf : Nat) (a0 : (Bool × (ByteArray × (ByteArray × Unit)))) (a1 : (Bool × (ByteArray × (ByteArray × Unit)))) : Option ((Bool × (ByteArray × (ByteArray × Unit))) × Unit) :=
 br a0.1 (
  bd (surveyorref21_None.f lf) fun r1 =>
  some (r1.1, ())) (
  br a1.1 (
   bd (surveyorref21_None.f lf) fun r2 =>
   some (r2.1, ())) (
   br (a0.2.1.toList == (⟨#[]⟩ : ByteArray).toList) (
    br (a0.2.2.1.toList == (⟨#[]⟩ : ByteArray).toList) (
     bd (surveyorref21_Range.f lf a1.2.1 a1.2.2.1) fun r3 =>
     some (r3.1, ())) (
     bd (surveyorref21_Range.f lf a1.2.1 a0.2.2.1) fun r4 =>
     some (r4.1, ()))) (
    br (a0.2.2.1.toList == (⟨#[]⟩ : ByteArray).toList) (
     bd (surveyorref21_Range.f lf a0.2.1 a1.2.2.1) fun r5 =>
     some (r5.1, ())) (
     bd (surveyorref21_Range.f lf a0.2.1 a0.2.2.1) fun r6 =>
     some (r6.1, ())))))
noncomputable def surveyorref21_Narrowed.E (lf : Nat) : Entry := ⟨[(.pair .bool (.pair .str (.pair .str .unit))), (.pair .bool (.pair .str (.pair .str .unit)))], [(.pair .bool (.pair .str (.pair .str .unit)))], fun x => surveyorref21_Narrowed.f lf x.1 x.2.1⟩
theorem surveyorref21_Narrowed.ev (lf : Nat) (x : Tys (surveyorref21_Narrowed.E lf).ps) : (surveyorref21_Narrowed.E lf).f x = runQ Proofs.Tryz.prog (fun _ => FA.none) noLs (lookT [(86, surveyorref21_Range.E lf), (107, surveyorref21_None.E lf)]) (lf + 40) 14 6 65 (surveyorref21_Narrowed.E lf).ps (surveyorref21_Narrowed.E lf).rs x := by kernel_rfl
theorem surveyorref21_Narrowed.ok (lf : Nat) : EntryOK Proofs.Tryz.prog TabG 65 (surveyorref21_Narrowed.E lf) := entryT (lookT_cons (surveyorref21_Range.ok lf) (lookT_cons (surveyorref21_None.ok lf) lookT_nil)) (annsOK_none fun _ => rfl) (surveyorref21_Narrowed.ev lf)
end
end Go.Q
