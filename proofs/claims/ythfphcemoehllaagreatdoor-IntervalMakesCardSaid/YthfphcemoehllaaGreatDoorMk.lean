/- surveyor/surveyorlaw21.IntervalMakes: the row's statement, and the card over it: for every input the call returns true and leaves its arguments as they were. Condition: the listed package-level variables hold what the program's text lays (the card ties them to the pruned copy of the program). -/
import Derived.Test.YthfphcemoehllaaGreatDoorCards
import Derived.Test.YthfphcemoehllaaGreatDoorTie
import Derived.KernelRfl
import Derived.Test.YthfphcemoehllaaGreatDoorMkF
import Derived.Test.YthfphcemoehllaaGreatDoorV
set_option linter.unusedVariables false
set_option linter.unusedSimpArgs false
set_option linter.unusedSectionVars false
/-! # IntervalMakes -/
namespace Go.Q
open Go.N
/-- IntervalMakes answers true. -/
theorem Pure.IntervalMakes (x : Tys (surveyorlaw21_IntervalMakes.E 0).ps) (h : Bnds (surveyorlaw21_IntervalMakes.E 0).ps x) : ∃ lf, surveyorlaw21_IntervalMakes.f lf x.1 x.2.1 x.2.2.1 = some (true, ()) := by
  obtain ⟨⟨e1, l1, m1, ⟨⟩⟩, ⟨l2, m2, ⟨⟩⟩, v, ⟨⟩⟩ := x
  clear h
  rw [← bs_eta l1, ← bs_eta m1, ← bs_eta l2, ← bs_eta m2, ← bs_eta v]
  generalize l1.data.toList = l1
  generalize m1.data.toList = m1
  generalize l2.data.toList = l2
  generalize m2.data.toList = m2
  generalize v.data.toList = v
  refine ⟨200000, ?_⟩
  have h3 : 200000 ≤ 200000 := Nat.le_refl _
  rw [surveyorlaw21_IntervalMakes.f]
  simp only [surveyorlaw21_span.f, bdS, few_f, awake_f, bs_size]
  by_cases hf : l1.length ≤ 450 ∧ m1.length ≤ 450 ∧ l2.length ≤ 450 ∧ m2.length ≤ 450
  · rw [decide_eq_true hf]
    simp only [Bool.not_true, brF]
    by_cases hv : v.length > 450
    · rw [decide_eq_true (by omega), brT]
    · rw [decide_eq_false (by omega), brF]
      obtain ⟨r, r1, r2⟩ := make_same 200000 h3 l2 m2 (by omega) (by omega)
      obtain ⟨s, s1, s2⟩ := holds_same 200000 h3 e1 l1 m1 v (by omega) (by omega) (by omega)
      simp only [r1, r2, s1, s2, bdS, check_iv 200000 h3 e1 l1 m1 (by omega) (by omega), check_ref 200000 h3 e1 l1 m1 (by omega) (by omega) (by omega) (by omega), BEq.rfl, brT, ba_beq, interval_Top.f, decide_true, Bool.and_self]
  · rw [decide_eq_false hf]
    simp only [Bool.not_false, brT]
end Go.Q
namespace Go.Q
open Go Go.RowKit Go.ChangeShapes Go.WideShapes Go.Proofs Go.Proofs.YthfphcemoehllaaGreatDoor
set_option maxRecDepth 100000
/-- The call of 'surveyor/surveyorlaw21.IntervalMakes' under what the row lists. -/
theorem intervalMakes_call {H : Type} {enc : TypeId × Value → H} {W : World} {base : Nat} {args : Array Value} {ds gs : List (DataW H)} {before : List MemPlace}
    (hval : ∀ (j : Nat) (t : TypeId) (v : Value), Tryz.f9.params[j]? = some t → args[j]? = some v → Value.okWide Tryz.prog W .any base t v)
    (hW : DataW.Whole enc Tryz.prog Tryz.f9.params.toList Rows.intervalMakesSpec.vars false W args.toList ds gs before) (hL : laidMetH Tryz.prog Rows.intervalMakesRow.laid W) :
    Calls Tryz.prog 9 args W fun e W' => ∃ v, e = .returned v ∧ Rows.intervalMakesSpec.post enc Tryz.prog Tryz.f9 false true false false W args v W' :=
  law_post (Ts := [(.pair .bool (.pair .str (.pair .str .unit))), (.pair .str (.pair .str .unit)), .str]) (f := fun lf x => surveyorlaw21_IntervalMakes.f lf x.1 x.2.1 x.2.2.1) (by kernel_rfl) (fun lf => surveyorlaw21_IntervalMakes.ok lf) (by kernel_rfl) (by kernel_rfl) (rt := 4) (by kernel_rfl) (by kernel_rfl) rfl
    (fun ds hl => by
      have hk : ds.length = 3 := hl.trans (by kernel_rfl)
      match ds, hk with
      | [d0, d1, d2], _ => rfl)
    Pure.IntervalMakes hval hW
    (tabG_of_laid (laid := Rows.intervalMakesRow.laid) (rest := []) (g := 5) (t := 248) (e := 218) (n := 20) (by kernel_rfl) (by kernel_rfl) (by kernel_rfl) (by kernel_rfl) (by kernel_rfl) (by kernel_rfl) (by kernel_rfl) (by kernel_rfl) hL)
theorem intervalMakes_own : ownKnob Tryz.prog.godebug = none := by kernel_rfl
theorem intervalMakes_lifted (os : Os) (started : os.Started) (H : Type) (enc : TypeId × Value → H) :
    ReturnsInHanded {} Tryz.checked os 9 .any (fun w args => (Rows.intervalMakesSpec.pre enc Tryz.prog Tryz.f9 Rows.intervalMakesRow.domain false w args ∧ laidMetH Tryz.prog Rows.intervalMakesRow.laid w) ∧ sizedMet enc Tryz.prog Tryz.f9 (OpenSpec.ofChange Rows.intervalMakesSpec) false w args)
      (Rows.intervalMakesSpec.post enc Tryz.prog Tryz.f9 false true false false) := by
  refine returnsInHanded_of_change_and (C := Tryz.checked) (X := fun w _ => laidMetH Tryz.prog Rows.intervalMakesRow.laid w) (fun _ _ _ hh h => h.of_heap hh) intervalMakes_own started (by kernel_rfl) Tryz.func9
    (ChangeSpec.witness_shaped (enc := enc) (C := Tryz.checked) (os := os) (X := fun w _ => laidMetH Tryz.prog Rows.intervalMakesRow.laid w) false (World.laidAll Tryz.prog os Rows.intervalMakesRow.laid) #[(.agg #[.bool false, .string ByteArray.empty, .string ByteArray.empty]), (.agg #[.string ByteArray.empty, .string ByteArray.empty]), .string ByteArray.empty] 8 (World.laidAll_os _ _ _)
      (World.shaped_of_ZipB (by kernel_rfl) (by kernel_rfl)) (by kernel_rfl) (by kernel_rfl) (by kernel_rfl)
      (by rw [MakeChecks.laidMetH_plain _ _ _ (by kernel_rfl)]; exact laidMet_laidAll _ (by kernel_rfl) (by kernel_rfl))) ?_
  intro W base args ds gs before hval hW _ _ hL _
  exact intervalMakes_call hval hW hL
theorem intervalMakes_holds : Rows.intervalMakesRow.holds Tryz.pinned (OpenSpec.ofChange Rows.intervalMakesSpec) :=
  OpenClaim.holds_of_wide 9 Tryz.f9 rfl rfl rfl rfl rfl rfl rfl ⟨rfl, rfl, rfl, rfl, rfl⟩ rfl rfl rfl rfl rfl (by kernel_rfl) Tryz.func9 (by kernel_rfl)
    (of_decide_eq_true (by kernel_rfl)) (by unfold Func.isWrapper; first | (rw [if_pos (by decide +kernel)]; kernel_rfl) | (rw [if_neg (by decide +kernel)]; exact ⟨rfl, rfl⟩))
    (fun os started H enc _ => intervalMakes_lifted os started H enc)
end Go.Q
namespace Go.Proofs.YthfphcemoehllaaGreatDoor
open Go
theorem intervalMakes_card_holds : Rows.IntervalMakesCardSaid :=
  Claim7.holds_tied_plain_at .later [] [.data, .data, .data, .data, .sentinel, .sentinel, .pinned] true (true, "200e0d0247193c78fa2dcac0056ddea2c2186019dbd2e8568f94680fda8a5131") true Go.Q.intervalMakes_holds (fun _ h => by cases h) (by kernel_rfl) (fun _ h => by cases h) intervalMakes_row_tie rfl ⟨rfl, rfl⟩ (by kernel_rfl) rfl
    (fun f fn hf hfn => by
      obtain rfl : f = 9 := Option.some.inj ((show Tryz.prog.funcNamed "surveyor/surveyorlaw21.IntervalMakes" = some 9 by kernel_rfl).symm.trans hf) |>.symm
      obtain rfl : fn = Tryz.f9 := (Option.some.inj (Tryz.func9.symm.trans hfn)).symm
      exact ⟨by kernel_rfl, fun j t ht => by
        have hall : (Tryz.f9.params.toList.all fun u => !Tryz.prog.wantsStandIn u) = true := by kernel_rfl
        have hm : t ∈ Tryz.f9.params.toList := by
          rw [← Array.getElem?_toList] at ht
          exact List.mem_of_getElem? ht
        exact (show Tryz.prog.wantsStandIn t = false by simpa using List.all_eq_true.1 hall t hm)⟩)
    (by kernel_rfl)
#print axioms intervalMakes_card_holds
end Go.Proofs.YthfphcemoehllaaGreatDoor
