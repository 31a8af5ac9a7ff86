/- surveyor/surveyortop.TopChainsValues: the row's statement, and the card over it: for every input the call returns true and leaves its arguments as they were. Condition: the listed package-level variables hold what the program's text lays (the card ties them to the pruned copy of the program). -/
import Derived.Test.YtniehiachpcdeaaGreatDoorCards
import Derived.Test.YtniehiachpcdeaaGreatDoorTie
import Derived.KernelRfl
import Derived.Test.YtniehiachpcdeaaGreatDoorTVN2
set_option linter.unusedVariables false
set_option linter.unusedSimpArgs false
set_option linter.unusedSectionVars false
set_option maxRecDepth 100000
set_option maxHeartbeats 40000000
namespace Go.Q
open Go Go.RowKit Go.ChangeShapes Go.WideShapes Go.Proofs Go.Proofs.YtniehiachpcdeaaGreatDoor
/-- The call of 'surveyor/surveyortop.TopChainsValues' under what the row lists. -/
theorem topChainsValues_call {H : Type} {enc : TypeId × Value → H} {W : World} {base : Nat} {args : Array Value} {ds gs : List (DataW H)} {before : List MemPlace}
    (hval : ∀ (j : Nat) (t : TypeId) (v : Value), Tryz.f8.params[j]? = some t → args[j]? = some v → Value.okWide Tryz.prog W .any base t v)
    (hW : DataW.Whole enc Tryz.prog Tryz.f8.params.toList Rows.topChainsValuesSpec.vars false W args.toList ds gs before) (hL : laidMetH Tryz.prog Rows.topChainsValuesRow.laid W) :
    Calls Tryz.prog 8 args W fun e W' => ∃ v, e = .returned v ∧ Rows.topChainsValuesSpec.post enc Tryz.prog Tryz.f8 false true false false W args v W' :=
  law_post (Ts := [(.sl (.pair (.pair .bool (.pair .str (.pair .str .unit))) (.pair (.pair .bool (.pair .str (.pair .str .unit))) .unit)))]) (f := fun lf x => surveyortop_TopChainsValues.f lf x.1) (by kernel_rfl) (fun lf => surveyortop_TopChainsValues.ok lf) (by kernel_rfl) (by kernel_rfl) (rt := 4) (by kernel_rfl) (by kernel_rfl) rfl
    (fun ds hl => by
      have hk : ds.length = 1 := hl.trans (by kernel_rfl)
      match ds, hk with
      | [d0], _ => rfl)
    Pure.TopChainsValues hval hW
    (tabG_of_laid (laid := Rows.topChainsValuesRow.laid) (rest := []) (g := 0) (t := 286) (e := 252) (n := 20) (by kernel_rfl) (by kernel_rfl) (by kernel_rfl) (by kernel_rfl) (by kernel_rfl) (by kernel_rfl) (by kernel_rfl) (by kernel_rfl) hL)
theorem topChainsValues_own : ownKnob Tryz.prog.godebug = none := by kernel_rfl
theorem topChainsValues_lifted (os : Os) (started : os.Started) (H : Type) (enc : TypeId × Value → H) :
    ReturnsInHanded {} Tryz.checked os 8 .any (fun w args => (Rows.topChainsValuesSpec.pre enc Tryz.prog Tryz.f8 Rows.topChainsValuesRow.domain false w args ∧ laidMetH Tryz.prog Rows.topChainsValuesRow.laid w) ∧ sizedMet enc Tryz.prog Tryz.f8 (OpenSpec.ofChange Rows.topChainsValuesSpec) false w args)
      (Rows.topChainsValuesSpec.post enc Tryz.prog Tryz.f8 false true false false) := by
  refine returnsInHanded_of_change_and (C := Tryz.checked) (X := fun w _ => laidMetH Tryz.prog Rows.topChainsValuesRow.laid w) (fun _ _ _ hh h => h.of_heap hh) topChainsValues_own started (by kernel_rfl) Tryz.func8
    (ChangeSpec.witness_shaped (enc := enc) (C := Tryz.checked) (os := os) (X := fun w _ => laidMetH Tryz.prog Rows.topChainsValuesRow.laid w) false (World.laidAll Tryz.prog os Rows.topChainsValuesRow.laid) #[.slice none 0 0] 8 (World.laidAll_os _ _ _)
      (World.shaped_of_ZipB (by kernel_rfl) (by kernel_rfl)) (by kernel_rfl) (by kernel_rfl) (by kernel_rfl)
      (by rw [MakeChecks.laidMetH_plain _ _ _ (by kernel_rfl)]; exact laidMet_laidAll _ (by kernel_rfl) (by kernel_rfl))) ?_
  intro W base args ds gs before hval hW _ _ hL _
  exact topChainsValues_call hval hW hL
theorem topChainsValues_jf4 : (Rows.topChainsValuesRow.inPlace == Tryz.pinned.checked.prog.inPlace 8 && Rows.topChainsValuesRow.unfollowed == Tryz.pinned.checked.prog.unfollowed 8 && Rows.topChainsValuesRow.recurses == Tryz.pinned.checked.prog.recurses 8 && Rows.topChainsValuesRow.named == Tryz.pinned.checked.prog.varsNamed 8) = true := by kernel_rfl
theorem topChainsValues_jf : joinedFacts Tryz.pinned.checked.prog 8 Tryz.f8 Rows.topChainsValuesSpec Rows.topChainsValuesRow = true := by
  have h := topChainsValues_jf4
  simp only [Bool.and_eq_true] at h
  obtain ⟨⟨⟨h1, h2⟩, h3⟩, h4⟩ := h
  unfold joinedFacts
  simp only [Bool.and_eq_true]
  repeat' apply And.intro
  all_goals first | (with_reducible exact h1) | (with_reducible exact h2) | (with_reducible exact h3) | (with_reducible exact h4) | (as_aux_lemma => kernel_rfl)
theorem topChainsValues_goes : false = Rows.topChainsValuesRow.goesBy Tryz.pinned.checked.prog := goes_no (by as_aux_lemma => kernel_rfl) rfl
theorem topChainsValues_holds : Rows.topChainsValuesRow.holds Tryz.pinned (OpenSpec.ofChange Rows.topChainsValuesSpec) :=
  OpenClaim.holds_of_wide 8 Tryz.f8 rfl rfl rfl rfl rfl rfl rfl ⟨rfl, rfl, rfl, rfl, rfl⟩ rfl rfl rfl rfl rfl (by as_aux_lemma => kernel_rfl) Tryz.func8 topChainsValues_jf
    (of_decide_eq_true (by as_aux_lemma => kernel_rfl)) (by unfold Func.isWrapper; first | (rw [if_pos (by decide +kernel)]; kernel_rfl) | (rw [if_neg (by decide +kernel)]; exact ⟨rfl, rfl⟩))
    (fun os started H enc _ => topChainsValues_lifted os started H enc)
end Go.Q
namespace Go.Proofs.YtniehiachpcdeaaGreatDoor
open Go
theorem topChainsValues_card_holds : Rows.TopChainsValuesCardSaid :=
  Claim7.holds_tied_plain_at .later [] [.data, .data, .data, .data, .sentinel, .sentinel, .pinned] true (true, "66ddc7c464bfd7a28b1fa2338a6b94ad057c9f36f8a6552eda967fb9d304a1ea") true Go.Q.topChainsValues_holds (fun _ h => by cases h) (by as_aux_lemma => kernel_rfl) (fun _ h => by cases h) topChainsValues_row_tie rfl ⟨rfl, rfl⟩ (by as_aux_lemma => kernel_rfl) rfl
    (fun f fn hf hfn => by
      obtain rfl : f = 8 := Option.some.inj ((show Tryz.prog.funcNamed "surveyor/surveyortop.TopChainsValues" = some 8 by as_aux_lemma => kernel_rfl).symm.trans hf) |>.symm
      obtain rfl : fn = Tryz.f8 := (Option.some.inj (Tryz.func8.symm.trans hfn)).symm
      exact ⟨by as_aux_lemma => kernel_rfl, fun j t ht => by
        have hall : (Tryz.f8.params.toList.all fun u => !Tryz.prog.wantsStandIn u) = true := by as_aux_lemma => kernel_rfl
        have hm : t ∈ Tryz.f8.params.toList := by
          rw [← Array.getElem?_toList] at ht
          exact List.mem_of_getElem? ht
        exact (show Tryz.prog.wantsStandIn t = false by simpa using List.all_eq_true.1 hall t hm)⟩)
    Go.Q.topChainsValues_goes
#print axioms topChainsValues_card_holds
end Go.Proofs.YtniehiachpcdeaaGreatDoor
