/- surveyor/surveyortop.TopClassesBest: the row's statement, and the card over it: for every input the call returns true and leaves its arguments as they were. Condition: the listed package-level variables hold what the program's text lays (the card ties them to the pruned copy of the program). -/
import Derived.Test.YtfogkflaijhfoaaGreatDoorCards
import Derived.Test.YtfogkflaijhfoaaGreatDoorTie
import Derived.KernelRfl
import Derived.Test.YtfogkflaijhfoaaGreatDoorCBN1
set_option linter.unusedVariables false
set_option linter.unusedSimpArgs false
set_option linter.unusedSectionVars false
set_option maxRecDepth 100000
set_option maxHeartbeats 40000000
namespace Go.Q
open Go Go.RowKit Go.ChangeShapes Go.WideShapes Go.Proofs Go.Proofs.YtfogkflaijhfoaaGreatDoor
/-- The call of 'surveyor/surveyortop.TopClassesBest' under what the row lists. -/
theorem topClassesBest_call {H : Type} {enc : TypeId × Value → H} {W : World} {base : Nat} {args : Array Value} {ds gs : List (DataW H)} {before : List MemPlace}
    (hval : ∀ (j : Nat) (t : TypeId) (v : Value), Tryz.f6.params[j]? = some t → args[j]? = some v → Value.okWide Tryz.prog W .any base t v)
    (hW : DataW.Whole enc Tryz.prog Tryz.f6.params.toList Rows.topClassesBestSpec.vars false W args.toList ds gs before) (hL : laidMetH Tryz.prog Rows.topClassesBestRow.laid W) :
    Calls Tryz.prog 6 args W fun e W' => ∃ v, e = .returned v ∧ Rows.topClassesBestSpec.post enc Tryz.prog Tryz.f6 false true false false W args v W' :=
  law_post (Ts := [(.pair (.int .u8) (.pair (.int .u8) .unit)), (.pair (.int .u8) (.pair (.int .u8) .unit))]) (f := fun lf x => surveyortop_TopClassesBest.f lf x.1 x.2.1) (by kernel_rfl) (fun lf => surveyortop_TopClassesBest.ok lf) (by kernel_rfl) (by kernel_rfl) (rt := 4) (by kernel_rfl) (by kernel_rfl) rfl
    (fun ds hl => by
      have hk : ds.length = 2 := hl.trans (by kernel_rfl)
      match ds, hk with
      | [d0, d1], _ => rfl)
    Pure.TopClassesBest hval hW
    (tabG_of_laid (laid := Rows.topClassesBestRow.laid) (rest := []) (g := 2) (t := 368) (e := 343) (n := 20) (by kernel_rfl) (by kernel_rfl) (by kernel_rfl) (by kernel_rfl) (by kernel_rfl) (by kernel_rfl) (by kernel_rfl) (by kernel_rfl) hL)
theorem topClassesBest_own : ownKnob Tryz.prog.godebug = none := by kernel_rfl
theorem topClassesBest_lifted (os : Os) (started : os.Started) (H : Type) (enc : TypeId × Value → H) :
    ReturnsInHanded {} Tryz.checked os 6 .any (fun w args => (Rows.topClassesBestSpec.pre enc Tryz.prog Tryz.f6 Rows.topClassesBestRow.domain false w args ∧ laidMetH Tryz.prog Rows.topClassesBestRow.laid w) ∧ sizedMet enc Tryz.prog Tryz.f6 (OpenSpec.ofChange Rows.topClassesBestSpec) false w args)
      (Rows.topClassesBestSpec.post enc Tryz.prog Tryz.f6 false true false false) := by
  refine returnsInHanded_of_change_and (C := Tryz.checked) (X := fun w _ => laidMetH Tryz.prog Rows.topClassesBestRow.laid w) (fun _ _ _ hh h => h.of_heap hh) topClassesBest_own started (by kernel_rfl) Tryz.func6
    (ChangeSpec.witness_shaped (enc := enc) (C := Tryz.checked) (os := os) (X := fun w _ => laidMetH Tryz.prog Rows.topClassesBestRow.laid w) false (World.laidAll Tryz.prog os Rows.topClassesBestRow.laid) #[(.agg #[.int .u8 0, .int .u8 0]), (.agg #[.int .u8 0, .int .u8 0])] 8 (World.laidAll_os _ _ _)
      (World.shaped_of_ZipB (by kernel_rfl) (by kernel_rfl)) (by kernel_rfl) (by kernel_rfl) (by kernel_rfl)
      (by rw [MakeChecks.laidMetH_plain _ _ _ (by kernel_rfl)]; exact laidMet_laidAll _ (by kernel_rfl) (by kernel_rfl))) ?_
  intro W base args ds gs before hval hW _ _ hL _
  exact topClassesBest_call hval hW hL
theorem topClassesBest_jf4 : (Rows.topClassesBestRow.inPlace == Tryz.pinned.checked.prog.inPlace 6 && Rows.topClassesBestRow.unfollowed == Tryz.pinned.checked.prog.unfollowed 6 && Rows.topClassesBestRow.recurses == Tryz.pinned.checked.prog.recurses 6 && Rows.topClassesBestRow.named == Tryz.pinned.checked.prog.varsNamed 6) = true := by kernel_rfl
theorem topClassesBest_jf : joinedFacts Tryz.pinned.checked.prog 6 Tryz.f6 Rows.topClassesBestSpec Rows.topClassesBestRow = true := by
  have h := topClassesBest_jf4
  simp only [Bool.and_eq_true] at h
  obtain ⟨⟨⟨h1, h2⟩, h3⟩, h4⟩ := h
  unfold joinedFacts
  simp only [Bool.and_eq_true]
  repeat' apply And.intro
  all_goals first | (with_reducible exact h1) | (with_reducible exact h2) | (with_reducible exact h3) | (with_reducible exact h4) | (as_aux_lemma => kernel_rfl)
theorem topClassesBest_goes : false = Rows.topClassesBestRow.goesBy Tryz.pinned.checked.prog := goes_no (by as_aux_lemma => kernel_rfl) rfl
theorem topClassesBest_holds : Rows.topClassesBestRow.holds Tryz.pinned (OpenSpec.ofChange Rows.topClassesBestSpec) :=
  OpenClaim.holds_of_wide 6 Tryz.f6 rfl rfl rfl rfl rfl rfl rfl ⟨rfl, rfl, rfl, rfl, rfl⟩ rfl rfl rfl rfl rfl (by as_aux_lemma => kernel_rfl) Tryz.func6 topClassesBest_jf
    (of_decide_eq_true (by as_aux_lemma => kernel_rfl)) (by unfold Func.isWrapper; first | (rw [if_pos (by decide +kernel)]; kernel_rfl) | (rw [if_neg (by decide +kernel)]; exact ⟨rfl, rfl⟩))
    (fun os started H enc _ => topClassesBest_lifted os started H enc)
end Go.Q
namespace Go.Proofs.YtfogkflaijhfoaaGreatDoor
open Go
theorem topClassesBest_card_holds : Rows.TopClassesBestCardSaid :=
  Claim7.holds_tied_plain_at .later [] [.data, .data, .data, .data, .sentinel, .sentinel, .pinned] true (true, "824532304666fc77f17cf6706cd72109c1515c76be0302407f5ade744a495135") true Go.Q.topClassesBest_holds (fun _ h => by cases h) (by as_aux_lemma => kernel_rfl) (fun _ h => by cases h) topClassesBest_row_tie rfl ⟨rfl, rfl⟩ (by as_aux_lemma => kernel_rfl) rfl
    (fun f fn hf hfn => by
      obtain rfl : f = 6 := Option.some.inj ((show Tryz.prog.funcNamed "surveyor/surveyortop.TopClassesBest" = some 6 by as_aux_lemma => kernel_rfl).symm.trans hf) |>.symm
      obtain rfl : fn = Tryz.f6 := (Option.some.inj (Tryz.func6.symm.trans hfn)).symm
      exact ⟨by as_aux_lemma => kernel_rfl, fun j t ht => by
        have hall : (Tryz.f6.params.toList.all fun u => !Tryz.prog.wantsStandIn u) = true := by as_aux_lemma => kernel_rfl
        have hm : t ∈ Tryz.f6.params.toList := by
          rw [← Array.getElem?_toList] at ht
          exact List.mem_of_getElem? ht
        exact (show Tryz.prog.wantsStandIn t = false by simpa using List.all_eq_true.1 hall t hm)⟩)
    Go.Q.topClassesBest_goes
#print axioms topClassesBest_card_holds
end Go.Proofs.YtfogkflaijhfoaaGreatDoor
