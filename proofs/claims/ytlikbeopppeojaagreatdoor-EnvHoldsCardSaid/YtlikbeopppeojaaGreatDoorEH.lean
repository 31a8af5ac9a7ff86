/- surveyor/surveyorlaw24.EnvHolds: the row's statement, and the card over it: for every input the call returns true and leaves its arguments as they were. Condition: the listed package-level variables hold what the program's text lays (the card ties them to the pruned copy of the program). -/
import Derived.Test.YtlikbeopppeojaaGreatDoorCards
import Derived.Test.YtlikbeopppeojaaGreatDoorTie
import Derived.KernelRfl
import Derived.Test.YtlikbeopppeojaaGreatDoorEHN2
set_option linter.unusedVariables false
set_option linter.unusedSimpArgs false
set_option linter.unusedSectionVars false
set_option maxRecDepth 100000
set_option maxHeartbeats 40000000
namespace Go.Q
open Go Go.RowKit Go.ChangeShapes Go.WideShapes Go.Proofs Go.Proofs.YtlikbeopppeojaaGreatDoor
/-- The call of 'surveyor/surveyorlaw24.EnvHolds' under what the row lists. -/
theorem envHolds_call {H : Type} {enc : TypeId × Value → H} {W : World} {base : Nat} {args : Array Value} {ds gs : List (DataW H)} {before : List MemPlace}
    (hval : ∀ (j : Nat) (t : TypeId) (v : Value), Tryz.f3.params[j]? = some t → args[j]? = some v → Value.okWide Tryz.prog W .any base t v)
    (hW : DataW.Whole enc Tryz.prog Tryz.f3.params.toList Rows.envHoldsSpec.vars false W args.toList ds gs before) (hL : laidMetH Tryz.prog Rows.envHoldsRow.laid W) :
    Calls Tryz.prog 3 args W fun e W' => ∃ v, e = .returned v ∧ Rows.envHoldsSpec.post enc Tryz.prog Tryz.f3 false true false false W args v W' :=
  law_post (Ts := [(.sl (.pair (.pair .bool (.pair .str (.pair .str .unit))) (.pair (.pair .bool (.pair .str (.pair .str .unit))) .unit))), (.int .i64), (.sl .str)]) (f := fun lf x => surveyorlaw24_EnvHolds.f lf x.1 x.2.1 x.2.2.1) (by kernel_rfl) (fun lf => surveyorlaw24_EnvHolds.ok lf) (by kernel_rfl) (by kernel_rfl) (rt := 4) (by kernel_rfl) (by kernel_rfl) rfl
    (fun ds hl => by
      have hk : ds.length = 3 := hl.trans (by kernel_rfl)
      match ds, hk with
      | [d0, d1, d2], _ => rfl)
    Pure.EnvHolds (fun _ h => gtabs_of_laid (laid := Rows.envHoldsRow.laid) (t := 157) (e := 3) (rest := []) (by as_aux_lemma => kernel_rfl) (by as_aux_lemma => kernel_rfl) (by as_aux_lemma => kernel_rfl) (by as_aux_lemma => kernel_rfl) (by as_aux_lemma => kernel_rfl) (by as_aux_lemma => kernel_rfl) (by as_aux_lemma => kernel_rfl) (by as_aux_lemma => kernel_rfl) h) hval hW
    (tabG_of_laid (laid := Rows.envHoldsRow.laid) (rest := []) (g := 4) (t := 340) (e := 194) (n := 20) (by kernel_rfl) (by kernel_rfl) (by kernel_rfl) (by kernel_rfl) (by kernel_rfl) (by kernel_rfl) (by kernel_rfl) (by kernel_rfl) hL) hL
theorem envHolds_own : ownKnob Tryz.prog.godebug = none := by kernel_rfl
theorem envHolds_lifted (os : Os) (started : os.Started) (H : Type) (enc : TypeId × Value → H) :
    ReturnsInHanded {} Tryz.checked os 3 .any (fun w args => (Rows.envHoldsSpec.pre enc Tryz.prog Tryz.f3 Rows.envHoldsRow.domain false w args ∧ laidMetH Tryz.prog Rows.envHoldsRow.laid w) ∧ sizedMet enc Tryz.prog Tryz.f3 (OpenSpec.ofChange Rows.envHoldsSpec) false w args)
      (Rows.envHoldsSpec.post enc Tryz.prog Tryz.f3 false true false false) := by
  refine returnsInHanded_of_change_and (C := Tryz.checked) (X := fun w _ => laidMetH Tryz.prog Rows.envHoldsRow.laid w) (fun _ _ _ hh h => h.of_heap hh) envHolds_own started (by kernel_rfl) Tryz.func3
    (ChangeSpec.witness_shaped (enc := enc) (C := Tryz.checked) (os := os) (X := fun w _ => laidMetH Tryz.prog Rows.envHoldsRow.laid w) false (World.laidAll Tryz.prog os Rows.envHoldsRow.laid) #[.slice none 0 0, .int .i64 0, .slice none 0 0] 8 (World.laidAll_os _ _ _)
      (World.shaped_of_ZipB (by kernel_rfl) (by kernel_rfl)) (by kernel_rfl) (by kernel_rfl) (by kernel_rfl)
      (by rw [MakeChecks.laidMetH_plain _ _ _ (by kernel_rfl)]; exact laidMet_laidAll _ (by kernel_rfl) (by kernel_rfl))) ?_
  intro W base args ds gs before hval hW _ _ hL _
  exact envHolds_call hval hW hL
theorem envHolds_jf4 : (Rows.envHoldsRow.inPlace == Tryz.pinned.checked.prog.inPlace 3 && Rows.envHoldsRow.unfollowed == Tryz.pinned.checked.prog.unfollowed 3 && Rows.envHoldsRow.recurses == Tryz.pinned.checked.prog.recurses 3 && Rows.envHoldsRow.named == Tryz.pinned.checked.prog.varsNamed 3) = true := by kernel_rfl
theorem envHolds_jf : joinedFacts Tryz.pinned.checked.prog 3 Tryz.f3 Rows.envHoldsSpec Rows.envHoldsRow = true := by
  have h := envHolds_jf4
  simp only [Bool.and_eq_true] at h
  obtain ⟨⟨⟨h1, h2⟩, h3⟩, h4⟩ := h
  unfold joinedFacts
  simp only [Bool.and_eq_true]
  repeat' apply And.intro
  all_goals first | (with_reducible exact h1) | (with_reducible exact h2) | (with_reducible exact h3) | (with_reducible exact h4) | (as_aux_lemma => kernel_rfl)
theorem envHolds_goes : false = Rows.envHoldsRow.goesBy Tryz.pinned.checked.prog := goes_no (by as_aux_lemma => kernel_rfl) rfl
theorem envHolds_holds : Rows.envHoldsRow.holds Tryz.pinned (OpenSpec.ofChange Rows.envHoldsSpec) :=
  OpenClaim.holds_of_wide 3 Tryz.f3 rfl rfl rfl rfl rfl rfl rfl ⟨rfl, rfl, rfl, rfl, rfl⟩ rfl rfl rfl rfl rfl (by as_aux_lemma => kernel_rfl) Tryz.func3 envHolds_jf
    (of_decide_eq_true (by as_aux_lemma => kernel_rfl)) (by unfold Func.isWrapper; first | (rw [if_pos (by decide +kernel)]; kernel_rfl) | (rw [if_neg (by decide +kernel)]; exact ⟨rfl, rfl⟩))
    (fun os started H enc _ => envHolds_lifted os started H enc)
end Go.Q
namespace Go.Proofs.YtlikbeopppeojaaGreatDoor
open Go
theorem envHolds_card_holds : Rows.EnvHoldsCardSaid :=
  Claim7.holds_tied_plain_at .later [] [.data, .data, .data, .data, .sentinel, .sentinel, .data, .pinned] true (true, "5b3b700a72830e4a356b6d018f1e9ef383421ba9264965e2e9bd764a99a53a63") true Go.Q.envHolds_holds (fun _ h => by cases h) (by as_aux_lemma => kernel_rfl) (fun _ h => by cases h) envHolds_row_tie rfl ⟨rfl, rfl⟩ (by as_aux_lemma => kernel_rfl) rfl
    (fun f fn hf hfn => by
      obtain rfl : f = 3 := Option.some.inj ((show Tryz.prog.funcNamed "surveyor/surveyorlaw24.EnvHolds" = some 3 by as_aux_lemma => kernel_rfl).symm.trans hf) |>.symm
      obtain rfl : fn = Tryz.f3 := (Option.some.inj (Tryz.func3.symm.trans hfn)).symm
      exact ⟨by as_aux_lemma => kernel_rfl, fun j t ht => by
        have hall : (Tryz.f3.params.toList.all fun u => !Tryz.prog.wantsStandIn u) = true := by as_aux_lemma => kernel_rfl
        have hm : t ∈ Tryz.f3.params.toList := by
          rw [← Array.getElem?_toList] at ht
          exact List.mem_of_getElem? ht
        exact (show Tryz.prog.wantsStandIn t = false by simpa using List.all_eq_true.1 hall t hm)⟩)
    Go.Q.envHolds_goes
#print axioms envHolds_card_holds
end Go.Proofs.YtlikbeopppeojaaGreatDoor
