/- surveyor/surveyorlaw21.IntervalContains: the row's statement, and the card over it: for every input the call returns true and leaves its arguments as they were. Condition: the listed package-level variables hold what the program's text lays (the card ties them to the pruned copy of the program). -/
import Derived.Test.YthfphcemoehllaaGreatDoorCards
import Derived.Test.YthfphcemoehllaaGreatDoorTie
import Derived.KernelRfl
import Derived.Test.YthfphcemoehllaaGreatDoorCtN2
set_option linter.unusedVariables false
set_option linter.unusedSimpArgs false
set_option linter.unusedSectionVars false
namespace Go.Q
open Go Go.RowKit Go.ChangeShapes Go.WideShapes Go.Proofs Go.Proofs.YthfphcemoehllaaGreatDoor
set_option maxRecDepth 100000
/-- The call of 'surveyor/surveyorlaw21.IntervalContains' under what the row lists. -/
theorem intervalContains_call {H : Type} {enc : TypeId × Value → H} {W : World} {base : Nat} {args : Array Value} {ds gs : List (DataW H)} {before : List MemPlace}
    (hval : ∀ (j : Nat) (t : TypeId) (v : Value), Tryz.f10.params[j]? = some t → args[j]? = some v → Value.okWide Tryz.prog W .any base t v)
    (hW : DataW.Whole enc Tryz.prog Tryz.f10.params.toList Rows.intervalContainsSpec.vars false W args.toList ds gs before) (hL : laidMetH Tryz.prog Rows.intervalContainsRow.laid W) :
    Calls Tryz.prog 10 args W fun e W' => ∃ v, e = .returned v ∧ Rows.intervalContainsSpec.post enc Tryz.prog Tryz.f10 false true false false W args v W' :=
  law_post (Ts := [(.pair .bool (.pair .str (.pair .str .unit))), (.pair .bool (.pair .str (.pair .str .unit))), (.pair .str (.pair .str .unit))]) (f := fun lf x => surveyorlaw21_IntervalContains.f lf x.1 x.2.1 x.2.2.1) (by kernel_rfl) (fun lf => surveyorlaw21_IntervalContains.ok lf) (by kernel_rfl) (by kernel_rfl) (rt := 4) (by kernel_rfl) (by kernel_rfl) rfl
    (fun ds hl => by
      have hk : ds.length = 3 := hl.trans (by kernel_rfl)
      match ds, hk with
      | [d0, d1, d2], _ => rfl)
    Pure.IntervalContains hval hW
    (tabG_of_laid (laid := Rows.intervalContainsRow.laid) (rest := []) (g := 5) (t := 248) (e := 218) (n := 20) (by kernel_rfl) (by kernel_rfl) (by kernel_rfl) (by kernel_rfl) (by kernel_rfl) (by kernel_rfl) (by kernel_rfl) (by kernel_rfl) hL)
theorem intervalContains_own : ownKnob Tryz.prog.godebug = none := by kernel_rfl
theorem intervalContains_lifted (os : Os) (started : os.Started) (H : Type) (enc : TypeId × Value → H) :
    ReturnsInHanded {} Tryz.checked os 10 .any (fun w args => (Rows.intervalContainsSpec.pre enc Tryz.prog Tryz.f10 Rows.intervalContainsRow.domain false w args ∧ laidMetH Tryz.prog Rows.intervalContainsRow.laid w) ∧ sizedMet enc Tryz.prog Tryz.f10 (OpenSpec.ofChange Rows.intervalContainsSpec) false w args)
      (Rows.intervalContainsSpec.post enc Tryz.prog Tryz.f10 false true false false) := by
  refine returnsInHanded_of_change_and (C := Tryz.checked) (X := fun w _ => laidMetH Tryz.prog Rows.intervalContainsRow.laid w) (fun _ _ _ hh h => h.of_heap hh) intervalContains_own started (by kernel_rfl) Tryz.func10
    (ChangeSpec.witness_shaped (enc := enc) (C := Tryz.checked) (os := os) (X := fun w _ => laidMetH Tryz.prog Rows.intervalContainsRow.laid w) false (World.laidAll Tryz.prog os Rows.intervalContainsRow.laid) #[(.agg #[.bool false, .string ByteArray.empty, .string ByteArray.empty]), (.agg #[.bool false, .string ByteArray.empty, .string ByteArray.empty]), (.agg #[.string ByteArray.empty, .string ByteArray.empty])] 8 (World.laidAll_os _ _ _)
      (World.shaped_of_ZipB (by kernel_rfl) (by kernel_rfl)) (by kernel_rfl) (by kernel_rfl) (by kernel_rfl)
      (by rw [MakeChecks.laidMetH_plain _ _ _ (by kernel_rfl)]; exact laidMet_laidAll _ (by kernel_rfl) (by kernel_rfl))) ?_
  intro W base args ds gs before hval hW _ _ hL _
  exact intervalContains_call hval hW hL
theorem intervalContains_holds : Rows.intervalContainsRow.holds Tryz.pinned (OpenSpec.ofChange Rows.intervalContainsSpec) :=
  OpenClaim.holds_of_wide 10 Tryz.f10 rfl rfl rfl rfl rfl rfl rfl ⟨rfl, rfl, rfl, rfl, rfl⟩ rfl rfl rfl rfl rfl (by kernel_rfl) Tryz.func10 (by kernel_rfl)
    (of_decide_eq_true (by kernel_rfl)) (by unfold Func.isWrapper; first | (rw [if_pos (by decide +kernel)]; kernel_rfl) | (rw [if_neg (by decide +kernel)]; exact ⟨rfl, rfl⟩))
    (fun os started H enc _ => intervalContains_lifted os started H enc)
end Go.Q
namespace Go.Proofs.YthfphcemoehllaaGreatDoor
open Go
theorem intervalContains_card_holds : Rows.IntervalContainsCardSaid :=
  Claim7.holds_tied_plain_at .later [] [.data, .data, .data, .data, .sentinel, .sentinel, .pinned] true (true, "200e0d0247193c78fa2dcac0056ddea2c2186019dbd2e8568f94680fda8a5131") true Go.Q.intervalContains_holds (fun _ h => by cases h) (by kernel_rfl) (fun _ h => by cases h) intervalContains_row_tie rfl ⟨rfl, rfl⟩ (by kernel_rfl) rfl
    (fun f fn hf hfn => by
      obtain rfl : f = 10 := Option.some.inj ((show Tryz.prog.funcNamed "surveyor/surveyorlaw21.IntervalContains" = some 10 by kernel_rfl).symm.trans hf) |>.symm
      obtain rfl : fn = Tryz.f10 := (Option.some.inj (Tryz.func10.symm.trans hfn)).symm
      exact ⟨by kernel_rfl, fun j t ht => by
        have hall : (Tryz.f10.params.toList.all fun u => !Tryz.prog.wantsStandIn u) = true := by kernel_rfl
        have hm : t ∈ Tryz.f10.params.toList := by
          rw [← Array.getElem?_toList] at ht
          exact List.mem_of_getElem? ht
        exact (show Tryz.prog.wantsStandIn t = false by simpa using List.all_eq_true.1 hall t hm)⟩)
    (by kernel_rfl)
#print axioms intervalContains_card_holds
end Go.Proofs.YthfphcemoehllaaGreatDoor
