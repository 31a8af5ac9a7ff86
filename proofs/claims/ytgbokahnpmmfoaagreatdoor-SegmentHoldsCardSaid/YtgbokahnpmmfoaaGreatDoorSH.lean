/- surveyor/surveyorlaw33.SegmentHolds: the row's statement, and the card over it: for every input the call returns true and leaves its arguments as they were. Condition: the listed package-level variables hold what the program's text lays (the card ties them to the pruned copy of the program). -/
import Derived.Test.YtgbokahnpmmfoaaGreatDoorCards
import Derived.Test.YtgbokahnpmmfoaaGreatDoorTie
import Derived.KernelRfl
import Derived.Test.YtgbokahnpmmfoaaGreatDoorSHN2
set_option linter.unusedVariables false
set_option linter.unusedSimpArgs false
set_option linter.unusedSectionVars false
set_option maxRecDepth 100000
set_option maxHeartbeats 40000000
namespace Go.Q
open Go Go.RowKit Go.ChangeShapes Go.WideShapes Go.Proofs Go.Proofs.YtgbokahnpmmfoaaGreatDoor
/-- The call of 'surveyor/surveyorlaw33.SegmentHolds' under what the row lists. -/
theorem vS{H:Type}{enc:TypeId×Value→H}{W:World}{base:Nat}{args:Array Value}{ds gs:List (DataW H)}{before:List MemPlace}
    (hval:∀ (j:Nat) (t:TypeId) (v:Value),Tryz.f6.params[j]? = some t→args[j]? = some v→Value.okWide Tryz.prog W .any base t v)
    (hW:DataW.Whole enc Tryz.prog Tryz.f6.params.toList Rows.segmentHoldsSpec.vars false W args.toList ds gs before) (hL:laidMetH Tryz.prog Rows.segmentHoldsRow.laid W) :
    Calls Tryz.prog 6 args W fun e W'=>∃ v,e=.returned v∧Rows.segmentHoldsSpec.post enc Tryz.prog Tryz.f6 false true false false W args v W' :=
  afY (Ts:=[(.sl (.pair (.int .i64) (.pair (.int .i64) (.pair (.pair (.pair .bool (.pair .str (.pair .str .unit))) (.pair (.pair .bool (.pair .str (.pair .str .unit))) .unit)) .unit)))),(.int .i64),(.sl .str)]) (f:=fun lf x=>bY.f lf x.1 x.2.1 x.2.2.1) (by kernel_rfl) (fun lf=>bY.ok lf) (by kernel_rfl) (by kernel_rfl) (rt:=4) (by kernel_rfl) (by kernel_rfl) rfl
    (fun ds hl=>by
      have hk:ds.length=3:=hl.trans (by kernel_rfl)
      match ds,hk with
      | [d0,d1,d2],_=>rfl)
    Pure.SegmentHolds hval hW
    (abC (laid:=Rows.segmentHoldsRow.laid) (rest:=[]) (g:=0) (t:=282) (e:=245) (n:=20) (by kernel_rfl) (by kernel_rfl) (by kernel_rfl) (by kernel_rfl) (by kernel_rfl) (by kernel_rfl) (by kernel_rfl) (by kernel_rfl) hL)
theorem wY:ownKnob Tryz.prog.godebug=none:=by kernel_rfl
theorem uf(os:Os)(started:os.Started)(H:Type)(enc:TypeId×Value→H):
    ReturnsInHanded {} Tryz.checked os 6 .any (fun w args=>(Rows.segmentHoldsSpec.pre enc Tryz.prog Tryz.f6 Rows.segmentHoldsRow.domain false w args∧laidMetH Tryz.prog Rows.segmentHoldsRow.laid w)∧sizedMet enc Tryz.prog Tryz.f6 (OpenSpec.ofChange Rows.segmentHoldsSpec) false w args)
      (Rows.segmentHoldsSpec.post enc Tryz.prog Tryz.f6 false true false false):=by
  refine returnsInHanded_of_change_and (C:=Tryz.checked) (X:=fun w _=>laidMetH Tryz.prog Rows.segmentHoldsRow.laid w) (fun _ _ _ hh h=>h.of_heap hh) wY started (by kernel_rfl) Tryz.func6
    (ChangeSpec.witness_shaped (enc:=enc) (C:=Tryz.checked) (os:=os) (X:=fun w _=>laidMetH Tryz.prog Rows.segmentHoldsRow.laid w) false (World.laidAll Tryz.prog os Rows.segmentHoldsRow.laid) #[.slice none 0 0,.int .i64 0,.slice none 0 0] 8 (World.laidAll_os _ _ _)
      (World.shaped_of_ZipB (by kernel_rfl) (by kernel_rfl)) (by kernel_rfl) (by kernel_rfl) (by kernel_rfl)
      (by rw[MakeChecks.laidMetH_plain _ _ _ (by kernel_rfl)];exact laidMet_laidAll _ (by kernel_rfl) (by kernel_rfl))) ?_
  intro W base args ds gs before hval hW _ _ hL _
  exact vS hval hW hL
theorem wX:(Rows.segmentHoldsRow.inPlace==Tryz.pinned.checked.prog.inPlace 6&&Rows.segmentHoldsRow.unfollowed==Tryz.pinned.checked.prog.unfollowed 6&&Rows.segmentHoldsRow.recurses==Tryz.pinned.checked.prog.recurses 6&&Rows.segmentHoldsRow.named==Tryz.pinned.checked.prog.varsNamed 6)=true:=by kernel_rfl
theorem xN:joinedFacts Tryz.pinned.checked.prog 6 Tryz.f6 Rows.segmentHoldsSpec Rows.segmentHoldsRow=true:=by
  have h:=wX
  simp only[Bool.and_eq_true]at h
  obtain⟨⟨⟨h1,h2⟩,h3⟩,h4⟩:=h
  unfold joinedFacts
  simp only[Bool.and_eq_true]
  repeat' apply And.intro
  all_goals first | (with_reducible exact h1) | (with_reducible exact h2) | (with_reducible exact h3) | (with_reducible exact h4) | (as_aux_lemma=>kernel_rfl)
theorem vU:false=Rows.segmentHoldsRow.goesBy Tryz.pinned.checked.prog:=ahi (by as_aux_lemma=>kernel_rfl) rfl
theorem uP:Rows.segmentHoldsRow.holds Tryz.pinned (OpenSpec.ofChange Rows.segmentHoldsSpec) :=
  OpenClaim.holds_of_wide 6 Tryz.f6 rfl rfl rfl rfl rfl rfl rfl ⟨rfl,rfl,rfl,rfl,rfl⟩ rfl rfl rfl rfl rfl (by as_aux_lemma=>kernel_rfl) Tryz.func6 xN
    (of_decide_eq_true (by as_aux_lemma=>kernel_rfl)) (by unfold Func.isWrapper;first | (rw[if_pos (by decide +kernel)];kernel_rfl) | (rw[if_neg (by decide +kernel)];exact⟨rfl,rfl⟩))
    (fun os started H enc _=>uf os started H enc)
end Go.Q
namespace Go.Proofs.YtgbokahnpmmfoaaGreatDoor
open Go
theorem segmentHolds_card_holds:Rows.SegmentHoldsCardSaid :=
  Claim7.holds_tied_plain_at .later [] [.data,.data,.data,.data,.sentinel,.sentinel,.pinned] true (true, "2677e34682206d1f420671415addc34a7917b925df4c4d1d00cc84f75b182fb6") true Go.Q.uP (fun _ h=>by cases h) (by as_aux_lemma=>kernel_rfl) (fun _ h=>by cases h) segmentHolds_row_tie rfl ⟨rfl,rfl⟩ (by as_aux_lemma=>kernel_rfl) rfl
    (fun f fn hf hfn=>by
      obtain rfl:f=6:=Option.some.inj ((show Tryz.prog.funcNamed "surveyor/surveyorlaw33.SegmentHolds" = some 6 by as_aux_lemma=>kernel_rfl).symm.trans hf) |>.symm
      obtain rfl:fn=Tryz.f6:=(Option.some.inj (Tryz.func6.symm.trans hfn)).symm
      exact⟨by as_aux_lemma=>kernel_rfl,fun j t ht=>by
        have hall:(Tryz.f6.params.toList.all fun u=>!Tryz.prog.wantsStandIn u)=true:=by as_aux_lemma=>kernel_rfl
        have hm:t∈Tryz.f6.params.toList:=by
          rw[←Array.getElem?_toList]at ht
          exact List.mem_of_getElem? ht
        exact(show Tryz.prog.wantsStandIn t=false by simpa using List.all_eq_true.1 hall t hm)⟩)
    Go.Q.vU
#print axioms segmentHolds_card_holds
end Go.Proofs.YtgbokahnpmmfoaaGreatDoor
