/- surveyor/surveyorlaw33.SegmentWidens: the row's statement, and the card over it: for every input the call returns true and leaves its arguments as they were. Condition: the listed package-level variables hold what the program's text lays (the card ties them to the pruned copy of the program). -/
import Derived.Test.YtcgfigjpbicogaaGreatDoorCards
import Derived.Test.YtcgfigjpbicogaaGreatDoorTie
import Derived.KernelRfl
import Derived.Test.YtcgfigjpbicogaaGreatDoorSWN2
set_option linter.unusedVariables false
set_option linter.unusedSimpArgs false
set_option linter.unusedSectionVars false
set_option maxRecDepth 100000
set_option maxHeartbeats 40000000
namespace Go.Q
open Go Go.RowKit Go.ChangeShapes Go.WideShapes Go.Proofs Go.Proofs.YtcgfigjpbicogaaGreatDoor
/-- The call of 'surveyor/surveyorlaw33.SegmentWidens' under what the row lists. -/
theorem qN{H:Type}{enc:TypeId×Value→H}{W:World}{base:Nat}{args:Array Value}{ds gs:List (DataW H)}{before:List MemPlace}
    (hval:∀ (j:Nat) (t:TypeId) (v:Value),Tryz.f3.params[j]? = some t→args[j]? = some v→Value.okWide Tryz.prog W .any base t v)
    (hW:DataW.Whole enc Tryz.prog Tryz.f3.params.toList Rows.segmentWidensSpec.vars false W args.toList ds gs before) (hL:laidMetH Tryz.prog Rows.segmentWidensRow.laid W) :
    Calls Tryz.prog 3 args W fun e W'=>∃ v,e=.returned v∧Rows.segmentWidensSpec.post enc Tryz.prog Tryz.f3 false true false false W args v W' :=
  acv (Ts:=[(.sl (.pair (.int .i64) (.pair (.int .i64) (.pair (.pair (.pair .bool (.pair .str (.pair .str .unit))) (.pair (.pair .bool (.pair .str (.pair .str .unit))) .unit)) .unit)))),(.sl (.pair (.int .i64) (.pair (.int .i64) (.pair (.pair (.pair .bool (.pair .str (.pair .str .unit))) (.pair (.pair .bool (.pair .str (.pair .str .unit))) .unit)) .unit)))),(.pair (.int .i64) (.pair (.sl .str) .unit))]) (f:=fun lf x=>dw.f lf x.1 x.2.1 x.2.2.1) (by kernel_rfl) (fun lf=>dw.ok lf) (by kernel_rfl) (by kernel_rfl) (rt:=4) (by kernel_rfl) (by kernel_rfl) rfl
    (fun ds hl=>by
      have hk:ds.length=3:=hl.trans (by kernel_rfl)
      match ds,hk with
      | [d0,d1,d2],_=>rfl)
    Pure.SegmentWidens hval hW
    (yu (laid:=Rows.segmentWidensRow.laid) (rest:=[]) (g:=0) (t:=221) (e:=187) (n:=20) (by kernel_rfl) (by kernel_rfl) (by kernel_rfl) (by kernel_rfl) (by kernel_rfl) (by kernel_rfl) (by kernel_rfl) (by kernel_rfl) hL)
theorem rJ:ownKnob Tryz.prog.godebug=none:=by kernel_rfl
theorem pY(os:Os)(started:os.Started)(H:Type)(enc:TypeId×Value→H):
    ReturnsInHanded {} Tryz.checked os 3 .any (fun w args=>(Rows.segmentWidensSpec.pre enc Tryz.prog Tryz.f3 Rows.segmentWidensRow.domain false w args∧laidMetH Tryz.prog Rows.segmentWidensRow.laid w)∧sizedMet enc Tryz.prog Tryz.f3 (OpenSpec.ofChange Rows.segmentWidensSpec) false w args)
      (Rows.segmentWidensSpec.post enc Tryz.prog Tryz.f3 false true false false):=by
  refine returnsInHanded_of_change_and (C:=Tryz.checked) (X:=fun w _=>laidMetH Tryz.prog Rows.segmentWidensRow.laid w) (fun _ _ _ hh h=>h.of_heap hh) rJ started (by kernel_rfl) Tryz.func3
    (ChangeSpec.witness_shaped (enc:=enc) (C:=Tryz.checked) (os:=os) (X:=fun w _=>laidMetH Tryz.prog Rows.segmentWidensRow.laid w) false (World.laidAll Tryz.prog os Rows.segmentWidensRow.laid) #[.slice none 0 0,.slice none 0 0,(.agg #[.int .i64 0,.slice none 0 0])] 8 (World.laidAll_os _ _ _)
      (World.shaped_of_ZipB (by kernel_rfl) (by kernel_rfl)) (by kernel_rfl) (by kernel_rfl) (by kernel_rfl)
      (by rw[MakeChecks.laidMetH_plain _ _ _ (by kernel_rfl)];exact laidMet_laidAll _ (by kernel_rfl) (by kernel_rfl))) ?_
  intro W base args ds gs before hval hW _ _ hL _
  exact qN hval hW hL
theorem rH:(Rows.segmentWidensRow.inPlace==Tryz.pinned.checked.prog.inPlace 3&&Rows.segmentWidensRow.unfollowed==Tryz.pinned.checked.prog.unfollowed 3&&Rows.segmentWidensRow.recurses==Tryz.pinned.checked.prog.recurses 3&&Rows.segmentWidensRow.named==Tryz.pinned.checked.prog.varsNamed 3)=true:=by kernel_rfl
theorem sN:joinedFacts Tryz.pinned.checked.prog 3 Tryz.f3 Rows.segmentWidensSpec Rows.segmentWidensRow=true:=by
  have h:=rH
  simp only[Bool.and_eq_true]at h
  obtain⟨⟨⟨h1,h2⟩,h3⟩,h4⟩:=h
  unfold joinedFacts
  simp only[Bool.and_eq_true]
  repeat' apply And.intro
  all_goals first | (with_reducible exact h1) | (with_reducible exact h2) | (with_reducible exact h3) | (with_reducible exact h4) | (as_aux_lemma=>kernel_rfl)
theorem qO:false=Rows.segmentWidensRow.goesBy Tryz.pinned.checked.prog:=adN (by as_aux_lemma=>kernel_rfl) rfl
theorem qA:Rows.segmentWidensRow.holds Tryz.pinned (OpenSpec.ofChange Rows.segmentWidensSpec) :=
  OpenClaim.holds_of_wide 3 Tryz.f3 rfl rfl rfl rfl rfl rfl rfl ⟨rfl,rfl,rfl,rfl,rfl⟩ rfl rfl rfl rfl rfl (by as_aux_lemma=>kernel_rfl) Tryz.func3 sN
    (of_decide_eq_true (by as_aux_lemma=>kernel_rfl)) (by unfold Func.isWrapper;first | (rw[if_pos (by decide +kernel)];kernel_rfl) | (rw[if_neg (by decide +kernel)];exact⟨rfl,rfl⟩))
    (fun os started H enc _=>pY os started H enc)
end Go.Q
namespace Go.Proofs.YtcgfigjpbicogaaGreatDoor
open Go
theorem segmentWidens_card_holds:Rows.SegmentWidensCardSaid :=
  Claim7.holds_tied_plain_at .later [] [.data,.data,.data,.data,.sentinel,.sentinel,.pinned] true (true, "7274334ed95d3183cbd50d24ca45d4b7a7f1405c283218b9e3443853304d60fc") true Go.Q.qA (fun _ h=>by cases h) (by as_aux_lemma=>kernel_rfl) (fun _ h=>by cases h) segmentWidens_row_tie rfl ⟨rfl,rfl⟩ (by as_aux_lemma=>kernel_rfl) rfl
    (fun f fn hf hfn=>by
      obtain rfl:f=3:=Option.some.inj ((show Tryz.prog.funcNamed "surveyor/surveyorlaw33.SegmentWidens" = some 3 by as_aux_lemma=>kernel_rfl).symm.trans hf) |>.symm
      obtain rfl:fn=Tryz.f3:=(Option.some.inj (Tryz.func3.symm.trans hfn)).symm
      exact⟨by as_aux_lemma=>kernel_rfl,fun j t ht=>by
        have hall:(Tryz.f3.params.toList.all fun u=>!Tryz.prog.wantsStandIn u)=true:=by as_aux_lemma=>kernel_rfl
        have hm:t∈Tryz.f3.params.toList:=by
          rw[←Array.getElem?_toList]at ht
          exact List.mem_of_getElem? ht
        exact(show Tryz.prog.wantsStandIn t=false by simpa using List.all_eq_true.1 hall t hm)⟩)
    Go.Q.qO
#print axioms segmentWidens_card_holds
end Go.Proofs.YtcgfigjpbicogaaGreatDoor
