/- surveyor/surveyortop.TopIntervalsBest: the row's statement, and the card over it: for every input the call returns true and leaves its arguments as they were. Condition: the listed package-level variables hold what the program's text lays (the card ties them to the pruned copy of the program). -/
import Derived.Test.YtkfehhngjioplaaGreatDoorCards
import Derived.Test.YtkfehhngjioplaaGreatDoorTie
import Derived.KernelRfl
import Derived.Test.YtkfehhngjioplaaGreatDoorTIN1
import Derived.Test.YtkfehhngjioplaaGreatDoorTIN2
set_option linter.unusedVariables false
set_option linter.unusedSimpArgs false
set_option linter.unusedSectionVars false
set_option maxRecDepth 100000
set_option maxHeartbeats 40000000
namespace Go.Q
open Go Go.RowKit Go.ChangeShapes Go.WideShapes Go.Proofs Go.Proofs.YtkfehhngjioplaaGreatDoor
/-- The call of 'surveyor/surveyortop.TopIntervalsBest' under what the row lists. -/
theorem topIntervalsBest_call{H:Type}{enc:TypeId×Value→H}{W:World}{base:Nat}{args:Array Value}{ds gs:List (DataW H)}{before:List MemPlace}
    (hval:∀ (j:Nat) (t:TypeId) (v:Value),Tryz.f4.params[j]? = some t→args[j]? = some v→Value.okWide Tryz.prog W .any base t v)
    (hW:DataW.Whole enc Tryz.prog Tryz.f4.params.toList Rows.topIntervalsBestSpec.vars false W args.toList ds gs before) (hL:laidMetH Tryz.prog Rows.topIntervalsBestRow.laid W) :
    Calls Tryz.prog 4 args W fun e W'=>∃ v,e=.returned v∧Rows.topIntervalsBestSpec.post enc Tryz.prog Tryz.f4 false true false false W args v W' :=
  law_post (Ts:=[(.pair (.int .i8) (.pair (.int .u8) .unit)),(.pair (.int .i8) (.pair (.int .u8) .unit))]) (f:=fun lf x=>surveyortop_TopIntervalsBest.f lf x.1 x.2.1) (by kernel_rfl) (fun lf=>surveyortop_TopIntervalsBest.ok lf) (by kernel_rfl) (by kernel_rfl) (rt:=4) (by kernel_rfl) (by kernel_rfl) rfl
    (fun ds hl=>by
      have hk:ds.length=2:=hl.trans (by kernel_rfl)
      match ds,hk with
      | [d0,d1],_=>rfl)
    Pure.TopIntervalsBest hval hW
    (tabG_of_laid (laid:=Rows.topIntervalsBestRow.laid) (rest:=[]) (g:=3) (t:=287) (e:=262) (n:=20) (by kernel_rfl) (by kernel_rfl) (by kernel_rfl) (by kernel_rfl) (by kernel_rfl) (by kernel_rfl) (by kernel_rfl) (by kernel_rfl) hL)
theorem topIntervalsBest_own:ownKnob Tryz.prog.godebug=none:=by kernel_rfl
theorem topIntervalsBest_lifted(os:Os)(started:os.Started)(H:Type)(enc:TypeId×Value→H):
    ReturnsInHanded {} Tryz.checked os 4 .any (fun w args=>(Rows.topIntervalsBestSpec.pre enc Tryz.prog Tryz.f4 Rows.topIntervalsBestRow.domain false w args∧laidMetH Tryz.prog Rows.topIntervalsBestRow.laid w)∧sizedMet enc Tryz.prog Tryz.f4 (OpenSpec.ofChange Rows.topIntervalsBestSpec) false w args)
      (Rows.topIntervalsBestSpec.post enc Tryz.prog Tryz.f4 false true false false):=by
  refine returnsInHanded_of_change_and (C:=Tryz.checked) (X:=fun w _=>laidMetH Tryz.prog Rows.topIntervalsBestRow.laid w) (fun _ _ _ hh h=>h.of_heap hh) topIntervalsBest_own started (by kernel_rfl) Tryz.func4
    (ChangeSpec.witness_shaped (enc:=enc) (C:=Tryz.checked) (os:=os) (X:=fun w _=>laidMetH Tryz.prog Rows.topIntervalsBestRow.laid w) false (World.laidAll Tryz.prog os Rows.topIntervalsBestRow.laid) #[(.agg #[.int .i8 0,.int .u8 0]),(.agg #[.int .i8 0,.int .u8 0])] 8 (World.laidAll_os _ _ _)
      (World.shaped_of_ZipB (by kernel_rfl) (by kernel_rfl)) (by kernel_rfl) (by kernel_rfl) (by kernel_rfl)
      (by rw[MakeChecks.laidMetH_plain _ _ _ (by kernel_rfl)];exact laidMet_laidAll _ (by kernel_rfl) (by kernel_rfl))) ?_
  intro W base args ds gs before hval hW _ _ hL _
  exact topIntervalsBest_call hval hW hL
theorem topIntervalsBest_jf4:(Rows.topIntervalsBestRow.inPlace==Tryz.pinned.checked.prog.inPlace 4&&Rows.topIntervalsBestRow.unfollowed==Tryz.pinned.checked.prog.unfollowed 4&&Rows.topIntervalsBestRow.recurses==Tryz.pinned.checked.prog.recurses 4&&Rows.topIntervalsBestRow.named==Tryz.pinned.checked.prog.varsNamed 4)=true:=by kernel_rfl
theorem topIntervalsBest_jf:joinedFacts Tryz.pinned.checked.prog 4 Tryz.f4 Rows.topIntervalsBestSpec Rows.topIntervalsBestRow=true:=by
  have h:=topIntervalsBest_jf4
  simp only[Bool.and_eq_true]at h
  obtain⟨⟨⟨h1,h2⟩,h3⟩,h4⟩:=h
  unfold joinedFacts
  simp only[Bool.and_eq_true]
  repeat' apply And.intro
  all_goals first | (with_reducible exact h1) | (with_reducible exact h2) | (with_reducible exact h3) | (with_reducible exact h4) | (as_aux_lemma=>kernel_rfl)
theorem topIntervalsBest_goes:false=Rows.topIntervalsBestRow.goesBy Tryz.pinned.checked.prog:=goes_no (by as_aux_lemma=>kernel_rfl) rfl
theorem topIntervalsBest_holds:Rows.topIntervalsBestRow.holds Tryz.pinned (OpenSpec.ofChange Rows.topIntervalsBestSpec) :=
  OpenClaim.holds_of_wide 4 Tryz.f4 rfl rfl rfl rfl rfl rfl rfl ⟨rfl,rfl,rfl,rfl,rfl⟩ rfl rfl rfl rfl rfl (by as_aux_lemma=>kernel_rfl) Tryz.func4 topIntervalsBest_jf
    (of_decide_eq_true (by as_aux_lemma=>kernel_rfl)) (by unfold Func.isWrapper;first | (rw[if_pos (by decide +kernel)];kernel_rfl) | (rw[if_neg (by decide +kernel)];exact⟨rfl,rfl⟩))
    (fun os started H enc _=>topIntervalsBest_lifted os started H enc)
end Go.Q
namespace Go.Proofs.YtkfehhngjioplaaGreatDoor
open Go
theorem topIntervalsBest_card_holds:Rows.TopIntervalsBestCardSaid :=
  Claim7.holds_tied_plain_at .later [] [.data,.data,.data,.data,.sentinel,.sentinel,.pinned] true (true, "58a7cf11827147927b9b56e512eb335125d47970018658b0d5910813480210b4") true Go.Q.topIntervalsBest_holds (fun _ h=>by cases h) (by as_aux_lemma=>kernel_rfl) (fun _ h=>by cases h) topIntervalsBest_row_tie rfl ⟨rfl,rfl⟩ (by as_aux_lemma=>kernel_rfl) rfl
    (fun f fn hf hfn=>by
      obtain rfl:f=4:=Option.some.inj ((show Tryz.prog.funcNamed "surveyor/surveyortop.TopIntervalsBest" = some 4 by as_aux_lemma=>kernel_rfl).symm.trans hf) |>.symm
      obtain rfl:fn=Tryz.f4:=(Option.some.inj (Tryz.func4.symm.trans hfn)).symm
      exact⟨by as_aux_lemma=>kernel_rfl,fun j t ht=>by
        have hall:(Tryz.f4.params.toList.all fun u=>!Tryz.prog.wantsStandIn u)=true:=by as_aux_lemma=>kernel_rfl
        have hm:t∈Tryz.f4.params.toList:=by
          rw[←Array.getElem?_toList]at ht
          exact List.mem_of_getElem? ht
        exact(show Tryz.prog.wantsStandIn t=false by simpa using List.all_eq_true.1 hall t hm)⟩)
    Go.Q.topIntervalsBest_goes
#print axioms topIntervalsBest_card_holds
end Go.Proofs.YtkfehhngjioplaaGreatDoor
