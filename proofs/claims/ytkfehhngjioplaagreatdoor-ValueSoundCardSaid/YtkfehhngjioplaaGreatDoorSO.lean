/- surveyor/surveyorlaw23.ValueSound: the row's statement, and the card over it: for every input the call returns true and leaves its arguments as they were. Condition: the listed package-level variables hold what the program's text lays (the card ties them to the pruned copy of the program). -/
import Derived.Test.YtkfehhngjioplaaGreatDoorCards
import Derived.Test.YtkfehhngjioplaaGreatDoorTie
import Derived.KernelRfl
import Derived.Test.YtkfehhngjioplaaGreatDoorSON2
set_option linter.unusedVariables false
set_option linter.unusedSimpArgs false
set_option linter.unusedSectionVars false
set_option maxRecDepth 100000
set_option maxHeartbeats 40000000
namespace Go.Q
open Go Go.RowKit Go.ChangeShapes Go.WideShapes Go.Proofs Go.Proofs.YtkfehhngjioplaaGreatDoor
/-- The call of 'surveyor/surveyorlaw23.ValueSound' under what the row lists. -/
theorem valueSound_call{H:Type}{enc:TypeId×Value→H}{W:World}{base:Nat}{args:Array Value}{ds gs:List (DataW H)}{before:List MemPlace}
    (hval:∀ (j:Nat) (t:TypeId) (v:Value),Tryz.f3.params[j]? = some t→args[j]? = some v→Value.okWide Tryz.prog W .any base t v)
    (hW:DataW.Whole enc Tryz.prog Tryz.f3.params.toList Rows.valueSoundSpec.vars false W args.toList ds gs before) (hL:laidMetH Tryz.prog Rows.valueSoundRow.laid W) :
    Calls Tryz.prog 3 args W fun e W'=>∃ v,e=.returned v∧Rows.valueSoundSpec.post enc Tryz.prog Tryz.f3 false true false false W args v W' :=
  law_post (Ts:=[(.pair (.pair .bool (.pair .str (.pair .str .unit))) (.pair (.pair .bool (.pair .str (.pair .str .unit))) .unit)),(.pair (.pair .bool (.pair .str (.pair .str .unit))) (.pair (.pair .bool (.pair .str (.pair .str .unit))) .unit)),(.pair .str (.pair .str .unit))]) (f:=fun lf x=>surveyorlaw23_ValueSound.f lf x.1 x.2.1 x.2.2.1) (by kernel_rfl) (fun lf=>surveyorlaw23_ValueSound.ok lf) (by kernel_rfl) (by kernel_rfl) (rt:=4) (by kernel_rfl) (by kernel_rfl) rfl
    (fun ds hl=>by
      have hk:ds.length=3:=hl.trans (by kernel_rfl)
      match ds,hk with
      | [d0,d1,d2],_=>rfl)
    Pure.ValueSound hval hW
    (tabG_of_laid (laid:=Rows.valueSoundRow.laid) (rest:=[]) (g:=3) (t:=287) (e:=262) (n:=20) (by kernel_rfl) (by kernel_rfl) (by kernel_rfl) (by kernel_rfl) (by kernel_rfl) (by kernel_rfl) (by kernel_rfl) (by kernel_rfl) hL)
theorem valueSound_own:ownKnob Tryz.prog.godebug=none:=by kernel_rfl
theorem valueSound_lifted(os:Os)(started:os.Started)(H:Type)(enc:TypeId×Value→H):
    ReturnsInHanded {} Tryz.checked os 3 .any (fun w args=>(Rows.valueSoundSpec.pre enc Tryz.prog Tryz.f3 Rows.valueSoundRow.domain false w args∧laidMetH Tryz.prog Rows.valueSoundRow.laid w)∧sizedMet enc Tryz.prog Tryz.f3 (OpenSpec.ofChange Rows.valueSoundSpec) false w args)
      (Rows.valueSoundSpec.post enc Tryz.prog Tryz.f3 false true false false):=by
  refine returnsInHanded_of_change_and (C:=Tryz.checked) (X:=fun w _=>laidMetH Tryz.prog Rows.valueSoundRow.laid w) (fun _ _ _ hh h=>h.of_heap hh) valueSound_own started (by kernel_rfl) Tryz.func3
    (ChangeSpec.witness_shaped (enc:=enc) (C:=Tryz.checked) (os:=os) (X:=fun w _=>laidMetH Tryz.prog Rows.valueSoundRow.laid w) false (World.laidAll Tryz.prog os Rows.valueSoundRow.laid) #[(.agg #[.bool false,.string ByteArray.empty,.string ByteArray.empty,.bool false,.string ByteArray.empty,.string ByteArray.empty]),(.agg #[.bool false,.string ByteArray.empty,.string ByteArray.empty,.bool false,.string ByteArray.empty,.string ByteArray.empty]),(.agg #[.string ByteArray.empty,.string ByteArray.empty])] 8 (World.laidAll_os _ _ _)
      (World.shaped_of_ZipB (by kernel_rfl) (by kernel_rfl)) (by kernel_rfl) (by kernel_rfl) (by kernel_rfl)
      (by rw[MakeChecks.laidMetH_plain _ _ _ (by kernel_rfl)];exact laidMet_laidAll _ (by kernel_rfl) (by kernel_rfl))) ?_
  intro W base args ds gs before hval hW _ _ hL _
  exact valueSound_call hval hW hL
theorem valueSound_jf4:(Rows.valueSoundRow.inPlace==Tryz.pinned.checked.prog.inPlace 3&&Rows.valueSoundRow.unfollowed==Tryz.pinned.checked.prog.unfollowed 3&&Rows.valueSoundRow.recurses==Tryz.pinned.checked.prog.recurses 3&&Rows.valueSoundRow.named==Tryz.pinned.checked.prog.varsNamed 3)=true:=by kernel_rfl
theorem valueSound_jf:joinedFacts Tryz.pinned.checked.prog 3 Tryz.f3 Rows.valueSoundSpec Rows.valueSoundRow=true:=by
  have h:=valueSound_jf4
  simp only[Bool.and_eq_true]at h
  obtain⟨⟨⟨h1,h2⟩,h3⟩,h4⟩:=h
  unfold joinedFacts
  simp only[Bool.and_eq_true]
  repeat' apply And.intro
  all_goals first | (with_reducible exact h1) | (with_reducible exact h2) | (with_reducible exact h3) | (with_reducible exact h4) | (as_aux_lemma=>kernel_rfl)
theorem valueSound_goes:false=Rows.valueSoundRow.goesBy Tryz.pinned.checked.prog:=goes_no (by as_aux_lemma=>kernel_rfl) rfl
theorem valueSound_holds:Rows.valueSoundRow.holds Tryz.pinned (OpenSpec.ofChange Rows.valueSoundSpec) :=
  OpenClaim.holds_of_wide 3 Tryz.f3 rfl rfl rfl rfl rfl rfl rfl ⟨rfl,rfl,rfl,rfl,rfl⟩ rfl rfl rfl rfl rfl (by as_aux_lemma=>kernel_rfl) Tryz.func3 valueSound_jf
    (of_decide_eq_true (by as_aux_lemma=>kernel_rfl)) (by unfold Func.isWrapper;first | (rw[if_pos (by decide +kernel)];kernel_rfl) | (rw[if_neg (by decide +kernel)];exact⟨rfl,rfl⟩))
    (fun os started H enc _=>valueSound_lifted os started H enc)
end Go.Q
namespace Go.Proofs.YtkfehhngjioplaaGreatDoor
open Go
theorem valueSound_card_holds:Rows.ValueSoundCardSaid :=
  Claim7.holds_tied_plain_at .later [] [.data,.data,.data,.data,.sentinel,.sentinel,.pinned] true (true, "58a7cf11827147927b9b56e512eb335125d47970018658b0d5910813480210b4") true Go.Q.valueSound_holds (fun _ h=>by cases h) (by as_aux_lemma=>kernel_rfl) (fun _ h=>by cases h) valueSound_row_tie rfl ⟨rfl,rfl⟩ (by as_aux_lemma=>kernel_rfl) rfl
    (fun f fn hf hfn=>by
      obtain rfl:f=3:=Option.some.inj ((show Tryz.prog.funcNamed "surveyor/surveyorlaw23.ValueSound" = some 3 by as_aux_lemma=>kernel_rfl).symm.trans hf) |>.symm
      obtain rfl:fn=Tryz.f3:=(Option.some.inj (Tryz.func3.symm.trans hfn)).symm
      exact⟨by as_aux_lemma=>kernel_rfl,fun j t ht=>by
        have hall:(Tryz.f3.params.toList.all fun u=>!Tryz.prog.wantsStandIn u)=true:=by as_aux_lemma=>kernel_rfl
        have hm:t∈Tryz.f3.params.toList:=by
          rw[←Array.getElem?_toList]at ht
          exact List.mem_of_getElem? ht
        exact(show Tryz.prog.wantsStandIn t=false by simpa using List.all_eq_true.1 hall t hm)⟩)
    Go.Q.valueSound_goes
#print axioms valueSound_card_holds
end Go.Proofs.YtkfehhngjioplaaGreatDoor
