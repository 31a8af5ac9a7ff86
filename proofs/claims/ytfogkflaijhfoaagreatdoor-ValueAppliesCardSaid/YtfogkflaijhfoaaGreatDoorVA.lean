/- surveyor/surveyorlaw23.ValueApplies: the row's statement, and the card over it: for every input the call returns true and leaves its arguments as they were. Condition: the listed package-level variables hold what the program's text lays (the card ties them to the pruned copy of the program). -/
import Derived.Test.YtfogkflaijhfoaaGreatDoorCards
import Derived.Test.YtfogkflaijhfoaaGreatDoorTie
import Derived.KernelRfl
import Derived.Test.YtfogkflaijhfoaaGreatDoorVAN3
set_option linter.unusedVariables false
set_option linter.unusedSimpArgs false
set_option linter.unusedSectionVars false
set_option maxRecDepth 100000
set_option maxHeartbeats 40000000
namespace Go.Q
open Go Go.RowKit Go.ChangeShapes Go.WideShapes Go.Proofs Go.Proofs.YtfogkflaijhfoaaGreatDoor
/-- The call of 'surveyor/surveyorlaw23.ValueApplies' under what the row lists. -/
theorem aaF{H:Type}{enc:TypeId×Value→H}{W:World}{base:Nat}{args:Array Value}{ds gs:List (DataW H)}{before:List MemPlace}
    (hval:∀ (j:Nat) (t:TypeId) (v:Value),Tryz.f4.params[j]? = some t→args[j]? = some v→Value.okWide Tryz.prog W .any base t v)
    (hW:DataW.Whole enc Tryz.prog Tryz.f4.params.toList Rows.valueAppliesSpec.vars false W args.toList ds gs before) (hL:laidMetH Tryz.prog Rows.valueAppliesRow.laid W) :
    Calls Tryz.prog 4 args W fun e W'=>∃ v,e=.returned v∧Rows.valueAppliesSpec.post enc Tryz.prog Tryz.f4 false true false false W args v W' :=
  aja (Ts:=[(.int .i64),(.pair (.pair .bool (.pair .str (.pair .str .unit))) (.pair (.pair .bool (.pair .str (.pair .str .unit))) .unit)),(.pair (.pair .bool (.pair .str (.pair .str .unit))) (.pair (.pair .bool (.pair .str (.pair .str .unit))) .unit))]) (f:=fun lf x=>fH.f lf x.1 x.2.1 x.2.2.1) (by kernel_rfl) (fun lf=>fH.ok lf) (by kernel_rfl) (by kernel_rfl) (rt:=4) (by kernel_rfl) (by kernel_rfl) rfl
    (fun ds hl=>by
      have hk:ds.length=3:=hl.trans (by kernel_rfl)
      match ds,hk with
      | [d0,d1,d2],_=>rfl)
    Pure.ValueApplies hval hW
    (aeH (laid:=Rows.valueAppliesRow.laid) (rest:=[]) (g:=2) (t:=368) (e:=343) (n:=20) (by kernel_rfl) (by kernel_rfl) (by kernel_rfl) (by kernel_rfl) (by kernel_rfl) (by kernel_rfl) (by kernel_rfl) (by kernel_rfl) hL)
theorem abg:ownKnob Tryz.prog.godebug=none:=by kernel_rfl
theorem zy(os:Os)(started:os.Started)(H:Type)(enc:TypeId×Value→H):
    ReturnsInHanded {} Tryz.checked os 4 .any (fun w args=>(Rows.valueAppliesSpec.pre enc Tryz.prog Tryz.f4 Rows.valueAppliesRow.domain false w args∧laidMetH Tryz.prog Rows.valueAppliesRow.laid w)∧sizedMet enc Tryz.prog Tryz.f4 (OpenSpec.ofChange Rows.valueAppliesSpec) false w args)
      (Rows.valueAppliesSpec.post enc Tryz.prog Tryz.f4 false true false false):=by
  refine returnsInHanded_of_change_and (C:=Tryz.checked) (X:=fun w _=>laidMetH Tryz.prog Rows.valueAppliesRow.laid w) (fun _ _ _ hh h=>h.of_heap hh) abg started (by kernel_rfl) Tryz.func4
    (ChangeSpec.witness_shaped (enc:=enc) (C:=Tryz.checked) (os:=os) (X:=fun w _=>laidMetH Tryz.prog Rows.valueAppliesRow.laid w) false (World.laidAll Tryz.prog os Rows.valueAppliesRow.laid) #[.int .i64 0,(.agg #[.bool false,.string ByteArray.empty,.string ByteArray.empty,.bool false,.string ByteArray.empty,.string ByteArray.empty]),(.agg #[.bool false,.string ByteArray.empty,.string ByteArray.empty,.bool false,.string ByteArray.empty,.string ByteArray.empty])] 8 (World.laidAll_os _ _ _)
      (World.shaped_of_ZipB (by kernel_rfl) (by kernel_rfl)) (by kernel_rfl) (by kernel_rfl) (by kernel_rfl)
      (by rw[MakeChecks.laidMetH_plain _ _ _ (by kernel_rfl)];exact laidMet_laidAll _ (by kernel_rfl) (by kernel_rfl))) ?_
  intro W base args ds gs before hval hW _ _ hL _
  exact aaF hval hW hL
theorem abf:(Rows.valueAppliesRow.inPlace==Tryz.pinned.checked.prog.inPlace 4&&Rows.valueAppliesRow.unfollowed==Tryz.pinned.checked.prog.unfollowed 4&&Rows.valueAppliesRow.recurses==Tryz.pinned.checked.prog.recurses 4&&Rows.valueAppliesRow.named==Tryz.pinned.checked.prog.varsNamed 4)=true:=by kernel_rfl
theorem abD:joinedFacts Tryz.pinned.checked.prog 4 Tryz.f4 Rows.valueAppliesSpec Rows.valueAppliesRow=true:=by
  have h:=abf
  simp only[Bool.and_eq_true]at h
  obtain⟨⟨⟨h1,h2⟩,h3⟩,h4⟩:=h
  unfold joinedFacts
  simp only[Bool.and_eq_true]
  repeat' apply And.intro
  all_goals first | (with_reducible exact h1) | (with_reducible exact h2) | (with_reducible exact h3) | (with_reducible exact h4) | (as_aux_lemma=>kernel_rfl)
theorem aaG:false=Rows.valueAppliesRow.goesBy Tryz.pinned.checked.prog:=akr (by as_aux_lemma=>kernel_rfl) rfl
theorem zU:Rows.valueAppliesRow.holds Tryz.pinned (OpenSpec.ofChange Rows.valueAppliesSpec) :=
  OpenClaim.holds_of_wide 4 Tryz.f4 rfl rfl rfl rfl rfl rfl rfl ⟨rfl,rfl,rfl,rfl,rfl⟩ rfl rfl rfl rfl rfl (by as_aux_lemma=>kernel_rfl) Tryz.func4 abD
    (of_decide_eq_true (by as_aux_lemma=>kernel_rfl)) (by unfold Func.isWrapper;first | (rw[if_pos (by decide +kernel)];kernel_rfl) | (rw[if_neg (by decide +kernel)];exact⟨rfl,rfl⟩))
    (fun os started H enc _=>zy os started H enc)
end Go.Q
namespace Go.Proofs.YtfogkflaijhfoaaGreatDoor
open Go
theorem valueApplies_card_holds:Rows.ValueAppliesCardSaid :=
  Claim7.holds_tied_plain_at .later [] [.data,.data,.data,.data,.sentinel,.sentinel,.pinned] true (true, "824532304666fc77f17cf6706cd72109c1515c76be0302407f5ade744a495135") true Go.Q.zU (fun _ h=>by cases h) (by as_aux_lemma=>kernel_rfl) (fun _ h=>by cases h) valueApplies_row_tie rfl ⟨rfl,rfl⟩ (by as_aux_lemma=>kernel_rfl) rfl
    (fun f fn hf hfn=>by
      obtain rfl:f=4:=Option.some.inj ((show Tryz.prog.funcNamed "surveyor/surveyorlaw23.ValueApplies" = some 4 by as_aux_lemma=>kernel_rfl).symm.trans hf) |>.symm
      obtain rfl:fn=Tryz.f4:=(Option.some.inj (Tryz.func4.symm.trans hfn)).symm
      exact⟨by as_aux_lemma=>kernel_rfl,fun j t ht=>by
        have hall:(Tryz.f4.params.toList.all fun u=>!Tryz.prog.wantsStandIn u)=true:=by as_aux_lemma=>kernel_rfl
        have hm:t∈Tryz.f4.params.toList:=by
          rw[←Array.getElem?_toList]at ht
          exact List.mem_of_getElem? ht
        exact(show Tryz.prog.wantsStandIn t=false by simpa using List.all_eq_true.1 hall t hm)⟩)
    Go.Q.aaG
#print axioms valueApplies_card_holds
end Go.Proofs.YtfogkflaijhfoaaGreatDoor
