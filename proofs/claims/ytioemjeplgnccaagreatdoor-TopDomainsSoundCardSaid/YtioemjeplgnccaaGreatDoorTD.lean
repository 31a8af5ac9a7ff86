/- surveyor/surveyortop.TopDomainsSound: the row's statement, and the card over it: for every input the call returns true and leaves its arguments as they were. Condition: the listed package-level variables hold what the program's text lays (the card ties them to the pruned copy of the program). -/
import Derived.Test.YtioemjeplgnccaaGreatDoorCards
import Derived.Test.YtioemjeplgnccaaGreatDoorTie
import Derived.KernelRfl
import Derived.Test.YtioemjeplgnccaaGreatDoorTDN2
set_option linter.unusedVariables false
set_option linter.unusedSimpArgs false
set_option linter.unusedSectionVars false
set_option maxRecDepth 100000
set_option maxHeartbeats 40000000
namespace Go.Q
open Go Go.RowKit Go.ChangeShapes Go.WideShapes Go.Proofs Go.Proofs.YtioemjeplgnccaaGreatDoor
/-- The call of 'surveyor/surveyortop.TopDomainsSound' under what the row lists. -/
theorem rC{H:Type}{enc:TypeId×Value→H}{W:World}{base:Nat}{args:Array Value}{ds gs:List (DataW H)}{before:List MemPlace}
    (hval:∀ (j:Nat) (t:TypeId) (v:Value),Tryz.f3.params[j]? = some t→args[j]? = some v→Value.okWide Tryz.prog W .any base t v)
    (hW:DataW.Whole enc Tryz.prog Tryz.f3.params.toList Rows.topDomainsSoundSpec.vars false W args.toList ds gs before) (hL:laidMetH Tryz.prog Rows.topDomainsSoundRow.laid W) :
    Calls Tryz.prog 3 args W fun e W'=>∃ v,e=.returned v∧Rows.topDomainsSoundSpec.post enc Tryz.prog Tryz.f3 false true false false W args v W' :=
  acN (Ts:=[(.pair (.int .i64) (.pair (.pair (.pair .bool (.pair .str (.pair .str .unit))) (.pair (.pair .bool (.pair .str (.pair .str .unit))) .unit)) (.pair (.pair (.pair .bool (.pair .str (.pair .str .unit))) (.pair (.pair .bool (.pair .str (.pair .str .unit))) .unit)) (.pair .str (.pair .str .unit)))))]) (f:=fun lf x=>bD.f lf x.1) (by kernel_rfl) (fun lf=>bD.ok lf) (by kernel_rfl) (by kernel_rfl) (rt:=4) (by kernel_rfl) (by kernel_rfl) rfl
    (fun ds hl=>by
      have hk:ds.length=1:=hl.trans (by kernel_rfl)
      match ds,hk with
      | [d0],_=>rfl)
    Pure.TopDomainsSound (fun _ _=>acy (by as_aux_lemma=>kernel_rfl)) hval hW
    (y9 (laid:=Rows.topDomainsSoundRow.laid) (rest:=[]) (g:=4) (t:=283) (e:=252) (n:=20) (by kernel_rfl) (by kernel_rfl) (by kernel_rfl) (by kernel_rfl) (by kernel_rfl) (by kernel_rfl) (by kernel_rfl) (by kernel_rfl) hL) hL
theorem sD:ownKnob Tryz.prog.godebug=none:=by kernel_rfl
theorem qL(os:Os)(started:os.Started)(H:Type)(enc:TypeId×Value→H):
    ReturnsInHanded {} Tryz.checked os 3 .any (fun w args=>(Rows.topDomainsSoundSpec.pre enc Tryz.prog Tryz.f3 Rows.topDomainsSoundRow.domain false w args∧laidMetH Tryz.prog Rows.topDomainsSoundRow.laid w)∧sizedMet enc Tryz.prog Tryz.f3 (OpenSpec.ofChange Rows.topDomainsSoundSpec) false w args)
      (Rows.topDomainsSoundSpec.post enc Tryz.prog Tryz.f3 false true false false):=by
  refine returnsInHanded_of_change_and (C:=Tryz.checked) (X:=fun w _=>laidMetH Tryz.prog Rows.topDomainsSoundRow.laid w) (fun _ _ _ hh h=>h.of_heap hh) sD started (by kernel_rfl) Tryz.func3
    (ChangeSpec.witness_shaped (enc:=enc) (C:=Tryz.checked) (os:=os) (X:=fun w _=>laidMetH Tryz.prog Rows.topDomainsSoundRow.laid w) false (World.laidAll Tryz.prog os Rows.topDomainsSoundRow.laid) #[(.agg #[.int .i64 0,.bool false,.string ByteArray.empty,.string ByteArray.empty,.bool false,.string ByteArray.empty,.string ByteArray.empty,.bool false,.string ByteArray.empty,.string ByteArray.empty,.bool false,.string ByteArray.empty,.string ByteArray.empty,.string ByteArray.empty,.string ByteArray.empty])] 8 (World.laidAll_os _ _ _)
      (World.shaped_of_ZipB (by kernel_rfl) (by kernel_rfl)) (by kernel_rfl) (by kernel_rfl) (by kernel_rfl)
      (by rw[MakeChecks.laidMetH_plain _ _ _ (by kernel_rfl)];exact laidMet_laidAll _ (by kernel_rfl) (by kernel_rfl))) ?_
  intro W base args ds gs before hval hW _ _ hL _
  exact rC hval hW hL
theorem su:(Rows.topDomainsSoundRow.inPlace==Tryz.pinned.checked.prog.inPlace 3&&Rows.topDomainsSoundRow.unfollowed==Tryz.pinned.checked.prog.unfollowed 3&&Rows.topDomainsSoundRow.recurses==Tryz.pinned.checked.prog.recurses 3&&Rows.topDomainsSoundRow.named==Tryz.pinned.checked.prog.varsNamed 3)=true:=by kernel_rfl
theorem sV:joinedFacts Tryz.pinned.checked.prog 3 Tryz.f3 Rows.topDomainsSoundSpec Rows.topDomainsSoundRow=true:=by
  have h:=su
  simp only[Bool.and_eq_true]at h
  obtain⟨⟨⟨h1,h2⟩,h3⟩,h4⟩:=h
  unfold joinedFacts
  simp only[Bool.and_eq_true]
  repeat' apply And.intro
  all_goals first | (with_reducible exact h1) | (with_reducible exact h2) | (with_reducible exact h3) | (with_reducible exact h4) | (as_aux_lemma=>kernel_rfl)
theorem rD:false=Rows.topDomainsSoundRow.goesBy Tryz.pinned.checked.prog:=ad5 (by as_aux_lemma=>kernel_rfl) rfl
theorem qM:Rows.topDomainsSoundRow.holds Tryz.pinned (OpenSpec.ofChange Rows.topDomainsSoundSpec) :=
  OpenClaim.holds_of_wide 3 Tryz.f3 rfl rfl rfl rfl rfl rfl rfl ⟨rfl,rfl,rfl,rfl,rfl⟩ rfl rfl rfl rfl rfl (by as_aux_lemma=>kernel_rfl) Tryz.func3 sV
    (of_decide_eq_true (by as_aux_lemma=>kernel_rfl)) (by unfold Func.isWrapper;first | (rw[if_pos (by decide +kernel)];kernel_rfl) | (rw[if_neg (by decide +kernel)];exact⟨rfl,rfl⟩))
    (fun os started H enc _=>qL os started H enc)
end Go.Q
namespace Go.Proofs.YtioemjeplgnccaaGreatDoor
open Go
theorem topDomainsSound_card_holds:Rows.TopDomainsSoundCardSaid :=
  Claim7.holds_tied_plain_at .later [] [.data,.data,.data,.data,.sentinel,.sentinel,.pinned] true (true, "77d8eeb4c675a8d1f0cd6a91c7d9f97995603e686bcf3597eb131e47651f6294") true Go.Q.qM (fun _ h=>by cases h) (by as_aux_lemma=>kernel_rfl) (fun _ h=>by cases h) topDomainsSound_row_tie rfl ⟨rfl,rfl⟩ (by as_aux_lemma=>kernel_rfl) rfl
    (fun f fn hf hfn=>by
      obtain rfl:f=3:=Option.some.inj ((show Tryz.prog.funcNamed "surveyor/surveyortop.TopDomainsSound" = some 3 by as_aux_lemma=>kernel_rfl).symm.trans hf) |>.symm
      obtain rfl:fn=Tryz.f3:=(Option.some.inj (Tryz.func3.symm.trans hfn)).symm
      exact⟨by as_aux_lemma=>kernel_rfl,fun j t ht=>by
        have hall:(Tryz.f3.params.toList.all fun u=>!Tryz.prog.wantsStandIn u)=true:=by as_aux_lemma=>kernel_rfl
        have hm:t∈Tryz.f3.params.toList:=by
          rw[←Array.getElem?_toList]at ht
          exact List.mem_of_getElem? ht
        exact(show Tryz.prog.wantsStandIn t=false by simpa using List.all_eq_true.1 hall t hm)⟩)
    Go.Q.rD
#print axioms topDomainsSound_card_holds
end Go.Proofs.YtioemjeplgnccaaGreatDoor
