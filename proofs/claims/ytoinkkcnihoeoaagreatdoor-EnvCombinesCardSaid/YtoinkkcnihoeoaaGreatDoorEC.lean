/- surveyor/surveyorlaw24.EnvCombines: the row's statement, and the card over it: for every input the call returns true and leaves its arguments as they were. Condition: the listed package-level variables hold what the program's text lays (the card ties them to the pruned copy of the program). -/
import Derived.Test.YtoinkkcnihoeoaaGreatDoorCards
import Derived.Test.YtoinkkcnihoeoaaGreatDoorTie
import Derived.KernelRfl
import Derived.Test.YtoinkkcnihoeoaaGreatDoorECN2
set_option linter.unusedVariables false
set_option linter.unusedSimpArgs false
set_option linter.unusedSectionVars false
set_option maxRecDepth 100000
set_option maxHeartbeats 40000000
namespace Go.Q
open Go Go.RowKit Go.ChangeShapes Go.WideShapes Go.Proofs Go.Proofs.YtoinkkcnihoeoaaGreatDoor
/-- The call of 'surveyor/surveyorlaw24.EnvCombines' under what the row lists. -/
theorem uT{H:Type}{enc:TypeId×Value→H}{W:World}{base:Nat}{args:Array Value}{ds gs:List (DataW H)}{before:List MemPlace}
    (hval:∀ (j:Nat) (t:TypeId) (v:Value),Tryz.f3.params[j]? = some t→args[j]? = some v→Value.okWide Tryz.prog W .any base t v)
    (hW:DataW.Whole enc Tryz.prog Tryz.f3.params.toList Rows.envCombinesSpec.vars false W args.toList ds gs before) (hL:laidMetH Tryz.prog Rows.envCombinesRow.laid W) :
    Calls Tryz.prog 3 args W fun e W'=>∃ v,e=.returned v∧Rows.envCombinesSpec.post enc Tryz.prog Tryz.f3 false true false false W args v W' :=
  adG (Ts:=[(.sl (.pair (.pair .bool (.pair .str (.pair .str .unit))) (.pair (.pair .bool (.pair .str (.pair .str .unit))) .unit))),(.sl (.pair (.pair .bool (.pair .str (.pair .str .unit))) (.pair (.pair .bool (.pair .str (.pair .str .unit))) .unit))),(.sl .str)]) (f:=fun lf x=>eP.f lf x.1 x.2.1 x.2.2.1) (by kernel_rfl) (fun lf=>eP.ok lf) (by kernel_rfl) (by kernel_rfl) (rt:=4) (by kernel_rfl) (by kernel_rfl) rfl
    (fun ds hl=>by
      have hk:ds.length=3:=hl.trans (by kernel_rfl)
      match ds,hk with
      | [d0,d1,d2],_=>rfl)
    Pure.EnvCombines (fun _ h=>xN (laid:=Rows.envCombinesRow.laid) (t:=170) (e:=3) (rest:=[]) (by as_aux_lemma=>kernel_rfl) (by as_aux_lemma=>kernel_rfl) (by as_aux_lemma=>kernel_rfl) (by as_aux_lemma=>kernel_rfl) (by as_aux_lemma=>kernel_rfl) (by as_aux_lemma=>kernel_rfl) (by as_aux_lemma=>kernel_rfl) (by as_aux_lemma=>kernel_rfl) h) hval hW
    (zT (laid:=Rows.envCombinesRow.laid) (rest:=[]) (g:=1) (t:=347) (e:=324) (n:=20) (by kernel_rfl) (by kernel_rfl) (by kernel_rfl) (by kernel_rfl) (by kernel_rfl) (by kernel_rfl) (by kernel_rfl) (by kernel_rfl) hL) hL
theorem vV:ownKnob Tryz.prog.godebug=none:=by kernel_rfl
theorem sQ(os:Os)(started:os.Started)(H:Type)(enc:TypeId×Value→H):
    ReturnsInHanded {} Tryz.checked os 3 .any (fun w args=>(Rows.envCombinesSpec.pre enc Tryz.prog Tryz.f3 Rows.envCombinesRow.domain false w args∧laidMetH Tryz.prog Rows.envCombinesRow.laid w)∧sizedMet enc Tryz.prog Tryz.f3 (OpenSpec.ofChange Rows.envCombinesSpec) false w args)
      (Rows.envCombinesSpec.post enc Tryz.prog Tryz.f3 false true false false):=by
  refine returnsInHanded_of_change_and (C:=Tryz.checked) (X:=fun w _=>laidMetH Tryz.prog Rows.envCombinesRow.laid w) (fun _ _ _ hh h=>h.of_heap hh) vV started (by kernel_rfl) Tryz.func3
    (ChangeSpec.witness_shaped (enc:=enc) (C:=Tryz.checked) (os:=os) (X:=fun w _=>laidMetH Tryz.prog Rows.envCombinesRow.laid w) false (World.laidAll Tryz.prog os Rows.envCombinesRow.laid) #[.slice none 0 0,.slice none 0 0,.slice none 0 0] 8 (World.laidAll_os _ _ _)
      (World.shaped_of_ZipB (by kernel_rfl) (by kernel_rfl)) (by kernel_rfl) (by kernel_rfl) (by kernel_rfl)
      (by rw[MakeChecks.laidMetH_plain _ _ _ (by kernel_rfl)];exact laidMet_laidAll _ (by kernel_rfl) (by kernel_rfl))) ?_
  intro W base args ds gs before hval hW _ _ hL _
  exact uT hval hW hL
theorem vU:(Rows.envCombinesRow.inPlace==Tryz.pinned.checked.prog.inPlace 3&&Rows.envCombinesRow.unfollowed==Tryz.pinned.checked.prog.unfollowed 3&&Rows.envCombinesRow.recurses==Tryz.pinned.checked.prog.recurses 3&&Rows.envCombinesRow.named==Tryz.pinned.checked.prog.varsNamed 3)=true:=by kernel_rfl
theorem wS:joinedFacts Tryz.pinned.checked.prog 3 Tryz.f3 Rows.envCombinesSpec Rows.envCombinesRow=true:=by
  have h:=vU
  simp only[Bool.and_eq_true]at h
  obtain⟨⟨⟨h1,h2⟩,h3⟩,h4⟩:=h
  unfold joinedFacts
  simp only[Bool.and_eq_true]
  repeat' apply And.intro
  all_goals first | (with_reducible exact h1) | (with_reducible exact h2) | (with_reducible exact h3) | (with_reducible exact h4) | (as_aux_lemma=>kernel_rfl)
theorem uU:false=Rows.envCombinesRow.goesBy Tryz.pinned.checked.prog:=aeO (by as_aux_lemma=>kernel_rfl) rfl
theorem tZ:Rows.envCombinesRow.holds Tryz.pinned (OpenSpec.ofChange Rows.envCombinesSpec) :=
  OpenClaim.holds_of_wide 3 Tryz.f3 rfl rfl rfl rfl rfl rfl rfl ⟨rfl,rfl,rfl,rfl,rfl⟩ rfl rfl rfl rfl rfl (by as_aux_lemma=>kernel_rfl) Tryz.func3 wS
    (of_decide_eq_true (by as_aux_lemma=>kernel_rfl)) (by unfold Func.isWrapper;first | (rw[if_pos (by decide +kernel)];kernel_rfl) | (rw[if_neg (by decide +kernel)];exact⟨rfl,rfl⟩))
    (fun os started H enc _=>sQ os started H enc)
end Go.Q
namespace Go.Proofs.YtoinkkcnihoeoaaGreatDoor
open Go
theorem envCombines_card_holds:Rows.EnvCombinesCardSaid :=
  Claim7.holds_tied_plain_at .later [] [.data,.data,.data,.data,.sentinel,.sentinel,.data,.pinned] true (true, "b3d739f5aa86dfb7e0a4d895ccedec1ba4a8aea16ce3b0fcb6b47ef43342c4ab") true Go.Q.tZ (fun _ h=>by cases h) (by as_aux_lemma=>kernel_rfl) (fun _ h=>by cases h) envCombines_row_tie rfl ⟨rfl,rfl⟩ (by as_aux_lemma=>kernel_rfl) rfl
    (fun f fn hf hfn=>by
      obtain rfl:f=3:=Option.some.inj ((show Tryz.prog.funcNamed "surveyor/surveyorlaw24.EnvCombines" = some 3 by as_aux_lemma=>kernel_rfl).symm.trans hf) |>.symm
      obtain rfl:fn=Tryz.f3:=(Option.some.inj (Tryz.func3.symm.trans hfn)).symm
      exact⟨by as_aux_lemma=>kernel_rfl,fun j t ht=>by
        have hall:(Tryz.f3.params.toList.all fun u=>!Tryz.prog.wantsStandIn u)=true:=by as_aux_lemma=>kernel_rfl
        have hm:t∈Tryz.f3.params.toList:=by
          rw[←Array.getElem?_toList]at ht
          exact List.mem_of_getElem? ht
        exact(show Tryz.prog.wantsStandIn t=false by simpa using List.all_eq_true.1 hall t hm)⟩)
    Go.Q.uU
#print axioms envCombines_card_holds
end Go.Proofs.YtoinkkcnihoeoaaGreatDoor
