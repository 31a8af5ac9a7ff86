import Derived.Test.YtkoahpnmchgliaaGreatDoorCards
import Derived.Test.YtkoahpnmchgliaaGreatDoorTie
import Derived.KernelRfl
import Derived.Test.YtkoahpnmchgliaaGreatDoorETN3
set_option linter.all false
set_option maxRecDepth 100000
set_option maxHeartbeats 40000000
open Bool renaming and_eq_true→zm
open Option renaming some→y8
namespace Go.Q
open Go Go.RowKit Go.ChangeShapes Go.WideShapes Go.Proofs Go.Proofs.YtkoahpnmchgliaaGreatDoor
theorem abV{H:Type}{enc:TypeId×Value→H}{W:World}{c:Nat}{a:Array Value}{ds k:List (DataW H)}{b:List MemPlace}
    (d:∀ (j:Nat) (t:TypeId) (v:Value),Tryz.f3.params[j]? = some t→a[j]? = some v→Value.okWide Tryz.prog W .any c t v)
    (l:DataW.Whole enc Tryz.prog Tryz.f3.params.toList Rows.envTestsSpec.vars false W a.toList ds k b) (i:laidMetH Tryz.prog Rows.envTestsRow.laid W) :
    Calls Tryz.prog 3 a W fun e W'=>∃ v,e=.returned v∧Rows.envTestsSpec.post enc Tryz.prog Tryz.f3 false true false false W a v W' :=
  ag5 (Ts:=[(.sl (.pair (.pair .bool (.pair .str (.pair .str .unit))) (.pair (.pair .bool (.pair .str (.pair .str .unit))) .unit))),(.int .i64),(.pair (.rc false) (.pair (.rc false) .unit))]) (f:=fun lf x=>iY.f lf x.1 x.2.1 x.2.2.1) θ (fun lf=>iY.ok lf) θ θ (rt:=4) θ θ rfl
    (fun ds o=>by
      have m:ds.length=3:=o.trans θ
      match ds,m with
      | [d0,d1,d2],_=>rfl)
    Pure.EnvTests (fun _ h=>abX (laid:=Rows.envTestsRow.laid) (t:=118) (e:=3) (rest:=[]) (by as_aux_lemma=>kernel_rfl) (by as_aux_lemma=>kernel_rfl) (by as_aux_lemma=>kernel_rfl) (by as_aux_lemma=>kernel_rfl) (by as_aux_lemma=>kernel_rfl) (by as_aux_lemma=>kernel_rfl) (by as_aux_lemma=>kernel_rfl) (by as_aux_lemma=>kernel_rfl) h) d l
    (adm (laid:=Rows.envTestsRow.laid) (rest:=[]) (g:=3) (t:=348) (e:=322) (n:=20) θ θ θ θ θ θ θ θ i) i
theorem acN:ownKnob Tryz.prog.godebug=none:=θ
theorem aaS(os:Os)(b:os.Started)(H:Type)(enc:TypeId×Value→H):
    ReturnsInHanded {} Tryz.checked os 3 .any (fun w a=>(Rows.envTestsSpec.pre enc Tryz.prog Tryz.f3 Rows.envTestsRow.domain false w a∧laidMetH Tryz.prog Rows.envTestsRow.laid w)∧sizedMet enc Tryz.prog Tryz.f3 (OpenSpec.ofChange Rows.envTestsSpec) false w a)
      (Rows.envTestsSpec.post enc Tryz.prog Tryz.f3 false true false false):=by
  refine returnsInHanded_of_change_and (C:=Tryz.checked) (X:=fun w _=>laidMetH Tryz.prog Rows.envTestsRow.laid w) (fun _ _ _ i h=>h.of_heap i) acN b θ Tryz.func3
    (ChangeSpec.witness_shaped (enc:=enc) (C:=Tryz.checked) (os:=os) (X:=fun w _=>laidMetH Tryz.prog Rows.envTestsRow.laid w) false (World.laidAll Tryz.prog os Rows.envTestsRow.laid) #[.slice none 0 0,.int .i64 0,(.agg #[.int .i64 0,.string ByteArray.empty,.int .i64 0,.slice none 0 0,.int .i64 0,.string ByteArray.empty,.int .i64 0,.slice none 0 0])] 8 (World.laidAll_os _ _ _)
      (World.shaped_of_ZipB θ θ) θ θ θ
      (by rw[MakeChecks.laidMetH_plain _ _ _ θ];exact laidMet_laidAll _ θ θ)) ?_
  intro W e a ds j d c g _ _ f _
  exact abV c g f
theorem acM:(Rows.envTestsRow.inPlace==Tryz.pinned.checked.prog.inPlace 3&&Rows.envTestsRow.unfollowed==Tryz.pinned.checked.prog.unfollowed 3&&Rows.envTestsRow.recurses==Tryz.pinned.checked.prog.recurses 3&&Rows.envTestsRow.named==Tryz.pinned.checked.prog.varsNamed 3)=true:=θ
theorem adH:joinedFacts Tryz.pinned.checked.prog 3 Tryz.f3 Rows.envTestsSpec Rows.envTestsRow=true:=by
  have h:=acM
  simp only[zm]at h
  obtain⟨⟨⟨a,b⟩,c⟩,d⟩:=h
  unfold joinedFacts
  simp only[zm]
  repeat' apply And.intro
  all_goals first | (with_reducible exact a) | (with_reducible exact b) | (with_reducible exact c) | (with_reducible exact d) | (as_aux_lemma=>kernel_rfl)
theorem abW:false=Rows.envTestsRow.goesBy Tryz.pinned.checked.prog:=ain (by as_aux_lemma=>kernel_rfl) rfl
theorem abt:Rows.envTestsRow.holds Tryz.pinned (OpenSpec.ofChange Rows.envTestsSpec) :=
  OpenClaim.holds_of_wide 3 Tryz.f3 rfl rfl rfl rfl rfl rfl rfl ⟨rfl,rfl,rfl,rfl,rfl⟩ rfl rfl rfl rfl rfl (by as_aux_lemma=>kernel_rfl) Tryz.func3 adH
    (of_decide_eq_true (by as_aux_lemma=>kernel_rfl)) (by unfold Func.isWrapper;first | (rw[fa (by decide +kernel)];kernel_rfl) | (rw[gT (by decide +kernel)];exact⟨rfl,rfl⟩))
    (fun os a H enc _=>aaS os a H enc)
end Go.Q
namespace Go.Proofs.YtkoahpnmchgliaaGreatDoor
open Go
theorem envTests_card_holds:Rows.EnvTestsCardSaid :=
  Claim7.holds_tied_plain_at .later [] [.data,.data,.data,.data,.sentinel,.sentinel,.data,.pinned] true (true, "f53bdb38abb9bac89f2bf8d5cdf00879cd153af1036b3fa2a449f0863604b72a") true Go.Q.abt (fun _ h=>by cases h) (by as_aux_lemma=>kernel_rfl) (fun _ h=>by cases h) envTests_row_tie rfl ⟨rfl,rfl⟩ (by as_aux_lemma=>kernel_rfl) rfl
    (fun f d e b=>by
      obtain rfl:f=3:=y8.inj ((show Tryz.prog.funcNamed "surveyor/surveyorlaw24.EnvTests" = some 3 by as_aux_lemma=>kernel_rfl).symm.trans e) |>.symm
      obtain rfl:d=Tryz.f3:=(y8.inj (Tryz.func3.symm.trans b)).symm
      exact⟨by as_aux_lemma=>kernel_rfl,fun j t c=>by
        have a:(Tryz.f3.params.toList.all fun u=>!Tryz.prog.wantsStandIn u)=true:=by as_aux_lemma=>kernel_rfl
        have g:t∈Tryz.f3.params.toList:=by
          rw[←Array.getElem?_toList]at c
          exact List.mem_of_getElem? c
        exact(show Tryz.prog.wantsStandIn t=false by simpa using List.all_eq_true.1 a t g)⟩)
    Go.Q.abW
#print axioms envTests_card_holds
end Go.Proofs.YtkoahpnmchgliaaGreatDoor
