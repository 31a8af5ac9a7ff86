import Derived.Test.YtnjnggbibpnkbaaGreatDoorCards
import Derived.Test.YtnjnggbibpnkbaaGreatDoorTie
import Derived.KernelRfl
import Derived.Test.YtnjnggbibpnkbaaGreatDoorEIN3
set_option linter.all false
set_option maxRecDepth 100000
set_option maxHeartbeats 40000000
open Bool renaming and_eq_true→zm
open Option renaming some→y8
namespace Go.Q
open Go Go.RowKit Go.ChangeShapes Go.WideShapes Go.Proofs Go.Proofs.YtnjnggbibpnkbaaGreatDoor
theorem aaz{H:Type}{enc:TypeId×Value→H}{W:World}{c:Nat}{a:Array Value}{ds k:List (DataW H)}{b:List MemPlace}
    (d:∀ (j:Nat) (t:TypeId) (v:Value),Tryz.f3.params[j]? = some t→a[j]? = some v→Value.okWide Tryz.prog W .any c t v)
    (l:DataW.Whole enc Tryz.prog Tryz.f3.params.toList Rows.envImposesSpec.vars false W a.toList ds k b) (i:laidMetH Tryz.prog Rows.envImposesRow.laid W) :
    Calls Tryz.prog 3 a W fun e W'=>∃ v,e=.returned v∧Rows.envImposesSpec.post enc Tryz.prog Tryz.f3 false true false false W a v W' :=
  agI (Ts:=[(.sl (.pair (.pair .bool (.pair .str (.pair .str .unit))) (.pair (.pair .bool (.pair .str (.pair .str .unit))) .unit))),(.rc false),(.pair (.pair .bool (.pair .str (.pair .str .unit))) (.pair (.pair .bool (.pair .str (.pair .str .unit))) .unit))]) (f:=fun lf x=>gZ.f lf x.1 x.2.1 x.2.2.1) θ (fun lf=>gZ.ok lf) θ θ (rt:=4) θ θ rfl
    (fun ds o=>by
      have m:ds.length=3:=o.trans θ
      match ds,m with
      | [d0,d1,d2],_=>rfl)
    Pure.EnvImposes (fun _ h=>abB (laid:=Rows.envImposesRow.laid) (t:=119) (e:=3) (rest:=[]) (by as_aux_lemma=>kernel_rfl) (by as_aux_lemma=>kernel_rfl) (by as_aux_lemma=>kernel_rfl) (by as_aux_lemma=>kernel_rfl) (by as_aux_lemma=>kernel_rfl) (by as_aux_lemma=>kernel_rfl) (by as_aux_lemma=>kernel_rfl) (by as_aux_lemma=>kernel_rfl) h) d l
    (acT (laid:=Rows.envImposesRow.laid) (rest:=[]) (g:=3) (t:=343) (e:=317) (n:=20) θ θ θ θ θ θ θ θ i) i
theorem aa8:ownKnob Tryz.prog.godebug=none:=θ
theorem zu(os:Os)(b:os.Started)(H:Type)(enc:TypeId×Value→H):
    ReturnsInHanded {} Tryz.checked os 3 .any (fun w a=>(Rows.envImposesSpec.pre enc Tryz.prog Tryz.f3 Rows.envImposesRow.domain false w a∧laidMetH Tryz.prog Rows.envImposesRow.laid w)∧sizedMet enc Tryz.prog Tryz.f3 (OpenSpec.ofChange Rows.envImposesSpec) false w a)
      (Rows.envImposesSpec.post enc Tryz.prog Tryz.f3 false true false false):=by
  refine returnsInHanded_of_change_and (C:=Tryz.checked) (X:=fun w _=>laidMetH Tryz.prog Rows.envImposesRow.laid w) (fun _ _ _ i h=>h.of_heap i) aa8 b θ Tryz.func3
    (ChangeSpec.witness_shaped (enc:=enc) (C:=Tryz.checked) (os:=os) (X:=fun w _=>laidMetH Tryz.prog Rows.envImposesRow.laid w) false (World.laidAll Tryz.prog os Rows.envImposesRow.laid) #[.slice none 0 0,(.agg #[.int .i64 0,.string ByteArray.empty,.int .i64 0,.slice none 0 0]),(.agg #[.bool false,.string ByteArray.empty,.string ByteArray.empty,.bool false,.string ByteArray.empty,.string ByteArray.empty])] 8 (World.laidAll_os _ _ _)
      (World.shaped_of_ZipB θ θ) θ θ θ
      (by rw[MakeChecks.laidMetH_plain _ _ _ θ];exact laidMet_laidAll _ θ θ)) ?_
  intro W e a ds j d c g _ _ f _
  exact aaz c g f
theorem aa7:(Rows.envImposesRow.inPlace==Tryz.pinned.checked.prog.inPlace 3&&Rows.envImposesRow.unfollowed==Tryz.pinned.checked.prog.unfollowed 3&&Rows.envImposesRow.recurses==Tryz.pinned.checked.prog.recurses 3&&Rows.envImposesRow.named==Tryz.pinned.checked.prog.varsNamed 3)=true:=θ
theorem abA:joinedFacts Tryz.pinned.checked.prog 3 Tryz.f3 Rows.envImposesSpec Rows.envImposesRow=true:=by
  have h:=aa7
  simp only[zm]at h
  obtain⟨⟨⟨a,b⟩,c⟩,d⟩:=h
  unfold joinedFacts
  simp only[zm]
  repeat' apply And.intro
  all_goals first | (with_reducible exact a) | (with_reducible exact b) | (with_reducible exact c) | (with_reducible exact d) | (as_aux_lemma=>kernel_rfl)
theorem aaA:false=Rows.envImposesRow.goesBy Tryz.pinned.checked.prog:=ah0 (by as_aux_lemma=>kernel_rfl) rfl
theorem aah:Rows.envImposesRow.holds Tryz.pinned (OpenSpec.ofChange Rows.envImposesSpec) :=
  OpenClaim.holds_of_wide 3 Tryz.f3 rfl rfl rfl rfl rfl rfl rfl ⟨rfl,rfl,rfl,rfl,rfl⟩ rfl rfl rfl rfl rfl (by as_aux_lemma=>kernel_rfl) Tryz.func3 abA
    (of_decide_eq_true (by as_aux_lemma=>kernel_rfl)) (by unfold Func.isWrapper;first | (rw[gT (by decide +kernel)];kernel_rfl) | (rw[gR (by decide +kernel)];exact⟨rfl,rfl⟩))
    (fun os a H enc _=>zu os a H enc)
end Go.Q
namespace Go.Proofs.YtnjnggbibpnkbaaGreatDoor
open Go
theorem envImposes_card_holds:Rows.EnvImposesCardSaid :=
  Claim7.holds_tied_plain_at .later [] [.data,.data,.data,.data,.sentinel,.sentinel,.data,.pinned] true (true, "bedaa8e4cfa70313dae8ce98329a65cde80bbf9e6462878574b2fc7d262bcb13") true Go.Q.aah (fun _ h=>by cases h) (by as_aux_lemma=>kernel_rfl) (fun _ h=>by cases h) envImposes_row_tie rfl ⟨rfl,rfl⟩ (by as_aux_lemma=>kernel_rfl) rfl
    (fun f d e b=>by
      obtain rfl:f=3:=y8.inj ((show Tryz.prog.funcNamed "surveyor/surveyorlaw24.EnvImposes" = some 3 by as_aux_lemma=>kernel_rfl).symm.trans e) |>.symm
      obtain rfl:d=Tryz.f3:=(y8.inj (Tryz.func3.symm.trans b)).symm
      exact⟨by as_aux_lemma=>kernel_rfl,fun j t c=>by
        have a:(Tryz.f3.params.toList.all fun u=>!Tryz.prog.wantsStandIn u)=true:=by as_aux_lemma=>kernel_rfl
        have g:t∈Tryz.f3.params.toList:=by
          rw[←Array.getElem?_toList]at c
          exact List.mem_of_getElem? c
        exact(show Tryz.prog.wantsStandIn t=false by simpa using List.all_eq_true.1 a t g)⟩)
    Go.Q.aaA
#print axioms envImposes_card_holds
end Go.Proofs.YtnjnggbibpnkbaaGreatDoor
