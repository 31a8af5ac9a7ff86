import Derived.Test.YtioemjeplgnccaaGreatDoorTDE3
import Derived.Test.YtioemjeplgnccaaGreatDoorTDG1
import Derived.Test.YtioemjeplgnccaaGreatDoorTDG2
import Derived.Test.YtioemjeplgnccaaGreatDoorTDG3
import Derived.Test.YtioemjeplgnccaaGreatDoorTDG4
import Derived.Test.YtioemjeplgnccaaGreatDoorTDG5
import Derived.Test.YtioemjeplgnccaaGreatDoorTDG6
set_option linter.unusedVariables false
set_option linter.unusedSimpArgs false
set_option linter.unusedSectionVars false
namespace Go.N
open Go.IntKind (i64)
open Go Go.Q Go.Rx
abbrev G:Int:=1000000000
theorem aeG(lf:Nat):∀ (l:List Int) (n:Nat),l.length < n→l.length≤1000000→bg.l0 lf n l=some ((tr l,()),()):=by
 intro l
 refine wL (p:=fun l=>∀ n,l.length < n→l.length≤1000000→bg.l0 lf n l=some ((tr l,()),())) l ?_ ?_ ?_
 ·intro n h _
  obtain⟨m,rfl⟩:=Nat.exists_eq_succ_of_ne_zero (show n≠0 by omega)
  rw[bg.l0,bg.r0]
  simp[brI,zf]
 ·intro l ih n h hb
  obtain⟨m,rfl⟩:=Nat.exists_eq_succ_of_ne_zero (show n≠0 by omega)
  rw[List.length_append,List.length_singleton]at h hb
  have e:i64.wrap (((l++[0]).length:Nat)-1:Int)=(l.length:Nat):=by
   rw[List.length_append,List.length_singleton,w64 (by omega) (by omega)];omega
  rw[bg.l0,bg.r0,decide_eq_true (by rw[List.length_append,List.length_singleton];omega),brT,e,dV _ _ (by simp),bdS]
  simp only[List.getElem_concat_length,BEq.rfl,brT]
  rw[aaR _ _ l.length rfl (by simp),bdS,List.take_left,ih m (by omega) (by omega),nN]
 ·intro l x hx n h hb
  obtain⟨m,rfl⟩:=Nat.exists_eq_succ_of_ne_zero (show n≠0 by omega)
  rw[List.length_append,List.length_singleton]at h hb
  have e:i64.wrap (((l++[x]).length:Nat)-1:Int)=(l.length:Nat):=by
   rw[List.length_append,List.length_singleton,w64 (by omega) (by omega)];omega
  rw[bg.l0,bg.r0,decide_eq_true (by rw[List.length_append,List.length_singleton];omega),brT,e,dV _ _ (by simp),bdS]
  have:(x==0)=false:=by simpa using hx
  simp only[List.getElem_concat_length,this,brF]
  rw[pO _ _ hx]
theorem rE(lf:Nat)(l:List Int)(h:l.length≤lf)(hb:l.length≤1000000):bg.f lf l=some (tr l,()):=by
 rw[bg.f,aeG lf l (lf+40) (by omega) hb,bdS]
theorem aer(lf:Nat)(xs ys:List Int)(N:Nat)(hx:Dg G xs)(hy:Dg G ys)(hN:N≤1000000):∀ (k n i:Nat) (c:Int) (out:List Int),i+k=N→out.length=N→0≤c→c≤1→k < n→
  gu.l0 lf xs ys (N:Nat) n c (i:Nat) out=some ((out.take i++addL G (xs.drop i) (ys.drop i) c k,()),()):=by
 intro k
 induction k with
 | zero =>
  intro n i c out hi ho h0 h1 hn
  obtain⟨m,rfl⟩:=Nat.exists_eq_succ_of_ne_zero (show n≠0 by omega)
  rw[gu.l0,gu.r0,decide_eq_false (by omega),brF,addL,List.append_nil,List.take_of_length_le (by omega)]
 | succ k ih =>
  intro n i c out hi ho h0 h1 hn
  obtain⟨m,rfl⟩:=Nat.exists_eq_succ_of_ne_zero (show n≠0 by omega)
  have ex:0≤xs.getD i 0∧xs.getD i 0 < G:=hx.getD (by decide) i
  have ey:0≤ys.getD i 0∧ys.getD i 0 < G:=hy.getD (by decide) i
  have fin:∀ s:Int,s=c+xs.getD i 0+ys.getD i 0→
    (bd (iRem s 1000000000) fun r4=>bd (iQuo .i64 s 1000000000) fun r5=>bd (idxB out.length (i:Nat)) fun j6=>bd (upE out j6 fun _=>some r4) fun l7=>gu.l0 lf xs ys (N:Nat) m r5 (i64.wrap ((i:Nat)+1)) l7) =
    some ((out.take i++addL G (xs.drop i) (ys.drop i) c (k+1),()),()):=by
   intro s hs
   simp only[G]at ex ey
   have hs1:0≤s:=by omega
   have hs2:s≤2000000000:=by omega
   rw[oK hs1 (by decide),bdS,nH hs1 (by decide) (by omega),bdS,dM _ _ (by omega),bdS,lD _ _ _ (by omega),bdS]
   rw[w64 (by omega) (by omega),show((i:Nat):Int)+1=((i+1:Nat):Int) by omega]
   rw[ih m (i+1) _ _ (by omega) (by rw[List.length_set];omega) (Int.ediv_nonneg hs1 (by decide)) (by omega) (by omega)]
   rw[take_set _ _ _ (by omega),addL,lu,lu,lC,lC,←hs]
   simp
  simp only[G]at ex ey
  rw[gu.l0,gu.r0,decide_eq_true (by omega),brT]
  by_cases h1x:i < xs.length
  ·rw[decide_eq_true (by omega),brT,dV _ _ h1x,bdS]
   rw[getD_lt _ _ h1x]at ex fin
   rw[w64 (by omega) (by omega)]
   by_cases h1y:i < ys.length
   ·rw[decide_eq_true (by omega),brT,dV _ _ h1y,bdS]
    rw[getD_lt _ _ h1y]at ey fin
    rw[w64 (by omega) (by omega)]
    exact fin _ rfl
   ·rw[decide_eq_false (by omega),brF]
    rw[qF _ _ h1y]at fin
    exact fin _ (by omega)
  ·rw[decide_eq_false (by omega),brF]
   rw[qF _ _ h1x]at fin
   by_cases h1y:i < ys.length
   ·rw[decide_eq_true (by omega),brT,dV _ _ h1y,bdS]
    rw[getD_lt _ _ h1y]at ey fin
    rw[w64 (by omega) (by omega)]
    exact fin _ (by omega)
   ·rw[decide_eq_false (by omega),brF]
    rw[qF _ _ h1y]at fin
    exact fin _ (by omega)
theorem ac7(lf:Nat)(xs ys:List Int)(hx:Dg G xs)(hy:Dg G ys)(h1:xs.length≤100000)(h2:ys.length≤100000)(h3:200000≤lf):
  ∃ l,gu.f lf xs ys=some (l,())∧Dg G l∧Tr l∧lv G l=lv G xs+lv G ys∧l.length≤max xs.length ys.length+1:=by
 have key:∀ (a b:List Int),Dg G a→Dg G b→a.length≤100000→b.length≤a.length→
   ∃ l,(bd (mkL (i64.wrap (((a.length:Nat):Int)+1)) (i64.wrap (((a.length:Nat):Int)+1)) 8 0) fun l27 =>
    bd (gu.l0 lf a b ((l27.length:Nat):Int) (lf+40) 0 0 l27) fun z28=>bd (bg.f lf z28.1.1) fun r29=>some (r29.1,()))=some (l,())∧Dg G l∧Tr l∧lv G l=lv G a+lv G b∧l.length≤a.length+1:=by
  intro a b ha hb hl hle
  refine⟨tr (addL G a b 0 (a.length+1)),?_,lU (yw (by decide) _ _ _ _),nP _,?_,?_⟩
  ·rw[w64 (by omega) (by omega),oL _ _ _ (a.length+1) (by omega) (by omega) (by omega),bdS]
   rw[List.length_replicate]
   have:=aer lf a b (a.length+1) ha hb (by omega) (a.length+1) (lf+40) 0 0 (List.replicate (a.length+1) 0) (by omega) (by simp) (by omega) (by omega) (by omega)
   simp only[List.drop_zero,List.take_zero,List.nil_append]at this
   rw[show((0:Nat):Int)=0 from rfl]at this
   rw[this,bdS,rE lf _ (by rw[pU];omega) (by rw[pU];omega),bdS]
  ·rw[kX,yM (by decide),Int.zero_add]
   have a1:=mY (B:=G) (by decide) ha
   have a2:=mY (B:=G) (by decide) hb
   have a3:=jY (B:=G) (by decide) hle
   have a4:=dh (B:=G) (by decide) ha
   have a5:=dh (B:=G) (by decide) hb
   apply Int.emod_eq_of_lt (by omega)
   rw[Int.pow_succ]
   have:0 < G ^ a.length:=jV (by decide) _
   simp only[G]at *
   omega
  ·have:=kH (addL G a b 0 (a.length+1))
   rw[pU]at this
   exact this
 rw[gu.f]
 by_cases h:xs.length < ys.length
 ·rw[decide_eq_true (by omega),brT]
  obtain⟨l,e,k1,k2,k3,k4⟩:=key ys xs hy hx h2 (by omega)
  exact⟨l,e,k1,k2,by rw[k3,Int.add_comm],by omega⟩
 ·rw[decide_eq_false (by omega),brF]
  obtain⟨l,e,k1,k2,k3,k4⟩:=key xs ys hx hy h1 (by omega)
  exact⟨l,e,k1,k2,k3,by omega⟩
theorem acT(lf:Nat)(xs ys:List Int)(N:Nat)(hx:Dg G xs)(hy:Dg G ys)(hN:N≤1000000)(hxl:xs.length=N):∀ (k n i:Nat) (c:Int) (out:List Int),i+k=N→out.length=N→0≤c→c≤1→k < n→
  dW.l0 lf xs ys (N:Nat) n c (i:Nat) out=some ((out.take i++subL G (xs.drop i) (ys.drop i) c k,()),()):=by
 intro k
 induction k with
 | zero =>
  intro n i c out hi ho h0 h1 hn
  obtain⟨m,rfl⟩:=Nat.exists_eq_succ_of_ne_zero (show n≠0 by omega)
  rw[dW.l0,dW.r0,decide_eq_false (by omega),brF,subL,List.append_nil,List.take_of_length_le (by omega)]
 | succ k ih =>
  intro n i c out hi ho h0 h1 hn
  obtain⟨m,rfl⟩:=Nat.exists_eq_succ_of_ne_zero (show n≠0 by omega)
  have ex:0≤xs.getD i 0∧xs.getD i 0 < G:=hx.getD (by decide) i
  have ey:0≤ys.getD i 0∧ys.getD i 0 < G:=hy.getD (by decide) i
  simp only[G]at ex ey
  have go:∀ (d v c':Int),d=xs.getD i 0-c-ys.getD i 0→v=d % G→c'= -(d / G)→0≤c'→c'≤1→
    (bd (idxB out.length (i:Nat)) fun j6=>bd (upE out j6 fun _=>some v) fun l7=>dW.l0 lf xs ys (N:Nat) m c' (i64.wrap ((i:Nat)+1)) l7) =
    some ((out.take i++subL G (xs.drop i) (ys.drop i) c (k+1),()),()):=by
   intro d v c' hd hv hc c1 c2
   rw[dM _ _ (by omega),bdS,lD _ _ _ (by omega),bdS]
   rw[w64 (by omega) (by omega),show((i:Nat):Int)+1=((i+1:Nat):Int) by omega]
   rw[ih m (i+1) _ _ (by omega) (by rw[List.length_set];omega) c1 c2 (by omega)]
   rw[take_set _ _ _ (by omega),subL,lu,lu,lC,lC,←hd,hv,hc]
   simp
  have fin:∀ d:Int,d=xs.getD i 0-c-ys.getD i 0→
    (br (decide (d < 0)) (bd (idxB out.length (i:Nat)) fun j4=>bd (upE out j4 fun _=>some (i64.wrap (d+1000000000))) fun l5=>dW.l0 lf xs ys (N:Nat) m 1 (i64.wrap ((i:Nat)+1)) l5)
     (bd (idxB out.length (i:Nat)) fun j7=>bd (upE out j7 fun _=>some d) fun l8=>dW.l0 lf xs ys (N:Nat) m 0 (i64.wrap ((i:Nat)+1)) l8)) =
    some ((out.take i++subL G (xs.drop i) (ys.drop i) c (k+1),()),()):=by
   intro d hd
   by_cases hneg:d < 0
   ·rw[decide_eq_true hneg,brT,w64 (by omega) (by omega)]
    exact go d _ 1 hd (by simp only[G];omega) (by simp only[G];omega) (by omega) (by omega)
   ·rw[decide_eq_false hneg,brF]
    exact go d _ 0 hd (by simp only[G];omega) (by simp only[G];omega) (by omega) (by omega)
  have h1x:i < xs.length:=by omega
  rw[getD_lt _ _ h1x]at ex fin
  rw[dW.l0,dW.r0,decide_eq_true (by omega),brT,dV _ _ h1x,bdS,w64 (by omega) (by omega)]
  by_cases h1y:i < ys.length
  ·rw[decide_eq_true (by omega),brT,dV _ _ h1y,bdS]
   rw[getD_lt _ _ h1y]at ey fin
   rw[w64 (by omega) (by omega)]
   exact fin _ rfl
  ·rw[decide_eq_false (by omega),brF]
   rw[qF _ _ h1y]at fin
   exact fin _ (by omega)
theorem yQ(lf:Nat)(xs ys:List Int)(hx:Dg G xs)(hy:Dg G ys)(h1:xs.length≤100000)(hle:lv G ys≤lv G xs)(h3:200000≤lf):
  ∃ l,dW.f lf xs ys=some (l,())∧Dg G l∧Tr l∧lv G l=lv G xs-lv G ys∧l.length≤xs.length:=by
 refine⟨tr (subL G xs ys 0 xs.length),?_,lU (yx (by decide) _ _ _ _),nP _,?_,?_⟩
 ·rw[dW.f,oL _ _ _ xs.length rfl rfl (by omega),bdS,List.length_replicate]
  have:=acT lf xs ys xs.length hx hy (by omega) rfl xs.length (lf+40) 0 0 (List.replicate xs.length 0) (by omega) (by simp) (by omega) (by omega) (by omega)
  simp only[List.drop_zero,List.take_zero,List.nil_append]at this
  rw[show((0:Nat):Int)=0 from rfl]at this
  rw[this,bdS,rE lf _ (by rw[qx];omega) (by rw[qx];omega),bdS]
 ·rw[kX,yO (by decide)]
  have a1:=mY (B:=G) (by decide) hx
  have a5:=dh (B:=G) (by decide) hy
  rw[show lv G xs-0-lv G ys=lv G xs-lv G ys by omega]
  exact Int.emod_eq_of_lt (by omega) (by omega)
 ·have:=kH (subL G xs ys 0 xs.length)
  rw[qx]at this
  exact this
end Go.N
namespace Go.N
open Go Go.Q Go.Rx
theorem mD(B:Int)(l:List Int)(i:Nat)(h:i < l.length):lv B (l.take (i+1))=lv B (l.take i)+B ^ i*l[i]:=by
 rw[List.take_succ_eq_append_getElem h,qG]
 simp[lv,List.length_take,Nat.min_eq_left (Nat.le_of_lt h)]
def Sg(v d:Int):Prop:=(v < 0↔d < 0)∧(v=0↔d=0)
theorem vM{B:Int}(hB:0 < B){xs ys:List Int}(hx:Dg B xs)(hy:Dg B ys)(i:Nat)(h1:i < xs.length)(h2:i < ys.length)(h:xs[i] < ys[i]):lv B (xs.take (i+1)) < lv B (ys.take (i+1)):=by
 rw[mD B xs i h1,mD B ys i h2]
 have a:=mY hB (hx.take i)
 have b:=dh hB (hy.take i)
 rw[List.length_take,Nat.min_eq_left (Nat.le_of_lt h1)]at a
 have c:B ^ i*(xs[i]+1)≤B ^ i*ys[i]:=Int.mul_le_mul_of_nonneg_left (by omega) (Int.le_of_lt (jV hB i))
 rw[Int.mul_add]at c
 omega
theorem ac5(lf:Nat)(xs ys:List Int)(hx:Dg G xs)(hy:Dg G ys)(hl:xs.length=ys.length)(hb:xs.length≤1000000):∀ (i n:Nat) (hi:i≤xs.length),i < n→
  ∃ b v,eF.l0 lf ys 0 xs n ((i:Nat)-1:Int)=some (b,(v,()),(),())∧Sg (if b=true then v else 0) (lv G (xs.take i)-lv G (ys.take i)):=by
 intro i
 induction i with
 | zero =>
  intro n hi hn
  obtain⟨m,rfl⟩:=Nat.exists_eq_succ_of_ne_zero (show n≠0 by omega)
  refine⟨false,0,?_,by simp[Sg,lv]⟩
  rw[eF.l0,eF.r0,decide_eq_false (by omega),brF]
 | succ i ih =>
  intro n hi hn
  obtain⟨m,rfl⟩:=Nat.exists_eq_succ_of_ne_zero (show n≠0 by omega)
  have e:((i+1:Nat):Int)-1=(i:Nat):=by omega
  have hxi:=hx.at i (by omega)
  have hyi:=hy.at i (by omega)
  simp only[G]at hxi hyi
  rw[eF.l0,eF.r0,decide_eq_true (by omega),brT,qR xs _ i e (by omega),bdS,qR ys _ i e (by omega),bdS]
  by_cases h:xs[i]=ys[i]'(by omega)
  ·have hne:(xs[i] != ys[i]'(by omega))=false:=by simp[h]
   rw[hne,brF,w64 (by omega) (by omega),e]
   obtain⟨b,v,h1,h2⟩:=ih m (by omega) (by omega)
   refine⟨b,v,h1,?_⟩
   rw[mD G xs i (by omega),mD G ys i (by omega),h]
   rwa [show lv G (xs.take i)+G ^ i*ys[i]-(lv G (ys.take i)+G ^ i*ys[i])=lv G (xs.take i)-lv G (ys.take i) by omega]
  ·have hne:(xs[i] != ys[i]'(by omega))=true:=by simp[h]
   rw[hne,brT,bdS,w64 (by omega) (by omega)]
   refine⟨true,_,rfl,?_⟩
   rw[if_pos rfl]
   rcases Int.lt_or_lt_of_ne h with hlt | hlt
   ·have:=vM (B:=G) (by decide) hx hy i (by omega) (by omega) hlt
    exact⟨by omega,by omega⟩
   ·have:=vM (B:=G) (by decide) hy hx i (by omega) (by omega) hlt
    exact⟨by omega,by omega⟩
theorem abb(lf:Nat)(xs ys:List Int)(hx:Dg G xs)(hy:Dg G ys)(t1:Tr xs)(t2:Tr ys)(h1:xs.length≤100000)(h2:ys.length≤100000)(h3:200000≤lf):
  ∃ v,eF.f lf xs ys=some (v,())∧Sg v (lv G xs-lv G ys):=by
 rw[eF.f]
 by_cases h:xs.length=ys.length
 ·have hne:(((xs.length:Nat):Int) !=((ys.length:Nat):Int))=false:=by simp[h]
  rw[hne,brF,w64 (by omega) (by omega)]
  obtain⟨b,v,k1,k2⟩:=ac5 lf xs ys hx hy h (by omega) xs.length (lf+40) (Nat.le_refl _) (by omega)
  rw[List.take_of_length_le (Nat.le_refl _),List.take_of_length_le (by omega)]at k2
  rw[k1,bdS]
  cases b with
  | true=>exact⟨v,by simp only[brT],by simpa using k2⟩
  | false=>exact⟨0,by simp only[brF],by simpa using k2⟩
 ·have hne:(((xs.length:Nat):Int) !=((ys.length:Nat):Int))=true:=by
   simp only[bne_iff_ne,ne_eq];omega
  rw[hne,brT,w64 (by omega) (by omega)]
  refine⟨_,rfl,?_⟩
  rcases Nat.lt_or_gt_of_ne h with hlt | hlt
  ·have:=mr (B:=G) (by decide) hx hy t2 hlt
   exact⟨by omega,by omega⟩
  ·have:=mr (B:=G) (by decide) hy hx t1 hlt
   exact⟨by omega,by omega⟩
structure RN(p:Bool×(List Int×Unit))(z:Int)(k:Nat):Prop where
 dg:Dg G p.2.1
 tr:Tr p.2.1
 len:p.2.1.length≤k
 val:z=if p.1=true then -lv G p.2.1 else lv G p.2.1
theorem RN.mono{p:Bool×(List Int×Unit)}{z:Int}{k k':Nat}(h:RN p z k)(hk:k≤k'):RN p z k':=⟨h.dg,h.tr,Nat.le_trans h.len hk,h.val⟩
theorem xJ(lf:Nat){p:Bool×(List Int×Unit)}{z:Int}{k:Nat}(h:RN p z k):∃ q,kQ.f lf p=some (q,())∧RN q (-z) k:=by
 refine⟨_,rfl,h.dg,h.tr,h.len,?_⟩
 rw[h.val]
 cases p.1<;>simp
theorem adw(lf:Nat){p q:Bool×(List Int×Unit)}{x y:Int}{k:Nat}(h1:RN p x k)(h2:RN q y k)(hk:k≤100000)(h3:200000≤lf):∃ s,kZ.f lf p q=some (s,())∧RN s (x+y) (k+1):=by
 obtain⟨pn,pl,⟨⟩⟩:=p
 obtain⟨qn,ql,⟨⟩⟩:=q
 obtain⟨d1,t1,l1,v1⟩:=h1
 obtain⟨d2,t2,l2,v2⟩:=h2
 simp only at d1 t1 l1 v1 d2 t2 l2 v2
 rw[kZ.f]
 by_cases h:pn=qn
 ·have hne:(pn != qn)=false:=by simp[h]
  simp only[hne,brF]
  rw[kJ.f,bdS]
  obtain⟨l,e,k1,k2,k3,k4⟩:=ac7 lf pl ql d1 d2 (by omega) (by omega) h3
  rw[e,bdS]
  refine⟨_,rfl,k1,k2,by simp only;omega,?_⟩
  simp only
  rw[k3,v1,v2,h]
  cases qn<;>simp<;>omega
 ·have hne:(pn != qn)=true:=by simp[h]
  simp only[hne,brT]
  rw[kL.f,kK.f]
  obtain⟨v,e,s1,s2⟩:=abb lf pl ql d1 d2 t1 t2 (by omega) (by omega) h3
  simp only[e,bdS]
  by_cases hv:v < 0
  ·have hl:=s1.1 hv
   obtain⟨l,e2,k1,k2,k3,k4⟩:=yQ lf ql pl d2 d1 (by omega) (by omega) h3
   rw[decide_eq_true hv,brT,e2,bdS,bdS]
   refine⟨_,rfl,k1,k2,by simp only;omega,?_⟩
   simp only
   rw[k3,v1,v2]
   cases pn<;>cases qn<;>simp_all<;>omega
  ·have hl:¬(lv G pl-lv G ql < 0):=fun h=>hv (s1.2 h)
   obtain⟨l,e2,k1,k2,k3,k4⟩:=yQ lf pl ql d1 d2 (by omega) (by omega) h3
   rw[decide_eq_false hv,brF,e2,bdS,bdS]
   refine⟨_,rfl,k1,k2,by simp only;omega,?_⟩
   simp only
   rw[k3,v1,v2]
   cases pn<;>cases qn<;>simp_all<;>omega
def sgn(z:Int):Int:=if z < 0 then -1 else if z=0 then 0 else 1
theorem afA(lf:Nat){p:Bool×(List Int×Unit)}{z:Int}{k:Nat}(h:RN p z k):oq.f lf p=some (sgn z,()):=by
 obtain⟨pn,pl,⟨⟩⟩:=p
 obtain⟨d1,t1,l1,v1⟩:=h
 simp only at d1 t1 l1 v1
 rw[oq.f]
 by_cases hn:pl=[]
 ·subst hn
  have:z=0:=by rw[v1];cases pn<;>simp[lv]
  subst this
  simp[brT,sgn]
 ·have hp:=pq (B:=G) (by decide) d1 t1 hn
  have:(((pl.length:Nat):Int)==0)=false:=by
   have:pl.length≠0:=fun e=>hn (List.length_eq_zero_iff.1 e)
   simp only[beq_eq_false_iff_ne,ne_eq];omega
  simp only[this,brF]
  cases pn with
  | true =>
   rw[brT,v1,sgn,if_pos (by simp;omega)]
  | false =>
   rw[brF,v1,sgn,if_neg (by simp;omega),if_neg (by simp;omega)]
end Go.N
namespace Go.N
open Go Go.Q Go.Rx
theorem uT(lf:Nat)(l:List UInt8):stringslite_HasPrefix.f lf (bs l) (⟨#[45]⟩:ByteArray)=some (neg l,()):=by
 rw[stringslite_HasPrefix.f]
 have e1:((⟨#[45]⟩:ByteArray).size:Int)=1:=rfl
 rw[e1,gB]
 cases l with
 | nil=>rw[decide_eq_false (by simp),brF];rfl
 | cons b r =>
  rw[decide_eq_true (by simp;omega),brT,aey (b::r) 1 1 rfl (by simp),bdS]
  simp only[List.take_succ_cons,List.take_zero]
  rw[show(⟨#[45]⟩:ByteArray)=bs [45] from rfl,kY]
  simp[neg]
theorem uS(lf:Nat)(l:List UInt8):strings_CutPrefix.f lf (bs l) (⟨#[45]⟩:ByteArray)=some (bs (body l),neg l,()):=by
 rw[strings_CutPrefix.f,stringslite_CutPrefix.f,uT,bdS]
 simp only
 cases h:neg l with
 | false =>
  simp only[Bool.not_false,brT,bdS]
  have:¬l.head? = some 45:=by unfold neg at h;simpa using h
  unfold body
  rw[if_neg this]
 | true =>
  have h45:l.head? = some 45:=by unfold neg at h;simpa using h
  simp only[Bool.not_true,brF]
  have hl:1≤l.length:=by cases l with
   | nil=>simp at h45
   | cons b r=>simp
  rw[show(((⟨#[45]⟩:ByteArray).size:Nat):Int)=1 from rfl,qi l 1 1 rfl hl,bdS,bdS]
  unfold body
  rw[if_pos h45]
  simp
theorem mJ(lf:Nat)(l:List UInt8):strings_TrimPrefix.f lf (bs l) (⟨#[45]⟩:ByteArray)=some (bs (body l),()):=by
 rw[strings_TrimPrefix.f,stringslite_TrimPrefix.f,uT,bdS]
 simp only
 cases h:neg l with
 | false =>
  simp only[brF,bdS]
  have:¬l.head? = some 45:=by unfold neg at h;simpa using h
  unfold body
  rw[if_neg this]
 | true =>
  have h45:l.head? = some 45:=by unfold neg at h;simpa using h
  simp only[brT]
  have hl:1≤l.length:=by cases l with
   | nil=>simp at h45
   | cons b r=>simp
  rw[show(((⟨#[45]⟩:ByteArray).size:Nat):Int)=1 from rfl,qi l 1 1 rfl hl,bdS,bdS]
  unfold body
  rw[if_pos h45]
  simp
theorem zB(l:List UInt8):(body l).length≤l.length:=vC l
theorem zC(lf:Nat)(l:List UInt8)(hl:l.length≤9223372036854775807):kP.f lf (bs l)=some (can l,()):=by
 rw[kP.f,uS,bdS]
 simp only
 rw[show(⟨#[48]⟩:ByteArray)=bs [48] from rfl,show(⟨#[]⟩:ByteArray)=bs [] from rfl,kY,kY]
 by_cases h48:body l=[48]
 ·rw[decide_eq_true h48,brT]
  congr 2
  unfold can
  rw[h48]
  unfold neg body at *
  by_cases h:l.head? = some 45
  ·rw[decide_eq_true h]
   have:l≠[48]:=by rintro rfl;simp at h
   simp[this]
  ·rw[decide_eq_false h]
   rw[if_neg h]at h48
   simp[h48]
 ·rw[decide_eq_false h48,brF]
  have hl48:l≠[48]:=by rintro rfl;exact h48 rfl
  unfold can
  rw[decide_eq_false hl48,Bool.false_or]
  by_cases h0:body l=[]
  ·rw[decide_eq_true h0]
   simp[brF,h0]
  ·rw[decide_eq_false h0]
   simp only[Bool.not_false,brT]
   have hlen:0 < (body l).length:=List.length_pos_iff.2 h0
   rw[oM _ 0 0 rfl hlen,bdS]
   have hhead:(body l).head? = some ((body l)[0]):=by rw[List.head?_eq_getElem?,List.getElem?_eq_getElem hlen]
   rw[hhead]
   by_cases h4:(body l)[0]=48
   ·rw[h4]
    simp[brF]
   ·have:((((body l)[0]).toNat:Int) != 48)=true:=by
     simp only[bne_iff_ne,ne_eq]
     intro e
     apply h4
     apply UInt8.toNat_inj.1
     have h48':(48:UInt8).toNat=48:=rfl
     omega
    rw[this,brT]
    have e1:B.Trim.f lf (bs (body l)) (⟨#[48,49,50,51,52,53,54,55,56,57]⟩:ByteArray)=some (bs (Lib.trimS (body l) [48,49,50,51,52,53,54,55,56,57]),()):=by
     unfold B.Trim.f
     rw[if_pos ⟨by rw[gB];have:=zB l;omega,by decide,by decide⟩]
    rw[e1,bdS]
    simp only
    rw[kY]
    congr 2
    have:decide (some ((body l)[0])≠some 48)=true:=by simpa using h4
    rw[this]
    have h0':decide (body l≠[])=true:=by simpa using h0
    rw[h0',Bool.true_and,Bool.true_and]
    have e2:(body l).all isDig=(body l).all (([48,49,50,51,52,53,54,55,56,57]:List UInt8).contains ·):=by
     congr 1;funext b;exact(wS b).symm
    rw[e2]
    by_cases ht:(body l).all (([48,49,50,51,52,53,54,55,56,57]:List UInt8).contains ·)=true
    ·rw[ht];exact decide_eq_true ((xW _ _).2 ht)
    ·rw[Bool.not_eq_true]at ht
     rw[ht];apply decide_eq_false
     intro e
     have:=(xW _ _).1 e
     rw[ht]at this;cases this
theorem ach(lf:Nat)(l:List UInt8):mO.f lf (bs l)=some ((nlen l:Int),()):=by
 rw[mO.f,mJ,bdS]
 simp only
 rw[gB];rfl
theorem nD(lf:Nat)(l:List UInt8)(hl:l.length≤9223372036854775807):bY.f lf (bs l)=some (chk l,()):=by
 rw[bY.f,zC lf l hl,bdS,ach,bdS]
 simp only
 unfold chk
 cases can l with
 | false=>simp[brT]
 | true =>
  simp only[Bool.not_true,brF,if_true]
  by_cases h:nlen l > 4096
  ·rw[decide_eq_true (by omega),brT,if_pos h]
  ·rw[decide_eq_false (by omega),brF,if_neg h]
theorem xC(lf:Nat)(l:List UInt8)(hl:l.length≤9223372036854775807):jA.f lf (bs l)=some ((nlen l:Int),()):=by
 rw[jA.f,gB]
 cases l with
 | nil=>rw[decide_eq_false (by simp),brF];rfl
 | cons b r =>
  rw[decide_eq_true (by rw[List.length_cons];omega),brT,oM (b::r) 0 0 rfl (by simp),bdS]
  simp only[List.getElem_cons_zero]
  unfold nlen body
  by_cases h:b=45
  ·subst h
   have:((((45:UInt8).toNat:Nat):Int)==45)=true:=by decide
   rw[this,brT]
   simp only[List.length_cons]at hl⊢
   rw[w64 (by omega) (by omega)]
   simp
  ·have:(((b.toNat:Nat):Int)==45)=false:=by
    rw[beq_eq_false_iff_ne]
    intro e;apply h;apply UInt8.toNat_inj.1
    have:(45:UInt8).toNat=45:=rfl
    omega
   rw[this,brF]
   simp[h]
theorem zW(lf:Nat)(l:List UInt8)(hl:l.length≤9223372036854775807):fQ.f lf (bs l)=some (num l,()):=by
 rw[fQ.f,nD lf l hl,bdS,xC lf l hl,bdS]
 simp only
 unfold num
 by_cases h:chk l=0
 ·rw[h]
  simp only[bne_self_eq_false,brF,ne_eq,not_true,if_false]
  by_cases h':nlen l > 100
  ·rw[decide_eq_true (by omega),brT,if_pos h']
  ·rw[decide_eq_false (by omega),brF,if_neg h']
 ·have:(chk l != 0)=true:=by simpa using h
  rw[this,brT,if_pos h]
theorem aev(lf:Nat)(ng:Bool)(l:List UInt8)(ha:l.all isDig=true)(hl:l.length≤1000000):∀ (e n:Nat) (acc:List Int),e≤l.length→e < n→acc.length+e≤1000000→
  ∃ r,gY.l0 lf ng (bs l) n (e:Nat) acc=some ((acc++r,()),())∧Dg G r∧lv G r=dv (l.take e)∧r.length≤e:=by
 intro e
 induction e using Nat.strongRecOn with
 | _ e ih =>
  intro n acc he hn hacc
  obtain⟨m,rfl⟩:=Nat.exists_eq_succ_of_ne_zero (show n≠0 by omega)
  have hall:∀ (a b:Nat),((l.drop a).take b).all isDig=true:=by
   intro a b
   rw[List.all_eq_true]at ha⊢
   intro x hx
   exact ha x (List.mem_of_mem_drop (List.mem_of_mem_take hx))
  rw[gY.l0,gY.r0]
  by_cases h0:e=0
  ·subst h0
   rw[decide_eq_false (by omega),brF]
   exact⟨[],by simp,Dg.nil,rfl,by simp⟩
  ·rw[decide_eq_true (by omega),brT,w64 (by omega) (by omega)]
   have step:∀ a:Nat,a=e-9→∃ y:Int,(bd (sCut (bs l) (some (a:Int)) (some (e:Int))) fun r2=>bd (B.Atoi.f lf r2) fun r3=>bd (apL true 8 acc [r3.1]) fun l4=>gY.l0 lf ng (bs l) m ((e:Int)-9) l4) =
     gY.l0 lf ng (bs l) m ((e:Int)-9) (acc++[y])∧y=dv ((l.drop a).take (e-a))∧0≤y∧y < G:=by
    intro a hae
    have hd:=acj _ (hall a (e-a))
    have hlen:((l.drop a).take (e-a)).length=e-a:=by rw[List.length_take,List.length_drop];omega
    have hp:(10:Nat) ^ (e-a)≤10 ^ 9:=Nat.pow_le_pow_right (by omega) (by omega)
    rw[hlen]at hd
    refine⟨(dv ((l.drop a).take (e-a)):Int),?_,rfl,by omega,?_⟩
    ·rw[abw l _ _ a e rfl rfl (by omega) he,bdS]
     have e2:B.Atoi.f lf (bs ((l.drop a).take (e-a)))=some ((dv ((l.drop a).take (e-a)):Int),(),()):=by
      unfold B.Atoi.f
      rw[gB,if_pos (by omega),abJ (hall a (e-a)) (by intro e0;rw[e0]at hlen;simp at hlen;omega)]
      rfl
     rw[e2,bdS]
     simp only
     rw[lK 8 _ _ (by omega) (by simp;omega),bdS]
    ·simp only[G];have:(10:Nat) ^ 9=1000000000:=by decide
     omega
   by_cases h9:e≤9
   ·have hif:(if(e:Int)-9 > 0 then(e:Int)-9 else 0)=((0:Nat):Int):=by rw[if_neg (by omega)];rfl
    rw[hif]
    obtain⟨y,e1,hy,y1,y2⟩:=step 0 (by omega)
    rw[e1]
    obtain⟨k,rfl⟩:∃ k,m=k+1:=Nat.exists_eq_succ_of_ne_zero (show m≠0 by omega)
    rw[gY.l0,gY.r0,decide_eq_false (by omega),brF]
    refine⟨[y],rfl,Dg.cons ⟨y1,y2⟩ Dg.nil,?_,by simp;omega⟩
    simp only[lv,Int.mul_zero,Int.add_zero]
    rw[hy,List.drop_zero,Nat.sub_zero]
   ·have hif:(if(e:Int)-9 > 0 then(e:Int)-9 else 0)=((e-9:Nat):Int):=by rw[if_pos (by omega)];omega
    rw[hif]
    obtain⟨y,e1,hy,y1,y2⟩:=step (e-9) rfl
    rw[e1,show(e:Int)-9=((e-9:Nat):Int) by omega]
    obtain⟨r,k1,k2,k3,k4⟩:=ih (e-9) (by omega) m (acc++[y]) (by omega) (by omega) (by simp;omega)
    rw[k1]
    refine⟨y::r,by simp,Dg.cons ⟨y1,y2⟩ k2,?_,by simp;omega⟩
    rw[lv,k3,hy]
    have hsplit:l.take e=l.take (e-9)++(l.drop (e-9)).take (e-(e-9)):=by
     conv=>lhs;rw[show e=(e-9)+(e-(e-9)) by omega]
     rw[List.take_add]
    have hlen:((l.drop (e-9)).take (e-(e-9))).length=9:=by rw[List.length_take,List.length_drop];omega
    rw[hsplit,aap,hlen]
    have:(10:Nat) ^ 9=1000000000:=by decide
    rw[this]
    simp only[G]
    omega
theorem ada(lf:Nat)(l:List UInt8)(hc:can l=true)(hl:l.length≤100000)(h3:200000≤lf):
  ∃ p,gY.f lf (bs l)=some (p,())∧RN p (iv l) (nlen l)∧p.1=neg l:=by
 rw[gY.f,uS,bdS]
 simp only
 obtain⟨ha,hne,_⟩:=jP hc
 have hb:=zB l
 obtain⟨r,k1,k2,k3,k4⟩:=aev lf false (body l) ha (by omega) (body l).length (lf+40) [] (Nat.le_refl _) (by omega) (by simp;omega)
 rw[gB,k1,bdS]
 simp only[List.nil_append]
 rw[rE lf r (by omega) (by omega),bdS]
 have hlen:=kH r
 refine⟨_,rfl,⟨lU k2,nP r,by simp only;unfold nlen;omega,?_⟩,rfl⟩
 simp only
 rw[kX,k3,List.take_of_length_le (Nat.le_refl _)]
 rfl
theorem uM(lf:Nat)(l m:List UInt8)(h1:chk l=0)(h2:chk m=0)(h3:200000≤lf):
  ∃ p q,fO.f lf (bs l) (bs m)=some (p,q,0,())∧RN p (iv l) 4096∧RN q (iv m) 4096∧p.1=neg l∧q.1=neg m:=by
 have a1:=kR.1 h1
 have a2:=kR.1 h2
 have b1:=qc l
 have b2:=qc m
 obtain⟨p,e1,k1,n1⟩:=ada lf l a1.1 (by omega) h3
 obtain⟨q,e2,k2,n2⟩:=ada lf m a2.1 (by omega) h3
 rw[fO.f,nD lf l (by omega),bdS,nD lf m (by omega),h1,h2]
 simp only[bne_self_eq_false,brF,bdS,e1,e2]
 exact⟨p,q,rfl,k1.mono a1.2,k2.mono a2.2,n1,n2⟩
theorem rH(lf:Nat)(l m:List UInt8)(h1:chk l=0)(h2:chk m=0)(h3:200000≤lf):
  dR.f lf (bs l) (bs m)=some (sgn (iv l-iv m),0,()):=by
 obtain⟨p,q,e,k1,k2,_⟩:=uM lf l m h1 h2 h3
 rw[dR.f,e,bdS]
 simp only[bne_self_eq_false,brF]
 obtain⟨q',e2,k3⟩:=xJ lf k2
 rw[e2,bdS]
 obtain⟨s,e3,k4⟩:=adw lf k1 k3 (by omega) h3
 rw[e3,bdS,afA lf k4,bdS]
 simp only[Int.sub_eq_add_neg]
theorem qU(lf:Nat)(l m:List UInt8)(h1:chk l=0)(h2:chk m=0)(h3:200000≤lf):
  bZ.f lf (bs l) (bs m)=some (sgn (iv l-iv m),()):=by
 rw[bZ.f,rH lf l m h1 h2 h3,bdS]
end Go.N
namespace Go.N
open Go.IntKind (i64)
open Go Go.Q Go.Rx
theorem adF(b:UInt8)(n:Nat)(hn:n < 256):(((b.toNat:Nat):Int)==(n:Int))=decide (b=UInt8.ofNat n):=by
 by_cases h:b=UInt8.ofNat n
 ·rw[decide_eq_true h];subst h
  rw[UInt8.toNat_ofNat',Nat.mod_eq_of_lt (by omega)];simp
 ·rw[decide_eq_false h,beq_eq_false_iff_ne]
  intro e;apply h;apply UInt8.toNat_inj.1
  rw[UInt8.toNat_ofNat',Nat.mod_eq_of_lt (by omega)];omega
theorem abD(b:UInt8):(((b.toNat:Nat):Int)==45)=decide (b=45):=adF b 45 (by omega)
theorem ae4(b:UInt8):(((b.toNat:Nat):Int)==48)=decide (b=48):=adF b 48 (by omega)
theorem aaZ(lf:Nat)(l:List UInt8)(hl:l.length≤9223372036854775807):∀ (k n i:Nat),i+k=l.length→k < n→
  dH.l0 lf (bs l) n (i:Nat)=some (!(l.drop i).all isDig,(),(),()):=by
 intro k
 induction k with
 | zero =>
  intro n i hi hn
  obtain⟨m,rfl⟩:=Nat.exists_eq_succ_of_ne_zero (show n≠0 by omega)
  rw[dH.l0,dH.r0,gB,decide_eq_false (by omega),brF,List.drop_of_length_le (by omega)]
  rfl
 | succ k ih =>
  intro n i hi hn
  obtain⟨m,rfl⟩:=Nat.exists_eq_succ_of_ne_zero (show n≠0 by omega)
  have hlt:i < l.length:=by omega
  rw[dH.l0,dH.r0,gB,decide_eq_true (by omega),brT,oM l _ i rfl hlt,bdS,bdS]
  rw[List.drop_eq_getElem_cons hlt,List.all_cons]
  by_cases h1:l[i].toNat < 48
  ·rw[decide_eq_true (by omega),brT]
   have:isDig l[i]=false:=by unfold isDig;apply decide_eq_false;omega
   rw[this];rfl
  ·rw[decide_eq_false (by omega),brF]
   by_cases h2:l[i].toNat > 57
   ·rw[decide_eq_true (by omega),brT]
    have:isDig l[i]=false:=by unfold isDig;apply decide_eq_false;omega
    rw[this];rfl
   ·rw[decide_eq_false (by omega),brF,w64 (by omega) (by omega),show((i:Nat):Int)+1=((i+1:Nat):Int) by omega]
    have:isDig l[i]=true:=by unfold isDig;apply decide_eq_true;omega
    rw[this,Bool.true_and]
    exact ih m (i+1) (by omega) (by omega)
theorem acu(lf:Nat)(l:List UInt8)(hl:l.length≤9223372036854775807)(hf:l.length≤lf):dH.f lf (bs l)=some (can l,()):=by
 rw[dH.f]
 rw[show(⟨#[48]⟩:ByteArray)=bs [48] from rfl,kY,gB]
 unfold can
 by_cases h48:l=[48]
 ·rw[decide_eq_true h48,brT];rfl
 ·rw[decide_eq_false h48,brF,Bool.false_or]
  cases l with
  | nil =>
   rw[decide_eq_false (by simp),brF]
   simp[brT,body]
  | cons b r =>
   rw[decide_eq_true (by rw[List.length_cons];omega),brT,oM (b::r) 0 0 rfl (by simp),bdS]
   simp only[List.getElem_cons_zero]
   rw[abD]
   by_cases h45:b=45
   ·rw[decide_eq_true h45,brT]
    have hb:body (b::r)=r:=by unfold body;rw[if_pos (by simp[h45])];rfl
    rw[hb]
    cases r with
    | nil =>
     have:((1:Int)==(([b].length:Nat):Int))=true:=by simp
     rw[this,brT];simp
    | cons d s =>
     have:((1:Int)==(((b::d::s).length:Nat):Int))=false:=by
      rw[beq_eq_false_iff_ne];simp only[List.length_cons];omega
     rw[this,brF,oM (b::d::s) 1 1 rfl (by simp),bdS]
     simp only[List.getElem_cons_succ,List.getElem_cons_zero]
     rw[ae4]
     by_cases hd:d=48
     ·rw[decide_eq_true hd,brT];simp[hd]
     ·rw[decide_eq_false hd,brF]
      have:=aaZ lf (b::d::s) hl (d::s).length (lf+40) 1 (by simp only[List.length_cons];omega) (by simp only[List.length_cons]at hf⊢;omega)
      rw[show((1:Nat):Int)=1 from rfl]at this
      rw[this,bdS]
      simp only[List.drop_succ_cons,List.drop_zero]
      cases (d::s).all isDig<;>simp[brT,brF,hd]
   ·rw[decide_eq_false h45,brF]
    have hb:body (b::r)=b::r:=by unfold body;rw[if_neg (by simp[h45])]
    rw[hb]
    have:((0:Int)==(((b::r).length:Nat):Int))=false:=by
     rw[beq_eq_false_iff_ne];simp only[List.length_cons];omega
    rw[this,brF,bdS]
    rw[ae4]
    by_cases hd:b=48
    ·rw[decide_eq_true hd,brT];simp[hd]
    ·rw[decide_eq_false hd,brF]
     have:=aaZ lf (b::r) hl (b::r).length (lf+40) 0 (by omega) (by omega)
     rw[show((0:Nat):Int)=0 from rfl]at this
     rw[this,bdS]
     simp only[List.drop_zero]
     cases (b::r).all isDig<;>simp[brT,brF,hd]
theorem jd(lf:Nat)(l:List UInt8)(h:l≠[]):aA.f lf (bs l)=some (neg l,()):=by
 cases l with
 | nil=>exact absurd rfl h
 | cons b r =>
  rw[aA.f,oM (b::r) 0 0 rfl (by simp),bdS]
  simp only[List.getElem_cons_zero]
  rw[abD]
  unfold neg
  simp
theorem mZ(lf:Nat)(l:List UInt8)(h:l≠[])(hl:l.length≤9223372036854775807):aF.f lf (bs l)=some ((nlen l:Int),()):=by
 rw[aF.f,jd lf l h,bdS]
 simp only
 unfold nlen body neg
 rw[gB]
 by_cases h45:l.head? = some 45
 ·rw[decide_eq_true h45,brT,if_pos h45,List.length_tail]
  have:l.length≠0:=fun e=>h (List.length_eq_zero_iff.1 e)
  rw[w64 (by omega) (by omega)]
  congr 2;omega
 ·rw[decide_eq_false h45,brF,if_neg h45]
theorem ac9(lf:Nat)(l:List UInt8)(hl:l.length≤9223372036854775807)(hf:l.length≤lf):jC.f lf (bs l)=some (chk l,()):=by
 rw[jC.f,acu lf l hl hf,bdS]
 simp only
 unfold chk
 cases hc:can l with
 | false=>simp[brT]
 | true =>
  simp only[Bool.not_true,brF,if_true]
  rw[mZ lf l (jP hc).2.2 hl,bdS]
  simp only
  by_cases h:nlen l > 4096
  ·rw[decide_eq_true (by omega),brT,if_pos h]
  ·rw[decide_eq_false (by omega),brF,if_neg h]
theorem xO(lf:Nat)(l:List UInt8)(hl:l.length≤9223372036854775807)(hf:l.length≤lf):eu.f lf (bs l)=some (num l,()):=by
 rw[eu.f,ac9 lf l hl hf,bdS]
 simp only
 unfold num
 by_cases h:chk l=0
 ·rw[h]
  simp only[bne_self_eq_false,brF,ne_eq,not_true,if_false]
  rw[mZ lf l (jP (kR.1 h).1).2.2 hl,bdS]
  simp only
  by_cases h':nlen l > 100
  ·rw[decide_eq_true (by omega),brT,if_pos h']
  ·rw[decide_eq_false (by omega),brF,if_neg h']
 ·have:(chk l != 0)=true:=by simpa using h
  rw[this,brT,if_pos h]
theorem vz{l:List UInt8}(h:can l=true):iv l=0↔l=[48]:=by
 constructor
 ·intro e;exact aft h (by decide) (by rw[e];decide)
 ·rintro rfl;decide
theorem yG{l:List UInt8}(h:can l=true):iv l < 0↔neg l=true:=by
 constructor
 ·intro e
  unfold iv at e
  by_cases hn:neg l=true
  ·exact hn
  ·rw[if_neg hn]at e;omega
 ·intro hn
  have h0:iv l≠0:=by
   intro e
   have:=(vz h).1 e
   subst this
   cases hn
  unfold iv at h0⊢
  rw[if_pos hn]at h0⊢
  omega
theorem uo(lf:Nat)(l:List UInt8)(h:can l=true):eP.f lf (bs l)=some (sgn (iv l),()):=by
 rw[eP.f,show(⟨#[48]⟩:ByteArray)=bs [48] from rfl,kY]
 by_cases h48:l=[48]
 ·rw[decide_eq_true h48,brT]
  subst h48;rfl
 ·have h0:iv l≠0:=fun e=>h48 ((vz h).1 e)
  rw[decide_eq_false h48,brF,jd lf l (jP h).2.2,bdS]
  simp only
  cases hn:neg l with
  | true =>
   have:=(yG h).2 hn
   rw[brT,sgn,if_pos this]
  | false =>
   have:¬iv l < 0:=fun e=>by have:=(yG h).1 e;rw[hn]at this;cases this
   rw[brF,sgn,if_neg this,if_neg h0]
def ld(l:List UInt8):List Int:=l.reverse.map fun b=>(dig b:Int)
theorem yJ(l:List UInt8):(ld l).length=l.length:=by simp[ld]
theorem acO{l:List UInt8}(h:l.all isDig=true):Dg 10 (ld l):=by
 intro y hy
 unfold ld at hy
 obtain⟨b,hb,rfl⟩:=List.mem_map.1 hy
 have:=yC (List.all_eq_true.1 h b (by simpa using hb))
 omega
theorem aa7(l:List UInt8):lv 10 (ld l)=dv l:=by
 refine uq (p:=fun l=>lv 10 (ld l)=dv l) l rfl fun l b ih=>?_
 have:ld (l++[b])=(dig b:Int)::ld l:=by simp[ld]
 rw[this,lv,ih,qE]
 omega
theorem abO(lf:Nat)(l:List UInt8)(ng:Bool)(hall:(body l).all isDig=true)(hl:l.length≤1000000):∀ (k n:Nat) (acc:List Int),k≤l.length→k < n→acc.length+k≤1000000→
  aQ.l0 lf (bs l) n ((k:Nat)-1:Int) acc=some ((acc++ld (if neg l=true then(l.take k).tail else l.take k),()),()):=by
 intro k
 induction k with
 | zero =>
  intro n acc hk hn hacc
  obtain⟨m,rfl⟩:=Nat.exists_eq_succ_of_ne_zero (show n≠0 by omega)
  rw[aQ.l0,aQ.r0,decide_eq_false (by omega),brF]
  simp[ld]
 | succ k ih =>
  intro n acc hk hn hacc
  obtain⟨m,rfl⟩:=Nat.exists_eq_succ_of_ne_zero (show n≠0 by omega)
  have hlt:k < l.length:=by omega
  rw[aQ.l0,aQ.r0,decide_eq_true (by omega),brT,oM l _ k (by omega) hlt,bdS,bdS]
  have hne:((((l[k]).toNat:Nat):Int) != 45)=!decide (l[k]=45):=by rw[bne,abD]
  rw[hne,List.take_succ_eq_append_getElem hlt]
  by_cases h45:l[k]=45
  ·-- the sign
   rw[decide_eq_true h45]
   simp only[Bool.not_true,brF]
   have hk0:k=0:=by
    by_cases hz:k=0
    ·exact hz
    ·exfalso
     have hmem:l[k]∈body l:=by
      unfold body
      split
      ·rw[List.mem_iff_getElem]
       exact⟨k-1,by rw[List.length_tail];omega,by rw[List.getElem_tail];congr 1;omega⟩
      ·exact List.getElem_mem hlt
     have:=List.all_eq_true.1 hall _ hmem
     rw[h45]at this
     cases this
   subst hk0
   have hneg:neg l=true:=by
    unfold neg;apply decide_eq_true
    rw[List.head?_eq_getElem?,List.getElem?_eq_getElem hlt,h45]
   rw[if_pos hneg]
   simp[ld]
  ·rw[decide_eq_false h45]
   simp only[Bool.not_false,brT]
   have hmem:isDig l[k]=true:=by
    by_cases hz:k=0∧l.head? = some 45
    ·exfalso
     obtain⟨rfl,hz⟩:=hz
     rw[List.head?_eq_getElem?,List.getElem?_eq_getElem hlt]at hz
     exact h45 (Option.some.inj hz)
    ·have hm:l[k]∈body l:=by
      unfold body
      split
      ·rename_i hh
       have:k≠0:=fun e=>hz ⟨e,hh⟩
       rw[List.mem_iff_getElem]
       exact⟨k-1,by rw[List.length_tail];omega,by rw[List.getElem_tail];congr 1;omega⟩
      ·exact List.getElem_mem hlt
     exact List.all_eq_true.1 hall _ hm
   have hd:=hmem
   unfold isDig at hd
   simp only[decide_eq_true_eq]at hd
   rw[w8 (by omega) (by omega),w64 (by omega) (by omega),lK 8 _ _ (by omega) (by simp;omega),bdS,w64 (by omega) (by omega)]
   rw[show((k+1:Nat):Int)-1-1=((k:Nat):Int)-1 by omega]
   rw[ih m _ (by omega) (by omega) (by simp;omega)]
   have hdig:(((l[k]).toNat:Nat):Int)-48=(dig l[k]:Int):=by unfold dig;omega
   rw[hdig]
   congr 3
   have hld:∀ (t:List UInt8) (b:UInt8),ld (t++[b])=(dig b:Int)::ld t:=by intro t b;simp[ld]
   by_cases hneg:neg l=true
   ·rw[if_pos hneg,if_pos hneg]
    have hk0:k≠0:=by
     rintro rfl
     unfold neg at hneg
     simp only[decide_eq_true_eq]at hneg
     rw[List.head?_eq_getElem?,List.getElem?_eq_getElem hlt]at hneg
     exact h45 (Option.some.inj hneg)
    have ht:(l.take k++[l[k]]).tail=(l.take k).tail++[l[k]]:=by
     rw[List.tail_append_of_ne_nil]
     intro e
     have h0:=congrArg List.length e
     rw[List.length_take,List.length_nil]at h0
     omega
    rw[ht,hld];simp
   ·rw[if_neg hneg,if_neg hneg,hld];simp
theorem lV(lf:Nat)(l:List UInt8)(h:can l=true)(hl:l.length≤100000)(h3:200000≤lf):aQ.f lf (bs l)=some (ld (body l),()):=by
 rw[aQ.f,gB,w64 (by omega) (by omega)]
 rw[abO lf l true (jP h).1 (by omega) l.length (lf+40) [] (Nat.le_refl _) (by omega) (by simp;omega),bdS]
 simp only[List.nil_append,List.take_length]
 congr 2
 unfold body neg
 by_cases h45:l.head? = some 45
 ·rw[if_pos h45,if_pos (decide_eq_true h45)]
 ·rw[if_neg h45,if_neg (by rw[decide_eq_false h45];simp)]
theorem afh(lf:Nat)(l:List Int)(hl:l.length≤1000000):∀ (k n:Nat),k≤l.length→k < n→
  ∃ j:Nat,aH.l0 lf l n (k:Nat)=some (((j:Int),()),())∧j≤k∧l.take j=tr (l.take k):=by
 intro k
 induction k with
 | zero =>
  intro n hk hn
  obtain⟨m,rfl⟩:=Nat.exists_eq_succ_of_ne_zero (show n≠0 by omega)
  rw[aH.l0,aH.r0,decide_eq_false (by omega),brF]
  exact⟨0,rfl,Nat.le_refl _,by simp[zf]⟩
 | succ k ih =>
  intro n hk hn
  obtain⟨m,rfl⟩:=Nat.exists_eq_succ_of_ne_zero (show n≠0 by omega)
  have hlt:k < l.length:=by omega
  have e:i64.wrap (((k+1:Nat):Int)-1)=(k:Nat):=by rw[w64 (by omega) (by omega)];omega
  rw[aH.l0,aH.r0,decide_eq_true (by omega),brT,e,dV _ _ hlt,bdS,List.take_succ_eq_append_getElem hlt]
  by_cases h:l[k]=0
  ·have:(l[k]==0)=true:=by simp[h]
   rw[this,brT,h,nN]
   obtain⟨j,e1,e2,e3⟩:=ih m (by omega) (by omega)
   exact⟨j,e1,by omega,e3⟩
  ·have:(l[k]==0)=false:=by simp[h]
   rw[this,brF,pO _ _ h]
   exact⟨k+1,rfl,Nat.le_refl _,by rw[List.take_succ_eq_append_getElem hlt]⟩
theorem pJ(lf:Nat)(l:List Int)(hl:l.length≤100000)(h3:200000≤lf):aH.f lf l=some (tr l,()):=by
 obtain⟨j,e1,e2,e3⟩:=afh lf l (by omega) l.length (lf+40) (Nat.le_refl _) (by omega)
 rw[aH.f,e1,bdS]
 simp only
 rw[aaR _ _ j rfl e2,bdS,e3,List.take_length]
theorem abY(lf:Nat)(xs ys:List Int)(hx:Dg 10 xs)(hy:Dg 10 ys)(hl:xs.length=ys.length)(hb:xs.length≤1000000):∀ (i n:Nat) (hi:i≤xs.length),i < n→
  ∃ b v,bP.l0 lf xs ys n ((i:Nat)-1:Int)=some (b,(v,()),(),())∧(if b=true then v else 0)=sgn (lv 10 (xs.take i)-lv 10 (ys.take i)):=by
 intro i
 induction i with
 | zero =>
  intro n hi hn
  obtain⟨m,rfl⟩:=Nat.exists_eq_succ_of_ne_zero (show n≠0 by omega)
  refine⟨false,0,?_,by simp[sgn,lv]⟩
  rw[bP.l0,bP.r0,decide_eq_false (by omega),brF]
 | succ i ih =>
  intro n hi hn
  obtain⟨m,rfl⟩:=Nat.exists_eq_succ_of_ne_zero (show n≠0 by omega)
  have e:((i+1:Nat):Int)-1=(i:Nat):=by omega
  rw[bP.l0,bP.r0,decide_eq_true (by omega),brT,qR xs _ i e (by omega),bdS,qR ys _ i e (by omega),bdS]
  by_cases h:xs[i]=ys[i]'(by omega)
  ·have hne:(xs[i] != ys[i]'(by omega))=false:=by simp[h]
   rw[hne,brF,w64 (by omega) (by omega),e]
   obtain⟨b,v,h1,h2⟩:=ih m (by omega) (by omega)
   refine⟨b,v,h1,?_⟩
   rw[mD 10 xs i (by omega),mD 10 ys i (by omega),h]
   rwa [show lv 10 (xs.take i)+10 ^ i*ys[i]-(lv 10 (ys.take i)+10 ^ i*ys[i])=lv 10 (xs.take i)-lv 10 (ys.take i) by omega]
  ·have hne:(xs[i] != ys[i]'(by omega))=true:=by simp[h]
   rw[hne,brT,bdS,bdS]
   rcases Int.lt_or_lt_of_ne h with hlt | hlt
   ·have:=vM (B:=10) (by decide) hx hy i (by omega) (by omega) hlt
    rw[decide_eq_true hlt,brT]
    exact⟨true,_,rfl,by rw[if_pos rfl,sgn,if_pos (by omega)]⟩
   ·have:=vM (B:=10) (by decide) hy hx i (by omega) (by omega) hlt
    rw[decide_eq_false (by omega),brF]
    exact⟨true,_,rfl,by rw[if_pos rfl,sgn,if_neg (by omega),if_neg (by omega)]⟩
theorem uf(lf:Nat)(xs ys:List Int)(hx:Dg 10 xs)(hy:Dg 10 ys)(t1:Tr xs)(t2:Tr ys)(h1:xs.length≤100000)(h2:ys.length≤100000)(h3:200000≤lf):
  bP.f lf xs ys=some (sgn (lv 10 xs-lv 10 ys),()):=by
 rw[bP.f]
 by_cases h:xs.length=ys.length
 ·have hne:(((xs.length:Nat):Int) !=((ys.length:Nat):Int))=false:=by simp[h]
  rw[hne,brF,w64 (by omega) (by omega)]
  obtain⟨b,v,k1,k2⟩:=abY lf xs ys hx hy h (by omega) xs.length (lf+40) (Nat.le_refl _) (by omega)
  rw[List.take_of_length_le (Nat.le_refl _),List.take_of_length_le (by omega)]at k2
  rw[k1,bdS,←k2]
  cases b with
  | true=>simp only[brT];simp
  | false=>simp only[brF];simp
 ·have hne:(((xs.length:Nat):Int) !=((ys.length:Nat):Int))=true:=by
   simp only[bne_iff_ne,ne_eq];omega
  rw[hne,brT]
  rcases Nat.lt_or_gt_of_ne h with hlt | hlt
  ·have:=mr (B:=10) (by decide) hx hy t2 hlt
   rw[decide_eq_true (by omega),brT,sgn,if_pos (by omega)]
  ·have:=mr (B:=10) (by decide) hy hx t1 hlt
   rw[decide_eq_false (by omega),brF,sgn,if_neg (by omega),if_neg (by omega)]
theorem rY(z:Int):sgn (-z)= -sgn z:=by unfold sgn;(repeat' split)<;>omega
theorem vJ{z:Int}(h:0 < z):sgn z=1:=by unfold sgn;rw[if_neg (by omega),if_neg (by omega)]
theorem abV(lf:Nat)(l m:List UInt8)(h1:can l=true)(h2:can m=true)(l1:l.length≤100000)(l2:m.length≤100000)(h3:200000≤lf):
  jE.f lf (bs l) (bs m)=some (sgn (iv l-iv m),()):=by
 rw[jE.f,uo lf l h1,bdS,uo lf m h2,bdS]
 simp only
 by_cases hs:sgn (iv l)=sgn (iv m)
 ·have hne:(sgn (iv l) != sgn (iv m))=false:=by simp[hs]
  rw[hne,brF,lV lf l h1 l1 h3,bdS]
  have b1:(body l).length≤l.length:=vC l
  have b2:(body m).length≤m.length:=vC m
  rw[pJ lf _ (by rw[yJ];omega) h3,bdS,lV lf m h2 l2 h3,bdS,pJ lf _ (by rw[yJ];omega) h3,bdS]
  have c1:=kH (ld (body l))
  have c2:=kH (ld (body m))
  rw[yJ]at c1 c2
  rw[uf lf _ _ (lU (acO (jP h1).1)) (lU (acO (jP h2).1)) (nP _) (nP _) (by omega) (by omega) h3,bdS]
  simp only
  rw[kX,kX,aa7,aa7]
  have hw:∀ a b:Int,-1≤a→a≤1→-1≤b→b≤1→i64.wrap (a*b)=a*b:=by
   intro a b a1 a2 b1 b2
   have:a= -1∨a=0∨a=1:=by omega
   have:b= -1∨b=0∨b=1:=by omega
   apply w64
   ·rcases ‹a= -1∨a=0∨a=1› with rfl | rfl | rfl<;>omega
   ·rcases ‹a= -1∨a=0∨a=1› with rfl | rfl | rfl<;>omega
  have hr:∀ z:Int,-1≤sgn z∧sgn z≤1:=by intro z;unfold sgn;split<;>(try split)<;>omega
  rw[hw _ _ (hr _).1 (hr _).2 (hr _).1 (hr _).2]
  congr 2
  unfold iv at hs⊢
  generalize neg l=nl at hs⊢
  generalize neg m=nm at hs⊢
  generalize dv (body l)=x at hs⊢
  generalize dv (body m)=y at hs⊢
  clear hne hr hw
  have s0:sgn 0=0:=rfl
  rcases Nat.eq_zero_or_pos x with hx | hx<;>rcases Nat.eq_zero_or_pos y with hy | hy
  ·subst hx;subst hy;cases nl<;>cases nm<;>rfl
  ·subst hx
   have p2:=vJ (show(0:Int) < (y:Int) by omega)
   cases nl<;>cases nm<;>simp[rY,p2,s0]at hs
  ·subst hy
   have p2:=vJ (show(0:Int) < (x:Int) by omega)
   cases nl<;>cases nm<;>simp[rY,p2,s0]at hs
  ·have p1:=vJ (show(0:Int) < (x:Int) by omega)
   have p2:=vJ (show(0:Int) < (y:Int) by omega)
   cases nl<;>cases nm
   ·simp[p1]
   ·simp[rY,p1,p2]at hs
   ·simp[rY,p1,p2]at hs
   ·simp only[if_true,rY,p1]
    rw[show -(x:Int) - -(y:Int)= -((x:Int)-(y:Int)) by omega,rY]
    omega
 ·have hne:(sgn (iv l) != sgn (iv m))=true:=by simp[hs]
  rw[hne,brT]
  unfold sgn at hs⊢
  by_cases h:sgn (iv l) < sgn (iv m)
  ·unfold sgn at h
   rw[decide_eq_true h,brT]
   congr 2
   repeat' split at h
   all_goals (try omega)
   all_goals (repeat' split)
   all_goals omega
  ·unfold sgn at h
   rw[decide_eq_false h,brF]
   congr 2
   repeat' split at h
   all_goals (try omega)
   all_goals (repeat' split)
   all_goals omega
theorem aav(lf:Nat)(l m:List UInt8)(h1:can l=true)(h2:can m=true)(l1:l.length≤100000)(l2:m.length≤100000)(h3:200000≤lf):
  aW.f lf (bs l) (bs m)=some (decide (iv l < iv m),()):=by
 rw[aW.f,abV lf l m h1 h2 l1 l2 h3,bdS]
 congr 2
 simp only[decide_eq_decide]
 unfold sgn
 split
 ·omega
 ·split<;>omega
end Go.N
namespace Go.N
open Go Go.Q Go.Rx
set_option exponentiation.threshold 5000
def sz(z:Int):Nat:=nlen (Lib.itoa z)
theorem uw(z:Int):body (Lib.itoa z)=Lib.decDigits z.natAbs:=by
 unfold body Lib.itoa
 by_cases h:z < 0
 ·rw[if_pos h];simp
 ·rw[if_neg h,if_neg (pW _)]
  congr 1;omega
theorem ae3(z:Int)(k:Nat)(hk:0 < k):sz z≤k↔z.natAbs < 10 ^ k:=by
 unfold sz nlen
 rw[uw]
 constructor
 ·intro h
  have:=acj _ (rJ z.natAbs)
  rw[vU]at this
  exact Nat.lt_of_lt_of_le this (Nat.pow_le_pow_right (by omega) h)
 ·intro h
  obtain⟨j,rfl⟩:=Nat.exists_eq_succ_of_ne_zero (show k≠0 by omega)
  exact lg j _ h
@[irreducible] def K : Int := ((10 ^ 4096 : Nat) : Int)
@[irreducible] def C : Int := ((10 ^ 100 : Nat) : Int)
theorem sz_K(z:Int):sz z≤4096↔-K < z∧z < K:=by
 rw[ae3 z 4096 (by omega)]
 unfold K
 generalize 10 ^ 4096=n
 omega
theorem sz_C(z:Int):sz z≤100↔-C < z∧z < C:=by
 rw[ae3 z 100 (by omega)]
 unfold C
 generalize 10 ^ 100=n
 omega
theorem gJ:C < K:=by
 unfold C K
 have:(10:Nat) ^ 100 < 10 ^ 4096:=Nat.pow_lt_pow_right (by omega) (by omega)
 exact Int.ofNat_lt.2 this
theorem C_gt:1000000 < C:=by
 unfold C
 have:(1000000:Nat) < 10 ^ 100:=by decide +kernel
 omega
theorem K_gt:1000000 < K:=Int.lt_trans C_gt gJ
theorem zS(z:Int)(h:sz z≤4096):(Lib.itoa z).length≤4097:=by
 have:=qc (Lib.itoa z)
 unfold sz at h
 omega
theorem mP(z:Int):chk (Lib.itoa z)=0↔-K < z∧z < K:=by
 rw[kR,←sz_K]
 exact⟨fun h=>h.2,fun h=>⟨jh z,h⟩⟩
theorem qf(z:Int):num (Lib.itoa z)=0↔-C < z∧z < C:=by
 rw[mW,←sz_C]
 exact⟨fun h=>h.2,fun h=>⟨jh z,h⟩⟩
theorem jW(z:Int):Lib.itoa z≠[]:=(jP (jh z)).2.2
theorem mQ{x y:Int}(h:Lib.itoa x=Lib.itoa y):x=y:=by rw[←dm x,←dm y,h]
inductive X where
 | ni
 | fin (z:Int)
 | pi
deriving DecidableEq
abbrev EB:Type:=Int×(ByteArray×Unit)
abbrev IV:Type:=Bool×(ByteArray×(ByteArray×Unit))
def xc:X→EB
 | .ni=>(-1,bs [],())
 | .fin z=>(0,bs (Lib.itoa z),())
 | .pi=>(1,bs [],())
def key:X→Int
 | .ni=> -K
 | .fin z=>z
 | .pi=>K
def okx(k:Int):X→Prop
 | .fin z=> -k < z∧z < k
 | _=>True
theorem okx.mono{k k':Int}(h:k≤k'){x:X}(hx:okx k x):okx k' x:=by cases x<;>simp_all [okx];omega
theorem qV{x:X}(h:okx K x): -K≤key x∧key x≤K:=by
 have:=K_gt
 cases x<;>simp only[okx,key]at*<;> omega
theorem key_inj{x y:X}(hx:okx K x)(hy:okx K y)(h:key x=key y):x=y:=by
 have:=K_gt
 cases x<;>cases y<;>simp only[okx,key,X.fin.injEq,reduceCtorEq]at*<;> omega
theorem xk(lf:Nat)(h3:200000≤lf){x y:X}(hx:okx K x)(hy:okx K y):∃ c,dG.f lf (xc x) (xc y)=some (c,())∧Sg c (key x-key y):=by
 have hK:=K_gt
 rw[dG.f]
 cases x with
 | ni=>cases y with
  | ni=>exact⟨0,(brT _ _).trans rfl,by simp[Sg,key]⟩
  | fin z=>exact⟨-1,(brT _ _).trans rfl,by simp only[okx,key,Sg]at *;omega⟩
  | pi=>exact⟨-2,(brT _ _).trans rfl,by simp only[okx,key,Sg]at *;omega⟩
 | pi=>cases y with
  | ni=>exact⟨2,(brT _ _).trans rfl,by simp only[okx,key,Sg]at *;omega⟩
  | fin z=>exact⟨1,(brT _ _).trans rfl,by simp only[okx,key,Sg]at *;omega⟩
  | pi=>exact⟨0,(brT _ _).trans rfl,by simp[Sg,key]⟩
 | fin z=>cases y with
  | ni=>exact⟨1,(brF _ _).trans ((brT _ _).trans rfl),by simp only[okx,key,Sg]at *;omega⟩
  | pi=>exact⟨-1,(brF _ _).trans ((brT _ _).trans rfl),by simp only[okx,key,Sg]at *;omega⟩
  | fin u =>
   refine⟨sgn (z-u),?_,?_⟩
   ·simp only[xc,bne_self_eq_false,brF]
    rw[qU lf _ _ ((mP z).2 hx) ((mP u).2 hy) h3,bdS,dm,dm]
   ·simp only[key,Sg,sgn];constructor<;>(repeat' split)<;>omega
def xmin(x y:X):X:=if key y < key x then y else x
def xmax(x y:X):X:=if key y > key x then y else x
theorem zo{k:Int}{x y:X}(hx:okx k x)(hy:okx k y):okx k (xmin x y):=by unfold xmin;split<;>assumption
theorem abG{k:Int}{x y:X}(hx:okx k x)(hy:okx k y):okx k (xmax x y):=by unfold xmax;split<;>assumption
theorem nZ(x y:X):key (xmin x y)=min (key x) (key y):=by unfold xmin;split<;>omega
theorem nY(x y:X):key (xmax x y)=max (key x) (key y):=by unfold xmax;split<;>omega
theorem yK(lf:Nat)(h3:200000≤lf){x y:X}(hx:okx K x)(hy:okx K y):gQ.f lf (xc x) (xc y)=some (xc (xmin x y),()):=by
 obtain⟨c,e,s1,s2⟩:=xk lf h3 hy hx
 rw[gQ.f,e,bdS]
 unfold xmin
 by_cases h:key y < key x
 ·rw[decide_eq_true (by omega),brT,if_pos h]
 ·rw[decide_eq_false (by omega),brF,if_neg h]
theorem acU(lf:Nat)(h3:200000≤lf){x y:X}(hx:okx K x)(hy:okx K y):kG.f lf (xc x) (xc y)=some (xc (xmax x y),()):=by
 obtain⟨c,e,s1,s2⟩:=xk lf h3 hy hx
 rw[kG.f,e,bdS]
 unfold xmax
 by_cases h:key y > key x
 ·rw[decide_eq_true (by omega),brT,if_pos h]
 ·rw[decide_eq_false (by omega),brF,if_neg h]
structure Sp where
 lo:X
 hi:X
deriving DecidableEq
def sc(s:Sp):EB×(EB×Unit):=(xc s.lo,xc s.hi,())
def oks(k:Int)(s:Sp):Prop:=okx k s.lo∧okx k s.hi
theorem oks.mono{k k':Int}(h:k≤k'){s:Sp}(hs:oks k s):oks k' s:=⟨hs.1.mono h,hs.2.mono h⟩
def emp(s:Sp):Bool:=decide (key s.lo > key s.hi)
theorem lm(lf:Nat)(h3:200000≤lf){s:Sp}(hs:oks K s):ak.f lf (sc s)=some (emp s,()):=by
 obtain⟨c,e,s1,s2⟩:=xk lf h3 hs.1 hs.2
 rw[ak.f]
 simp only[sc]
 rw[e,bdS]
 unfold emp
 congr 2
 simp only[decide_eq_decide];omega
def non:Sp:=⟨.pi,.ni⟩
theorem sO(lf:Nat):aB.f lf=some (sc non,()):=by
 rw[aB.f,bC.f,bdS,bC.f,bdS];rfl
theorem je{k:Int}:oks k non:=⟨trivial,trivial⟩
theorem lM:emp non=true:=by
 have:=K_gt
 show decide (K > -K)=true
 exact decide_eq_true (by omega)
def hull(s t:Sp):Sp:=if emp s=true then t else if emp t=true then s else⟨xmin s.lo t.lo,xmax s.hi t.hi⟩
theorem gU{k:Int}{s t:Sp}(hs:oks k s)(ht:oks k t):oks k (hull s t):=by
 unfold hull;split
 ·exact ht
 ·split
  ·exact hs
  ·exact⟨zo hs.1 ht.1,abG hs.2 ht.2⟩
theorem kT(lf:Nat)(h3:200000≤lf){s t:Sp}(hs:oks K s)(ht:oks K t):ah.f lf (sc s) (sc t)=some (sc (hull s t),()):=by
 rw[ah.f,lm lf h3 hs,bdS,lm lf h3 ht]
 unfold hull
 cases emp s with
 | true=>rw[brT,if_pos rfl]
 | false =>
  rw[brF,bdS,if_neg (by simp)]
  cases emp t with
  | true=>rw[brT,if_pos rfl]
  | false =>
   rw[brF,if_neg (by simp)]
   simp only[sc]
   rw[yK lf h3 hs.1 ht.1,bdS,acU lf h3 hs.2 ht.2,bdS]
def common(s t:Sp):Sp:=⟨xmax s.lo t.lo,xmin s.hi t.hi⟩
theorem uD{k:Int}{s t:Sp}(hs:oks k s)(ht:oks k t):oks k (common s t):=⟨abG hs.1 ht.1,zo hs.2 ht.2⟩
theorem ace(lf:Nat)(h3:200000≤lf){s t:Sp}(hs:oks K s)(ht:oks K t):jl.f lf (sc s) (sc t)=some (sc (common s t),()):=by
 rw[jl.f]
 simp only[sc]
 rw[acU lf h3 hs.1 ht.1,bdS,yK lf h3 hs.2 ht.2,bdS]
 rfl
def ob:Option Int→ByteArray
 | none=>bs []
 | some z=>bs (Lib.itoa z)
theorem acZ{x y:Option Int}(h:ob x=ob y):x=y:=by
 cases x with
 | none=>cases y with
  | none=>rfl
  | some v=>exact absurd (uy h).symm (jW v)
 | some u=>cases y with
  | none=>exact absurd (uy h) (jW u)
  | some v=>rw[mQ (uy h)]
structure A where
 em:Bool
 lo:Option Int
 hi:Option Int
deriving DecidableEq
def ac(a:A):IV:=(a.em,ob a.lo,ob a.hi,())
theorem ae8{a b:A}(h:ac a=ac b):a=b:=by
 obtain⟨e,l,m⟩:=a
 obtain⟨e',l',m'⟩:=b
 simp only[ac,Prod.mk.injEq]at h
 obtain⟨rfl,h1,h2,_⟩:=h
 rw[acZ h1,acZ h2]
def okb(k:Int):Option Int→Prop
 | none=>True
 | some z=> -k < z∧z < k
def le? : Option Int→Option Int→Prop
 | some x,some y=>x≤y
 | _,_=>True
structure Wf(a:A):Prop where
 em:a.em=true→a.lo=none∧a.hi=none
 lo:okb C a.lo
 hi:okb C a.hi
 le:le? a.lo a.hi
def lox:Option Int→X
 | none=>.ni
 | some z=>.fin z
def hix:Option Int→X
 | none=>.pi
 | some z=>.fin z
def ofA(a:A):Sp:=if a.em=true then non else⟨lox a.lo,hix a.hi⟩
theorem aeo{k:Int}{x:Option Int}(h:okb k x):okx k (lox x):=by cases x<;>simp_all [okb,lox,okx]
theorem aen{k:Int}{x:Option Int}(h:okb k x):okx k (hix x):=by cases x<;>simp_all [okb,hix,okx]
theorem afv{k:Int}{a:A}(h1:okb k a.lo)(h2:okb k a.hi):oks k (ofA a):=by
 unfold ofA;split
 ·exact je
 ·exact⟨aeo h1,aen h2⟩
theorem uK(x:Option Int):((ob x).toList==(⟨#[]⟩:ByteArray).toList)=decide (x=none):=by
 cases x with
 | none=>rw[ob,show(⟨#[]⟩:ByteArray)=bs [] from rfl,kY];simp
 | some z =>
  rw[ob,show(⟨#[]⟩:ByteArray)=bs [] from rfl,kY,decide_eq_false (jW z)]
  simp
theorem of_f(lf:Nat)(a:A):bF.f lf (ac a)=some (sc (ofA a),()):=by
 obtain⟨em,lo,hi⟩:=a
 rw[bF.f]
 simp only[ac,ofA]
 cases em with
 | true=>rw[brT,sO,bdS];rfl
 | false =>
  simp only[brF,bC.f,aT.f,bdS,uK]
  cases lo<;>cases hi<;>simp[brT,brF,sc,lox,hix,xc,ob]
def clip(z:Int):Option Int:=if -C < z∧z < C then some z else none
def tx:X→Option Int
 | .fin z=>clip z
 | _=>none
theorem adx(lf:Nat){x:X}(hx:okx K x):lH.f lf (xc x)=some (ob (tx x),()):=by
 rw[lH.f]
 cases x with
 | ni=>exact(brT _ _).trans rfl
 | pi=>exact(brT _ _).trans rfl
 | fin z =>
  simp only[xc,bne_self_eq_false,brF]
  have hz:=(sz_K z).2 hx
  rw[xC lf _ (by have:=zS z hz;omega),bdS]
  simp only[tx,clip]
  have:=sz_C z
  unfold sz at this
  by_cases h:nlen (Lib.itoa z)≤100
  ·rw[decide_eq_false (by omega),brF,if_pos (this.1 h)];rfl
  ·rw[decide_eq_true (by omega),brT,if_neg (fun h'=>h (this.2 h'))];rfl
def toA(s:Sp):A:=if emp s=true then⟨true,none,none⟩else⟨false,tx s.lo,tx s.hi⟩
theorem jB(lf:Nat)(h3:200000≤lf){s:Sp}(hs:oks K s):af.f lf (sc s)=some (ac (toA s),()):=by
 rw[af.f,lm lf h3 hs,bdS]
 unfold toA
 cases emp s with
 | true=>rw[brT,if_pos rfl];rfl
 | false =>
  rw[brF,if_neg (by simp)]
  simp only[sc]
  rw[adx lf hs.1,bdS,adx lf hs.2,bdS]
  rfl
end Go.N
namespace Go.N
open Go Go.Q Go.Rx
def ck(em:Bool)(l h:List UInt8):Int :=
 if em=true∧(l≠[]∨h≠[])then 3 else if l≠[]∧num l≠0 then num l else if h≠[]∧num h≠0 then num h else if l≠[]∧h≠[]∧iv h < iv l then 14 else 0
theorem rV{l:List UInt8}(h:num l=0):chk l=0:=kR.2 ⟨(mW.1 h).1,by have:=(mW.1 h).2;omega⟩
theorem qH{l:List UInt8}(h:num l=0):l.length≤101:=by have:=qc l;have:=(mW.1 h).2;omega
theorem bneT{x:Int}(h:¬x=0):(x != 0)=true:=by simpa using h
theorem e0:(⟨#[]⟩:ByteArray)=bs []:=rfl
theorem aaB(a b:Int):decide (sgn (a-b) > 0)=decide (b < a):=by
 simp only[decide_eq_decide];unfold sgn;(repeat' split)<;>omega
set_option maxHeartbeats 1000000 in
theorem zD(lf:Nat)(h3:200000≤lf)(em:Bool)(l h:List UInt8)(hl:l.length≤9223372036854775807)(hh:h.length≤9223372036854775807):bV.f lf (em,bs l,bs h,())=some (ck em l h,()):=by
 rw[bV.f]
 simp only[e0,kY,zW lf l (by omega),zW lf h (by omega),bdS]
 have ho:num l=0→num h=0→bZ.f lf (bs l) (bs h)=some (sgn (iv l-iv h),()):=fun a b=>qU lf l h (rV a) (rV b) h3
 unfold ck
 by_cases n1:num l=0<;>by_cases n2:num h=0
 ·simp only[ho n1 n2,bdS,aaB]
  by_cases h1:l=[]<;>by_cases h2:h=[]<;>by_cases h4:iv h < iv l<;>cases em<;>simp[h1,h2,h4,n1,n2,brT,brF]<;>simp_all
 ·by_cases h1:l=[]<;>by_cases h2:h=[]<;>cases em<;>simp[h1,h2,n1,n2,bneT n2,brT,brF]<;>simp_all [bneT n2,brT]
 ·by_cases h1:l=[]<;>by_cases h2:h=[]<;>cases em<;>simp[h1,h2,n1,n2,bneT n1,brT,brF]<;>simp_all [bneT n1,brT]
 ·by_cases h1:l=[]<;>by_cases h2:h=[]<;>cases em<;>simp[h1,h2,n1,n2,bneT n1,bneT n2,brT,brF]<;>simp_all [bneT n1,bneT n2,brT]
theorem wZ(lf:Nat)(l:List UInt8)(hl:l.length≤9223372036854775807)(hf:l.length≤lf):fF.f lf (bs l)=some ((if l=[]then 0 else num l),()):=by
 rw[fF.f,e0,kY,xO lf l hl hf,bdS]
 by_cases h:l=[]
 ·rw[decide_eq_true h,brT,if_pos h]
 ·rw[decide_eq_false h,brF,if_neg h]
set_option maxHeartbeats 1000000 in
theorem xg(lf:Nat)(h3:200000≤lf)(em:Bool)(l h:List UInt8)(hl:l.length≤9223372036854775807)(hh:h.length≤9223372036854775807)(fl:l.length≤lf)(fh:h.length≤lf):iT.f lf (em,bs l,bs h,())=some (ck em l h,()):=by
 rw[iT.f]
 simp only[e0,kY,wZ lf l hl fl,wZ lf h hh fh,bdS]
 have ho:num l=0→num h=0→aW.f lf (bs h) (bs l)=some (decide (iv h < iv l),()):=fun a b =>
  aav lf h l (mW.1 b).1 (mW.1 a).1 (by have:=qH b;omega) (by have:=qH a;omega) h3
 unfold ck
 by_cases n1:num l=0<;>by_cases n2:num h=0
 ·simp only[ho n1 n2,bdS]
  by_cases h1:l=[]<;>by_cases h2:h=[]<;>by_cases h4:iv h < iv l<;>cases em<;>simp[h1,h2,h4,n1,n2,brT,brF]<;>simp_all
 ·by_cases h1:l=[]<;>by_cases h2:h=[]<;>cases em<;>simp[h1,h2,n1,n2,bneT n2,brT,brF]<;>simp_all [bneT n2,brT]
 ·by_cases h1:l=[]<;>by_cases h2:h=[]<;>cases em<;>simp[h1,h2,n1,n2,bneT n1,brT,brF]<;>simp_all [bneT n1,brT]
 ·by_cases h1:l=[]<;>by_cases h2:h=[]<;>cases em<;>simp[h1,h2,n1,n2,bneT n1,bneT n2,brT,brF]<;>simp_all [bneT n1,bneT n2,brT]
theorem afK{em:Bool}{l h:List UInt8}(hc:ck em l h=0):∃ a:A,((em,bs l,bs h,()):IV)=ac a∧Wf a:=by
 have c1:¬(em=true∧(l≠[]∨h≠[])):=by intro hx;unfold ck at hc;rw[if_pos hx]at hc;cases hc
 have c2:¬(l≠[]∧num l≠0):=by intro hx;unfold ck at hc;rw[if_neg c1,if_pos hx]at hc;exact hx.2 hc
 have c3:¬(h≠[]∧num h≠0):=by intro hx;unfold ck at hc;rw[if_neg c1,if_neg c2,if_pos hx]at hc;exact hx.2 hc
 have c4:¬(l≠[]∧h≠[]∧iv h < iv l):=by intro hx;unfold ck at hc;rw[if_neg c1,if_neg c2,if_neg c3,if_pos hx]at hc;cases hc
 have key:∀ m:List UInt8,¬(m≠[]∧num m≠0)→∃ o:Option Int,bs m=ob o∧okb C o∧(o=none↔m=[])∧∀ z,o=some z→z=iv m:=by
  intro m hm
  by_cases h0:m=[]
  ·exact⟨none,by rw[h0];rfl,trivial,by simp[h0],by simp⟩
  ·have hn:num m=0:=by
    by_cases e:num m=0
    ·exact e
    ·exact absurd ⟨h0,e⟩ hm
   have e:=rQ (mW.1 hn).1
   have hb:=hn
   rw[e,qf]at hb
   exact⟨some (iv m),by rw[ob,←e],hb,by simp[h0],fun z hz=>(Option.some.inj hz).symm⟩
 obtain⟨o1,a1,b1,d1,f1⟩:=key l c2
 obtain⟨o2,a2,b2,d2,f2⟩:=key h c3
 refine⟨⟨em,o1,o2⟩,by rw[ac,a1,a2],⟨?_,b1,b2,?_⟩⟩
 ·intro he
  constructor
  ·apply d1.2
   by_cases e:l=[]
   ·exact e
   ·exact absurd ⟨he,.inl e⟩ c1
  ·apply d2.2
   by_cases e:h=[]
   ·exact e
   ·exact absurd ⟨he,.inr e⟩ c1
 ·cases o1 with
  | none=>trivial
  | some x=>cases o2 with
   | none=>trivial
   | some y =>
    have h1:l≠[]:=fun e=>by cases d1.2 e
    have h2:h≠[]:=fun e=>by cases d2.2 e
    have e1:=f1 x rfl
    have e2:=f2 y rfl
    simp only[le?]
    by_cases hle:x≤y
    ·exact hle
    ·exact absurd ⟨h1,h2,by omega⟩ c4
theorem ae5{a:A}(h:Wf a):∃ l m,ac a=(a.em,bs l,bs m,())∧ck a.em l m=0∧l.length≤101∧m.length≤101:=by
 have key:∀ o:Option Int,okb C o→∃ m,ob o=bs m∧(m≠[]→num m=0)∧(m=[]↔o=none)∧(∀ z,o=some z→iv m=z)∧m.length≤101:=by
  intro o ho
  cases o with
  | none=>exact⟨[],rfl,fun h=>absurd rfl h,by simp,by simp,by simp⟩
  | some z =>
   have hn:=(qf z).2 ho
   exact⟨Lib.itoa z,rfl,fun _=>hn,by simp[jW z],fun u hu=>by rw[dm];exact Option.some.inj hu,qH hn⟩
 obtain⟨l,a1,b1,c1,d1,e1⟩:=key a.lo h.lo
 obtain⟨m,a2,b2,c2,d2,e2⟩:=key a.hi h.hi
 refine⟨l,m,by rw[ac,a1,a2],?_,e1,e2⟩
 unfold ck
 have hem:=h.em
 have hle:=h.le
 rw[if_neg,if_neg,if_neg,if_neg]
 ·rintro ⟨x1,x2,x3⟩
  cases hlo:a.lo with
  | none=>exact x1 (c1.2 hlo)
  | some x=>cases hhi:a.hi with
   | none=>exact x2 (c2.2 hhi)
   | some y =>
    rw[hlo,hhi]at hle
    simp only[le?]at hle
    rw[d1 x hlo,d2 y hhi]at x3
    omega
 ·rintro ⟨x1,x2⟩;exact x2 (b2 x1)
 ·rintro ⟨x1,x2⟩;exact x2 (b1 x1)
 ·rintro ⟨x1,x2⟩
  obtain⟨p,q⟩:=hem x1
  rcases x2 with x2 | x2
  ·exact x2 (c1.2 p)
  ·exact x2 (c2.2 q)
theorem lG(lf:Nat)(h3:200000≤lf){a:A}(h:Wf a):bV.f lf (ac a)=some (0,()):=by
 obtain⟨l,m,e,hc,h1,h2⟩:=ae5 h
 rw[e,zD lf h3 _ _ _ (by omega) (by omega),hc]
theorem yg(lf:Nat)(h3:200000≤lf){a:A}(h:Wf a):iT.f lf (ac a)=some (0,()):=by
 obtain⟨l,m,e,hc,h1,h2⟩:=ae5 h
 rw[e,xg lf h3 _ _ _ (by omega) (by omega) (by omega) (by omega),hc]
theorem Wf.okC{a:A}(h:Wf a):oks C (ofA a):=afv h.lo h.hi
theorem Wf.okK{a:A}(h:Wf a):oks K (ofA a):=h.okC.mono (Int.le_of_lt gJ)
theorem vw{a:A}(h:Wf a):emp (ofA a)=a.em:=by
 have hK:=K_gt
 have hC:=gJ
 obtain⟨em,lo,hi⟩:=a
 obtain⟨h1,h2,h3,h4⟩:=h
 unfold ofA
 cases em with
 | true=>exact lM
 | false =>
  rw[if_neg (by simp)]
  apply decide_eq_false
  cases lo<;>cases hi<;>simp only[lox,hix,key,okb,le?]at*<;> omega
theorem adA{s:Sp}(h:oks K s)(hl:emp s=true∨(s.lo≠.pi∧s.hi≠.ni)):Wf (toA s):=by
  unfold toA
  cases he:emp s with
  | true=>exact⟨fun _=>⟨rfl,rfl⟩,trivial,trivial,trivial⟩
  | false =>
    rw[if_neg (by simp)]
    have hC:∀ x,okb C (tx x):=by
      intro x;cases x with
      | fin z=>unfold tx clip;simp only;split
               · assumption
               · trivial
      | ni=>trivial
      | pi=>trivial
    refine⟨(fun h=>by cases h),hC _,hC _,?_⟩
    unfold emp at he
    simp only[decide_eq_false_iff_not]at he
    obtain⟨lo,hi⟩:=s
    have hn:∀ x:Option Int,le? x none:=fun x=>by cases x<;>trivial
    have hn':∀ x:Option Int,le? none x:=fun x=>trivial
    cases lo with
    | ni=>exact hn' _
    | pi=>exact hn' _
    | fin z=>cases hi with
      | ni=>exact hn _
      | pi=>exact hn _
      | fin u =>
        simp only[key]at he
        simp only[tx,clip]
        split
        · split
          · simp only[le?];omega
          · exact hn _
        · exact hn' _
end Go.N
namespace Go.N
open Go Go.Q Go.Rx
theorem lN{x:Int}(h: -K < x∧x < K):(Lib.itoa x).length≤4097:=zS x ((sz_K x).2 h)
theorem lessI(lf:Nat)(h3:200000≤lf){x y:Int}(hx: -K < x∧x < K)(hy: -K < y∧y < K):aW.f lf (bs (Lib.itoa x)) (bs (Lib.itoa y))=some (decide (x < y),()):=by
 have a:=lN hx
 have b:=lN hy
 rw[aav lf _ _ (jh x) (jh y) (by omega) (by omega) h3,dm,dm]
theorem acd(lf:Nat)(o:Option Int)(h:okb K o):dU.f lf (ob o)=some (ob (o.bind clip),()):=by
 rw[dU.f,uK]
 cases o with
 | none=>simp[brF]
 | some z =>
  rw[decide_eq_false (by simp)]
  simp only[Bool.not_false,brT,ob]
  have hl:=lN h
  rw[mZ lf _ (jW z) (by omega),bdS]
  simp only[Option.bind_some,clip]
  have:=sz_C z
  unfold sz at this
  by_cases hz:nlen (Lib.itoa z)≤100
  ·rw[decide_eq_false (by omega),brF,if_pos (this.1 hz)]
  ·rw[decide_eq_true (by omega),brT,if_neg (fun h'=>hz (this.2 h'))]
def gt? : Option Int→Option Int→Bool
 | some x,some y=>decide (y < x)
 | _,_=>false
theorem acn{lo hi:Option Int}(h1:okb K lo)(h2:okb K hi):emp ⟨lox lo,hix hi⟩=gt? lo hi:=by
 have hK:=K_gt
 unfold emp
 cases lo with
 | none=>cases hi with
  | none=>exact decide_eq_false (by simp only[key,lox,hix];omega)
  | some y=>exact decide_eq_false (by simp only[key,lox,hix];simp only[okb]at h2;omega)
 | some x=>cases hi with
  | none=>exact decide_eq_false (by simp only[key,lox,hix];simp only[okb]at h1;omega)
  | some y=>rfl
theorem adE(o:Option Int):tx (lox o)=o.bind clip:=by cases o<;>rfl
theorem adD(o:Option Int):tx (hix o)=o.bind clip:=by cases o<;>rfl
theorem tZ(lf:Nat)(h3:200000≤lf)(lo hi:Option Int)(h1:okb K lo)(h2:okb K hi):bQ.f lf (ob lo) (ob hi)=some (ac (toA ⟨lox lo,hix hi⟩),()):=by
 rw[bQ.f]
 simp only[uK,acd lf lo h1,acd lf hi h2,bdS]
 unfold toA
 rw[acn h1 h2]
 simp only[adE,adD]
 cases lo with
 | none=>simp[brF,ac,gt?]
 | some x=>cases hi with
  | none=>simp[brT,brF,ac,gt?]
  | some y =>
   have hl:aW.f lf (ob (some y)) (ob (some x))=some (decide (y < x),()):=lessI lf h3 h2 h1
   simp only[reduceCtorEq,decide_false,Bool.not_false,brT,hl,bdS]
   by_cases h:y < x
   ·simp[gt?,h,brT,gX.f,bdS,ac,ob]
   ·simp[gt?,h,brF,ac]
theorem okb.mono{k k':Int}(h:k≤k'){o:Option Int}(ho:okb k o):okb k' o:=by cases o<;>simp only[okb]at *;omega
theorem afG{x y:X}(h:key x < key y):xmax x y=y:=if_pos h
theorem afF{x y:X}(h:¬key x < key y):xmax x y=x:=if_neg h
theorem Wf.loK{a:A}(h:Wf a):okb K a.lo:=h.lo.mono (Int.le_of_lt gJ)
theorem Wf.hiK{a:A}(h:Wf a):okb K a.hi:=h.hi.mono (Int.le_of_lt gJ)
end Go.N
namespace Go.N
open Go Go.Q Go.Rx
abbrev tl(b:ByteArray):List UInt8:=b.data.toList
def bel(v:Int)(acc:X)(x:Int):X:=if x≤v then .fin x else acc
def abo(v:Int)(x:Int)(acc:X):X:=if x≥v then .fin x else acc
def below(zs:List Int)(v:X):X:=zs.foldl (bel (key v)) .ni
def above(zs:List Int)(v:X):X:=zs.foldr (abo (key v)) .pi
end Go.N
namespace Go.N
open Go Go.Q Go.Rx
structure Ks(s:Sp)(e:Bool):Prop where
 ok:oks K s
 e1:e=true→s=non
 e2:e=false→key s.lo≤key s.hi∧key s.lo < K∧-K < key s.hi
theorem Wf.ks{a:A}(h:Wf a):Ks (ofA a) a.em:=by
 have hK:=K_gt
 have hC:=gJ
 refine⟨h.okK,fun e=>by unfold ofA;rw[if_pos e],fun e=>?_⟩
 have:=vw h
 rw[e]at this
 unfold emp at this
 simp only[decide_eq_false_iff_not]at this
 refine⟨by omega,?_,?_⟩
 ·unfold ofA;rw[if_neg (by simp[e])]
  have h0:=h.lo
  cases hx:a.lo with
  | none=>simp only[lox,key];omega
  | some z=>rw[hx]at h0;simp only[lox,key,okb]at *;omega
 ·unfold ofA;rw[if_neg (by simp[e])]
  have h0:=h.hi
  cases hx:a.hi with
  | none=>simp only[hix,key];omega
  | some z=>rw[hx]at h0;simp only[hix,key,okb]at *;omega
theorem aaj(x y:ByteArray):(x==y)=decide (x=y):=by
 have e:(x==y)=(x.data==y.data):=rfl
 rw[e]
 obtain⟨x⟩:=x
 obtain⟨y⟩:=y
 by_cases h:x=y
 ·subst h;simp
 ·have:¬(⟨x⟩:ByteArray)=⟨y⟩:=fun e=>h (by injection e)
  rw[decide_eq_false this];simpa using h
end Go.N
namespace Go.N
open Go Go.Q Go.Rx
def inS(s:Sp)(z:Int):Bool:=decide (key s.lo≤z)&&decide (z≤key s.hi)
theorem oU(lf:Nat)(h3:200000≤lf){a:A}(ha:Wf a){z:Int}(hz: -K < z∧z < K):bJ.f lf (ac a) (bs (Lib.itoa z))=some (inS (ofA a) z,0,()):=by
 rw[bJ.f]
 have hl:=lN hz
 have e:((0,bs (Lib.itoa z),()):EB)=xc (.fin z):=rfl
 have hx:okx K (.fin z):=hz
 obtain⟨c,c1,c2,c3⟩:=xk lf h3 ha.okK.1 hx
 obtain⟨d,d1,d2,d3⟩:=xk lf h3 hx ha.okK.2
 simp only[lG lf h3 ha,bdS,bne_self_eq_false,brF,nD lf (Lib.itoa z) (by omega),(mP z).2 hz,of_f,aT.f,e,sc,c1,d1]
 unfold inS
 rw[show key (.fin z)=z from rfl]at c2 c3 d2 d3
 by_cases h:key (ofA a).lo≤z
 ·rw[decide_eq_true (show c≤0 by omega),brT,decide_eq_true h,Bool.true_and]
  congr 2
  simp only[decide_eq_decide];omega
 ·rw[decide_eq_false (show ¬c≤0 by omega),brF,decide_eq_false h,Bool.false_and]
theorem aei{z:Int}(hz: -K < z∧z < K):decide (key (lox none)≤z)=true:=decide_eq_true (show -K≤z by omega)
theorem ad7{z:Int}(hz: -K < z∧z < K):decide (z≤key (hix none))=true:=decide_eq_true (show z≤K by omega)
theorem aej(x z:Int):decide (key (lox (some x))≤z)=!decide (z < x):=by
 show decide (x≤z)=!decide (z < x)
 by_cases h:z < x
 ·rw[decide_eq_true h,decide_eq_false (by omega)];rfl
 ·rw[decide_eq_false h,decide_eq_true (by omega)];rfl
theorem ad8(y z:Int):decide (z≤key (hix (some y)))=!decide (y < z):=by
 show decide (z≤y)=!decide (y < z)
 by_cases h:y < z
 ·rw[decide_eq_true h,decide_eq_false (by omega)];rfl
 ·rw[decide_eq_false h,decide_eq_true (by omega)];rfl
theorem acJ(lf:Nat)(h3:200000≤lf){a:A}(ha:Wf a){z:Int}(hz: -K < z∧z < K):jf.f lf (ac a) (bs (Lib.itoa z))=some (inS (ofA a) z,()):=by
 have hK:=K_gt
 rw[jf.f]
 cases he:a.em with
 | true =>
  have ho:ofA a=non:=by unfold ofA;rw[if_pos he]
  rw[ho]
  simp only[ac,he,Bool.not_true,brF]
  have:decide (key non.lo≤z)=false:=decide_eq_false (by rw[show key non.lo=K from rfl];omega)
  unfold inS
  rw[this];rfl
 | false =>
  have ho:ofA a=⟨lox a.lo,hix a.hi⟩:=by unfold ofA;rw[if_neg (by simp[he])]
  rw[ho]
  unfold inS
  simp only[ac,he,Bool.not_false,brT,uK]
  have hlo:=ha.loK
  have hhi:=ha.hiK
  have hi:∀ o,okb K o→(br (decide (o=none)) (some (true,())) (bd (aW.f lf (ob o) (bs (Lib.itoa z))) fun r=>some ((!r.1),())))=some (decide (z≤key (hix o)),()):=by
   intro o ho
   cases o with
   | none=>rw[ad7 hz];simp[brT]
   | some y =>
    have hl:aW.f lf (ob (some y)) (bs (Lib.itoa z))=some (decide (y < z),()):=lessI lf h3 ho hz
    rw[hl,ad8]
    simp[brF,bdS]
  cases hx:a.lo with
  | none =>
   rw[aei hz,Bool.true_and,←hi _ hhi]
   simp[brT]
  | some x =>
   rw[hx]at hlo
   have hl1:aW.f lf (bs (Lib.itoa z)) (ob (some x))=some (decide (z < x),()):=lessI lf h3 hz hlo
   rw[hl1,aej]
   simp only[reduceCtorEq,decide_false,brF,bdS]
   cases decide (z < x)with
   | true=>simp[brF]
   | false =>
    simp only[Bool.not_false,brT,Bool.true_and]
    exact hi _ hhi
end Go.N
namespace Go.N
open Go Go.Q Go.Rx
end Go.N
namespace Go.N
open Go Go.Q Go.Rx
section
variable (lf:Nat)(h3:200000≤lf){e1 e2:Bool}{l1 m1 l2 m2:List UInt8}(a1:l1.length≤100000)(b1:m1.length≤100000)(a2:l2.length≤100000)(b2:m2.length≤100000)
include h3 a1 b1 a2 b2
end
section
variable (lf:Nat)(h3:200000≤lf){e1 e2:Bool}{l1 m1 l2 m2:List UInt8}(a1:l1.length≤100000)(b1:m1.length≤100000)(a2:l2.length≤100000)(b2:m2.length≤100000)
include h3 a1 b1 a2 b2
end
end Go.N
namespace Go.N
open Go.IntKind (i64)
open Go Go.Q Go.Rx
abbrev D(n:Nat):List UInt8:=Lib.decDigits n
def zs(n:Nat):List UInt8:=List.replicate n 48
theorem afH(n:Nat):(zs n).all isDig=true:=by
 unfold zs
 rw[List.all_eq_true]
 intro b hb
 rw[(List.mem_replicate.1 hb).2];rfl
theorem aeP:∀ n:Nat,dv (zs n)=0
 | 0=>rfl
 | n+1=>by
  unfold zs
  rw[List.replicate_succ',qE]
  have:=aeP n
  unfold zs at this
  rw[this];rfl
theorem aaT{v x k:Nat}(hv:0 < v)(hk:0 < k)(hx:x < 10 ^ k):D (v*10 ^ k+x)=D v++(zs (k-(D x).length)++D x):=by
 have hlen:(D x).length≤k:=by
  obtain⟨j,rfl⟩:=Nat.exists_eq_succ_of_ne_zero (show k≠0 by omega)
  exact lg j x hx
 obtain⟨b,r,e,hb⟩:=vP (show v≠0 by omega)
 have h1:(D v++(zs (k-(D x).length)++D x)).all isDig=true:=by
  rw[List.all_append,List.all_append,rJ,afH,rJ];rfl
 have h2:dv (D v++(zs (k-(D x).length)++D x))=v*10 ^ k+x:=by
  rw[aap,aap,aeP,vU,vU,List.length_append]
  unfold zs
  rw[List.length_replicate,Nat.sub_add_cancel hlen];omega
 have h3:=aan h1 (by rw[show D v=b::r from e];simp) (.inl (by rw[show D v=b::r from e];simpa using hb))
 rw[h2]at h3
 exact h3.symm
theorem zF{v x k:Nat}(hv:0 < v)(hk:0 < k)(hx:x < 10 ^ k):(D (v*10 ^ k+x)).length=(D v).length+k:=by
 have hlen:(D x).length≤k:=by
  obtain⟨j,rfl⟩:=Nat.exists_eq_succ_of_ne_zero (show k≠0 by omega)
  exact lg j x hx
 rw[aaT hv hk hx,List.length_append,List.length_append]
 unfold zs
 rw[List.length_replicate];omega
def uv(L:List Int)(k:Nat):Nat:=(lv G (L.drop k)).toNat
theorem zi{L:List Int}(h:Dg G L)(k:Nat)(hk:k < L.length):uv L k=uv L (k+1)*10 ^ 9+(L[k]).toNat:=by
 unfold uv
 rw[List.drop_eq_getElem_cons hk,lv]
 have h1:=h.at k hk
 have h2:=dh (B:=G) (by decide) (h.drop (k+1))
 have e:(10:Nat) ^ 9=1000000000:=by decide
 rw[e]
 simp only[G]at *
 omega
theorem adG(L:List Int):uv L L.length=0:=by unfold uv;rw[List.drop_length];rfl
theorem zh{L:List Int}(h:Dg G L)(ht:Tr L){k:Nat}(hk:k < L.length):0 < uv L k:=by
 have hT:Tr (L.drop k):=by
  unfold Tr at *
  rw[List.getLast?_drop,if_neg (by omega)]
  exact ht
 have:=pq (B:=G) (by decide) (h.drop k) hT (by intro e;have:=congrArg List.length e;simp at this;omega)
 unfold uv;omega
theorem aeH{L:List Int}(h:Dg G L){k:Nat}(hk:k < L.length):(D (uv L k)).length≤9*(L.length-k):=by
 have h1:=mY (B:=G) (by decide) (h.drop k)
 have h2:=dh (B:=G) (by decide) (h.drop k)
 rw[List.length_drop]at h1
 have h3:uv L k < 10 ^ (9*(L.length-k)):=by
  unfold uv
  have e:(G:Int) ^ (L.length-k)=((10 ^ (9*(L.length-k)):Nat):Int):=by
   rw[Nat.pow_mul]
   have:(10:Nat) ^ 9=1000000000:=by decide
   rw[this]
   simp[G]
  rw[e]at h1
  omega
 obtain⟨j,hj⟩:=Nat.exists_eq_succ_of_ne_zero (show 9*(L.length-k)≠0 by omega)
 rw[hj]at h3⊢
 exact lg j _ h3
theorem aeb{y:Int}(h:0≤y):Lib.itoa y=D y.toNat:=by unfold Lib.itoa;rw[if_neg (by omega)]
theorem bItoa(lf:Nat){y:Int}(h1:0≤y)(h2:y < G):B.Itoa.f lf y=some (bs (D y.toNat),()):=by
 simp only[G]at h2
 unfold B.Itoa.f
 rw[if_pos ⟨by omega,by omega⟩,aeb h1]
theorem aac:∀ c:Nat,Lib.repeatL [48] c=zs c
 | 0=>rfl
 | c+1=>by rw[Lib.repeatL,aac c];rfl
theorem adV(lf:Nat)(c:Nat)(h:c≤9):B.Repeat.f lf (⟨#[48]⟩:ByteArray) (c:Int)=some (bs (zs c),()):=by
 unfold B.Repeat.f
 have e:(⟨#[48]⟩:ByteArray).size=1:=rfl
 rw[e,if_pos ⟨by omega,by omega,by rw[Int.toNat_natCast];omega⟩,Int.toNat_natCast]
 show some (bs (Lib.repeatL [48] c),())=_
 rw[aac]
abbrev si(l:List UInt8):List Int:=l.map fun b=>(b.toNat:Int)
theorem aaD(l m:List UInt8):si l++si m=si (l++m):=by simp[si]
theorem uH(lf:Nat){L:List Int}(h:Dg G L)(ht:Tr L)(hl:L.length≤100000)(k:Nat)(hk:k < L.length)(pre:List UInt8)(hp:pre.length≤1){R:Type}(f:List Int→Option R):
    (bd (idxL L (k:Nat)) fun y2=>bd (B.Itoa.f lf y2) fun r3=>br (decide (((k:Nat):Int) < i64.wrap (((L.length:Nat):Int)-1)))
      (bd (B.Repeat.f lf (⟨#[48]⟩:ByteArray) (i64.wrap (9-((r3.1.size:Nat):Int)))) fun r4=>bd (apL true 1 (si (pre++(if k+1=L.length then []else D (uv L (k+1))))) (sBytes r4.1)) fun l5=>bd (apL true 1 l5 (sBytes r3.1)) fun l6=>f l6)
      (bd (apL true 1 (si (pre++(if k+1=L.length then []else D (uv L (k+1))))) (sBytes r3.1)) fun l7=>f l7))=f (si (pre++D (uv L k))):=by
  have hy:=h.at k hk
  have hlx:(D (L[k]).toNat).length≤9:=lg 8 _ (by simp only[G]at hy;have:(10:Nat) ^ (8+1)=1000000000:=by decide
                                                 omega)
  rw[dV L k hk,bdS,bItoa lf hy.1 hy.2,bdS,w64 (n:=((L.length:Nat):Int)-1) (by omega) (by omega)]
  simp only[gB]
  rw[zi h k hk]
  by_cases hlast:k+1=L.length
  · rw[decide_eq_false (by omega),brF,if_pos hlast,hlast,adG,List.append_nil]
    simp only[xP]
    rw[lK 1 _ _ (by omega) (by simp;omega),bdS,aaD]
    simp
  · have hd:=aeH h (k:=k+1) (by omega)
    rw[decide_eq_true (by omega),brT,if_neg hlast,w64 (by omega) (by omega)]
    rw[show(9:Int)-((D (L[k]).toNat).length:Nat)=((9-(D (L[k]).toNat).length:Nat):Int) by omega,adV lf _ (by omega),bdS]
    simp only[xP]
    have hz:(zs (9-(D (L[k]).toNat).length)).length=9-(D (L[k]).toNat).length:=by simp[zs]
    rw[lK 1 _ _ (by omega) (by simp only[List.length_map,List.length_append];omega),bdS,aaD]
    rw[lK 1 _ _ (by omega) (by simp only[List.length_map,List.length_append];omega),bdS,aaD]
    rw[aaT (zh h ht (by omega)) (by omega) (by simp only[G]at hy;have:(10:Nat) ^ 9=1000000000:=by decide
                                               omega)]
    simp only[List.append_assoc]
theorem aeD(lf:Nat){L:List Int}(h:Dg G L)(ht:Tr L)(hl:L.length≤100000)(b:Bool)(q:List Int)(pre:List UInt8)(hp:pre.length≤1):∀ (k n:Nat),k≤L.length→k < n→
  aZ.l0 lf b L q L n ((k:Nat)-1:Int) (si (pre++(if k=L.length then []else D (uv L k))))=some ((si (pre++(if L.length=0 then []else D (uv L 0))),()),()):=by
 intro k
 induction k with
 | zero =>
  intro n hk hn
  obtain⟨m,rfl⟩:=Nat.exists_eq_succ_of_ne_zero (show n≠0 by omega)
  rw[aZ.l0,aZ.r0,decide_eq_false (by omega),brF]
  congr 5
  by_cases e:L.length=0<;>simp[e,eq_comm]
 | succ k ih =>
  intro n hk hn
  obtain⟨m,rfl⟩:=Nat.exists_eq_succ_of_ne_zero (show n≠0 by omega)
  rw[aZ.l0,aZ.r0,decide_eq_true (by omega),brT,show((k+1:Nat):Int)-1=(k:Nat) by omega]
  have st:=uH lf h ht hl k (by omega) pre hp (fun l=>aZ.l0 lf b L q L m (i64.wrap (((k:Nat):Int)-1)) l)
  rw[st,w64 (by omega) (by omega)]
  have:=ih m (by omega) (by omega)
  rw[if_neg (show ¬k=L.length by omega)]at this
  exact this
theorem aeE(lf:Nat){L:List Int}(h:Dg G L)(ht:Tr L)(hl:L.length≤100000)(b:Bool)(pre:List UInt8)(hp:pre.length≤1):∀ (k n:Nat),k≤L.length→k < n→
  aZ.l2 lf b L L n ((k:Nat)-1:Int) (si (pre++(if k=L.length then []else D (uv L k))))=some ((b,L,L,si (pre++(if L.length=0 then []else D (uv L 0))),()),()):=by
 intro k
 induction k with
 | zero =>
  intro n hk hn
  obtain⟨m,rfl⟩:=Nat.exists_eq_succ_of_ne_zero (show n≠0 by omega)
  rw[aZ.l2,aZ.r2,decide_eq_false (by omega),brF]
  congr 8
  by_cases e:L.length=0<;>simp[e,eq_comm]
 | succ k ih =>
  intro n hk hn
  obtain⟨m,rfl⟩:=Nat.exists_eq_succ_of_ne_zero (show n≠0 by omega)
  rw[aZ.l2,aZ.r2,decide_eq_true (by omega),brT,show((k+1:Nat):Int)-1=(k:Nat) by omega]
  have st:=uH lf h ht hl k (by omega) pre hp (fun l=>aZ.l2 lf b L L m (i64.wrap (((k:Nat):Int)-1)) l)
  rw[st,w64 (by omega) (by omega)]
  have:=ih m (by omega) (by omega)
  rw[if_neg (show ¬k=L.length by omega)]at this
  exact this
theorem vF(lf:Nat){p:Bool×(List Int×Unit)}{z:Int}{k:Nat}(h:RN p z k)(hk:k≤100000)(h3:200000≤lf):aZ.f lf p=some (bs (Lib.itoa z),()):=by
 obtain⟨ng,L,⟨⟩⟩:=p
 obtain⟨hd,ht,hl,hv⟩:=h
 simp only at hd ht hl hv
 rw[aZ.f]
 simp only
 by_cases h0:L=[]
 ·subst h0
  have:z=0:=by rw[hv];cases ng<;>simp[lv]
  subst this
  rw[show(((([]:List Int).length:Nat):Int)==0)=true from rfl,brT]
  have:Lib.itoa 0=[48]:=by unfold Lib.itoa;rw[if_neg (by omega)];exact lT
  rw[this]
 ·have hne:L.length≠0:=fun e=>h0 (List.length_eq_zero_iff.1 e)
  have hb:((((L.length:Nat):Int))==0)=false:=by rw[beq_eq_false_iff_ne];omega
  rw[hb,brF]
  have hu:(uv L 0:Int)=lv G L:=by
   have:=dh (B:=G) (by decide) hd
   unfold uv;rw[List.drop_zero];omega
  have hup:=zh hd ht (k:=0) (by omega)
  cases ng with
  | true =>
   rw[brT,lK 1 _ _ (by omega) (by simp),bdS,w64 (by omega) (by omega)]
   have st:=aeD lf hd ht (by omega) true [45] [45] (by simp) L.length (lf+40) (Nat.le_refl _) (by omega)
   rw[if_pos rfl,if_neg hne]at st
   simp only[List.append_nil,List.nil_append]at st⊢
   rw[show si [45]=([45]:List Int) from rfl]at st
   rw[st,bdS]
   simp only
   rw[if_pos (by simp),bdS,qA]
   congr 2
   rw[if_pos rfl]at hv
   unfold Lib.itoa
   rw[if_pos (by omega),show z.natAbs=uv L 0 by omega]
   rfl
  | false =>
   rw[brF,w64 (by omega) (by omega)]
   obtain⟨m,hm⟩:∃ m,lf+40=m+1:=⟨lf+39,by omega⟩
   obtain⟨t,htl⟩:=Nat.exists_eq_succ_of_ne_zero hne
   rw[hm,aZ.l1,aZ.r1,decide_eq_true (by omega),brT]
   have e1:((L.length:Nat):Int)-1=(t:Nat):=by omega
   rw[e1]
   have st:=uH lf hd ht (by omega) t (by omega) [] (by simp) (fun l=>bd (aZ.l2 lf false L L m (i64.wrap (((t:Nat):Int)-1)) l) fun z22=>some (false,(false,([]:List Int),([]:List Int),([]:List Int),()),((z22.1.1,z22.1.2.1,z22.1.2.2.1,z22.1.2.2.2.1,()),())))
   rw[if_pos (by omega)]at st
   simp only[List.append_nil,List.nil_append]at st
   rw[show si []=([]:List Int) from rfl,e1]at st
   rw[st,w64 (by omega) (by omega)]
   have st2:=aeE lf hd ht (by omega) false [] (by simp) t m (by omega) (by omega)
   rw[if_neg (by omega),if_neg hne]at st2
   simp only[List.nil_append]at st2
   rw[st2,bdS,bdS]
   simp only[brF]
   have hl0:0 < (D (uv L 0)).length:=List.length_pos_iff.2 (afn _)
   rw[if_pos (by simpa using hl0),bdS,qA]
   congr 2
   rw[if_neg (by simp)]at hv
   unfold Lib.itoa
   rw[if_neg (by omega),show z.toNat=uv L 0 by omega]
theorem wP{L:List Int}(h:Dg G L)(ht:Tr L)(hn:0 < L.length):∀ j,j < L.length→(D (uv L (L.length-1-j))).length=9*j+(D (L[L.length-1]).toNat).length
  | 0,_=>by
    rw[Nat.sub_zero,zi h (L.length-1) (by omega),show L.length-1+1=L.length by omega,adG]
    simp
  | j+1,hj=>by
    have ih:=wP h ht hn j (by omega)
    have hk:L.length-1-(j+1) < L.length:=by omega
    have hy:=h.at _ hk
    rw[zi h _ hk,zF (zh h ht (by omega)) (by omega) (by simp only[G]at hy;have:(10:Nat) ^ 9=1000000000:=by decide
                                                        omega)]
    rw[show L.length-1-(j+1)+1=L.length-1-j by omega,ih];omega
theorem afB(lf:Nat){p:Bool×(List Int×Unit)}{z:Int}{k:Nat}(h:RN p z k)(hk:k≤100000):jT.f lf p=some ((if z=0 then 0 else((D z.natAbs).length:Int)),()):=by
  obtain⟨ng,L,⟨⟩⟩:=p
  obtain⟨hd,ht,hl,hv⟩:=h
  simp only at hd ht hl hv
  rw[jT.f]
  simp only
  by_cases h0:L=[]
  · subst h0
    have:z=0:=by rw[hv];cases ng<;>simp[lv]
    subst this
    rw[show(((([]:List Int).length:Nat):Int)==0)=true from rfl,brT]
    rfl
  · have hne:L.length≠0:=fun e=>h0 (List.length_eq_zero_iff.1 e)
    have hb:((((L.length:Nat):Int))==0)=false:=by rw[beq_eq_false_iff_ne];omega
    have hup:=zh hd ht (k:=0) (by omega)
    have hu:(uv L 0:Int)=lv G L:=by
      have:=dh (B:=G) (by decide) hd
      unfold uv;rw[List.drop_zero];omega
    have hy:=hd.at (L.length-1) (by omega)
    have hlx:(D (L[L.length-1]).toNat).length≤9:=lg 8 _ (by simp only[G]at hy;have:(10:Nat) ^ (8+1)=1000000000:=by decide
                                                            omega)
    have e:=wP hd ht (by omega) (L.length-1) (by omega)
    rw[show L.length-1-(L.length-1)=0 by omega]at e
    have hz:z.natAbs=uv L 0∧z≠0:=by cases ng<;>simp at hv<;>omega
    rw[hb,brF,w64 (n:=((L.length:Nat):Int)-1) (by omega) (by omega),qR L _ (L.length-1) (by omega) (by omega),bdS,bItoa lf hy.1 hy.2,bdS]
    simp only[gB]
    rw[w64 (n:=(((L.length:Nat):Int)-1)*9) (by omega) (by omega),w64 (by omega) (by omega),if_neg hz.2,hz.1,e]
    congr 2
    omega
theorem uP(lf:Nat){p:Bool×(List Int×Unit)}{z:Int}{k:Nat}(h:RN p z k)(hk:k≤100000)(h3:200000≤lf):
  iD.f lf p=some (if(D z.natAbs).length > 4096 then(bs [],10,())else(bs (Lib.itoa z),0,())):=by
 rw[iD.f,afB lf h hk,bdS,vF lf h hk h3,bdS]
 by_cases hz:z=0
 ·rw[hz,if_pos rfl,decide_eq_false (by omega),brF]
  rw[show(0:Int).natAbs=0 from rfl,show(D 0).length=1 from by rw[show D 0=[48] from lT];rfl,if_neg (by omega)]
 ·rw[if_neg hz]
  by_cases h':(D z.natAbs).length > 4096
  ·rw[decide_eq_true (by omega),brT,if_pos h']
  ·rw[decide_eq_false (by omega),brF,if_neg h']
theorem abz(lf:Nat)(l m:List UInt8)(h1:chk l=0)(h2:chk m=0)(h3:200000≤lf):
  fM.f lf (bs l) (bs m)=some (if(D (iv l-iv m).natAbs).length > 4096 then(bs [],10,())else(bs (Lib.itoa (iv l-iv m)),0,())):=by
 obtain⟨p,q,e,k1,k2,_⟩:=uM lf l m h1 h2 h3
 rw[fM.f,e,bdS]
 simp only[bne_self_eq_false,brF]
 obtain⟨q',e2,k3⟩:=xJ lf k2
 rw[e2,bdS]
 obtain⟨s,e3,k4⟩:=adw lf k1 k3 (by omega) h3
 rw[e3,bdS,uP lf k4 (by omega) h3,bdS,←Int.sub_eq_add_neg]
theorem afJ(lf:Nat)(l m:List UInt8)(h1:chk l=0)(h2:chk m=0)(h3:200000≤lf):
  fJ.f lf (bs l) (bs m)=some (if(D (iv l+iv m).natAbs).length > 4096 then(bs [],10,())else(bs (Lib.itoa (iv l+iv m)),0,())):=by
 obtain⟨p,q,e,k1,k2,_⟩:=uM lf l m h1 h2 h3
 rw[fJ.f,e,bdS]
 simp only[bne_self_eq_false,brF]
 obtain⟨s,e3,k4⟩:=adw lf k1 k2 (by omega) h3
 rw[e3,bdS,uP lf k4 (by omega) h3,bdS]
end Go.N
namespace Go.N
open Go Go.Q Go.Rx
theorem oJ(z:Int):(D z.natAbs).length=sz z:=by unfold sz nlen;rw[uw]
theorem aaP:chk [48]=0:=by decide
theorem iv48:iv [48]=0:=by decide
theorem afc(lf:Nat)(h3:200000≤lf){z:Int}(hz: -K < z∧z < K):oQ.f lf (bs (Lib.itoa z))=some (bs (Lib.itoa (-z)),0,()):=by
 rw[oQ.f,show(⟨#[48]⟩:ByteArray)=bs [48] from rfl,abz lf [48] (Lib.itoa z) aaP ((mP z).2 hz) h3,iv48,dm,Int.zero_sub,oJ]
 have:sz (-z)≤4096:=(sz_K (-z)).2 (by omega)
 rw[if_neg (by omega),bdS]
theorem acL(lf:Nat)(h3:200000≤lf){z:Int}(hz: -K < z∧z < K):jc.f lf (bs (Lib.itoa z))=some (bs (Lib.itoa (-z)),()):=by
 rw[jc.f,afc lf h3 hz,bdS]
theorem rf(lf:Nat){z:Int}(hz: -K < z∧z < K):cO.f lf (bs (Lib.itoa z))=some (bs (Lib.itoa (-z)),()):=by
 have hl:=lN hz
 rw[cO.f,show(⟨#[48]⟩:ByteArray)=bs [48] from rfl,kY]
 have i0:Lib.itoa 0=[48]:=by unfold Lib.itoa;rw[if_neg (by omega)];exact lT
 by_cases h0:z=0
 ·subst h0
  rw[decide_eq_true i0,brT];rfl
 ·have hne:Lib.itoa z≠[48]:=fun e=>h0 (mQ (e.trans i0.symm))
  rw[decide_eq_false hne,brF,jd lf _ (jW z),bdS]
  simp only
  by_cases hn:z < 0
  ·have e:Lib.itoa z=45::D z.natAbs:=by unfold Lib.itoa;rw[if_pos hn]
   have e':Lib.itoa (-z)=D z.natAbs:=by unfold Lib.itoa;rw[if_neg (by omega)];congr 1;omega
   have hng:neg (Lib.itoa z)=true:=by rw[e];rfl
   rw[hng,brT,e,e',qi (45::D z.natAbs) 1 1 rfl (by simp),bdS]
   rfl
  ·have e:Lib.itoa z=D z.toNat:=by unfold Lib.itoa;rw[if_neg hn]
   have e':Lib.itoa (-z)=45::D z.toNat:=by unfold Lib.itoa;rw[if_pos (by omega)];congr 2;omega
   have hng:neg (Lib.itoa z)=false:=by rw[e];unfold neg;exact decide_eq_false (pW _)
   rw[hng,brF,e',show(⟨#[45]⟩:ByteArray)=bs [45] from rfl,vI [45] _ (by simp;omega),bdS,e]
   rfl
def xneg:X→X
 | .ni=>.pi
 | .fin z=>.fin (-z)
 | .pi=>.ni
theorem zx{k:Int}{x:X}(h:okx k x):okx k (xneg x):=by cases x<;>simp only[xneg,okx]at*<;>(try trivial)<;>omega
theorem wE(lf:Nat)(h3:200000≤lf){x:X}(hx:okx K x):jq.f lf (xc x)=some (xc (xneg x),()):=by
 rw[jq.f]
 cases x with
 | ni=>exact(brT _ _).trans (by rw[bC.f,bdS];rfl)
 | pi=>exact(brT _ _).trans (by rw[bC.f,bdS];rfl)
 | fin z =>
  simp only[xc,bne_self_eq_false,brF]
  rw[acL lf h3 hx,bdS,aT.f,bdS]
  rfl
def turn(s:Sp):Sp:=if emp s=true then non else⟨xneg s.hi,xneg s.lo⟩
theorem fZ{k:Int}{s:Sp}(h:oks k s):oks k (turn s):=by
 unfold turn;split
 ·exact je
 ·exact⟨zx h.2,zx h.1⟩
theorem pF(lf:Nat)(h3:200000≤lf){s:Sp}(hs:oks K s):ax.f lf (sc s)=some (sc (turn s),()):=by
 rw[ax.f,lm lf h3 hs,bdS]
 unfold turn
 cases emp s with
 | true=>rw[brT,sO,bdS,if_pos rfl]
 | false =>
  rw[brF,if_neg (by simp)]
  simp only[sc]
  rw[wE lf h3 hs.2,bdS,wE lf h3 hs.1,bdS]
section
variable (lf:Nat)(h3:200000≤lf){e1 e2:Bool}{l1 m1 l2 m2:List UInt8}(a1:l1.length≤100000)(b1:m1.length≤100000)(a2:l2.length≤100000)(b2:m2.length≤100000)
include h3 a1 b1 a2 b2
end
end Go.N
namespace Go.N
open Go Go.Q Go.Rx
set_option exponentiation.threshold 5000
def xsh(x:X)(d:Int):X:=match x with
 | .fin z=>.fin (z+d)
 | y=>y
theorem K_C:C+10 < K:=by
 have h:(10:Nat) ^ 100+10 < 10 ^ 4096:=by
  have:(10:Nat) ^ 101≤10 ^ 4096:=Nat.pow_le_pow_right (by omega) (by omega)
  have e:(10:Nat) ^ 101=10 ^ 100*10:=Nat.pow_succ ..
  have:1000≤(10:Nat) ^ 100:=by decide +kernel
  omega
 unfold C K
 omega
theorem oN(lf:Nat)(h3:200000≤lf){x y:Int}(hx: -K < x∧x < K)(hy: -K < y∧y < K)(hs: -K < x+y∧x+y < K):fJ.f lf (bs (Lib.itoa x)) (bs (Lib.itoa y))=some (bs (Lib.itoa (x+y)),0,()):=by
 have h:=(sz_K (x+y)).2 hs
 rw[afJ lf _ _ ((mP x).2 hx) ((mP y).2 hy) h3,dm,dm,oJ,if_neg (by omega)]
theorem ab3(lf:Nat)(h3:200000≤lf){x:X}(hx:okx C x){d:Int}(h1: -10≤d)(h2:d≤10):jR.f lf (xc x) (bs (Lib.itoa d))=some (xc (xsh x d),()):=by
 have hK:=K_C
 have hC:=C_gt
 rw[jR.f]
 cases x with
 | ni=>exact(brT _ _).trans rfl
 | pi=>exact(brT _ _).trans rfl
 | fin z =>
  simp only[okx]at hx
  simp only[xc,bne_self_eq_false,brF]
  rw[iM.f,oN lf h3 (by omega) (by omega) (by omega),bdS,bdS,aT.f,bdS]
  rfl
theorem i1:(⟨#[49]⟩:ByteArray)=bs (Lib.itoa 1):=by
 have:Lib.itoa 1=[49]:=by unfold Lib.itoa;rw[if_neg (by omega)];exact jX (by omega)
 rw[this]
theorem i0:(⟨#[48]⟩:ByteArray)=bs (Lib.itoa 0):=by
 have:Lib.itoa 0=[48]:=by unfold Lib.itoa;rw[if_neg (by omega)];exact lT
 rw[this]
theorem im1:(⟨#[45,49]⟩:ByteArray)=bs (Lib.itoa (-1)):=by
 have:Lib.itoa (-1)=[45,49]:=by
  unfold Lib.itoa;rw[if_pos (by omega)]
  have:(-1:Int).natAbs=1:=rfl
  rw[this];congr 1;exact jX (by omega)
 rw[this]
def single(s:Sp):Bool:=match s.lo,s.hi with
 | .fin x,.fin y=>decide (x=y)
 | _,_=>false
theorem adq(lf:Nat)(s:Sp):jm.f lf (sc s)=some (single s,()):=by
 obtain⟨lo,hi⟩:=s
 rw[jm.f]
 cases lo<;>cases hi<;>simp only[sc,xc,single]
 ·exact(brF _ _)
 ·exact(brF _ _)
 ·exact(brF _ _)
 ·exact(brT _ _).trans (brF _ _)
 ·rw[show((0:Int)==0)=true from rfl,brT,brT,kY]
  congr 2
  simp only[decide_eq_decide]
  exact⟨mQ,fun h=>by rw[h]⟩
 ·exact(brT _ _).trans (brF _ _)
 ·exact(brF _ _)
 ·exact(brF _ _)
 ·exact(brF _ _)
end Go.N
namespace Go.N
open Go Go.Q Go.Rx
def valX:X→Int
 | .fin z=>z
 | _=>0
def E0:A:=⟨true,none,none⟩
theorem xQ{s:Sp}(h:single s=true):s.lo=.fin (valX s.lo):=by
 obtain⟨lo,hi⟩:=s
 cases lo<;>cases hi<;>simp[single,valX]at *
theorem aa1{s:Sp}(hs:oks K s){z:Int}(hz: -K < z∧z < K)(h:inS s z=true):inS (ofA (toA s)) z=true:=by
 have hK:=K_gt
 unfold inS at *
 simp only[Bool.and_eq_true,decide_eq_true_eq]at h⊢
 obtain⟨h1,h2⟩:=h
 have he:emp s=false:=decide_eq_false (by omega)
 obtain⟨lo,hi⟩:=s
 unfold toA
 rw[he]
 unfold ofA
 simp only[Bool.false_eq_true,if_false]
 simp only at h1 h2
 constructor
 ·cases lo with
  | ni=>exact Int.le_of_lt hz.1
  | pi=>simp only[key]at h1;omega
  | fin x =>
   simp only[tx,clip]
   split
   ·exact h1
   ·exact Int.le_of_lt hz.1
 ·cases hi with
  | pi=>exact Int.le_of_lt hz.2
  | ni=>simp only[key]at h2;omega
  | fin x =>
   simp only[tx,clip]
   split
   ·exact h2
   ·exact Int.le_of_lt hz.2
theorem xB{s:Sp}{z:Int}(h:inS s z=true):emp s=false:=by
 unfold inS at h
 simp only[Bool.and_eq_true,decide_eq_true_eq]at h
 exact decide_eq_false (by omega)
theorem afY:Wf E0:=⟨fun _=>⟨rfl,rfl⟩,trivial,trivial,trivial⟩
end Go.N
namespace Go.N
open Go.IntKind (i64)
open Go Go.Q Go.Rx
theorem nK(B:Int):∀ (l:List Int) (k:Nat) (v:Int) (h:k < l.length),lv B (l.set k v)=lv B l+B ^ k*(v-l[k])
 | x::l,0,v,h=>by simp[lv];omega
 | x::l,k+1,v,h=>by
  have ih:=nK B l k v (by simpa using h)
  simp only[List.set_cons_succ,lv,ih,List.getElem_cons_succ,Int.pow_succ]
  grind
theorem nR{B:Int}{l:List Int}(h:Dg B l)(k:Nat){v:Int}(hv:0≤v∧v < B):Dg B (l.set k v):=fun y hy=>by
 rcases List.mem_or_eq_of_mem_set hy with hy | rfl
 ·exact h y hy
 ·exact hv
theorem uJ{a y:Int}(h1:0≤a)(h2:a < G)(h3:0≤y)(h4:y < G):0≤a*y∧a*y≤999999998000000001:=by
 refine⟨Int.mul_nonneg h1 h3,?_⟩
 have:=Int.mul_le_mul (show a≤999999999 by simp only[G]at *;omega) (show y≤999999999 by simp only[G]at *;omega) h3 (by omega)
 omega
theorem ring_step(P B s o c a y D m q:Int)(h:m+B*q=s)(hs:s=c+(o+a*y)):P*(m-o)+P*B*(q+a*D)=P*(c+a*(y+B*D)):=by grind
theorem adz(lf:Nat)(v0 v4:List Int)(v5 v6:Int)(a:Int)(i:Nat)(ys:List Int)(ha:0≤a∧a < G)(hy:Dg G ys):∀ (k n j:Nat) (c:Int) (out:List Int),j+k=ys.length→k < n→0≤c→c < G→Dg G out→i+ys.length≤out.length→out.length≤1000000→
  ∃ c' out',eG.l1 lf v0 (i:Nat) a v4 v5 v6 ys ((ys.length:Nat):Int) n c (j:Nat) out=some ((c',out',()),())∧out'.length=out.length∧Dg G out'∧0≤c'∧c' < G∧lv G out'+G ^ (i+ys.length)*c'=lv G out+G ^ (i+j)*(c+a*lv G (ys.drop j))∧∀ q,i+ys.length≤q→out'[q]? = out[q]? := by
 intro k
 induction k with
 | zero =>
  intro n j c out hj hn c0 c1 hd hl hb
  obtain⟨m,rfl⟩:=Nat.exists_eq_succ_of_ne_zero (show n≠0 by omega)
  refine⟨c,out,?_,rfl,hd,c0,c1,?_,fun q _=>rfl⟩
  ·rw[eG.l1,eG.r1,decide_eq_false (by omega),brF]
  ·rw[List.drop_of_length_le (by omega),show j=ys.length by omega];simp[lv]
 | succ k ih =>
  intro n j c out hj hn c0 c1 hd hl hb
  obtain⟨m,rfl⟩:=Nat.exists_eq_succ_of_ne_zero (show n≠0 by omega)
  have hjl:j < ys.length:=by omega
  have hp:i+j < out.length:=by omega
  have y0:=hy.at j hjl
  have o0:=hd.at (i+j) hp
  have hm:=uJ ha.1 (show a < G by omega) y0.1 (show ys[j] < G by omega)
  have hc9:c < G:=by omega
  have ho9:out[i+j] < G:=by omega
  have c0':=c0
  simp only[G]at hc9 ho9
  have e1:i64.wrap (((i:Nat):Int)+((j:Nat):Int))=((i+j:Nat):Int):=by rw[w64 (by omega) (by omega)];omega
  have e2:i64.wrap (a*ys[j])=a*ys[j]:=w64 (by omega) (by omega)
  have e3:i64.wrap (out[i+j]+a*ys[j])=out[i+j]+a*ys[j]:=w64 (by omega) (by omega)
  have e4:i64.wrap (c+(out[i+j]+a*ys[j]))=c+(out[i+j]+a*ys[j]):=w64 (by omega) (by omega)
  have e5:i64.wrap (((j:Nat):Int)+1)=((j+1:Nat):Int):=by rw[w64 (by omega) (by omega)];omega
  obtain⟨s,hs⟩:∃ s,s=c+(out[i+j]+a*ys[j]):=⟨_,rfl⟩
  have s0:0≤s:=by omega
  have d0:=Int.emod_nonneg s (show G≠0 by decide)
  have d1:=Int.emod_lt_of_pos s (show 0 < G by decide)
  have dd:=Int.emod_add_mul_ediv s G
  have q0:0≤s / G:=Int.ediv_nonneg s0 (by decide)
  have q1:s / G < G:=by
   apply Int.ediv_lt_of_lt_mul (by decide)
   have h1:a*ys[j]≤(G-1)*(G-1):=Int.mul_le_mul (by omega) (by omega) y0.1 (by decide)
   try simp only[G]at *
   omega
  obtain⟨c',out',r1,r2,r3,r4,r5,r6,r7⟩:=ih m (j+1) (s / G) (out.set (i+j) (s % G)) (by omega) (by omega) q0 q1 (nR hd _ ⟨d0,d1⟩) (by rw[List.length_set];exact hl) (by rw[List.length_set];exact hb)
  refine⟨c',out',?_,by rw[r2,List.length_set],r3,r4,r5,?_,fun q hq=>?_⟩
  ·rw[eG.l1,eG.r1,decide_eq_true (by omega),brT]
   rw[dV _ _ hjl,bdS,e1,dM _ _ hp,bdS,List.getElem?_eq_getElem hp,bdS,e2,e3,e4,←hs,oK s0 (by decide),bdS,nH s0 (by decide) (by omega),bdS,bdS,lD _ _ _ hp,bdS,e5]
   exact r1
  ·rw[r6,nK G out (i+j) _ hp,List.drop_eq_getElem_cons hjl,lv,←Nat.add_assoc,Int.pow_succ,Int.add_assoc,ring_step _ _ s out[i+j] c a ys[j] _ _ _ dd hs]
  ·rw[r7 q hq,List.getElem?_set_ne (by omega)]
theorem ady(lf:Nat)  (xs ys:List Int)(hx:Dg G xs)(hy:Dg G ys)(h3:200000≤lf)(hly:ys.length≤100000): ∀ (k n i:Nat) (out:List Int),i+k=xs.length→k < n→Dg G out→out.length=xs.length+ys.length→out.length≤1000000→(∀ q,i+ys.length≤q→q < out.length→out[q]? = some 0)→
  ∃ out',eG.l0 lf ys xs ((xs.length:Nat):Int) n (i:Nat) out=some ((out',()),())∧out'.length=out.length∧Dg G out'∧lv G out'=lv G out+G ^ i*(lv G (xs.drop i)*lv G ys):=by
 intro k
 induction k with
 | zero =>
  intro n i out hi hn hd hl hb hz
  obtain⟨m,rfl⟩:=Nat.exists_eq_succ_of_ne_zero (show n≠0 by omega)
  refine⟨out,?_,rfl,hd,?_⟩
  ·rw[eG.l0,eG.r0,decide_eq_false (by omega),brF]
  ·rw[List.drop_of_length_le (by omega)];simp[lv]
 | succ k ih =>
  intro n i out hi hn hd hl hb hz
  obtain⟨m,rfl⟩:=Nat.exists_eq_succ_of_ne_zero (show n≠0 by omega)
  have hil:i < xs.length:=by omega
  have x0:=hx.at i hil
  obtain⟨c',out',r1,r2,r3,r4,r5,r6,r7⟩:=adz lf ys xs ((xs.length:Nat):Int) (i:Nat) xs[i] i ys x0 hy ys.length (lf+40) 0 0 out (by omega) (by omega) (by decide) (by decide) hd (by omega) hb
  rw[show((0:Nat):Int)=0 from rfl]at r1
  have hp:i+ys.length < out'.length:=by rw[r2];omega
  have hz':out'[i+ys.length]=0:=by
   have h1:=r7 (i+ys.length) (Nat.le_refl _)
   rw[hz (i+ys.length) (Nat.le_refl _) (by omega),List.getElem?_eq_getElem hp]at h1
   exact Option.some.inj h1
  have e1:i64.wrap (((i:Nat):Int)+((ys.length:Nat):Int))=((i+ys.length:Nat):Int):=by rw[w64 (by omega) (by omega)];omega
  have e5:i64.wrap (((i:Nat):Int)+1)=((i+1:Nat):Int):=by rw[w64 (by omega) (by omega)];omega
  obtain⟨out2,t1,t2,t3,t4⟩:=ih m (i+1) (out'.set (i+ys.length) c') (by omega) (by omega) (nR r3 _ ⟨r4,r5⟩) (by rw[List.length_set,r2];exact hl) (by rw[List.length_set,r2];exact hb) (fun q h1 h2=>by
   rw[List.length_set,r2]at h2
   rw[List.getElem?_set_ne (by omega),r7 q (by omega)]
   exact hz q (by omega) h2)
  refine⟨out2,?_,by rw[t2,List.length_set,r2],t3,?_⟩
  ·rw[eG.l0,eG.r0,decide_eq_true (by omega),brT]
   rw[dV _ _ hil,bdS,r1,bdS,e1,dM _ _ hp,bdS,lD _ _ _ hp,bdS,e5]
   exact t1
  ·rw[t4,nK G out' (i+ys.length) _ hp,hz',List.drop_eq_getElem_cons hil,lv]
   simp only[List.drop_zero,Nat.add_zero]at r6
   rw[Int.pow_succ]
   grind
theorem xU{B:Int}(xs ys:List Int):lv B (List.replicate (xs.length+ys.length) 0)+B ^ 0*(lv B (xs.drop 0)*lv B ys)=lv B xs*lv B ys:=by
 rw[oG];simp
theorem aeF(lf:Nat)(xs ys:List Int)(hx:Dg G xs)(hy:Dg G ys)(h1:xs.length≤50000)(h2:ys.length≤50000)(h3:200000≤lf):
  ∃ r,eG.f lf xs ys=some (r,())∧Dg G r∧Tr r∧r.length≤xs.length+ys.length∧lv G r=lv G xs*lv G ys:=by
 have e0:i64.wrap (((xs.length:Nat):Int)+((ys.length:Nat):Int))=((xs.length+ys.length:Nat):Int):=by rw[w64 (by omega) (by omega)];omega
 obtain⟨out,r1,r2,r3,r4⟩:=ady lf xs ys hx hy h3 (by omega) xs.length (lf+40) 0 (List.replicate (xs.length+ys.length) 0) (by omega) (by omega) (Dg.zeros (by decide) _) (by simp) (by simp;omega) (fun q _ h=>by rw[List.length_replicate]at h;rw[List.getElem?_replicate,if_pos h])
 rw[List.length_replicate]at r2
 rw[xU]at r4
 rw[eG.f,e0,oL _ _ _ (xs.length+ys.length) rfl rfl (by omega),bdS]
 rw[show((0:Nat):Int)=0 from rfl]at r1
 rw[r1,bdS,rE lf out (by omega) (by omega),bdS]
 exact⟨_,rfl,lU r3,nP _,by have:=kH out;show(tr out).length≤_;omega,by rw[kX];exact r4⟩
theorem ab2(lf:Nat)(xs:List Int)(a:Int)(i:Nat)(ys:List Int)(ha:0≤a∧a < 10)(hy:Dg 10 ys)(hi:i < xs.length)(hxa:xs[i]=a):∀ (k n j:Nat) (c:Int) (out:List Int),j+k=ys.length→k < n→0≤c→c < 10→Dg 10 out→i+ys.length≤out.length→out.length≤1000000→
  ∃ c' out',bW.l1 lf xs ys (i:Nat) n c (j:Nat) out=some ((c',out',()),())∧out'.length=out.length∧Dg 10 out'∧0≤c'∧c' < 10∧lv 10 out'+10 ^ (i+ys.length)*c'=lv 10 out+10 ^ (i+j)*(c+a*lv 10 (ys.drop j))∧∀ q,i+ys.length≤q→out'[q]? = out[q]? := by
 intro k
 induction k with
 | zero =>
  intro n j c out hj hn c0 c1 hd hl hb
  obtain⟨m,rfl⟩:=Nat.exists_eq_succ_of_ne_zero (show n≠0 by omega)
  refine⟨c,out,?_,rfl,hd,c0,c1,?_,fun q _=>rfl⟩
  ·rw[bW.l1,bW.r1,decide_eq_false (by omega),brF]
  ·rw[List.drop_of_length_le (by omega),show j=ys.length by omega];simp[lv]
 | succ k ih =>
  intro n j c out hj hn c0 c1 hd hl hb
  obtain⟨m,rfl⟩:=Nat.exists_eq_succ_of_ne_zero (show n≠0 by omega)
  have hjl:j < ys.length:=by omega
  have hp:i+j < out.length:=by omega
  have y0:=hy.at j hjl
  have o0:=hd.at (i+j) hp
  have hm:=uJ ha.1 (show a < G by simp only[G];omega) y0.1 (show ys[j] < G by simp only[G];omega)
  have hc9:c < G:=by simp only[G];omega
  have ho9:out[i+j] < G:=by simp only[G];omega
  have c0':=c0
  simp only[G]at hc9 ho9
  have e1:i64.wrap (((i:Nat):Int)+((j:Nat):Int))=((i+j:Nat):Int):=by rw[w64 (by omega) (by omega)];omega
  have e2:i64.wrap (a*ys[j])=a*ys[j]:=w64 (by omega) (by omega)
  have e3:i64.wrap (out[i+j]+a*ys[j])=out[i+j]+a*ys[j]:=w64 (by omega) (by omega)
  have e4:i64.wrap (c+(out[i+j]+a*ys[j]))=c+(out[i+j]+a*ys[j]):=w64 (by omega) (by omega)
  have e5:i64.wrap (((j:Nat):Int)+1)=((j+1:Nat):Int):=by rw[w64 (by omega) (by omega)];omega
  obtain⟨s,hs⟩:∃ s,s=c+(out[i+j]+a*ys[j]):=⟨_,rfl⟩
  have s0:0≤s:=by omega
  have d0:=Int.emod_nonneg s (show 10≠0 by decide)
  have d1:=Int.emod_lt_of_pos s (show 0 < 10 by decide)
  have dd:=Int.emod_add_mul_ediv s 10
  have q0:0≤s / 10:=Int.ediv_nonneg s0 (by decide)
  have q1:s / 10 < 10:=by
   apply Int.ediv_lt_of_lt_mul (by decide)
   have h1:a*ys[j]≤(10-1)*(10-1):=Int.mul_le_mul (by omega) (by omega) y0.1 (by decide)
   try simp only[G]at *
   omega
  obtain⟨c',out',r1,r2,r3,r4,r5,r6,r7⟩:=ih m (j+1) (s / 10) (out.set (i+j) (s % 10)) (by omega) (by omega) q0 q1 (nR hd _ ⟨d0,d1⟩) (by rw[List.length_set];exact hl) (by rw[List.length_set];exact hb)
  refine⟨c',out',?_,by rw[r2,List.length_set],r3,r4,r5,?_,fun q hq=>?_⟩
  ·rw[bW.l1,bW.r1,decide_eq_true (by omega),brT]
   rw[e1,dM _ _ hp,bdS,List.getElem?_eq_getElem hp,bdS,dV _ _ hi,bdS,dV _ _ hjl,bdS,hxa,e2,e3,e4,←hs,oK s0 (by decide),bdS,bdS,lD _ _ _ hp,bdS,nH s0 (by decide) (by omega),bdS,e5]
   exact r1
  ·rw[r6,nK 10 out (i+j) _ hp,List.drop_eq_getElem_cons hjl,lv,←Nat.add_assoc,Int.pow_succ,Int.add_assoc,ring_step _ _ s out[i+j] c a ys[j] _ _ _ dd hs]
  ·rw[r7 q hq,List.getElem?_set_ne (by omega)]
theorem ab1(lf:Nat)  (xs ys:List Int)(hx:Dg 10 xs)(hy:Dg 10 ys)(h3:200000≤lf)(hly:ys.length≤100000): ∀ (k n i:Nat) (out:List Int),i+k=xs.length→k < n→Dg 10 out→out.length=xs.length+ys.length→out.length≤1000000→(∀ q,i+ys.length≤q→q < out.length→out[q]? = some 0)→
  ∃ out',bW.l0 lf xs ys n (i:Nat) out=some ((out',()),())∧out'.length=out.length∧Dg 10 out'∧lv 10 out'=lv 10 out+10 ^ i*(lv 10 (xs.drop i)*lv 10 ys):=by
 intro k
 induction k with
 | zero =>
  intro n i out hi hn hd hl hb hz
  obtain⟨m,rfl⟩:=Nat.exists_eq_succ_of_ne_zero (show n≠0 by omega)
  refine⟨out,?_,rfl,hd,?_⟩
  ·rw[bW.l0,bW.r0,decide_eq_false (by omega),brF]
  ·rw[List.drop_of_length_le (by omega)];simp[lv]
 | succ k ih =>
  intro n i out hi hn hd hl hb hz
  obtain⟨m,rfl⟩:=Nat.exists_eq_succ_of_ne_zero (show n≠0 by omega)
  have hil:i < xs.length:=by omega
  have x0:=hx.at i hil
  obtain⟨c',out',r1,r2,r3,r4,r5,r6,r7⟩:=ab2 lf xs xs[i] i ys x0 hy hil rfl ys.length (lf+40) 0 0 out (by omega) (by omega) (by decide) (by decide) hd (by omega) hb
  rw[show((0:Nat):Int)=0 from rfl]at r1
  have hp:i+ys.length < out'.length:=by rw[r2];omega
  have hz':out'[i+ys.length]=0:=by
   have h1:=r7 (i+ys.length) (Nat.le_refl _)
   rw[hz (i+ys.length) (Nat.le_refl _) (by omega),List.getElem?_eq_getElem hp]at h1
   exact Option.some.inj h1
  have e1:i64.wrap (((i:Nat):Int)+((ys.length:Nat):Int))=((i+ys.length:Nat):Int):=by rw[w64 (by omega) (by omega)];omega
  have e5:i64.wrap (((i:Nat):Int)+1)=((i+1:Nat):Int):=by rw[w64 (by omega) (by omega)];omega
  obtain⟨out2,t1,t2,t3,t4⟩:=ih m (i+1) (out'.set (i+ys.length) c') (by omega) (by omega) (nR r3 _ ⟨r4,r5⟩) (by rw[List.length_set,r2];exact hl) (by rw[List.length_set,r2];exact hb) (fun q h1 h2=>by
   rw[List.length_set,r2]at h2
   rw[List.getElem?_set_ne (by omega),r7 q (by omega)]
   exact hz q (by omega) h2)
  refine⟨out2,?_,by rw[t2,List.length_set,r2],t3,?_⟩
  ·rw[bW.l0,bW.r0,decide_eq_true (by omega),brT]
   rw[r1,bdS,e1,dM _ _ hp,bdS,lD _ _ _ hp,bdS,e5]
   exact t1
  ·rw[t4,nK 10 out' (i+ys.length) _ hp,hz',List.drop_eq_getElem_cons hil,lv]
   simp only[List.drop_zero,Nat.add_zero]at r6
   rw[Int.pow_succ]
   grind
theorem adh(lf:Nat)(xs ys:List Int)(hx:Dg 10 xs)(hy:Dg 10 ys)(h1:xs.length≤50000)(h2:ys.length≤50000)(h3:200000≤lf):
  ∃ r,bW.f lf xs ys=some (r,())∧Dg 10 r∧r.length≤xs.length+ys.length∧lv 10 r=lv 10 xs*lv 10 ys:=by
 have e0:i64.wrap (((xs.length:Nat):Int)+((ys.length:Nat):Int))=((xs.length+ys.length:Nat):Int):=by rw[w64 (by omega) (by omega)];omega
 obtain⟨out,r1,r2,r3,r4⟩:=ab1 lf xs ys hx hy h3 (by omega) xs.length (lf+40) 0 (List.replicate (xs.length+ys.length) 0) (by omega) (by omega) (Dg.zeros (by decide) _) (by simp) (by simp;omega) (fun q _ h=>by rw[List.length_replicate]at h;rw[List.getElem?_replicate,if_pos h])
 rw[List.length_replicate]at r2
 rw[xU]at r4
 rw[bW.f,e0,oL _ _ _ (xs.length+ys.length) rfl rfl (by omega),bdS]
 rw[show((0:Nat):Int)=0 from rfl]at r1
 rw[r1,bdS,pJ lf out (by omega) (by omega),bdS]
 exact⟨_,rfl,lU r3,by have:=kH out;show(tr out).length≤_;omega,by rw[kX];exact r4⟩
end Go.N
namespace Go.N
open Go.IntKind (i64)
open Go Go.Q Go.Rx
theorem mV(B:Int)(l:List Int)(k:Nat)(h:k≤l.length):lv B l=lv B (l.take k)+B ^ k*lv B (l.drop k):=by
 have:=qG B (l.take k) (l.drop k)
 rw[List.take_append_drop,List.length_take,Nat.min_eq_left h]at this
 exact this
theorem oD(B:Int)(l:List Int)(k:Nat)(h:k < l.length):lv B (l.drop k)=l[k]+B*lv B (l.drop (k+1)):=by
 rw[List.drop_eq_getElem_cons h,lv]
theorem wz(B:Int)(l:List Int)(k:Nat)(h:k < l.length):lv B (l.take (k+1))=lv B (l.take k)+B ^ k*l[k]:=by
 rw[←List.take_append_getElem h,qG,List.length_take,Nat.min_eq_left (by omega)];simp[lv]
theorem aaC(P B d o x r v r1 A T:Int)(h:r1+d*v=r*B+x):d*(A+P*(v-0))+(P*r1+T)=d*A+(P*B*r+(T+P*x)):=by grind
theorem adp(lf:Nat)(xs:List Int)(d:Int)(hd0:0 < d)(hd1:d < G)(hx:Dg G xs)(hb:xs.length≤1000000):∀ (k n:Nat) (out:List Int) (r:Int),k≤xs.length→k < n→out.length=xs.length→0≤r→r < d→Dg G out→(∀ q,q < k→out[q]? = some 0)→
  ∃ out' r',dX.l0 lf d xs n ((k:Nat)-1:Int) out r=some ((out',r',()),())∧out'.length=out.length∧Dg G out'∧0≤r'∧r' < d∧d*lv G out'+r'=d*lv G out+(G ^ k*r+lv G (xs.take k)):=by
 intro k
 induction k with
 | zero =>
  intro n out r hk hn ho r0 r1 hdo hz
  obtain⟨m,rfl⟩:=Nat.exists_eq_succ_of_ne_zero (show n≠0 by omega)
  refine⟨out,r,?_,rfl,hdo,r0,r1,by simp[lv]⟩
  rw[dX.l0,dX.r0,decide_eq_false (by omega),brF]
 | succ k ih =>
  intro n out r hk hn ho r0 r1 hdo hz
  obtain⟨m,rfl⟩:=Nat.exists_eq_succ_of_ne_zero (show n≠0 by omega)
  have hkl:k < xs.length:=by omega
  have x0:=hx.at k hkl
  have o0:out[k]'(by omega)=0:=by
   have h1:=hz k (by omega)
   rw[List.getElem?_eq_getElem (by omega)]at h1
   exact Option.some.inj h1
  simp only[G]at x0 hd1
  have e0:((k+1:Nat):Int)-1=((k:Nat):Int):=by omega
  have e1:i64.wrap (r*1000000000)=r*1000000000:=w64 (by omega) (by omega)
  obtain⟨s,hs⟩:∃ s,s=r*1000000000+xs[k]:=⟨_,rfl⟩
  have e2:i64.wrap s=s:=w64 (by omega) (by omega)
  have e3:i64.wrap (((k:Nat):Int)-1)=((k:Nat):Int)-1:=w64 (by omega) (by omega)
  have s0:0≤s:=by omega
  have d0:=Int.emod_nonneg s (show d≠0 by omega)
  have d1:=Int.emod_lt_of_pos s hd0
  have dd:=Int.emod_add_mul_ediv s d
  have q0:0≤s / d:=Int.ediv_nonneg s0 (by omega)
  have q1:s / d < G:=by
   apply Int.ediv_lt_of_lt_mul hd0
   simp only[G]
   omega
  obtain⟨out',r',t1,t2,t3,t4,t5,t6⟩:=ih m (out.set k (s / d)) (s % d) (by omega) (by omega) (by rw[List.length_set];exact ho) d0 d1 (nR hdo _ ⟨q0,q1⟩) (fun q hq=>by
   rw[List.getElem?_set_ne (by omega)];exact hz q (by omega))
  refine⟨out',r',?_,by rw[t2,List.length_set],t3,t4,t5,?_⟩
  ·rw[dX.l0,dX.r0,e0,decide_eq_true (by omega),brT,dV _ _ hkl,bdS,e1,←hs,e2,nH s0 hd0 (by omega),bdS,oK s0 (by omega),bdS,dM _ _ (by omega),bdS,lD _ _ _ (by omega),bdS,e3]
   exact t1
  ·rw[t6,nK G out k _ (by omega),o0,wz G xs k hkl,Int.pow_succ]
   exact aaC _ _ _ 0 _ _ _ _ _ _ (by rw[dd,hs])
theorem abx(lf:Nat)(xs:List Int)(d:Int)(hd0:0 < d)(hd1:d < G)(hx:Dg G xs)(hb:xs.length≤100000)(h3:200000≤lf):
  ∃ q r,dX.f lf xs d=some (q,r,())∧Dg G q∧Tr q∧q.length≤xs.length∧0≤r∧r < d∧lv G xs=d*lv G q+r:=by
 obtain⟨out,r,t1,t2,t3,t4,t5,t6⟩:=adp lf xs d hd0 hd1 hx (by omega) xs.length (lf+40) (List.replicate xs.length 0) 0 (Nat.le_refl _) (by omega) (by simp) (by omega) hd0 (Dg.zeros (by decide) _) (fun q hq=>by rw[List.getElem?_replicate,if_pos hq])
 rw[List.length_replicate]at t2
 refine⟨tr out,r,?_,lU t3,nP _,by have:=kH out;omega,t4,t5,?_⟩
 ·rw[dX.f,oL _ _ _ xs.length rfl rfl (by omega),bdS,w64 (by omega) (by omega),t1,bdS,rE lf out (by omega) (by omega),bdS]
 ·rw[kX,t6,oG,List.take_of_length_le (Nat.le_refl _)];simp
theorem afM(lf:Nat)(v3:List Int)(v4 v5:Int)(a:Int)(i:Nat)(ys:List Int)(ha:0≤a∧a < G)(hy:Dg G ys):∀ (k n j:Nat) (c:Int) (out:List Int),j+k=ys.length→k < n→0≤c→c < G→Dg G out→i+ys.length≤out.length→out.length≤1000000→
  ∃ c' out',ay.l1 lf (i:Nat) a v3 v4 v5 ((ys.length:Nat):Int) ys n c (j:Nat) out=some ((c',out',()),())∧out'.length=out.length∧Dg G out'∧0≤c'∧c' < G∧lv G out'+G ^ (i+ys.length)*c'=lv G out+G ^ (i+j)*(c+a*lv G (ys.drop j))∧∀ q,i+ys.length≤q→out'[q]? = out[q]? := by
 intro k
 induction k with
 | zero =>
  intro n j c out hj hn c0 c1 hd hl hb
  obtain⟨m,rfl⟩:=Nat.exists_eq_succ_of_ne_zero (show n≠0 by omega)
  refine⟨c,out,?_,rfl,hd,c0,c1,?_,fun q _=>rfl⟩
  ·rw[ay.l1,ay.r1,decide_eq_false (by omega),brF]
  ·rw[List.drop_of_length_le (by omega),show j=ys.length by omega];simp[lv]
 | succ k ih =>
  intro n j c out hj hn c0 c1 hd hl hb
  obtain⟨m,rfl⟩:=Nat.exists_eq_succ_of_ne_zero (show n≠0 by omega)
  have hjl:j < ys.length:=by omega
  have hp:i+j < out.length:=by omega
  have y0:=hy.at j hjl
  have o0:=hd.at (i+j) hp
  have hm:=uJ ha.1 (show a < G by omega) y0.1 (show ys[j] < G by omega)
  have hc9:c < G:=by omega
  have ho9:out[i+j] < G:=by omega
  have c0':=c0
  simp only[G]at hc9 ho9
  have e1:i64.wrap (((i:Nat):Int)+((j:Nat):Int))=((i+j:Nat):Int):=by rw[w64 (by omega) (by omega)];omega
  have e2:i64.wrap (a*ys[j])=a*ys[j]:=w64 (by omega) (by omega)
  have e3:i64.wrap (out[i+j]+a*ys[j])=out[i+j]+a*ys[j]:=w64 (by omega) (by omega)
  have e4:i64.wrap (c+(out[i+j]+a*ys[j]))=c+(out[i+j]+a*ys[j]):=w64 (by omega) (by omega)
  have e5:i64.wrap (((j:Nat):Int)+1)=((j+1:Nat):Int):=by rw[w64 (by omega) (by omega)];omega
  obtain⟨s,hs⟩:∃ s,s=c+(out[i+j]+a*ys[j]):=⟨_,rfl⟩
  have s0:0≤s:=by omega
  have d0:=Int.emod_nonneg s (show G≠0 by decide)
  have d1:=Int.emod_lt_of_pos s (show 0 < G by decide)
  have dd:=Int.emod_add_mul_ediv s G
  have q0:0≤s / G:=Int.ediv_nonneg s0 (by decide)
  have q1:s / G < G:=by
   apply Int.ediv_lt_of_lt_mul (by decide)
   have h1:a*ys[j]≤(G-1)*(G-1):=Int.mul_le_mul (by omega) (by omega) y0.1 (by decide)
   try simp only[G]at *
   omega
  obtain⟨c',out',r1,r2,r3,r4,r5,r6,r7⟩:=ih m (j+1) (s / G) (out.set (i+j) (s % G)) (by omega) (by omega) q0 q1 (nR hd _ ⟨d0,d1⟩) (by rw[List.length_set];exact hl) (by rw[List.length_set];exact hb)
  refine⟨c',out',?_,by rw[r2,List.length_set],r3,r4,r5,?_,fun q hq=>?_⟩
  ·rw[ay.l1,ay.r1,decide_eq_true (by omega),brT]
   rw[dM _ _ hjl,bdS,List.getElem?_eq_getElem hjl,bdS,e1,dM _ _ hp,bdS,List.getElem?_eq_getElem hp,bdS,e2,e3,e4,←hs,oK s0 (by decide),bdS,nH s0 (by decide) (by omega),bdS,bdS,lD _ _ _ hp,bdS,e5]
   exact r1
  ·rw[r6,nK G out (i+j) _ hp,List.drop_eq_getElem_cons hjl,lv,←Nat.add_assoc,Int.pow_succ,Int.add_assoc,ring_step _ _ s out[i+j] c a ys[j] _ _ _ dd hs]
  ·rw[r7 q hq,List.getElem?_set_ne (by omega)]
theorem afL(lf:Nat)  (xs ys:List Int)(hx:Dg G xs)(hy:Dg G ys)(h3:200000≤lf)(hly:ys.length≤100000): ∀ (k n i:Nat) (out:List Int),i+k=xs.length→k < n→Dg G out→out.length=xs.length+ys.length→out.length≤1000000→(∀ q,i+ys.length≤q→q < out.length→out[q]? = some 0)→
  ∃ out',ay.l0 lf xs ((xs.length:Nat):Int) ys n (i:Nat) out=some ((out',()),())∧out'.length=out.length∧Dg G out'∧lv G out'=lv G out+G ^ i*(lv G (xs.drop i)*lv G ys):=by
 intro k
 induction k with
 | zero =>
  intro n i out hi hn hd hl hb hz
  obtain⟨m,rfl⟩:=Nat.exists_eq_succ_of_ne_zero (show n≠0 by omega)
  refine⟨out,?_,rfl,hd,?_⟩
  ·rw[ay.l0,ay.r0,decide_eq_false (by omega),brF]
  ·rw[List.drop_of_length_le (by omega)];simp[lv]
 | succ k ih =>
  intro n i out hi hn hd hl hb hz
  obtain⟨m,rfl⟩:=Nat.exists_eq_succ_of_ne_zero (show n≠0 by omega)
  have hil:i < xs.length:=by omega
  have x0:=hx.at i hil
  obtain⟨c',out',r1,r2,r3,r4,r5,r6,r7⟩:=afM lf xs ((xs.length:Nat):Int) (i:Nat) xs[i] i ys x0 hy ys.length (lf+40) 0 0 out (by omega) (by omega) (by decide) (by decide) hd (by omega) hb
  rw[show((0:Nat):Int)=0 from rfl]at r1
  have hp:i+ys.length < out'.length:=by rw[r2];omega
  have hz':out'[i+ys.length]=0:=by
   have h1:=r7 (i+ys.length) (Nat.le_refl _)
   rw[hz (i+ys.length) (Nat.le_refl _) (by omega),List.getElem?_eq_getElem hp]at h1
   exact Option.some.inj h1
  have e1:i64.wrap (((i:Nat):Int)+((ys.length:Nat):Int))=((i+ys.length:Nat):Int):=by rw[w64 (by omega) (by omega)];omega
  have e5:i64.wrap (((i:Nat):Int)+1)=((i+1:Nat):Int):=by rw[w64 (by omega) (by omega)];omega
  obtain⟨out2,t1,t2,t3,t4⟩:=ih m (i+1) (out'.set (i+ys.length) c') (by omega) (by omega) (nR r3 _ ⟨r4,r5⟩) (by rw[List.length_set,r2];exact hl) (by rw[List.length_set,r2];exact hb) (fun q h1 h2=>by
   rw[List.length_set,r2]at h2
   rw[List.getElem?_set_ne (by omega),r7 q (by omega)]
   exact hz q (by omega) h2)
  refine⟨out2,?_,by rw[t2,List.length_set,r2],t3,?_⟩
  ·rw[ay.l0,ay.r0,decide_eq_true (by omega),brT]
   rw[dV _ _ hil,bdS,r1,bdS,e1,dM _ _ hp,bdS,lD _ _ _ hp,bdS,e5]
   exact t1
  ·rw[t4,nK G out' (i+ys.length) _ hp,hz',List.drop_eq_getElem_cons hil,lv]
   simp only[List.drop_zero,Nat.add_zero]at r6
   rw[Int.pow_succ]
   grind
theorem afO(lf:Nat)(v3:List Int)(v4 v5:Int)(v9 v10:List Int)(a:Int)(i:Nat)(ys:List Int)(ha:0≤a∧a < G)(hy:Dg G ys):∀ (k n j:Nat) (c:Int) (out:List Int),j+k=ys.length→k < n→0≤c→c < G→Dg G out→i+ys.length≤out.length→out.length≤1000000→
  ∃ c' out',ay.l5 lf (i:Nat) a v3 v4 v5 ((ys.length:Nat):Int) ys v9 v10 n c (j:Nat) out=some ((c',out',()),())∧out'.length=out.length∧Dg G out'∧0≤c'∧c' < G∧lv G out'+G ^ (i+ys.length)*c'=lv G out+G ^ (i+j)*(c+a*lv G (ys.drop j))∧∀ q,i+ys.length≤q→out'[q]? = out[q]? := by
 intro k
 induction k with
 | zero =>
  intro n j c out hj hn c0 c1 hd hl hb
  obtain⟨m,rfl⟩:=Nat.exists_eq_succ_of_ne_zero (show n≠0 by omega)
  refine⟨c,out,?_,rfl,hd,c0,c1,?_,fun q _=>rfl⟩
  ·rw[ay.l5,ay.r5,decide_eq_false (by omega),brF]
  ·rw[List.drop_of_length_le (by omega),show j=ys.length by omega];simp[lv]
 | succ k ih =>
  intro n j c out hj hn c0 c1 hd hl hb
  obtain⟨m,rfl⟩:=Nat.exists_eq_succ_of_ne_zero (show n≠0 by omega)
  have hjl:j < ys.length:=by omega
  have hp:i+j < out.length:=by omega
  have y0:=hy.at j hjl
  have o0:=hd.at (i+j) hp
  have hm:=uJ ha.1 (show a < G by omega) y0.1 (show ys[j] < G by omega)
  have hc9:c < G:=by omega
  have ho9:out[i+j] < G:=by omega
  have c0':=c0
  simp only[G]at hc9 ho9
  have e1:i64.wrap (((i:Nat):Int)+((j:Nat):Int))=((i+j:Nat):Int):=by rw[w64 (by omega) (by omega)];omega
  have e2:i64.wrap (a*ys[j])=a*ys[j]:=w64 (by omega) (by omega)
  have e3:i64.wrap (out[i+j]+a*ys[j])=out[i+j]+a*ys[j]:=w64 (by omega) (by omega)
  have e4:i64.wrap (c+(out[i+j]+a*ys[j]))=c+(out[i+j]+a*ys[j]):=w64 (by omega) (by omega)
  have e5:i64.wrap (((j:Nat):Int)+1)=((j+1:Nat):Int):=by rw[w64 (by omega) (by omega)];omega
  obtain⟨s,hs⟩:∃ s,s=c+(out[i+j]+a*ys[j]):=⟨_,rfl⟩
  have s0:0≤s:=by omega
  have d0:=Int.emod_nonneg s (show G≠0 by decide)
  have d1:=Int.emod_lt_of_pos s (show 0 < G by decide)
  have dd:=Int.emod_add_mul_ediv s G
  have q0:0≤s / G:=Int.ediv_nonneg s0 (by decide)
  have q1:s / G < G:=by
   apply Int.ediv_lt_of_lt_mul (by decide)
   have h1:a*ys[j]≤(G-1)*(G-1):=Int.mul_le_mul (by omega) (by omega) y0.1 (by decide)
   try simp only[G]at *
   omega
  obtain⟨c',out',r1,r2,r3,r4,r5,r6,r7⟩:=ih m (j+1) (s / G) (out.set (i+j) (s % G)) (by omega) (by omega) q0 q1 (nR hd _ ⟨d0,d1⟩) (by rw[List.length_set];exact hl) (by rw[List.length_set];exact hb)
  refine⟨c',out',?_,by rw[r2,List.length_set],r3,r4,r5,?_,fun q hq=>?_⟩
  ·rw[ay.l5,ay.r5,decide_eq_true (by omega),brT]
   rw[dM _ _ hjl,bdS,List.getElem?_eq_getElem hjl,bdS,e1,dM _ _ hp,bdS,List.getElem?_eq_getElem hp,bdS,e2,e3,e4,←hs,oK s0 (by decide),bdS,nH s0 (by decide) (by omega),bdS,bdS,lD _ _ _ hp,bdS,e5]
   exact r1
  ·rw[r6,nK G out (i+j) _ hp,List.drop_eq_getElem_cons hjl,lv,←Nat.add_assoc,Int.pow_succ,Int.add_assoc,ring_step _ _ s out[i+j] c a ys[j] _ _ _ dd hs]
  ·rw[r7 q hq,List.getElem?_set_ne (by omega)]
theorem afN(lf:Nat)(v4 v5:List Int)  (xs ys:List Int)(hx:Dg G xs)(hy:Dg G ys)(h3:200000≤lf)(hly:ys.length≤100000): ∀ (k n i:Nat) (out:List Int),i+k=xs.length→k < n→Dg G out→out.length=xs.length+ys.length→out.length≤1000000→(∀ q,i+ys.length≤q→q < out.length→out[q]? = some 0)→
  ∃ out',ay.l4 lf xs ((xs.length:Nat):Int) ys v4 v5 n (i:Nat) out=some ((out',()),())∧out'.length=out.length∧Dg G out'∧lv G out'=lv G out+G ^ i*(lv G (xs.drop i)*lv G ys):=by
 intro k
 induction k with
 | zero =>
  intro n i out hi hn hd hl hb hz
  obtain⟨m,rfl⟩:=Nat.exists_eq_succ_of_ne_zero (show n≠0 by omega)
  refine⟨out,?_,rfl,hd,?_⟩
  ·rw[ay.l4,ay.r4,decide_eq_false (by omega),brF]
  ·rw[List.drop_of_length_le (by omega)];simp[lv]
 | succ k ih =>
  intro n i out hi hn hd hl hb hz
  obtain⟨m,rfl⟩:=Nat.exists_eq_succ_of_ne_zero (show n≠0 by omega)
  have hil:i < xs.length:=by omega
  have x0:=hx.at i hil
  obtain⟨c',out',r1,r2,r3,r4,r5,r6,r7⟩:=afO lf xs ((xs.length:Nat):Int) (i:Nat) v4 v5 xs[i] i ys x0 hy ys.length (lf+40) 0 0 out (by omega) (by omega) (by decide) (by decide) hd (by omega) hb
  rw[show((0:Nat):Int)=0 from rfl]at r1
  have hp:i+ys.length < out'.length:=by rw[r2];omega
  have hz':out'[i+ys.length]=0:=by
   have h1:=r7 (i+ys.length) (Nat.le_refl _)
   rw[hz (i+ys.length) (Nat.le_refl _) (by omega),List.getElem?_eq_getElem hp]at h1
   exact Option.some.inj h1
  have e1:i64.wrap (((i:Nat):Int)+((ys.length:Nat):Int))=((i+ys.length:Nat):Int):=by rw[w64 (by omega) (by omega)];omega
  have e5:i64.wrap (((i:Nat):Int)+1)=((i+1:Nat):Int):=by rw[w64 (by omega) (by omega)];omega
  obtain⟨out2,t1,t2,t3,t4⟩:=ih m (i+1) (out'.set (i+ys.length) c') (by omega) (by omega) (nR r3 _ ⟨r4,r5⟩) (by rw[List.length_set,r2];exact hl) (by rw[List.length_set,r2];exact hb) (fun q h1 h2=>by
   rw[List.length_set,r2]at h2
   rw[List.getElem?_set_ne (by omega),r7 q (by omega)]
   exact hz q (by omega) h2)
  refine⟨out2,?_,by rw[t2,List.length_set,r2],t3,?_⟩
  ·rw[ay.l4,ay.r4,decide_eq_true (by omega),brT]
   rw[dV _ _ hil,bdS,r1,bdS,e1,dM _ _ hp,bdS,lD _ _ _ hp,bdS,e5]
   exact t1
  ·rw[t4,nK G out' (i+ys.length) _ hp,hz',List.drop_eq_getElem_cons hil,lv]
   simp only[List.drop_zero,Nat.add_zero]at r6
   rw[Int.pow_succ]
   grind
theorem abC(l:List Int):l.take (tr l).length=tr l:=by
 refine wL (p:=fun l=>l.take (tr l).length=tr l) l rfl (fun l h=>?_) fun l x h=>?_
 ·rw[nN,List.take_append_of_le_length (kH l),h]
 ·rw[pO _ _ h,List.take_length]
theorem vk(n:Nat)(h:Int)(k:Nat)(e:h=k)(hk:k≤n):cutB n none (some h)=some (0,k):=by
 subst e
 unfold cutB Rx.bnd
 simp only[Int.toNat_natCast]
 rw[if_pos ⟨by omega,by omega⟩]
 simp
theorem acf(n:Nat)(i j:Int)(a b:Nat)(ei:i=a)(ej:j=b)(h1:a≤b)(h2:b≤n):cutB n (some i) (some j)=some (a,b-a):=by
 subst ei;subst ej
 unfold cutB Rx.bnd
 simp only[Int.toNat_natCast]
 rw[if_pos ⟨by omega,by omega⟩]
 simp only[Option.bind_some]
 rw[if_pos ⟨by omega,by omega⟩]
 simp
theorem afR(lf:Nat)(v1:List Int)(l:List Int)(hb:l.length≤1000000):∀ (k n:Nat),k≤l.length→k < n→ay.l3 lf v1 l n k=some (((tr (l.take k)).length,v1,l,()),()):=by
 intro k
 induction k with
 | zero =>
  intro n hk hn
  obtain⟨m,rfl⟩:=Nat.exists_eq_succ_of_ne_zero (show n≠0 by omega)
  rw[ay.l3,ay.r3,decide_eq_false (by omega),brF]
  simp[zf]
 | succ k ih =>
  intro n hk hn
  obtain⟨m,rfl⟩:=Nat.exists_eq_succ_of_ne_zero (show n≠0 by omega)
  have hkl:k < l.length:=by omega
  have e:i64.wrap (((k+1:Nat):Int)-1)=((k:Nat):Int):=by rw[w64 (by omega) (by omega)];omega
  rw[ay.l3,ay.r3,decide_eq_true (by omega),brT,e,dM _ _ (by omega),bdS,Nat.zero_add,List.getElem?_eq_getElem hkl,bdS,←List.take_append_getElem hkl]
  by_cases h:l[k]=0
  ·rw[beq_iff_eq.2 h,brT,vk _ _ k rfl (by omega),bdS,h,nN]
   exact ih m (by omega) (by omega)
  ·rw[beq_eq_false_iff_ne.2 h,brF,pO _ _ h,List.take_append_getElem hkl,List.length_take,Nat.min_eq_left (by omega)]
theorem afQ(lf:Nat)(v1:List Int)(l:List Int)(hb:l.length≤1000000)(n:Nat)(hn:l.length+1 < n):
  (l.getLast?≠some 0∧ay.l2 lf v1 l n=some (true,(v1,l,()),((0,[],[],()),())))∨
  (l.getLast? = some 0∧ay.l2 lf v1 l n=some (false,([],[],()),(((tr l).length,v1,l,()),()))):=by
 obtain⟨m,rfl⟩:=Nat.exists_eq_succ_of_ne_zero (show n≠0 by omega)
 rw[ay.l2,ay.r2]
 by_cases h0:l=[]
 ·subst h0
  left
  refine⟨by simp,?_⟩
  rw[decide_eq_false (by simp),brF]
 have hl:0 < l.length:=List.length_pos_iff.2 h0
 have e:i64.wrap (((l.length:Nat):Int)-1)=((l.length-1:Nat):Int):=by rw[w64 (by omega) (by omega)];omega
 rw[decide_eq_true (by omega),brT,e,dM _ _ (by omega),bdS,List.getElem?_eq_getElem (by omega),bdS,List.getLast?_eq_getElem?,List.getElem?_eq_getElem (by omega)]
 by_cases h:l[l.length-1]'(by omega)=0
 ·right
  refine⟨by rw[h],?_⟩
  rw[beq_iff_eq.2 h,brT,vk _ _ (l.length-1) rfl (by omega),bdS,afR lf v1 l hb (l.length-1) m (by omega) (by omega),bdS]
  have:tr l=tr (l.take (l.length-1)):=by
   conv=>lhs;rw[←List.take_append_drop (l.length-1) l,List.drop_eq_getElem_cons (by omega),h,List.drop_of_length_le (by omega)]
   rw[nN]
  rw[this]
 ·left
  refine⟨by intro x;exact h (Option.some.inj x),?_⟩
  rw[beq_eq_false_iff_ne.2 h,brF]
theorem afT(lf:Nat)(v1 v2 v3:List Int)(l:List Int)(hb:l.length≤1000000):∀ (k n:Nat),k≤l.length→k < n→ay.l7 lf v1 v2 v3 l n k=some (((tr (l.take k)).length,v1,v2,v3,l,()),()):=by
 intro k
 induction k with
 | zero =>
  intro n hk hn
  obtain⟨m,rfl⟩:=Nat.exists_eq_succ_of_ne_zero (show n≠0 by omega)
  rw[ay.l7,ay.r7,decide_eq_false (by omega),brF]
  simp[zf]
 | succ k ih =>
  intro n hk hn
  obtain⟨m,rfl⟩:=Nat.exists_eq_succ_of_ne_zero (show n≠0 by omega)
  have hkl:k < l.length:=by omega
  have e:i64.wrap (((k+1:Nat):Int)-1)=((k:Nat):Int):=by rw[w64 (by omega) (by omega)];omega
  rw[ay.l7,ay.r7,decide_eq_true (by omega),brT,e,dM _ _ (by omega),bdS,Nat.zero_add,List.getElem?_eq_getElem hkl,bdS,←List.take_append_getElem hkl]
  by_cases h:l[k]=0
  ·rw[beq_iff_eq.2 h,brT,vk _ _ k rfl (by omega),bdS,h,nN]
   exact ih m (by omega) (by omega)
  ·rw[beq_eq_false_iff_ne.2 h,brF,pO _ _ h,List.take_append_getElem hkl,List.length_take,Nat.min_eq_left (by omega)]
theorem afS(lf:Nat)(v1 v2 v3:List Int)(l:List Int)(hb:l.length≤1000000)(n:Nat)(hn:l.length+1 < n):
  (l.getLast?≠some 0∧ay.l6 lf v1 v2 v3 l n=some (true,(v1,v2,v3,l,()),((0,[],[],[],[],()),())))∨
  (l.getLast? = some 0∧ay.l6 lf v1 v2 v3 l n=some (false,([],[],[],[],()),(((tr l).length,v1,v2,v3,l,()),()))):=by
 obtain⟨m,rfl⟩:=Nat.exists_eq_succ_of_ne_zero (show n≠0 by omega)
 rw[ay.l6,ay.r6]
 by_cases h0:l=[]
 ·subst h0
  left
  refine⟨by simp,?_⟩
  rw[decide_eq_false (by simp),brF]
 have hl:0 < l.length:=List.length_pos_iff.2 h0
 have e:i64.wrap (((l.length:Nat):Int)-1)=((l.length-1:Nat):Int):=by rw[w64 (by omega) (by omega)];omega
 rw[decide_eq_true (by omega),brT,e,dM _ _ (by omega),bdS,List.getElem?_eq_getElem (by omega),bdS,List.getLast?_eq_getElem?,List.getElem?_eq_getElem (by omega)]
 by_cases h:l[l.length-1]'(by omega)=0
 ·right
  refine⟨by rw[h],?_⟩
  rw[beq_iff_eq.2 h,brT,vk _ _ (l.length-1) rfl (by omega),bdS,afT lf v1 v2 v3 l hb (l.length-1) m (by omega) (by omega),bdS]
  have:tr l=tr (l.take (l.length-1)):=by
   conv=>lhs;rw[←List.take_append_drop (l.length-1) l,List.drop_eq_getElem_cons (by omega),h,List.drop_of_length_le (by omega)]
   rw[nN]
  rw[this]
 ·left
  refine⟨by intro x;exact h (Option.some.inj x),?_⟩
  rw[beq_eq_false_iff_ne.2 h,brF]
theorem zK{B P v1 v2 V0 w2 W0 q t:Int}(hP:0 < P)(hV:0≤V0)(hW:W0 < P)(hq:0≤q)(h:q*v2 >(t-q*v1)*B+w2):(t*B+w2)*P+W0 < q*((v1*B+v2)*P+V0):=by
 have h1:t*B+w2+1≤q*(v1*B+v2):=by
  have:q*(v1*B+v2)=q*v2-(t-q*v1)*B+t*B:=by grind
  omega
 have h2:=Int.mul_le_mul_of_nonneg_right h1 (Int.le_of_lt hP)
 have h3:=Int.mul_nonneg hq hV
 have e1:(t*B+w2+1)*P=(t*B+w2)*P+P:=by grind
 have e2:q*((v1*B+v2)*P+V0)=q*(v1*B+v2)*P+q*V0:=by grind
 omega
theorem abQ{B P v1 v2 V0 w2 W0 t:Int}(hB:0 < B)(hP:0 < P)(h1:0 < v1)(h2:0≤v2)(hV:0≤V0)(hW:W0 < P)(hw:w2 < B)(q:Int)(hq:0≤q)(h:t < (q+1)*v1):(t*B+w2)*P+W0 < (q+1)*((v1*B+v2)*P+V0):=by
 refine zK hP hV hW (by omega) ?_
 have a:(t-(q+1)*v1)*B≤(-1)*B:=Int.mul_le_mul_of_nonneg_right (by omega) (Int.le_of_lt hB)
 have b:0≤(q+1)*v2:=Int.mul_nonneg (by omega) h2
 omega
theorem abR{B P v1 v2 V0 w2 W0 q t:Int}(hP:0 < P)(hB:0 < B)(hv:1≤v1)(hv2:0≤v2)(hv3:v2 < B)(hV:0≤V0)(hV2:V0 < P)(hW:0≤W0)(hw:0≤w2)(hq:0≤q)(hq2:q < B)(h:t-q*v1≥B∨q*v2≤(t-q*v1)*B+w2):(q-1)*((v1*B+v2)*P+V0)≤(t*B+w2)*P+W0:=by
 have c1:q*V0≤B*P:=Int.mul_le_mul (by omega) (by omega) hV (by omega)
 have c2:B*P≤v1*(B*P):=by
  have:=Int.mul_le_mul_of_nonneg_right hv (Int.le_of_lt (Int.mul_pos hB hP))
  omega
 have c3:0≤v2*P:=Int.mul_nonneg hv2 (Int.le_of_lt hP)
 have key:q*((v1*B+v2)*P)≤(t*B+w2)*P+W0-q*V0+B*P:=by
  rcases h with h | h
  ·have a1:B*(B*P)≤(t-q*v1)*(B*P):=Int.mul_le_mul_of_nonneg_right h (Int.le_of_lt (Int.mul_pos hB hP))
   have a2:0≤w2*P:=Int.mul_nonneg hw (Int.le_of_lt hP)
   have a3:q*(v2*P+V0)≤B*(B*P):=by
    have b1:v2*P≤(B-1)*P:=Int.mul_le_mul_of_nonneg_right (by omega) (Int.le_of_lt hP)
    have b2:(B-1)*P=B*P-P:=by grind
    exact Int.mul_le_mul (by omega) (by omega) (by omega) (by omega)
   have e1:q*((v1*B+v2)*P)=t*(B*P)-(t-q*v1)*(B*P)+q*(v2*P+V0)-q*V0:=by grind
   have e2:(t*B+w2)*P=t*(B*P)+w2*P:=by grind
   have:0 < B*P:=Int.mul_pos hB hP
   omega
  ·have a1:q*(v1*B+v2)≤t*B+w2:=by
    have:q*(v1*B+v2)=q*v2-(t-q*v1)*B+t*B:=by grind
    omega
   have a2:=Int.mul_le_mul_of_nonneg_right a1 (Int.le_of_lt hP)
   have:q*(v1*B+v2)*P=q*((v1*B+v2)*P):=by grind
   omega
 have e1:(q-1)*((v1*B+v2)*P+V0)=q*((v1*B+v2)*P)+q*V0-v1*(B*P)-v2*P-V0:=by grind
 omega
theorem afk(lf t m:Nat)(sc vl u out:List Int)(n:Nat)(hn2:2≤n)(hnb:n≤1000000)(hvl:n≤vl.length)(hm:n+1=m)(hu:t+m≤u.length)(hdv:Dg G vl)(hdu:Dg G u)
  (top v1 v2 w2:Int) (hv1:v1=vl[n-1]'(by omega)) (hv2:v2=vl[n-2]'(by omega)) (hw2:w2=u[t+(n-2)]'(by omega)) (hp:1≤v1) :
  ∀ (k f:Nat) (q r:Int),G-r≤k→k < f→0≤q→q < G→0≤r→r≤3000000000→r=top-q*v1→
  ∃ q',ay.l15 lf t m n ((n:Nat):Int) sc vl u out f q r=some ((q',()),())∧0≤q'∧q' < G∧q'≤q∧(top-q'*v1≥G∨q'*v2≤(top-q'*v1)*G+w2)∧
   (q'=q∨(q'+1)*v2 >(top-(q'+1)*v1)*G+w2):=by
 have b1:=hdv.at (n-1) (by omega)
 have b2:=hdv.at (n-2) (by omega)
 have b3:=hdu.at (t+(n-2)) (by omega)
 rw[←hv1]at b1
 rw[←hv2]at b2
 rw[←hw2]at b3
 simp only[G]at b1 b2 b3
 have e1:i64.wrap (((n:Nat):Int)-2)=((n-2:Nat):Int):=by rw[w64 (by omega) (by omega)];omega
 have e2:i64.wrap (((n:Nat):Int)-1)=((n-1:Nat):Int):=by rw[w64 (by omega) (by omega)];omega
 have stop:∀ (f:Nat) (q r:Int),0 < f→¬r < 1000000000→ay.l15 lf t m n ((n:Nat):Int) sc vl u out f q r=some ((q,()),()):=by
  intro f q r hf hr
  obtain⟨g,rfl⟩:=Nat.exists_eq_succ_of_ne_zero (show f≠0 by omega)
  rw[ay.l15,ay.r15,decide_eq_false hr,brF]
 intro k
 induction k with
 | zero =>
  intro f q r hk hf q0 q1 r0 r1 hr
  simp only[G]at hk
  exact⟨q,stop f q r (by omega) (by omega),q0,q1,by omega,Or.inl (by rw[←hr];simp only[G];omega),Or.inl rfl⟩
 | succ k ih =>
  intro f q r hk hf q0 q1 r0 r1 hr
  by_cases hlt:r < 1000000000
  ·obtain⟨g,rfl⟩:=Nat.exists_eq_succ_of_ne_zero (show f≠0 by omega)
   have m1:=uJ q0 q1 b2.1 b2.2
   have e3:i64.wrap (q*v2)=q*v2:=w64 (by omega) (by omega)
   have e4:i64.wrap (r*1000000000)=r*1000000000:=w64 (by omega) (by omega)
   have e5:i64.wrap (r*1000000000+w2)=r*1000000000+w2:=w64 (by omega) (by omega)
   rw[ay.l15,ay.r15,decide_eq_true hlt,brT,e1,dM _ _ (by omega),bdS,Nat.zero_add,List.getElem?_eq_getElem (by omega),bdS,dM _ _ (by omega),bdS,List.getElem?_eq_getElem (by omega),bdS,←hv2,←hw2,e3,e4,e5]
   by_cases hc:q*v2 > r*1000000000+w2
   ·have qp:1≤q:=by
     by_cases z:q=0
     ·subst z;omega
     ·omega
    have e6:i64.wrap (q-1)=q-1:=w64 (by simp only[G]at q1;omega) (by simp only[G]at q1;omega)
    have e7:i64.wrap (r+v1)=r+v1:=w64 (by omega) (by omega)
    rw[decide_eq_true hc,brT,e2,dM _ _ (by omega),bdS,Nat.zero_add,List.getElem?_eq_getElem (by omega),bdS,←hv1,e6,e7]
    obtain⟨q',t1,t2,t3,t4,t5,t6⟩:=ih g (q-1) (r+v1) (by omega) (by omega) (by omega) (by omega) (by omega) (by omega) (by rw[hr];grind)
    refine⟨q',t1,t2,t3,by omega,t5,Or.inr ?_⟩
    rcases t6 with rfl | t6
    ·rw[Int.sub_add_cancel,←hr];exact hc
    ·exact t6
   ·rw[decide_eq_false hc,brF]
    exact⟨q,rfl,q0,q1,by omega,Or.inr (by rw[←hr];simp only[G];omega),Or.inl rfl⟩
  ·exact⟨q,stop f q r (by omega) hlt,q0,q1,by omega,Or.inl (by rw[←hr];simp only[G];omega),Or.inl rfl⟩
theorem adu(P B s c q y D x e c2 L:Int)(h:e=x-s+B*c2)(hs:s=c+q*y):L+P*(e-x)-P*B*(c2+q*D)=L-P*(c+q*(y+B*D)):=by grind
theorem ab8(P B s c y D x r c2 L:Int)(h:r+B*c2=s)(hs:s=c+x+y):L+P*(r-x)+P*B*(c2+D)=L+P*(c+(y+B*D)):=by grind
theorem dropv(ys:List Int)(i:Nat):lv G (ys.drop i)=ys.getD i 0+G*lv G (ys.drop (i+1)):=by
 rw[qX,lu,lC]
theorem afl(lf t m:Nat)(q:Int)(sc vl out ys:List Int)(hq0:0≤q)(hq1:q < G)(hdy:Dg G ys)(hvy:vl.take ys.length=ys)(hnb:m≤1000000):
  ∀ (k f i:Nat) (c:Int) (u:List Int),i+k=m→k < f→0≤c→c≤G→Dg G u→t+m≤u.length→
  ∃ c' u',ay.l16 lf t m ys.length q ((m:Nat):Int) sc vl out f c (i:Nat) u=some ((c',u',()),())∧u'.length=u.length∧Dg G u'∧0≤c'∧
   lv G u'-G ^ (t+m)*(c'+q*lv G (ys.drop m))=lv G u-G ^ (t+i)*(c+q*lv G (ys.drop i))∧∀ p,p < t+i∨t+m≤p→u'[p]? = u[p]? := by
 intro k
 induction k with
 | zero =>
  intro f i c u hi hf c0 c1 hd hl
  obtain⟨g,rfl⟩:=Nat.exists_eq_succ_of_ne_zero (show f≠0 by omega)
  obtain rfl:i=m:=by omega
  refine⟨c,u,?_,rfl,hd,c0,rfl,fun p _=>rfl⟩
  rw[ay.l16,ay.r16,decide_eq_false (by omega),brF]
 | succ k ih =>
  intro f i c u hi hf c0 c1 hd hl
  obtain⟨g,rfl⟩:=Nat.exists_eq_succ_of_ne_zero (show f≠0 by omega)
  have hp:t+i < u.length:=by omega
  have x0:=hd.at (t+i) hp
  have y0:=hdy.getD (by decide) i
  have m1:=uJ hq0 hq1 y0.1 y0.2
  simp only[G]at x0 c1
  have e5:i64.wrap (((i:Nat):Int)+1)=((i+1:Nat):Int):=by rw[w64 (by omega) (by omega)];omega
  have go:∀ (s e c2:Int),s=c+q*ys.getD i 0→e=u[t+i]-s+G*c2→0≤e→e < G→0≤c2→c2≤G→
    ∃ c' u',(bd (some i) fun j=>bd (upE u (t+j) fun _=>some e) fun l=>ay.l16 lf t m ys.length q ((m:Nat):Int) sc vl out g c2 (i64.wrap (((i:Nat):Int)+1)) l)=some ((c',u',()),())∧u'.length=u.length∧Dg G u'∧0≤c'∧
   lv G u'-G ^ (t+m)*(c'+q*lv G (ys.drop m))=lv G u-G ^ (t+i)*(c+q*lv G (ys.drop i))∧∀ p,p < t+i∨t+m≤p→u'[p]? = u[p]? := by
   intro s e c2 hs he g0 g1 g2 g3
   obtain⟨c',u',t1,t2,t3,t4,t5,t6⟩:=ih g (i+1) c2 (u.set (t+i) e) (by omega) (by omega) g2 g3 (nR hd _ ⟨g0,g1⟩) (by rw[List.length_set];exact hl)
   refine⟨c',u',?_,by rw[t2,List.length_set],t3,t4,?_,fun p hp'=>?_⟩
   ·rw[bdS,lD _ _ _ hp,bdS,e5]
    exact t1
   ·rw[t5,nK G u (t+i) _ hp,dropv ys i,←Nat.add_assoc,Int.pow_succ]
    exact adu _ _ s _ _ _ _ _ _ _ _ he hs
   ·rw[t6 p (by omega),List.getElem?_set_ne (by omega)]
  have fin:∀ s:Int,s=c+q*ys.getD i 0→
    ∃ c' u',(bd (iRem s 1000000000) fun r=>bd (iQuo .i64 s 1000000000) fun r2=>br (decide ((i64.wrap (u[t+i]-r)) < 0)) (
     bd (some i) fun j=>bd (upE u (t+j) fun _=>some (i64.wrap ((i64.wrap (u[t+i]-r))+1000000000))) fun l=>ay.l16 lf t m ys.length q ((m:Nat):Int) sc vl out g (i64.wrap (r2+1)) (i64.wrap (((i:Nat):Int)+1)) l) (
     bd (some i) fun j=>bd (upE u (t+j) fun _=>some (i64.wrap (u[t+i]-r))) fun l=>ay.l16 lf t m ys.length q ((m:Nat):Int) sc vl out g r2 (i64.wrap (((i:Nat):Int)+1)) l))=some ((c',u',()),())∧u'.length=u.length∧Dg G u'∧0≤c'∧
   lv G u'-G ^ (t+m)*(c'+q*lv G (ys.drop m))=lv G u-G ^ (t+i)*(c+q*lv G (ys.drop i))∧∀ p,p < t+i∨t+m≤p→u'[p]? = u[p]? := by
   intro s hs
   have s0:0≤s:=by omega
   have d0:=Int.emod_nonneg s (show(1000000000:Int)≠0 by decide)
   have d1:=Int.emod_lt_of_pos s (show(0:Int) < 1000000000 by decide)
   have dd:=Int.emod_add_mul_ediv s 1000000000
   have q0:0≤s / 1000000000:=Int.ediv_nonneg s0 (by decide)
   have q1:s / 1000000000 < 1000000000:=Int.ediv_lt_of_lt_mul (by decide) (by omega)
   have e6:i64.wrap (u[t+i]-s % 1000000000)=u[t+i]-s % 1000000000:=w64 (by omega) (by omega)
   rw[oK s0 (by decide),bdS,nH s0 (by decide) (by omega),bdS,e6]
   by_cases hneg:u[t+i]-s % 1000000000 < 0
   ·have e7:i64.wrap (u[t+i]-s % 1000000000+1000000000)=u[t+i]-s % 1000000000+1000000000:=w64 (by omega) (by omega)
    have e8:i64.wrap (s / 1000000000+1)=s / 1000000000+1:=w64 (by omega) (by omega)
    rw[decide_eq_true hneg,brT,e7,e8]
    exact go s _ _ hs (by simp only[G];omega) (by omega) (by simp only[G];omega) (by omega) (by simp only[G];omega)
   ·rw[decide_eq_false hneg,brF]
    exact go s _ _ hs (by simp only[G];omega) (by omega) (by simp only[G];omega) (by omega) (by simp only[G];omega)
  rw[ay.l16,ay.r16,decide_eq_true (by omega),brT]
  by_cases hiy:i < ys.length
  ·have ev:vl[i]? = some (ys.getD i 0):=by
    rw[getD_lt _ _ hiy,←List.getElem?_eq_getElem hiy]
    conv=>rhs;rw[←hvy]
    rw[List.getElem?_take_of_lt hiy]
   have e2:i64.wrap (q*ys.getD i 0)=q*ys.getD i 0:=w64 (by omega) (by omega)
   have e3:i64.wrap (c+q*ys.getD i 0)=c+q*ys.getD i 0:=w64 (by omega) (by omega)
   rw[decide_eq_true (by omega),brT,dM _ _ hiy,bdS,Nat.zero_add,ev,bdS,dM _ _ (by omega),bdS,List.getElem?_eq_getElem hp,bdS,e2,e3]
   exact fin _ rfl
  ·rw[decide_eq_false (by omega),brF,dM _ _ (by omega),bdS,List.getElem?_eq_getElem hp,bdS]
   exact fin c (by rw[qF _ _ hiy];omega)
theorem afm(lf t m:Nat)(q:Int)(sc vl out ys:List Int)(hdy:Dg G ys)(hvy:vl.take ys.length=ys)(hnb:m≤1000000)(hyb:ys.length≤1000000):
  ∀ (k f i:Nat) (c:Int) (u:List Int),i+k=m→k < f→0≤c→c≤1→Dg G u→t+m≤u.length→
  ∃ c' u',ay.l17 lf t m ys.length ((ys.length:Nat):Int) q ((m:Nat):Int) sc vl out f c (i:Nat) u=some ((u',()),())∧u'.length=u.length∧Dg G u'∧0≤c'∧
   lv G u'+G ^ (t+m)*(c'+lv G (ys.drop m))=lv G u+G ^ (t+i)*(c+lv G (ys.drop i))∧∀ p,p < t+i∨t+m≤p→u'[p]? = u[p]? := by
 intro k
 induction k with
 | zero =>
  intro f i c u hi hf c0 c1 hd hl
  obtain⟨g,rfl⟩:=Nat.exists_eq_succ_of_ne_zero (show f≠0 by omega)
  obtain rfl:i=m:=by omega
  refine⟨c,u,?_,rfl,hd,c0,rfl,fun p _=>rfl⟩
  rw[ay.l17,ay.r17,decide_eq_false (by omega),brF]
 | succ k ih =>
  intro f i c u hi hf c0 c1 hd hl
  obtain⟨g,rfl⟩:=Nat.exists_eq_succ_of_ne_zero (show f≠0 by omega)
  have hp:t+i < u.length:=by omega
  have x0:=hd.at (t+i) hp
  have y0:=hdy.getD (by decide) i
  simp only[G]at x0 y0
  have e5:i64.wrap (((i:Nat):Int)+1)=((i+1:Nat):Int):=by rw[w64 (by omega) (by omega)];omega
  have fin:∀ s:Int,s=c+u[t+i]+ys.getD i 0→
    ∃ c' u',(bd (iRem s 1000000000) fun r=>bd (iQuo .i64 s 1000000000) fun r2 =>
     bd (some i) fun j=>bd (upE u (t+j) fun _=>some r) fun l=>ay.l17 lf t m ys.length ((ys.length:Nat):Int) q ((m:Nat):Int) sc vl out g r2 (i64.wrap (((i:Nat):Int)+1)) l)=some ((u',()),())∧u'.length=u.length∧Dg G u'∧0≤c'∧
   lv G u'+G ^ (t+m)*(c'+lv G (ys.drop m))=lv G u+G ^ (t+i)*(c+lv G (ys.drop i))∧∀ p,p < t+i∨t+m≤p→u'[p]? = u[p]? := by
   intro s hs
   have s0:0≤s:=by omega
   have d0:=Int.emod_nonneg s (show G≠0 by decide)
   have d1:=Int.emod_lt_of_pos s (show 0 < G by decide)
   have dd:=Int.emod_add_mul_ediv s G
   have q0:0≤s / G:=Int.ediv_nonneg s0 (by decide)
   obtain⟨c',u',t1,t2,t3,t4,t5,t6⟩:=ih g (i+1) (s / G) (u.set (t+i) (s % G)) (by omega) (by omega) q0 (by simp only[G];omega) (nR hd _ ⟨d0,d1⟩) (by rw[List.length_set];exact hl)
   refine⟨c',u',?_,by rw[t2,List.length_set],t3,t4,?_,fun p hp'=>?_⟩
   ·rw[oK s0 (by decide),bdS,nH s0 (by decide) (by omega),bdS,bdS,lD _ _ _ hp,bdS,e5]
    exact t1
   ·rw[t5,nK G u (t+i) _ hp,dropv ys i,←Nat.add_assoc,Int.pow_succ]
    exact ab8 _ _ s _ _ _ _ _ _ _ dd hs
   ·rw[t6 p (by omega),List.getElem?_set_ne (by omega)]
  have e2:i64.wrap (c+u[t+i])=c+u[t+i]:=w64 (by omega) (by omega)
  rw[ay.l17,ay.r17,decide_eq_true (by omega),brT,dM _ _ (by omega),bdS,List.getElem?_eq_getElem hp,bdS,e2]
  by_cases hiy:i < ys.length
  ·have ev:vl[i]? = some (ys.getD i 0):=by
    rw[getD_lt _ _ hiy,←List.getElem?_eq_getElem hiy]
    conv=>rhs;rw[←hvy]
    rw[List.getElem?_take_of_lt hiy]
   have e3:i64.wrap (c+u[t+i]+ys.getD i 0)=c+u[t+i]+ys.getD i 0:=w64 (by omega) (by omega)
   rw[decide_eq_true (by omega),brT,dM _ _ hiy,bdS,Nat.zero_add,ev,bdS,e3]
   exact fin _ rfl
  ·rw[decide_eq_false (by omega),brF]
   exact fin _ (by rw[qF _ _ hiy];omega)
theorem take_same{u u':List Int}{j:Nat}(hl:u'.length=u.length)(h:∀ p,p < j→u'[p]? = u[p]?):u'.take j=u.take j:=by
 apply List.ext_getElem?
 intro p
 by_cases hp:p < j
 ·rw[List.getElem?_take_of_lt hp,List.getElem?_take_of_lt hp,h p hp]
 ·rw[List.getElem?_take_eq_none (by omega),List.getElem?_take_eq_none (by omega)]
theorem abP{u u':List Int}{j:Nat}(h:∀ p,j≤p→u'[p]? = u[p]?):u'.drop j=u.drop j:=by
 apply List.ext_getElem?
 intro p
 rw[List.getElem?_drop,List.getElem?_drop,h _ (by omega)]
theorem win{u u':List Int}{j m:Nat}(hl:u'.length=u.length)(hd:Dg G u')(hm:j+m≤u.length)(h0:lv G (u.drop (j+m))=0)(h:∀ p,p < j∨j+m≤p→u'[p]? = u[p]?):
  lv G u'-lv G u=G ^ j*(lv G (u'.drop j)-lv G (u.drop j))∧lv G (u'.drop j) < G ^ m∧lv G (u'.drop (j+m))=0:=by
 have a1:=mV G u j (by omega)
 have a2:=mV G u' j (by omega)
 rw[take_same hl (fun p hp=>h p (Or.inl hp))]at a2
 have a3:=abP (j:=j+m) (fun p hp=>h p (Or.inr hp))
 have a4:=mV G (u'.drop j) m (by rw[List.length_drop];omega)
 rw[List.drop_drop,a3,h0]at a4
 have a5:=mY (B:=G) (by decide) ((hd.drop j).take m)
 rw[List.length_take,List.length_drop,Nat.min_eq_left (by omega)]at a5
 refine⟨by grind,by omega,by rw[a3,h0]⟩
theorem yN{l:List Int}(n:Nat)(hd:Dg G l)(hn:n≤l.length)(h:lv G l < G ^ n):lv G (l.drop n)=0:=by
 have a:=mV G l n hn
 have b:=dh (B:=G) (by decide) (hd.take n)
 have c:=dh (B:=G) (by decide) (hd.drop n)
 by_cases z:lv G (l.drop n)=0
 ·exact z
 ·have:=Int.mul_le_mul_of_nonneg_left (show 1≤lv G (l.drop n) by omega) (Int.le_of_lt (jV (B:=G) (by decide) n))
  omega
theorem top2{l:List Int}(n:Nat)(hn2:2≤n)(h1:l.length=n):lv G l=(l[n-1]*G+l[n-2])*G ^ (n-2)+lv G (l.take (n-2)):=by
 have a:=mV G l (n-2) (by omega)
 rw[oD G l (n-2) (by omega),show n-2+1=n-1 by omega,oD G l (n-1) (by omega),List.drop_of_length_le (by omega)]at a
 simp only[lv]at a
 grind
theorem top3{u:List Int}(j n:Nat)(hn2:2≤n)(h1:j+n+1≤u.length)(h0:lv G (u.drop (j+n+1))=0):
  lv G (u.drop j)=((u[j+n]*G+u[j+(n-1)])*G+u[j+(n-2)])*G ^ (n-2)+lv G ((u.drop j).take (n-2)):=by
 have a:=mV G (u.drop j) (n-2) (by rw[List.length_drop];omega)
 rw[List.drop_drop,oD G u (j+(n-2)) (by omega),show j+(n-2)+1=j+(n-1) by omega,oD G u (j+(n-1)) (by omega),show j+(n-1)+1=j+n by omega,oD G u (j+n) (by omega),h0]at a
 grind
theorem adO{M a b d:Int}(hM:0 < M)(h:a+M*d=b)(a0:0≤a)(a1:a < M)(b0:0≤b)(b1:b < M):d=0∧a=b:=by
 have:d=0:=by
  rcases Int.lt_trichotomy d 0 with z | z | z
  ·have:=Int.mul_le_mul_of_nonneg_left (show d≤-1 by omega) (Int.le_of_lt hM);omega
  ·exact z
  ·have:=Int.mul_le_mul_of_nonneg_left (show 1≤d by omega) (Int.le_of_lt hM);omega
 subst this
 exact⟨rfl,by omega⟩
theorem aal(J M A A' W W1 Q c:Int)(hJ:0 < J)(h1:A'-J*M*c=A-J*Q)(h2:A'-A=J*(W1-W)):W1=W-Q+M*c:=by
 have:J*W1=J*(W-Q+M*c):=by grind
 exact Int.eq_of_mul_eq_mul_left (by omega) this
theorem aak(J M A A' W1 W2 V c:Int)(hJ:0 < J)(h1:A'+J*M*c=A+J*V)(h2:A'-A=J*(W2-W1)):W2=W1+V-M*c:=by
 have:J*W2=J*(W1+V-M*c):=by grind
 exact Int.eq_of_mul_eq_mul_left (by omega) this
theorem ac1(J A W W1 Q:Int):A+(J*(W-Q-W1)+J*(W1-W))=A-J*Q:=by grind
theorem acg{ρ:Type}(lf j:Nat)(sc vl ys u out:List Int)(hlf:2000000000≤lf)(hn2:2≤ys.length)(hdy:Dg G ys)(hty:Tr ys)(hdv:Dg G vl)(hvy:vl.take ys.length=ys)(hvl:ys.length≤vl.length)(hdu:Dg G u)(hjl:j+ys.length+1≤u.length)(hub:u.length≤500000)(hol:j < out.length)
  (hinv:lv G (u.drop (j+1)) < lv G ys) (K:Int→List Int→List Int→Option ρ) (E0:List Int→List Int→Option ρ) :
  ∃ u' q,ay.r14 lf ys.length ((ys.length:Nat):Int) sc vl ((j:Nat):Int) u out K E0=K (((j:Nat):Int)-1) u' (out.set j q)∧u'.length=u.length∧Dg G u'∧0≤q∧q < G∧
   lv G u'=lv G u-G ^ j*(q*lv G ys)∧lv G (u'.drop j) < lv G ys:=by
 obtain⟨n,hn⟩:∃ n,n=ys.length:=⟨_,rfl⟩
 obtain⟨V,hV⟩:∃ V,V=lv G ys:=⟨_,rfl⟩
 obtain⟨W,hW⟩:∃ W,W=lv G (u.drop j):=⟨_,rfl⟩
 have hV1:V < G ^ n:=by rw[hV,hn];exact mY (by decide) hdy
 have hV0:0 < V:=by rw[hV];exact pq (by decide) hdy hty (by intro e;subst e;simp at hn2)
 have hz:lv G (u.drop (j+n+1))=0:=by
  have:=yN (l:=u.drop (j+1)) n (hdu.drop _) (by rw[List.length_drop];omega) (by omega)
  rw[List.drop_drop]at this
  rw[show j+n+1=j+1+n by omega];exact this
 have hW0:0≤W:=by rw[hW];exact dh (by decide) (hdu.drop j)
 have hWB:W < G*V:=by
  have a:=oD G u j (by omega)
  have b:=hdu.at j (by omega)
  have c:=Int.mul_le_mul_of_nonneg_left (show lv G (u.drop (j+1))+1≤V by omega) (show 0≤G by decide)
  rw[Int.mul_add]at c
  omega
 have hyv:∀ i (h:i < n),vl[i]'(by omega)=ys[i]'(by omega):=by
  intro i h
  have:vl[i]? = ys[i]? := by
   conv=>rhs;rw[←hvy]
   rw[List.getElem?_take_of_lt (by omega)]
  rw[List.getElem?_eq_getElem (by omega),List.getElem?_eq_getElem (by omega)]at this
  exact Option.some.inj this
 have b1:=hdv.at (n-1) (by omega)
 have b2:=hdv.at (n-2) (by omega)
 have u0:=hdu.at (j+n) (by omega)
 have u1:=hdu.at (j+(n-1)) (by omega)
 have u2:=hdu.at (j+(n-2)) (by omega)
 have eV:=top2 (l:=ys) n (by omega) hn.symm
 have eW:=top3 (u:=u) j n (by omega) (by omega) hz
 have V00:=dh (B:=G) (by decide) (hdy.take (n-2))
 have V01:=mY (B:=G) (by decide) (hdy.take (n-2))
 have W00:=dh (B:=G) (by decide) ((hdu.drop j).take (n-2))
 have W01:=mY (B:=G) (by decide) ((hdu.drop j).take (n-2))
 rw[List.length_take,Nat.min_eq_left (by omega)]at V01
 rw[List.length_take,List.length_drop,Nat.min_eq_left (by omega)]at W01
 have hP:0 < G ^ (n-2):=jV (by decide) _
 have hv1:1≤vl[n-1]'(by omega):=by
  rw[hyv (n-1) (by omega)]
  have c:=hdy.at (n-1) (by omega)
  have:ys[n-1]'(by omega)≠0:=by
   intro e
   apply hty
   rw[List.getLast?_eq_getElem?,List.getElem?_eq_getElem (by omega)]
   simp only[←hn,e]
  omega
 rw[←hV,←hyv (n-1) (by omega),←hyv (n-2) (by omega)]at eV
 rw[←hW]at eW
 obtain⟨v1,ev1⟩:∃ v1,v1=vl[n-1]'(by omega):=⟨_,rfl⟩
 obtain⟨v2,ev2⟩:∃ v2,v2=vl[n-2]'(by omega):=⟨_,rfl⟩
 obtain⟨w2,ew2⟩:∃ w2,w2=u[j+(n-2)]'(by omega):=⟨_,rfl⟩
 obtain⟨top,etop⟩:∃ top,top=u[j+n]'(by omega)*1000000000+u[j+(n-1)]'(by omega):=⟨_,rfl⟩
 rw[←ev1]at eV b1 hv1
 rw[←ev2]at eV b2
 rw[←ew2]at eW u2
 rw[show u[j+n]'(by omega)*G+u[j+(n-1)]'(by omega)=top from etop.symm]at eW
 simp only[G]at b1 b2 u0 u1 u2
 have t0:0≤top:=by omega
 have t1:top < 1000000000000000000:=by omega
 obtain⟨q0,eq0⟩:∃ q0,q0=if 999999999 < top / v1 then 999999999 else top / v1:=⟨_,rfl⟩
 have d0:0≤top / v1:=Int.ediv_nonneg t0 (by omega)
 have dd:=Int.emod_add_mul_ediv top v1
 have dm0:=Int.emod_nonneg top (show v1≠0 by omega)
 have dm1:=Int.emod_lt_of_pos top (show 0 < v1 by omega)
 have q00:0≤q0:=by rw[eq0];split<;>omega
 have q01:q0 < G:=by rw[eq0];simp only[G];split<;>omega
 have qv:q0*v1≤v1*(top / v1):=by
  rw[Int.mul_comm v1]
  exact Int.mul_le_mul_of_nonneg_right (by rw[eq0];split<;>omega) (by omega)
 have qn:=Int.mul_nonneg q00 (show 0≤v1 by omega)
 have hov:W < (q0+1)*V:=by
  by_cases c:999999999 < top / v1
  ·rw[if_pos c]at eq0
   rw[eq0]
   exact hWB
  ·rw[if_neg c]at eq0
   rw[eW,eV]
   refine abQ (by decide) hP (by omega) (by omega) V00 W01 (by simp only[G];omega) q0 q00 ?_
   rw[eq0,Int.add_mul,Int.mul_comm (top / v1)]
   omega
 have rb:top-q0*v1≤3000000000:=by
  by_cases c:999999999 < top / v1
  ·have hov2:top≤v1*1000000000+999999999:=by
    have a:u[j+n]'(by omega)≤v1:=by
     by_cases z:u[j+n]'(by omega)≤v1
     ·exact z
     ·exfalso
      have z1:(v1+1)*G≤top:=by simp only[G];omega
      have z2:((v1+1)*G*G)*G ^ (n-2)≤W:=by
       have y1:=Int.mul_le_mul_of_nonneg_right z1 (show 0≤G by decide)
       have y2:(v1+1)*G*G≤top*G+w2:=by omega
       have:=Int.mul_le_mul_of_nonneg_right y2 (Int.le_of_lt hP)
       omega
      have z3:G*V≤((v1+1)*G*G)*G ^ (n-2):=by
       have x1:(v1*G+v2)*G ^ (n-2)+lv G (ys.take (n-2))≤(v1*G+v2+1)*G ^ (n-2):=by
        rw[Int.add_mul (v1*G+v2) 1];omega
       have x2:(v1*G+v2+1)*G ^ (n-2)≤((v1+1)*G)*G ^ (n-2):=Int.mul_le_mul_of_nonneg_right (by simp only[G];omega) (Int.le_of_lt hP)
       have x3:=Int.mul_le_mul_of_nonneg_left (show V≤((v1+1)*G)*G ^ (n-2) by omega) (show 0≤G by decide)
       have x4:G*(((v1+1)*G)*G ^ (n-2))=((v1+1)*G*G)*G ^ (n-2):=by grind
       omega
      omega
    omega
   rw[if_pos c]at eq0
   rw[eq0]
   omega
  ·rw[if_neg c]at eq0
   rw[eq0,Int.mul_comm (top / v1)]
   omega
 have r0:0≤top-q0*v1:=by omega
 obtain⟨q,k1,k2,k3,k4,k5,k6⟩:=afk lf j (n+1) sc vl u out n (by omega) (by omega) (by omega) rfl (by omega) hdv hdu top v1 v2 w2 ev1 ev2 ew2 hv1 1000000000 (lf+40) q0 (top-q0*v1) (by simp only[G];omega) (by omega) q00 q01 r0 rb rfl
 have lo:(q-1)*V≤W:=by
  rw[eW,eV]
  exact abR hP (by decide) hv1 b2.1 (by simp only[G];omega) V00 V01 W00 u2.1 k2 k3 k5
 have hi:W < (q+1)*V:=by
  rcases k6 with rfl | k6
  ·exact hov
  ·rw[eW,eV]
   exact zK hP V00 W01 (by omega) k6
 obtain⟨c,u1',s1,s2,s3,s4,s5,s6⟩:=afl lf j (n+1) q sc vl out ys k2 k3 hdy hvy (by omega) (n+1) (lf+40) 0 0 u (by omega) (by omega) (by decide) (by decide) hdu (by omega)
 rw[List.drop_zero,show j+0=j from rfl,List.drop_of_length_le (by omega),←hV]at s5
 simp only[lv,Int.mul_zero,Int.add_zero,Int.zero_add]at s5
 rw[show((0:Nat):Int)=0 from rfl]at s1
 obtain⟨x1,x2,x3⟩:=win (j:=j) (m:=n+1) s2 s3 (by omega) hz (fun p hp=>s6 p (by omega))
 have x0:0≤lv G (u1'.drop j):=dh (by decide) (s3.drop j)
 obtain⟨W1,hW1⟩:∃ W1,W1=lv G (u1'.drop j):=⟨_,rfl⟩
 rw[←hW1,←hW]at x1
 rw[←hW1]at x0 x2
 have Pj:0 < G ^ j:=jV (by decide) _
 have M0:0 < G ^ (n+1):=jV (by decide) _
 have VM:V < G ^ (n+1):=by
  have:=jY (B:=G) (by decide) (show n≤n+1 by omega)
  omega
 have y1:W1=W-q*V+G ^ (n+1)*c:=by
  rw[Int.pow_add]at s5
  exact aal _ _ _ _ _ _ _ _ Pj s5 x1
 have qV1:(q-1)*V=q*V-V:=by grind
 have qV2:(q+1)*V=q*V+V:=by grind
 have f1:i64.wrap (((j:Nat):Int)+((n:Nat):Int))=((j+n:Nat):Int):=by rw[w64 (by omega) (by omega)];omega
 have f2:i64.wrap (((j+n:Nat):Int)+1)=((j+n+1:Nat):Int):=by rw[w64 (by omega) (by omega)];omega
 have f3:i64.wrap (((n:Nat):Int)-1)=((n-1:Nat):Int):=by rw[w64 (by omega) (by omega)];omega
 have f4:i64.wrap (u[j+n]'(by omega)*1000000000)=u[j+n]'(by omega)*1000000000:=w64 (by omega) (by omega)
 have f5:i64.wrap top=top:=w64 (by omega) (by omega)
 have f6:i64.wrap (q0*v1)=q0*v1:=w64 (by omega) (by omega)
 have f7:i64.wrap (top-q0*v1)=top-q0*v1:=w64 (by omega) (by omega)
 have f8:i64.wrap (((j:Nat):Int)-1)=((j:Nat):Int)-1:=w64 (by omega) (by omega)
 have f9:i64.wrap (q-1)=q-1:=w64 (by omega) (by simp only[G]at k3;omega)
 have go:ay.r14 lf ys.length ((ys.length:Nat):Int) sc vl ((j:Nat):Int) u out K E0 =
   (br (!(c==0)) (
    bd (ay.l17 lf j (n+1) n ((n:Nat):Int) (q-1) ((n+1:Nat):Int) sc vl out (lf+40) 0 0 u1') fun z=>K (((j:Nat):Int)-1) z.1.1 (out.set j (q-1))) (K (((j:Nat):Int)-1) u1' (out.set j q))):=by
  rw[←hn]at s1
  rw[ay.r14,←hn,decide_eq_true (by omega),brT,f1,f2,acf _ _ _ j (j+n+1) rfl rfl (by omega) (by omega),bdS]
  simp only[show j+n+1-j=n+1 by omega,Nat.zero_add]
  rw[dM _ _ (by omega),bdS,List.getElem?_eq_getElem (by omega),bdS,f3,dM _ _ (by omega),bdS,List.getElem?_eq_getElem (by omega),bdS,dM _ _ (by omega),bdS,List.getElem?_eq_getElem (by omega),bdS,←ev1,f4,←etop,f5,nH t0 (by omega) (by omega),bdS,bdS,List.getElem?_eq_getElem (by omega),bdS,←ev1,←eq0,f6,f7,k1,bdS]
  simp only[s1,bdS,f9,dM _ _ hol,lD _ _ _ hol,f8]
 rw[go]
 by_cases hc:c=0
 ·rw[beq_iff_eq.2 hc]
  subst hc
  refine⟨u1',q,by rw[Bool.not_true,brF],s2,s3,k2,k3,?_,?_⟩
  ·rw[←hV];omega
  ·rw[←hW1,←hV];omega
 ·rw[beq_eq_false_iff_ne.2 hc,Bool.not_false,brT]
  have neg:W < q*V:=by
   by_cases z:W < q*V
   ·exact z
   ·have:=Int.mul_le_mul_of_nonneg_left (show 1≤c by omega) (Int.le_of_lt M0);omega
  have q1:1≤q:=by
   by_cases z:q=0
   ·subst z;omega
   ·omega
  obtain⟨c2,u2',a1,a2,a3,a4,a5,a6⟩:=afm lf j (n+1) (q-1) sc vl out ys hdy hvy (by omega) (by omega) (n+1) (lf+40) 0 0 u1' (by omega) (by omega) (by decide) (by decide) s3 (by omega)
  rw[List.drop_zero,show j+0=j from rfl,List.drop_of_length_le (by omega),←hV]at a5
  simp only[lv,Int.add_zero,Int.zero_add]at a5
  rw[show((0:Nat):Int)=0 from rfl,←hn]at a1
  obtain⟨z1,z2,z3⟩:=win (j:=j) (m:=n+1) a2 a3 (by omega) x3 (fun p hp=>a6 p (by omega))
  have z0:0≤lv G (u2'.drop j):=dh (by decide) (a3.drop j)
  obtain⟨W2,hW2⟩:∃ W2,W2=lv G (u2'.drop j):=⟨_,rfl⟩
  rw[←hW2,←hW1]at z1
  rw[←hW2]at z0 z2
  have y2:W2=W1+V-G ^ (n+1)*c2:=by
   rw[Int.pow_add]at a5
   exact aak _ _ _ _ _ _ _ _ Pj a5 z1
  have y3:W2+G ^ (n+1)*(c2-c)=W-(q-1)*V:=by rw[y2,y1,Int.mul_sub];omega
  obtain⟨_,y4⟩:=adO M0 y3 z0 z2 (by omega) (by omega)
  refine⟨u2',q-1,by rw[a1,bdS],by rw[a2,s2],a3,by omega,by omega,?_,?_⟩
  ·rw[←hV]
   have e1:lv G u2'=lv G u+(G ^ j*(W2-W1)+G ^ j*(W1-W)):=by omega
   rw[e1,y4]
   exact ac1 _ _ _ _ _
  ·rw[←hW2,←hV];omega
theorem afj(lf:Nat)(sc vl ys:List Int)(hlf:2000000000≤lf)(hn2:2≤ys.length)(hdy:Dg G ys)(hty:Tr ys)(hdv:Dg G vl)(hvy:vl.take ys.length=ys)(hvl:ys.length≤vl.length)(N:Nat)(hub:N≤500000):
  ∀ (k f:Nat) (u out:List Int),k+ys.length≤N→u.length=N→k < f→Dg G u→Dg G out→k≤out.length→(∀ p,p < k→out[p]? = some 0)→lv G (u.drop k) < lv G ys→
  ∃ u' out',ay.l14 lf ys.length ((ys.length:Nat):Int) sc vl f (((k:Nat):Int)-1) u out=some ((u',out',()),())∧Dg G u'∧Dg G out'∧u'.length=N∧out'.length=out.length∧lv G u'+lv G ys*lv G out'=lv G u+lv G ys*lv G out∧lv G u' < lv G ys:=by
 intro k
 induction k with
 | zero =>
  intro f u out hk hN hf hdu hdo hol hz hinv
  obtain⟨g,rfl⟩:=Nat.exists_eq_succ_of_ne_zero (show f≠0 by omega)
  refine⟨u,out,?_,hdu,hdo,hN,rfl,rfl,hinv⟩
  rw[ay.l14,ay.r14,decide_eq_false (by omega),brF]
 | succ k ih =>
  intro f u out hk hN hf hdu hdo hol hz hinv
  obtain⟨g,rfl⟩:=Nat.exists_eq_succ_of_ne_zero (show f≠0 by omega)
  obtain⟨u',q,t1,t2,t3,t4,t5,t6,t7⟩:=acg lf k sc vl ys u out hlf hn2 hdy hty hdv hvy hvl hdu (by omega) (by omega) (by omega) hinv (ay.l14 lf ys.length ((ys.length:Nat):Int) sc vl g) (fun w0 w1=>some ((w0,w1,()),()))
  obtain⟨u2,o2,s1,s2,s3,s4,s5,s6,s7⟩:=ih g u' (out.set k q) (by omega) (by omega) (by omega) t3 (nR hdo _ ⟨t4,t5⟩) (by rw[List.length_set];omega) (fun p hp=>by
   rw[List.getElem?_set_ne (by omega)];exact hz p (by omega)) t7
  refine⟨u2,o2,?_,s2,s3,s4,by rw[s5,List.length_set],?_,s7⟩
  ·rw[ay.l14,show((k+1:Nat):Int)-1=((k:Nat):Int) by omega,t1]
   exact s1
  ·have o0:out[k]'(by omega)=0:=by
    have h1:=hz k (by omega)
    rw[List.getElem?_eq_getElem (by omega)]at h1
    exact Option.some.inj h1
   rw[s6,t6,nK G out k q (by omega),o0]
   grind
theorem afi(lf v1:Nat)(xs v2 v3:List Int)(hb:xs.length≤1000000):∀ (k n:Nat) (w:List Int),xs.length < w.length+k→(0 < k→w.length+k=xs.length+1)→w.length+k≤1100000→k < n→
  ay.l13 lf xs v1 v2 v3 n w=some ((w++List.replicate k 0,()),()):=by
 intro k
 induction k with
 | zero =>
  intro n w h1 h2 h3 hn
  obtain⟨m,rfl⟩:=Nat.exists_eq_succ_of_ne_zero (show n≠0 by omega)
  rw[ay.l13,ay.r13,decide_eq_false (by omega),brF]
  simp
 | succ k ih =>
  intro n w h1 h2 h3 hn
  obtain⟨m,rfl⟩:=Nat.exists_eq_succ_of_ne_zero (show n≠0 by omega)
  have:=h2 (by omega)
  rw[ay.l13,ay.r13,decide_eq_true (by omega),brT,lK _ _ _ (by decide) (by simp;omega),bdS,ih m (w++[0]) (by simp;omega) (by simp;omega) (by simp;omega) (by omega)]
  simp[List.replicate_succ]
theorem dtail(lf:Nat)(xs ys u0:List Int)(s:Int)(hlf:2000000000≤lf)(hx:Dg G xs)(hy:Dg G ys)(ty:Tr ys)(hy2:2≤ys.length)(hyx:ys.length≤xs.length)(hxb:xs.length≤50000)(s0:0 < s)(s1:s < G)
    (hs:s*lv G ys < G ^ ys.length) (hu:Dg G u0) (hul:u0.length≤xs.length+2) (hu1:1≤u0.length) (hu2:lv G u0 < G ^ (u0.length-1)) (hu3:lv G u0=lv G xs*s)
    (BIG:Bool×((List Int)×(List Int)×(List Int)×(List Int)×Unit)×(Nat×(List Int)×(List Int)×(List Int)×(List Int)×Unit)×Unit→Option (List Int×List Int×Unit)) :
    ∃ Q R,(bd (mkL (i64.wrap (((ys.length:Nat):Int)+((([s]:List Int).length:Nat):Int))) (i64.wrap (((ys.length:Nat):Int)+((([s]:List Int).length:Nat):Int))) 8 0) fun q197 =>
 bd (ay.l4 lf ys ((ys.length:Nat):Int) [s] [0] u0 (lf+40) 0 q197) fun z198 =>
 bd (ay.l6 lf [s] [0] u0 z198.1.1 (lf+40)) fun z199 =>
 br z199.1 (BIG z199) (
 bd (ay.l13 lf xs z199.2.2.1.1 z199.2.2.1.2.1 z199.2.2.1.2.2.2.2.1 (lf+40) z199.2.2.1.2.2.2.1) fun z208 =>
 bd (mkL (i64.wrap (((z208.1.1.length:Nat):Int)-((z199.2.2.1.1:Nat):Int))) (i64.wrap (((z208.1.1.length:Nat):Int)-((z199.2.2.1.1:Nat):Int))) 8 0) fun q209 =>
 bd (ay.l14 lf z199.2.2.1.1 ((z199.2.2.1.1:Nat):Int) z199.2.2.1.2.1 z199.2.2.1.2.2.2.2.1 (lf+40) (i64.wrap ((i64.wrap (((z208.1.1.length:Nat):Int)-((z199.2.2.1.1:Nat):Int)))-1)) z208.1.1 q209) fun z210 =>
 bd (bg.f lf z210.1.1) fun r211 =>
 bd (idxB z199.2.2.1.2.1.length 0) fun j212 =>
 bd (z199.2.2.1.2.1[j212]?) fun y213 =>
 bd (dX.f lf r211.1 y213) fun r214 =>
 bd (bg.f lf z210.1.2.1) fun r215 =>
 some (r215.1,r214.1,())))=some (Q,R,())∧Dg G Q∧Tr Q∧Dg G R∧Tr R∧lv G xs=lv G ys*lv G Q+lv G R∧lv G R < lv G ys:=by
  have e0:i64.wrap (((ys.length:Nat):Int)+((([s]:List Int).length:Nat):Int))=((ys.length+1:Nat):Int):=by rw[w64 (by simp;omega) (by simp;omega)];simp
  obtain⟨vl,r1,r2,r3,r4⟩:=afN lf [0] u0 ys [s] hy (Dg.cons ⟨by omega,s1⟩ Dg.nil) (by omega) (by simp) ys.length (lf+40) 0 (List.replicate (ys.length+1) 0) (by omega) (by omega) (Dg.zeros (by decide) _) (by simp) (by simp;omega) (fun q _ h=>by rw[List.length_replicate]at h;rw[List.getElem?_replicate,if_pos h])
  rw[List.length_replicate]at r2
  rw[oG]at r4
  simp only[lv,List.drop_zero,Int.mul_zero,Int.add_zero,Int.pow_zero,Int.one_mul,Int.zero_add]at r4
  rw[show((0:Nat):Int)=0 from rfl]at r1
  obtain⟨V,hV⟩:∃ V,V=lv G vl:=⟨_,rfl⟩
  have hV2:V=s*lv G ys:=by rw[hV,r4,Int.mul_comm]
  have y0:0 < lv G ys:=pq (by decide) hy ty (by intro e;subst e;simp at hy2)
  have yt:=uI (B:=G) (by decide) hy ty (by intro e;subst e;simp at hy2)
  have yV:lv G ys≤V:=by
    have:=Int.mul_le_mul_of_nonneg_right (show 1≤s by omega) (Int.le_of_lt y0)
    omega
  have last:vl.getLast? = some 0:=by
    have h1:=mV G vl ys.length (by omega)
    rw[oD G vl ys.length (by omega),List.drop_of_length_le (by omega)]at h1
    simp only[lv,Int.mul_zero,Int.add_zero]at h1
    have h2:=dh (B:=G) (by decide) (r3.take ys.length)
    have h3:=r3.at ys.length (by omega)
    have h4:vl[ys.length]'(by omega)=0:=by
      by_cases z:vl[ys.length]'(by omega)=0
      · exact z
      · have:=Int.mul_le_mul_of_nonneg_left (show 1≤vl[ys.length]'(by omega) by omega) (Int.le_of_lt (jV (B:=G) (by decide) ys.length))
        omega
    rw[List.getLast?_eq_getElem?,r2,Nat.add_sub_cancel,List.getElem?_eq_getElem (by omega),h4]
  have h6:ay.l6 lf [s] [0] u0 vl (lf+40)=some (false,([],[],[],[],()),(((tr vl).length,[s],[0],u0,vl,()),())):=by
    rcases afS lf [s] [0] u0 vl (by omega) (lf+40) (by omega)with⟨h,_⟩ | ⟨_,h⟩
    · exact absurd last h
    · exact h
  have dT:=lU r3
  have tT:=nP vl
  have vT:=kX G vl
  obtain⟨n,hn⟩:∃ n,n=(tr vl).length:=⟨_,rfl⟩
  have n1:n≤ys.length:=by
    by_cases z:n≤ys.length
    · exact z
    · have a:=uI (B:=G) (by decide) dT tT (by intro e;rw[e]at hn;simp at hn;omega)
      have b:=jY (B:=G) (by decide) (show ys.length≤(tr vl).length-1 by omega)
      omega
  have n2:2≤n:=by
    by_cases z:2≤n
    · exact z
    · have a:=mY (B:=G) (by decide) dT
      have b:=jY (B:=G) (by decide) (show(tr vl).length≤ys.length-1 by omega)
      omega
  obtain⟨k,hk⟩:∃ k,k=xs.length+1-u0.length:=⟨_,rfl⟩
  obtain⟨N,hN⟩:∃ N,N=u0.length+k:=⟨_,rfl⟩
  obtain⟨u,hu0⟩:∃ u,u=u0++List.replicate k 0:=⟨_,rfl⟩
  have ul:u.length=N:=by rw[hu0,List.length_append,List.length_replicate,hN]
  have ud:Dg G u:=by rw[hu0];exact hu.app (Dg.zeros (by decide) _)
  have uv':lv G u=lv G u0:=by rw[hu0,qG,oG];simp
  have h13:ay.l13 lf xs n [s] vl (lf+40) u0=some ((u,()),()):=by
    rw[hu0];exact afi lf n xs [s] vl (by omega) k (lf+40) u0 (by omega) (by omega) (by omega) (by omega)
  have inv:lv G (u.drop (N-n)) < lv G (tr vl):=by
    have a:=mV G u (N-n) (by omega)
    have b:=dh (B:=G) (by decide) (ud.take (N-n))
    have c:=uI (B:=G) (by decide) dT tT (by intro e;rw[e]at hn;simp at hn;omega)
    have d:=jY (B:=G) (by decide) (show u0.length-1≤N-1 by omega)
    have e:G ^ (N-1)=G ^ (N-n)*G ^ (n-1):=by rw[←Int.pow_add];congr 1;omega
    rw[←hn]at c
    by_cases z:lv G (u.drop (N-n)) < lv G (tr vl)
    · exact z
    · have:=Int.mul_le_mul_of_nonneg_left (show G ^ (n-1)≤lv G (u.drop (N-n)) by omega) (Int.le_of_lt (jV (B:=G) (by decide) (N-n)))
      omega
  have e1:i64.wrap (((u.length:Nat):Int)-((n:Nat):Int))=((N-n:Nat):Int):=by rw[w64 (by omega) (by omega)];omega
  have e2:i64.wrap (((N-n:Nat):Int)-1)=((N-n:Nat):Int)-1:=w64 (by omega) (by omega)
  obtain⟨u',out',t1,t2,t3,t4,t5,t6,t7⟩:=afj lf [s] vl (tr vl) hlf (by omega) dT tT r3 (abC vl) (kH vl) N (by omega) (N-n) (lf+40) u (List.replicate (N-n) 0) (by omega) ul (by omega) ud (Dg.zeros (by decide) _) (by simp) (fun p hp=>by rw[List.getElem?_replicate,if_pos hp]) inv
  rw[oG,vT,uv',hu3,←hV,hV2]at t6
  rw[vT,←hV,hV2]at t7
  rw[←hn]at t1
  rw[List.length_replicate]at t5
  obtain⟨q,r,p1,p2,p3,p4,p5,p6,p7⟩:=abx lf (tr u') s s0 s1 (lU t2) (by have:=kH u';omega) (by omega)
  rw[kX]at p7
  have key:lv G xs=lv G ys*lv G out'+lv G q∧r=0:=by
    have:=adO (M:=s) (a:=r) (d:=lv G q+lv G ys*lv G out'-lv G xs) (b:=0) s0 (by rw[p7]at t6;grind) p5 p6 (by decide) s0
    exact⟨by omega,this.2⟩
  refine⟨tr out',q,?_,lU t3,nP _,p2,p3,by rw[kX];exact key.1,?_⟩
  · rw[e0,oL _ _ _ (ys.length+1) rfl rfl (by omega),bdS,r1,bdS,h6,bdS,brF]
    simp only[←hn]
    rw[h13,bdS]
    simp only[e1]
    rw[oL _ _ _ (N-n) rfl rfl (by omega),bdS,e2,t1,bdS,rE lf u' (by omega) (by omega),bdS]
    simp only[p1,bdS,show idxB ([s]:List Int).length 0=some 0 from dM 1 0 (by decide),List.getElem?_cons_zero]
    rw[rE lf out' (by omega) (by omega),bdS]
  · exact Int.lt_of_mul_lt_mul_left (by rw[key.2]at p7;omega) (Int.le_of_lt s0)
theorem zG(lf:Nat)(xs ys:List Int)(hx:Dg G xs)(hy:Dg G ys)(tx:Tr xs)(ty:Tr ys)(hyn:ys≠[])(hxb:xs.length≤50000)(hyb:ys.length≤50000)(hlf:2000000000≤lf):
  ∃ Q R,ay.f lf xs ys=some (Q,R,())∧Dg G Q∧Tr Q∧Dg G R∧Tr R∧lv G xs=lv G ys*lv G Q+lv G R∧lv G R < lv G ys:=by
 obtain⟨v,e,sg⟩:=abb lf xs ys hx hy tx ty (by omega) (by omega) (by omega)
 rw[ay.f,e,bdS]
 by_cases hneg:v < 0
 ·rw[decide_eq_true hneg,brT]
  have:=sg.1.1 hneg
  exact⟨[],xs,rfl,Dg.nil,Tr.nil,hx,tx,by simp[lv],by omega⟩
 rw[decide_eq_false hneg,brF]
 have hle:lv G ys≤lv G xs:=by
  have:¬(lv G xs-lv G ys < 0):=fun h=>hneg (sg.1.2 h)
  omega
 have hlen:ys.length≤xs.length:=by
  by_cases z:ys.length≤xs.length
  ·exact z
  ·have:=mr (B:=G) (by decide) hx hy ty (by omega)
   omega
 have hy1:1≤ys.length:=List.length_pos_iff.2 hyn
 by_cases h1:ys.length=1
 ·rw[show(((ys.length:Nat):Int)==1)=true by rw[h1];rfl,brT]
  obtain⟨d,rfl⟩:=List.length_eq_one_iff.1 h1
  have d0:=hy d (by simp)
  have dp:0 < d:=by
   have:=pq (B:=G) (by decide) hy ty (by simp)
   simp only[lv]at this
   omega
  obtain⟨q,r,p1,p2,p3,p4,p5,p6,p7⟩:=abx lf xs d dp d0.2 hx (by omega) (by omega)
  have e3:idxL [d] 0=some d:=rfl
  refine⟨q,tr [r],?_,p2,p3,lU (Dg.cons ⟨p5,by omega⟩ Dg.nil),nP _,?_,?_⟩
  ·rw[e3,bdS,p1,bdS,rE lf [r] (by simp;omega) (by simp),bdS]
  ·rw[kX,p7];simp[lv]
  ·rw[kX];simp only[lv];omega
 ·rw[show(((ys.length:Nat):Int)==1)=false by rw[beq_eq_false_iff_ne];omega,brF]
  have yl0:=hy.at (ys.length-1) (by omega)
  have yl1:1≤ys[ys.length-1]'(by omega):=by
   have:ys[ys.length-1]'(by omega)≠0:=by
    intro e
    apply ty
    rw[List.getLast?_eq_getElem?,List.getElem?_eq_getElem (by omega),e]
   omega
  obtain⟨y,ey⟩:∃ y,y=ys[ys.length-1]'(by omega):=⟨_,rfl⟩
  rw[←ey]at yl0 yl1
  have e2:i64.wrap (((ys.length:Nat):Int)-1)=((ys.length-1:Nat):Int):=by rw[w64 (by omega) (by omega)];omega
  have e3:i64.wrap (y+1)=y+1:=w64 (by omega) (by simp only[G]at yl0;omega)
  have e4:i64.wrap (((xs.length:Nat):Int)+1)=((xs.length+1:Nat):Int):=by rw[w64 (by omega) (by omega)];omega
  obtain⟨s,es⟩:∃ s,s=1000000000 / (y+1):=⟨_,rfl⟩
  have sm:(y+1)*s≤1000000000:=by rw[es];exact Int.mul_ediv_self_le (by omega)
  have s0:0 < s:=by
   have:1≤1000000000 / (y+1):=Int.le_ediv_of_mul_le (by omega) (by simp only[G]at yl0;omega)
   omega
  have s1:s < G:=by
   have:=Int.mul_le_mul_of_nonneg_right (show 2≤y+1 by omega) (Int.le_of_lt s0)
   simp only[G];omega
  have hs:s*lv G ys < G ^ ys.length:=by
   have a:=mV G ys (ys.length-1) (by omega)
   rw[oD G ys (ys.length-1) (by omega),List.drop_of_length_le (by omega),←ey]at a
   simp only[lv,Int.mul_zero,Int.add_zero]at a
   have b:=mY (B:=G) (by decide) (hy.take (ys.length-1))
   rw[List.length_take,Nat.min_eq_left (by omega)]at b
   have c:lv G ys < G ^ (ys.length-1)*(y+1):=by rw[Int.mul_add];omega
   have d:=Int.mul_lt_mul_of_pos_left c s0
   have e:s*(G ^ (ys.length-1)*(y+1))=G ^ (ys.length-1)*((y+1)*s):=by grind
   have f:=Int.mul_le_mul_of_nonneg_left sm (Int.le_of_lt (jV (B:=G) (by decide) (ys.length-1)))
   have g:G ^ ys.length=G ^ (ys.length-1)*1000000000:=by
    conv=>lhs;rw[show ys.length=(ys.length-1)+1 by omega]
    rw[Int.pow_succ]
   omega
  rw[e2,dV _ _ (by omega),bdS,←ey,e3,nH (by decide) (by omega) (by decide),bdS,←es,e4,oL _ _ _ (xs.length+1) rfl rfl (by omega),bdS]
  obtain⟨w,r1,r2,r3,r4⟩:=afL lf xs [s] hx (Dg.cons ⟨by omega,s1⟩ Dg.nil) (by omega) (by simp) xs.length (lf+40) 0 (List.replicate (xs.length+1) 0) (by omega) (by omega) (Dg.zeros (by decide) _) (by simp) (by simp;omega) (fun q _ h=>by rw[List.length_replicate]at h;rw[List.getElem?_replicate,if_pos h])
  rw[List.length_replicate]at r2
  rw[oG]at r4
  simp only[lv,List.drop_zero,Int.mul_zero,Int.add_zero,Int.pow_zero,Int.one_mul,Int.zero_add]at r4
  rw[show((0:Nat):Int)=0 from rfl]at r1
  rw[r1,bdS]
  have wl:=kH w
  have fin:=dtail lf xs ys (tr w++[0]) s hlf hx hy ty (by omega) hlen hxb s0 s1 hs ((lU r3).app (Dg.zeros (by decide) 1)) (by simp;omega) (by simp) (by
   rw[List.length_append,List.length_singleton,Nat.add_sub_cancel,qG]
   simp only[lv,Int.mul_zero,Int.add_zero]
   exact mY (by decide) (lU r3)) (by rw[qG,kX,r4];simp[lv])
  rcases afQ lf [s] w (by omega) (lf+40) (by omega)with⟨t,h2⟩ | ⟨_,h2⟩
  ·rw[h2,bdS,brT,lK _ _ _ (by decide) (by simp;omega),bdS]
   rw[adC (show Tr w from t)]at fin
   exact fin _
  ·rw[h2,bdS,brF]
   simp only[abC]
   rw[decide_eq_true wl,Bool.true_and,lK _ _ _ (by decide) (by simp;omega),bdS]
   exact fin _
end Go.N
namespace Go.N
open Go Go.Q Go.Rx
theorem afV(lf:Nat)(l m:List UInt8)(h1:chk l=0)(h2:chk m=0)(h3:200000≤lf):
  gV.f lf (bs l) (bs m)=some (if(D (iv l*iv m).natAbs).length > 4096 then(bs [],10,())else(bs (Lib.itoa (iv l*iv m)),0,())):=by
 obtain⟨⟨pn,pl,⟨⟩⟩,⟨qn,ql,⟨⟩⟩,e,k1,k2,_⟩:=uM lf l m h1 h2 h3
 rw[gV.f,e,bdS]
 simp only[bne_self_eq_false,brF]
 obtain⟨r,e2,d1,d2,d3,d4⟩:=aeF lf pl ql k1.dg k2.dg (by have:=k1.len;simp only at this;omega) (by have:=k2.len;simp only at this;omega) h3
 have k3:RN (pn != qn,r,()) (iv l*iv m) 8192:=by
  refine⟨d1,d2,?_,?_⟩
  ·have a:=k1.len;have b:=k2.len;simp only at a b⊢;omega
  ·have a:=k1.val;have b:=k2.val
   simp only at a b⊢
   rw[d4,a,b]
   cases pn<;>cases qn<;>simp[Int.neg_mul,Int.mul_neg]
 rw[nC.f]
 simp only[e2,bdS]
 rw[uP lf k3 (by omega) h3,bdS]
theorem gZ{x y q r:Int}(h:x=y*q+r)(hr:(0≤r∧r < y)∨(y < r∧r≤0)):q=x.fdiv y∧r=x.fmod y:=by
 have e:=Int.mul_fdiv_add_fmod x y
 have hf:(0≤x.fmod y∧x.fmod y < y)∨(y < x.fmod y∧x.fmod y≤0):=by
  rcases hr with hr | hr
  ·exact Or.inl ⟨Int.fmod_nonneg_of_pos x (by omega),Int.fmod_lt_of_pos x (by omega)⟩
  ·refine Or.inr ?_
   have a:=Int.fmod_nonneg_of_pos (-x) (show 0 < -y by omega)
   have b:=Int.fmod_lt_of_pos (-x) (show 0 < -y by omega)
   rw[Int.neg_fmod_neg]at a b
   omega
 have key:x.fdiv y=q:=by
  have d:y*(x.fdiv y-q)=r-x.fmod y:=by rw[Int.mul_sub];omega
  rcases Int.lt_trichotomy (x.fdiv y) q with z | z | z
  ·rcases hr with hr | hr
   ·have:=Int.mul_le_mul_of_nonneg_left (show x.fdiv y-q≤-1 by omega) (show 0≤y by omega);omega
   ·have:=Int.mul_le_mul_of_nonneg_left (show x.fdiv y-q≤-1 by omega) (show 0≤-y by omega)
    simp only[Int.neg_mul]at this;omega
  ·exact z
  ·rcases hr with hr | hr
   ·have:=Int.mul_le_mul_of_nonneg_left (show 1≤x.fdiv y-q by omega) (show 0≤y by omega);omega
   ·have:=Int.mul_le_mul_of_nonneg_left (show 1≤x.fdiv y-q by omega) (show 0≤-y by omega)
    simp only[Int.neg_mul]at this;omega
 rw[key]at e
 exact⟨key.symm,by omega⟩
theorem aaz(lf:Nat)(hlf:2000000000≤lf){p q:Bool×(List Int×Unit)}{x y:Int}{k:Nat}(h1:RN p x k)(h2:RN q y k)(hk:k≤40000)(hy:y≠0):
  ∃ s t,lF.f lf p q=some (s,t,())∧RN s (x.fdiv y) (k+1)∧RN t (x.fmod y) k:=by
 obtain⟨pn,pl,⟨⟩⟩:=p
 obtain⟨qn,ql,⟨⟩⟩:=q
 obtain⟨d1,t1,l1,v1⟩:=h1
 obtain⟨d2,t2,l2,v2⟩:=h2
 simp only at d1 t1 l1 v1 d2 t2 l2 v2
 have hne:ql≠[]:=by
  rintro rfl
  apply hy
  rw[v2];simp[lv]
 obtain⟨Q,R,e,dq,tq,dr,tr',val,lt⟩:=zG lf pl ql d1 d2 t1 t2 hne (by omega) (by omega) hlf
 have y0:=pq (B:=G) (by decide) d2 t2 hne
 have R0:=dh (B:=G) (by decide) dr
 have Q0:=dh (B:=G) (by decide) dq
 have lR:R.length≤ql.length:=by
  by_cases z:R.length≤ql.length
  ·exact z
  ·have:=mr (B:=G) (by decide) d2 dr tr' (by omega);omega
 have lQ:Q.length≤pl.length:=by
  by_cases z:Q.length≤pl.length
  ·exact z
  ·have:=mr (B:=G) (by decide) d1 dq tq (by omega)
   have:=Int.mul_le_mul_of_nonneg_right (show 1≤lv G ql by omega) Q0
   omega
 rw[lF.f]
 simp only[e,bdS]
 by_cases hs:pn=qn
 ·subst hs
  simp only[BEq.rfl,brT]
  have key:lv G Q=x.fdiv y∧(if pn=true then -lv G R else lv G R)=x.fmod y:=by
   apply gZ
   ·cases pn<;>simp only[Bool.false_eq_true,if_true,if_false]at v1 v2⊢<;>rw[v1,v2,val]<;>grind
   ·cases pn<;>simp only[Bool.false_eq_true,if_true,if_false]at v1 v2⊢<;>omega
  exact⟨_,_,rfl,⟨dq,tq,by simp only;omega,by simp[key.1]⟩,⟨dr,tr',by simp only;omega,key.2.symm⟩⟩
 ·rw[show(pn==qn)=false from beq_eq_false_iff_ne.2 hs,brF]
  by_cases hR:R=[]
  ·subst hR
   rw[decide_eq_false (by simp),brF]
   have key: -lv G Q=x.fdiv y∧0=x.fmod y:=by
    apply gZ
    ·simp only[lv,Int.add_zero]at val
     cases pn<;>cases qn<;>simp only[Bool.false_eq_true,if_true,if_false,not_true,reduceCtorEq]at v1 v2 hs⊢<;>rw[v1,v2,val]<;>grind
    ·omega
   exact⟨_,_,rfl,⟨dq,tq,by simp only;omega,by simp[key.1]⟩,⟨Dg.nil,Tr.nil,by simp,by rw[←key.2];simp[lv]⟩⟩
  ·have Rl:0 < R.length:=List.length_pos_iff.2 hR
   have Rp:=pq (B:=G) (by decide) dr tr' hR
   rw[decide_eq_true (by omega),brT]
   obtain⟨Q1,f1,g1,g2,g3,g4⟩:=ac7 lf Q [1] dq (Dg.cons (by decide) Dg.nil) (by omega) (by simp) (by omega)
   obtain⟨R1,f2,g5,g6,g7,g8⟩:=yQ lf ql R d2 dr (by omega) (by omega) (by omega)
   have e1:lv G [1]=1:=by simp[lv]
   have key: -lv G Q1=x.fdiv y∧(if qn=true then -lv G R1 else lv G R1)=x.fmod y:=by
    apply gZ
    ·rw[g3,g7,e1]
     cases pn<;>cases qn<;>simp only[Bool.false_eq_true,if_true,if_false,not_true,reduceCtorEq]at v1 v2 hs⊢<;>rw[v1,v2,val]<;>grind
    ·rw[g7]
     cases pn<;>cases qn<;>simp only[Bool.false_eq_true,if_true,if_false,not_true,reduceCtorEq]at v1 v2 hs⊢<;>omega
   rw[f1,bdS,f2,bdS]
   refine⟨_,_,rfl,⟨g1,g2,?_,by simp[key.1]⟩,⟨g5,g6,by simp only;omega,key.2.symm⟩⟩
   simp only[List.length_singleton]at g4⊢
   omega
theorem xw(lf:Nat)(hlf:2000000000≤lf)(l m:List UInt8)(h1:chk l=0)(h2:chk m=0):
  jS.f lf (bs l) (bs m)=some (if iv m=0 then(bs [],bs [],19,())else(bs (Lib.itoa ((iv l).fdiv (iv m))),bs (Lib.itoa ((iv l).fmod (iv m))),0,())):=by
 obtain⟨p,q,e,k1,k2,_⟩:=uM lf l m h1 h2 (by omega)
 rw[jS.f,e,bdS]
 simp only[bne_self_eq_false,brF]
 by_cases h0:iv m=0
 ·rw[if_pos h0]
  have:q.2.1=[]:=by
   have a:=k2.val
   rw[h0]at a
   have b:=sN (B:=G) (by decide) k2.dg k2.tr
   apply b.1
   split at a<;>omega
  simp[this,brT]
 ·rw[if_neg h0]
  have hq:q.2.1≠[]:=by
   intro z
   apply h0
   have a:=k2.val
   rw[z]at a
   simpa [lv]using a
  have hl:0 < q.2.1.length:=List.length_pos_iff.2 hq
  rw[show(((q.2.1.length:Nat):Int)==0)=false from beq_eq_false_iff_ne.2 (by omega),brF]
  obtain⟨s,t,e2,r1,r2⟩:=aaz lf hlf k1 k2 (by omega) h0
  simp only[e2,bdS,vF lf r1 (by omega) (by omega),vF lf r2 (by omega) (by omega)]
theorem aeW(lf:Nat)(hlf:2000000000≤lf)(l m:List UInt8)(h1:chk l=0)(h2:chk m=0):
  fK.f lf (bs l) (bs m)=some (if iv m=0 then(bs [],19,())else(bs (Lib.itoa ((iv l).fdiv (iv m))),0,())):=by
 rw[fK.f,xw lf hlf l m h1 h2,bdS]
 split<;>rfl
theorem aeZ(lf:Nat)(hlf:2000000000≤lf)(l m:List UInt8)(h1:chk l=0)(h2:chk m=0):
  dA.f lf (bs l) (bs m)=some (if iv m=0 then(bs [],19,())else(bs (Lib.itoa ((iv l).fmod (iv m))),0,())):=by
 rw[dA.f,xw lf hlf l m h1 h2,bdS]
 split<;>rfl
end Go.N
namespace Go.N
open Go.IntKind (i64)
open Go Go.Q Go.Rx
set_option exponentiation.threshold 5000
theorem CC_K:C*C+C+C+10 < K:=by
 have h1:C*C=((10 ^ 200:Nat):Int):=by
  unfold C
  rw[←Int.natCast_mul,←Nat.pow_add]
 have h2:((10 ^ 200:Nat):Int)*10≤K:=by
  unfold K
  have:(10:Nat) ^ 200*10≤10 ^ 4096:=by rw[←Nat.pow_succ];exact Nat.pow_le_pow_right (by omega) (by omega)
  have h:(((10 ^ 200*10:Nat):Int))≤((10 ^ 4096:Nat):Int):=Int.ofNat_le.2 this
  rw[Int.natCast_mul]at h
  exact h
 have h3:=C_gt
 have h4:C*1000000≤C*C:=Int.mul_le_mul_of_nonneg_left (by omega) (by omega)
 omega
@[irreducible] def Dd : Int := ((10 ^ 1000 : Nat) : Int)
theorem fV:C < Dd:=by
 unfold C Dd
 have:(10:Nat) ^ 100 < 10 ^ 1000:=Nat.pow_lt_pow_right (by omega) (by omega)
 exact Int.ofNat_lt.2 this
theorem DD_K:Dd*Dd+Dd+Dd+10 < K:=by
 have h1:Dd*Dd=((10 ^ 2000:Nat):Int):=by
  unfold Dd
  rw[←Int.natCast_mul,←Nat.pow_add]
 have h2:((10 ^ 2000:Nat):Int)*10≤K:=by
  unfold K
  have:(10:Nat) ^ 2000*10≤10 ^ 4096:=by rw[←Nat.pow_succ];exact Nat.pow_le_pow_right (by omega) (by omega)
  have h:(((10 ^ 2000*10:Nat):Int))≤((10 ^ 4096:Nat):Int):=Int.ofNat_le.2 this
  rw[Int.natCast_mul]at h
  exact h
 have h3:=C_gt
 have h5:=fV
 have h4:Dd*1000000≤Dd*Dd:=Int.mul_le_mul_of_nonneg_left (by omega) (by omega)
 omega
theorem Dd_K:Dd < K:=by
 have h:=DD_K
 have h3:=C_gt
 have h5:=fV
 have h4:0≤Dd*Dd:=Int.mul_nonneg (by omega) (by omega)
 omega
theorem acV{a b:Int}(ha: -Dd < a∧a < Dd)(hb: -Dd < b∧b < Dd): -(Dd*Dd) < a*b∧a*b < Dd*Dd:=by
 have hC:=C_gt
 have hD:=fV
 have h1:(a*b).natAbs=a.natAbs*b.natAbs:=Int.natAbs_mul a b
 have h2:((a*b).natAbs:Int)=(a.natAbs:Int)*(b.natAbs:Int):=by rw[h1,Int.natCast_mul]
 have h3:(a.natAbs:Int)*(b.natAbs:Int)≤(Dd-1)*(Dd-1):=Int.mul_le_mul (by omega) (by omega) (by omega) (by omega)
 have h4:(Dd-1)*(Dd-1)=Dd*Dd-Dd-Dd+1:=by grind
 omega
theorem xI{a b:Int}(ha: -C < a∧a < C)(hb: -C < b∧b < C): -(C*C) < a*b∧a*b < C*C:=by
 have hC:=C_gt
 have h1:(a*b).natAbs=a.natAbs*b.natAbs:=Int.natAbs_mul a b
 have h2:((a*b).natAbs:Int)=(a.natAbs:Int)*(b.natAbs:Int):=by rw[h1,Int.natCast_mul]
 have h3:(a.natAbs:Int)*(b.natAbs:Int)≤(C-1)*(C-1):=Int.mul_le_mul (by omega) (by omega) (by omega) (by omega)
 have h4:(C-1)*(C-1)=C*C-C-C+1:=by grind
 omega
theorem aeR(lf:Nat)(i:Int):bC.f lf i=some ((i,bs [],()),()):=rfl
theorem nJ(lf:Nat){e v:Int}(h:e=v):(bd (bC.f lf e) fun r=>some (r.1,()))=some (((v,bs [],()):EB),()):=by subst h;rw[aeR,bdS]
theorem nO(lf:Nat)(z:Int):aT.f lf (bs (Lib.itoa z))=some (xc (.fin z),()):=rfl
theorem chkK{z:Int}(h: -K < z∧z < K):chk (Lib.itoa z)=0:=(mP z).2 h
theorem aau(lf:Nat)(h3:200000≤lf){x y:Int}(hx: -K < x∧x < K)(hy: -K < y∧y < K)(hs: -K < x+y∧x+y < K):iM.f lf (bs (Lib.itoa x)) (bs (Lib.itoa y))=some (bs (Lib.itoa (x+y)),()):=by
 rw[iM.f,oN lf h3 hx hy hs,bdS]
def xadd:X→X→X
 | .fin a,.fin b=>.fin (a+b)
 | .fin _,y=>y
 | x,_=>x
theorem zy(lf:Nat)(h3:200000≤lf){x y:X}(hx:okx C x)(hy:okx C y)(h:¬(x=.ni∧y=.pi)∧¬(x=.pi∧y=.ni)):jQ.f lf (xc x) (xc y)=some (xc (xadd x y),()):=by
 have hK:=CC_K
 have hC:=C_gt
 have h4:0≤C*C:=Int.mul_nonneg (by omega) (by omega)
 rw[jQ.f]
 cases x with
 | fin a=>cases y with
  | fin b =>
   simp only[okx]at hx hy
   simp only[xc,bne_self_eq_false,brF]
   rw[aau lf h3 (by omega) (by omega) (by omega),bdS,nO,bdS];rfl
  | ni=>exact(brF _ _).trans ((brT _ _).trans (nJ lf rfl))
  | pi=>exact(brF _ _).trans ((brT _ _).trans (nJ lf rfl))
 | ni=>cases y with
  | pi=>exact absurd ⟨rfl,rfl⟩ h.1
  | ni=>exact(brT _ _).trans (nJ lf rfl)
  | fin b=>exact(brT _ _).trans (nJ lf rfl)
 | pi=>cases y with
  | ni=>exact absurd ⟨rfl,rfl⟩ h.2
  | pi=>exact(brT _ _).trans (nJ lf rfl)
  | fin b=>exact(brT _ _).trans (nJ lf rfl)
def Pr(s:Sp):Prop:=emp s=true∨(s.lo≠.pi∧s.hi≠.ni)
theorem Wf.pr{a:A}(h:Wf a):Pr (ofA a):=by
 unfold Pr ofA
 cases ea:a.em with
 | true=>left;rw[if_pos rfl];exact lM
 | false =>
  right
  rw[if_neg (by simp)]
  constructor
  ·cases a.lo<;>simp[lox]
  ·cases a.hi<;>simp[hix]
theorem pY(x:X):key (xneg x)= -key x:=by cases x<;>simp[key,xneg]
theorem zJ{s:Sp}:emp (turn s)=emp s:=by
 unfold turn
 cases h:emp s with
 | true=>rw[if_pos rfl];exact lM
 | false =>
  rw[if_neg (by simp)]
  unfold emp at h⊢
  rw[pY,pY]
  rw[decide_eq_false_iff_not]at h⊢
  omega
theorem Pr.turn{s:Sp}(h:Pr s):Pr (turn s):=by
 unfold Pr
 rw[zJ]
 rcases h with h | h
 ·exact .inl h
 ·by_cases he:emp s=true
  ·exact .inl he
  ·right
   unfold Go.N.turn
   rw[if_neg he]
   obtain⟨lo,hi⟩:=s
   cases lo<;>cases hi<;>simp_all [xneg]
def addS(s t:Sp):Sp:=if emp s=true then non else if emp t=true then non else⟨xadd s.lo t.lo,xadd s.hi t.hi⟩
theorem abE{x y:X}(hx:okx C x)(hy:okx C y):okx K (xadd x y):=by
 have hK:=CC_K
 have hC:=C_gt
 have h4:0≤C*C:=Int.mul_nonneg (by omega) (by omega)
 cases x<;>cases y<;>simp only[xadd,okx]at*<;> omega
theorem vg{s t:Sp}(hs:oks C s)(ht:oks C t):oks K (addS s t):=by
 unfold addS;split
 ·exact je
 ·split
  ·exact je
  ·exact⟨abE hs.1 ht.1,abE hs.2 ht.2⟩
theorem oks.K{s:Sp}(h:oks C s):oks K s:=h.mono (Int.le_of_lt gJ)
theorem aaM(lf:Nat)(h3:200000≤lf){s t:Sp}(hs:oks C s)(ht:oks C t)(ps:Pr s)(pt:Pr t):iL.f lf (sc s) (sc t)=some (sc (addS s t),()):=by
 rw[iL.f,lm lf h3 hs.K,bdS,lm lf h3 ht.K]
 unfold addS
 cases e1:emp s with
 | true=>rw[brT,sO,bdS,if_pos rfl]
 | false =>
  rw[brF,bdS,if_neg (by simp)]
  cases e2:emp t with
  | true=>rw[brT,sO,bdS,if_pos rfl]
  | false =>
   rw[brF,if_neg (by simp)]
   have p1:=ps.resolve_left (by simp[e1])
   have p2:=pt.resolve_left (by simp[e2])
   simp only[sc]
   rw[zy lf h3 hs.1 ht.1 ⟨fun h=>p2.1 h.2,fun h=>p1.1 h.1⟩,bdS,zy lf h3 hs.2 ht.2 ⟨fun h=>p1.2 h.1,fun h=>p2.2 h.2⟩,bdS]
theorem acB(lf:Nat)(h3:200000≤lf){a b:A}(ha:Wf a)(hb:Wf b):jG.f lf (ac a) (ac b)=some (ac (toA (addS (ofA a) (ofA b))),0,()):=by
 rw[jG.f]
 simp only[lG lf h3 ha,lG lf h3 hb,bdS,bne_self_eq_false,brF,of_f,aaM lf h3 ha.okC hb.okC ha.pr hb.pr,jB lf h3 (vg ha.okC hb.okC)]
theorem acF(lf:Nat)(h3:200000≤lf){a b:A}(ha:Wf a)(hb:Wf b):jK.f lf (ac a) (ac b)=some (ac (toA (addS (ofA a) (turn (ofA b)))),0,()):=by
 rw[jK.f]
 simp only[lG lf h3 ha,lG lf h3 hb,bdS,bne_self_eq_false,brF,of_f,kU.f,pF lf h3 hb.okK,aaM lf h3 ha.okC (fZ hb.okC) ha.pr hb.pr.turn,jB lf h3 (vg ha.okC (fZ hb.okC))]
def sg:X→Int
 | .ni=> -1
 | .fin z=>sgn z
 | .pi=>1
theorem sg_f(lf:Nat)(h3:200000≤lf){x:X}(hx:okx K x):fU.f lf (xc x)=some (sg x,()):=by
 rw[fU.f]
 cases x with
 | ni=>exact(brT _ _).trans rfl
 | pi=>exact(brT _ _).trans rfl
 | fin z =>
  simp only[xc,bne_self_eq_false,brF]
  rw[show(⟨#[48]⟩:ByteArray)=bs [48] from rfl,qU lf _ _ ((mP z).2 hx) aaP h3,bdS,dm,iv48,Int.sub_zero];rfl
theorem sg3(x:X):sg x= -1∨sg x=0∨sg x=1:=by
 cases x with
 | ni=>exact .inl rfl
 | pi=>exact .inr (.inr rfl)
 | fin z=>simp only[sg,sgn];(repeat' split)<;>omega
def xmul(x y:X):X:=if sg x*sg y=0 then .fin 0 else match x,y with
 | .fin a,.fin b=>.fin (a*b)
 | _,_=>if sg x*sg y=1 then .pi else .ni
theorem rU(lf:Nat)(h3:200000≤lf){x y:Int}(hx: -K < x∧x < K)(hy: -K < y∧y < K)(hs: -K < x*y∧x*y < K):gV.f lf (bs (Lib.itoa x)) (bs (Lib.itoa y))=some (bs (Lib.itoa (x*y)),0,()):=by
 have h:=(sz_K (x*y)).2 hs
 rw[afV lf _ _ ((mP x).2 hx) ((mP y).2 hy) h3,dm,dm,oJ,if_neg (by omega)]
theorem vK(lf:Nat)(h3:200000≤lf){x y:X}(hx:okx C x)(hy:okx C y):dJ.f lf (xc x) (xc y)=some (xc (xmul x y),()):=by
 have hCK:=gJ
 have hK:=CC_K
 have hC:=C_gt
 have kx:=hx.mono (Int.le_of_lt hCK)
 have ky:=hy.mono (Int.le_of_lt hCK)
 rw[dJ.f,sg_f lf h3 kx,bdS,sg_f lf h3 ky,bdS]
 have a:=sg3 x
 have b:=sg3 y
 have w:i64.wrap (sg x*sg y)=sg x*sg y:=by
  apply w64<;>rcases a with a | a | a<;>rcases b with b | b | b<;>rw[a,b]<;>decide
 simp only[w]
 unfold xmul
 by_cases h0:sg x*sg y=0
 ·rw[h0,BEq.rfl,brT,if_pos rfl,i0,nO,bdS]
 ·rw[show(sg x*sg y==0)=false from beq_eq_false_iff_ne.2 h0,brF,if_neg h0]
  have one:sg x*sg y=1∨sg x*sg y= -1:=by
   rcases a with a | a | a<;>rcases b with b | b | b<;>rw[a,b]at h0⊢<;>simp at h0⊢
  cases x with
  | fin u=>cases y with
   | fin v =>
    have m:=xI hx hy
    simp only[okx]at kx ky
    simp only[xc,bne_self_eq_false,brF]
    rw[rU lf h3 kx ky (by omega),bdS,nO,bdS];rfl
   | ni => 
    refine(brF _ _).trans ((brT _ _).trans ?_)
    rcases one with o | o
    ·rw[o,if_pos rfl];exact nJ lf rfl
    ·rw[o,if_neg (by decide)];exact nJ lf rfl
   | pi =>
    refine(brF _ _).trans ((brT _ _).trans ?_)
    rcases one with o | o
    ·rw[o,if_pos rfl];exact nJ lf rfl
    ·rw[o,if_neg (by decide)];exact nJ lf rfl
  | ni =>
   refine(brT _ _).trans ?_
   rcases one with o | o
   ·rw[o];cases y<;>exact nJ lf rfl
   ·rw[o];cases y<;>exact nJ lf rfl
  | pi =>
   refine(brT _ _).trans ?_
   rcases one with o | o
   ·rw[o];cases y<;>exact nJ lf rfl
   ·rw[o];cases y<;>exact nJ lf rfl
theorem mM{x y:X}(hx:okx C x)(hy:okx C y):okx K (xmul x y):=by
 have hK:=CC_K
 have hC:=C_gt
 have h4:0≤C*C:=Int.mul_nonneg (by omega) (by omega)
 unfold xmul
 split
 ·simp only[okx];omega
 ·cases x with
  | fin u=>cases y with
   | fin v =>
    have m:=xI hx hy
    simp only[okx];omega
   | ni=>simp only;split<;>trivial
   | pi=>simp only;split<;>trivial
  | ni=>simp only;split<;>trivial
  | pi=>simp only;split<;>trivial
theorem aaf{x y:X}(hx:okx Dd x)(hy:okx Dd y):okx K (xmul x y):=by
 have hK:=DD_K
 have hC:=C_gt
 have hD:=fV
 have h4:0≤Dd*Dd:=Int.mul_nonneg (by omega) (by omega)
 unfold xmul
 split
 ·simp only[okx];omega
 ·cases x with
  | fin u=>cases y with
   | fin v =>
    have m:=acV hx hy
    simp only[okx];omega
   | ni=>simp only;split<;>trivial
   | pi=>simp only;split<;>trivial
  | ni=>simp only;split<;>trivial
  | pi=>simp only;split<;>trivial
theorem okx.D{x:X}(h:okx C x):okx Dd x:=h.mono (Int.le_of_lt fV)
def one(v:X):Sp:=⟨v,v⟩
def apS(o:X→X→X)(s t:Sp):Sp:=if emp s=true then non else if emp t=true then non else
 hull (hull (hull (hull non (one (o s.lo t.lo))) (one (o s.lo t.hi))) (one (o s.hi t.lo))) (one (o s.hi t.hi))
theorem fH{k:Int}{v:X}(h:okx k v):oks k (one v):=⟨h,h⟩
theorem ab9{o:X→X→X}{s t:Sp}(h:∀ x y,(x=s.lo∨x=s.hi)→(y=t.lo∨y=t.hi)→okx K (o x y)):oks K (apS o s t):=by
 unfold apS;split
 ·exact je
 ·split
  ·exact je
  ·exact gU (gU (gU (gU je (fH (h _ _ (.inl rfl) (.inl rfl)))) (fH (h _ _ (.inl rfl) (.inr rfl)))) (fH (h _ _ (.inr rfl) (.inl rfl)))) (fH (h _ _ (.inr rfl) (.inr rfl)))
theorem aa8{s t:Sp}(hs:oks C s)(ht:oks C t):oks K (apS xmul s t):=ab9 fun x y hx hy=>by
 rcases hx with rfl | rfl<;>rcases hy with rfl | rfl<;>exact mM (by first | exact hs.1 | exact hs.2) (by first | exact ht.1 | exact ht.2)
theorem acC(lf:Nat)(h3:200000≤lf){a b:A}(ha:Wf a)(hb:Wf b):jH.f lf (ac a) (ac b)=some (ac (toA (apS xmul (ofA a) (ofA b))),0,()):=by
 rw[jH.f]
 have hs:=ha.okC
 have ht:=hb.okC
 have c1:=mM hs.1 ht.1
 have c2:=mM hs.1 ht.2
 have c3:=mM hs.2 ht.1
 have c4:=mM hs.2 ht.2
 have g1:=gU je (fH c1)
 have g2:=gU g1 (fH c2)
 have g3:=gU g2 (fH c3)
 have g4:=gU g3 (fH c4)
 have so:∀ v:X,((xc v,xc v,()):EB×(EB×Unit))=sc (one v):=fun _=>rfl
 simp only[lG lf h3 ha,lG lf h3 hb,bdS,bne_self_eq_false,brF,of_f,lm lf h3 hs.K,lm lf h3 ht.K,sO,jB lf h3 je]
 unfold apS
 cases emp (ofA a)with
 | true=>simp only[brT,if_true]
 | false =>
  cases emp (ofA b)with
  | true=>simp only[brT,brF,Bool.false_eq_true,if_true,if_false]
  | false =>
   simp only[brF,Bool.false_eq_true,if_false]
   have x1:(sc (ofA a)).1=xc (ofA a).lo:=rfl
   have x2:(sc (ofA a)).2.1=xc (ofA a).hi:=rfl
   have x3:(sc (ofA b)).1=xc (ofA b).lo:=rfl
   have x4:(sc (ofA b)).2.1=xc (ofA b).hi:=rfl
   simp only[x1,x2,x3,x4,vK lf h3 hs.1 ht.1,vK lf h3 hs.1 ht.2,vK lf h3 hs.2 ht.1,vK lf h3 hs.2 ht.2,bdS,so,kT lf h3 je (fH c1),kT lf h3 g1 (fH c2),kT lf h3 g2 (fH c3),kT lf h3 g3 (fH c4),jB lf h3 g4]
end Go.N
namespace Go.N
open Go Go.Q Go.Rx
def xover:X→X→X
 | .fin a,.fin b=>.fin (a.fdiv b)
 | .fin a,_=>if a < 0 then .fin (-1)else .fin 0
 | x,_=>x
theorem qg(lf:Nat)(hlf:2000000000≤lf){x y:Int}(hx: -K < x∧x < K)(hy: -K < y∧y < K)(h0:y≠0):fK.f lf (bs (Lib.itoa x)) (bs (Lib.itoa y))=some (bs (Lib.itoa (x.fdiv y)),0,()):=by
 rw[aeW lf hlf _ _ (chkK hx) (chkK hy),dm,dm,if_neg h0]
theorem jr(lf:Nat)(hlf:2000000000≤lf){x y:Int}(hx: -K < x∧x < K)(hy: -K < y∧y < K)(h0:y≠0):dA.f lf (bs (Lib.itoa x)) (bs (Lib.itoa y))=some (bs (Lib.itoa (x.fmod y)),0,()):=by
 rw[aeZ lf hlf _ _ (chkK hx) (chkK hy),dm,dm,if_neg h0]
theorem pz(x:X):(sg x < 0↔key x < 0)∧(sg x=0↔key x=0)∧(0 < sg x↔0 < key x):=by
 have:=K_gt
 cases x with
 | ni=>simp only[sg,key];omega
 | pi=>simp only[sg,key];omega
 | fin z=>simp only[sg,key,sgn];(repeat' split)<;>omega
theorem oI(lf:Nat)(hlf:2000000000≤lf){x y:X}(hx:okx C x)(hy:okx C y)(h0:y≠.fin 0):aC.f lf (xc x) (xc y)=some (xc (xover x y),()):=by
 have hK:=gJ
 rw[aC.f]
 cases x with
 | ni=>exact(brT _ _).trans rfl
 | pi=>exact(brT _ _).trans rfl
 | fin a =>
  have s:=sg_f lf (by omega) (x:=.fin a) (hx.mono (Int.le_of_lt hK))
  simp only[okx]at hx
  rw[s]
  cases y with
  | fin b =>
   simp only[okx]at hy
   simp only[xc,bne_self_eq_false,brF,BEq.rfl,brT]
   rw[qg lf hlf (by omega) (by omega) (by intro e;exact h0 (by rw[e])),bdS,nO,bdS];rfl
  | ni =>
   simp only[xc,bne_self_eq_false,brF,bdS,show((-1:Int)==0)=false from rfl,show decide (sg (.fin a) < 0)=decide (a < 0) from by have:=(pz (.fin a)).1;simp only[decide_eq_decide];exact this,xover]
   by_cases h:a < 0
   ·rw[decide_eq_true h,brT,if_pos h,im1,nO,bdS];rfl
   ·rw[decide_eq_false h,brF,if_neg h,i0,nO,bdS];rfl
  | pi =>
   simp only[xc,bne_self_eq_false,brF,bdS,show((1:Int)==0)=false from rfl,show decide (sg (.fin a) < 0)=decide (a < 0) from by have:=(pz (.fin a)).1;simp only[decide_eq_decide];exact this,xover]
   by_cases h:a < 0
   ·rw[decide_eq_true h,brT,if_pos h,im1,nO,bdS];rfl
   ·rw[decide_eq_false h,brF,if_neg h,i0,nO,bdS];rfl
theorem acp{a b k:Int}(hk:1 < k)(ha: -k < a∧a < k)(hb:1≤b): -k < a.fdiv b∧a.fdiv b < k:=by
 have m:=Int.mul_fdiv_add_fmod a b
 have r0:=Int.fmod_nonneg_of_pos a (show 0 < b by omega)
 have r1:=Int.fmod_lt_of_pos a (show 0 < b by omega)
 rcases Int.lt_or_le (a.fdiv b) 0 with z | z
 ·have:=Int.mul_le_mul_of_nonneg_right hb (show 0≤-a.fdiv b-1 by omega)
  have e:b*(-a.fdiv b-1)= -(b*a.fdiv b)-b:=by grind
  omega
 ·have:=Int.mul_le_mul_of_nonneg_right hb z
  omega
theorem aag{x y:X}(hx:okx C x)(hy:∀ b,y=.fin b→1≤b):okx C (xover x y):=by
 have hC:=C_gt
 cases x with
 | ni=>trivial
 | pi=>trivial
 | fin a=>cases y with
  | fin b=>exact acp (by omega) hx (hy b rfl)
  | ni=>simp only[xover];split<;>simp only[okx]<;>omega
  | pi=>simp only[xover];split<;>simp only[okx]<;>omega
theorem xY{x y:X}(hx:okx Dd x)(hy:∀ b,y=.fin b→1≤b):okx Dd (xover x y):=by
 have hC:=C_gt
 have hD:=fV
 cases x with
 | ni=>trivial
 | pi=>trivial
 | fin a=>cases y with
  | fin b=>exact acp (by omega) hx (hy b rfl)
  | ni=>simp only[xover];split<;>simp only[okx]<;>omega
  | pi=>simp only[xover];split<;>simp only[okx]<;>omega
def posS(s:Sp):Sp:=common s ⟨.fin 1,.pi⟩
theorem rW{z:Int}(h1: -10≤z)(h2:z≤10):okx C (.fin z):=by have:=C_gt;simp only[okx];omega
theorem jg{s:Sp}(h:oks C s):oks C (posS s):=uD h ⟨rW (by decide) (by decide),trivial⟩
theorem qI(lf:Nat)(h3:200000≤lf){s:Sp}(hs:oks C s):aG.f lf (sc s)=some (sc (posS s),()):=by
 rw[aG.f,i1,nO,bdS,aeR,bdS]
 have:=ace lf h3 hs.K (t:=⟨.fin 1,.pi⟩) ⟨(rW (by decide) (by decide)).mono (Int.le_of_lt gJ),trivial⟩
 rw[show((xc (X.fin 1),(1,bs [],()),()):EB×(EB×Unit))=sc ⟨.fin 1,.pi⟩ from rfl,this,bdS];rfl
theorem abe{s:Sp}(he:emp (posS s)=false)(hs:oks C s)(hp:Pr s):∃ l,(posS s).lo=.fin l∧1≤l∧key s.lo≤l∧(∀ h,(posS s).hi=.fin h→l≤h)∧(posS s).hi=s.hi∧s.hi≠.ni:=by
 have hK:=gJ
 have hC:=C_gt
 have kl:=qV (hs.K.1)
 have kh:=qV (hs.K.2)
 obtain⟨lo,hi⟩:=s
 unfold emp at he
 have he:=of_decide_eq_false he
 simp only[posS,common]at he⊢
 have k2:xmin hi .pi=hi:=by
  unfold xmin
  rw[show key .pi=K from rfl]
  split
  ·simp only at kh;omega
  ·rfl
 rw[k2]at he⊢
 rw[nY]at he
 have e1:key (.fin 1)=1:=rfl
 rw[e1]at he
 simp only at kl kh
 have hl:lo≠.pi:=by
  rintro rfl
  rcases hp with h | h
  ·unfold emp at h
   simp only[decide_eq_true_eq]at h
   omega
  ·exact h.1 rfl
 have hn:hi≠.ni:=by
  rintro rfl
  simp only[key]at he
  omega
 refine⟨max (key lo) 1,?_,by omega,by omega,?_,rfl,hn⟩
 ·by_cases h:key lo < 1
  ·rw[afG (show key lo < key (.fin 1) from h)];congr 1;omega
  ·rw[afF (show ¬key lo < key (.fin 1) from h)]
   cases lo with
   | pi=>exact absurd rfl hl
   | ni=>exfalso;simp only[key]at h;omega
   | fin z=>simp only[key]at h⊢;congr 1;omega
 ·intro h e
  have:key hi=h:=by rw[e];rfl
  omega
theorem vN{s t:Sp}(hs:oks C s)(ht:∀ y,(y=t.lo∨y=t.hi)→∀ b,y=.fin b→1≤b):oks K (apS xover s t):=ab9 fun x y hx hy=>by
 refine(aag ?_ (ht y hy)).mono (Int.le_of_lt gJ)
 rcases hx with rfl | rfl
 ·exact hs.1
 ·exact hs.2
theorem kV{s:Sp}(he:emp (posS s)=false)(hs:oks C s)(hp:Pr s):∀ y,(y=(posS s).lo∨y=(posS s).hi)→∀ b,y=.fin b→1≤b:=by
 obtain⟨l,e1,e2,e3,e4,e5,e6⟩:=abe he hs hp
 intro y hy b hb
 rcases hy with rfl | rfl
 ·rw[e1]at hb
  injection hb with hb
  omega
 ·have:=e4 b hb;omega
def quoS(s t:Sp):Sp :=
 if emp s=true then non else
 hull (if emp (posS t)=true then non else apS xover s (posS t)) (if emp (posS (turn t))=true then non else apS xover (turn s) (posS (turn t)))
theorem acA(s:Sp)(h:emp s=false∨s=non):hull s non=s:=by
 unfold hull
 rcases h with h | rfl
 ·rw[if_neg (by simp[h]),if_pos lM]
 ·rw[if_pos lM]
theorem nV(v:X):emp (one v)=false:=by unfold emp one;simp
theorem qQ{s t:Sp}(hs:emp s=false)(ht:emp t=false):emp (hull s t)=false:=by
 unfold hull
 rw[if_neg (by simp[hs]),if_neg (by simp[ht])]
 unfold emp at hs ht⊢
 simp only[decide_eq_false_iff_not,nZ,nY]at hs ht⊢
 omega
theorem tY(s:Sp):hull non s=s:=by unfold hull;rw[if_pos lM]
theorem adU{o:X→X→X}{s t:Sp}(h1:emp s=false)(h2:emp t=false):emp (apS o s t)=false:=by
 unfold apS
 rw[if_neg (by simp[h1]),if_neg (by simp[h2]),tY]
 exact qQ (qQ (qQ (nV _) (nV _)) (nV _)) (nV _)
set_option maxHeartbeats 4000000 in
theorem acD(lf:Nat)(hlf:2000000000≤lf){a b:A}(ha:Wf a)(hb:Wf b):jI.f lf (ac a) (ac b)=some (ac (toA (quoS (ofA a) (ofA b))),0,()):=by
 have h3:200000≤lf:=by omega
 rw[jI.f]
 have hs:=ha.okC
 have ht:=hb.okC
 have pt:=hb.pr
 have ts:=fZ hs
 have tt:=fZ ht
 have et:emp (turn (ofA a))=emp (ofA a):=zJ
 have so:∀ v:X,((xc v,xc v,()):EB×(EB×Unit))=sc (one v):=fun _=>rfl
 simp only[lG lf h3 ha,lG lf h3 hb,bdS,bne_self_eq_false,brF,of_f,lm lf h3 hs.K,qI lf h3 ht,pF lf h3 ht.K,qI lf h3 tt,lm lf h3 (jg ht).K,lm lf h3 (jg tt).K,pF lf h3 hs.K,lm lf h3 ts.K,et,sO,jB lf h3 je,aK.f]
 unfold quoS
 generalize hS:ofA a=s at *
 generalize hT:ofA b=t at *
 have x1:(sc s).1=xc s.lo:=rfl
 have x2:(sc s).2.1=xc s.hi:=rfl
 have x3:(sc (posS t)).1=xc (posS t).lo:=rfl
 have x4:(sc (posS t)).2.1=xc (posS t).hi:=rfl
 have x5:(sc (turn s)).1=xc (turn s).lo:=rfl
 have x6:(sc (turn s)).2.1=xc (turn s).hi:=rfl
 have x7:(sc (posS (turn t))).1=xc (posS (turn t)).lo:=rfl
 have x8:(sc (posS (turn t))).2.1=xc (posS (turn t)).hi:=rfl
 have nz:∀ {u:Sp} (h:∀ y,(y=u.lo∨y=u.hi)→∀ b,y=.fin b→1≤b),u.lo≠.fin 0∧u.hi≠.fin 0:=fun h=>⟨fun e=>by have:=h _ (.inl rfl) 0 e;omega,fun e=>by have:=h _ (.inr rfl) 0 e;omega⟩
 have ov:∀ {x y:X},okx C x→(∀ b,y=.fin b→1≤b)→okx K (xover x y):=fun hx hy=>(aag hx hy).mono (Int.le_of_lt gJ)
 cases e1:emp s with
 | true=>simp only[brF,brT,Bool.not_true,Bool.not_false,if_true];cases emp (posS t)<;>simp only[brF,brT,Bool.not_true,Bool.not_false]<;>cases emp (posS (turn t))<;>simp only[brF,brT,Bool.not_true,Bool.not_false]
 | false =>
  cases e2:emp (posS t)with
  | true =>
   simp only[brF,brT,Bool.not_true,Bool.not_false,if_true,if_false,Bool.false_eq_true]
   cases e3:emp (posS (turn t))with
   | true =>
    simp only[brF,brT,Bool.not_true,Bool.not_false,if_true,if_false,Bool.false_eq_true]
    rw[tY]
   | false =>
    have en:=kV e3 tt pt.turn
    have n:=nz en
    have c1:=ov ts.1 (en _ (.inl rfl))
    have c2:=ov ts.1 (en _ (.inr rfl))
    have c3:=ov ts.2 (en _ (.inl rfl))
    have c4:=ov ts.2 (en _ (.inr rfl))
    have g1:=gU je (fH c1)
    have g2:=gU g1 (fH c2)
    have g3:=gU g2 (fH c3)
    have g4:=gU g3 (fH c4)
    have pk:=jg tt
    simp only[brF,brT,Bool.not_true,Bool.not_false,if_true,if_false,Bool.false_eq_true,x5,x6,x7,x8,oI lf hlf ts.1 pk.1 n.1,oI lf hlf ts.1 pk.2 n.2,oI lf hlf ts.2 pk.1 n.1,oI lf hlf ts.2 pk.2 n.2,bdS,so,kT lf h3 je (fH c1),kT lf h3 g1 (fH c2),kT lf h3 g2 (fH c3),kT lf h3 g3 (fH c4)]
    have ea':apS xover (turn s) (posS (turn t))=hull (hull (hull (hull non (one (xover (turn s).lo (posS (turn t)).lo))) (one (xover (turn s).lo (posS (turn t)).hi))) (one (xover (turn s).hi (posS (turn t)).lo))) (one (xover (turn s).hi (posS (turn t)).hi)):=by
     unfold apS;rw[if_neg (by simp[et,e1]),if_neg (by simp[e3])]
    rw[←ea']at g4⊢
    rw[kT lf h3 je g4,bdS,jB lf h3 (gU je g4),bdS]
  | false =>
   have en:=kV e2 ht pt
   have n:=nz en
   have c1:=ov hs.1 (en _ (.inl rfl))
   have c2:=ov hs.1 (en _ (.inr rfl))
   have c3:=ov hs.2 (en _ (.inl rfl))
   have c4:=ov hs.2 (en _ (.inr rfl))
   have g1:=gU je (fH c1)
   have g2:=gU g1 (fH c2)
   have g3:=gU g2 (fH c3)
   have g4:=gU g3 (fH c4)
   have pk:=jg ht
   simp only[brF,brT,Bool.not_true,Bool.not_false,if_true,if_false,Bool.false_eq_true,x1,x2,x3,x4,oI lf hlf hs.1 pk.1 n.1,oI lf hlf hs.1 pk.2 n.2,oI lf hlf hs.2 pk.1 n.1,oI lf hlf hs.2 pk.2 n.2,bdS,so,kT lf h3 je (fH c1),kT lf h3 g1 (fH c2),kT lf h3 g2 (fH c3),kT lf h3 g3 (fH c4),jB lf h3 g4]
   have ea:apS xover s (posS t)=hull (hull (hull (hull non (one (xover s.lo (posS t).lo))) (one (xover s.lo (posS t).hi))) (one (xover s.hi (posS t).lo))) (one (xover s.hi (posS t).hi)):=by
    unfold apS;rw[if_neg (by simp[e1]),if_neg (by simp[e2])]
   rw[←ea]at g4⊢
   have ne:=adU (o:=xover) e1 e2
   cases e3:emp (posS (turn t))with
   | true =>
    simp only[brF,brT,Bool.not_true,Bool.not_false,if_true,if_false,Bool.false_eq_true]
    rw[acA _ (.inl ne)]
   | false =>
    have en':=kV e3 tt pt.turn
    have n':=nz en'
    have c1':=ov ts.1 (en' _ (.inl rfl))
    have c2':=ov ts.1 (en' _ (.inr rfl))
    have c3':=ov ts.2 (en' _ (.inl rfl))
    have c4':=ov ts.2 (en' _ (.inr rfl))
    have g1':=gU je (fH c1')
    have g2':=gU g1' (fH c2')
    have g3':=gU g2' (fH c3')
    have g4':=gU g3' (fH c4')
    have pk':=jg tt
    simp only[brF,brT,Bool.not_true,Bool.not_false,if_true,if_false,Bool.false_eq_true,x5,x6,x7,x8,oI lf hlf ts.1 pk'.1 n'.1,oI lf hlf ts.1 pk'.2 n'.2,oI lf hlf ts.2 pk'.1 n'.1,oI lf hlf ts.2 pk'.2 n'.2,bdS,so,kT lf h3 je (fH c1'),kT lf h3 g1' (fH c2'),kT lf h3 g2' (fH c3'),kT lf h3 g3' (fH c4')]
    have ea':apS xover (turn s) (posS (turn t))=hull (hull (hull (hull non (one (xover (turn s).lo (posS (turn t)).lo))) (one (xover (turn s).lo (posS (turn t)).hi))) (one (xover (turn s).hi (posS (turn t)).lo))) (one (xover (turn s).hi (posS (turn t)).hi)):=by
     unfold apS;rw[if_neg (by simp[et,e1]),if_neg (by simp[e3])]
    rw[←ea']at g4'⊢
    rw[kT lf h3 g4 g4',bdS,jB lf h3 (gU g4 g4'),bdS]
def allS(c:Int):Sp:=⟨.fin 0,.fin (c-1)⟩
def resS(s:Sp)(c:Int):Sp:=match s.lo,s.hi with
 | .fin l,.fin h=>if h-l≥c-1 then allS c else if l.fmod c > h.fmod c then allS c else⟨.fin (l.fmod c),.fin (h.fmod c)⟩
 | _,_=>allS c
theorem afz(a b:Int):decide (sgn (a-b)≥0)=decide (b≤a):=by
 simp only[decide_eq_decide];unfold sgn;(repeat' split)<;>omega
theorem x9{c:Int}(h1:1≤c)(h2:c < C):oks C (allS c):=by
 have:=C_gt
 constructor<;>simp only[allS,okx]<;>omega
theorem aex{s:Sp}{c:Int}(h1:1≤c)(h2:c < C):oks C (resS s c):=by
 have hC:=C_gt
 unfold resS
 split
 ·rename_i l h _ _
  have a0:=Int.fmod_nonneg_of_pos l (show 0 < c by omega)
  have a1:=Int.fmod_lt_of_pos l (show 0 < c by omega)
  have b0:=Int.fmod_nonneg_of_pos h (show 0 < c by omega)
  have b1:=Int.fmod_lt_of_pos h (show 0 < c by omega)
  split
  ·exact x9 h1 h2
  ·split
   ·exact x9 h1 h2
   ·constructor<;>simp only[okx]<;>omega
 ·exact x9 h1 h2
theorem aaA(lf:Nat)(hlf:2000000000≤lf){s:Sp}(hs:oks C s){c:Int}(h1:1≤c)(h2:c < C):jZ.f lf (sc s) (bs (Lib.itoa c))=some (sc (resS s c),()):=by
 have h3:200000≤lf:=by omega
 have hC:=C_gt
 have hK:=CC_K
 have h4:0≤C*C:=Int.mul_nonneg (by omega) (by omega)
 have e1:=aau lf h3 (x:=c) (y:= -1) (by omega) (by omega) (by omega)
 rw[jZ.f,i0,im1,e1,nO,bdS,bdS,nO,bdS]
 have al:(((xc (.fin 0),xc (.fin (c+ -1)),()):EB×(EB×Unit)))=sc (allS c):=by
  rw[show c+ -1=c-1 by omega];rfl
 obtain⟨lo,hi⟩:=s
 cases lo with
 | ni=>exact(brT _ _).trans (by simp only[resS];rw[al])
 | pi=>exact(brT _ _).trans (by simp only[resS];rw[al])
 | fin l=>cases hi with
  | ni=>exact(brF _ _).trans ((brT _ _).trans (by simp only[resS];rw[al]))
  | pi=>exact(brF _ _).trans ((brT _ _).trans (by simp only[resS];rw[al]))
  | fin h =>
   have kl: -C < l∧l < C:=hs.1
   have kh: -C < h∧h < C:=hs.2
   refine(brF _ _).trans ((brF _ _).trans ?_)
   simp only[sc,xc]
   have n1:=acL lf h3 (z:=l) (by omega)
   have s1:=aau lf h3 (x:=h) (y:= -l) (by omega) (by omega) (by omega)
   rw[n1,bdS,s1,bdS,qU lf _ _ (chkK (by omega)) (chkK (by omega)) h3,bdS,dm,dm]
   simp only[resS,afz]
   by_cases c1:h-l≥c-1
   ·rw[decide_eq_true (by omega),brT,if_pos c1]
    exact congrArg (fun x=>some (x,())) al
   ·rw[decide_eq_false (by omega),brF,if_neg c1]
    have a0:=Int.fmod_nonneg_of_pos l (show 0 < c by omega)
    have a1:=Int.fmod_lt_of_pos l (show 0 < c by omega)
    have b0:=Int.fmod_nonneg_of_pos h (show 0 < c by omega)
    have b1:=Int.fmod_lt_of_pos h (show 0 < c by omega)
    rw[jr lf hlf (by omega) (by omega) (by omega),bdS,jr lf hlf (by omega) (by omega) (by omega),bdS,qU lf _ _ (chkK (by omega)) (chkK (by omega)) h3,bdS,dm,dm]
    simp only[aaB]
    by_cases c2:l.fmod c > h.fmod c
    ·rw[decide_eq_true (by omega),brT,if_pos c2]
     exact congrArg (fun x=>some (x,())) al
    ·rw[decide_eq_false (by omega),brF,if_neg c2,nO,bdS,nO,bdS]
     rfl
def remI(s t:Sp):Sp:=if single t=true then resS s (valX t.lo)else if 0≤key s.lo∧key s.hi < key t.lo then s else
 ⟨.fin 0,if 0≤key s.lo then xmin (xsh t.hi (-1)) s.hi else xsh t.hi (-1)⟩
theorem adJ{x:X}(h:okx C x):valX x < C:=by have:=C_gt;cases x<;>simp only[valX,okx]at*<;> omega
theorem ae6{x:X}(hx:okx C x)(h:∀ z,x=.fin z→1≤z):okx C (xsh x (-1)):=by
 have:=C_gt
 cases x with
 | fin z=>have:=h z rfl;simp only[xsh,okx]at *;omega
 | ni=>trivial
 | pi=>trivial
theorem rX{s t:Sp}(hs:oks C s)(ht:oks C t)(hp:∀ y,(y=t.lo∨y=t.hi)→∀ b,y=.fin b→1≤b):oks C (remI s t):=by
 have h0:okx C (.fin 0):=rW (by decide) (by decide)
 unfold remI
 split
 ·rename_i e
  have:=xQ e
  exact aex (hp _ (.inl rfl) _ this) (adJ ht.1)
 ·split
  ·exact hs
  ·refine⟨h0,?_⟩
   have:=ae6 ht.2 (hp _ (.inr rfl))
   simp only
   split
   ·exact zo this hs.2
   ·exact this
theorem qJ(lf:Nat)(hlf:2000000000≤lf){s t:Sp}(hs:oks C s)(ht:oks C t)(hp:∀ y,(y=t.lo∨y=t.hi)→∀ b,y=.fin b→1≤b):bT.f lf (sc s) (sc t)=some (sc (remI s t),()):=by
 have h3:200000≤lf:=by omega
 have x1:(sc s).1=xc s.lo:=rfl
 have x2:(sc s).2.1=xc s.hi:=rfl
 have x3:(sc t).1=xc t.lo:=rfl
 have x4:(sc t).2.1=xc t.hi:=rfl
 rw[bT.f,adq,bdS]
 unfold remI
 cases e:single t with
 | true =>
  have el:=xQ e
  have h1:=hp _ (.inl rfl) _ el
  rw[brT,if_pos rfl]
  have ex:(sc t).1.2.1=bs (Lib.itoa (valX t.lo)):=by rw[x3,el];rfl
  rw[ex,aaA lf hlf hs h1 (adJ ht.1),bdS]
 | false =>
  rw[brF,if_neg (by simp)]
  obtain⟨cc,c1,c2,c3⟩:=xk lf h3 hs.K.2 ht.K.1
  have sh:=ab3 lf h3 ht.2 (d:= -1) (by decide) (by decide)
  have hx:=ae6 ht.2 (hp _ (.inr rfl))
  have g:=pz s.lo
  have ge:decide (sg s.lo≥0)=decide (0≤key s.lo):=by simp only[decide_eq_decide];omega
  have cg:decide (cc < 0)=decide (key s.hi < key t.lo):=by simp only[decide_eq_decide];omega
  simp only[x1,x2,x3,x4,sg_f lf h3 hs.K.1,bdS,ge,c1,im1,sh,yK lf h3 (hx.mono (Int.le_of_lt gJ)) hs.K.2,i0,nO,cg]
  by_cases h0:0≤key s.lo<;>by_cases hlt:key s.hi < key t.lo<;>simp only[h0,hlt,decide_true,decide_false,brT,brF,if_true,if_false,and_self,and_true,and_false,false_and]<;>rfl
def remS(s t:Sp):Sp :=
 if emp s=true then non else
 if emp (posS t)=true then(if emp (posS (turn t))=true then non else turn (remI (turn s) (posS (turn t))))else
 if emp (posS (turn t))=true then remI s (posS t)else hull (remI s (posS t)) (turn (remI (turn s) (posS (turn t))))
theorem acE(lf:Nat)(hlf:2000000000≤lf){a b:A}(ha:Wf a)(hb:Wf b):jJ.f lf (ac a) (ac b)=some (ac (toA (remS (ofA a) (ofA b))),0,()):=by
 have h3:200000≤lf:=by omega
 rw[jJ.f]
 have hs:=ha.okC
 have ht:=hb.okC
 have pt:=hb.pr
 have ts:=fZ hs
 have tt:=fZ ht
 simp only[lG lf h3 ha,lG lf h3 hb,bdS,bne_self_eq_false,brF,of_f,lm lf h3 hs.K,qI lf h3 ht,pF lf h3 ht.K,qI lf h3 tt,lm lf h3 (jg ht).K,lm lf h3 (jg tt).K,pF lf h3 hs.K,sO,jB lf h3 je]
 unfold remS
 generalize ofA a=s at *
 generalize ofA b=t at *
 cases e1:emp s with
 | true=>simp only[brF,brT,Bool.not_true,Bool.not_false,if_true];cases emp (posS t)<;>simp only[brF,brT,Bool.not_true,Bool.not_false]<;>cases emp (posS (turn t))<;>simp only[brF,brT,Bool.not_true,Bool.not_false]
 | false =>
  cases e2:emp (posS t)with
  | true =>
   simp only[brF,brT,Bool.not_true,Bool.not_false,if_true,if_false,Bool.false_eq_true]
   cases e3:emp (posS (turn t))with
   | true=>simp only[brF,brT,Bool.not_true,Bool.not_false,if_true,if_false,Bool.false_eq_true]
   | false =>
    have en:=kV e3 tt pt.turn
    have k1:=rX ts (jg tt) en
    have k2:=fZ k1
    simp only[brF,brT,Bool.not_true,Bool.not_false,if_true,if_false,Bool.false_eq_true,qJ lf hlf ts (jg tt) en,bdS,pF lf h3 k1.K,kT lf h3 je k2.K,tY,jB lf h3 k2.K]
  | false =>
   have en:=kV e2 ht pt
   have k3:=rX hs (jg ht) en
   simp only[brF,brT,Bool.not_true,Bool.not_false,if_true,if_false,Bool.false_eq_true,qJ lf hlf hs (jg ht) en,bdS]
   cases e3:emp (posS (turn t))with
   | true=>simp only[brF,brT,Bool.not_true,Bool.not_false,if_true,if_false,Bool.false_eq_true,jB lf h3 k3.K,bdS]
   | false =>
    have en':=kV e3 tt pt.turn
    have k1:=rX ts (jg tt) en'
    have k2:=fZ k1
    simp only[brF,brT,Bool.not_true,Bool.not_false,if_true,if_false,Bool.false_eq_true,qJ lf hlf ts (jg tt) en',bdS,pF lf h3 k1.K,kT lf h3 k3.K k2.K,jB lf h3 (gU k3.K k2.K)]
end Go.N
namespace Go.N
open Go.IntKind (i64)
open Go Go.Q Go.Rx
theorem xK(lf:Nat)(l:List UInt8)(hl:l.length≤1000000):∀ (k n i j a:Nat),i+k=l.length→k < n→(l.drop i).all isDig=true→a < 10 ^ j→j+k≤18→
  bn.l0 lf (bs l) n ((a:Nat):Int) ((i:Nat):Int)=some (((((l.drop i).foldl (fun a b=>a*10+dig b) a:Nat):Int),()),()):=by
 intro k
 induction k with
 | zero =>
  intro n i j a hi hn hd ha hj
  obtain⟨m,rfl⟩:=Nat.exists_eq_succ_of_ne_zero (show n≠0 by omega)
  rw[bn.l0,bn.r0,gB,decide_eq_false (by omega),brF,List.drop_of_length_le (by omega)]
  rfl
 | succ k ih =>
  intro n i j a hi hn hd ha hj
  obtain⟨m,rfl⟩:=Nat.exists_eq_succ_of_ne_zero (show n≠0 by omega)
  have hlt:i < l.length:=by omega
  rw[List.drop_eq_getElem_cons hlt,List.all_cons,Bool.and_eq_true]at hd
  have hb:=hd.1
  have hb':=hb
  unfold isDig at hb'
  simp only[decide_eq_true_eq]at hb'
  have p1:10 ^ (j+1)≤10 ^ 18:=Nat.pow_le_pow_right (by omega) (by omega)
  have p2:10 ^ (j+1)=10 ^ j*10:=Nat.pow_succ ..
  have p3:(10:Nat) ^ 18=1000000000000000000:=by decide
  have hdl:=yC hb
  have e1:IntKind.u8.wrap (((l[i].toNat:Nat):Int)-48)=(dig l[i]:Int):=by
   rw[w8 (by omega) (by omega)];unfold dig;omega
  have e2:i64.wrap (((a:Nat):Int)*10)=((a*10:Nat):Int):=by rw[w64 (by omega) (by omega)];omega
  have e3:i64.wrap ((dig l[i]:Nat):Int)=((dig l[i]:Nat):Int):=w64 (by omega) (by omega)
  have e4:i64.wrap (((a*10:Nat):Int)+((dig l[i]:Nat):Int))=((a*10+dig l[i]:Nat):Int):=by rw[w64 (by omega) (by omega)];omega
  have e5:i64.wrap (((i:Nat):Int)+1)=((i+1:Nat):Int):=by rw[w64 (by omega) (by omega)];omega
  have hne:((((l[i]).toNat:Nat):Int) != 45)=true:=by
   rw[bne,abD,decide_eq_false (by intro e;rw[e]at hb';simp at hb')];rfl
  rw[bn.l0,bn.r0,gB,decide_eq_true (by omega),brT,oM l _ i rfl hlt,bdS,hne,brT,bdS,e1,e2,e3,e4,e5,ih m (i+1) (j+1) _ (by omega) (by omega) hd.2 (by omega) (by omega)]
  rw[List.drop_eq_getElem_cons hlt,List.foldl_cons]
theorem nS(lf:Nat)(h3:200000≤lf){z:Int}(hz:sz z≤18):bn.f lf (bs (Lib.itoa z))=some (z,()):=by
 have hc:=jh z
 have hp:=jP hc
 have hb:(body (Lib.itoa z)).length≤18:=hz
 have hl:=qc (Lib.itoa z)
 have hnl:nlen (Lib.itoa z)≤18:=hz
 have hiv:=dm z
 have hdv:=acj _ hp.1
 have p1:10 ^ (body (Lib.itoa z)).length≤10 ^ 18:=Nat.pow_le_pow_right (by omega) hb
 have p3:(10:Nat) ^ 18=1000000000000000000:=by decide
 rw[bn.f]
 by_cases hn:neg (Lib.itoa z)=true
 ·have hh:(Lib.itoa z).head? = some 45:=by unfold neg at hn;simpa using hn
  obtain⟨r,hr⟩:∃ r,Lib.itoa z=45::r:=by
   cases h:Lib.itoa z with
   | nil=>rw[h]at hh;simp at hh
   | cons b r=>rw[h]at hh;simp at hh;exact⟨r,by rw[hh]⟩
  have hbody:body (Lib.itoa z)=r:=by unfold body;rw[if_pos hh,hr];rfl
  rw[hbody]at hp hb hdv p1
  have st:bn.l0 lf (bs (Lib.itoa z)) ((lf+39)+1) 0 0=some ((((dv r:Nat):Int),()),()):=by
   have step:=xK lf (Lib.itoa z) (by omega) r.length (lf+39) 1 0 0 (by rw[hr,List.length_cons];omega) (by omega) (by rw[hr];exact hp.1) (by decide) (by omega)
   rw[bn.l0,bn.r0,gB,decide_eq_true (by rw[hr,List.length_cons];omega),brT,oM (Lib.itoa z) 0 0 rfl (by rw[hr];simp),bdS]
   have e45:((((Lib.itoa z)[0]'(by rw[hr];simp)).toNat:Nat):Int) != 45↔False:=by
    have:(Lib.itoa z)[0]'(by rw[hr];simp)=45:=by simp[hr]
    rw[this];decide
   rw[show(((((Lib.itoa z)[0]'(by rw[hr];simp)).toNat:Nat):Int) != 45)=false from by rw[Bool.eq_false_iff];exact fun h=>e45.1 h,brF,show i64.wrap (0+1)=((1:Nat):Int) from by decide]
   rw[show(0:Int)=((0:Nat):Int) from rfl,step]
   simp[hr,dv]
  rw[show lf+40=(lf+39)+1 from rfl,st,bdS,jd lf _ hp.2.2,bdS]
  simp only[hn,brT]
  unfold iv at hiv
  rw[if_pos hn,hbody]at hiv
  rw[w64 (by omega) (by omega)]
  congr 2;omega
 ·have hh:(Lib.itoa z).head?≠some 45:=by unfold neg at hn;simpa using hn
  have hbody:body (Lib.itoa z)=Lib.itoa z:=by unfold body;rw[if_neg hh]
  have st:=xK lf (Lib.itoa z) (by omega) (Lib.itoa z).length (lf+40) 0 0 0 (by omega) (by omega) (by rw[List.drop_zero,←hbody];exact hp.1) (by decide) (by rw[←hbody];omega)
  rw[show((0:Nat):Int)=0 from rfl]at st
  rw[st,bdS,jd lf _ hp.2.2,bdS]
  simp only[hn,brF]
  unfold iv at hiv
  rw[if_neg hn,hbody]at hiv
  rw[List.drop_zero]
  exact congrArg (fun x:Int=>some (x,())) hiv
def D0(m:Nat):List UInt8:=if m=0 then []else D m
theorem adS{m:Nat}(h:m≠0):D0 m=D0 (m / 10)++[dch (m % 10)]:=by
 unfold D0
 rw[if_neg h]
 by_cases h10:m < 10
 ·rw[if_pos (by omega),List.nil_append]
  show Lib.decDigits m=_
  rw[jX h10,Nat.mod_eq_of_lt h10]
 ·rw[if_neg (by omega)]
  exact qC h10
theorem ab6(d:Nat)(h:d < 10):(([48,49,50,51,52,53,54,55,56,57]:List UInt8).drop d).take 1=[dch d]:=by
 have:∀ d:Fin 10,(([48,49,50,51,52,53,54,55,56,57]:List UInt8).drop d.val).take 1=[dch d.val]:=by decide +kernel
 exact this ⟨d,h⟩
theorem adN(lf:Nat)(v0:Int):∀ (k n m:Nat) (v:Int) (acc:List UInt8),m < 10 ^ k→k < n→(v=(m:Int)∨v= -(m:Int))→m≤9223372036854775808→(v=(m:Int)→m≤9223372036854775807)→acc.length+k≤1000000→
  bU.l0 lf v0 n (bs acc) v=some ((bs (D0 m++acc),()),()):=by
 intro k
 induction k with
 | zero =>
  intro n m v acc hm hn hv _ _ _
  obtain⟨f,rfl⟩:=Nat.exists_eq_succ_of_ne_zero (show n≠0 by omega)
  obtain rfl:m=0:=by simpa using hm
  obtain rfl:v=0:=by omega
  rw[bU.l0,bU.r0,bne_self_eq_false,brF]
  rfl
 | succ k ih =>
  intro n m v acc hm hn hv hb hb2 hacc
  obtain⟨f,rfl⟩:=Nat.exists_eq_succ_of_ne_zero (show n≠0 by omega)
  by_cases h0:m=0
  ·subst h0
   obtain rfl:v=0:=by omega
   rw[bU.l0,bU.r0,bne_self_eq_false,brF]
   rfl
  have vn:v≠0:=by omega
  have p2:10 ^ (k+1)=10 ^ k*10:=Nat.pow_succ ..
  have et:Int.tmod v 10=((m % 10:Nat):Int)∨Int.tmod v 10= -((m % 10:Nat):Int):=by
   rcases hv with rfl | rfl
   ·left;rw[Int.tmod_eq_emod_of_nonneg (by omega)];omega
   ·right;rw[Int.neg_tmod,Int.tmod_eq_emod_of_nonneg (by omega)];omega
  have eq:(v=(m:Int)∧Int.tdiv v 10=((m / 10:Nat):Int))∨(v= -(m:Int)∧Int.tdiv v 10= -((m / 10:Nat):Int)):=by
   rcases hv with rfl | rfl
   ·left;exact⟨rfl,by rw[Int.tdiv_eq_ediv_of_nonneg (by omega)];omega⟩
   ·right;exact⟨rfl,by rw[Int.neg_tdiv,Int.tdiv_eq_ediv_of_nonneg (by omega)];omega⟩
  have e1:iRem v 10=some (Int.tmod v 10):=by unfold iRem;rw[if_neg (by decide)]
  have e2:iQuo .i64 v 10=some (Int.tdiv v 10):=by
   unfold iQuo;rw[if_neg (by decide)]
   congr 1
   apply w64<;>rcases eq with⟨_,e⟩ | ⟨_,e⟩<;>rw[e]<;>omega
  have e3:i64.wrap (0-Int.tmod v 10)=0-Int.tmod v 10:=by apply w64<;>rcases et with e | e<;>rw[e]<;>omega
  have e4:(if 0-Int.tmod v 10 > Int.tmod v 10 then 0-Int.tmod v 10 else Int.tmod v 10)=((m % 10:Nat):Int):=by
   rcases et with e | e<;>rw[e]<;>split<;>omega
  have e5:i64.wrap (((m % 10:Nat):Int)+1)=((m % 10+1:Nat):Int):=by rw[w64 (by omega) (by omega)];omega
  have lt10:m % 10 < 10:=Nat.mod_lt _ (by omega)
  rw[bU.l0,bU.r0,show(v != 0)=true by simpa using vn,brT,e1,bdS,bdS,e3,e4,e5,
   show(⟨#[48,49,50,51,52,53,54,55,56,57]⟩:ByteArray)=bs [48,49,50,51,52,53,54,55,56,57] from rfl,abw _ _ _ (m % 10) (m % 10+1) rfl rfl (by omega) (by simp;omega),bdS,
   Nat.add_sub_cancel_left,ab6 _ lt10,vI _ _ (by simp;omega),bdS,e2,bdS,ih f (m / 10) _ _ (by omega) (by omega) (by rcases eq with⟨_,e⟩ | ⟨_,e⟩<;>rw[e]<;>omega) (by omega) (by omega) (by simp;omega),adS h0]
  simp
theorem uO(lf:Nat)(h3:200000≤lf){z:Int}(h1: -9223372036854775808≤z)(h2:z≤9223372036854775807):bU.f lf z=some (bs (Lib.itoa z),()):=by
 have p19:(10:Nat) ^ 19=10000000000000000000:=by decide
 rw[bU.f]
 by_cases h0:z=0
 ·subst h0
  rw[BEq.rfl,brT]
  have i0:Lib.itoa 0=[48]:=by unfold Lib.itoa;rw[if_neg (by omega)];exact lT
  rw[i0]
 ·rw[show(z==0)=false from beq_eq_false_iff_ne.2 h0,brF,show(⟨#[]⟩:ByteArray)=bs [] from rfl,
   adN lf z 19 (lf+40) z.natAbs z [] (by omega) (by omega) (by omega) (by omega) (by omega) (by simp),bdS]
  simp only[List.append_nil]
  have e0:D0 z.natAbs=D z.natAbs:=by unfold D0;rw[if_neg (by omega)]
  rw[e0]
  by_cases hn:z < 0
  ·have ln:(D z.natAbs).length≤19:=lg 18 _ (by omega)
   rw[decide_eq_true hn,brT,show(⟨#[45]⟩:ByteArray)=bs [45] from rfl,vI [45] _ (by simp;omega),bdS]
   unfold Lib.itoa
   rw[if_pos hn];rfl
  ·rw[decide_eq_false hn,brF]
   unfold Lib.itoa
   rw[if_neg hn,show z.natAbs=z.toNat by omega]
def bl(l:List Int):List UInt8:=l.reverse.map fun d=>dch d.toNat
theorem aaO(l:List Int)(d:Int):bl (l++[d])=dch d.toNat::bl l:=by simp[bl]
theorem afU{l:List Int}(h:Dg 10 l):ld (bl l)=l:=by
 unfold ld bl
 rw[←List.map_reverse,List.reverse_reverse,List.map_map]
 conv=>rhs;rw[←List.map_id l]
 apply List.map_congr_left
 intro d hd
 have:=h d hd
 simp only[Function.comp,id]
 rw[yA (by omega)];omega
theorem ae9{l:List Int}(h:Dg 10 l):(bl l).all isDig=true:=by
 rw[List.all_eq_true]
 intro b hb
 unfold bl at hb
 obtain⟨d,hd,rfl⟩:=List.mem_map.1 hb
 have:=h d (by simpa using hd)
 exact uF (by omega)
theorem afb(l:List Int):(bl l).length=l.length:=by simp[bl]
theorem afa{l:List Int}(h:Dg 10 l)(ht:Tr l)(hn:l≠[]):bl l=D (lv 10 l).toNat:=by
 have hv:dv (bl l)=(lv 10 l).toNat:=by
  have:=aa7 (bl l)
  rw[afU h]at this
  omega
 rw[←hv]
 apply aan (ae9 h)
 ·intro e;apply hn;have:=afb l;rw[e]at this;exact List.length_eq_zero_iff.1 this.symm
 ·left
  obtain⟨m,x,rfl⟩:∃ m x,l=m++[x]:=⟨l.dropLast,l.getLast hn,(List.dropLast_concat_getLast hn).symm⟩
  have hx:=h x (by simp)
  have hx0:x≠0:=by intro e;subst e;simp[Tr]at ht
  unfold bl
  rw[List.reverse_append]
  simp only[List.reverse_singleton,List.singleton_append,List.map_cons,List.head?_cons,ne_eq,Option.some.injEq]
  intro e
  have:=congrArg UInt8.toNat e
  rw[tH (by omega)]at this
  simp at this
  omega
theorem uQ(acc:List UInt8)(d:Int)(h0:0≤d)(h1:d < 10):(acc.map fun b=>(b.toNat:Int))++[IntKind.u8.wrap (i64.wrap (48+d))]=(acc++[dch d.toNat]).map fun b=>(b.toNat:Int):=by
 rw[w64 (by omega) (by omega),w8 (by omega) (by omega),List.map_append]
 simp only[List.map_cons,List.map_nil]
 rw[tH (by omega)]
 congr 2;omega
theorem aek(lf:Nat)(l q:List Int)(h:Dg 10 l)(hl:l.length≤1000000):∀ (k n:Nat) (acc:List UInt8),k≤l.length→k < n→acc.length+k≤1100000→
  aU.l0 lf l q n (((k:Nat):Int)-1) (acc.map fun b=>(b.toNat:Int))=some (((acc++bl (l.take k)).map fun b=>(b.toNat:Int),()),()):=by
 intro k
 induction k with
 | zero =>
  intro n acc hk hn ha
  obtain⟨m,rfl⟩:=Nat.exists_eq_succ_of_ne_zero (show n≠0 by omega)
  rw[aU.l0,aU.r0,decide_eq_false (by omega),brF]
  simp[bl]
 | succ k ih =>
  intro n acc hk hn ha
  obtain⟨m,rfl⟩:=Nat.exists_eq_succ_of_ne_zero (show n≠0 by omega)
  have hkl:k < l.length:=by omega
  have d:=h.at k hkl
  rw[aU.l0,aU.r0,show((k+1:Nat):Int)-1=((k:Nat):Int) by omega,decide_eq_true (by omega),brT,dV _ _ hkl,bdS,lK _ _ _ (by decide) (by simp;omega),bdS,w64 (n:=((k:Nat):Int)-1) (by omega) (by omega),
   uQ acc _ d.1 d.2,ih m _ (by omega) (by omega) (by simp;omega)]
  rw[←List.take_append_getElem hkl,aaO]
  simp
theorem ael(lf:Nat)(l:List Int)(h:Dg 10 l)(hl:l.length≤1000000):∀ (k n:Nat) (acc:List UInt8),k≤l.length→k < n→acc.length+k≤1100000→
  aU.l1 lf l n (((k:Nat):Int)-1) (acc.map fun b=>(b.toNat:Int))=some (((acc++bl (l.take k)).map fun b=>(b.toNat:Int),()),()):=by
 intro k
 induction k with
 | zero =>
  intro n acc hk hn ha
  obtain⟨m,rfl⟩:=Nat.exists_eq_succ_of_ne_zero (show n≠0 by omega)
  rw[aU.l1,aU.r1,decide_eq_false (by omega),brF]
  simp[bl]
 | succ k ih =>
  intro n acc hk hn ha
  obtain⟨m,rfl⟩:=Nat.exists_eq_succ_of_ne_zero (show n≠0 by omega)
  have hkl:k < l.length:=by omega
  have d:=h.at k hkl
  rw[aU.l1,aU.r1,show((k+1:Nat):Int)-1=((k:Nat):Int) by omega,decide_eq_true (by omega),brT,dV _ _ hkl,bdS,lK _ _ _ (by decide) (by simp;omega),bdS,w64 (n:=((k:Nat):Int)-1) (by omega) (by omega),
   uQ acc _ d.1 d.2,ih m _ (by omega) (by omega) (by simp;omega)]
  rw[←List.take_append_getElem hkl,aaO]
  simp
theorem qY(lf:Nat)(h3:200000≤lf){l:List Int}(h:Dg 10 l)(hl:l.length≤100000)(b:Bool):aU.f lf l b=some (bs (Lib.itoa (if b=true then -lv 10 l else lv 10 l)),()):=by
 have hd:=lU h
 have ht:=nP l
 have hv:=kX 10 l
 have hlen:=kH l
 rw[aU.f,pJ lf l hl h3,bdS]
 simp only
 by_cases h0:tr l=[]
 ·rw[h0]at hv
  have v0:lv 10 l=0:=by rw[←hv];rfl
  have i0:Lib.itoa 0=[48]:=by unfold Lib.itoa;rw[if_neg (by omega)];exact lT
  rw[h0,show((([]:List Int).length:Nat):Int)==0 from rfl,brT,v0]
  cases b<;>simp[i0]
 ·have l0:0 < (tr l).length:=List.length_pos_iff.2 h0
  have vp:=pq (B:=10) (by decide) hd ht h0
  have bd':=afa hd ht h0
  rw[hv]at vp bd'
  rw[show((((tr l).length:Nat):Int)==0)=false from beq_eq_false_iff_ne.2 (by omega),brF,w64 (by omega) (by omega)]
  cases b with
  | true =>
   have:=aek lf (tr l) [45] hd (by omega) (tr l).length (lf+40) [45] (Nat.le_refl _) (by omega) (by simp;omega)
   rw[show([45]:List UInt8).map (fun b=>(b.toNat:Int))=[45] from rfl]at this
   rw[brT,lK _ _ _ (by decide) (by simp),bdS,List.nil_append,this,bdS,if_pos trivial,bdS,qA,List.take_length,bd',if_pos rfl]
   unfold Lib.itoa
   rw[if_pos (by omega),show(-lv 10 l).natAbs=(lv 10 l).toNat by omega]
   rfl
  | false =>
   have:=ael lf (tr l) hd (by omega) (tr l).length (lf+40) [] (Nat.le_refl _) (by omega) (by simp;omega)
   rw[show([]:List UInt8).map (fun b=>(b.toNat:Int))=[] from rfl]at this
   rw[brF,this,bdS,if_pos trivial,bdS,qA,List.take_length,List.nil_append,bd',if_neg (by simp)]
   unfold Lib.itoa
   rw[if_neg (by omega)]
theorem aah(lf:Nat)(l:List Int)(i:Nat):fC.f lf l ((i:Nat):Int)=some (l.getD i 0,()):=by
 rw[fC.f]
 by_cases h:i < l.length
 ·rw[decide_eq_true (by omega),brT,dV _ _ h,bdS,getD_lt _ _ h]
 ·rw[decide_eq_false (by omega),brF,qF _ _ h]
theorem adf(lf:Nat)(xs ys:List Int)(N:Nat)(hx:Dg 10 xs)(hy:Dg 10 ys)(hN:N=max xs.length ys.length+1)(hb:N≤1000000):∀ (k n i:Nat) (c:Int) (out:List Int),i+k=N→out.length=i→0≤c→c≤1→k < n→
  dI.l0 lf xs ys n c (i:Nat) out=some ((out++addL 10 (xs.drop i) (ys.drop i) c k,()),()):=by
 have eN:i64.wrap ((if((ys.length:Nat):Int) >((xs.length:Nat):Int)then((ys.length:Nat):Int)else((xs.length:Nat):Int))+1)=((N:Nat):Int):=by
  have e:(if((ys.length:Nat):Int) >((xs.length:Nat):Int)then((ys.length:Nat):Int)else((xs.length:Nat):Int))=((max xs.length ys.length:Nat):Int):=by split<;>omega
  rw[e,w64 (by omega) (by omega)];omega
 intro k
 induction k with
 | zero =>
  intro n i c out hi ho h0 h1 hn
  obtain⟨m,rfl⟩:=Nat.exists_eq_succ_of_ne_zero (show n≠0 by omega)
  rw[dI.l0,dI.r0,eN,decide_eq_false (by omega),brF,addL,List.append_nil]
 | succ k ih =>
  intro n i c out hi ho h0 h1 hn
  obtain⟨m,rfl⟩:=Nat.exists_eq_succ_of_ne_zero (show n≠0 by omega)
  have ex:=hx.getD (by decide) i
  have ey:=hy.getD (by decide) i
  obtain⟨s,hs⟩:∃ s,s=c+xs.getD i 0+ys.getD i 0:=⟨_,rfl⟩
  have s0:0≤s:=by omega
  have e1:i64.wrap (xs.getD i 0+ys.getD i 0)=xs.getD i 0+ys.getD i 0:=w64 (by omega) (by omega)
  have e2:i64.wrap (c+(xs.getD i 0+ys.getD i 0))=s:=by rw[w64 (by omega) (by omega)];omega
  have e5:i64.wrap (((i:Nat):Int)+1)=((i+1:Nat):Int):=by rw[w64 (by omega) (by omega)];omega
  rw[dI.l0,dI.r0,eN,decide_eq_true (by omega),brT,aah,bdS,aah,bdS,e1,e2,oK s0 (by decide),bdS,lK _ _ _ (by decide) (by simp;omega),bdS,nH s0 (by decide) (by omega),bdS,e5,
   ih m (i+1) _ _ (by omega) (by simp;omega) (Int.ediv_nonneg s0 (by decide)) (by omega) (by omega),addL,lu,lu,lC,lC,←hs]
  simp
theorem abZ(lf:Nat)(h3:200000≤lf){xs ys:List Int}(hx:Dg 10 xs)(hy:Dg 10 ys)(h1:xs.length≤90000)(h2:ys.length≤90000):
  ∃ l,dI.f lf xs ys=some (l,())∧Dg 10 l∧Tr l∧l.length≤max xs.length ys.length+1∧lv 10 l=lv 10 xs+lv 10 ys:=by
 obtain⟨N,hN⟩:∃ N,N=max xs.length ys.length+1:=⟨_,rfl⟩
 refine⟨tr (addL 10 xs ys 0 N),?_,lU (yw (by decide) _ _ _ _),nP _,?_,?_⟩
 ·have:=adf lf xs ys N hx hy hN (by omega) N (lf+40) 0 0 [] (by omega) rfl (by omega) (by omega) (by omega)
  rw[show((0:Nat):Int)=0 from rfl]at this
  rw[dI.f,this,bdS,List.drop_zero,List.drop_zero,List.nil_append,pJ lf _ (by rw[pU];omega) h3,bdS]
 ·have:=kH (addL 10 xs ys 0 N)
  rw[pU]at this
  omega
 ·rw[kX,yM (by decide),Int.zero_add]
  have a1:=mY (B:=10) (by decide) hx
  have a2:=mY (B:=10) (by decide) hy
  have a3:=jY (B:=10) (by decide) (show xs.length≤max xs.length ys.length by omega)
  have a3':=jY (B:=10) (by decide) (show ys.length≤max xs.length ys.length by omega)
  have a4:=dh (B:=10) (by decide) hx
  have a5:=dh (B:=10) (by decide) hy
  apply Int.emod_eq_of_lt (by omega)
  rw[hN,Int.pow_succ]
  omega
theorem abX(lf:Nat)(xs ys:List Int)(hx:Dg 10 xs)(hy:Dg 10 ys)(hb:xs.length≤1000000):∀ (k n i:Nat) (c:Int) (out:List Int),i+k=xs.length→out.length=i→0≤c→c≤1→k < n→
  bI.l0 lf xs ys n c (i:Nat) out=some ((out++subL 10 (xs.drop i) (ys.drop i) c k,()),()):=by
 intro k
 induction k with
 | zero =>
  intro n i c out hi ho h0 h1 hn
  obtain⟨m,rfl⟩:=Nat.exists_eq_succ_of_ne_zero (show n≠0 by omega)
  rw[bI.l0,bI.r0,decide_eq_false (by omega),brF,subL,List.append_nil]
 | succ k ih =>
  intro n i c out hi ho h0 h1 hn
  obtain⟨m,rfl⟩:=Nat.exists_eq_succ_of_ne_zero (show n≠0 by omega)
  have hil:i < xs.length:=by omega
  have ex:=hx.at i hil
  have ey:=hy.getD (by decide) i
  obtain⟨d,hd⟩:∃ d,d=xs[i]-c-ys.getD i 0:=⟨_,rfl⟩
  have e1:i64.wrap (xs[i]-ys.getD i 0)=xs[i]-ys.getD i 0:=w64 (by omega) (by omega)
  have e2:i64.wrap (xs[i]-ys.getD i 0-c)=d:=by rw[w64 (by omega) (by omega)];omega
  have e5:i64.wrap (((i:Nat):Int)+1)=((i+1:Nat):Int):=by rw[w64 (by omega) (by omega)];omega
  have go:∀ (v c':Int),v=d % 10→c'= -(d / 10)→0≤c'→c'≤1→bI.l0 lf xs ys m c' ((i+1:Nat):Int) (out++[v])=some ((out++subL 10 (xs.drop i) (ys.drop i) c (k+1),()),()):=by
   intro v c' hv hc c0 c1
   rw[ih m (i+1) c' _ (by omega) (by simp;omega) c0 c1 (by omega),subL,lu,lu,lC,lC,getD_lt _ _ hil,←hd,hv,hc]
   simp
  rw[bI.l0,bI.r0,decide_eq_true (by omega),brT,dV _ _ hil,bdS,aah,bdS,e1,e2]
  by_cases hneg:d < 0
  ·rw[decide_eq_true hneg,brT,lK _ _ _ (by decide) (by simp;omega),bdS,w64 (n:=d+10) (by omega) (by omega),e5]
   exact go _ 1 (by omega) (by omega) (by omega) (by omega)
  ·rw[decide_eq_false hneg,brF,lK _ _ _ (by decide) (by simp;omega),bdS,e5]
   exact go _ 0 (by omega) (by omega) (by omega) (by omega)
theorem sS(lf:Nat)(h3:200000≤lf){xs ys:List Int}(hx:Dg 10 xs)(hy:Dg 10 ys)(h1:xs.length≤90000)(hle:lv 10 ys≤lv 10 xs):
  ∃ l,bI.f lf xs ys=some (l,())∧Dg 10 l∧Tr l∧l.length≤xs.length∧lv 10 l=lv 10 xs-lv 10 ys:=by
 refine⟨tr (subL 10 xs ys 0 xs.length),?_,lU (yx (by decide) _ _ _ _),nP _,?_,?_⟩
 ·have:=abX lf xs ys hx hy (by omega) xs.length (lf+40) 0 0 [] (by omega) rfl (by omega) (by omega) (by omega)
  rw[show((0:Nat):Int)=0 from rfl]at this
  rw[bI.f,this,bdS,List.drop_zero,List.drop_zero,List.nil_append,pJ lf _ (by rw[qx];omega) h3,bdS]
 ·have:=kH (subL 10 xs ys 0 xs.length)
  rw[qx]at this
  exact this
 ·rw[kX,yO (by decide)]
  have a1:=mY (B:=10) (by decide) hx
  have a5:=dh (B:=10) (by decide) hy
  rw[show lv 10 xs-0-lv 10 ys=lv 10 xs-lv 10 ys by omega]
  exact Int.emod_eq_of_lt (by omega) (by omega)
theorem ld_body{z:Int}:Dg 10 (ld (body (Lib.itoa z)))∧lv 10 (ld (body (Lib.itoa z)))=(z.natAbs:Int)∧(ld (body (Lib.itoa z))).length=sz z:=by
 refine⟨acO (jP (jh z)).1,?_,by rw[yJ];rfl⟩
 rw[aa7]
 have h:=dm z
 unfold iv at h
 split at h<;>omega
theorem qZ(z:Int):neg (Lib.itoa z)=decide (z < 0):=by
 by_cases h:z < 0
 ·rw[decide_eq_true h];exact(yG (jh z)).1 (by rw[dm];exact h)
 ·rw[decide_eq_false h,Bool.eq_false_iff]
  intro e;have:=(yG (jh z)).2 e;rw[dm]at this;omega
theorem qW(z:Int):(Lib.itoa z).length≤sz z+1:=qc _
theorem rZ(lf:Nat){z:Int}(hz:sz z≤50000)(n:Int):dY.f lf (bs (Lib.itoa z)) n=some (decide ((sz z:Int)≤n),()):=by
 have:=qW z
 rw[dY.f,mZ lf _ (jW z) (by omega),bdS]
 rfl
theorem qK{z:Int}{k:Nat}(h:sz z≤k)(hk:1≤k):(z.natAbs:Int) < 10 ^ k:=by
 have a:=ld_body (z:=z)
 have b:=mY (B:=10) (by decide) a.1
 rw[a.2.1,a.2.2]at b
 have:=jY (B:=10) (by decide) h
 omega
theorem zV(lf:Nat)(h3:200000≤lf){x y:Int}(hx:sz x≤50000)(hy:sz y≤50000):
    (bd (aQ.f lf (bs (Lib.itoa x))) fun r6 =>
 bd (aQ.f lf (bs (Lib.itoa y))) fun r7 =>
 bd (aA.f lf (bs (Lib.itoa x))) fun r8 =>
 bd (aA.f lf (bs (Lib.itoa y))) fun r9 =>
 br (r8.1==r9.1) (
 bd (dI.f lf r6.1 r7.1) fun r10 =>
 bd (aA.f lf (bs (Lib.itoa x))) fun r11 =>
 bd (aU.f lf r10.1 r11.1) fun r12 =>
 some (r12.1,())) (
 bd (aH.f lf r6.1) fun r13 =>
 bd (aH.f lf r7.1) fun r14 =>
 bd (bP.f lf r13.1 r14.1) fun r15 =>
 br (decide (r15.1≥0)) (
 bd (bI.f lf r6.1 r7.1) fun r16 =>
 bd (aA.f lf (bs (Lib.itoa x))) fun r17 =>
 bd (aU.f lf r16.1 r17.1) fun r18 =>
 some (r18.1,())) (
 bd (bI.f lf r7.1 r6.1) fun r19 =>
 bd (aA.f lf (bs (Lib.itoa y))) fun r20 =>
 bd (aU.f lf r19.1 r20.1) fun r21 =>
 some (r21.1,()))))=some (bs (Lib.itoa (x+y)),()):=by
  have a:=ld_body (z:=x)
  have b:=ld_body (z:=y)
  have lx:=qW x
  have ly:=qW y
  rw[lV lf _ (jh x) (by omega) h3,bdS,lV lf _ (jh y) (by omega) h3,bdS,jd lf _ (jW x),bdS,jd lf _ (jW y),bdS]
  simp only[qZ]
  by_cases hs:decide (x < 0)=decide (y < 0)
  · rw[beq_iff_eq.2 hs,brT]
    obtain⟨l,e,d1,d2,d3,d4⟩:=abZ lf h3 a.1 b.1 (by omega) (by omega)
    rw[e,bdS]
    simp only[bdS]
    rw[qY lf h3 d1 (by omega),bdS,d4,a.2.1,b.2.1]
    refine congrArg (fun z:Int=>some (bs (Lib.itoa z),())) ?_
    have hs':(x < 0↔y < 0):=by simpa using hs
    by_cases hx0:x < 0
    · have:=hs'.1 hx0
      rw[decide_eq_true hx0,if_pos rfl];omega
    · have:¬y < 0:=fun e=>hx0 (hs'.2 e)
      rw[decide_eq_false hx0,if_neg (by simp)];omega
  · rw[beq_eq_false_iff_ne.2 hs,brF,pJ lf _ (by omega) h3,bdS,pJ lf _ (by omega) h3,bdS]
    simp only
    rw[uf lf _ _ (lU a.1) (lU b.1) (nP _) (nP _) (by have:=kH (ld (body (Lib.itoa x)));omega) (by have:=kH (ld (body (Lib.itoa y)));omega) h3,bdS,kX,kX,a.2.1,b.2.1]
    simp only
    have hs':¬(x < 0↔y < 0):=by simpa using hs
    by_cases hc:(x.natAbs:Int)-(y.natAbs:Int) < 0
    · rw[decide_eq_false (by unfold sgn;rw[if_pos hc];decide),brF]
      obtain⟨l,e,d1,d2,d3,d4⟩:=sS lf h3 b.1 a.1 (by omega) (by rw[a.2.1,b.2.1];omega)
      rw[e,bdS]
      simp only[bdS]
      rw[qY lf h3 d1 (by omega),bdS,d4,a.2.1,b.2.1]
      refine congrArg (fun z:Int=>some (bs (Lib.itoa z),())) ?_
      by_cases hy0:y < 0
      · rw[decide_eq_true hy0,if_pos rfl];omega
      · rw[decide_eq_false hy0,if_neg (by simp)];omega
    · rw[decide_eq_true (by unfold sgn;rw[if_neg hc];split<;>decide),brT]
      obtain⟨l,e,d1,d2,d3,d4⟩:=sS lf h3 a.1 b.1 (by omega) (by rw[a.2.1,b.2.1];omega)
      rw[e,bdS]
      simp only[bdS]
      rw[qY lf h3 d1 (by omega),bdS,d4,a.2.1,b.2.1]
      refine congrArg (fun z:Int=>some (bs (Lib.itoa z),())) ?_
      by_cases hx0:x < 0
      · rw[decide_eq_true hx0,if_pos rfl];omega
      · rw[decide_eq_false hx0,if_neg (by simp)];omega
theorem abA(lf:Nat)(h3:200000≤lf){x y:Int}(hx:sz x≤50000)(hy:sz y≤50000):gI.f lf (bs (Lib.itoa x)) (bs (Lib.itoa y))=some (bs (Lib.itoa (x+y)),()):=by
 rw[gI.f,rZ lf hx,bdS]
 simp only
 by_cases c1:(sz x:Int)≤17
 ·rw[decide_eq_true c1,brT,rZ lf hy,bdS]
  simp only
  by_cases c2:(sz y:Int)≤17
  ·have a:=qK (z:=x) (k:=17) (by omega) (by omega)
   have b:=qK (z:=y) (k:=17) (by omega) (by omega)
   have p:(10:Int) ^ 17=100000000000000000:=by decide
   rw[decide_eq_true c2,brT,nS lf h3 (by omega),bdS,nS lf h3 (by omega),bdS]
   simp only
   rw[w64 (by omega) (by omega),uO lf h3 (by omega) (by omega),bdS]
  ·rw[decide_eq_false c2,brF]
   exact zV lf h3 hx hy
 ·rw[decide_eq_false c1,brF]
  exact zV lf h3 hx hy
theorem afD(z:Int):sz (-z)=sz z:=by rw[←oJ,←oJ,Int.natAbs_neg]
theorem acX(lf:Nat){z:Int}(hz:sz z≤50000):cO.f lf (bs (Lib.itoa z))=some (bs (Lib.itoa (-z)),()):=by
 have hl:=qW z
 rw[cO.f,show(⟨#[48]⟩:ByteArray)=bs [48] from rfl,kY]
 have i0:Lib.itoa 0=[48]:=by unfold Lib.itoa;rw[if_neg (by omega)];exact lT
 by_cases h0:z=0
 ·subst h0
  rw[decide_eq_true i0,brT];rfl
 ·have hne:Lib.itoa z≠[48]:=fun e=>h0 (mQ (e.trans i0.symm))
  rw[decide_eq_false hne,brF,jd lf _ (jW z),bdS]
  simp only
  by_cases hn:z < 0
  ·have e:Lib.itoa z=45::D z.natAbs:=by unfold Lib.itoa;rw[if_pos hn]
   have e':Lib.itoa (-z)=D z.natAbs:=by unfold Lib.itoa;rw[if_neg (by omega)];congr 1;omega
   have hng:neg (Lib.itoa z)=true:=by rw[e];rfl
   rw[hng,brT,e,e',qi (45::D z.natAbs) 1 1 rfl (by simp),bdS]
   rfl
  ·have e:Lib.itoa z=D z.toNat:=by unfold Lib.itoa;rw[if_neg hn]
   have e':Lib.itoa (-z)=45::D z.toNat:=by unfold Lib.itoa;rw[if_pos (by omega)];congr 2;omega
   have hng:neg (Lib.itoa z)=false:=by rw[e];unfold neg;exact decide_eq_false (pW _)
   rw[hng,brF,e',show(⟨#[45]⟩:ByteArray)=bs [45] from rfl,vI [45] _ (by simp;omega),bdS,e]
   rfl
theorem vS(lf:Nat)(h3:200000≤lf){x y:Int}(hx:sz x≤50000)(hy:sz y≤50000):cZ.f lf (bs (Lib.itoa x)) (bs (Lib.itoa y))=some (bs (Lib.itoa (x-y)),()):=by
 rw[cZ.f,acX lf hy,bdS,abA lf h3 hx (by rw[afD];exact hy),bdS,←Int.sub_eq_add_neg]
theorem zZ(lf:Nat)(h3:200000≤lf){x y:Int}(hx:sz x≤40000)(hy:sz y≤40000):iY.f lf (bs (Lib.itoa x)) (bs (Lib.itoa y))=some (bs (Lib.itoa (x*y)),()):=by
 have lx:=qW x
 have ly:=qW y
 rw[iY.f,mZ lf _ (jW x) (by omega),bdS,mZ lf _ (jW y) (by omega),bdS]
 simp only
 rw[show nlen (Lib.itoa x)=sz x from rfl,show nlen (Lib.itoa y)=sz y from rfl,w64 (by omega) (by omega)]
 by_cases c:(sz x:Int)+(sz y:Int)≤18
 ·have s1:1≤sz x:=by
   have:=(jP (jh x)).2.1
   exact List.length_pos_iff.2 this
  have s2:1≤sz y:=by
   have:=(jP (jh y)).2.1
   exact List.length_pos_iff.2 this
  have a:=qK (z:=x) (k:=sz x) (Nat.le_refl _) s1
  have b:=qK (z:=y) (k:=sz y) (Nat.le_refl _) s2
  have p:(10:Int) ^ 18=1000000000000000000:=by decide
  have m1:(x*y).natAbs≤1000000000000000000:=by
   rw[Int.natAbs_mul]
   have h1:((x.natAbs:Int))*((y.natAbs:Int))≤10 ^ sz x*10 ^ sz y:=Int.mul_le_mul (by omega) (by omega) (by omega) (by omega)
   rw[←Int.pow_add]at h1
   have h2:=jY (B:=10) (by decide) (show sz x+sz y≤18 by omega)
   rw[←Int.natCast_mul]at h1
   omega
  rw[decide_eq_true c,brT,nS lf h3 (by omega),bdS,nS lf h3 (by omega),bdS]
  simp only
  rw[w64 (by omega) (by omega),uO lf h3 (by omega) (by omega),bdS]
 ·have a:=ld_body (z:=x)
  have b:=ld_body (z:=y)
  rw[decide_eq_false c,brF,lV lf _ (jh x) (by omega) h3,bdS,lV lf _ (jh y) (by omega) h3,bdS]
  simp only
  obtain⟨r,e,d1,d2,d3⟩:=adh lf _ _ a.1 b.1 (by omega) (by omega) h3
  rw[e,bdS,jd lf _ (jW x),bdS,jd lf _ (jW y),bdS]
  simp only
  rw[qY lf h3 d1 (by omega),bdS,d3,a.2.1,b.2.1]
  refine congrArg (fun z:Int=>some (bs (Lib.itoa z),())) ?_
  rw[qZ,qZ]
  have hm:=Int.natAbs_mul x y
  have hm':(((x*y).natAbs:Nat):Int)=(x.natAbs:Int)*(y.natAbs:Int):=by rw[hm,Int.natCast_mul]
  rw[←hm']
  by_cases hx0:x < 0
  ·rw[decide_eq_true hx0]
   by_cases hy0:y < 0
   ·have:=Int.mul_pos_of_neg_of_neg hx0 hy0
    rw[decide_eq_true hy0];simp;omega
   ·have:=Int.mul_nonpos_of_nonpos_of_nonneg (show x≤0 by omega) (show 0≤y by omega)
    rw[decide_eq_false hy0];simp;omega
  ·rw[decide_eq_false hx0]
   by_cases hy0:y < 0
   ·have:=Int.mul_nonpos_of_nonneg_of_nonpos (show 0≤x by omega) (show y≤0 by omega)
    rw[decide_eq_true hy0];simp;omega
   ·have:=Int.mul_nonneg (show 0≤x by omega) (show 0≤y by omega)
    rw[decide_eq_false hy0];simp;omega
end Go.N
