import Derived.KernelRfl
import Derived.Test.YtkfehhngjioplaaGreatDoorChecked
import Derived.ProofKit
import Derived.OpenShut
import Derived.LaidMore
import Derived.Lay
import Derived.Carry
import Derived.SevenTiedAt
import Derived.Stop.Joined
import Derived.Lib.LaidTab
import Derived.LaidSub
import Derived.Test.YtkfehhngjioplaaGreatDoorTIE3
import Derived.Test.YtkfehhngjioplaaGreatDoorTIG1
import Derived.Test.YtkfehhngjioplaaGreatDoorTIG2
import Derived.Test.YtkfehhngjioplaaGreatDoorTIG3
import Derived.Test.YtkfehhngjioplaaGreatDoorTIG4
import Derived.Test.YtkfehhngjioplaaGreatDoorTIG5
set_option linter.unusedVariables false
set_option linter.unusedSimpArgs false
set_option linter.unusedSectionVars false
set_option maxRecDepth 100000
namespace Go.N
open Go.IntKind (i64)
open Go Go.Q Go.Rx
abbrev G:Int:=1000000000
theorem trim_l0(lf:Nat):∀ (l:List Int) (n:Nat),l.length < n→l.length≤1000000→bigint_trim.l0 lf n l=some ((tr l,()),()):=by
 intro l
 refine tr_ind (p:=fun l=>∀ n,l.length < n→l.length≤1000000→bigint_trim.l0 lf n l=some ((tr l,()),())) l ?_ ?_ ?_
 ·intro n h _
  obtain⟨m,rfl⟩:=Nat.exists_eq_succ_of_ne_zero (show n≠0 by omega)
  rw[bigint_trim.l0,bigint_trim.r0]
  simp[brI,tr_nil]
 ·intro l ih n h hb
  obtain⟨m,rfl⟩:=Nat.exists_eq_succ_of_ne_zero (show n≠0 by omega)
  rw[List.length_append,List.length_singleton]at h hb
  have e:i64.wrap (((l++[0]).length:Nat)-1:Int)=(l.length:Nat):=by
   rw[List.length_append,List.length_singleton,w64 (by omega) (by omega)];omega
  rw[bigint_trim.l0,bigint_trim.r0,decide_eq_true (by rw[List.length_append,List.length_singleton];omega),brT,e,idxL_nat _ _ (by simp),bdS]
  simp only[List.getElem_concat_length,BEq.rfl,brT]
  rw[cutL_to _ _ l.length rfl (by simp),bdS,List.take_left,ih m (by omega) (by omega),tr_snoc0]
 ·intro l x hx n h hb
  obtain⟨m,rfl⟩:=Nat.exists_eq_succ_of_ne_zero (show n≠0 by omega)
  rw[List.length_append,List.length_singleton]at h hb
  have e:i64.wrap (((l++[x]).length:Nat)-1:Int)=(l.length:Nat):=by
   rw[List.length_append,List.length_singleton,w64 (by omega) (by omega)];omega
  rw[bigint_trim.l0,bigint_trim.r0,decide_eq_true (by rw[List.length_append,List.length_singleton];omega),brT,e,idxL_nat _ _ (by simp),bdS]
  have:(x==0)=false:=by simpa using hx
  simp only[List.getElem_concat_length,this,brF]
  rw[tr_snoc _ _ hx]
theorem trim_f(lf:Nat)(l:List Int)(h:l.length≤lf)(hb:l.length≤1000000):bigint_trim.f lf l=some (tr l,()):=by
 rw[bigint_trim.f,trim_l0 lf l (lf+40) (by omega) hb,bdS]
theorem plus_l0(lf:Nat)(xs ys:List Int)(N:Nat)(hx:Dg G xs)(hy:Dg G ys)(hN:N≤1000000):∀ (k n i:Nat) (c:Int) (out:List Int),i+k=N→out.length=N→0≤c→c≤1→k < n→
  bigint_plus.l0 lf xs ys (N:Nat) n c (i:Nat) out=some ((out.take i++addL G (xs.drop i) (ys.drop i) c k,()),()):=by
 intro k
 induction k with
 | zero =>
  intro n i c out hi ho h0 h1 hn
  obtain⟨m,rfl⟩:=Nat.exists_eq_succ_of_ne_zero (show n≠0 by omega)
  rw[bigint_plus.l0,bigint_plus.r0,decide_eq_false (by omega),brF,addL,List.append_nil,List.take_of_length_le (by omega)]
 | succ k ih =>
  intro n i c out hi ho h0 h1 hn
  obtain⟨m,rfl⟩:=Nat.exists_eq_succ_of_ne_zero (show n≠0 by omega)
  have ex:0≤xs.getD i 0∧xs.getD i 0 < G:=hx.getD (by decide) i
  have ey:0≤ys.getD i 0∧ys.getD i 0 < G:=hy.getD (by decide) i
  have fin:∀ s:Int,s=c+xs.getD i 0+ys.getD i 0→
    (bd (iRem s 1000000000) fun r4=>bd (iQuo .i64 s 1000000000) fun r5=>bd (idxB out.length (i:Nat)) fun j6=>bd (upE out j6 fun _=>some r4) fun l7=>bigint_plus.l0 lf xs ys (N:Nat) m r5 (i64.wrap ((i:Nat)+1)) l7) =
    some ((out.take i++addL G (xs.drop i) (ys.drop i) c (k+1),()),()):=by
   intro s hs
   simp only[G]at ex ey
   have hs1:0≤s:=by omega
   have hs2:s≤2000000000:=by omega
   rw[iRem_nn hs1 (by decide),bdS,iQuo_nn hs1 (by decide) (by omega),bdS,idxB_nat _ _ (by omega),bdS,upE_set _ _ _ (by omega),bdS]
   rw[w64 (by omega) (by omega),show((i:Nat):Int)+1=((i+1:Nat):Int) by omega]
   rw[ih m (i+1) _ _ (by omega) (by rw[List.length_set];omega) (Int.ediv_nonneg hs1 (by decide)) (by omega) (by omega)]
   rw[take_set _ _ _ (by omega),addL,headD_drop,headD_drop,tail_drop',tail_drop',←hs]
   simp
  simp only[G]at ex ey
  rw[bigint_plus.l0,bigint_plus.r0,decide_eq_true (by omega),brT]
  by_cases h1x:i < xs.length
  ·rw[decide_eq_true (by omega),brT,idxL_nat _ _ h1x,bdS]
   rw[getD_lt _ _ h1x]at ex fin
   rw[w64 (by omega) (by omega)]
   by_cases h1y:i < ys.length
   ·rw[decide_eq_true (by omega),brT,idxL_nat _ _ h1y,bdS]
    rw[getD_lt _ _ h1y]at ey fin
    rw[w64 (by omega) (by omega)]
    exact fin _ rfl
   ·rw[decide_eq_false (by omega),brF]
    rw[getD_ge _ _ h1y]at fin
    exact fin _ (by omega)
  ·rw[decide_eq_false (by omega),brF]
   rw[getD_ge _ _ h1x]at fin
   by_cases h1y:i < ys.length
   ·rw[decide_eq_true (by omega),brT,idxL_nat _ _ h1y,bdS]
    rw[getD_lt _ _ h1y]at ey fin
    rw[w64 (by omega) (by omega)]
    exact fin _ (by omega)
   ·rw[decide_eq_false (by omega),brF]
    rw[getD_ge _ _ h1y]at fin
    exact fin _ (by omega)
theorem plus_f(lf:Nat)(xs ys:List Int)(hx:Dg G xs)(hy:Dg G ys)(h1:xs.length≤100000)(h2:ys.length≤100000)(h3:200000≤lf):
  ∃ l,bigint_plus.f lf xs ys=some (l,())∧Dg G l∧Tr l∧lv G l=lv G xs+lv G ys∧l.length≤max xs.length ys.length+1:=by
 have key:∀ (a b:List Int),Dg G a→Dg G b→a.length≤100000→b.length≤a.length→
   ∃ l,(bd (mkL (i64.wrap (((a.length:Nat):Int)+1)) (i64.wrap (((a.length:Nat):Int)+1)) 8 0) fun l27 =>
    bd (bigint_plus.l0 lf a b ((l27.length:Nat):Int) (lf+40) 0 0 l27) fun z28=>bd (bigint_trim.f lf z28.1.1) fun r29=>some (r29.1,()))=some (l,())∧Dg G l∧Tr l∧lv G l=lv G a+lv G b∧l.length≤a.length+1:=by
  intro a b ha hb hl hle
  refine⟨tr (addL G a b 0 (a.length+1)),?_,dg_tr (dg_addL (by decide) _ _ _ _),tr_tr _,?_,?_⟩
  ·rw[w64 (by omega) (by omega),mkL_nat _ _ _ (a.length+1) (by omega) (by omega) (by omega),bdS]
   rw[List.length_replicate]
   have:=plus_l0 lf a b (a.length+1) ha hb (by omega) (a.length+1) (lf+40) 0 0 (List.replicate (a.length+1) 0) (by omega) (by simp) (by omega) (by omega) (by omega)
   simp only[List.drop_zero,List.take_zero,List.nil_append]at this
   rw[show((0:Nat):Int)=0 from rfl]at this
   rw[this,bdS,trim_f lf _ (by rw[addL_len];omega) (by rw[addL_len];omega),bdS]
  ·rw[lv_tr,lv_addL (by decide),Int.zero_add]
   have a1:=lv_lt (B:=G) (by decide) ha
   have a2:=lv_lt (B:=G) (by decide) hb
   have a3:=pow_mono' (B:=G) (by decide) hle
   have a4:=lv_nonneg (B:=G) (by decide) ha
   have a5:=lv_nonneg (B:=G) (by decide) hb
   apply Int.emod_eq_of_lt (by omega)
   rw[Int.pow_succ]
   have:0 < G ^ a.length:=pow_pos' (by decide) _
   simp only[G]at *
   omega
  ·have:=tr_len (addL G a b 0 (a.length+1))
   rw[addL_len]at this
   exact this
 rw[bigint_plus.f]
 by_cases h:xs.length < ys.length
 ·rw[decide_eq_true (by omega),brT]
  obtain⟨l,e,k1,k2,k3,k4⟩:=key ys xs hy hx h2 (by omega)
  exact⟨l,e,k1,k2,by rw[k3,Int.add_comm],by omega⟩
 ·rw[decide_eq_false (by omega),brF]
  obtain⟨l,e,k1,k2,k3,k4⟩:=key xs ys hx hy h1 (by omega)
  exact⟨l,e,k1,k2,k3,by omega⟩
theorem minus_l0(lf:Nat)(xs ys:List Int)(N:Nat)(hx:Dg G xs)(hy:Dg G ys)(hN:N≤1000000)(hxl:xs.length=N):∀ (k n i:Nat) (c:Int) (out:List Int),i+k=N→out.length=N→0≤c→c≤1→k < n→
  bigint_minus.l0 lf xs ys (N:Nat) n c (i:Nat) out=some ((out.take i++subL G (xs.drop i) (ys.drop i) c k,()),()):=by
 intro k
 induction k with
 | zero =>
  intro n i c out hi ho h0 h1 hn
  obtain⟨m,rfl⟩:=Nat.exists_eq_succ_of_ne_zero (show n≠0 by omega)
  rw[bigint_minus.l0,bigint_minus.r0,decide_eq_false (by omega),brF,subL,List.append_nil,List.take_of_length_le (by omega)]
 | succ k ih =>
  intro n i c out hi ho h0 h1 hn
  obtain⟨m,rfl⟩:=Nat.exists_eq_succ_of_ne_zero (show n≠0 by omega)
  have ex:0≤xs.getD i 0∧xs.getD i 0 < G:=hx.getD (by decide) i
  have ey:0≤ys.getD i 0∧ys.getD i 0 < G:=hy.getD (by decide) i
  simp only[G]at ex ey
  have go:∀ (d v c':Int),d=xs.getD i 0-c-ys.getD i 0→v=d % G→c'= -(d / G)→0≤c'→c'≤1→
    (bd (idxB out.length (i:Nat)) fun j6=>bd (upE out j6 fun _=>some v) fun l7=>bigint_minus.l0 lf xs ys (N:Nat) m c' (i64.wrap ((i:Nat)+1)) l7) =
    some ((out.take i++subL G (xs.drop i) (ys.drop i) c (k+1),()),()):=by
   intro d v c' hd hv hc c1 c2
   rw[idxB_nat _ _ (by omega),bdS,upE_set _ _ _ (by omega),bdS]
   rw[w64 (by omega) (by omega),show((i:Nat):Int)+1=((i+1:Nat):Int) by omega]
   rw[ih m (i+1) _ _ (by omega) (by rw[List.length_set];omega) c1 c2 (by omega)]
   rw[take_set _ _ _ (by omega),subL,headD_drop,headD_drop,tail_drop',tail_drop',←hd,hv,hc]
   simp
  have fin:∀ d:Int,d=xs.getD i 0-c-ys.getD i 0→
    (br (decide (d < 0)) (bd (idxB out.length (i:Nat)) fun j4=>bd (upE out j4 fun _=>some (i64.wrap (d+1000000000))) fun l5=>bigint_minus.l0 lf xs ys (N:Nat) m 1 (i64.wrap ((i:Nat)+1)) l5)
     (bd (idxB out.length (i:Nat)) fun j7=>bd (upE out j7 fun _=>some d) fun l8=>bigint_minus.l0 lf xs ys (N:Nat) m 0 (i64.wrap ((i:Nat)+1)) l8)) =
    some ((out.take i++subL G (xs.drop i) (ys.drop i) c (k+1),()),()):=by
   intro d hd
   by_cases hneg:d < 0
   ·rw[decide_eq_true hneg,brT,w64 (by omega) (by omega)]
    exact go d _ 1 hd (by simp only[G];omega) (by simp only[G];omega) (by omega) (by omega)
   ·rw[decide_eq_false hneg,brF]
    exact go d _ 0 hd (by simp only[G];omega) (by simp only[G];omega) (by omega) (by omega)
  have h1x:i < xs.length:=by omega
  rw[getD_lt _ _ h1x]at ex fin
  rw[bigint_minus.l0,bigint_minus.r0,decide_eq_true (by omega),brT,idxL_nat _ _ h1x,bdS,w64 (by omega) (by omega)]
  by_cases h1y:i < ys.length
  ·rw[decide_eq_true (by omega),brT,idxL_nat _ _ h1y,bdS]
   rw[getD_lt _ _ h1y]at ey fin
   rw[w64 (by omega) (by omega)]
   exact fin _ rfl
  ·rw[decide_eq_false (by omega),brF]
   rw[getD_ge _ _ h1y]at fin
   exact fin _ (by omega)
theorem minus_f(lf:Nat)(xs ys:List Int)(hx:Dg G xs)(hy:Dg G ys)(h1:xs.length≤100000)(hle:lv G ys≤lv G xs)(h3:200000≤lf):
  ∃ l,bigint_minus.f lf xs ys=some (l,())∧Dg G l∧Tr l∧lv G l=lv G xs-lv G ys∧l.length≤xs.length:=by
 refine⟨tr (subL G xs ys 0 xs.length),?_,dg_tr (dg_subL (by decide) _ _ _ _),tr_tr _,?_,?_⟩
 ·rw[bigint_minus.f,mkL_nat _ _ _ xs.length rfl rfl (by omega),bdS,List.length_replicate]
  have:=minus_l0 lf xs ys xs.length hx hy (by omega) rfl xs.length (lf+40) 0 0 (List.replicate xs.length 0) (by omega) (by simp) (by omega) (by omega) (by omega)
  simp only[List.drop_zero,List.take_zero,List.nil_append]at this
  rw[show((0:Nat):Int)=0 from rfl]at this
  rw[this,bdS,trim_f lf _ (by rw[subL_len];omega) (by rw[subL_len];omega),bdS]
 ·rw[lv_tr,lv_subL (by decide)]
  have a1:=lv_lt (B:=G) (by decide) hx
  have a5:=lv_nonneg (B:=G) (by decide) hy
  rw[show lv G xs-0-lv G ys=lv G xs-lv G ys by omega]
  exact Int.emod_eq_of_lt (by omega) (by omega)
 ·have:=tr_len (subL G xs ys 0 xs.length)
  rw[subL_len]at this
  exact this
end Go.N
namespace Go.N
open Go Go.Q Go.Rx
theorem lv_take_succ(B:Int)(l:List Int)(i:Nat)(h:i < l.length):lv B (l.take (i+1))=lv B (l.take i)+B ^ i*l[i]:=by
 rw[List.take_succ_eq_append_getElem h,lv_app]
 simp[lv,List.length_take,Nat.min_eq_left (Nat.le_of_lt h)]
def Sg(v d:Int):Prop:=(v < 0↔d < 0)∧(v=0↔d=0)
theorem top_cmp{B:Int}(hB:0 < B){xs ys:List Int}(hx:Dg B xs)(hy:Dg B ys)(i:Nat)(h1:i < xs.length)(h2:i < ys.length)(h:xs[i] < ys[i]):lv B (xs.take (i+1)) < lv B (ys.take (i+1)):=by
 rw[lv_take_succ B xs i h1,lv_take_succ B ys i h2]
 have a:=lv_lt hB (hx.take i)
 have b:=lv_nonneg hB (hy.take i)
 rw[List.length_take,Nat.min_eq_left (Nat.le_of_lt h1)]at a
 have c:B ^ i*(xs[i]+1)≤B ^ i*ys[i]:=Int.mul_le_mul_of_nonneg_left (by omega) (Int.le_of_lt (pow_pos' hB i))
 rw[Int.mul_add]at c
 omega
theorem order_l0(lf:Nat)(xs ys:List Int)(hx:Dg G xs)(hy:Dg G ys)(hl:xs.length=ys.length)(hb:xs.length≤1000000):∀ (i n:Nat) (hi:i≤xs.length),i < n→
  ∃ b v,bigint_order.l0 lf ys 0 xs n ((i:Nat)-1:Int)=some (b,(v,()),(),())∧Sg (if b=true then v else 0) (lv G (xs.take i)-lv G (ys.take i)):=by
 intro i
 induction i with
 | zero =>
  intro n hi hn
  obtain⟨m,rfl⟩:=Nat.exists_eq_succ_of_ne_zero (show n≠0 by omega)
  refine⟨false,0,?_,by simp[Sg,lv]⟩
  rw[bigint_order.l0,bigint_order.r0,decide_eq_false (by omega),brF]
 | succ i ih =>
  intro n hi hn
  obtain⟨m,rfl⟩:=Nat.exists_eq_succ_of_ne_zero (show n≠0 by omega)
  have e:((i+1:Nat):Int)-1=(i:Nat):=by omega
  have hxi:=hx.at i (by omega)
  have hyi:=hy.at i (by omega)
  simp only[G]at hxi hyi
  rw[bigint_order.l0,bigint_order.r0,decide_eq_true (by omega),brT,idxL_int xs _ i e (by omega),bdS,idxL_int ys _ i e (by omega),bdS]
  by_cases h:xs[i]=ys[i]'(by omega)
  ·have hne:(xs[i] != ys[i]'(by omega))=false:=by simp[h]
   rw[hne,brF,w64 (by omega) (by omega),e]
   obtain⟨b,v,h1,h2⟩:=ih m (by omega) (by omega)
   refine⟨b,v,h1,?_⟩
   rw[lv_take_succ G xs i (by omega),lv_take_succ G ys i (by omega),h]
   rwa [show lv G (xs.take i)+G ^ i*ys[i]-(lv G (ys.take i)+G ^ i*ys[i])=lv G (xs.take i)-lv G (ys.take i) by omega]
  ·have hne:(xs[i] != ys[i]'(by omega))=true:=by simp[h]
   rw[hne,brT,bdS,w64 (by omega) (by omega)]
   refine⟨true,_,rfl,?_⟩
   rw[if_pos rfl]
   rcases Int.lt_or_lt_of_ne h with hlt | hlt
   ·have:=top_cmp (B:=G) (by decide) hx hy i (by omega) (by omega) hlt
    exact⟨by omega,by omega⟩
   ·have:=top_cmp (B:=G) (by decide) hy hx i (by omega) (by omega) hlt
    exact⟨by omega,by omega⟩
theorem order_f(lf:Nat)(xs ys:List Int)(hx:Dg G xs)(hy:Dg G ys)(t1:Tr xs)(t2:Tr ys)(h1:xs.length≤100000)(h2:ys.length≤100000)(h3:200000≤lf):
  ∃ v,bigint_order.f lf xs ys=some (v,())∧Sg v (lv G xs-lv G ys):=by
 rw[bigint_order.f]
 by_cases h:xs.length=ys.length
 ·have hne:(((xs.length:Nat):Int) !=((ys.length:Nat):Int))=false:=by simp[h]
  rw[hne,brF,w64 (by omega) (by omega)]
  obtain⟨b,v,k1,k2⟩:=order_l0 lf xs ys hx hy h (by omega) xs.length (lf+40) (Nat.le_refl _) (by omega)
  rw[List.take_of_length_le (Nat.le_refl _),List.take_of_length_le (by omega)]at k2
  rw[k1,bdS]
  cases b with
  | true=>exact⟨v,by simp only[brT],by simpa using k2⟩
  | false=>exact⟨0,by simp only[brF],by simpa using k2⟩
 ·have hne:(((xs.length:Nat):Int) !=((ys.length:Nat):Int))=true:=by
   simp only[bne_iff_ne,ne_eq];omega
  rw[hne,brT,w64 (by omega) (by omega)]
  refine⟨_,rfl,?_⟩
  rcases Nat.lt_or_gt_of_ne h with hlt | hlt
  ·have:=lv_len_lt (B:=G) (by decide) hx hy t2 hlt
   exact⟨by omega,by omega⟩
  ·have:=lv_len_lt (B:=G) (by decide) hy hx t1 hlt
   exact⟨by omega,by omega⟩
structure RN(p:Bool×(List Int×Unit))(z:Int)(k:Nat):Prop where
 dg:Dg G p.2.1
 tr:Tr p.2.1
 len:p.2.1.length≤k
 val:z=if p.1=true then -lv G p.2.1 else lv G p.2.1
theorem RN.mono{p:Bool×(List Int×Unit)}{z:Int}{k k':Nat}(h:RN p z k)(hk:k≤k'):RN p z k':=⟨h.dg,h.tr,Nat.le_trans h.len hk,h.val⟩
theorem negated_f(lf:Nat){p:Bool×(List Int×Unit)}{z:Int}{k:Nat}(h:RN p z k):∃ q,bigint_negated.f lf p=some (q,())∧RN q (-z) k:=by
 refine⟨_,rfl,h.dg,h.tr,h.len,?_⟩
 rw[h.val]
 cases p.1<;>simp
theorem sum_f(lf:Nat){p q:Bool×(List Int×Unit)}{x y:Int}{k:Nat}(h1:RN p x k)(h2:RN q y k)(hk:k≤100000)(h3:200000≤lf):∃ s,bigint_sum.f lf p q=some (s,())∧RN s (x+y) (k+1):=by
 obtain⟨pn,pl,⟨⟩⟩:=p
 obtain⟨qn,ql,⟨⟩⟩:=q
 obtain⟨d1,t1,l1,v1⟩:=h1
 obtain⟨d2,t2,l2,v2⟩:=h2
 simp only at d1 t1 l1 v1 d2 t2 l2 v2
 rw[bigint_sum.f]
 by_cases h:pn=qn
 ·have hne:(pn != qn)=false:=by simp[h]
  simp only[hne,brF]
  rw[bigint_operations_1.f,bdS]
  obtain⟨l,e,k1,k2,k3,k4⟩:=plus_f lf pl ql d1 d2 (by omega) (by omega) h3
  rw[e,bdS]
  refine⟨_,rfl,k1,k2,by simp only;omega,?_⟩
  simp only
  rw[k3,v1,v2,h]
  cases qn<;>simp<;>omega
 ·have hne:(pn != qn)=true:=by simp[h]
  simp only[hne,brT]
  rw[bigint_operations_3.f,bigint_operations_2.f]
  obtain⟨v,e,s1,s2⟩:=order_f lf pl ql d1 d2 t1 t2 (by omega) (by omega) h3
  simp only[e,bdS]
  by_cases hv:v < 0
  ·have hl:=s1.1 hv
   obtain⟨l,e2,k1,k2,k3,k4⟩:=minus_f lf ql pl d2 d1 (by omega) (by omega) h3
   rw[decide_eq_true hv,brT,e2,bdS,bdS]
   refine⟨_,rfl,k1,k2,by simp only;omega,?_⟩
   simp only
   rw[k3,v1,v2]
   cases pn<;>cases qn<;>simp_all<;>omega
  ·have hl:¬(lv G pl-lv G ql < 0):=fun h=>hv (s1.2 h)
   obtain⟨l,e2,k1,k2,k3,k4⟩:=minus_f lf pl ql d1 d2 (by omega) (by omega) h3
   rw[decide_eq_false hv,brF,e2,bdS,bdS]
   refine⟨_,rfl,k1,k2,by simp only;omega,?_⟩
   simp only
   rw[k3,v1,v2]
   cases pn<;>cases qn<;>simp_all<;>omega
def sgn(z:Int):Int:=if z < 0 then -1 else if z=0 then 0 else 1
theorem sign_f(lf:Nat){p:Bool×(List Int×Unit)}{z:Int}{k:Nat}(h:RN p z k):bigint_sign.f lf p=some (sgn z,()):=by
 obtain⟨pn,pl,⟨⟩⟩:=p
 obtain⟨d1,t1,l1,v1⟩:=h
 simp only at d1 t1 l1 v1
 rw[bigint_sign.f]
 by_cases hn:pl=[]
 ·subst hn
  have:z=0:=by rw[v1];cases pn<;>simp[lv]
  subst this
  simp[brT,sgn]
 ·have hp:=lv_pos (B:=G) (by decide) d1 t1 hn
  have:(((pl.length:Nat):Int)==0)=false:=by
   have:pl.length≠0:=fun e=>hn (List.length_eq_zero_iff.1 e)
   simp only[beq_eq_false_iff_ne,ne_eq];omega
  simp only[this,brF]
  cases pn with
  | true =>
   rw[brT,v1,sgn,if_pos (by simp;omega)]
  | false =>
   rw[brF,v1,sgn,if_neg (by simp;omega),if_neg (by simp;omega)]
end Go.N
namespace Go.N
open Go Go.Q Go.Rx
theorem hasPrefix_f(lf:Nat)(l:List UInt8):stringslite_HasPrefix.f lf (bs l) (⟨#[45]⟩:ByteArray)=some (neg l,()):=by
 rw[stringslite_HasPrefix.f]
 have e1:((⟨#[45]⟩:ByteArray).size:Int)=1:=rfl
 rw[e1,bs_size]
 cases l with
 | nil=>rw[decide_eq_false (by simp),brF];rfl
 | cons b r =>
  rw[decide_eq_true (by simp;omega),brT,sCut_to (b::r) 1 1 rfl (by simp),bdS]
  simp only[List.take_succ_cons,List.take_zero]
  rw[show(⟨#[45]⟩:ByteArray)=bs [45] from rfl,beq_bs]
  simp[neg]
theorem cutPrefix_f(lf:Nat)(l:List UInt8):strings_CutPrefix.f lf (bs l) (⟨#[45]⟩:ByteArray)=some (bs (body l),neg l,()):=by
 rw[strings_CutPrefix.f,stringslite_CutPrefix.f,hasPrefix_f,bdS]
 simp only
 cases h:neg l with
 | false =>
  simp only[Bool.not_false,brT,bdS]
  have:¬l.head? = some 45:=by unfold neg at h;simpa using h
  unfold body
  rw[if_neg this]
 | true =>
  have h45:l.head? = some 45:=by unfold neg at h;simpa using h
  simp only[Bool.not_true,brF]
  have hl:1≤l.length:=by cases l with
   | nil=>simp at h45
   | cons b r=>simp
  rw[show(((⟨#[45]⟩:ByteArray).size:Nat):Int)=1 from rfl,sCut_from l 1 1 rfl hl,bdS,bdS]
  unfold body
  rw[if_pos h45]
  simp
theorem trimPrefix_f(lf:Nat)(l:List UInt8):strings_TrimPrefix.f lf (bs l) (⟨#[45]⟩:ByteArray)=some (bs (body l),()):=by
 rw[strings_TrimPrefix.f,stringslite_TrimPrefix.f,hasPrefix_f,bdS]
 simp only
 cases h:neg l with
 | false =>
  simp only[brF,bdS]
  have:¬l.head? = some 45:=by unfold neg at h;simpa using h
  unfold body
  rw[if_neg this]
 | true =>
  have h45:l.head? = some 45:=by unfold neg at h;simpa using h
  simp only[brT]
  have hl:1≤l.length:=by cases l with
   | nil=>simp at h45
   | cons b r=>simp
  rw[show(((⟨#[45]⟩:ByteArray).size:Nat):Int)=1 from rfl,sCut_from l 1 1 rfl hl,bdS,bdS]
  unfold body
  rw[if_pos h45]
  simp
theorem body_len(l:List UInt8):(body l).length≤l.length:=nlen_le l
theorem canonical_f(lf:Nat)(l:List UInt8)(hl:l.length≤9223372036854775807):bigint_canonical.f lf (bs l)=some (can l,()):=by
 rw[bigint_canonical.f,cutPrefix_f,bdS]
 simp only
 rw[show(⟨#[48]⟩:ByteArray)=bs [48] from rfl,show(⟨#[]⟩:ByteArray)=bs [] from rfl,beq_bs,beq_bs]
 by_cases h48:body l=[48]
 ·rw[decide_eq_true h48,brT]
  congr 2
  unfold can
  rw[h48]
  unfold neg body at *
  by_cases h:l.head? = some 45
  ·rw[decide_eq_true h]
   have:l≠[48]:=by rintro rfl;simp at h
   simp[this]
  ·rw[decide_eq_false h]
   rw[if_neg h]at h48
   simp[h48]
 ·rw[decide_eq_false h48,brF]
  have hl48:l≠[48]:=by rintro rfl;exact h48 rfl
  unfold can
  rw[decide_eq_false hl48,Bool.false_or]
  by_cases h0:body l=[]
  ·rw[decide_eq_true h0]
   simp[brF,h0]
  ·rw[decide_eq_false h0]
   simp only[Bool.not_false,brT]
   have hlen:0 < (body l).length:=List.length_pos_iff.2 h0
   rw[sIdx_bs _ 0 0 rfl hlen,bdS]
   have hhead:(body l).head? = some ((body l)[0]):=by rw[List.head?_eq_getElem?,List.getElem?_eq_getElem hlen]
   rw[hhead]
   by_cases h4:(body l)[0]=48
   ·rw[h4]
    simp[brF]
   ·have:((((body l)[0]).toNat:Int) != 48)=true:=by
     simp only[bne_iff_ne,ne_eq]
     intro e
     apply h4
     apply UInt8.toNat_inj.1
     have h48':(48:UInt8).toNat=48:=rfl
     omega
    rw[this,brT]
    have e1:B.Trim.f lf (bs (body l)) (⟨#[48,49,50,51,52,53,54,55,56,57]⟩:ByteArray)=some (bs (Lib.trimS (body l) [48,49,50,51,52,53,54,55,56,57]),()):=by
     unfold B.Trim.f
     rw[if_pos ⟨by rw[bs_size];have:=body_len l;omega,by decide,by decide⟩]
    rw[e1,bdS]
    simp only
    rw[beq_bs]
    congr 2
    have:decide (some ((body l)[0])≠some 48)=true:=by simpa using h4
    rw[this]
    have h0':decide (body l≠[])=true:=by simpa using h0
    rw[h0',Bool.true_and,Bool.true_and]
    have e2:(body l).all isDig=(body l).all (([48,49,50,51,52,53,54,55,56,57]:List UInt8).contains ·):=by
     congr 1;funext b;exact(digs_contains b).symm
    rw[e2]
    by_cases ht:(body l).all (([48,49,50,51,52,53,54,55,56,57]:List UInt8).contains ·)=true
    ·rw[ht];exact decide_eq_true ((trimS_nil _ _).2 ht)
    ·rw[Bool.not_eq_true]at ht
     rw[ht];apply decide_eq_false
     intro e
     have:=(trimS_nil _ _).1 e
     rw[ht]at this;cases this
theorem digits_f(lf:Nat)(l:List UInt8):bigint_digits.f lf (bs l)=some ((nlen l:Int),()):=by
 rw[bigint_digits.f,trimPrefix_f,bdS]
 simp only
 rw[bs_size];rfl
theorem check_f(lf:Nat)(l:List UInt8)(hl:l.length≤9223372036854775807):bigint_Check.f lf (bs l)=some (chk l,()):=by
 rw[bigint_Check.f,canonical_f lf l hl,bdS,digits_f,bdS]
 simp only
 unfold chk
 cases can l with
 | false=>simp[brT]
 | true =>
  simp only[Bool.not_true,brF,if_true]
  by_cases h:nlen l > 4096
  ·rw[decide_eq_true (by omega),brT,if_pos h]
  ·rw[decide_eq_false (by omega),brF,if_neg h]
theorem idigits_f(lf:Nat)(l:List UInt8)(hl:l.length≤9223372036854775807):interval_digits.f lf (bs l)=some ((nlen l:Int),()):=by
 rw[interval_digits.f,bs_size]
 cases l with
 | nil=>rw[decide_eq_false (by simp),brF];rfl
 | cons b r =>
  rw[decide_eq_true (by rw[List.length_cons];omega),brT,sIdx_bs (b::r) 0 0 rfl (by simp),bdS]
  simp only[List.getElem_cons_zero]
  unfold nlen body
  by_cases h:b=45
  ·subst h
   have:((((45:UInt8).toNat:Nat):Int)==45)=true:=by decide
   rw[this,brT]
   simp only[List.length_cons]at hl⊢
   rw[w64 (by omega) (by omega)]
   simp
  ·have:(((b.toNat:Nat):Int)==45)=false:=by
    rw[beq_eq_false_iff_ne]
    intro e;apply h;apply UInt8.toNat_inj.1
    have:(45:UInt8).toNat=45:=rfl
    omega
   rw[this,brF]
   simp[h]
theorem number_f(lf:Nat)(l:List UInt8)(hl:l.length≤9223372036854775807):interval_number.f lf (bs l)=some (num l,()):=by
 rw[interval_number.f,check_f lf l hl,bdS,idigits_f lf l hl,bdS]
 simp only
 unfold num
 by_cases h:chk l=0
 ·rw[h]
  simp only[bne_self_eq_false,brF,ne_eq,not_true,if_false]
  by_cases h':nlen l > 100
  ·rw[decide_eq_true (by omega),brT,if_pos h']
  ·rw[decide_eq_false (by omega),brF,if_neg h']
 ·have:(chk l != 0)=true:=by simpa using h
  rw[this,brT,if_pos h]
theorem read_l0(lf:Nat)(ng:Bool)(l:List UInt8)(ha:l.all isDig=true)(hl:l.length≤1000000):∀ (e n:Nat) (acc:List Int),e≤l.length→e < n→acc.length+e≤1000000→
  ∃ r,bigint_read.l0 lf ng (bs l) n (e:Nat) acc=some ((acc++r,()),())∧Dg G r∧lv G r=dv (l.take e)∧r.length≤e:=by
 intro e
 induction e using Nat.strongRecOn with
 | _ e ih =>
  intro n acc he hn hacc
  obtain⟨m,rfl⟩:=Nat.exists_eq_succ_of_ne_zero (show n≠0 by omega)
  have hall:∀ (a b:Nat),((l.drop a).take b).all isDig=true:=by
   intro a b
   rw[List.all_eq_true]at ha⊢
   intro x hx
   exact ha x (List.mem_of_mem_drop (List.mem_of_mem_take hx))
  rw[bigint_read.l0,bigint_read.r0]
  by_cases h0:e=0
  ·subst h0
   rw[decide_eq_false (by omega),brF]
   exact⟨[],by simp,Dg.nil,rfl,by simp⟩
  ·rw[decide_eq_true (by omega),brT,w64 (by omega) (by omega)]
   have step:∀ a:Nat,a=e-9→∃ y:Int,(bd (sCut (bs l) (some (a:Int)) (some (e:Int))) fun r2=>bd (B.Atoi.f lf r2) fun r3=>bd (apL true 8 acc [r3.1]) fun l4=>bigint_read.l0 lf ng (bs l) m ((e:Int)-9) l4) =
     bigint_read.l0 lf ng (bs l) m ((e:Int)-9) (acc++[y])∧y=dv ((l.drop a).take (e-a))∧0≤y∧y < G:=by
    intro a hae
    have hd:=dv_lt _ (hall a (e-a))
    have hlen:((l.drop a).take (e-a)).length=e-a:=by rw[List.length_take,List.length_drop];omega
    have hp:(10:Nat) ^ (e-a)≤10 ^ 9:=Nat.pow_le_pow_right (by omega) (by omega)
    rw[hlen]at hd
    refine⟨(dv ((l.drop a).take (e-a)):Int),?_,rfl,by omega,?_⟩
    ·rw[sCut_bs l _ _ a e rfl rfl (by omega) he,bdS]
     have e2:B.Atoi.f lf (bs ((l.drop a).take (e-a)))=some ((dv ((l.drop a).take (e-a)):Int),(),()):=by
      unfold B.Atoi.f
      rw[bs_size,if_pos (by omega),atoi_digs (hall a (e-a)) (by intro e0;rw[e0]at hlen;simp at hlen;omega)]
      rfl
     rw[e2,bdS]
     simp only
     rw[apL_ok 8 _ _ (by omega) (by simp;omega),bdS]
    ·simp only[G];have:(10:Nat) ^ 9=1000000000:=by decide
     omega
   by_cases h9:e≤9
   ·have hif:(if(e:Int)-9 > 0 then(e:Int)-9 else 0)=((0:Nat):Int):=by rw[if_neg (by omega)];rfl
    rw[hif]
    obtain⟨y,e1,hy,y1,y2⟩:=step 0 (by omega)
    rw[e1]
    obtain⟨k,rfl⟩:∃ k,m=k+1:=Nat.exists_eq_succ_of_ne_zero (show m≠0 by omega)
    rw[bigint_read.l0,bigint_read.r0,decide_eq_false (by omega),brF]
    refine⟨[y],rfl,Dg.cons ⟨y1,y2⟩ Dg.nil,?_,by simp;omega⟩
    simp only[lv,Int.mul_zero,Int.add_zero]
    rw[hy,List.drop_zero,Nat.sub_zero]
   ·have hif:(if(e:Int)-9 > 0 then(e:Int)-9 else 0)=((e-9:Nat):Int):=by rw[if_pos (by omega)];omega
    rw[hif]
    obtain⟨y,e1,hy,y1,y2⟩:=step (e-9) rfl
    rw[e1,show(e:Int)-9=((e-9:Nat):Int) by omega]
    obtain⟨r,k1,k2,k3,k4⟩:=ih (e-9) (by omega) m (acc++[y]) (by omega) (by omega) (by simp;omega)
    rw[k1]
    refine⟨y::r,by simp,Dg.cons ⟨y1,y2⟩ k2,?_,by simp;omega⟩
    rw[lv,k3,hy]
    have hsplit:l.take e=l.take (e-9)++(l.drop (e-9)).take (e-(e-9)):=by
     conv=>lhs;rw[show e=(e-9)+(e-(e-9)) by omega]
     rw[List.take_add]
    have hlen:((l.drop (e-9)).take (e-(e-9))).length=9:=by rw[List.length_take,List.length_drop];omega
    rw[hsplit,dv_app,hlen]
    have:(10:Nat) ^ 9=1000000000:=by decide
    rw[this]
    simp only[G]
    omega
theorem read_f(lf:Nat)(l:List UInt8)(hc:can l=true)(hl:l.length≤100000)(h3:200000≤lf):
  ∃ p,bigint_read.f lf (bs l)=some (p,())∧RN p (iv l) (nlen l)∧p.1=neg l:=by
 rw[bigint_read.f,cutPrefix_f,bdS]
 simp only
 obtain⟨ha,hne,_⟩:=can_parts hc
 have hb:=body_len l
 obtain⟨r,k1,k2,k3,k4⟩:=read_l0 lf false (body l) ha (by omega) (body l).length (lf+40) [] (Nat.le_refl _) (by omega) (by simp;omega)
 rw[bs_size,k1,bdS]
 simp only[List.nil_append]
 rw[trim_f lf r (by omega) (by omega),bdS]
 have hlen:=tr_len r
 refine⟨_,rfl,⟨dg_tr k2,tr_tr r,by simp only;unfold nlen;omega,?_⟩,rfl⟩
 simp only
 rw[lv_tr,k3,List.take_of_length_le (Nat.le_refl _)]
 rfl
theorem pair_f(lf:Nat)(l m:List UInt8)(h1:chk l=0)(h2:chk m=0)(h3:200000≤lf):
  ∃ p q,bigint_pair.f lf (bs l) (bs m)=some (p,q,0,())∧RN p (iv l) 4096∧RN q (iv m) 4096∧p.1=neg l∧q.1=neg m:=by
 have a1:=chk_zero.1 h1
 have a2:=chk_zero.1 h2
 have b1:=len_nlen l
 have b2:=len_nlen m
 obtain⟨p,e1,k1,n1⟩:=read_f lf l a1.1 (by omega) h3
 obtain⟨q,e2,k2,n2⟩:=read_f lf m a2.1 (by omega) h3
 rw[bigint_pair.f,check_f lf l (by omega),bdS,check_f lf m (by omega),h1,h2]
 simp only[bne_self_eq_false,brF,bdS,e1,e2]
 exact⟨p,q,rfl,k1.mono a1.2,k2.mono a2.2,n1,n2⟩
theorem compare_f(lf:Nat)(l m:List UInt8)(h1:chk l=0)(h2:chk m=0)(h3:200000≤lf):
  bigint_Compare.f lf (bs l) (bs m)=some (sgn (iv l-iv m),0,()):=by
 obtain⟨p,q,e,k1,k2,_⟩:=pair_f lf l m h1 h2 h3
 rw[bigint_Compare.f,e,bdS]
 simp only[bne_self_eq_false,brF]
 obtain⟨q',e2,k3⟩:=negated_f lf k2
 rw[e2,bdS]
 obtain⟨s,e3,k4⟩:=sum_f lf k1 k3 (by omega) h3
 rw[e3,bdS,sign_f lf k4,bdS]
 simp only[Int.sub_eq_add_neg]
theorem iorder_f(lf:Nat)(l m:List UInt8)(h1:chk l=0)(h2:chk m=0)(h3:200000≤lf):
  interval_order.f lf (bs l) (bs m)=some (sgn (iv l-iv m),()):=by
 rw[interval_order.f,compare_f lf l m h1 h2 h3,bdS]
end Go.N
namespace Go.N
open Go Go.Q Go.Rx
end Go.N
namespace Go.N
open Go Go.Q Go.Rx
set_option exponentiation.threshold 5000
def sz(z:Int):Nat:=nlen (Lib.itoa z)
theorem body_itoa(z:Int):body (Lib.itoa z)=Lib.decDigits z.natAbs:=by
 unfold body Lib.itoa
 by_cases h:z < 0
 ·rw[if_pos h];simp
 ·rw[if_neg h,if_neg (dec_no45 _)]
  congr 1;omega
theorem sz_le(z:Int)(k:Nat)(hk:0 < k):sz z≤k↔z.natAbs < 10 ^ k:=by
 unfold sz nlen
 rw[body_itoa]
 constructor
 ·intro h
  have:=dv_lt _ (dec_all z.natAbs)
  rw[dv_dec]at this
  exact Nat.lt_of_lt_of_le this (Nat.pow_le_pow_right (by omega) h)
 ·intro h
  obtain⟨j,rfl⟩:=Nat.exists_eq_succ_of_ne_zero (show k≠0 by omega)
  exact dec_len_le j _ h
@[irreducible] def K : Int := ((10 ^ 4096 : Nat) : Int)
@[irreducible] def C : Int := ((10 ^ 100 : Nat) : Int)
theorem sz_K(z:Int):sz z≤4096↔-K < z∧z < K:=by
 rw[sz_le z 4096 (by omega)]
 unfold K
 generalize 10 ^ 4096=n
 omega
theorem sz_C(z:Int):sz z≤100↔-C < z∧z < C:=by
 rw[sz_le z 100 (by omega)]
 unfold C
 generalize 10 ^ 100=n
 omega
theorem C_lt_K:C < K:=by
 unfold C K
 have:(10:Nat) ^ 100 < 10 ^ 4096:=Nat.pow_lt_pow_right (by omega) (by omega)
 exact Int.ofNat_lt.2 this
theorem C_gt:1000000 < C:=by
 unfold C
 have:(1000000:Nat) < 10 ^ 100:=by decide +kernel
 omega
theorem K_gt:1000000 < K:=Int.lt_trans C_gt C_lt_K
theorem itoa_len(z:Int)(h:sz z≤4096):(Lib.itoa z).length≤4097:=by
 have:=len_nlen (Lib.itoa z)
 unfold sz at h
 omega
theorem chk_itoa(z:Int):chk (Lib.itoa z)=0↔-K < z∧z < K:=by
 rw[chk_zero,←sz_K]
 exact⟨fun h=>h.2,fun h=>⟨can_itoa z,h⟩⟩
theorem num_itoa(z:Int):num (Lib.itoa z)=0↔-C < z∧z < C:=by
 rw[num_zero,←sz_C]
 exact⟨fun h=>h.2,fun h=>⟨can_itoa z,h⟩⟩
theorem itoa_ne(z:Int):Lib.itoa z≠[]:=(can_parts (can_itoa z)).2.2
inductive X where
 | ni
 | fin (z:Int)
 | pi
deriving DecidableEq
abbrev EB:Type:=Int×(ByteArray×Unit)
abbrev IV:Type:=Bool×(ByteArray×(ByteArray×Unit))
def xc:X→EB
 | .ni=>(-1,bs [],())
 | .fin z=>(0,bs (Lib.itoa z),())
 | .pi=>(1,bs [],())
def key:X→Int
 | .ni=> -K
 | .fin z=>z
 | .pi=>K
def okx(k:Int):X→Prop
 | .fin z=> -k < z∧z < k
 | _=>True
theorem okx.mono{k k':Int}(h:k≤k'){x:X}(hx:okx k x):okx k' x:=by cases x<;>simp_all [okx];omega
theorem key_le{x:X}(h:okx K x): -K≤key x∧key x≤K:=by
 have:=K_gt
 cases x<;>simp only[okx,key]at*<;> omega
theorem key_inj{x y:X}(hx:okx K x)(hy:okx K y)(h:key x=key y):x=y:=by
 have:=K_gt
 cases x<;>cases y<;>simp only[okx,key,X.fin.injEq,reduceCtorEq]at*<;> omega
theorem cmp_f(lf:Nat)(h3:200000≤lf){x y:X}(hx:okx K x)(hy:okx K y):∃ c,interval_compare.f lf (xc x) (xc y)=some (c,())∧Sg c (key x-key y):=by
 have hK:=K_gt
 rw[interval_compare.f]
 cases x with
 | ni=>cases y with
  | ni=>exact⟨0,(brT _ _).trans rfl,by simp[Sg,key]⟩
  | fin z=>exact⟨-1,(brT _ _).trans rfl,by simp only[okx,key,Sg]at *;omega⟩
  | pi=>exact⟨-2,(brT _ _).trans rfl,by simp only[okx,key,Sg]at *;omega⟩
 | pi=>cases y with
  | ni=>exact⟨2,(brT _ _).trans rfl,by simp only[okx,key,Sg]at *;omega⟩
  | fin z=>exact⟨1,(brT _ _).trans rfl,by simp only[okx,key,Sg]at *;omega⟩
  | pi=>exact⟨0,(brT _ _).trans rfl,by simp[Sg,key]⟩
 | fin z=>cases y with
  | ni=>exact⟨1,(brF _ _).trans ((brT _ _).trans rfl),by simp only[okx,key,Sg]at *;omega⟩
  | pi=>exact⟨-1,(brF _ _).trans ((brT _ _).trans rfl),by simp only[okx,key,Sg]at *;omega⟩
  | fin u =>
   refine⟨sgn (z-u),?_,?_⟩
   ·simp only[xc,bne_self_eq_false,brF]
    rw[iorder_f lf _ _ ((chk_itoa z).2 hx) ((chk_itoa u).2 hy) h3,bdS,iv_itoa,iv_itoa]
   ·simp only[key,Sg,sgn];constructor<;>(repeat' split)<;>omega
def xmin(x y:X):X:=if key y < key x then y else x
def xmax(x y:X):X:=if key y > key x then y else x
theorem xmin_ok{k:Int}{x y:X}(hx:okx k x)(hy:okx k y):okx k (xmin x y):=by unfold xmin;split<;>assumption
theorem xmax_ok{k:Int}{x y:X}(hx:okx k x)(hy:okx k y):okx k (xmax x y):=by unfold xmax;split<;>assumption
theorem key_min(x y:X):key (xmin x y)=min (key x) (key y):=by unfold xmin;split<;>omega
theorem key_max(x y:X):key (xmax x y)=max (key x) (key y):=by unfold xmax;split<;>omega
theorem least_f(lf:Nat)(h3:200000≤lf){x y:X}(hx:okx K x)(hy:okx K y):interval_least.f lf (xc x) (xc y)=some (xc (xmin x y),()):=by
 obtain⟨c,e,s1,s2⟩:=cmp_f lf h3 hy hx
 rw[interval_least.f,e,bdS]
 unfold xmin
 by_cases h:key y < key x
 ·rw[decide_eq_true (by omega),brT,if_pos h]
 ·rw[decide_eq_false (by omega),brF,if_neg h]
theorem most_f(lf:Nat)(h3:200000≤lf){x y:X}(hx:okx K x)(hy:okx K y):interval_most.f lf (xc x) (xc y)=some (xc (xmax x y),()):=by
 obtain⟨c,e,s1,s2⟩:=cmp_f lf h3 hy hx
 rw[interval_most.f,e,bdS]
 unfold xmax
 by_cases h:key y > key x
 ·rw[decide_eq_true (by omega),brT,if_pos h]
 ·rw[decide_eq_false (by omega),brF,if_neg h]
structure Sp where
 lo:X
 hi:X
deriving DecidableEq
def sc(s:Sp):EB×(EB×Unit):=(xc s.lo,xc s.hi,())
def oks(k:Int)(s:Sp):Prop:=okx k s.lo∧okx k s.hi
theorem oks.mono{k k':Int}(h:k≤k'){s:Sp}(hs:oks k s):oks k' s:=⟨hs.1.mono h,hs.2.mono h⟩
def emp(s:Sp):Bool:=decide (key s.lo > key s.hi)
theorem empty_f(lf:Nat)(h3:200000≤lf){s:Sp}(hs:oks K s):interval_span_empty.f lf (sc s)=some (emp s,()):=by
 obtain⟨c,e,s1,s2⟩:=cmp_f lf h3 hs.1 hs.2
 rw[interval_span_empty.f]
 simp only[sc]
 rw[e,bdS]
 unfold emp
 congr 2
 simp only[decide_eq_decide];omega
def non:Sp:=⟨.pi,.ni⟩
theorem none_f(lf:Nat):interval_none.f lf=some (sc non,()):=by
 rw[interval_none.f,interval_infinite.f,bdS,interval_infinite.f,bdS];rfl
theorem non_ok{k:Int}:oks k non:=⟨trivial,trivial⟩
theorem emp_non:emp non=true:=by
 have:=K_gt
 show decide (K > -K)=true
 exact decide_eq_true (by omega)
def hull(s t:Sp):Sp:=if emp s=true then t else if emp t=true then s else⟨xmin s.lo t.lo,xmax s.hi t.hi⟩
theorem hull_ok{k:Int}{s t:Sp}(hs:oks k s)(ht:oks k t):oks k (hull s t):=by
 unfold hull;split
 ·exact ht
 ·split
  ·exact hs
  ·exact⟨xmin_ok hs.1 ht.1,xmax_ok hs.2 ht.2⟩
theorem hull_f(lf:Nat)(h3:200000≤lf){s t:Sp}(hs:oks K s)(ht:oks K t):interval_span_hull.f lf (sc s) (sc t)=some (sc (hull s t),()):=by
 rw[interval_span_hull.f,empty_f lf h3 hs,bdS,empty_f lf h3 ht]
 unfold hull
 cases emp s with
 | true=>rw[brT,if_pos rfl]
 | false =>
  rw[brF,bdS,if_neg (by simp)]
  cases emp t with
  | true=>rw[brT,if_pos rfl]
  | false =>
   rw[brF,if_neg (by simp)]
   simp only[sc]
   rw[least_f lf h3 hs.1 ht.1,bdS,most_f lf h3 hs.2 ht.2,bdS]
def common(s t:Sp):Sp:=⟨xmax s.lo t.lo,xmin s.hi t.hi⟩
theorem common_ok{k:Int}{s t:Sp}(hs:oks k s)(ht:oks k t):oks k (common s t):=⟨xmax_ok hs.1 ht.1,xmin_ok hs.2 ht.2⟩
theorem common_f(lf:Nat)(h3:200000≤lf){s t:Sp}(hs:oks K s)(ht:oks K t):interval_span_common.f lf (sc s) (sc t)=some (sc (common s t),()):=by
 rw[interval_span_common.f]
 simp only[sc]
 rw[most_f lf h3 hs.1 ht.1,bdS,least_f lf h3 hs.2 ht.2,bdS]
 rfl
def ob:Option Int→ByteArray
 | none=>bs []
 | some z=>bs (Lib.itoa z)
structure A where
 em:Bool
 lo:Option Int
 hi:Option Int
deriving DecidableEq
def ac(a:A):IV:=(a.em,ob a.lo,ob a.hi,())
def okb(k:Int):Option Int→Prop
 | none=>True
 | some z=> -k < z∧z < k
def le? : Option Int→Option Int→Prop
 | some x,some y=>x≤y
 | _,_=>True
structure Wf(a:A):Prop where
 em:a.em=true→a.lo=none∧a.hi=none
 lo:okb C a.lo
 hi:okb C a.hi
 le:le? a.lo a.hi
def lox:Option Int→X
 | none=>.ni
 | some z=>.fin z
def hix:Option Int→X
 | none=>.pi
 | some z=>.fin z
def ofA(a:A):Sp:=if a.em=true then non else⟨lox a.lo,hix a.hi⟩
theorem okb_lox{k:Int}{x:Option Int}(h:okb k x):okx k (lox x):=by cases x<;>simp_all [okb,lox,okx]
theorem okb_hix{k:Int}{x:Option Int}(h:okb k x):okx k (hix x):=by cases x<;>simp_all [okb,hix,okx]
theorem ofA_ok{k:Int}{a:A}(h1:okb k a.lo)(h2:okb k a.hi):oks k (ofA a):=by
 unfold ofA;split
 ·exact non_ok
 ·exact⟨okb_lox h1,okb_hix h2⟩
theorem ob_beq(x:Option Int):((ob x).toList==(⟨#[]⟩:ByteArray).toList)=decide (x=none):=by
 cases x with
 | none=>rw[ob,show(⟨#[]⟩:ByteArray)=bs [] from rfl,beq_bs];simp
 | some z =>
  rw[ob,show(⟨#[]⟩:ByteArray)=bs [] from rfl,beq_bs,decide_eq_false (itoa_ne z)]
  simp
theorem of_f(lf:Nat)(a:A):interval_of.f lf (ac a)=some (sc (ofA a),()):=by
 obtain⟨em,lo,hi⟩:=a
 rw[interval_of.f]
 simp only[ac,ofA]
 cases em with
 | true=>rw[brT,none_f,bdS];rfl
 | false =>
  simp only[brF,interval_infinite.f,interval_finite.f,bdS,ob_beq]
  cases lo<;>cases hi<;>simp[brT,brF,sc,lox,hix,xc,ob]
def clip(z:Int):Option Int:=if -C < z∧z < C then some z else none
def tx:X→Option Int
 | .fin z=>clip z
 | _=>none
theorem text_f(lf:Nat){x:X}(hx:okx K x):interval_text.f lf (xc x)=some (ob (tx x),()):=by
 rw[interval_text.f]
 cases x with
 | ni=>exact(brT _ _).trans rfl
 | pi=>exact(brT _ _).trans rfl
 | fin z =>
  simp only[xc,bne_self_eq_false,brF]
  have hz:=(sz_K z).2 hx
  rw[idigits_f lf _ (by have:=itoa_len z hz;omega),bdS]
  simp only[tx,clip]
  have:=sz_C z
  unfold sz at this
  by_cases h:nlen (Lib.itoa z)≤100
  ·rw[decide_eq_false (by omega),brF,if_pos (this.1 h)];rfl
  ·rw[decide_eq_true (by omega),brT,if_neg (fun h'=>h (this.2 h'))];rfl
def toA(s:Sp):A:=if emp s=true then⟨true,none,none⟩else⟨false,tx s.lo,tx s.hi⟩
theorem interval_f(lf:Nat)(h3:200000≤lf){s:Sp}(hs:oks K s):interval_span_interval.f lf (sc s)=some (ac (toA s),()):=by
 rw[interval_span_interval.f,empty_f lf h3 hs,bdS]
 unfold toA
 cases emp s with
 | true=>rw[brT,if_pos rfl];rfl
 | false =>
  rw[brF,if_neg (by simp)]
  simp only[sc]
  rw[text_f lf hs.1,bdS,text_f lf hs.2,bdS]
  rfl
end Go.N
namespace Go.N
open Go Go.Q Go.Rx
def ck(em:Bool)(l h:List UInt8):Int :=
 if em=true∧(l≠[]∨h≠[])then 3 else if l≠[]∧num l≠0 then num l else if h≠[]∧num h≠0 then num h else if l≠[]∧h≠[]∧iv h < iv l then 14 else 0
theorem num_chk{l:List UInt8}(h:num l=0):chk l=0:=chk_zero.2 ⟨(num_zero.1 h).1,by have:=(num_zero.1 h).2;omega⟩
theorem num_len{l:List UInt8}(h:num l=0):l.length≤101:=by have:=len_nlen l;have:=(num_zero.1 h).2;omega
theorem bneT{x:Int}(h:¬x=0):(x != 0)=true:=by simpa using h
theorem e0:(⟨#[]⟩:ByteArray)=bs []:=rfl
theorem sgn_gt(a b:Int):decide (sgn (a-b) > 0)=decide (b < a):=by
 simp only[decide_eq_decide];unfold sgn;(repeat' split)<;>omega
set_option maxHeartbeats 1000000 in
theorem check_iv(lf:Nat)(h3:200000≤lf)(em:Bool)(l h:List UInt8)(hl:l.length≤9223372036854775807)(hh:h.length≤9223372036854775807):interval_Check.f lf (em,bs l,bs h,())=some (ck em l h,()):=by
 rw[interval_Check.f]
 simp only[e0,beq_bs,number_f lf l (by omega),number_f lf h (by omega),bdS]
 have ho:num l=0→num h=0→interval_order.f lf (bs l) (bs h)=some (sgn (iv l-iv h),()):=fun a b=>iorder_f lf l h (num_chk a) (num_chk b) h3
 unfold ck
 by_cases n1:num l=0<;>by_cases n2:num h=0
 ·simp only[ho n1 n2,bdS,sgn_gt]
  by_cases h1:l=[]<;>by_cases h2:h=[]<;>by_cases h4:iv h < iv l<;>cases em<;>simp[h1,h2,h4,n1,n2,brT,brF]<;>simp_all
 ·by_cases h1:l=[]<;>by_cases h2:h=[]<;>cases em<;>simp[h1,h2,n1,n2,bneT n2,brT,brF]<;>simp_all [bneT n2,brT]
 ·by_cases h1:l=[]<;>by_cases h2:h=[]<;>cases em<;>simp[h1,h2,n1,n2,bneT n1,brT,brF]<;>simp_all [bneT n1,brT]
 ·by_cases h1:l=[]<;>by_cases h2:h=[]<;>cases em<;>simp[h1,h2,n1,n2,bneT n1,bneT n2,brT,brF]<;>simp_all [bneT n1,bneT n2,brT]
theorem wf_ck{a:A}(h:Wf a):∃ l m,ac a=(a.em,bs l,bs m,())∧ck a.em l m=0∧l.length≤101∧m.length≤101:=by
 have key:∀ o:Option Int,okb C o→∃ m,ob o=bs m∧(m≠[]→num m=0)∧(m=[]↔o=none)∧(∀ z,o=some z→iv m=z)∧m.length≤101:=by
  intro o ho
  cases o with
  | none=>exact⟨[],rfl,fun h=>absurd rfl h,by simp,by simp,by simp⟩
  | some z =>
   have hn:=(num_itoa z).2 ho
   exact⟨Lib.itoa z,rfl,fun _=>hn,by simp[itoa_ne z],fun u hu=>by rw[iv_itoa];exact Option.some.inj hu,num_len hn⟩
 obtain⟨l,a1,b1,c1,d1,e1⟩:=key a.lo h.lo
 obtain⟨m,a2,b2,c2,d2,e2⟩:=key a.hi h.hi
 refine⟨l,m,by rw[ac,a1,a2],?_,e1,e2⟩
 unfold ck
 have hem:=h.em
 have hle:=h.le
 rw[if_neg,if_neg,if_neg,if_neg]
 ·rintro ⟨x1,x2,x3⟩
  cases hlo:a.lo with
  | none=>exact x1 (c1.2 hlo)
  | some x=>cases hhi:a.hi with
   | none=>exact x2 (c2.2 hhi)
   | some y =>
    rw[hlo,hhi]at hle
    simp only[le?]at hle
    rw[d1 x hlo,d2 y hhi]at x3
    omega
 ·rintro ⟨x1,x2⟩;exact x2 (b2 x1)
 ·rintro ⟨x1,x2⟩;exact x2 (b1 x1)
 ·rintro ⟨x1,x2⟩
  obtain⟨p,q⟩:=hem x1
  rcases x2 with x2 | x2
  ·exact x2 (c1.2 p)
  ·exact x2 (c2.2 q)
theorem check_wf(lf:Nat)(h3:200000≤lf){a:A}(h:Wf a):interval_Check.f lf (ac a)=some (0,()):=by
 obtain⟨l,m,e,hc,h1,h2⟩:=wf_ck h
 rw[e,check_iv lf h3 _ _ _ (by omega) (by omega),hc]
theorem Wf.okC{a:A}(h:Wf a):oks C (ofA a):=ofA_ok h.lo h.hi
theorem Wf.okK{a:A}(h:Wf a):oks K (ofA a):=h.okC.mono (Int.le_of_lt C_lt_K)
theorem emp_ofA{a:A}(h:Wf a):emp (ofA a)=a.em:=by
 have hK:=K_gt
 have hC:=C_lt_K
 obtain⟨em,lo,hi⟩:=a
 obtain⟨h1,h2,h3,h4⟩:=h
 unfold ofA
 cases em with
 | true=>exact emp_non
 | false =>
  rw[if_neg (by simp)]
  apply decide_eq_false
  cases lo<;>cases hi<;>simp only[lox,hix,key,okb,le?]at*<;> omega
theorem join_f(lf:Nat)(h3:200000≤lf){a b:A}(ha:Wf a)(hb:Wf b):interval_Join.f lf (ac a) (ac b)=some (ac (toA (hull (ofA a) (ofA b))),0,()):=by
 rw[interval_Join.f]
 simp only[check_wf lf h3 ha,check_wf lf h3 hb,bdS,bne_self_eq_false,brF,of_f,hull_f lf h3 ha.okK hb.okK,interval_f lf h3 (hull_ok ha.okK hb.okK)]
end Go.N
namespace Go.N
open Go Go.Q Go.Rx
theorem okb.mono{k k':Int}(h:k≤k'){o:Option Int}(ho:okb k o):okb k' o:=by cases o<;>simp only[okb]at *;omega
theorem xmax_t{x y:X}(h:key x < key y):xmax x y=y:=if_pos h
theorem xmax_f{x y:X}(h:¬key x < key y):xmax x y=x:=if_neg h
end Go.N
namespace Go.N
open Go Go.Q Go.Rx
structure Ks(s:Sp)(e:Bool):Prop where
 ok:oks K s
 e1:e=true→s=non
 e2:e=false→key s.lo≤key s.hi∧key s.lo < K∧-K < key s.hi
theorem Wf.ks{a:A}(h:Wf a):Ks (ofA a) a.em:=by
 have hK:=K_gt
 have hC:=C_lt_K
 refine⟨h.okK,fun e=>by unfold ofA;rw[if_pos e],fun e=>?_⟩
 have:=emp_ofA h
 rw[e]at this
 unfold emp at this
 simp only[decide_eq_false_iff_not]at this
 refine⟨by omega,?_,?_⟩
 ·unfold ofA;rw[if_neg (by simp[e])]
  have h0:=h.lo
  cases hx:a.lo with
  | none=>simp only[lox,key];omega
  | some z=>rw[hx]at h0;simp only[lox,key,okb]at *;omega
 ·unfold ofA;rw[if_neg (by simp[e])]
  have h0:=h.hi
  cases hx:a.hi with
  | none=>simp only[hix,key];omega
  | some z=>rw[hx]at h0;simp only[hix,key,okb]at *;omega
theorem ba_beq(x y:ByteArray):(x==y)=decide (x=y):=by
 have e:(x==y)=(x.data==y.data):=rfl
 rw[e]
 obtain⟨x⟩:=x
 obtain⟨y⟩:=y
 by_cases h:x=y
 ·subst h;simp
 ·have:¬(⟨x⟩:ByteArray)=⟨y⟩:=fun e=>h (by injection e)
  rw[decide_eq_false this];simpa using h
end Go.N
namespace Go.N
open Go Go.Q Go.Rx
def inS(s:Sp)(z:Int):Bool:=decide (key s.lo≤z)&&decide (z≤key s.hi)
end Go.N
namespace Go.N
open Go.IntKind (i64)
open Go Go.Q Go.Rx
abbrev D(n:Nat):List UInt8:=Lib.decDigits n
def zs(n:Nat):List UInt8:=List.replicate n 48
theorem zs_all(n:Nat):(zs n).all isDig=true:=by
 unfold zs
 rw[List.all_eq_true]
 intro b hb
 rw[(List.mem_replicate.1 hb).2];rfl
theorem dv_zs:∀ n:Nat,dv (zs n)=0
 | 0=>rfl
 | n+1=>by
  unfold zs
  rw[List.replicate_succ',dv_snoc]
  have:=dv_zs n
  unfold zs at this
  rw[this];rfl
theorem dec_pad{v x k:Nat}(hv:0 < v)(hk:0 < k)(hx:x < 10 ^ k):D (v*10 ^ k+x)=D v++(zs (k-(D x).length)++D x):=by
 have hlen:(D x).length≤k:=by
  obtain⟨j,rfl⟩:=Nat.exists_eq_succ_of_ne_zero (show k≠0 by omega)
  exact dec_len_le j x hx
 obtain⟨b,r,e,hb⟩:=dec_head (show v≠0 by omega)
 have h1:(D v++(zs (k-(D x).length)++D x)).all isDig=true:=by
  rw[List.all_append,List.all_append,dec_all,zs_all,dec_all];rfl
 have h2:dv (D v++(zs (k-(D x).length)++D x))=v*10 ^ k+x:=by
  rw[dv_app,dv_app,dv_zs,dv_dec,dv_dec,List.length_append]
  unfold zs
  rw[List.length_replicate,Nat.sub_add_cancel hlen];omega
 have h3:=dec_of h1 (by rw[show D v=b::r from e];simp) (.inl (by rw[show D v=b::r from e];simpa using hb))
 rw[h2]at h3
 exact h3.symm
theorem dec_pad_len{v x k:Nat}(hv:0 < v)(hk:0 < k)(hx:x < 10 ^ k):(D (v*10 ^ k+x)).length=(D v).length+k:=by
 have hlen:(D x).length≤k:=by
  obtain⟨j,rfl⟩:=Nat.exists_eq_succ_of_ne_zero (show k≠0 by omega)
  exact dec_len_le j x hx
 rw[dec_pad hv hk hx,List.length_append,List.length_append]
 unfold zs
 rw[List.length_replicate];omega
def uv(L:List Int)(k:Nat):Nat:=(lv G (L.drop k)).toNat
theorem uv_succ{L:List Int}(h:Dg G L)(k:Nat)(hk:k < L.length):uv L k=uv L (k+1)*10 ^ 9+(L[k]).toNat:=by
 unfold uv
 rw[List.drop_eq_getElem_cons hk,lv]
 have h1:=h.at k hk
 have h2:=lv_nonneg (B:=G) (by decide) (h.drop (k+1))
 have e:(10:Nat) ^ 9=1000000000:=by decide
 rw[e]
 simp only[G]at *
 omega
theorem uv_len(L:List Int):uv L L.length=0:=by unfold uv;rw[List.drop_length];rfl
theorem uv_pos{L:List Int}(h:Dg G L)(ht:Tr L){k:Nat}(hk:k < L.length):0 < uv L k:=by
 have hT:Tr (L.drop k):=by
  unfold Tr at *
  rw[List.getLast?_drop,if_neg (by omega)]
  exact ht
 have:=lv_pos (B:=G) (by decide) (h.drop k) hT (by intro e;have:=congrArg List.length e;simp at this;omega)
 unfold uv;omega
theorem uv_dlen{L:List Int}(h:Dg G L){k:Nat}(hk:k < L.length):(D (uv L k)).length≤9*(L.length-k):=by
 have h1:=lv_lt (B:=G) (by decide) (h.drop k)
 have h2:=lv_nonneg (B:=G) (by decide) (h.drop k)
 rw[List.length_drop]at h1
 have h3:uv L k < 10 ^ (9*(L.length-k)):=by
  unfold uv
  have e:(G:Int) ^ (L.length-k)=((10 ^ (9*(L.length-k)):Nat):Int):=by
   rw[Nat.pow_mul]
   have:(10:Nat) ^ 9=1000000000:=by decide
   rw[this]
   simp[G]
  rw[e]at h1
  omega
 obtain⟨j,hj⟩:=Nat.exists_eq_succ_of_ne_zero (show 9*(L.length-k)≠0 by omega)
 rw[hj]at h3⊢
 exact dec_len_le j _ h3
theorem itoa_nn{y:Int}(h:0≤y):Lib.itoa y=D y.toNat:=by unfold Lib.itoa;rw[if_neg (by omega)]
theorem bItoa(lf:Nat){y:Int}(h1:0≤y)(h2:y < G):B.Itoa.f lf y=some (bs (D y.toNat),()):=by
 simp only[G]at h2
 unfold B.Itoa.f
 rw[if_pos ⟨by omega,by omega⟩,itoa_nn h1]
theorem repeat48:∀ c:Nat,Lib.repeatL [48] c=zs c
 | 0=>rfl
 | c+1=>by rw[Lib.repeatL,repeat48 c];rfl
theorem bRepeat(lf:Nat)(c:Nat)(h:c≤9):B.Repeat.f lf (⟨#[48]⟩:ByteArray) (c:Int)=some (bs (zs c),()):=by
 unfold B.Repeat.f
 have e:(⟨#[48]⟩:ByteArray).size=1:=rfl
 rw[e,if_pos ⟨by omega,by omega,by rw[Int.toNat_natCast];omega⟩,Int.toNat_natCast]
 show some (bs (Lib.repeatL [48] c),())=_
 rw[repeat48]
abbrev si(l:List UInt8):List Int:=l.map fun b=>(b.toNat:Int)
theorem si_app(l m:List UInt8):si l++si m=si (l++m):=by simp[si]
theorem limb_step(lf:Nat){L:List Int}(h:Dg G L)(ht:Tr L)(hl:L.length≤100000)(k:Nat)(hk:k < L.length)(pre:List UInt8)(hp:pre.length≤1){R:Type}(f:List Int→Option R):
    (bd (idxL L (k:Nat)) fun y2=>bd (B.Itoa.f lf y2) fun r3=>br (decide (((k:Nat):Int) < i64.wrap (((L.length:Nat):Int)-1)))
      (bd (B.Repeat.f lf (⟨#[48]⟩:ByteArray) (i64.wrap (9-((r3.1.size:Nat):Int)))) fun r4=>bd (apL true 1 (si (pre++(if k+1=L.length then []else D (uv L (k+1))))) (sBytes r4.1)) fun l5=>bd (apL true 1 l5 (sBytes r3.1)) fun l6=>f l6)
      (bd (apL true 1 (si (pre++(if k+1=L.length then []else D (uv L (k+1))))) (sBytes r3.1)) fun l7=>f l7))=f (si (pre++D (uv L k))):=by
  have hy:=h.at k hk
  have hlx:(D (L[k]).toNat).length≤9:=dec_len_le 8 _ (by simp only[G]at hy;have:(10:Nat) ^ (8+1)=1000000000:=by decide
                                                         omega)
  rw[idxL_nat L k hk,bdS,bItoa lf hy.1 hy.2,bdS,w64 (n:=((L.length:Nat):Int)-1) (by omega) (by omega)]
  simp only[bs_size]
  rw[uv_succ h k hk]
  by_cases hlast:k+1=L.length
  · rw[decide_eq_false (by omega),brF,if_pos hlast,hlast,uv_len,List.append_nil]
    simp only[sBytes_bs]
    rw[apL_ok 1 _ _ (by omega) (by simp;omega),bdS,si_app]
    simp
  · have hd:=uv_dlen h (k:=k+1) (by omega)
    rw[decide_eq_true (by omega),brT,if_neg hlast,w64 (by omega) (by omega)]
    rw[show(9:Int)-((D (L[k]).toNat).length:Nat)=((9-(D (L[k]).toNat).length:Nat):Int) by omega,bRepeat lf _ (by omega),bdS]
    simp only[sBytes_bs]
    have hz:(zs (9-(D (L[k]).toNat).length)).length=9-(D (L[k]).toNat).length:=by simp[zs]
    rw[apL_ok 1 _ _ (by omega) (by simp only[List.length_map,List.length_append];omega),bdS,si_app]
    rw[apL_ok 1 _ _ (by omega) (by simp only[List.length_map,List.length_append];omega),bdS,si_app]
    rw[dec_pad (uv_pos h ht (by omega)) (by omega) (by simp only[G]at hy;have:(10:Nat) ^ 9=1000000000:=by decide
                                                       omega)]
    simp only[List.append_assoc]
theorem text_l0(lf:Nat){L:List Int}(h:Dg G L)(ht:Tr L)(hl:L.length≤100000)(b:Bool)(q:List Int)(pre:List UInt8)(hp:pre.length≤1):∀ (k n:Nat),k≤L.length→k < n→
  bigint_number_text.l0 lf b L q L n ((k:Nat)-1:Int) (si (pre++(if k=L.length then []else D (uv L k))))=some ((si (pre++(if L.length=0 then []else D (uv L 0))),()),()):=by
 intro k
 induction k with
 | zero =>
  intro n hk hn
  obtain⟨m,rfl⟩:=Nat.exists_eq_succ_of_ne_zero (show n≠0 by omega)
  rw[bigint_number_text.l0,bigint_number_text.r0,decide_eq_false (by omega),brF]
  congr 5
  by_cases e:L.length=0<;>simp[e,eq_comm]
 | succ k ih =>
  intro n hk hn
  obtain⟨m,rfl⟩:=Nat.exists_eq_succ_of_ne_zero (show n≠0 by omega)
  rw[bigint_number_text.l0,bigint_number_text.r0,decide_eq_true (by omega),brT,show((k+1:Nat):Int)-1=(k:Nat) by omega]
  have st:=limb_step lf h ht hl k (by omega) pre hp (fun l=>bigint_number_text.l0 lf b L q L m (i64.wrap (((k:Nat):Int)-1)) l)
  rw[st,w64 (by omega) (by omega)]
  have:=ih m (by omega) (by omega)
  rw[if_neg (show ¬k=L.length by omega)]at this
  exact this
theorem text_l2(lf:Nat){L:List Int}(h:Dg G L)(ht:Tr L)(hl:L.length≤100000)(b:Bool)(pre:List UInt8)(hp:pre.length≤1):∀ (k n:Nat),k≤L.length→k < n→
  bigint_number_text.l2 lf b L L n ((k:Nat)-1:Int) (si (pre++(if k=L.length then []else D (uv L k))))=some ((b,L,L,si (pre++(if L.length=0 then []else D (uv L 0))),()),()):=by
 intro k
 induction k with
 | zero =>
  intro n hk hn
  obtain⟨m,rfl⟩:=Nat.exists_eq_succ_of_ne_zero (show n≠0 by omega)
  rw[bigint_number_text.l2,bigint_number_text.r2,decide_eq_false (by omega),brF]
  congr 8
  by_cases e:L.length=0<;>simp[e,eq_comm]
 | succ k ih =>
  intro n hk hn
  obtain⟨m,rfl⟩:=Nat.exists_eq_succ_of_ne_zero (show n≠0 by omega)
  rw[bigint_number_text.l2,bigint_number_text.r2,decide_eq_true (by omega),brT,show((k+1:Nat):Int)-1=(k:Nat) by omega]
  have st:=limb_step lf h ht hl k (by omega) pre hp (fun l=>bigint_number_text.l2 lf b L L m (i64.wrap (((k:Nat):Int)-1)) l)
  rw[st,w64 (by omega) (by omega)]
  have:=ih m (by omega) (by omega)
  rw[if_neg (show ¬k=L.length by omega)]at this
  exact this
theorem ntext_f(lf:Nat){p:Bool×(List Int×Unit)}{z:Int}{k:Nat}(h:RN p z k)(hk:k≤100000)(h3:200000≤lf):bigint_number_text.f lf p=some (bs (Lib.itoa z),()):=by
 obtain⟨ng,L,⟨⟩⟩:=p
 obtain⟨hd,ht,hl,hv⟩:=h
 simp only at hd ht hl hv
 rw[bigint_number_text.f]
 simp only
 by_cases h0:L=[]
 ·subst h0
  have:z=0:=by rw[hv];cases ng<;>simp[lv]
  subst this
  rw[show(((([]:List Int).length:Nat):Int)==0)=true from rfl,brT]
  have:Lib.itoa 0=[48]:=by unfold Lib.itoa;rw[if_neg (by omega)];exact dec_zero
  rw[this]
 ·have hne:L.length≠0:=fun e=>h0 (List.length_eq_zero_iff.1 e)
  have hb:((((L.length:Nat):Int))==0)=false:=by rw[beq_eq_false_iff_ne];omega
  rw[hb,brF]
  have hu:(uv L 0:Int)=lv G L:=by
   have:=lv_nonneg (B:=G) (by decide) hd
   unfold uv;rw[List.drop_zero];omega
  have hup:=uv_pos hd ht (k:=0) (by omega)
  cases ng with
  | true =>
   rw[brT,apL_ok 1 _ _ (by omega) (by simp),bdS,w64 (by omega) (by omega)]
   have st:=text_l0 lf hd ht (by omega) true [45] [45] (by simp) L.length (lf+40) (Nat.le_refl _) (by omega)
   rw[if_pos rfl,if_neg hne]at st
   simp only[List.append_nil,List.nil_append]at st⊢
   rw[show si [45]=([45]:List Int) from rfl]at st
   rw[st,bdS]
   simp only
   rw[if_pos (by simp),bdS,bytesS_map]
   congr 2
   rw[if_pos rfl]at hv
   unfold Lib.itoa
   rw[if_pos (by omega),show z.natAbs=uv L 0 by omega]
   rfl
  | false =>
   rw[brF,w64 (by omega) (by omega)]
   obtain⟨m,hm⟩:∃ m,lf+40=m+1:=⟨lf+39,by omega⟩
   obtain⟨t,htl⟩:=Nat.exists_eq_succ_of_ne_zero hne
   rw[hm,bigint_number_text.l1,bigint_number_text.r1,decide_eq_true (by omega),brT]
   have e1:((L.length:Nat):Int)-1=(t:Nat):=by omega
   rw[e1]
   have st:=limb_step lf hd ht (by omega) t (by omega) [] (by simp) (fun l=>bd (bigint_number_text.l2 lf false L L m (i64.wrap (((t:Nat):Int)-1)) l) fun z22=>some (false,(false,([]:List Int),([]:List Int),([]:List Int),()),((z22.1.1,z22.1.2.1,z22.1.2.2.1,z22.1.2.2.2.1,()),())))
   rw[if_pos (by omega)]at st
   simp only[List.append_nil,List.nil_append]at st
   rw[show si []=([]:List Int) from rfl,e1]at st
   rw[st,w64 (by omega) (by omega)]
   have st2:=text_l2 lf hd ht (by omega) false [] (by simp) t m (by omega) (by omega)
   rw[if_neg (by omega),if_neg hne]at st2
   simp only[List.nil_append]at st2
   rw[st2,bdS,bdS]
   simp only[brF]
   have hl0:0 < (D (uv L 0)).length:=List.length_pos_iff.2 (dec_ne _)
   rw[if_pos (by simpa using hl0),bdS,bytesS_map]
   congr 2
   rw[if_neg (by simp)]at hv
   unfold Lib.itoa
   rw[if_neg (by omega),show z.toNat=uv L 0 by omega]
theorem uv_dlen_eq{L:List Int}(h:Dg G L)(ht:Tr L)(hn:0 < L.length):∀ j,j < L.length→(D (uv L (L.length-1-j))).length=9*j+(D (L[L.length-1]).toNat).length
  | 0,_=>by
    rw[Nat.sub_zero,uv_succ h (L.length-1) (by omega),show L.length-1+1=L.length by omega,uv_len]
    simp
  | j+1,hj=>by
    have ih:=uv_dlen_eq h ht hn j (by omega)
    have hk:L.length-1-(j+1) < L.length:=by omega
    have hy:=h.at _ hk
    rw[uv_succ h _ hk,dec_pad_len (uv_pos h ht (by omega)) (by omega) (by simp only[G]at hy;have:(10:Nat) ^ 9=1000000000:=by decide
                                                                          omega)]
    rw[show L.length-1-(j+1)+1=L.length-1-j by omega,ih];omega
theorem size_f(lf:Nat){p:Bool×(List Int×Unit)}{z:Int}{k:Nat}(h:RN p z k)(hk:k≤100000):bigint_number_size.f lf p=some ((if z=0 then 0 else((D z.natAbs).length:Int)),()):=by
  obtain⟨ng,L,⟨⟩⟩:=p
  obtain⟨hd,ht,hl,hv⟩:=h
  simp only at hd ht hl hv
  rw[bigint_number_size.f]
  simp only
  by_cases h0:L=[]
  · subst h0
    have:z=0:=by rw[hv];cases ng<;>simp[lv]
    subst this
    rw[show(((([]:List Int).length:Nat):Int)==0)=true from rfl,brT]
    rfl
  · have hne:L.length≠0:=fun e=>h0 (List.length_eq_zero_iff.1 e)
    have hb:((((L.length:Nat):Int))==0)=false:=by rw[beq_eq_false_iff_ne];omega
    have hup:=uv_pos hd ht (k:=0) (by omega)
    have hu:(uv L 0:Int)=lv G L:=by
      have:=lv_nonneg (B:=G) (by decide) hd
      unfold uv;rw[List.drop_zero];omega
    have hy:=hd.at (L.length-1) (by omega)
    have hlx:(D (L[L.length-1]).toNat).length≤9:=dec_len_le 8 _ (by simp only[G]at hy;have:(10:Nat) ^ (8+1)=1000000000:=by decide
                                                                    omega)
    have e:=uv_dlen_eq hd ht (by omega) (L.length-1) (by omega)
    rw[show L.length-1-(L.length-1)=0 by omega]at e
    have hz:z.natAbs=uv L 0∧z≠0:=by cases ng<;>simp at hv<;>omega
    rw[hb,brF,w64 (n:=((L.length:Nat):Int)-1) (by omega) (by omega),idxL_int L _ (L.length-1) (by omega) (by omega),bdS,bItoa lf hy.1 hy.2,bdS]
    simp only[bs_size]
    rw[w64 (n:=(((L.length:Nat):Int)-1)*9) (by omega) (by omega),w64 (by omega) (by omega),if_neg hz.2,hz.1,e]
    congr 2
    omega
theorem written_f(lf:Nat){p:Bool×(List Int×Unit)}{z:Int}{k:Nat}(h:RN p z k)(hk:k≤100000)(h3:200000≤lf):
  bigint_written.f lf p=some (if(D z.natAbs).length > 4096 then(bs [],10,())else(bs (Lib.itoa z),0,())):=by
 rw[bigint_written.f,size_f lf h hk,bdS,ntext_f lf h hk h3,bdS]
 by_cases hz:z=0
 ·rw[hz,if_pos rfl,decide_eq_false (by omega),brF]
  rw[show(0:Int).natAbs=0 from rfl,show(D 0).length=1 from by rw[show D 0=[48] from dec_zero];rfl,if_neg (by omega)]
 ·rw[if_neg hz]
  by_cases h':(D z.natAbs).length > 4096
  ·rw[decide_eq_true (by omega),brT,if_pos h']
  ·rw[decide_eq_false (by omega),brF,if_neg h']
theorem sub_f(lf:Nat)(l m:List UInt8)(h1:chk l=0)(h2:chk m=0)(h3:200000≤lf):
  bigint_Sub.f lf (bs l) (bs m)=some (if(D (iv l-iv m).natAbs).length > 4096 then(bs [],10,())else(bs (Lib.itoa (iv l-iv m)),0,())):=by
 obtain⟨p,q,e,k1,k2,_⟩:=pair_f lf l m h1 h2 h3
 rw[bigint_Sub.f,e,bdS]
 simp only[bne_self_eq_false,brF]
 obtain⟨q',e2,k3⟩:=negated_f lf k2
 rw[e2,bdS]
 obtain⟨s,e3,k4⟩:=sum_f lf k1 k3 (by omega) h3
 rw[e3,bdS,written_f lf k4 (by omega) h3,bdS,←Int.sub_eq_add_neg]
theorem add_f(lf:Nat)(l m:List UInt8)(h1:chk l=0)(h2:chk m=0)(h3:200000≤lf):
  bigint_Add.f lf (bs l) (bs m)=some (if(D (iv l+iv m).natAbs).length > 4096 then(bs [],10,())else(bs (Lib.itoa (iv l+iv m)),0,())):=by
 obtain⟨p,q,e,k1,k2,_⟩:=pair_f lf l m h1 h2 h3
 rw[bigint_Add.f,e,bdS]
 simp only[bne_self_eq_false,brF]
 obtain⟨s,e3,k4⟩:=sum_f lf k1 k2 (by omega) h3
 rw[e3,bdS,written_f lf k4 (by omega) h3,bdS]
end Go.N
namespace Go.N
open Go.IntKind (i64)
open Go Go.Q Go.Rx
theorem lv_set(B:Int):∀ (l:List Int) (k:Nat) (v:Int) (h:k < l.length),lv B (l.set k v)=lv B l+B ^ k*(v-l[k])
 | x::l,0,v,h=>by simp[lv];omega
 | x::l,k+1,v,h=>by
  have ih:=lv_set B l k v (by simpa using h)
  simp only[List.set_cons_succ,lv,ih,List.getElem_cons_succ,Int.pow_succ]
  grind
theorem dg_set{B:Int}{l:List Int}(h:Dg B l)(k:Nat){v:Int}(hv:0≤v∧v < B):Dg B (l.set k v):=fun y hy=>by
 rcases List.mem_or_eq_of_mem_set hy with hy | rfl
 ·exact h y hy
 ·exact hv
theorem mul_bd{a y:Int}(h1:0≤a)(h2:a < G)(h3:0≤y)(h4:y < G):0≤a*y∧a*y≤999999998000000001:=by
 refine⟨Int.mul_nonneg h1 h3,?_⟩
 have:=Int.mul_le_mul (show a≤999999999 by simp only[G]at *;omega) (show y≤999999999 by simp only[G]at *;omega) h3 (by omega)
 omega
theorem ring_step(P B s o c a y D m q:Int)(h:m+B*q=s)(hs:s=c+(o+a*y)):P*(m-o)+P*B*(q+a*D)=P*(c+a*(y+B*D)):=by grind
theorem times_l1(lf:Nat)(v0 v4:List Int)(v5 v6:Int)(a:Int)(i:Nat)(ys:List Int)(ha:0≤a∧a < G)(hy:Dg G ys):∀ (k n j:Nat) (c:Int) (out:List Int),j+k=ys.length→k < n→0≤c→c < G→Dg G out→i+ys.length≤out.length→out.length≤1000000→
  ∃ c' out',bigint_times.l1 lf v0 (i:Nat) a v4 v5 v6 ys ((ys.length:Nat):Int) n c (j:Nat) out=some ((c',out',()),())∧out'.length=out.length∧Dg G out'∧0≤c'∧c' < G∧lv G out'+G ^ (i+ys.length)*c'=lv G out+G ^ (i+j)*(c+a*lv G (ys.drop j))∧∀ q,i+ys.length≤q→out'[q]? = out[q]? := by
 intro k
 induction k with
 | zero =>
  intro n j c out hj hn c0 c1 hd hl hb
  obtain⟨m,rfl⟩:=Nat.exists_eq_succ_of_ne_zero (show n≠0 by omega)
  refine⟨c,out,?_,rfl,hd,c0,c1,?_,fun q _=>rfl⟩
  ·rw[bigint_times.l1,bigint_times.r1,decide_eq_false (by omega),brF]
  ·rw[List.drop_of_length_le (by omega),show j=ys.length by omega];simp[lv]
 | succ k ih =>
  intro n j c out hj hn c0 c1 hd hl hb
  obtain⟨m,rfl⟩:=Nat.exists_eq_succ_of_ne_zero (show n≠0 by omega)
  have hjl:j < ys.length:=by omega
  have hp:i+j < out.length:=by omega
  have y0:=hy.at j hjl
  have o0:=hd.at (i+j) hp
  have hm:=mul_bd ha.1 (show a < G by omega) y0.1 (show ys[j] < G by omega)
  have hc9:c < G:=by omega
  have ho9:out[i+j] < G:=by omega
  have c0':=c0
  simp only[G]at hc9 ho9
  have e1:i64.wrap (((i:Nat):Int)+((j:Nat):Int))=((i+j:Nat):Int):=by rw[w64 (by omega) (by omega)];omega
  have e2:i64.wrap (a*ys[j])=a*ys[j]:=w64 (by omega) (by omega)
  have e3:i64.wrap (out[i+j]+a*ys[j])=out[i+j]+a*ys[j]:=w64 (by omega) (by omega)
  have e4:i64.wrap (c+(out[i+j]+a*ys[j]))=c+(out[i+j]+a*ys[j]):=w64 (by omega) (by omega)
  have e5:i64.wrap (((j:Nat):Int)+1)=((j+1:Nat):Int):=by rw[w64 (by omega) (by omega)];omega
  obtain⟨s,hs⟩:∃ s,s=c+(out[i+j]+a*ys[j]):=⟨_,rfl⟩
  have s0:0≤s:=by omega
  have d0:=Int.emod_nonneg s (show G≠0 by decide)
  have d1:=Int.emod_lt_of_pos s (show 0 < G by decide)
  have dd:=Int.emod_add_mul_ediv s G
  have q0:0≤s / G:=Int.ediv_nonneg s0 (by decide)
  have q1:s / G < G:=by
   apply Int.ediv_lt_of_lt_mul (by decide)
   have h1:a*ys[j]≤(G-1)*(G-1):=Int.mul_le_mul (by omega) (by omega) y0.1 (by decide)
   try simp only[G]at *
   omega
  obtain⟨c',out',r1,r2,r3,r4,r5,r6,r7⟩:=ih m (j+1) (s / G) (out.set (i+j) (s % G)) (by omega) (by omega) q0 q1 (dg_set hd _ ⟨d0,d1⟩) (by rw[List.length_set];exact hl) (by rw[List.length_set];exact hb)
  refine⟨c',out',?_,by rw[r2,List.length_set],r3,r4,r5,?_,fun q hq=>?_⟩
  ·rw[bigint_times.l1,bigint_times.r1,decide_eq_true (by omega),brT]
   rw[idxL_nat _ _ hjl,bdS,e1,idxB_nat _ _ hp,bdS,List.getElem?_eq_getElem hp,bdS,e2,e3,e4,←hs,iRem_nn s0 (by decide),bdS,iQuo_nn s0 (by decide) (by omega),bdS,bdS,upE_set _ _ _ hp,bdS,e5]
   exact r1
  ·rw[r6,lv_set G out (i+j) _ hp,List.drop_eq_getElem_cons hjl,lv,←Nat.add_assoc,Int.pow_succ,Int.add_assoc,ring_step _ _ s out[i+j] c a ys[j] _ _ _ dd hs]
  ·rw[r7 q hq,List.getElem?_set_ne (by omega)]
theorem times_l0(lf:Nat)  (xs ys:List Int)(hx:Dg G xs)(hy:Dg G ys)(h3:200000≤lf)(hly:ys.length≤100000): ∀ (k n i:Nat) (out:List Int),i+k=xs.length→k < n→Dg G out→out.length=xs.length+ys.length→out.length≤1000000→(∀ q,i+ys.length≤q→q < out.length→out[q]? = some 0)→
  ∃ out',bigint_times.l0 lf ys xs ((xs.length:Nat):Int) n (i:Nat) out=some ((out',()),())∧out'.length=out.length∧Dg G out'∧lv G out'=lv G out+G ^ i*(lv G (xs.drop i)*lv G ys):=by
 intro k
 induction k with
 | zero =>
  intro n i out hi hn hd hl hb hz
  obtain⟨m,rfl⟩:=Nat.exists_eq_succ_of_ne_zero (show n≠0 by omega)
  refine⟨out,?_,rfl,hd,?_⟩
  ·rw[bigint_times.l0,bigint_times.r0,decide_eq_false (by omega),brF]
  ·rw[List.drop_of_length_le (by omega)];simp[lv]
 | succ k ih =>
  intro n i out hi hn hd hl hb hz
  obtain⟨m,rfl⟩:=Nat.exists_eq_succ_of_ne_zero (show n≠0 by omega)
  have hil:i < xs.length:=by omega
  have x0:=hx.at i hil
  obtain⟨c',out',r1,r2,r3,r4,r5,r6,r7⟩:=times_l1 lf ys xs ((xs.length:Nat):Int) (i:Nat) xs[i] i ys x0 hy ys.length (lf+40) 0 0 out (by omega) (by omega) (by decide) (by decide) hd (by omega) hb
  rw[show((0:Nat):Int)=0 from rfl]at r1
  have hp:i+ys.length < out'.length:=by rw[r2];omega
  have hz':out'[i+ys.length]=0:=by
   have h1:=r7 (i+ys.length) (Nat.le_refl _)
   rw[hz (i+ys.length) (Nat.le_refl _) (by omega),List.getElem?_eq_getElem hp]at h1
   exact Option.some.inj h1
  have e1:i64.wrap (((i:Nat):Int)+((ys.length:Nat):Int))=((i+ys.length:Nat):Int):=by rw[w64 (by omega) (by omega)];omega
  have e5:i64.wrap (((i:Nat):Int)+1)=((i+1:Nat):Int):=by rw[w64 (by omega) (by omega)];omega
  obtain⟨out2,t1,t2,t3,t4⟩:=ih m (i+1) (out'.set (i+ys.length) c') (by omega) (by omega) (dg_set r3 _ ⟨r4,r5⟩) (by rw[List.length_set,r2];exact hl) (by rw[List.length_set,r2];exact hb) (fun q h1 h2=>by
   rw[List.length_set,r2]at h2
   rw[List.getElem?_set_ne (by omega),r7 q (by omega)]
   exact hz q (by omega) h2)
  refine⟨out2,?_,by rw[t2,List.length_set,r2],t3,?_⟩
  ·rw[bigint_times.l0,bigint_times.r0,decide_eq_true (by omega),brT]
   rw[idxL_nat _ _ hil,bdS,r1,bdS,e1,idxB_nat _ _ hp,bdS,upE_set _ _ _ hp,bdS,e5]
   exact t1
  ·rw[t4,lv_set G out' (i+ys.length) _ hp,hz',List.drop_eq_getElem_cons hil,lv]
   simp only[List.drop_zero,Nat.add_zero]at r6
   rw[Int.pow_succ]
   grind
theorem times_val{B:Int}(xs ys:List Int):lv B (List.replicate (xs.length+ys.length) 0)+B ^ 0*(lv B (xs.drop 0)*lv B ys)=lv B xs*lv B ys:=by
 rw[lv_zeros];simp
theorem times_f(lf:Nat)(xs ys:List Int)(hx:Dg G xs)(hy:Dg G ys)(h1:xs.length≤50000)(h2:ys.length≤50000)(h3:200000≤lf):
  ∃ r,bigint_times.f lf xs ys=some (r,())∧Dg G r∧Tr r∧r.length≤xs.length+ys.length∧lv G r=lv G xs*lv G ys:=by
 have e0:i64.wrap (((xs.length:Nat):Int)+((ys.length:Nat):Int))=((xs.length+ys.length:Nat):Int):=by rw[w64 (by omega) (by omega)];omega
 obtain⟨out,r1,r2,r3,r4⟩:=times_l0 lf xs ys hx hy h3 (by omega) xs.length (lf+40) 0 (List.replicate (xs.length+ys.length) 0) (by omega) (by omega) (Dg.zeros (by decide) _) (by simp) (by simp;omega) (fun q _ h=>by rw[List.length_replicate]at h;rw[List.getElem?_replicate,if_pos h])
 rw[List.length_replicate]at r2
 rw[times_val]at r4
 rw[bigint_times.f,e0,mkL_nat _ _ _ (xs.length+ys.length) rfl rfl (by omega),bdS]
 rw[show((0:Nat):Int)=0 from rfl]at r1
 rw[r1,bdS,trim_f lf out (by omega) (by omega),bdS]
 exact⟨_,rfl,dg_tr r3,tr_tr _,by have:=tr_len out;show(tr out).length≤_;omega,by rw[lv_tr];exact r4⟩
end Go.N
namespace Go.N
open Go.IntKind (i64)
open Go Go.Q Go.Rx
theorem lv_split(B:Int)(l:List Int)(k:Nat)(h:k≤l.length):lv B l=lv B (l.take k)+B ^ k*lv B (l.drop k):=by
 have:=lv_app B (l.take k) (l.drop k)
 rw[List.take_append_drop,List.length_take,Nat.min_eq_left h]at this
 exact this
theorem lv_dropc(B:Int)(l:List Int)(k:Nat)(h:k < l.length):lv B (l.drop k)=l[k]+B*lv B (l.drop (k+1)):=by
 rw[List.drop_eq_getElem_cons h,lv]
theorem lv_takes(B:Int)(l:List Int)(k:Nat)(h:k < l.length):lv B (l.take (k+1))=lv B (l.take k)+B ^ k*l[k]:=by
 rw[←List.take_append_getElem h,lv_app,List.length_take,Nat.min_eq_left (by omega)];simp[lv]
theorem short_ring(P B d o x r v r1 A T:Int)(h:r1+d*v=r*B+x):d*(A+P*(v-0))+(P*r1+T)=d*A+(P*B*r+(T+P*x)):=by grind
theorem short_l0(lf:Nat)(xs:List Int)(d:Int)(hd0:0 < d)(hd1:d < G)(hx:Dg G xs)(hb:xs.length≤1000000):∀ (k n:Nat) (out:List Int) (r:Int),k≤xs.length→k < n→out.length=xs.length→0≤r→r < d→Dg G out→(∀ q,q < k→out[q]? = some 0)→
  ∃ out' r',bigint_short.l0 lf d xs n ((k:Nat)-1:Int) out r=some ((out',r',()),())∧out'.length=out.length∧Dg G out'∧0≤r'∧r' < d∧d*lv G out'+r'=d*lv G out+(G ^ k*r+lv G (xs.take k)):=by
 intro k
 induction k with
 | zero =>
  intro n out r hk hn ho r0 r1 hdo hz
  obtain⟨m,rfl⟩:=Nat.exists_eq_succ_of_ne_zero (show n≠0 by omega)
  refine⟨out,r,?_,rfl,hdo,r0,r1,by simp[lv]⟩
  rw[bigint_short.l0,bigint_short.r0,decide_eq_false (by omega),brF]
 | succ k ih =>
  intro n out r hk hn ho r0 r1 hdo hz
  obtain⟨m,rfl⟩:=Nat.exists_eq_succ_of_ne_zero (show n≠0 by omega)
  have hkl:k < xs.length:=by omega
  have x0:=hx.at k hkl
  have o0:out[k]'(by omega)=0:=by
   have h1:=hz k (by omega)
   rw[List.getElem?_eq_getElem (by omega)]at h1
   exact Option.some.inj h1
  simp only[G]at x0 hd1
  have e0:((k+1:Nat):Int)-1=((k:Nat):Int):=by omega
  have e1:i64.wrap (r*1000000000)=r*1000000000:=w64 (by omega) (by omega)
  obtain⟨s,hs⟩:∃ s,s=r*1000000000+xs[k]:=⟨_,rfl⟩
  have e2:i64.wrap s=s:=w64 (by omega) (by omega)
  have e3:i64.wrap (((k:Nat):Int)-1)=((k:Nat):Int)-1:=w64 (by omega) (by omega)
  have s0:0≤s:=by omega
  have d0:=Int.emod_nonneg s (show d≠0 by omega)
  have d1:=Int.emod_lt_of_pos s hd0
  have dd:=Int.emod_add_mul_ediv s d
  have q0:0≤s / d:=Int.ediv_nonneg s0 (by omega)
  have q1:s / d < G:=by
   apply Int.ediv_lt_of_lt_mul hd0
   simp only[G]
   omega
  obtain⟨out',r',t1,t2,t3,t4,t5,t6⟩:=ih m (out.set k (s / d)) (s % d) (by omega) (by omega) (by rw[List.length_set];exact ho) d0 d1 (dg_set hdo _ ⟨q0,q1⟩) (fun q hq=>by
   rw[List.getElem?_set_ne (by omega)];exact hz q (by omega))
  refine⟨out',r',?_,by rw[t2,List.length_set],t3,t4,t5,?_⟩
  ·rw[bigint_short.l0,bigint_short.r0,e0,decide_eq_true (by omega),brT,idxL_nat _ _ hkl,bdS,e1,←hs,e2,iQuo_nn s0 hd0 (by omega),bdS,iRem_nn s0 (by omega),bdS,idxB_nat _ _ (by omega),bdS,upE_set _ _ _ (by omega),bdS,e3]
   exact t1
  ·rw[t6,lv_set G out k _ (by omega),o0,lv_takes G xs k hkl,Int.pow_succ]
   exact short_ring _ _ _ 0 _ _ _ _ _ _ (by rw[dd,hs])
theorem short_f(lf:Nat)(xs:List Int)(d:Int)(hd0:0 < d)(hd1:d < G)(hx:Dg G xs)(hb:xs.length≤100000)(h3:200000≤lf):
  ∃ q r,bigint_short.f lf xs d=some (q,r,())∧Dg G q∧Tr q∧q.length≤xs.length∧0≤r∧r < d∧lv G xs=d*lv G q+r:=by
 obtain⟨out,r,t1,t2,t3,t4,t5,t6⟩:=short_l0 lf xs d hd0 hd1 hx (by omega) xs.length (lf+40) (List.replicate xs.length 0) 0 (Nat.le_refl _) (by omega) (by simp) (by omega) hd0 (Dg.zeros (by decide) _) (fun q hq=>by rw[List.getElem?_replicate,if_pos hq])
 rw[List.length_replicate]at t2
 refine⟨tr out,r,?_,dg_tr t3,tr_tr _,by have:=tr_len out;omega,t4,t5,?_⟩
 ·rw[bigint_short.f,mkL_nat _ _ _ xs.length rfl rfl (by omega),bdS,w64 (by omega) (by omega),t1,bdS,trim_f lf out (by omega) (by omega),bdS]
 ·rw[lv_tr,t6,lv_zeros,List.take_of_length_le (Nat.le_refl _)];simp
theorem dA_l1(lf:Nat)(v3:List Int)(v4 v5:Int)(a:Int)(i:Nat)(ys:List Int)(ha:0≤a∧a < G)(hy:Dg G ys):∀ (k n j:Nat) (c:Int) (out:List Int),j+k=ys.length→k < n→0≤c→c < G→Dg G out→i+ys.length≤out.length→out.length≤1000000→
  ∃ c' out',bigint_divide.l1 lf (i:Nat) a v3 v4 v5 ((ys.length:Nat):Int) ys n c (j:Nat) out=some ((c',out',()),())∧out'.length=out.length∧Dg G out'∧0≤c'∧c' < G∧lv G out'+G ^ (i+ys.length)*c'=lv G out+G ^ (i+j)*(c+a*lv G (ys.drop j))∧∀ q,i+ys.length≤q→out'[q]? = out[q]? := by
 intro k
 induction k with
 | zero =>
  intro n j c out hj hn c0 c1 hd hl hb
  obtain⟨m,rfl⟩:=Nat.exists_eq_succ_of_ne_zero (show n≠0 by omega)
  refine⟨c,out,?_,rfl,hd,c0,c1,?_,fun q _=>rfl⟩
  ·rw[bigint_divide.l1,bigint_divide.r1,decide_eq_false (by omega),brF]
  ·rw[List.drop_of_length_le (by omega),show j=ys.length by omega];simp[lv]
 | succ k ih =>
  intro n j c out hj hn c0 c1 hd hl hb
  obtain⟨m,rfl⟩:=Nat.exists_eq_succ_of_ne_zero (show n≠0 by omega)
  have hjl:j < ys.length:=by omega
  have hp:i+j < out.length:=by omega
  have y0:=hy.at j hjl
  have o0:=hd.at (i+j) hp
  have hm:=mul_bd ha.1 (show a < G by omega) y0.1 (show ys[j] < G by omega)
  have hc9:c < G:=by omega
  have ho9:out[i+j] < G:=by omega
  have c0':=c0
  simp only[G]at hc9 ho9
  have e1:i64.wrap (((i:Nat):Int)+((j:Nat):Int))=((i+j:Nat):Int):=by rw[w64 (by omega) (by omega)];omega
  have e2:i64.wrap (a*ys[j])=a*ys[j]:=w64 (by omega) (by omega)
  have e3:i64.wrap (out[i+j]+a*ys[j])=out[i+j]+a*ys[j]:=w64 (by omega) (by omega)
  have e4:i64.wrap (c+(out[i+j]+a*ys[j]))=c+(out[i+j]+a*ys[j]):=w64 (by omega) (by omega)
  have e5:i64.wrap (((j:Nat):Int)+1)=((j+1:Nat):Int):=by rw[w64 (by omega) (by omega)];omega
  obtain⟨s,hs⟩:∃ s,s=c+(out[i+j]+a*ys[j]):=⟨_,rfl⟩
  have s0:0≤s:=by omega
  have d0:=Int.emod_nonneg s (show G≠0 by decide)
  have d1:=Int.emod_lt_of_pos s (show 0 < G by decide)
  have dd:=Int.emod_add_mul_ediv s G
  have q0:0≤s / G:=Int.ediv_nonneg s0 (by decide)
  have q1:s / G < G:=by
   apply Int.ediv_lt_of_lt_mul (by decide)
   have h1:a*ys[j]≤(G-1)*(G-1):=Int.mul_le_mul (by omega) (by omega) y0.1 (by decide)
   try simp only[G]at *
   omega
  obtain⟨c',out',r1,r2,r3,r4,r5,r6,r7⟩:=ih m (j+1) (s / G) (out.set (i+j) (s % G)) (by omega) (by omega) q0 q1 (dg_set hd _ ⟨d0,d1⟩) (by rw[List.length_set];exact hl) (by rw[List.length_set];exact hb)
  refine⟨c',out',?_,by rw[r2,List.length_set],r3,r4,r5,?_,fun q hq=>?_⟩
  ·rw[bigint_divide.l1,bigint_divide.r1,decide_eq_true (by omega),brT]
   rw[idxB_nat _ _ hjl,bdS,List.getElem?_eq_getElem hjl,bdS,e1,idxB_nat _ _ hp,bdS,List.getElem?_eq_getElem hp,bdS,e2,e3,e4,←hs,iRem_nn s0 (by decide),bdS,iQuo_nn s0 (by decide) (by omega),bdS,bdS,upE_set _ _ _ hp,bdS,e5]
   exact r1
  ·rw[r6,lv_set G out (i+j) _ hp,List.drop_eq_getElem_cons hjl,lv,←Nat.add_assoc,Int.pow_succ,Int.add_assoc,ring_step _ _ s out[i+j] c a ys[j] _ _ _ dd hs]
  ·rw[r7 q hq,List.getElem?_set_ne (by omega)]
theorem dA_l0(lf:Nat)  (xs ys:List Int)(hx:Dg G xs)(hy:Dg G ys)(h3:200000≤lf)(hly:ys.length≤100000): ∀ (k n i:Nat) (out:List Int),i+k=xs.length→k < n→Dg G out→out.length=xs.length+ys.length→out.length≤1000000→(∀ q,i+ys.length≤q→q < out.length→out[q]? = some 0)→
  ∃ out',bigint_divide.l0 lf xs ((xs.length:Nat):Int) ys n (i:Nat) out=some ((out',()),())∧out'.length=out.length∧Dg G out'∧lv G out'=lv G out+G ^ i*(lv G (xs.drop i)*lv G ys):=by
 intro k
 induction k with
 | zero =>
  intro n i out hi hn hd hl hb hz
  obtain⟨m,rfl⟩:=Nat.exists_eq_succ_of_ne_zero (show n≠0 by omega)
  refine⟨out,?_,rfl,hd,?_⟩
  ·rw[bigint_divide.l0,bigint_divide.r0,decide_eq_false (by omega),brF]
  ·rw[List.drop_of_length_le (by omega)];simp[lv]
 | succ k ih =>
  intro n i out hi hn hd hl hb hz
  obtain⟨m,rfl⟩:=Nat.exists_eq_succ_of_ne_zero (show n≠0 by omega)
  have hil:i < xs.length:=by omega
  have x0:=hx.at i hil
  obtain⟨c',out',r1,r2,r3,r4,r5,r6,r7⟩:=dA_l1 lf xs ((xs.length:Nat):Int) (i:Nat) xs[i] i ys x0 hy ys.length (lf+40) 0 0 out (by omega) (by omega) (by decide) (by decide) hd (by omega) hb
  rw[show((0:Nat):Int)=0 from rfl]at r1
  have hp:i+ys.length < out'.length:=by rw[r2];omega
  have hz':out'[i+ys.length]=0:=by
   have h1:=r7 (i+ys.length) (Nat.le_refl _)
   rw[hz (i+ys.length) (Nat.le_refl _) (by omega),List.getElem?_eq_getElem hp]at h1
   exact Option.some.inj h1
  have e1:i64.wrap (((i:Nat):Int)+((ys.length:Nat):Int))=((i+ys.length:Nat):Int):=by rw[w64 (by omega) (by omega)];omega
  have e5:i64.wrap (((i:Nat):Int)+1)=((i+1:Nat):Int):=by rw[w64 (by omega) (by omega)];omega
  obtain⟨out2,t1,t2,t3,t4⟩:=ih m (i+1) (out'.set (i+ys.length) c') (by omega) (by omega) (dg_set r3 _ ⟨r4,r5⟩) (by rw[List.length_set,r2];exact hl) (by rw[List.length_set,r2];exact hb) (fun q h1 h2=>by
   rw[List.length_set,r2]at h2
   rw[List.getElem?_set_ne (by omega),r7 q (by omega)]
   exact hz q (by omega) h2)
  refine⟨out2,?_,by rw[t2,List.length_set,r2],t3,?_⟩
  ·rw[bigint_divide.l0,bigint_divide.r0,decide_eq_true (by omega),brT]
   rw[idxL_nat _ _ hil,bdS,r1,bdS,e1,idxB_nat _ _ hp,bdS,upE_set _ _ _ hp,bdS,e5]
   exact t1
  ·rw[t4,lv_set G out' (i+ys.length) _ hp,hz',List.drop_eq_getElem_cons hil,lv]
   simp only[List.drop_zero,Nat.add_zero]at r6
   rw[Int.pow_succ]
   grind
theorem dB_l1(lf:Nat)(v3:List Int)(v4 v5:Int)(v9 v10:List Int)(a:Int)(i:Nat)(ys:List Int)(ha:0≤a∧a < G)(hy:Dg G ys):∀ (k n j:Nat) (c:Int) (out:List Int),j+k=ys.length→k < n→0≤c→c < G→Dg G out→i+ys.length≤out.length→out.length≤1000000→
  ∃ c' out',bigint_divide.l5 lf (i:Nat) a v3 v4 v5 ((ys.length:Nat):Int) ys v9 v10 n c (j:Nat) out=some ((c',out',()),())∧out'.length=out.length∧Dg G out'∧0≤c'∧c' < G∧lv G out'+G ^ (i+ys.length)*c'=lv G out+G ^ (i+j)*(c+a*lv G (ys.drop j))∧∀ q,i+ys.length≤q→out'[q]? = out[q]? := by
 intro k
 induction k with
 | zero =>
  intro n j c out hj hn c0 c1 hd hl hb
  obtain⟨m,rfl⟩:=Nat.exists_eq_succ_of_ne_zero (show n≠0 by omega)
  refine⟨c,out,?_,rfl,hd,c0,c1,?_,fun q _=>rfl⟩
  ·rw[bigint_divide.l5,bigint_divide.r5,decide_eq_false (by omega),brF]
  ·rw[List.drop_of_length_le (by omega),show j=ys.length by omega];simp[lv]
 | succ k ih =>
  intro n j c out hj hn c0 c1 hd hl hb
  obtain⟨m,rfl⟩:=Nat.exists_eq_succ_of_ne_zero (show n≠0 by omega)
  have hjl:j < ys.length:=by omega
  have hp:i+j < out.length:=by omega
  have y0:=hy.at j hjl
  have o0:=hd.at (i+j) hp
  have hm:=mul_bd ha.1 (show a < G by omega) y0.1 (show ys[j] < G by omega)
  have hc9:c < G:=by omega
  have ho9:out[i+j] < G:=by omega
  have c0':=c0
  simp only[G]at hc9 ho9
  have e1:i64.wrap (((i:Nat):Int)+((j:Nat):Int))=((i+j:Nat):Int):=by rw[w64 (by omega) (by omega)];omega
  have e2:i64.wrap (a*ys[j])=a*ys[j]:=w64 (by omega) (by omega)
  have e3:i64.wrap (out[i+j]+a*ys[j])=out[i+j]+a*ys[j]:=w64 (by omega) (by omega)
  have e4:i64.wrap (c+(out[i+j]+a*ys[j]))=c+(out[i+j]+a*ys[j]):=w64 (by omega) (by omega)
  have e5:i64.wrap (((j:Nat):Int)+1)=((j+1:Nat):Int):=by rw[w64 (by omega) (by omega)];omega
  obtain⟨s,hs⟩:∃ s,s=c+(out[i+j]+a*ys[j]):=⟨_,rfl⟩
  have s0:0≤s:=by omega
  have d0:=Int.emod_nonneg s (show G≠0 by decide)
  have d1:=Int.emod_lt_of_pos s (show 0 < G by decide)
  have dd:=Int.emod_add_mul_ediv s G
  have q0:0≤s / G:=Int.ediv_nonneg s0 (by decide)
  have q1:s / G < G:=by
   apply Int.ediv_lt_of_lt_mul (by decide)
   have h1:a*ys[j]≤(G-1)*(G-1):=Int.mul_le_mul (by omega) (by omega) y0.1 (by decide)
   try simp only[G]at *
   omega
  obtain⟨c',out',r1,r2,r3,r4,r5,r6,r7⟩:=ih m (j+1) (s / G) (out.set (i+j) (s % G)) (by omega) (by omega) q0 q1 (dg_set hd _ ⟨d0,d1⟩) (by rw[List.length_set];exact hl) (by rw[List.length_set];exact hb)
  refine⟨c',out',?_,by rw[r2,List.length_set],r3,r4,r5,?_,fun q hq=>?_⟩
  ·rw[bigint_divide.l5,bigint_divide.r5,decide_eq_true (by omega),brT]
   rw[idxB_nat _ _ hjl,bdS,List.getElem?_eq_getElem hjl,bdS,e1,idxB_nat _ _ hp,bdS,List.getElem?_eq_getElem hp,bdS,e2,e3,e4,←hs,iRem_nn s0 (by decide),bdS,iQuo_nn s0 (by decide) (by omega),bdS,bdS,upE_set _ _ _ hp,bdS,e5]
   exact r1
  ·rw[r6,lv_set G out (i+j) _ hp,List.drop_eq_getElem_cons hjl,lv,←Nat.add_assoc,Int.pow_succ,Int.add_assoc,ring_step _ _ s out[i+j] c a ys[j] _ _ _ dd hs]
  ·rw[r7 q hq,List.getElem?_set_ne (by omega)]
theorem dB_l0(lf:Nat)(v4 v5:List Int)  (xs ys:List Int)(hx:Dg G xs)(hy:Dg G ys)(h3:200000≤lf)(hly:ys.length≤100000): ∀ (k n i:Nat) (out:List Int),i+k=xs.length→k < n→Dg G out→out.length=xs.length+ys.length→out.length≤1000000→(∀ q,i+ys.length≤q→q < out.length→out[q]? = some 0)→
  ∃ out',bigint_divide.l4 lf xs ((xs.length:Nat):Int) ys v4 v5 n (i:Nat) out=some ((out',()),())∧out'.length=out.length∧Dg G out'∧lv G out'=lv G out+G ^ i*(lv G (xs.drop i)*lv G ys):=by
 intro k
 induction k with
 | zero =>
  intro n i out hi hn hd hl hb hz
  obtain⟨m,rfl⟩:=Nat.exists_eq_succ_of_ne_zero (show n≠0 by omega)
  refine⟨out,?_,rfl,hd,?_⟩
  ·rw[bigint_divide.l4,bigint_divide.r4,decide_eq_false (by omega),brF]
  ·rw[List.drop_of_length_le (by omega)];simp[lv]
 | succ k ih =>
  intro n i out hi hn hd hl hb hz
  obtain⟨m,rfl⟩:=Nat.exists_eq_succ_of_ne_zero (show n≠0 by omega)
  have hil:i < xs.length:=by omega
  have x0:=hx.at i hil
  obtain⟨c',out',r1,r2,r3,r4,r5,r6,r7⟩:=dB_l1 lf xs ((xs.length:Nat):Int) (i:Nat) v4 v5 xs[i] i ys x0 hy ys.length (lf+40) 0 0 out (by omega) (by omega) (by decide) (by decide) hd (by omega) hb
  rw[show((0:Nat):Int)=0 from rfl]at r1
  have hp:i+ys.length < out'.length:=by rw[r2];omega
  have hz':out'[i+ys.length]=0:=by
   have h1:=r7 (i+ys.length) (Nat.le_refl _)
   rw[hz (i+ys.length) (Nat.le_refl _) (by omega),List.getElem?_eq_getElem hp]at h1
   exact Option.some.inj h1
  have e1:i64.wrap (((i:Nat):Int)+((ys.length:Nat):Int))=((i+ys.length:Nat):Int):=by rw[w64 (by omega) (by omega)];omega
  have e5:i64.wrap (((i:Nat):Int)+1)=((i+1:Nat):Int):=by rw[w64 (by omega) (by omega)];omega
  obtain⟨out2,t1,t2,t3,t4⟩:=ih m (i+1) (out'.set (i+ys.length) c') (by omega) (by omega) (dg_set r3 _ ⟨r4,r5⟩) (by rw[List.length_set,r2];exact hl) (by rw[List.length_set,r2];exact hb) (fun q h1 h2=>by
   rw[List.length_set,r2]at h2
   rw[List.getElem?_set_ne (by omega),r7 q (by omega)]
   exact hz q (by omega) h2)
  refine⟨out2,?_,by rw[t2,List.length_set,r2],t3,?_⟩
  ·rw[bigint_divide.l4,bigint_divide.r4,decide_eq_true (by omega),brT]
   rw[idxL_nat _ _ hil,bdS,r1,bdS,e1,idxB_nat _ _ hp,bdS,upE_set _ _ _ hp,bdS,e5]
   exact t1
  ·rw[t4,lv_set G out' (i+ys.length) _ hp,hz',List.drop_eq_getElem_cons hil,lv]
   simp only[List.drop_zero,Nat.add_zero]at r6
   rw[Int.pow_succ]
   grind
theorem tr_take(l:List Int):l.take (tr l).length=tr l:=by
 refine tr_ind (p:=fun l=>l.take (tr l).length=tr l) l rfl (fun l h=>?_) fun l x h=>?_
 ·rw[tr_snoc0,List.take_append_of_le_length (tr_len l),h]
 ·rw[tr_snoc _ _ h,List.take_length]
theorem cutB_to(n:Nat)(h:Int)(k:Nat)(e:h=k)(hk:k≤n):cutB n none (some h)=some (0,k):=by
 subst e
 unfold cutB Rx.bnd
 simp only[Int.toNat_natCast]
 rw[if_pos ⟨by omega,by omega⟩]
 simp
theorem cutB_mid(n:Nat)(i j:Int)(a b:Nat)(ei:i=a)(ej:j=b)(h1:a≤b)(h2:b≤n):cutB n (some i) (some j)=some (a,b-a):=by
 subst ei;subst ej
 unfold cutB Rx.bnd
 simp only[Int.toNat_natCast]
 rw[if_pos ⟨by omega,by omega⟩]
 simp only[Option.bind_some]
 rw[if_pos ⟨by omega,by omega⟩]
 simp
theorem l3_ok(lf:Nat)(v1:List Int)(l:List Int)(hb:l.length≤1000000):∀ (k n:Nat),k≤l.length→k < n→bigint_divide.l3 lf v1 l n k=some (((tr (l.take k)).length,v1,l,()),()):=by
 intro k
 induction k with
 | zero =>
  intro n hk hn
  obtain⟨m,rfl⟩:=Nat.exists_eq_succ_of_ne_zero (show n≠0 by omega)
  rw[bigint_divide.l3,bigint_divide.r3,decide_eq_false (by omega),brF]
  simp[tr_nil]
 | succ k ih =>
  intro n hk hn
  obtain⟨m,rfl⟩:=Nat.exists_eq_succ_of_ne_zero (show n≠0 by omega)
  have hkl:k < l.length:=by omega
  have e:i64.wrap (((k+1:Nat):Int)-1)=((k:Nat):Int):=by rw[w64 (by omega) (by omega)];omega
  rw[bigint_divide.l3,bigint_divide.r3,decide_eq_true (by omega),brT,e,idxB_nat _ _ (by omega),bdS,Nat.zero_add,List.getElem?_eq_getElem hkl,bdS,←List.take_append_getElem hkl]
  by_cases h:l[k]=0
  ·rw[beq_iff_eq.2 h,brT,cutB_to _ _ k rfl (by omega),bdS,h,tr_snoc0]
   exact ih m (by omega) (by omega)
  ·rw[beq_eq_false_iff_ne.2 h,brF,tr_snoc _ _ h,List.take_append_getElem hkl,List.length_take,Nat.min_eq_left (by omega)]
theorem l2_ok(lf:Nat)(v1:List Int)(l:List Int)(hb:l.length≤1000000)(n:Nat)(hn:l.length+1 < n):
  (l.getLast?≠some 0∧bigint_divide.l2 lf v1 l n=some (true,(v1,l,()),((0,[],[],()),())))∨
  (l.getLast? = some 0∧bigint_divide.l2 lf v1 l n=some (false,([],[],()),(((tr l).length,v1,l,()),()))):=by
 obtain⟨m,rfl⟩:=Nat.exists_eq_succ_of_ne_zero (show n≠0 by omega)
 rw[bigint_divide.l2,bigint_divide.r2]
 by_cases h0:l=[]
 ·subst h0
  left
  refine⟨by simp,?_⟩
  rw[decide_eq_false (by simp),brF]
 have hl:0 < l.length:=List.length_pos_iff.2 h0
 have e:i64.wrap (((l.length:Nat):Int)-1)=((l.length-1:Nat):Int):=by rw[w64 (by omega) (by omega)];omega
 rw[decide_eq_true (by omega),brT,e,idxB_nat _ _ (by omega),bdS,List.getElem?_eq_getElem (by omega),bdS,List.getLast?_eq_getElem?,List.getElem?_eq_getElem (by omega)]
 by_cases h:l[l.length-1]'(by omega)=0
 ·right
  refine⟨by rw[h],?_⟩
  rw[beq_iff_eq.2 h,brT,cutB_to _ _ (l.length-1) rfl (by omega),bdS,l3_ok lf v1 l hb (l.length-1) m (by omega) (by omega),bdS]
  have:tr l=tr (l.take (l.length-1)):=by
   conv=>lhs;rw[←List.take_append_drop (l.length-1) l,List.drop_eq_getElem_cons (by omega),h,List.drop_of_length_le (by omega)]
   rw[tr_snoc0]
  rw[this]
 ·left
  refine⟨by intro x;exact h (Option.some.inj x),?_⟩
  rw[beq_eq_false_iff_ne.2 h,brF]
theorem l7_ok(lf:Nat)(v1 v2 v3:List Int)(l:List Int)(hb:l.length≤1000000):∀ (k n:Nat),k≤l.length→k < n→bigint_divide.l7 lf v1 v2 v3 l n k=some (((tr (l.take k)).length,v1,v2,v3,l,()),()):=by
 intro k
 induction k with
 | zero =>
  intro n hk hn
  obtain⟨m,rfl⟩:=Nat.exists_eq_succ_of_ne_zero (show n≠0 by omega)
  rw[bigint_divide.l7,bigint_divide.r7,decide_eq_false (by omega),brF]
  simp[tr_nil]
 | succ k ih =>
  intro n hk hn
  obtain⟨m,rfl⟩:=Nat.exists_eq_succ_of_ne_zero (show n≠0 by omega)
  have hkl:k < l.length:=by omega
  have e:i64.wrap (((k+1:Nat):Int)-1)=((k:Nat):Int):=by rw[w64 (by omega) (by omega)];omega
  rw[bigint_divide.l7,bigint_divide.r7,decide_eq_true (by omega),brT,e,idxB_nat _ _ (by omega),bdS,Nat.zero_add,List.getElem?_eq_getElem hkl,bdS,←List.take_append_getElem hkl]
  by_cases h:l[k]=0
  ·rw[beq_iff_eq.2 h,brT,cutB_to _ _ k rfl (by omega),bdS,h,tr_snoc0]
   exact ih m (by omega) (by omega)
  ·rw[beq_eq_false_iff_ne.2 h,brF,tr_snoc _ _ h,List.take_append_getElem hkl,List.length_take,Nat.min_eq_left (by omega)]
theorem l6_ok(lf:Nat)(v1 v2 v3:List Int)(l:List Int)(hb:l.length≤1000000)(n:Nat)(hn:l.length+1 < n):
  (l.getLast?≠some 0∧bigint_divide.l6 lf v1 v2 v3 l n=some (true,(v1,v2,v3,l,()),((0,[],[],[],[],()),())))∨
  (l.getLast? = some 0∧bigint_divide.l6 lf v1 v2 v3 l n=some (false,([],[],[],[],()),(((tr l).length,v1,v2,v3,l,()),()))):=by
 obtain⟨m,rfl⟩:=Nat.exists_eq_succ_of_ne_zero (show n≠0 by omega)
 rw[bigint_divide.l6,bigint_divide.r6]
 by_cases h0:l=[]
 ·subst h0
  left
  refine⟨by simp,?_⟩
  rw[decide_eq_false (by simp),brF]
 have hl:0 < l.length:=List.length_pos_iff.2 h0
 have e:i64.wrap (((l.length:Nat):Int)-1)=((l.length-1:Nat):Int):=by rw[w64 (by omega) (by omega)];omega
 rw[decide_eq_true (by omega),brT,e,idxB_nat _ _ (by omega),bdS,List.getElem?_eq_getElem (by omega),bdS,List.getLast?_eq_getElem?,List.getElem?_eq_getElem (by omega)]
 by_cases h:l[l.length-1]'(by omega)=0
 ·right
  refine⟨by rw[h],?_⟩
  rw[beq_iff_eq.2 h,brT,cutB_to _ _ (l.length-1) rfl (by omega),bdS,l7_ok lf v1 v2 v3 l hb (l.length-1) m (by omega) (by omega),bdS]
  have:tr l=tr (l.take (l.length-1)):=by
   conv=>lhs;rw[←List.take_append_drop (l.length-1) l,List.drop_eq_getElem_cons (by omega),h,List.drop_of_length_le (by omega)]
   rw[tr_snoc0]
  rw[this]
 ·left
  refine⟨by intro x;exact h (Option.some.inj x),?_⟩
  rw[beq_eq_false_iff_ne.2 h,brF]
theorem est_over{B P v1 v2 V0 w2 W0 q t:Int}(hP:0 < P)(hV:0≤V0)(hW:W0 < P)(hq:0≤q)(h:q*v2 >(t-q*v1)*B+w2):(t*B+w2)*P+W0 < q*((v1*B+v2)*P+V0):=by
 have h1:t*B+w2+1≤q*(v1*B+v2):=by
  have:q*(v1*B+v2)=q*v2-(t-q*v1)*B+t*B:=by grind
  omega
 have h2:=Int.mul_le_mul_of_nonneg_right h1 (Int.le_of_lt hP)
 have h3:=Int.mul_nonneg hq hV
 have e1:(t*B+w2+1)*P=(t*B+w2)*P+P:=by grind
 have e2:q*((v1*B+v2)*P+V0)=q*(v1*B+v2)*P+q*V0:=by grind
 omega
theorem est_first{B P v1 v2 V0 w2 W0 t:Int}(hB:0 < B)(hP:0 < P)(h1:0 < v1)(h2:0≤v2)(hV:0≤V0)(hW:W0 < P)(hw:w2 < B)(q:Int)(hq:0≤q)(h:t < (q+1)*v1):(t*B+w2)*P+W0 < (q+1)*((v1*B+v2)*P+V0):=by
 refine est_over hP hV hW (by omega) ?_
 have a:(t-(q+1)*v1)*B≤(-1)*B:=Int.mul_le_mul_of_nonneg_right (by omega) (Int.le_of_lt hB)
 have b:0≤(q+1)*v2:=Int.mul_nonneg (by omega) h2
 omega
theorem est_under{B P v1 v2 V0 w2 W0 q t:Int}(hP:0 < P)(hB:0 < B)(hv:1≤v1)(hv2:0≤v2)(hv3:v2 < B)(hV:0≤V0)(hV2:V0 < P)(hW:0≤W0)(hw:0≤w2)(hq:0≤q)(hq2:q < B)(h:t-q*v1≥B∨q*v2≤(t-q*v1)*B+w2):(q-1)*((v1*B+v2)*P+V0)≤(t*B+w2)*P+W0:=by
 have c1:q*V0≤B*P:=Int.mul_le_mul (by omega) (by omega) hV (by omega)
 have c2:B*P≤v1*(B*P):=by
  have:=Int.mul_le_mul_of_nonneg_right hv (Int.le_of_lt (Int.mul_pos hB hP))
  omega
 have c3:0≤v2*P:=Int.mul_nonneg hv2 (Int.le_of_lt hP)
 have key:q*((v1*B+v2)*P)≤(t*B+w2)*P+W0-q*V0+B*P:=by
  rcases h with h | h
  ·have a1:B*(B*P)≤(t-q*v1)*(B*P):=Int.mul_le_mul_of_nonneg_right h (Int.le_of_lt (Int.mul_pos hB hP))
   have a2:0≤w2*P:=Int.mul_nonneg hw (Int.le_of_lt hP)
   have a3:q*(v2*P+V0)≤B*(B*P):=by
    have b1:v2*P≤(B-1)*P:=Int.mul_le_mul_of_nonneg_right (by omega) (Int.le_of_lt hP)
    have b2:(B-1)*P=B*P-P:=by grind
    exact Int.mul_le_mul (by omega) (by omega) (by omega) (by omega)
   have e1:q*((v1*B+v2)*P)=t*(B*P)-(t-q*v1)*(B*P)+q*(v2*P+V0)-q*V0:=by grind
   have e2:(t*B+w2)*P=t*(B*P)+w2*P:=by grind
   have:0 < B*P:=Int.mul_pos hB hP
   omega
  ·have a1:q*(v1*B+v2)≤t*B+w2:=by
    have:q*(v1*B+v2)=q*v2-(t-q*v1)*B+t*B:=by grind
    omega
   have a2:=Int.mul_le_mul_of_nonneg_right a1 (Int.le_of_lt hP)
   have:q*(v1*B+v2)*P=q*((v1*B+v2)*P):=by grind
   omega
 have e1:(q-1)*((v1*B+v2)*P+V0)=q*((v1*B+v2)*P)+q*V0-v1*(B*P)-v2*P-V0:=by grind
 omega
theorem d15_ok(lf t m:Nat)(sc vl u out:List Int)(n:Nat)(hn2:2≤n)(hnb:n≤1000000)(hvl:n≤vl.length)(hm:n+1=m)(hu:t+m≤u.length)(hdv:Dg G vl)(hdu:Dg G u)
  (top v1 v2 w2:Int) (hv1:v1=vl[n-1]'(by omega)) (hv2:v2=vl[n-2]'(by omega)) (hw2:w2=u[t+(n-2)]'(by omega)) (hp:1≤v1) :
  ∀ (k f:Nat) (q r:Int),G-r≤k→k < f→0≤q→q < G→0≤r→r≤3000000000→r=top-q*v1→
  ∃ q',bigint_divide.l15 lf t m n ((n:Nat):Int) sc vl u out f q r=some ((q',()),())∧0≤q'∧q' < G∧q'≤q∧(top-q'*v1≥G∨q'*v2≤(top-q'*v1)*G+w2)∧
   (q'=q∨(q'+1)*v2 >(top-(q'+1)*v1)*G+w2):=by
 have b1:=hdv.at (n-1) (by omega)
 have b2:=hdv.at (n-2) (by omega)
 have b3:=hdu.at (t+(n-2)) (by omega)
 rw[←hv1]at b1
 rw[←hv2]at b2
 rw[←hw2]at b3
 simp only[G]at b1 b2 b3
 have e1:i64.wrap (((n:Nat):Int)-2)=((n-2:Nat):Int):=by rw[w64 (by omega) (by omega)];omega
 have e2:i64.wrap (((n:Nat):Int)-1)=((n-1:Nat):Int):=by rw[w64 (by omega) (by omega)];omega
 have stop:∀ (f:Nat) (q r:Int),0 < f→¬r < 1000000000→bigint_divide.l15 lf t m n ((n:Nat):Int) sc vl u out f q r=some ((q,()),()):=by
  intro f q r hf hr
  obtain⟨g,rfl⟩:=Nat.exists_eq_succ_of_ne_zero (show f≠0 by omega)
  rw[bigint_divide.l15,bigint_divide.r15,decide_eq_false hr,brF]
 intro k
 induction k with
 | zero =>
  intro f q r hk hf q0 q1 r0 r1 hr
  simp only[G]at hk
  exact⟨q,stop f q r (by omega) (by omega),q0,q1,by omega,Or.inl (by rw[←hr];simp only[G];omega),Or.inl rfl⟩
 | succ k ih =>
  intro f q r hk hf q0 q1 r0 r1 hr
  by_cases hlt:r < 1000000000
  ·obtain⟨g,rfl⟩:=Nat.exists_eq_succ_of_ne_zero (show f≠0 by omega)
   have m1:=mul_bd q0 q1 b2.1 b2.2
   have e3:i64.wrap (q*v2)=q*v2:=w64 (by omega) (by omega)
   have e4:i64.wrap (r*1000000000)=r*1000000000:=w64 (by omega) (by omega)
   have e5:i64.wrap (r*1000000000+w2)=r*1000000000+w2:=w64 (by omega) (by omega)
   rw[bigint_divide.l15,bigint_divide.r15,decide_eq_true hlt,brT,e1,idxB_nat _ _ (by omega),bdS,Nat.zero_add,List.getElem?_eq_getElem (by omega),bdS,idxB_nat _ _ (by omega),bdS,List.getElem?_eq_getElem (by omega),bdS,←hv2,←hw2,e3,e4,e5]
   by_cases hc:q*v2 > r*1000000000+w2
   ·have qp:1≤q:=by
     by_cases z:q=0
     ·subst z;omega
     ·omega
    have e6:i64.wrap (q-1)=q-1:=w64 (by simp only[G]at q1;omega) (by simp only[G]at q1;omega)
    have e7:i64.wrap (r+v1)=r+v1:=w64 (by omega) (by omega)
    rw[decide_eq_true hc,brT,e2,idxB_nat _ _ (by omega),bdS,Nat.zero_add,List.getElem?_eq_getElem (by omega),bdS,←hv1,e6,e7]
    obtain⟨q',t1,t2,t3,t4,t5,t6⟩:=ih g (q-1) (r+v1) (by omega) (by omega) (by omega) (by omega) (by omega) (by omega) (by rw[hr];grind)
    refine⟨q',t1,t2,t3,by omega,t5,Or.inr ?_⟩
    rcases t6 with rfl | t6
    ·rw[Int.sub_add_cancel,←hr];exact hc
    ·exact t6
   ·rw[decide_eq_false hc,brF]
    exact⟨q,rfl,q0,q1,by omega,Or.inr (by rw[←hr];simp only[G];omega),Or.inl rfl⟩
  ·exact⟨q,stop f q r (by omega) hlt,q0,q1,by omega,Or.inl (by rw[←hr];simp only[G];omega),Or.inl rfl⟩
theorem sub_ring(P B s c q y D x e c2 L:Int)(h:e=x-s+B*c2)(hs:s=c+q*y):L+P*(e-x)-P*B*(c2+q*D)=L-P*(c+q*(y+B*D)):=by grind
theorem add_ring(P B s c y D x r c2 L:Int)(h:r+B*c2=s)(hs:s=c+x+y):L+P*(r-x)+P*B*(c2+D)=L+P*(c+(y+B*D)):=by grind
theorem dropv(ys:List Int)(i:Nat):lv G (ys.drop i)=ys.getD i 0+G*lv G (ys.drop (i+1)):=by
 rw[lv_headD,headD_drop,tail_drop']
theorem d16_ok(lf t m:Nat)(q:Int)(sc vl out ys:List Int)(hq0:0≤q)(hq1:q < G)(hdy:Dg G ys)(hvy:vl.take ys.length=ys)(hnb:m≤1000000):
  ∀ (k f i:Nat) (c:Int) (u:List Int),i+k=m→k < f→0≤c→c≤G→Dg G u→t+m≤u.length→
  ∃ c' u',bigint_divide.l16 lf t m ys.length q ((m:Nat):Int) sc vl out f c (i:Nat) u=some ((c',u',()),())∧u'.length=u.length∧Dg G u'∧0≤c'∧
   lv G u'-G ^ (t+m)*(c'+q*lv G (ys.drop m))=lv G u-G ^ (t+i)*(c+q*lv G (ys.drop i))∧∀ p,p < t+i∨t+m≤p→u'[p]? = u[p]? := by
 intro k
 induction k with
 | zero =>
  intro f i c u hi hf c0 c1 hd hl
  obtain⟨g,rfl⟩:=Nat.exists_eq_succ_of_ne_zero (show f≠0 by omega)
  obtain rfl:i=m:=by omega
  refine⟨c,u,?_,rfl,hd,c0,rfl,fun p _=>rfl⟩
  rw[bigint_divide.l16,bigint_divide.r16,decide_eq_false (by omega),brF]
 | succ k ih =>
  intro f i c u hi hf c0 c1 hd hl
  obtain⟨g,rfl⟩:=Nat.exists_eq_succ_of_ne_zero (show f≠0 by omega)
  have hp:t+i < u.length:=by omega
  have x0:=hd.at (t+i) hp
  have y0:=hdy.getD (by decide) i
  have m1:=mul_bd hq0 hq1 y0.1 y0.2
  simp only[G]at x0 c1
  have e5:i64.wrap (((i:Nat):Int)+1)=((i+1:Nat):Int):=by rw[w64 (by omega) (by omega)];omega
  have go:∀ (s e c2:Int),s=c+q*ys.getD i 0→e=u[t+i]-s+G*c2→0≤e→e < G→0≤c2→c2≤G→
    ∃ c' u',(bd (some i) fun j=>bd (upE u (t+j) fun _=>some e) fun l=>bigint_divide.l16 lf t m ys.length q ((m:Nat):Int) sc vl out g c2 (i64.wrap (((i:Nat):Int)+1)) l)=some ((c',u',()),())∧u'.length=u.length∧Dg G u'∧0≤c'∧
   lv G u'-G ^ (t+m)*(c'+q*lv G (ys.drop m))=lv G u-G ^ (t+i)*(c+q*lv G (ys.drop i))∧∀ p,p < t+i∨t+m≤p→u'[p]? = u[p]? := by
   intro s e c2 hs he g0 g1 g2 g3
   obtain⟨c',u',t1,t2,t3,t4,t5,t6⟩:=ih g (i+1) c2 (u.set (t+i) e) (by omega) (by omega) g2 g3 (dg_set hd _ ⟨g0,g1⟩) (by rw[List.length_set];exact hl)
   refine⟨c',u',?_,by rw[t2,List.length_set],t3,t4,?_,fun p hp'=>?_⟩
   ·rw[bdS,upE_set _ _ _ hp,bdS,e5]
    exact t1
   ·rw[t5,lv_set G u (t+i) _ hp,dropv ys i,←Nat.add_assoc,Int.pow_succ]
    exact sub_ring _ _ s _ _ _ _ _ _ _ _ he hs
   ·rw[t6 p (by omega),List.getElem?_set_ne (by omega)]
  have fin:∀ s:Int,s=c+q*ys.getD i 0→
    ∃ c' u',(bd (iRem s 1000000000) fun r=>bd (iQuo .i64 s 1000000000) fun r2=>br (decide ((i64.wrap (u[t+i]-r)) < 0)) (
     bd (some i) fun j=>bd (upE u (t+j) fun _=>some (i64.wrap ((i64.wrap (u[t+i]-r))+1000000000))) fun l=>bigint_divide.l16 lf t m ys.length q ((m:Nat):Int) sc vl out g (i64.wrap (r2+1)) (i64.wrap (((i:Nat):Int)+1)) l) (
     bd (some i) fun j=>bd (upE u (t+j) fun _=>some (i64.wrap (u[t+i]-r))) fun l=>bigint_divide.l16 lf t m ys.length q ((m:Nat):Int) sc vl out g r2 (i64.wrap (((i:Nat):Int)+1)) l))=some ((c',u',()),())∧u'.length=u.length∧Dg G u'∧0≤c'∧
   lv G u'-G ^ (t+m)*(c'+q*lv G (ys.drop m))=lv G u-G ^ (t+i)*(c+q*lv G (ys.drop i))∧∀ p,p < t+i∨t+m≤p→u'[p]? = u[p]? := by
   intro s hs
   have s0:0≤s:=by omega
   have d0:=Int.emod_nonneg s (show(1000000000:Int)≠0 by decide)
   have d1:=Int.emod_lt_of_pos s (show(0:Int) < 1000000000 by decide)
   have dd:=Int.emod_add_mul_ediv s 1000000000
   have q0:0≤s / 1000000000:=Int.ediv_nonneg s0 (by decide)
   have q1:s / 1000000000 < 1000000000:=Int.ediv_lt_of_lt_mul (by decide) (by omega)
   have e6:i64.wrap (u[t+i]-s % 1000000000)=u[t+i]-s % 1000000000:=w64 (by omega) (by omega)
   rw[iRem_nn s0 (by decide),bdS,iQuo_nn s0 (by decide) (by omega),bdS,e6]
   by_cases hneg:u[t+i]-s % 1000000000 < 0
   ·have e7:i64.wrap (u[t+i]-s % 1000000000+1000000000)=u[t+i]-s % 1000000000+1000000000:=w64 (by omega) (by omega)
    have e8:i64.wrap (s / 1000000000+1)=s / 1000000000+1:=w64 (by omega) (by omega)
    rw[decide_eq_true hneg,brT,e7,e8]
    exact go s _ _ hs (by simp only[G];omega) (by omega) (by simp only[G];omega) (by omega) (by simp only[G];omega)
   ·rw[decide_eq_false hneg,brF]
    exact go s _ _ hs (by simp only[G];omega) (by omega) (by simp only[G];omega) (by omega) (by simp only[G];omega)
  rw[bigint_divide.l16,bigint_divide.r16,decide_eq_true (by omega),brT]
  by_cases hiy:i < ys.length
  ·have ev:vl[i]? = some (ys.getD i 0):=by
    rw[getD_lt _ _ hiy,←List.getElem?_eq_getElem hiy]
    conv=>rhs;rw[←hvy]
    rw[List.getElem?_take_of_lt hiy]
   have e2:i64.wrap (q*ys.getD i 0)=q*ys.getD i 0:=w64 (by omega) (by omega)
   have e3:i64.wrap (c+q*ys.getD i 0)=c+q*ys.getD i 0:=w64 (by omega) (by omega)
   rw[decide_eq_true (by omega),brT,idxB_nat _ _ hiy,bdS,Nat.zero_add,ev,bdS,idxB_nat _ _ (by omega),bdS,List.getElem?_eq_getElem hp,bdS,e2,e3]
   exact fin _ rfl
  ·rw[decide_eq_false (by omega),brF,idxB_nat _ _ (by omega),bdS,List.getElem?_eq_getElem hp,bdS]
   exact fin c (by rw[getD_ge _ _ hiy];omega)
theorem d17_ok(lf t m:Nat)(q:Int)(sc vl out ys:List Int)(hdy:Dg G ys)(hvy:vl.take ys.length=ys)(hnb:m≤1000000)(hyb:ys.length≤1000000):
  ∀ (k f i:Nat) (c:Int) (u:List Int),i+k=m→k < f→0≤c→c≤1→Dg G u→t+m≤u.length→
  ∃ c' u',bigint_divide.l17 lf t m ys.length ((ys.length:Nat):Int) q ((m:Nat):Int) sc vl out f c (i:Nat) u=some ((u',()),())∧u'.length=u.length∧Dg G u'∧0≤c'∧
   lv G u'+G ^ (t+m)*(c'+lv G (ys.drop m))=lv G u+G ^ (t+i)*(c+lv G (ys.drop i))∧∀ p,p < t+i∨t+m≤p→u'[p]? = u[p]? := by
 intro k
 induction k with
 | zero =>
  intro f i c u hi hf c0 c1 hd hl
  obtain⟨g,rfl⟩:=Nat.exists_eq_succ_of_ne_zero (show f≠0 by omega)
  obtain rfl:i=m:=by omega
  refine⟨c,u,?_,rfl,hd,c0,rfl,fun p _=>rfl⟩
  rw[bigint_divide.l17,bigint_divide.r17,decide_eq_false (by omega),brF]
 | succ k ih =>
  intro f i c u hi hf c0 c1 hd hl
  obtain⟨g,rfl⟩:=Nat.exists_eq_succ_of_ne_zero (show f≠0 by omega)
  have hp:t+i < u.length:=by omega
  have x0:=hd.at (t+i) hp
  have y0:=hdy.getD (by decide) i
  simp only[G]at x0 y0
  have e5:i64.wrap (((i:Nat):Int)+1)=((i+1:Nat):Int):=by rw[w64 (by omega) (by omega)];omega
  have fin:∀ s:Int,s=c+u[t+i]+ys.getD i 0→
    ∃ c' u',(bd (iRem s 1000000000) fun r=>bd (iQuo .i64 s 1000000000) fun r2 =>
     bd (some i) fun j=>bd (upE u (t+j) fun _=>some r) fun l=>bigint_divide.l17 lf t m ys.length ((ys.length:Nat):Int) q ((m:Nat):Int) sc vl out g r2 (i64.wrap (((i:Nat):Int)+1)) l)=some ((u',()),())∧u'.length=u.length∧Dg G u'∧0≤c'∧
   lv G u'+G ^ (t+m)*(c'+lv G (ys.drop m))=lv G u+G ^ (t+i)*(c+lv G (ys.drop i))∧∀ p,p < t+i∨t+m≤p→u'[p]? = u[p]? := by
   intro s hs
   have s0:0≤s:=by omega
   have d0:=Int.emod_nonneg s (show G≠0 by decide)
   have d1:=Int.emod_lt_of_pos s (show 0 < G by decide)
   have dd:=Int.emod_add_mul_ediv s G
   have q0:0≤s / G:=Int.ediv_nonneg s0 (by decide)
   obtain⟨c',u',t1,t2,t3,t4,t5,t6⟩:=ih g (i+1) (s / G) (u.set (t+i) (s % G)) (by omega) (by omega) q0 (by simp only[G];omega) (dg_set hd _ ⟨d0,d1⟩) (by rw[List.length_set];exact hl)
   refine⟨c',u',?_,by rw[t2,List.length_set],t3,t4,?_,fun p hp'=>?_⟩
   ·rw[iRem_nn s0 (by decide),bdS,iQuo_nn s0 (by decide) (by omega),bdS,bdS,upE_set _ _ _ hp,bdS,e5]
    exact t1
   ·rw[t5,lv_set G u (t+i) _ hp,dropv ys i,←Nat.add_assoc,Int.pow_succ]
    exact add_ring _ _ s _ _ _ _ _ _ _ dd hs
   ·rw[t6 p (by omega),List.getElem?_set_ne (by omega)]
  have e2:i64.wrap (c+u[t+i])=c+u[t+i]:=w64 (by omega) (by omega)
  rw[bigint_divide.l17,bigint_divide.r17,decide_eq_true (by omega),brT,idxB_nat _ _ (by omega),bdS,List.getElem?_eq_getElem hp,bdS,e2]
  by_cases hiy:i < ys.length
  ·have ev:vl[i]? = some (ys.getD i 0):=by
    rw[getD_lt _ _ hiy,←List.getElem?_eq_getElem hiy]
    conv=>rhs;rw[←hvy]
    rw[List.getElem?_take_of_lt hiy]
   have e3:i64.wrap (c+u[t+i]+ys.getD i 0)=c+u[t+i]+ys.getD i 0:=w64 (by omega) (by omega)
   rw[decide_eq_true (by omega),brT,idxB_nat _ _ hiy,bdS,Nat.zero_add,ev,bdS,e3]
   exact fin _ rfl
  ·rw[decide_eq_false (by omega),brF]
   exact fin _ (by rw[getD_ge _ _ hiy];omega)
theorem take_same{u u':List Int}{j:Nat}(hl:u'.length=u.length)(h:∀ p,p < j→u'[p]? = u[p]?):u'.take j=u.take j:=by
 apply List.ext_getElem?
 intro p
 by_cases hp:p < j
 ·rw[List.getElem?_take_of_lt hp,List.getElem?_take_of_lt hp,h p hp]
 ·rw[List.getElem?_take_eq_none (by omega),List.getElem?_take_eq_none (by omega)]
theorem drop_same{u u':List Int}{j:Nat}(h:∀ p,j≤p→u'[p]? = u[p]?):u'.drop j=u.drop j:=by
 apply List.ext_getElem?
 intro p
 rw[List.getElem?_drop,List.getElem?_drop,h _ (by omega)]
theorem win{u u':List Int}{j m:Nat}(hl:u'.length=u.length)(hd:Dg G u')(hm:j+m≤u.length)(h0:lv G (u.drop (j+m))=0)(h:∀ p,p < j∨j+m≤p→u'[p]? = u[p]?):
  lv G u'-lv G u=G ^ j*(lv G (u'.drop j)-lv G (u.drop j))∧lv G (u'.drop j) < G ^ m∧lv G (u'.drop (j+m))=0:=by
 have a1:=lv_split G u j (by omega)
 have a2:=lv_split G u' j (by omega)
 rw[take_same hl (fun p hp=>h p (Or.inl hp))]at a2
 have a3:=drop_same (j:=j+m) (fun p hp=>h p (Or.inr hp))
 have a4:=lv_split G (u'.drop j) m (by rw[List.length_drop];omega)
 rw[List.drop_drop,a3,h0]at a4
 have a5:=lv_lt (B:=G) (by decide) ((hd.drop j).take m)
 rw[List.length_take,List.length_drop,Nat.min_eq_left (by omega)]at a5
 refine⟨by grind,by omega,by rw[a3,h0]⟩
theorem lv_eq0_of_lt{l:List Int}(n:Nat)(hd:Dg G l)(hn:n≤l.length)(h:lv G l < G ^ n):lv G (l.drop n)=0:=by
 have a:=lv_split G l n hn
 have b:=lv_nonneg (B:=G) (by decide) (hd.take n)
 have c:=lv_nonneg (B:=G) (by decide) (hd.drop n)
 by_cases z:lv G (l.drop n)=0
 ·exact z
 ·have:=Int.mul_le_mul_of_nonneg_left (show 1≤lv G (l.drop n) by omega) (Int.le_of_lt (pow_pos' (B:=G) (by decide) n))
  omega
theorem top2{l:List Int}(n:Nat)(hn2:2≤n)(h1:l.length=n):lv G l=(l[n-1]*G+l[n-2])*G ^ (n-2)+lv G (l.take (n-2)):=by
 have a:=lv_split G l (n-2) (by omega)
 rw[lv_dropc G l (n-2) (by omega),show n-2+1=n-1 by omega,lv_dropc G l (n-1) (by omega),List.drop_of_length_le (by omega)]at a
 simp only[lv]at a
 grind
theorem top3{u:List Int}(j n:Nat)(hn2:2≤n)(h1:j+n+1≤u.length)(h0:lv G (u.drop (j+n+1))=0):
  lv G (u.drop j)=((u[j+n]*G+u[j+(n-1)])*G+u[j+(n-2)])*G ^ (n-2)+lv G ((u.drop j).take (n-2)):=by
 have a:=lv_split G (u.drop j) (n-2) (by rw[List.length_drop];omega)
 rw[List.drop_drop,lv_dropc G u (j+(n-2)) (by omega),show j+(n-2)+1=j+(n-1) by omega,lv_dropc G u (j+(n-1)) (by omega),show j+(n-1)+1=j+n by omega,lv_dropc G u (j+n) (by omega),h0]at a
 grind
theorem win_eq{M a b d:Int}(hM:0 < M)(h:a+M*d=b)(a0:0≤a)(a1:a < M)(b0:0≤b)(b1:b < M):d=0∧a=b:=by
 have:d=0:=by
  rcases Int.lt_trichotomy d 0 with z | z | z
  ·have:=Int.mul_le_mul_of_nonneg_left (show d≤-1 by omega) (Int.le_of_lt hM);omega
  ·exact z
  ·have:=Int.mul_le_mul_of_nonneg_left (show 1≤d by omega) (Int.le_of_lt hM);omega
 subst this
 exact⟨rfl,by omega⟩
theorem cancel_sub(J M A A' W W1 Q c:Int)(hJ:0 < J)(h1:A'-J*M*c=A-J*Q)(h2:A'-A=J*(W1-W)):W1=W-Q+M*c:=by
 have:J*W1=J*(W-Q+M*c):=by grind
 exact Int.eq_of_mul_eq_mul_left (by omega) this
theorem cancel_add(J M A A' W1 W2 V c:Int)(hJ:0 < J)(h1:A'+J*M*c=A+J*V)(h2:A'-A=J*(W2-W1)):W2=W1+V-M*c:=by
 have:J*W2=J*(W1+V-M*c):=by grind
 exact Int.eq_of_mul_eq_mul_left (by omega) this
theorem off_ring(J A W W1 Q:Int):A+(J*(W-Q-W1)+J*(W1-W))=A-J*Q:=by grind
theorem d14_step{ρ:Type}(lf j:Nat)(sc vl ys u out:List Int)(hlf:2000000000≤lf)(hn2:2≤ys.length)(hdy:Dg G ys)(hty:Tr ys)(hdv:Dg G vl)(hvy:vl.take ys.length=ys)(hvl:ys.length≤vl.length)(hdu:Dg G u)(hjl:j+ys.length+1≤u.length)(hub:u.length≤500000)(hol:j < out.length)
  (hinv:lv G (u.drop (j+1)) < lv G ys) (K:Int→List Int→List Int→Option ρ) (E0:List Int→List Int→Option ρ) :
  ∃ u' q,bigint_divide.r14 lf ys.length ((ys.length:Nat):Int) sc vl ((j:Nat):Int) u out K E0=K (((j:Nat):Int)-1) u' (out.set j q)∧u'.length=u.length∧Dg G u'∧0≤q∧q < G∧
   lv G u'=lv G u-G ^ j*(q*lv G ys)∧lv G (u'.drop j) < lv G ys:=by
 obtain⟨n,hn⟩:∃ n,n=ys.length:=⟨_,rfl⟩
 obtain⟨V,hV⟩:∃ V,V=lv G ys:=⟨_,rfl⟩
 obtain⟨W,hW⟩:∃ W,W=lv G (u.drop j):=⟨_,rfl⟩
 have hV1:V < G ^ n:=by rw[hV,hn];exact lv_lt (by decide) hdy
 have hV0:0 < V:=by rw[hV];exact lv_pos (by decide) hdy hty (by intro e;subst e;simp at hn2)
 have hz:lv G (u.drop (j+n+1))=0:=by
  have:=lv_eq0_of_lt (l:=u.drop (j+1)) n (hdu.drop _) (by rw[List.length_drop];omega) (by omega)
  rw[List.drop_drop]at this
  rw[show j+n+1=j+1+n by omega];exact this
 have hW0:0≤W:=by rw[hW];exact lv_nonneg (by decide) (hdu.drop j)
 have hWB:W < G*V:=by
  have a:=lv_dropc G u j (by omega)
  have b:=hdu.at j (by omega)
  have c:=Int.mul_le_mul_of_nonneg_left (show lv G (u.drop (j+1))+1≤V by omega) (show 0≤G by decide)
  rw[Int.mul_add]at c
  omega
 have hyv:∀ i (h:i < n),vl[i]'(by omega)=ys[i]'(by omega):=by
  intro i h
  have:vl[i]? = ys[i]? := by
   conv=>rhs;rw[←hvy]
   rw[List.getElem?_take_of_lt (by omega)]
  rw[List.getElem?_eq_getElem (by omega),List.getElem?_eq_getElem (by omega)]at this
  exact Option.some.inj this
 have b1:=hdv.at (n-1) (by omega)
 have b2:=hdv.at (n-2) (by omega)
 have u0:=hdu.at (j+n) (by omega)
 have u1:=hdu.at (j+(n-1)) (by omega)
 have u2:=hdu.at (j+(n-2)) (by omega)
 have eV:=top2 (l:=ys) n (by omega) hn.symm
 have eW:=top3 (u:=u) j n (by omega) (by omega) hz
 have V00:=lv_nonneg (B:=G) (by decide) (hdy.take (n-2))
 have V01:=lv_lt (B:=G) (by decide) (hdy.take (n-2))
 have W00:=lv_nonneg (B:=G) (by decide) ((hdu.drop j).take (n-2))
 have W01:=lv_lt (B:=G) (by decide) ((hdu.drop j).take (n-2))
 rw[List.length_take,Nat.min_eq_left (by omega)]at V01
 rw[List.length_take,List.length_drop,Nat.min_eq_left (by omega)]at W01
 have hP:0 < G ^ (n-2):=pow_pos' (by decide) _
 have hv1:1≤vl[n-1]'(by omega):=by
  rw[hyv (n-1) (by omega)]
  have c:=hdy.at (n-1) (by omega)
  have:ys[n-1]'(by omega)≠0:=by
   intro e
   apply hty
   rw[List.getLast?_eq_getElem?,List.getElem?_eq_getElem (by omega)]
   simp only[←hn,e]
  omega
 rw[←hV,←hyv (n-1) (by omega),←hyv (n-2) (by omega)]at eV
 rw[←hW]at eW
 obtain⟨v1,ev1⟩:∃ v1,v1=vl[n-1]'(by omega):=⟨_,rfl⟩
 obtain⟨v2,ev2⟩:∃ v2,v2=vl[n-2]'(by omega):=⟨_,rfl⟩
 obtain⟨w2,ew2⟩:∃ w2,w2=u[j+(n-2)]'(by omega):=⟨_,rfl⟩
 obtain⟨top,etop⟩:∃ top,top=u[j+n]'(by omega)*1000000000+u[j+(n-1)]'(by omega):=⟨_,rfl⟩
 rw[←ev1]at eV b1 hv1
 rw[←ev2]at eV b2
 rw[←ew2]at eW u2
 rw[show u[j+n]'(by omega)*G+u[j+(n-1)]'(by omega)=top from etop.symm]at eW
 simp only[G]at b1 b2 u0 u1 u2
 have t0:0≤top:=by omega
 have t1:top < 1000000000000000000:=by omega
 obtain⟨q0,eq0⟩:∃ q0,q0=if 999999999 < top / v1 then 999999999 else top / v1:=⟨_,rfl⟩
 have d0:0≤top / v1:=Int.ediv_nonneg t0 (by omega)
 have dd:=Int.emod_add_mul_ediv top v1
 have dm0:=Int.emod_nonneg top (show v1≠0 by omega)
 have dm1:=Int.emod_lt_of_pos top (show 0 < v1 by omega)
 have q00:0≤q0:=by rw[eq0];split<;>omega
 have q01:q0 < G:=by rw[eq0];simp only[G];split<;>omega
 have qv:q0*v1≤v1*(top / v1):=by
  rw[Int.mul_comm v1]
  exact Int.mul_le_mul_of_nonneg_right (by rw[eq0];split<;>omega) (by omega)
 have qn:=Int.mul_nonneg q00 (show 0≤v1 by omega)
 have hov:W < (q0+1)*V:=by
  by_cases c:999999999 < top / v1
  ·rw[if_pos c]at eq0
   rw[eq0]
   exact hWB
  ·rw[if_neg c]at eq0
   rw[eW,eV]
   refine est_first (by decide) hP (by omega) (by omega) V00 W01 (by simp only[G];omega) q0 q00 ?_
   rw[eq0,Int.add_mul,Int.mul_comm (top / v1)]
   omega
 have rb:top-q0*v1≤3000000000:=by
  by_cases c:999999999 < top / v1
  ·have hov2:top≤v1*1000000000+999999999:=by
    have a:u[j+n]'(by omega)≤v1:=by
     by_cases z:u[j+n]'(by omega)≤v1
     ·exact z
     ·exfalso
      have z1:(v1+1)*G≤top:=by simp only[G];omega
      have z2:((v1+1)*G*G)*G ^ (n-2)≤W:=by
       have y1:=Int.mul_le_mul_of_nonneg_right z1 (show 0≤G by decide)
       have y2:(v1+1)*G*G≤top*G+w2:=by omega
       have:=Int.mul_le_mul_of_nonneg_right y2 (Int.le_of_lt hP)
       omega
      have z3:G*V≤((v1+1)*G*G)*G ^ (n-2):=by
       have x1:(v1*G+v2)*G ^ (n-2)+lv G (ys.take (n-2))≤(v1*G+v2+1)*G ^ (n-2):=by
        rw[Int.add_mul (v1*G+v2) 1];omega
       have x2:(v1*G+v2+1)*G ^ (n-2)≤((v1+1)*G)*G ^ (n-2):=Int.mul_le_mul_of_nonneg_right (by simp only[G];omega) (Int.le_of_lt hP)
       have x3:=Int.mul_le_mul_of_nonneg_left (show V≤((v1+1)*G)*G ^ (n-2) by omega) (show 0≤G by decide)
       have x4:G*(((v1+1)*G)*G ^ (n-2))=((v1+1)*G*G)*G ^ (n-2):=by grind
       omega
      omega
    omega
   rw[if_pos c]at eq0
   rw[eq0]
   omega
  ·rw[if_neg c]at eq0
   rw[eq0,Int.mul_comm (top / v1)]
   omega
 have r0:0≤top-q0*v1:=by omega
 obtain⟨q,k1,k2,k3,k4,k5,k6⟩:=d15_ok lf j (n+1) sc vl u out n (by omega) (by omega) (by omega) rfl (by omega) hdv hdu top v1 v2 w2 ev1 ev2 ew2 hv1 1000000000 (lf+40) q0 (top-q0*v1) (by simp only[G];omega) (by omega) q00 q01 r0 rb rfl
 have lo:(q-1)*V≤W:=by
  rw[eW,eV]
  exact est_under hP (by decide) hv1 b2.1 (by simp only[G];omega) V00 V01 W00 u2.1 k2 k3 k5
 have hi:W < (q+1)*V:=by
  rcases k6 with rfl | k6
  ·exact hov
  ·rw[eW,eV]
   exact est_over hP V00 W01 (by omega) k6
 obtain⟨c,u1',s1,s2,s3,s4,s5,s6⟩:=d16_ok lf j (n+1) q sc vl out ys k2 k3 hdy hvy (by omega) (n+1) (lf+40) 0 0 u (by omega) (by omega) (by decide) (by decide) hdu (by omega)
 rw[List.drop_zero,show j+0=j from rfl,List.drop_of_length_le (by omega),←hV]at s5
 simp only[lv,Int.mul_zero,Int.add_zero,Int.zero_add]at s5
 rw[show((0:Nat):Int)=0 from rfl]at s1
 obtain⟨x1,x2,x3⟩:=win (j:=j) (m:=n+1) s2 s3 (by omega) hz (fun p hp=>s6 p (by omega))
 have x0:0≤lv G (u1'.drop j):=lv_nonneg (by decide) (s3.drop j)
 obtain⟨W1,hW1⟩:∃ W1,W1=lv G (u1'.drop j):=⟨_,rfl⟩
 rw[←hW1,←hW]at x1
 rw[←hW1]at x0 x2
 have Pj:0 < G ^ j:=pow_pos' (by decide) _
 have M0:0 < G ^ (n+1):=pow_pos' (by decide) _
 have VM:V < G ^ (n+1):=by
  have:=pow_mono' (B:=G) (by decide) (show n≤n+1 by omega)
  omega
 have y1:W1=W-q*V+G ^ (n+1)*c:=by
  rw[Int.pow_add]at s5
  exact cancel_sub _ _ _ _ _ _ _ _ Pj s5 x1
 have qV1:(q-1)*V=q*V-V:=by grind
 have qV2:(q+1)*V=q*V+V:=by grind
 have f1:i64.wrap (((j:Nat):Int)+((n:Nat):Int))=((j+n:Nat):Int):=by rw[w64 (by omega) (by omega)];omega
 have f2:i64.wrap (((j+n:Nat):Int)+1)=((j+n+1:Nat):Int):=by rw[w64 (by omega) (by omega)];omega
 have f3:i64.wrap (((n:Nat):Int)-1)=((n-1:Nat):Int):=by rw[w64 (by omega) (by omega)];omega
 have f4:i64.wrap (u[j+n]'(by omega)*1000000000)=u[j+n]'(by omega)*1000000000:=w64 (by omega) (by omega)
 have f5:i64.wrap top=top:=w64 (by omega) (by omega)
 have f6:i64.wrap (q0*v1)=q0*v1:=w64 (by omega) (by omega)
 have f7:i64.wrap (top-q0*v1)=top-q0*v1:=w64 (by omega) (by omega)
 have f8:i64.wrap (((j:Nat):Int)-1)=((j:Nat):Int)-1:=w64 (by omega) (by omega)
 have f9:i64.wrap (q-1)=q-1:=w64 (by omega) (by simp only[G]at k3;omega)
 have go:bigint_divide.r14 lf ys.length ((ys.length:Nat):Int) sc vl ((j:Nat):Int) u out K E0 =
   (br (!(c==0)) (
    bd (bigint_divide.l17 lf j (n+1) n ((n:Nat):Int) (q-1) ((n+1:Nat):Int) sc vl out (lf+40) 0 0 u1') fun z=>K (((j:Nat):Int)-1) z.1.1 (out.set j (q-1))) (K (((j:Nat):Int)-1) u1' (out.set j q))):=by
  rw[←hn]at s1
  rw[bigint_divide.r14,←hn,decide_eq_true (by omega),brT,f1,f2,cutB_mid _ _ _ j (j+n+1) rfl rfl (by omega) (by omega),bdS]
  simp only[show j+n+1-j=n+1 by omega,Nat.zero_add]
  rw[idxB_nat _ _ (by omega),bdS,List.getElem?_eq_getElem (by omega),bdS,f3,idxB_nat _ _ (by omega),bdS,List.getElem?_eq_getElem (by omega),bdS,idxB_nat _ _ (by omega),bdS,List.getElem?_eq_getElem (by omega),bdS,←ev1,f4,←etop,f5,iQuo_nn t0 (by omega) (by omega),bdS,bdS,List.getElem?_eq_getElem (by omega),bdS,←ev1,←eq0,f6,f7,k1,bdS]
  simp only[s1,bdS,f9,idxB_nat _ _ hol,upE_set _ _ _ hol,f8]
 rw[go]
 by_cases hc:c=0
 ·rw[beq_iff_eq.2 hc]
  subst hc
  refine⟨u1',q,by rw[Bool.not_true,brF],s2,s3,k2,k3,?_,?_⟩
  ·rw[←hV];omega
  ·rw[←hW1,←hV];omega
 ·rw[beq_eq_false_iff_ne.2 hc,Bool.not_false,brT]
  have neg:W < q*V:=by
   by_cases z:W < q*V
   ·exact z
   ·have:=Int.mul_le_mul_of_nonneg_left (show 1≤c by omega) (Int.le_of_lt M0);omega
  have q1:1≤q:=by
   by_cases z:q=0
   ·subst z;omega
   ·omega
  obtain⟨c2,u2',a1,a2,a3,a4,a5,a6⟩:=d17_ok lf j (n+1) (q-1) sc vl out ys hdy hvy (by omega) (by omega) (n+1) (lf+40) 0 0 u1' (by omega) (by omega) (by decide) (by decide) s3 (by omega)
  rw[List.drop_zero,show j+0=j from rfl,List.drop_of_length_le (by omega),←hV]at a5
  simp only[lv,Int.add_zero,Int.zero_add]at a5
  rw[show((0:Nat):Int)=0 from rfl,←hn]at a1
  obtain⟨z1,z2,z3⟩:=win (j:=j) (m:=n+1) a2 a3 (by omega) x3 (fun p hp=>a6 p (by omega))
  have z0:0≤lv G (u2'.drop j):=lv_nonneg (by decide) (a3.drop j)
  obtain⟨W2,hW2⟩:∃ W2,W2=lv G (u2'.drop j):=⟨_,rfl⟩
  rw[←hW2,←hW1]at z1
  rw[←hW2]at z0 z2
  have y2:W2=W1+V-G ^ (n+1)*c2:=by
   rw[Int.pow_add]at a5
   exact cancel_add _ _ _ _ _ _ _ _ Pj a5 z1
  have y3:W2+G ^ (n+1)*(c2-c)=W-(q-1)*V:=by rw[y2,y1,Int.mul_sub];omega
  obtain⟨_,y4⟩:=win_eq M0 y3 z0 z2 (by omega) (by omega)
  refine⟨u2',q-1,by rw[a1,bdS],by rw[a2,s2],a3,by omega,by omega,?_,?_⟩
  ·rw[←hV]
   have e1:lv G u2'=lv G u+(G ^ j*(W2-W1)+G ^ j*(W1-W)):=by omega
   rw[e1,y4]
   exact off_ring _ _ _ _ _
  ·rw[←hW2,←hV];omega
theorem d14_ok(lf:Nat)(sc vl ys:List Int)(hlf:2000000000≤lf)(hn2:2≤ys.length)(hdy:Dg G ys)(hty:Tr ys)(hdv:Dg G vl)(hvy:vl.take ys.length=ys)(hvl:ys.length≤vl.length)(N:Nat)(hub:N≤500000):
  ∀ (k f:Nat) (u out:List Int),k+ys.length≤N→u.length=N→k < f→Dg G u→Dg G out→k≤out.length→(∀ p,p < k→out[p]? = some 0)→lv G (u.drop k) < lv G ys→
  ∃ u' out',bigint_divide.l14 lf ys.length ((ys.length:Nat):Int) sc vl f (((k:Nat):Int)-1) u out=some ((u',out',()),())∧Dg G u'∧Dg G out'∧u'.length=N∧out'.length=out.length∧lv G u'+lv G ys*lv G out'=lv G u+lv G ys*lv G out∧lv G u' < lv G ys:=by
 intro k
 induction k with
 | zero =>
  intro f u out hk hN hf hdu hdo hol hz hinv
  obtain⟨g,rfl⟩:=Nat.exists_eq_succ_of_ne_zero (show f≠0 by omega)
  refine⟨u,out,?_,hdu,hdo,hN,rfl,rfl,hinv⟩
  rw[bigint_divide.l14,bigint_divide.r14,decide_eq_false (by omega),brF]
 | succ k ih =>
  intro f u out hk hN hf hdu hdo hol hz hinv
  obtain⟨g,rfl⟩:=Nat.exists_eq_succ_of_ne_zero (show f≠0 by omega)
  obtain⟨u',q,t1,t2,t3,t4,t5,t6,t7⟩:=d14_step lf k sc vl ys u out hlf hn2 hdy hty hdv hvy hvl hdu (by omega) (by omega) (by omega) hinv (bigint_divide.l14 lf ys.length ((ys.length:Nat):Int) sc vl g) (fun w0 w1=>some ((w0,w1,()),()))
  obtain⟨u2,o2,s1,s2,s3,s4,s5,s6,s7⟩:=ih g u' (out.set k q) (by omega) (by omega) (by omega) t3 (dg_set hdo _ ⟨t4,t5⟩) (by rw[List.length_set];omega) (fun p hp=>by
   rw[List.getElem?_set_ne (by omega)];exact hz p (by omega)) t7
  refine⟨u2,o2,?_,s2,s3,s4,by rw[s5,List.length_set],?_,s7⟩
  ·rw[bigint_divide.l14,show((k+1:Nat):Int)-1=((k:Nat):Int) by omega,t1]
   exact s1
  ·have o0:out[k]'(by omega)=0:=by
    have h1:=hz k (by omega)
    rw[List.getElem?_eq_getElem (by omega)]at h1
    exact Option.some.inj h1
   rw[s6,t6,lv_set G out k q (by omega),o0]
   grind
theorem d13_ok(lf v1:Nat)(xs v2 v3:List Int)(hb:xs.length≤1000000):∀ (k n:Nat) (w:List Int),xs.length < w.length+k→(0 < k→w.length+k=xs.length+1)→w.length+k≤1100000→k < n→
  bigint_divide.l13 lf xs v1 v2 v3 n w=some ((w++List.replicate k 0,()),()):=by
 intro k
 induction k with
 | zero =>
  intro n w h1 h2 h3 hn
  obtain⟨m,rfl⟩:=Nat.exists_eq_succ_of_ne_zero (show n≠0 by omega)
  rw[bigint_divide.l13,bigint_divide.r13,decide_eq_false (by omega),brF]
  simp
 | succ k ih =>
  intro n w h1 h2 h3 hn
  obtain⟨m,rfl⟩:=Nat.exists_eq_succ_of_ne_zero (show n≠0 by omega)
  have:=h2 (by omega)
  rw[bigint_divide.l13,bigint_divide.r13,decide_eq_true (by omega),brT,apL_ok _ _ _ (by decide) (by simp;omega),bdS,ih m (w++[0]) (by simp;omega) (by simp;omega) (by simp;omega) (by omega)]
  simp[List.replicate_succ]
theorem dtail(lf:Nat)(xs ys u0:List Int)(s:Int)(hlf:2000000000≤lf)(hx:Dg G xs)(hy:Dg G ys)(ty:Tr ys)(hy2:2≤ys.length)(hyx:ys.length≤xs.length)(hxb:xs.length≤50000)(s0:0 < s)(s1:s < G)
    (hs:s*lv G ys < G ^ ys.length) (hu:Dg G u0) (hul:u0.length≤xs.length+2) (hu1:1≤u0.length) (hu2:lv G u0 < G ^ (u0.length-1)) (hu3:lv G u0=lv G xs*s)
    (BIG:Bool×((List Int)×(List Int)×(List Int)×(List Int)×Unit)×(Nat×(List Int)×(List Int)×(List Int)×(List Int)×Unit)×Unit→Option (List Int×List Int×Unit)) :
    ∃ Q R,(bd (mkL (i64.wrap (((ys.length:Nat):Int)+((([s]:List Int).length:Nat):Int))) (i64.wrap (((ys.length:Nat):Int)+((([s]:List Int).length:Nat):Int))) 8 0) fun q197 =>
 bd (bigint_divide.l4 lf ys ((ys.length:Nat):Int) [s] [0] u0 (lf+40) 0 q197) fun z198 =>
 bd (bigint_divide.l6 lf [s] [0] u0 z198.1.1 (lf+40)) fun z199 =>
 br z199.1 (BIG z199) (
 bd (bigint_divide.l13 lf xs z199.2.2.1.1 z199.2.2.1.2.1 z199.2.2.1.2.2.2.2.1 (lf+40) z199.2.2.1.2.2.2.1) fun z208 =>
 bd (mkL (i64.wrap (((z208.1.1.length:Nat):Int)-((z199.2.2.1.1:Nat):Int))) (i64.wrap (((z208.1.1.length:Nat):Int)-((z199.2.2.1.1:Nat):Int))) 8 0) fun q209 =>
 bd (bigint_divide.l14 lf z199.2.2.1.1 ((z199.2.2.1.1:Nat):Int) z199.2.2.1.2.1 z199.2.2.1.2.2.2.2.1 (lf+40) (i64.wrap ((i64.wrap (((z208.1.1.length:Nat):Int)-((z199.2.2.1.1:Nat):Int)))-1)) z208.1.1 q209) fun z210 =>
 bd (bigint_trim.f lf z210.1.1) fun r211 =>
 bd (idxB z199.2.2.1.2.1.length 0) fun j212 =>
 bd (z199.2.2.1.2.1[j212]?) fun y213 =>
 bd (bigint_short.f lf r211.1 y213) fun r214 =>
 bd (bigint_trim.f lf z210.1.2.1) fun r215 =>
 some (r215.1,r214.1,())))=some (Q,R,())∧Dg G Q∧Tr Q∧Dg G R∧Tr R∧lv G xs=lv G ys*lv G Q+lv G R∧lv G R < lv G ys:=by
  have e0:i64.wrap (((ys.length:Nat):Int)+((([s]:List Int).length:Nat):Int))=((ys.length+1:Nat):Int):=by rw[w64 (by simp;omega) (by simp;omega)];simp
  obtain⟨vl,r1,r2,r3,r4⟩:=dB_l0 lf [0] u0 ys [s] hy (Dg.cons ⟨by omega,s1⟩ Dg.nil) (by omega) (by simp) ys.length (lf+40) 0 (List.replicate (ys.length+1) 0) (by omega) (by omega) (Dg.zeros (by decide) _) (by simp) (by simp;omega) (fun q _ h=>by rw[List.length_replicate]at h;rw[List.getElem?_replicate,if_pos h])
  rw[List.length_replicate]at r2
  rw[lv_zeros]at r4
  simp only[lv,List.drop_zero,Int.mul_zero,Int.add_zero,Int.pow_zero,Int.one_mul,Int.zero_add]at r4
  rw[show((0:Nat):Int)=0 from rfl]at r1
  obtain⟨V,hV⟩:∃ V,V=lv G vl:=⟨_,rfl⟩
  have hV2:V=s*lv G ys:=by rw[hV,r4,Int.mul_comm]
  have y0:0 < lv G ys:=lv_pos (by decide) hy ty (by intro e;subst e;simp at hy2)
  have yt:=lv_top (B:=G) (by decide) hy ty (by intro e;subst e;simp at hy2)
  have yV:lv G ys≤V:=by
    have:=Int.mul_le_mul_of_nonneg_right (show 1≤s by omega) (Int.le_of_lt y0)
    omega
  have last:vl.getLast? = some 0:=by
    have h1:=lv_split G vl ys.length (by omega)
    rw[lv_dropc G vl ys.length (by omega),List.drop_of_length_le (by omega)]at h1
    simp only[lv,Int.mul_zero,Int.add_zero]at h1
    have h2:=lv_nonneg (B:=G) (by decide) (r3.take ys.length)
    have h3:=r3.at ys.length (by omega)
    have h4:vl[ys.length]'(by omega)=0:=by
      by_cases z:vl[ys.length]'(by omega)=0
      · exact z
      · have:=Int.mul_le_mul_of_nonneg_left (show 1≤vl[ys.length]'(by omega) by omega) (Int.le_of_lt (pow_pos' (B:=G) (by decide) ys.length))
        omega
    rw[List.getLast?_eq_getElem?,r2,Nat.add_sub_cancel,List.getElem?_eq_getElem (by omega),h4]
  have h6:bigint_divide.l6 lf [s] [0] u0 vl (lf+40)=some (false,([],[],[],[],()),(((tr vl).length,[s],[0],u0,vl,()),())):=by
    rcases l6_ok lf [s] [0] u0 vl (by omega) (lf+40) (by omega)with⟨h,_⟩ | ⟨_,h⟩
    · exact absurd last h
    · exact h
  have dT:=dg_tr r3
  have tT:=tr_tr vl
  have vT:=lv_tr G vl
  obtain⟨n,hn⟩:∃ n,n=(tr vl).length:=⟨_,rfl⟩
  have n1:n≤ys.length:=by
    by_cases z:n≤ys.length
    · exact z
    · have a:=lv_top (B:=G) (by decide) dT tT (by intro e;rw[e]at hn;simp at hn;omega)
      have b:=pow_mono' (B:=G) (by decide) (show ys.length≤(tr vl).length-1 by omega)
      omega
  have n2:2≤n:=by
    by_cases z:2≤n
    · exact z
    · have a:=lv_lt (B:=G) (by decide) dT
      have b:=pow_mono' (B:=G) (by decide) (show(tr vl).length≤ys.length-1 by omega)
      omega
  obtain⟨k,hk⟩:∃ k,k=xs.length+1-u0.length:=⟨_,rfl⟩
  obtain⟨N,hN⟩:∃ N,N=u0.length+k:=⟨_,rfl⟩
  obtain⟨u,hu0⟩:∃ u,u=u0++List.replicate k 0:=⟨_,rfl⟩
  have ul:u.length=N:=by rw[hu0,List.length_append,List.length_replicate,hN]
  have ud:Dg G u:=by rw[hu0];exact hu.app (Dg.zeros (by decide) _)
  have uv':lv G u=lv G u0:=by rw[hu0,lv_app,lv_zeros];simp
  have h13:bigint_divide.l13 lf xs n [s] vl (lf+40) u0=some ((u,()),()):=by
    rw[hu0];exact d13_ok lf n xs [s] vl (by omega) k (lf+40) u0 (by omega) (by omega) (by omega) (by omega)
  have inv:lv G (u.drop (N-n)) < lv G (tr vl):=by
    have a:=lv_split G u (N-n) (by omega)
    have b:=lv_nonneg (B:=G) (by decide) (ud.take (N-n))
    have c:=lv_top (B:=G) (by decide) dT tT (by intro e;rw[e]at hn;simp at hn;omega)
    have d:=pow_mono' (B:=G) (by decide) (show u0.length-1≤N-1 by omega)
    have e:G ^ (N-1)=G ^ (N-n)*G ^ (n-1):=by rw[←Int.pow_add];congr 1;omega
    rw[←hn]at c
    by_cases z:lv G (u.drop (N-n)) < lv G (tr vl)
    · exact z
    · have:=Int.mul_le_mul_of_nonneg_left (show G ^ (n-1)≤lv G (u.drop (N-n)) by omega) (Int.le_of_lt (pow_pos' (B:=G) (by decide) (N-n)))
      omega
  have e1:i64.wrap (((u.length:Nat):Int)-((n:Nat):Int))=((N-n:Nat):Int):=by rw[w64 (by omega) (by omega)];omega
  have e2:i64.wrap (((N-n:Nat):Int)-1)=((N-n:Nat):Int)-1:=w64 (by omega) (by omega)
  obtain⟨u',out',t1,t2,t3,t4,t5,t6,t7⟩:=d14_ok lf [s] vl (tr vl) hlf (by omega) dT tT r3 (tr_take vl) (tr_len vl) N (by omega) (N-n) (lf+40) u (List.replicate (N-n) 0) (by omega) ul (by omega) ud (Dg.zeros (by decide) _) (by simp) (fun p hp=>by rw[List.getElem?_replicate,if_pos hp]) inv
  rw[lv_zeros,vT,uv',hu3,←hV,hV2]at t6
  rw[vT,←hV,hV2]at t7
  rw[←hn]at t1
  rw[List.length_replicate]at t5
  obtain⟨q,r,p1,p2,p3,p4,p5,p6,p7⟩:=short_f lf (tr u') s s0 s1 (dg_tr t2) (by have:=tr_len u';omega) (by omega)
  rw[lv_tr]at p7
  have key:lv G xs=lv G ys*lv G out'+lv G q∧r=0:=by
    have:=win_eq (M:=s) (a:=r) (d:=lv G q+lv G ys*lv G out'-lv G xs) (b:=0) s0 (by rw[p7]at t6;grind) p5 p6 (by decide) s0
    exact⟨by omega,this.2⟩
  refine⟨tr out',q,?_,dg_tr t3,tr_tr _,p2,p3,by rw[lv_tr];exact key.1,?_⟩
  · rw[e0,mkL_nat _ _ _ (ys.length+1) rfl rfl (by omega),bdS,r1,bdS,h6,bdS,brF]
    simp only[←hn]
    rw[h13,bdS]
    simp only[e1]
    rw[mkL_nat _ _ _ (N-n) rfl rfl (by omega),bdS,e2,t1,bdS,trim_f lf u' (by omega) (by omega),bdS]
    simp only[p1,bdS,show idxB ([s]:List Int).length 0=some 0 from idxB_nat 1 0 (by decide),List.getElem?_cons_zero]
    rw[trim_f lf out' (by omega) (by omega),bdS]
  · exact Int.lt_of_mul_lt_mul_left (by rw[key.2]at p7;omega) (Int.le_of_lt s0)
theorem divide_f(lf:Nat)(xs ys:List Int)(hx:Dg G xs)(hy:Dg G ys)(tx:Tr xs)(ty:Tr ys)(hyn:ys≠[])(hxb:xs.length≤50000)(hyb:ys.length≤50000)(hlf:2000000000≤lf):
  ∃ Q R,bigint_divide.f lf xs ys=some (Q,R,())∧Dg G Q∧Tr Q∧Dg G R∧Tr R∧lv G xs=lv G ys*lv G Q+lv G R∧lv G R < lv G ys:=by
 obtain⟨v,e,sg⟩:=order_f lf xs ys hx hy tx ty (by omega) (by omega) (by omega)
 rw[bigint_divide.f,e,bdS]
 by_cases hneg:v < 0
 ·rw[decide_eq_true hneg,brT]
  have:=sg.1.1 hneg
  exact⟨[],xs,rfl,Dg.nil,Tr.nil,hx,tx,by simp[lv],by omega⟩
 rw[decide_eq_false hneg,brF]
 have hle:lv G ys≤lv G xs:=by
  have:¬(lv G xs-lv G ys < 0):=fun h=>hneg (sg.1.2 h)
  omega
 have hlen:ys.length≤xs.length:=by
  by_cases z:ys.length≤xs.length
  ·exact z
  ·have:=lv_len_lt (B:=G) (by decide) hx hy ty (by omega)
   omega
 have hy1:1≤ys.length:=List.length_pos_iff.2 hyn
 by_cases h1:ys.length=1
 ·rw[show(((ys.length:Nat):Int)==1)=true by rw[h1];rfl,brT]
  obtain⟨d,rfl⟩:=List.length_eq_one_iff.1 h1
  have d0:=hy d (by simp)
  have dp:0 < d:=by
   have:=lv_pos (B:=G) (by decide) hy ty (by simp)
   simp only[lv]at this
   omega
  obtain⟨q,r,p1,p2,p3,p4,p5,p6,p7⟩:=short_f lf xs d dp d0.2 hx (by omega) (by omega)
  have e3:idxL [d] 0=some d:=rfl
  refine⟨q,tr [r],?_,p2,p3,dg_tr (Dg.cons ⟨p5,by omega⟩ Dg.nil),tr_tr _,?_,?_⟩
  ·rw[e3,bdS,p1,bdS,trim_f lf [r] (by simp;omega) (by simp),bdS]
  ·rw[lv_tr,p7];simp[lv]
  ·rw[lv_tr];simp only[lv];omega
 ·rw[show(((ys.length:Nat):Int)==1)=false by rw[beq_eq_false_iff_ne];omega,brF]
  have yl0:=hy.at (ys.length-1) (by omega)
  have yl1:1≤ys[ys.length-1]'(by omega):=by
   have:ys[ys.length-1]'(by omega)≠0:=by
    intro e
    apply ty
    rw[List.getLast?_eq_getElem?,List.getElem?_eq_getElem (by omega),e]
   omega
  obtain⟨y,ey⟩:∃ y,y=ys[ys.length-1]'(by omega):=⟨_,rfl⟩
  rw[←ey]at yl0 yl1
  have e2:i64.wrap (((ys.length:Nat):Int)-1)=((ys.length-1:Nat):Int):=by rw[w64 (by omega) (by omega)];omega
  have e3:i64.wrap (y+1)=y+1:=w64 (by omega) (by simp only[G]at yl0;omega)
  have e4:i64.wrap (((xs.length:Nat):Int)+1)=((xs.length+1:Nat):Int):=by rw[w64 (by omega) (by omega)];omega
  obtain⟨s,es⟩:∃ s,s=1000000000 / (y+1):=⟨_,rfl⟩
  have sm:(y+1)*s≤1000000000:=by rw[es];exact Int.mul_ediv_self_le (by omega)
  have s0:0 < s:=by
   have:1≤1000000000 / (y+1):=Int.le_ediv_of_mul_le (by omega) (by simp only[G]at yl0;omega)
   omega
  have s1:s < G:=by
   have:=Int.mul_le_mul_of_nonneg_right (show 2≤y+1 by omega) (Int.le_of_lt s0)
   simp only[G];omega
  have hs:s*lv G ys < G ^ ys.length:=by
   have a:=lv_split G ys (ys.length-1) (by omega)
   rw[lv_dropc G ys (ys.length-1) (by omega),List.drop_of_length_le (by omega),←ey]at a
   simp only[lv,Int.mul_zero,Int.add_zero]at a
   have b:=lv_lt (B:=G) (by decide) (hy.take (ys.length-1))
   rw[List.length_take,Nat.min_eq_left (by omega)]at b
   have c:lv G ys < G ^ (ys.length-1)*(y+1):=by rw[Int.mul_add];omega
   have d:=Int.mul_lt_mul_of_pos_left c s0
   have e:s*(G ^ (ys.length-1)*(y+1))=G ^ (ys.length-1)*((y+1)*s):=by grind
   have f:=Int.mul_le_mul_of_nonneg_left sm (Int.le_of_lt (pow_pos' (B:=G) (by decide) (ys.length-1)))
   have g:G ^ ys.length=G ^ (ys.length-1)*1000000000:=by
    conv=>lhs;rw[show ys.length=(ys.length-1)+1 by omega]
    rw[Int.pow_succ]
   omega
  rw[e2,idxL_nat _ _ (by omega),bdS,←ey,e3,iQuo_nn (by decide) (by omega) (by decide),bdS,←es,e4,mkL_nat _ _ _ (xs.length+1) rfl rfl (by omega),bdS]
  obtain⟨w,r1,r2,r3,r4⟩:=dA_l0 lf xs [s] hx (Dg.cons ⟨by omega,s1⟩ Dg.nil) (by omega) (by simp) xs.length (lf+40) 0 (List.replicate (xs.length+1) 0) (by omega) (by omega) (Dg.zeros (by decide) _) (by simp) (by simp;omega) (fun q _ h=>by rw[List.length_replicate]at h;rw[List.getElem?_replicate,if_pos h])
  rw[List.length_replicate]at r2
  rw[lv_zeros]at r4
  simp only[lv,List.drop_zero,Int.mul_zero,Int.add_zero,Int.pow_zero,Int.one_mul,Int.zero_add]at r4
  rw[show((0:Nat):Int)=0 from rfl]at r1
  rw[r1,bdS]
  have wl:=tr_len w
  have fin:=dtail lf xs ys (tr w++[0]) s hlf hx hy ty (by omega) hlen hxb s0 s1 hs ((dg_tr r3).app (Dg.zeros (by decide) 1)) (by simp;omega) (by simp) (by
   rw[List.length_append,List.length_singleton,Nat.add_sub_cancel,lv_app]
   simp only[lv,Int.mul_zero,Int.add_zero]
   exact lv_lt (by decide) (dg_tr r3)) (by rw[lv_app,lv_tr,r4];simp[lv])
  rcases l2_ok lf [s] w (by omega) (lf+40) (by omega)with⟨t,h2⟩ | ⟨_,h2⟩
  ·rw[h2,bdS,brT,apL_ok _ _ _ (by decide) (by simp;omega),bdS]
   rw[tr_of_Tr (show Tr w from t)]at fin
   exact fin _
  ·rw[h2,bdS,brF]
   simp only[tr_take]
   rw[decide_eq_true wl,Bool.true_and,apL_ok _ _ _ (by decide) (by simp;omega),bdS]
   exact fin _
end Go.N
namespace Go.N
open Go Go.Q Go.Rx
theorem mul_f(lf:Nat)(l m:List UInt8)(h1:chk l=0)(h2:chk m=0)(h3:200000≤lf):
  bigint_Mul.f lf (bs l) (bs m)=some (if(D (iv l*iv m).natAbs).length > 4096 then(bs [],10,())else(bs (Lib.itoa (iv l*iv m)),0,())):=by
 obtain⟨⟨pn,pl,⟨⟩⟩,⟨qn,ql,⟨⟩⟩,e,k1,k2,_⟩:=pair_f lf l m h1 h2 h3
 rw[bigint_Mul.f,e,bdS]
 simp only[bne_self_eq_false,brF]
 obtain⟨r,e2,d1,d2,d3,d4⟩:=times_f lf pl ql k1.dg k2.dg (by have:=k1.len;simp only at this;omega) (by have:=k2.len;simp only at this;omega) h3
 have k3:RN (pn != qn,r,()) (iv l*iv m) 8192:=by
  refine⟨d1,d2,?_,?_⟩
  ·have a:=k1.len;have b:=k2.len;simp only at a b⊢;omega
  ·have a:=k1.val;have b:=k2.val
   simp only at a b⊢
   rw[d4,a,b]
   cases pn<;>cases qn<;>simp[Int.neg_mul,Int.mul_neg]
 rw[bigint_product.f]
 simp only[e2,bdS]
 rw[written_f lf k3 (by omega) h3,bdS]
theorem fdiv_unique{x y q r:Int}(h:x=y*q+r)(hr:(0≤r∧r < y)∨(y < r∧r≤0)):q=x.fdiv y∧r=x.fmod y:=by
 have e:=Int.mul_fdiv_add_fmod x y
 have hf:(0≤x.fmod y∧x.fmod y < y)∨(y < x.fmod y∧x.fmod y≤0):=by
  rcases hr with hr | hr
  ·exact Or.inl ⟨Int.fmod_nonneg_of_pos x (by omega),Int.fmod_lt_of_pos x (by omega)⟩
  ·refine Or.inr ?_
   have a:=Int.fmod_nonneg_of_pos (-x) (show 0 < -y by omega)
   have b:=Int.fmod_lt_of_pos (-x) (show 0 < -y by omega)
   rw[Int.neg_fmod_neg]at a b
   omega
 have key:x.fdiv y=q:=by
  have d:y*(x.fdiv y-q)=r-x.fmod y:=by rw[Int.mul_sub];omega
  rcases Int.lt_trichotomy (x.fdiv y) q with z | z | z
  ·rcases hr with hr | hr
   ·have:=Int.mul_le_mul_of_nonneg_left (show x.fdiv y-q≤-1 by omega) (show 0≤y by omega);omega
   ·have:=Int.mul_le_mul_of_nonneg_left (show x.fdiv y-q≤-1 by omega) (show 0≤-y by omega)
    simp only[Int.neg_mul]at this;omega
  ·exact z
  ·rcases hr with hr | hr
   ·have:=Int.mul_le_mul_of_nonneg_left (show 1≤x.fdiv y-q by omega) (show 0≤y by omega);omega
   ·have:=Int.mul_le_mul_of_nonneg_left (show 1≤x.fdiv y-q by omega) (show 0≤-y by omega)
    simp only[Int.neg_mul]at this;omega
 rw[key]at e
 exact⟨key.symm,by omega⟩
theorem quotient_f(lf:Nat)(hlf:2000000000≤lf){p q:Bool×(List Int×Unit)}{x y:Int}{k:Nat}(h1:RN p x k)(h2:RN q y k)(hk:k≤40000)(hy:y≠0):
  ∃ s t,bigint_quotient.f lf p q=some (s,t,())∧RN s (x.fdiv y) (k+1)∧RN t (x.fmod y) k:=by
 obtain⟨pn,pl,⟨⟩⟩:=p
 obtain⟨qn,ql,⟨⟩⟩:=q
 obtain⟨d1,t1,l1,v1⟩:=h1
 obtain⟨d2,t2,l2,v2⟩:=h2
 simp only at d1 t1 l1 v1 d2 t2 l2 v2
 have hne:ql≠[]:=by
  rintro rfl
  apply hy
  rw[v2];simp[lv]
 obtain⟨Q,R,e,dq,tq,dr,tr',val,lt⟩:=divide_f lf pl ql d1 d2 t1 t2 hne (by omega) (by omega) hlf
 have y0:=lv_pos (B:=G) (by decide) d2 t2 hne
 have R0:=lv_nonneg (B:=G) (by decide) dr
 have Q0:=lv_nonneg (B:=G) (by decide) dq
 have lR:R.length≤ql.length:=by
  by_cases z:R.length≤ql.length
  ·exact z
  ·have:=lv_len_lt (B:=G) (by decide) d2 dr tr' (by omega);omega
 have lQ:Q.length≤pl.length:=by
  by_cases z:Q.length≤pl.length
  ·exact z
  ·have:=lv_len_lt (B:=G) (by decide) d1 dq tq (by omega)
   have:=Int.mul_le_mul_of_nonneg_right (show 1≤lv G ql by omega) Q0
   omega
 rw[bigint_quotient.f]
 simp only[e,bdS]
 by_cases hs:pn=qn
 ·subst hs
  simp only[BEq.rfl,brT]
  have key:lv G Q=x.fdiv y∧(if pn=true then -lv G R else lv G R)=x.fmod y:=by
   apply fdiv_unique
   ·cases pn<;>simp only[Bool.false_eq_true,if_true,if_false]at v1 v2⊢<;>rw[v1,v2,val]<;>grind
   ·cases pn<;>simp only[Bool.false_eq_true,if_true,if_false]at v1 v2⊢<;>omega
  exact⟨_,_,rfl,⟨dq,tq,by simp only;omega,by simp[key.1]⟩,⟨dr,tr',by simp only;omega,key.2.symm⟩⟩
 ·rw[show(pn==qn)=false from beq_eq_false_iff_ne.2 hs,brF]
  by_cases hR:R=[]
  ·subst hR
   rw[decide_eq_false (by simp),brF]
   have key: -lv G Q=x.fdiv y∧0=x.fmod y:=by
    apply fdiv_unique
    ·simp only[lv,Int.add_zero]at val
     cases pn<;>cases qn<;>simp only[Bool.false_eq_true,if_true,if_false,not_true,reduceCtorEq]at v1 v2 hs⊢<;>rw[v1,v2,val]<;>grind
    ·omega
   exact⟨_,_,rfl,⟨dq,tq,by simp only;omega,by simp[key.1]⟩,⟨Dg.nil,Tr.nil,by simp,by rw[←key.2];simp[lv]⟩⟩
  ·have Rl:0 < R.length:=List.length_pos_iff.2 hR
   have Rp:=lv_pos (B:=G) (by decide) dr tr' hR
   rw[decide_eq_true (by omega),brT]
   obtain⟨Q1,f1,g1,g2,g3,g4⟩:=plus_f lf Q [1] dq (Dg.cons (by decide) Dg.nil) (by omega) (by simp) (by omega)
   obtain⟨R1,f2,g5,g6,g7,g8⟩:=minus_f lf ql R d2 dr (by omega) (by omega) (by omega)
   have e1:lv G [1]=1:=by simp[lv]
   have key: -lv G Q1=x.fdiv y∧(if qn=true then -lv G R1 else lv G R1)=x.fmod y:=by
    apply fdiv_unique
    ·rw[g3,g7,e1]
     cases pn<;>cases qn<;>simp only[Bool.false_eq_true,if_true,if_false,not_true,reduceCtorEq]at v1 v2 hs⊢<;>rw[v1,v2,val]<;>grind
    ·rw[g7]
     cases pn<;>cases qn<;>simp only[Bool.false_eq_true,if_true,if_false,not_true,reduceCtorEq]at v1 v2 hs⊢<;>omega
   rw[f1,bdS,f2,bdS]
   refine⟨_,_,rfl,⟨g1,g2,?_,by simp[key.1]⟩,⟨g5,g6,by simp only;omega,key.2.symm⟩⟩
   simp only[List.length_singleton]at g4⊢
   omega
theorem divided_f(lf:Nat)(hlf:2000000000≤lf)(l m:List UInt8)(h1:chk l=0)(h2:chk m=0):
  bigint_divided.f lf (bs l) (bs m)=some (if iv m=0 then(bs [],bs [],19,())else(bs (Lib.itoa ((iv l).fdiv (iv m))),bs (Lib.itoa ((iv l).fmod (iv m))),0,())):=by
 obtain⟨p,q,e,k1,k2,_⟩:=pair_f lf l m h1 h2 (by omega)
 rw[bigint_divided.f,e,bdS]
 simp only[bne_self_eq_false,brF]
 by_cases h0:iv m=0
 ·rw[if_pos h0]
  have:q.2.1=[]:=by
   have a:=k2.val
   rw[h0]at a
   have b:=lv_eq_zero (B:=G) (by decide) k2.dg k2.tr
   apply b.1
   split at a<;>omega
  simp[this,brT]
 ·rw[if_neg h0]
  have hq:q.2.1≠[]:=by
   intro z
   apply h0
   have a:=k2.val
   rw[z]at a
   simpa [lv]using a
  have hl:0 < q.2.1.length:=List.length_pos_iff.2 hq
  rw[show(((q.2.1.length:Nat):Int)==0)=false from beq_eq_false_iff_ne.2 (by omega),brF]
  obtain⟨s,t,e2,r1,r2⟩:=quotient_f lf hlf k1 k2 (by omega) h0
  simp only[e2,bdS,ntext_f lf r1 (by omega) (by omega),ntext_f lf r2 (by omega) (by omega)]
theorem quo_f(lf:Nat)(hlf:2000000000≤lf)(l m:List UInt8)(h1:chk l=0)(h2:chk m=0):
  bigint_Quo.f lf (bs l) (bs m)=some (if iv m=0 then(bs [],19,())else(bs (Lib.itoa ((iv l).fdiv (iv m))),0,())):=by
 rw[bigint_Quo.f,divided_f lf hlf l m h1 h2,bdS]
 split<;>rfl
end Go.N
namespace Go.N
open Go Go.Q Go.Rx
def bel(v:Int)(acc:X)(x:Int):X:=if x≤v then .fin x else acc
def abo(v:Int)(x:Int)(acc:X):X:=if x≥v then .fin x else acc
def below(zs:List Int)(v:X):X:=zs.foldl (bel (key v)) .ni
def above(zs:List Int)(v:X):X:=zs.foldr (abo (key v)) .pi
end Go.N
namespace Go.N
open Go Go.Q Go.Rx
end Go.N
namespace Go.N
open Go Go.Q Go.Rx
section
variable (lf:Nat)(h3:200000≤lf){e1 e2:Bool}{l1 m1 l2 m2:List UInt8}(a1:l1.length≤100000)(b1:m1.length≤100000)(a2:l2.length≤100000)(b2:m2.length≤100000)
include h3 a1 b1 a2 b2
end
section
variable (lf:Nat)(h3:200000≤lf){e1 e2:Bool}{l1 m1 l2 m2:List UInt8}(a1:l1.length≤100000)(b1:m1.length≤100000)(a2:l2.length≤100000)(b2:m2.length≤100000)
include h3 a1 b1 a2 b2
end
end Go.N
namespace Go.N
open Go Go.Q Go.Rx
theorem dlen_sz(z:Int):(D z.natAbs).length=sz z:=by unfold sz nlen;rw[body_itoa]
theorem chk48:chk [48]=0:=by decide
theorem iv48:iv [48]=0:=by decide
theorem bneg_f(lf:Nat)(h3:200000≤lf){z:Int}(hz: -K < z∧z < K):bigint_Neg.f lf (bs (Lib.itoa z))=some (bs (Lib.itoa (-z)),0,()):=by
 rw[bigint_Neg.f,show(⟨#[48]⟩:ByteArray)=bs [48] from rfl,sub_f lf [48] (Lib.itoa z) chk48 ((chk_itoa z).2 hz) h3,iv48,iv_itoa,Int.zero_sub,dlen_sz]
 have:sz (-z)≤4096:=(sz_K (-z)).2 (by omega)
 rw[if_neg (by omega),bdS]
theorem ineg_f(lf:Nat)(h3:200000≤lf){z:Int}(hz: -K < z∧z < K):interval_negated.f lf (bs (Lib.itoa z))=some (bs (Lib.itoa (-z)),()):=by
 rw[interval_negated.f,bneg_f lf h3 hz,bdS]
def xneg:X→X
 | .ni=>.pi
 | .fin z=>.fin (-z)
 | .pi=>.ni
theorem xneg_ok{k:Int}{x:X}(h:okx k x):okx k (xneg x):=by cases x<;>simp only[xneg,okx]at*<;>(try trivial)<;>omega
theorem opposite_f(lf:Nat)(h3:200000≤lf){x:X}(hx:okx K x):interval_opposite.f lf (xc x)=some (xc (xneg x),()):=by
 rw[interval_opposite.f]
 cases x with
 | ni=>exact(brT _ _).trans (by rw[interval_infinite.f,bdS];rfl)
 | pi=>exact(brT _ _).trans (by rw[interval_infinite.f,bdS];rfl)
 | fin z =>
  simp only[xc,bne_self_eq_false,brF]
  rw[ineg_f lf h3 hx,bdS,interval_finite.f,bdS]
  rfl
def turn(s:Sp):Sp:=if emp s=true then non else⟨xneg s.hi,xneg s.lo⟩
theorem turn_ok{k:Int}{s:Sp}(h:oks k s):oks k (turn s):=by
 unfold turn;split
 ·exact non_ok
 ·exact⟨xneg_ok h.2,xneg_ok h.1⟩
theorem turned_f(lf:Nat)(h3:200000≤lf){s:Sp}(hs:oks K s):interval_span_turned.f lf (sc s)=some (sc (turn s),()):=by
 rw[interval_span_turned.f,empty_f lf h3 hs,bdS]
 unfold turn
 cases emp s with
 | true=>rw[brT,none_f,bdS,if_pos rfl]
 | false =>
  rw[brF,if_neg (by simp)]
  simp only[sc]
  rw[opposite_f lf h3 hs.2,bdS,opposite_f lf h3 hs.1,bdS]
theorem neg_f(lf:Nat)(h3:200000≤lf){a:A}(ha:Wf a):interval_Neg.f lf (ac a)=some (ac (toA (turn (ofA a))),0,()):=by
 rw[interval_Neg.f]
 simp only[check_wf lf h3 ha,bdS,bne_self_eq_false,brF,of_f,turned_f lf h3 ha.okK,interval_f lf h3 (turn_ok ha.okK)]
section
variable (lf:Nat)(h3:200000≤lf){e1 e2:Bool}{l1 m1 l2 m2:List UInt8}(a1:l1.length≤100000)(b1:m1.length≤100000)(a2:l2.length≤100000)(b2:m2.length≤100000)
include h3 a1 b1 a2 b2
end
end Go.N
namespace Go.N
open Go.IntKind (i64)
open Go Go.Q Go.Rx
def D0(m:Nat):List UInt8:=if m=0 then []else D m
theorem D0_step{m:Nat}(h:m≠0):D0 m=D0 (m / 10)++[dch (m % 10)]:=by
 unfold D0
 rw[if_neg h]
 by_cases h10:m < 10
 ·rw[if_pos (by omega),List.nil_append]
  show Lib.decDigits m=_
  rw[dec_small h10,Nat.mod_eq_of_lt h10]
 ·rw[if_neg (by omega)]
  exact dec_big h10
theorem ten_digit(d:Nat)(h:d < 10):(([48,49,50,51,52,53,54,55,56,57]:List UInt8).drop d).take 1=[dch d]:=by
 have:∀ d:Fin 10,(([48,49,50,51,52,53,54,55,56,57]:List UInt8).drop d.val).take 1=[dch d.val]:=by decide +kernel
 exact this ⟨d,h⟩
theorem whole_l0(lf:Nat)(v0:Int):∀ (k n m:Nat) (v:Int) (acc:List UInt8),m < 10 ^ k→k < n→(v=(m:Int)∨v= -(m:Int))→m≤9223372036854775808→(v=(m:Int)→m≤9223372036854775807)→acc.length+k≤1000000→
  surveyorref01_Whole.l0 lf v0 n (bs acc) v=some ((bs (D0 m++acc),()),()):=by
 intro k
 induction k with
 | zero =>
  intro n m v acc hm hn hv _ _ _
  obtain⟨f,rfl⟩:=Nat.exists_eq_succ_of_ne_zero (show n≠0 by omega)
  obtain rfl:m=0:=by simpa using hm
  obtain rfl:v=0:=by omega
  rw[surveyorref01_Whole.l0,surveyorref01_Whole.r0,bne_self_eq_false,brF]
  rfl
 | succ k ih =>
  intro n m v acc hm hn hv hb hb2 hacc
  obtain⟨f,rfl⟩:=Nat.exists_eq_succ_of_ne_zero (show n≠0 by omega)
  by_cases h0:m=0
  ·subst h0
   obtain rfl:v=0:=by omega
   rw[surveyorref01_Whole.l0,surveyorref01_Whole.r0,bne_self_eq_false,brF]
   rfl
  have vn:v≠0:=by omega
  have p2:10 ^ (k+1)=10 ^ k*10:=Nat.pow_succ ..
  have et:Int.tmod v 10=((m % 10:Nat):Int)∨Int.tmod v 10= -((m % 10:Nat):Int):=by
   rcases hv with rfl | rfl
   ·left;rw[Int.tmod_eq_emod_of_nonneg (by omega)];omega
   ·right;rw[Int.neg_tmod,Int.tmod_eq_emod_of_nonneg (by omega)];omega
  have eq:(v=(m:Int)∧Int.tdiv v 10=((m / 10:Nat):Int))∨(v= -(m:Int)∧Int.tdiv v 10= -((m / 10:Nat):Int)):=by
   rcases hv with rfl | rfl
   ·left;exact⟨rfl,by rw[Int.tdiv_eq_ediv_of_nonneg (by omega)];omega⟩
   ·right;exact⟨rfl,by rw[Int.neg_tdiv,Int.tdiv_eq_ediv_of_nonneg (by omega)];omega⟩
  have e1:iRem v 10=some (Int.tmod v 10):=by unfold iRem;rw[if_neg (by decide)]
  have e2:iQuo .i64 v 10=some (Int.tdiv v 10):=by
   unfold iQuo;rw[if_neg (by decide)]
   congr 1
   apply w64<;>rcases eq with⟨_,e⟩ | ⟨_,e⟩<;>rw[e]<;>omega
  have e3:i64.wrap (0-Int.tmod v 10)=0-Int.tmod v 10:=by apply w64<;>rcases et with e | e<;>rw[e]<;>omega
  have e4:(if 0-Int.tmod v 10 > Int.tmod v 10 then 0-Int.tmod v 10 else Int.tmod v 10)=((m % 10:Nat):Int):=by
   rcases et with e | e<;>rw[e]<;>split<;>omega
  have e5:i64.wrap (((m % 10:Nat):Int)+1)=((m % 10+1:Nat):Int):=by rw[w64 (by omega) (by omega)];omega
  have lt10:m % 10 < 10:=Nat.mod_lt _ (by omega)
  rw[surveyorref01_Whole.l0,surveyorref01_Whole.r0,show(v != 0)=true by simpa using vn,brT,e1,bdS,bdS,e3,e4,e5,
   show(⟨#[48,49,50,51,52,53,54,55,56,57]⟩:ByteArray)=bs [48,49,50,51,52,53,54,55,56,57] from rfl,sCut_bs _ _ _ (m % 10) (m % 10+1) rfl rfl (by omega) (by simp;omega),bdS,
   Nat.add_sub_cancel_left,ten_digit _ lt10,sCat_bs _ _ (by simp;omega),bdS,e2,bdS,ih f (m / 10) _ _ (by omega) (by omega) (by rcases eq with⟨_,e⟩ | ⟨_,e⟩<;>rw[e]<;>omega) (by omega) (by omega) (by simp;omega),D0_step h0]
  simp
theorem whole_ref(lf:Nat)(h3:200000≤lf){z:Int}(h1: -9223372036854775808≤z)(h2:z≤9223372036854775807):surveyorref01_Whole.f lf z=some (bs (Lib.itoa z),()):=by
 have p19:(10:Nat) ^ 19=10000000000000000000:=by decide
 rw[surveyorref01_Whole.f]
 by_cases h0:z=0
 ·subst h0
  rw[BEq.rfl,brT]
  have i0:Lib.itoa 0=[48]:=by unfold Lib.itoa;rw[if_neg (by omega)];exact dec_zero
  rw[i0]
 ·rw[show(z==0)=false from beq_eq_false_iff_ne.2 h0,brF,show(⟨#[]⟩:ByteArray)=bs [] from rfl,
   whole_l0 lf z 19 (lf+40) z.natAbs z [] (by omega) (by omega) (by omega) (by omega) (by omega) (by simp),bdS]
  simp only[List.append_nil]
  have e0:D0 z.natAbs=D z.natAbs:=by unfold D0;rw[if_neg (by omega)]
  rw[e0]
  by_cases hn:z < 0
  ·have ln:(D z.natAbs).length≤19:=dec_len_le 18 _ (by omega)
   rw[decide_eq_true hn,brT,show(⟨#[45]⟩:ByteArray)=bs [45] from rfl,sCat_bs [45] _ (by simp;omega),bdS]
   unfold Lib.itoa
   rw[if_pos hn];rfl
  ·rw[decide_eq_false hn,brF]
   unfold Lib.itoa
   rw[if_neg hn,show z.natAbs=z.toNat by omega]
end Go.N
namespace Go.N
open Go Go.Q Go.Rx
end Go.N
namespace Go.N
open Go Go.Q Go.Rx
set_option exponentiation.threshold 5000
theorem add_small(lf:Nat)(h3:200000≤lf){x y:Int}(hx: -K < x∧x < K)(hy: -K < y∧y < K)(hs: -K < x+y∧x+y < K):bigint_Add.f lf (bs (Lib.itoa x)) (bs (Lib.itoa y))=some (bs (Lib.itoa (x+y)),0,()):=by
 have h:=(sz_K (x+y)).2 hs
 rw[add_f lf _ _ ((chk_itoa x).2 hx) ((chk_itoa y).2 hy) h3,iv_itoa,iv_itoa,dlen_sz,if_neg (by omega)]
theorem i1:(⟨#[49]⟩:ByteArray)=bs (Lib.itoa 1):=by
 have:Lib.itoa 1=[49]:=by unfold Lib.itoa;rw[if_neg (by omega)];exact dec_small (by omega)
 rw[this]
theorem i0:(⟨#[48]⟩:ByteArray)=bs (Lib.itoa 0):=by
 have:Lib.itoa 0=[48]:=by unfold Lib.itoa;rw[if_neg (by omega)];exact dec_zero
 rw[this]
theorem im1:(⟨#[45,49]⟩:ByteArray)=bs (Lib.itoa (-1)):=by
 have:Lib.itoa (-1)=[45,49]:=by
  unfold Lib.itoa;rw[if_pos (by omega)]
  have:(-1:Int).natAbs=1:=rfl
  rw[this];congr 1;exact dec_small (by omega)
 rw[this]
end Go.N
namespace Go.N
open Go Go.Q Go.Rx
def E0:A:=⟨true,none,none⟩
theorem toA_non:toA non=E0:=by unfold toA;rw[if_pos emp_non];rfl
theorem emp_of_in{s:Sp}{z:Int}(h:inS s z=true):emp s=false:=by
 unfold inS at h
 simp only[Bool.and_eq_true,decide_eq_true_eq]at h
 exact decide_eq_false (by omega)
end Go.N
namespace Go.N
open Go.IntKind (i64)
open Go Go.Q Go.Rx
set_option exponentiation.threshold 5000
theorem CC_K:C*C+C+C+10 < K:=by
 have h1:C*C=((10 ^ 200:Nat):Int):=by
  unfold C
  rw[←Int.natCast_mul,←Nat.pow_add]
 have h2:((10 ^ 200:Nat):Int)*10≤K:=by
  unfold K
  have:(10:Nat) ^ 200*10≤10 ^ 4096:=by rw[←Nat.pow_succ];exact Nat.pow_le_pow_right (by omega) (by omega)
  have h:(((10 ^ 200*10:Nat):Int))≤((10 ^ 4096:Nat):Int):=Int.ofNat_le.2 this
  rw[Int.natCast_mul]at h
  exact h
 have h3:=C_gt
 have h4:C*1000000≤C*C:=Int.mul_le_mul_of_nonneg_left (by omega) (by omega)
 omega
@[irreducible] def Dd : Int := ((10 ^ 1000 : Nat) : Int)
theorem C_lt_Dd:C < Dd:=by
 unfold C Dd
 have:(10:Nat) ^ 100 < 10 ^ 1000:=Nat.pow_lt_pow_right (by omega) (by omega)
 exact Int.ofNat_lt.2 this
theorem DD_K:Dd*Dd+Dd+Dd+10 < K:=by
 have h1:Dd*Dd=((10 ^ 2000:Nat):Int):=by
  unfold Dd
  rw[←Int.natCast_mul,←Nat.pow_add]
 have h2:((10 ^ 2000:Nat):Int)*10≤K:=by
  unfold K
  have:(10:Nat) ^ 2000*10≤10 ^ 4096:=by rw[←Nat.pow_succ];exact Nat.pow_le_pow_right (by omega) (by omega)
  have h:(((10 ^ 2000*10:Nat):Int))≤((10 ^ 4096:Nat):Int):=Int.ofNat_le.2 this
  rw[Int.natCast_mul]at h
  exact h
 have h3:=C_gt
 have h5:=C_lt_Dd
 have h4:Dd*1000000≤Dd*Dd:=Int.mul_le_mul_of_nonneg_left (by omega) (by omega)
 omega
theorem Dd_K:Dd < K:=by
 have h:=DD_K
 have h3:=C_gt
 have h5:=C_lt_Dd
 have h4:0≤Dd*Dd:=Int.mul_nonneg (by omega) (by omega)
 omega
theorem mul_Dd{a b:Int}(ha: -Dd < a∧a < Dd)(hb: -Dd < b∧b < Dd): -(Dd*Dd) < a*b∧a*b < Dd*Dd:=by
 have hC:=C_gt
 have hD:=C_lt_Dd
 have h1:(a*b).natAbs=a.natAbs*b.natAbs:=Int.natAbs_mul a b
 have h2:((a*b).natAbs:Int)=(a.natAbs:Int)*(b.natAbs:Int):=by rw[h1,Int.natCast_mul]
 have h3:(a.natAbs:Int)*(b.natAbs:Int)≤(Dd-1)*(Dd-1):=Int.mul_le_mul (by omega) (by omega) (by omega) (by omega)
 have h4:(Dd-1)*(Dd-1)=Dd*Dd-Dd-Dd+1:=by grind
 omega
theorem mul_C{a b:Int}(ha: -C < a∧a < C)(hb: -C < b∧b < C): -(C*C) < a*b∧a*b < C*C:=by
 have hC:=C_gt
 have h1:(a*b).natAbs=a.natAbs*b.natAbs:=Int.natAbs_mul a b
 have h2:((a*b).natAbs:Int)=(a.natAbs:Int)*(b.natAbs:Int):=by rw[h1,Int.natCast_mul]
 have h3:(a.natAbs:Int)*(b.natAbs:Int)≤(C-1)*(C-1):=Int.mul_le_mul (by omega) (by omega) (by omega) (by omega)
 have h4:(C-1)*(C-1)=C*C-C-C+1:=by grind
 omega
theorem inf_f(lf:Nat)(i:Int):interval_infinite.f lf i=some ((i,bs [],()),()):=rfl
theorem inf_eq(lf:Nat){e v:Int}(h:e=v):(bd (interval_infinite.f lf e) fun r=>some (r.1,()))=some (((v,bs [],()):EB),()):=by subst h;rw[inf_f,bdS]
theorem xfin_f(lf:Nat)(z:Int):interval_finite.f lf (bs (Lib.itoa z))=some (xc (.fin z),()):=rfl
theorem chkK{z:Int}(h: -K < z∧z < K):chk (Lib.itoa z)=0:=(chk_itoa z).2 h
theorem isum_f(lf:Nat)(h3:200000≤lf){x y:Int}(hx: -K < x∧x < K)(hy: -K < y∧y < K)(hs: -K < x+y∧x+y < K):interval_sum.f lf (bs (Lib.itoa x)) (bs (Lib.itoa y))=some (bs (Lib.itoa (x+y)),()):=by
 rw[interval_sum.f,add_small lf h3 hx hy hs,bdS]
def xadd:X→X→X
 | .fin a,.fin b=>.fin (a+b)
 | .fin _,y=>y
 | x,_=>x
theorem added1_f(lf:Nat)(h3:200000≤lf){x y:X}(hx:okx C x)(hy:okx C y)(h:¬(x=.ni∧y=.pi)∧¬(x=.pi∧y=.ni)):interval_added_1.f lf (xc x) (xc y)=some (xc (xadd x y),()):=by
 have hK:=CC_K
 have hC:=C_gt
 have h4:0≤C*C:=Int.mul_nonneg (by omega) (by omega)
 rw[interval_added_1.f]
 cases x with
 | fin a=>cases y with
  | fin b =>
   simp only[okx]at hx hy
   simp only[xc,bne_self_eq_false,brF]
   rw[isum_f lf h3 (by omega) (by omega) (by omega),bdS,xfin_f,bdS];rfl
  | ni=>exact(brF _ _).trans ((brT _ _).trans (inf_eq lf rfl))
  | pi=>exact(brF _ _).trans ((brT _ _).trans (inf_eq lf rfl))
 | ni=>cases y with
  | pi=>exact absurd ⟨rfl,rfl⟩ h.1
  | ni=>exact(brT _ _).trans (inf_eq lf rfl)
  | fin b=>exact(brT _ _).trans (inf_eq lf rfl)
 | pi=>cases y with
  | ni=>exact absurd ⟨rfl,rfl⟩ h.2
  | pi=>exact(brT _ _).trans (inf_eq lf rfl)
  | fin b=>exact(brT _ _).trans (inf_eq lf rfl)
def Pr(s:Sp):Prop:=emp s=true∨(s.lo≠.pi∧s.hi≠.ni)
theorem Wf.pr{a:A}(h:Wf a):Pr (ofA a):=by
 unfold Pr ofA
 cases ea:a.em with
 | true=>left;rw[if_pos rfl];exact emp_non
 | false =>
  right
  rw[if_neg (by simp)]
  constructor
  ·cases a.lo<;>simp[lox]
  ·cases a.hi<;>simp[hix]
theorem key_xneg(x:X):key (xneg x)= -key x:=by cases x<;>simp[key,xneg]
theorem emp_turn{s:Sp}:emp (turn s)=emp s:=by
 unfold turn
 cases h:emp s with
 | true=>rw[if_pos rfl];exact emp_non
 | false =>
  rw[if_neg (by simp)]
  unfold emp at h⊢
  rw[key_xneg,key_xneg]
  rw[decide_eq_false_iff_not]at h⊢
  omega
theorem Pr.turn{s:Sp}(h:Pr s):Pr (turn s):=by
 unfold Pr
 rw[emp_turn]
 rcases h with h | h
 ·exact .inl h
 ·by_cases he:emp s=true
  ·exact .inl he
  ·right
   unfold Go.N.turn
   rw[if_neg he]
   obtain⟨lo,hi⟩:=s
   cases lo<;>cases hi<;>simp_all [xneg]
def addS(s t:Sp):Sp:=if emp s=true then non else if emp t=true then non else⟨xadd s.lo t.lo,xadd s.hi t.hi⟩
theorem xadd_ok{x y:X}(hx:okx C x)(hy:okx C y):okx K (xadd x y):=by
 have hK:=CC_K
 have hC:=C_gt
 have h4:0≤C*C:=Int.mul_nonneg (by omega) (by omega)
 cases x<;>cases y<;>simp only[xadd,okx]at*<;> omega
theorem addS_ok{s t:Sp}(hs:oks C s)(ht:oks C t):oks K (addS s t):=by
 unfold addS;split
 ·exact non_ok
 ·split
  ·exact non_ok
  ·exact⟨xadd_ok hs.1 ht.1,xadd_ok hs.2 ht.2⟩
theorem oks.K{s:Sp}(h:oks C s):oks K s:=h.mono (Int.le_of_lt C_lt_K)
theorem added_f(lf:Nat)(h3:200000≤lf){s t:Sp}(hs:oks C s)(ht:oks C t)(ps:Pr s)(pt:Pr t):interval_added.f lf (sc s) (sc t)=some (sc (addS s t),()):=by
 rw[interval_added.f,empty_f lf h3 hs.K,bdS,empty_f lf h3 ht.K]
 unfold addS
 cases e1:emp s with
 | true=>rw[brT,none_f,bdS,if_pos rfl]
 | false =>
  rw[brF,bdS,if_neg (by simp)]
  cases e2:emp t with
  | true=>rw[brT,none_f,bdS,if_pos rfl]
  | false =>
   rw[brF,if_neg (by simp)]
   have p1:=ps.resolve_left (by simp[e1])
   have p2:=pt.resolve_left (by simp[e2])
   simp only[sc]
   rw[added1_f lf h3 hs.1 ht.1 ⟨fun h=>p2.1 h.2,fun h=>p1.1 h.1⟩,bdS,added1_f lf h3 hs.2 ht.2 ⟨fun h=>p1.2 h.1,fun h=>p2.2 h.2⟩,bdS]
theorem iAdd_f(lf:Nat)(h3:200000≤lf){a b:A}(ha:Wf a)(hb:Wf b):interval_Add.f lf (ac a) (ac b)=some (ac (toA (addS (ofA a) (ofA b))),0,()):=by
 rw[interval_Add.f]
 simp only[check_wf lf h3 ha,check_wf lf h3 hb,bdS,bne_self_eq_false,brF,of_f,added_f lf h3 ha.okC hb.okC ha.pr hb.pr,interval_f lf h3 (addS_ok ha.okC hb.okC)]
theorem iSub_f(lf:Nat)(h3:200000≤lf){a b:A}(ha:Wf a)(hb:Wf b):interval_Sub.f lf (ac a) (ac b)=some (ac (toA (addS (ofA a) (turn (ofA b)))),0,()):=by
 rw[interval_Sub.f]
 simp only[check_wf lf h3 ha,check_wf lf h3 hb,bdS,bne_self_eq_false,brF,of_f,interval_Sub_1.f,turned_f lf h3 hb.okK,added_f lf h3 ha.okC (turn_ok hb.okC) ha.pr hb.pr.turn,interval_f lf h3 (addS_ok ha.okC (turn_ok hb.okC))]
def sg:X→Int
 | .ni=> -1
 | .fin z=>sgn z
 | .pi=>1
theorem sg_f(lf:Nat)(h3:200000≤lf){x:X}(hx:okx K x):interval_sign.f lf (xc x)=some (sg x,()):=by
 rw[interval_sign.f]
 cases x with
 | ni=>exact(brT _ _).trans rfl
 | pi=>exact(brT _ _).trans rfl
 | fin z =>
  simp only[xc,bne_self_eq_false,brF]
  rw[show(⟨#[48]⟩:ByteArray)=bs [48] from rfl,iorder_f lf _ _ ((chk_itoa z).2 hx) chk48 h3,bdS,iv_itoa,iv48,Int.sub_zero];rfl
theorem sg3(x:X):sg x= -1∨sg x=0∨sg x=1:=by
 cases x with
 | ni=>exact .inl rfl
 | pi=>exact .inr (.inr rfl)
 | fin z=>simp only[sg,sgn];(repeat' split)<;>omega
def xmul(x y:X):X:=if sg x*sg y=0 then .fin 0 else match x,y with
 | .fin a,.fin b=>.fin (a*b)
 | _,_=>if sg x*sg y=1 then .pi else .ni
theorem mul_small(lf:Nat)(h3:200000≤lf){x y:Int}(hx: -K < x∧x < K)(hy: -K < y∧y < K)(hs: -K < x*y∧x*y < K):bigint_Mul.f lf (bs (Lib.itoa x)) (bs (Lib.itoa y))=some (bs (Lib.itoa (x*y)),0,()):=by
 have h:=(sz_K (x*y)).2 hs
 rw[mul_f lf _ _ ((chk_itoa x).2 hx) ((chk_itoa y).2 hy) h3,iv_itoa,iv_itoa,dlen_sz,if_neg (by omega)]
theorem times_x(lf:Nat)(h3:200000≤lf){x y:X}(hx:okx C x)(hy:okx C y):interval_times.f lf (xc x) (xc y)=some (xc (xmul x y),()):=by
 have hCK:=C_lt_K
 have hK:=CC_K
 have hC:=C_gt
 have kx:=hx.mono (Int.le_of_lt hCK)
 have ky:=hy.mono (Int.le_of_lt hCK)
 rw[interval_times.f,sg_f lf h3 kx,bdS,sg_f lf h3 ky,bdS]
 have a:=sg3 x
 have b:=sg3 y
 have w:i64.wrap (sg x*sg y)=sg x*sg y:=by
  apply w64<;>rcases a with a | a | a<;>rcases b with b | b | b<;>rw[a,b]<;>decide
 simp only[w]
 unfold xmul
 by_cases h0:sg x*sg y=0
 ·rw[h0,BEq.rfl,brT,if_pos rfl,i0,xfin_f,bdS]
 ·rw[show(sg x*sg y==0)=false from beq_eq_false_iff_ne.2 h0,brF,if_neg h0]
  have one:sg x*sg y=1∨sg x*sg y= -1:=by
   rcases a with a | a | a<;>rcases b with b | b | b<;>rw[a,b]at h0⊢<;>simp at h0⊢
  cases x with
  | fin u=>cases y with
   | fin v =>
    have m:=mul_C hx hy
    simp only[okx]at kx ky
    simp only[xc,bne_self_eq_false,brF]
    rw[mul_small lf h3 kx ky (by omega),bdS,xfin_f,bdS];rfl
   | ni => 
    refine(brF _ _).trans ((brT _ _).trans ?_)
    rcases one with o | o
    ·rw[o,if_pos rfl];exact inf_eq lf rfl
    ·rw[o,if_neg (by decide)];exact inf_eq lf rfl
   | pi =>
    refine(brF _ _).trans ((brT _ _).trans ?_)
    rcases one with o | o
    ·rw[o,if_pos rfl];exact inf_eq lf rfl
    ·rw[o,if_neg (by decide)];exact inf_eq lf rfl
  | ni =>
   refine(brT _ _).trans ?_
   rcases one with o | o
   ·rw[o];cases y<;>exact inf_eq lf rfl
   ·rw[o];cases y<;>exact inf_eq lf rfl
  | pi =>
   refine(brT _ _).trans ?_
   rcases one with o | o
   ·rw[o];cases y<;>exact inf_eq lf rfl
   ·rw[o];cases y<;>exact inf_eq lf rfl
theorem xmul_ok{x y:X}(hx:okx C x)(hy:okx C y):okx K (xmul x y):=by
 have hK:=CC_K
 have hC:=C_gt
 have h4:0≤C*C:=Int.mul_nonneg (by omega) (by omega)
 unfold xmul
 split
 ·simp only[okx];omega
 ·cases x with
  | fin u=>cases y with
   | fin v =>
    have m:=mul_C hx hy
    simp only[okx];omega
   | ni=>simp only;split<;>trivial
   | pi=>simp only;split<;>trivial
  | ni=>simp only;split<;>trivial
  | pi=>simp only;split<;>trivial
theorem xmul_okD{x y:X}(hx:okx Dd x)(hy:okx Dd y):okx K (xmul x y):=by
 have hK:=DD_K
 have hC:=C_gt
 have hD:=C_lt_Dd
 have h4:0≤Dd*Dd:=Int.mul_nonneg (by omega) (by omega)
 unfold xmul
 split
 ·simp only[okx];omega
 ·cases x with
  | fin u=>cases y with
   | fin v =>
    have m:=mul_Dd hx hy
    simp only[okx];omega
   | ni=>simp only;split<;>trivial
   | pi=>simp only;split<;>trivial
  | ni=>simp only;split<;>trivial
  | pi=>simp only;split<;>trivial
theorem okx.D{x:X}(h:okx C x):okx Dd x:=h.mono (Int.le_of_lt C_lt_Dd)
def one(v:X):Sp:=⟨v,v⟩
def apS(o:X→X→X)(s t:Sp):Sp:=if emp s=true then non else if emp t=true then non else
 hull (hull (hull (hull non (one (o s.lo t.lo))) (one (o s.lo t.hi))) (one (o s.hi t.lo))) (one (o s.hi t.hi))
theorem one_ok{k:Int}{v:X}(h:okx k v):oks k (one v):=⟨h,h⟩
theorem apS_ok{o:X→X→X}{s t:Sp}(h:∀ x y,(x=s.lo∨x=s.hi)→(y=t.lo∨y=t.hi)→okx K (o x y)):oks K (apS o s t):=by
 unfold apS;split
 ·exact non_ok
 ·split
  ·exact non_ok
  ·exact hull_ok (hull_ok (hull_ok (hull_ok non_ok (one_ok (h _ _ (.inl rfl) (.inl rfl)))) (one_ok (h _ _ (.inl rfl) (.inr rfl)))) (one_ok (h _ _ (.inr rfl) (.inl rfl)))) (one_ok (h _ _ (.inr rfl) (.inr rfl)))
theorem mulS_ok{s t:Sp}(hs:oks C s)(ht:oks C t):oks K (apS xmul s t):=apS_ok fun x y hx hy=>by
 rcases hx with rfl | rfl<;>rcases hy with rfl | rfl<;>exact xmul_ok (by first | exact hs.1 | exact hs.2) (by first | exact ht.1 | exact ht.2)
theorem iMul_f(lf:Nat)(h3:200000≤lf){a b:A}(ha:Wf a)(hb:Wf b):interval_Mul.f lf (ac a) (ac b)=some (ac (toA (apS xmul (ofA a) (ofA b))),0,()):=by
 rw[interval_Mul.f]
 have hs:=ha.okC
 have ht:=hb.okC
 have c1:=xmul_ok hs.1 ht.1
 have c2:=xmul_ok hs.1 ht.2
 have c3:=xmul_ok hs.2 ht.1
 have c4:=xmul_ok hs.2 ht.2
 have g1:=hull_ok non_ok (one_ok c1)
 have g2:=hull_ok g1 (one_ok c2)
 have g3:=hull_ok g2 (one_ok c3)
 have g4:=hull_ok g3 (one_ok c4)
 have so:∀ v:X,((xc v,xc v,()):EB×(EB×Unit))=sc (one v):=fun _=>rfl
 simp only[check_wf lf h3 ha,check_wf lf h3 hb,bdS,bne_self_eq_false,brF,of_f,empty_f lf h3 hs.K,empty_f lf h3 ht.K,none_f,interval_f lf h3 non_ok]
 unfold apS
 cases emp (ofA a)with
 | true=>simp only[brT,if_true]
 | false =>
  cases emp (ofA b)with
  | true=>simp only[brT,brF,Bool.false_eq_true,if_true,if_false]
  | false =>
   simp only[brF,Bool.false_eq_true,if_false]
   have x1:(sc (ofA a)).1=xc (ofA a).lo:=rfl
   have x2:(sc (ofA a)).2.1=xc (ofA a).hi:=rfl
   have x3:(sc (ofA b)).1=xc (ofA b).lo:=rfl
   have x4:(sc (ofA b)).2.1=xc (ofA b).hi:=rfl
   simp only[x1,x2,x3,x4,times_x lf h3 hs.1 ht.1,times_x lf h3 hs.1 ht.2,times_x lf h3 hs.2 ht.1,times_x lf h3 hs.2 ht.2,bdS,so,hull_f lf h3 non_ok (one_ok c1),hull_f lf h3 g1 (one_ok c2),hull_f lf h3 g2 (one_ok c3),hull_f lf h3 g3 (one_ok c4),interval_f lf h3 g4]
end Go.N
namespace Go.N
open Go Go.Q Go.Rx
def xover:X→X→X
 | .fin a,.fin b=>.fin (a.fdiv b)
 | .fin a,_=>if a < 0 then .fin (-1)else .fin 0
 | x,_=>x
theorem quo_small(lf:Nat)(hlf:2000000000≤lf){x y:Int}(hx: -K < x∧x < K)(hy: -K < y∧y < K)(h0:y≠0):bigint_Quo.f lf (bs (Lib.itoa x)) (bs (Lib.itoa y))=some (bs (Lib.itoa (x.fdiv y)),0,()):=by
 rw[quo_f lf hlf _ _ (chkK hx) (chkK hy),iv_itoa,iv_itoa,if_neg h0]
theorem sg_key(x:X):(sg x < 0↔key x < 0)∧(sg x=0↔key x=0)∧(0 < sg x↔0 < key x):=by
 have:=K_gt
 cases x with
 | ni=>simp only[sg,key];omega
 | pi=>simp only[sg,key];omega
 | fin z=>simp only[sg,key,sgn];(repeat' split)<;>omega
theorem over_x(lf:Nat)(hlf:2000000000≤lf){x y:X}(hx:okx C x)(hy:okx C y)(h0:y≠.fin 0):interval_over.f lf (xc x) (xc y)=some (xc (xover x y),()):=by
 have hK:=C_lt_K
 rw[interval_over.f]
 cases x with
 | ni=>exact(brT _ _).trans rfl
 | pi=>exact(brT _ _).trans rfl
 | fin a =>
  have s:=sg_f lf (by omega) (x:=.fin a) (hx.mono (Int.le_of_lt hK))
  simp only[okx]at hx
  rw[s]
  cases y with
  | fin b =>
   simp only[okx]at hy
   simp only[xc,bne_self_eq_false,brF,BEq.rfl,brT]
   rw[quo_small lf hlf (by omega) (by omega) (by intro e;exact h0 (by rw[e])),bdS,xfin_f,bdS];rfl
  | ni =>
   simp only[xc,bne_self_eq_false,brF,bdS,show((-1:Int)==0)=false from rfl,show decide (sg (.fin a) < 0)=decide (a < 0) from by have:=(sg_key (.fin a)).1;simp only[decide_eq_decide];exact this,xover]
   by_cases h:a < 0
   ·rw[decide_eq_true h,brT,if_pos h,im1,xfin_f,bdS];rfl
   ·rw[decide_eq_false h,brF,if_neg h,i0,xfin_f,bdS];rfl
  | pi =>
   simp only[xc,bne_self_eq_false,brF,bdS,show((1:Int)==0)=false from rfl,show decide (sg (.fin a) < 0)=decide (a < 0) from by have:=(sg_key (.fin a)).1;simp only[decide_eq_decide];exact this,xover]
   by_cases h:a < 0
   ·rw[decide_eq_true h,brT,if_pos h,im1,xfin_f,bdS];rfl
   ·rw[decide_eq_false h,brF,if_neg h,i0,xfin_f,bdS];rfl
theorem fdiv_C{a b k:Int}(hk:1 < k)(ha: -k < a∧a < k)(hb:1≤b): -k < a.fdiv b∧a.fdiv b < k:=by
 have m:=Int.mul_fdiv_add_fmod a b
 have r0:=Int.fmod_nonneg_of_pos a (show 0 < b by omega)
 have r1:=Int.fmod_lt_of_pos a (show 0 < b by omega)
 rcases Int.lt_or_le (a.fdiv b) 0 with z | z
 ·have:=Int.mul_le_mul_of_nonneg_right hb (show 0≤-a.fdiv b-1 by omega)
  have e:b*(-a.fdiv b-1)= -(b*a.fdiv b)-b:=by grind
  omega
 ·have:=Int.mul_le_mul_of_nonneg_right hb z
  omega
theorem xover_ok{x y:X}(hx:okx C x)(hy:∀ b,y=.fin b→1≤b):okx C (xover x y):=by
 have hC:=C_gt
 cases x with
 | ni=>trivial
 | pi=>trivial
 | fin a=>cases y with
  | fin b=>exact fdiv_C (by omega) hx (hy b rfl)
  | ni=>simp only[xover];split<;>simp only[okx]<;>omega
  | pi=>simp only[xover];split<;>simp only[okx]<;>omega
theorem xover_okD{x y:X}(hx:okx Dd x)(hy:∀ b,y=.fin b→1≤b):okx Dd (xover x y):=by
 have hC:=C_gt
 have hD:=C_lt_Dd
 cases x with
 | ni=>trivial
 | pi=>trivial
 | fin a=>cases y with
  | fin b=>exact fdiv_C (by omega) hx (hy b rfl)
  | ni=>simp only[xover];split<;>simp only[okx]<;>omega
  | pi=>simp only[xover];split<;>simp only[okx]<;>omega
def posS(s:Sp):Sp:=common s ⟨.fin 1,.pi⟩
theorem one_okx{z:Int}(h1: -10≤z)(h2:z≤10):okx C (.fin z):=by have:=C_gt;simp only[okx];omega
theorem posS_ok{s:Sp}(h:oks C s):oks C (posS s):=common_ok h ⟨one_okx (by decide) (by decide),trivial⟩
theorem positive_f(lf:Nat)(h3:200000≤lf){s:Sp}(hs:oks C s):interval_span_positive.f lf (sc s)=some (sc (posS s),()):=by
 rw[interval_span_positive.f,i1,xfin_f,bdS,inf_f,bdS]
 have:=common_f lf h3 hs.K (t:=⟨.fin 1,.pi⟩) ⟨(one_okx (by decide) (by decide)).mono (Int.le_of_lt C_lt_K),trivial⟩
 rw[show((xc (X.fin 1),(1,bs [],()),()):EB×(EB×Unit))=sc ⟨.fin 1,.pi⟩ from rfl,this,bdS];rfl
theorem posS_lo{s:Sp}(he:emp (posS s)=false)(hs:oks C s)(hp:Pr s):∃ l,(posS s).lo=.fin l∧1≤l∧key s.lo≤l∧(∀ h,(posS s).hi=.fin h→l≤h)∧(posS s).hi=s.hi∧s.hi≠.ni:=by
 have hK:=C_lt_K
 have hC:=C_gt
 have kl:=key_le (hs.K.1)
 have kh:=key_le (hs.K.2)
 obtain⟨lo,hi⟩:=s
 unfold emp at he
 have he:=of_decide_eq_false he
 simp only[posS,common]at he⊢
 have k2:xmin hi .pi=hi:=by
  unfold xmin
  rw[show key .pi=K from rfl]
  split
  ·simp only at kh;omega
  ·rfl
 rw[k2]at he⊢
 rw[key_max]at he
 have e1:key (.fin 1)=1:=rfl
 rw[e1]at he
 simp only at kl kh
 have hl:lo≠.pi:=by
  rintro rfl
  rcases hp with h | h
  ·unfold emp at h
   simp only[decide_eq_true_eq]at h
   omega
  ·exact h.1 rfl
 have hn:hi≠.ni:=by
  rintro rfl
  simp only[key]at he
  omega
 refine⟨max (key lo) 1,?_,by omega,by omega,?_,rfl,hn⟩
 ·by_cases h:key lo < 1
  ·rw[xmax_t (show key lo < key (.fin 1) from h)];congr 1;omega
  ·rw[xmax_f (show ¬key lo < key (.fin 1) from h)]
   cases lo with
   | pi=>exact absurd rfl hl
   | ni=>exfalso;simp only[key]at h;omega
   | fin z=>simp only[key]at h⊢;congr 1;omega
 ·intro h e
  have:key hi=h:=by rw[e];rfl
  omega
theorem posS_ends{s:Sp}(he:emp (posS s)=false)(hs:oks C s)(hp:Pr s):∀ y,(y=(posS s).lo∨y=(posS s).hi)→∀ b,y=.fin b→1≤b:=by
 obtain⟨l,e1,e2,e3,e4,e5,e6⟩:=posS_lo he hs hp
 intro y hy b hb
 rcases hy with rfl | rfl
 ·rw[e1]at hb
  injection hb with hb
  omega
 ·have:=e4 b hb;omega
def quoS(s t:Sp):Sp :=
 if emp s=true then non else
 hull (if emp (posS t)=true then non else apS xover s (posS t)) (if emp (posS (turn t))=true then non else apS xover (turn s) (posS (turn t)))
theorem hull_non(s:Sp)(h:emp s=false∨s=non):hull s non=s:=by
 unfold hull
 rcases h with h | rfl
 ·rw[if_neg (by simp[h]),if_pos emp_non]
 ·rw[if_pos emp_non]
theorem emp_one(v:X):emp (one v)=false:=by unfold emp one;simp
theorem hull_emp{s t:Sp}(hs:emp s=false)(ht:emp t=false):emp (hull s t)=false:=by
 unfold hull
 rw[if_neg (by simp[hs]),if_neg (by simp[ht])]
 unfold emp at hs ht⊢
 simp only[decide_eq_false_iff_not,key_min,key_max]at hs ht⊢
 omega
theorem non_hull(s:Sp):hull non s=s:=by unfold hull;rw[if_pos emp_non]
theorem apS_emp{o:X→X→X}{s t:Sp}(h1:emp s=false)(h2:emp t=false):emp (apS o s t)=false:=by
 unfold apS
 rw[if_neg (by simp[h1]),if_neg (by simp[h2]),non_hull]
 exact hull_emp (hull_emp (hull_emp (emp_one _) (emp_one _)) (emp_one _)) (emp_one _)
set_option maxHeartbeats 4000000 in
theorem iQuo_f(lf:Nat)(hlf:2000000000≤lf){a b:A}(ha:Wf a)(hb:Wf b):interval_Quo.f lf (ac a) (ac b)=some (ac (toA (quoS (ofA a) (ofA b))),0,()):=by
 have h3:200000≤lf:=by omega
 rw[interval_Quo.f]
 have hs:=ha.okC
 have ht:=hb.okC
 have pt:=hb.pr
 have ts:=turn_ok hs
 have tt:=turn_ok ht
 have et:emp (turn (ofA a))=emp (ofA a):=emp_turn
 have so:∀ v:X,((xc v,xc v,()):EB×(EB×Unit))=sc (one v):=fun _=>rfl
 simp only[check_wf lf h3 ha,check_wf lf h3 hb,bdS,bne_self_eq_false,brF,of_f,empty_f lf h3 hs.K,positive_f lf h3 ht,turned_f lf h3 ht.K,positive_f lf h3 tt,empty_f lf h3 (posS_ok ht).K,empty_f lf h3 (posS_ok tt).K,turned_f lf h3 hs.K,empty_f lf h3 ts.K,et,none_f,interval_f lf h3 non_ok,interval_Quo_1.f]
 unfold quoS
 generalize hS:ofA a=s at *
 generalize hT:ofA b=t at *
 have x1:(sc s).1=xc s.lo:=rfl
 have x2:(sc s).2.1=xc s.hi:=rfl
 have x3:(sc (posS t)).1=xc (posS t).lo:=rfl
 have x4:(sc (posS t)).2.1=xc (posS t).hi:=rfl
 have x5:(sc (turn s)).1=xc (turn s).lo:=rfl
 have x6:(sc (turn s)).2.1=xc (turn s).hi:=rfl
 have x7:(sc (posS (turn t))).1=xc (posS (turn t)).lo:=rfl
 have x8:(sc (posS (turn t))).2.1=xc (posS (turn t)).hi:=rfl
 have nz:∀ {u:Sp} (h:∀ y,(y=u.lo∨y=u.hi)→∀ b,y=.fin b→1≤b),u.lo≠.fin 0∧u.hi≠.fin 0:=fun h=>⟨fun e=>by have:=h _ (.inl rfl) 0 e;omega,fun e=>by have:=h _ (.inr rfl) 0 e;omega⟩
 have ov:∀ {x y:X},okx C x→(∀ b,y=.fin b→1≤b)→okx K (xover x y):=fun hx hy=>(xover_ok hx hy).mono (Int.le_of_lt C_lt_K)
 cases e1:emp s with
 | true=>simp only[brF,brT,Bool.not_true,Bool.not_false,if_true];cases emp (posS t)<;>simp only[brF,brT,Bool.not_true,Bool.not_false]<;>cases emp (posS (turn t))<;>simp only[brF,brT,Bool.not_true,Bool.not_false]
 | false =>
  cases e2:emp (posS t)with
  | true =>
   simp only[brF,brT,Bool.not_true,Bool.not_false,if_true,if_false,Bool.false_eq_true]
   cases e3:emp (posS (turn t))with
   | true =>
    simp only[brF,brT,Bool.not_true,Bool.not_false,if_true,if_false,Bool.false_eq_true]
    rw[non_hull]
   | false =>
    have en:=posS_ends e3 tt pt.turn
    have n:=nz en
    have c1:=ov ts.1 (en _ (.inl rfl))
    have c2:=ov ts.1 (en _ (.inr rfl))
    have c3:=ov ts.2 (en _ (.inl rfl))
    have c4:=ov ts.2 (en _ (.inr rfl))
    have g1:=hull_ok non_ok (one_ok c1)
    have g2:=hull_ok g1 (one_ok c2)
    have g3:=hull_ok g2 (one_ok c3)
    have g4:=hull_ok g3 (one_ok c4)
    have pk:=posS_ok tt
    simp only[brF,brT,Bool.not_true,Bool.not_false,if_true,if_false,Bool.false_eq_true,x5,x6,x7,x8,over_x lf hlf ts.1 pk.1 n.1,over_x lf hlf ts.1 pk.2 n.2,over_x lf hlf ts.2 pk.1 n.1,over_x lf hlf ts.2 pk.2 n.2,bdS,so,hull_f lf h3 non_ok (one_ok c1),hull_f lf h3 g1 (one_ok c2),hull_f lf h3 g2 (one_ok c3),hull_f lf h3 g3 (one_ok c4)]
    have ea':apS xover (turn s) (posS (turn t))=hull (hull (hull (hull non (one (xover (turn s).lo (posS (turn t)).lo))) (one (xover (turn s).lo (posS (turn t)).hi))) (one (xover (turn s).hi (posS (turn t)).lo))) (one (xover (turn s).hi (posS (turn t)).hi)):=by
     unfold apS;rw[if_neg (by simp[et,e1]),if_neg (by simp[e3])]
    rw[←ea']at g4⊢
    rw[hull_f lf h3 non_ok g4,bdS,interval_f lf h3 (hull_ok non_ok g4),bdS]
  | false =>
   have en:=posS_ends e2 ht pt
   have n:=nz en
   have c1:=ov hs.1 (en _ (.inl rfl))
   have c2:=ov hs.1 (en _ (.inr rfl))
   have c3:=ov hs.2 (en _ (.inl rfl))
   have c4:=ov hs.2 (en _ (.inr rfl))
   have g1:=hull_ok non_ok (one_ok c1)
   have g2:=hull_ok g1 (one_ok c2)
   have g3:=hull_ok g2 (one_ok c3)
   have g4:=hull_ok g3 (one_ok c4)
   have pk:=posS_ok ht
   simp only[brF,brT,Bool.not_true,Bool.not_false,if_true,if_false,Bool.false_eq_true,x1,x2,x3,x4,over_x lf hlf hs.1 pk.1 n.1,over_x lf hlf hs.1 pk.2 n.2,over_x lf hlf hs.2 pk.1 n.1,over_x lf hlf hs.2 pk.2 n.2,bdS,so,hull_f lf h3 non_ok (one_ok c1),hull_f lf h3 g1 (one_ok c2),hull_f lf h3 g2 (one_ok c3),hull_f lf h3 g3 (one_ok c4),interval_f lf h3 g4]
   have ea:apS xover s (posS t)=hull (hull (hull (hull non (one (xover s.lo (posS t).lo))) (one (xover s.lo (posS t).hi))) (one (xover s.hi (posS t).lo))) (one (xover s.hi (posS t).hi)):=by
    unfold apS;rw[if_neg (by simp[e1]),if_neg (by simp[e2])]
   rw[←ea]at g4⊢
   have ne:=apS_emp (o:=xover) e1 e2
   cases e3:emp (posS (turn t))with
   | true =>
    simp only[brF,brT,Bool.not_true,Bool.not_false,if_true,if_false,Bool.false_eq_true]
    rw[hull_non _ (.inl ne)]
   | false =>
    have en':=posS_ends e3 tt pt.turn
    have n':=nz en'
    have c1':=ov ts.1 (en' _ (.inl rfl))
    have c2':=ov ts.1 (en' _ (.inr rfl))
    have c3':=ov ts.2 (en' _ (.inl rfl))
    have c4':=ov ts.2 (en' _ (.inr rfl))
    have g1':=hull_ok non_ok (one_ok c1')
    have g2':=hull_ok g1' (one_ok c2')
    have g3':=hull_ok g2' (one_ok c3')
    have g4':=hull_ok g3' (one_ok c4')
    have pk':=posS_ok tt
    simp only[brF,brT,Bool.not_true,Bool.not_false,if_true,if_false,Bool.false_eq_true,x5,x6,x7,x8,over_x lf hlf ts.1 pk'.1 n'.1,over_x lf hlf ts.1 pk'.2 n'.2,over_x lf hlf ts.2 pk'.1 n'.1,over_x lf hlf ts.2 pk'.2 n'.2,bdS,so,hull_f lf h3 non_ok (one_ok c1'),hull_f lf h3 g1' (one_ok c2'),hull_f lf h3 g2' (one_ok c3'),hull_f lf h3 g3' (one_ok c4')]
    have ea':apS xover (turn s) (posS (turn t))=hull (hull (hull (hull non (one (xover (turn s).lo (posS (turn t)).lo))) (one (xover (turn s).lo (posS (turn t)).hi))) (one (xover (turn s).hi (posS (turn t)).lo))) (one (xover (turn s).hi (posS (turn t)).hi)):=by
     unfold apS;rw[if_neg (by simp[et,e1]),if_neg (by simp[e3])]
    rw[←ea']at g4'⊢
    rw[hull_f lf h3 g4 g4',bdS,interval_f lf h3 (hull_ok g4 g4'),bdS]
end Go.N
namespace Go.N
open Go Go.Q Go.Rx
def negS(s:Sp):Sp:=common s ⟨.ni,.fin (-1)⟩
def zerS(s:Sp):Sp:=common s ⟨.fin 0,.fin 0⟩
theorem hullNE{s t:Sp}(hs:emp s=false)(ht:emp t=false):hull s t=⟨xmin s.lo t.lo,xmax s.hi t.hi⟩:=by
 unfold hull;rw[if_neg (by simp[hs]),if_neg (by simp[ht])]
def Po:X→Prop
 | .fin b=>1≤b
 | .pi=>True
 | .ni=>False
theorem fdiv_mono{a a' b:Int}(hb:1≤b)(h:a≤a'):a.fdiv b≤a'.fdiv b:=by
 rw[Int.fdiv_eq_ediv_of_nonneg _ (by omega),Int.fdiv_eq_ediv_of_nonneg _ (by omega)]
 exact Int.ediv_le_ediv (by omega) h
theorem fdiv_nn{a b:Int}(hb:1≤b)(h:0≤a):0≤a.fdiv b:=by
 have:=fdiv_mono (a:=0) hb h
 rwa [Int.zero_fdiv]at this
theorem fdiv_ng{a b:Int}(hb:1≤b)(h:a < 0):a.fdiv b≤-1:=by
 have m:=Int.mul_fdiv_add_fmod a b
 have r0:=Int.fmod_nonneg_of_pos a (show 0 < b by omega)
 by_cases z:a.fdiv b≤-1
 ·exact z
 ·have:=Int.mul_nonneg (show 0≤b by omega) (show 0≤a.fdiv b by omega);omega
theorem xo_mono{x x' y:X}(hx:okx Dd x)(hx':okx Dd x')(hy:Po y)(h:key x≤key x'):key (xover x y)≤key (xover x' y):=by
 have hK:=Dd_K
 have hC:=Int.lt_trans C_gt C_lt_Dd
 have po:∀ b,y=.fin b→1≤b:=fun b e=>by subst e;exact hy
 have k1:=key_le ((xover_okD hx po).mono (Int.le_of_lt hK))
 have k2:=key_le ((xover_okD hx' po).mono (Int.le_of_lt hK))
 cases x with
 | ni=>exact k2.1
 | pi=>cases x' with
  | pi=>exact Int.le_refl _
  | ni=>simp only[key]at h;omega
  | fin z=>simp only[key,okx]at h hx';omega
 | fin z=>cases x' with
  | pi=>exact k1.2
  | ni=>simp only[key,okx]at h hx;omega
  | fin w =>
   simp only[key]at h
   cases y with
   | ni=>exact hy.elim
   | fin b=>exact fdiv_mono hy h
   | pi=>simp only[xover];split<;>split<;>simp only[key]<;>omega
theorem xo_neg{x y y':X}(hx:okx Dd x)(hy:Po y)(hy':Po y')(oy:okx Dd y)(oy':okx Dd y')(h:key y≤key y')(hn:key x < 0):key (xover x y)≤key (xover x y'):=by
 have hK:=Dd_K
 have hC:=Int.lt_trans C_gt C_lt_Dd
 cases x with
 | ni=>exact Int.le_refl _
 | pi=>simp only[key]at hn;omega
 | fin z =>
  simp only[key]at hn
  cases y with
  | ni=>exact hy.elim
  | pi=>cases y' with
   | ni=>exact hy'.elim
   | pi=>exact Int.le_refl _
   | fin b=>simp only[key,okx]at h oy';omega
  | fin b=>cases y' with
   | ni=>exact hy'.elim
   | pi =>
    simp only[xover];rw[if_pos hn];exact fdiv_ng hy hn
   | fin c =>
    simp only[key]at h
    simp only[xover,key]
    have m:=Int.mul_fdiv_add_fmod z b
    have m':=Int.mul_fdiv_add_fmod z c
    have r0:=Int.fmod_nonneg_of_pos z (show 0 < b by have:1≤b:=hy;omega)
    have r1:=Int.fmod_lt_of_pos z (show 0 < c by have:1≤c:=hy';omega)
    have q:=fdiv_ng (b:=b) hy hn
    by_cases g:z.fdiv b≤z.fdiv c
    ·exact g
    ·have hb:1≤b:=hy
     have e1:=Int.mul_le_mul_of_nonneg_left (show z.fdiv c+1≤z.fdiv b by omega) (show 0≤c by have:1≤c:=hy';omega)
     have e2:=Int.mul_le_mul_of_nonneg_right h (show 0≤-z.fdiv b by omega)
     rw[Int.mul_add]at e1
     rw[Int.mul_neg,Int.mul_neg]at e2
     omega
theorem xo_pos{x y y':X}(hx:okx Dd x)(hy:Po y)(hy':Po y')(oy:okx Dd y)(oy':okx Dd y')(h:key y≤key y')(hn:0≤key x):key (xover x y')≤key (xover x y):=by
 have hK:=Dd_K
 have hC:=Int.lt_trans C_gt C_lt_Dd
 cases x with
 | pi=>exact Int.le_refl _
 | ni=>simp only[key]at hn;omega
 | fin z =>
  simp only[key]at hn
  cases y with
  | ni=>exact hy.elim
  | pi=>cases y' with
   | ni=>exact hy'.elim
   | pi=>exact Int.le_refl _
   | fin b=>simp only[key,okx]at h oy';omega
  | fin b=>cases y' with
   | ni=>exact hy'.elim
   | pi =>
    simp only[xover];rw[if_neg (by omega)];exact fdiv_nn hy hn
   | fin c =>
    simp only[key]at h
    simp only[xover,key]
    have m:=Int.mul_fdiv_add_fmod z b
    have m':=Int.mul_fdiv_add_fmod z c
    have r0:=Int.fmod_nonneg_of_pos z (show 0 < c by have:1≤c:=hy';omega)
    have r1:=Int.fmod_lt_of_pos z (show 0 < b by have:1≤b:=hy;omega)
    have q:=fdiv_nn (b:=c) hy' hn
    by_cases g:z.fdiv c≤z.fdiv b
    ·exact g
    ·have e1:=Int.mul_le_mul_of_nonneg_left (show z.fdiv b+1≤z.fdiv c by omega) (show 0≤b by have:1≤b:=hy;omega)
     have e2:=Int.mul_le_mul_of_nonneg_right h q
     rw[Int.mul_add]at e1
     omega
section
variable (lf:Nat)(h3:200000≤lf)
include h3
end
end Go.N
namespace Go.N
open Go Go.Q Go.Rx
section
variable (lf:Nat)(h3:200000≤lf)
include h3
end
theorem posS_Po{s:Sp}(he:emp (posS s)=false)(hs:oks C s)(hp:Pr s):∃ l,(posS s).lo=.fin l∧1≤l∧Po (posS s).hi:=by
 obtain⟨l,e1,e2,e3,e4,e5,e6⟩:=posS_lo he hs hp
 refine⟨l,e1,e2,?_⟩
 cases h:(posS s).hi with
 | ni=>rw[e5]at h;exact absurd h e6
 | pi=>trivial
 | fin z=>have:=e4 z h;simp only[Po];omega
theorem negS_ok{s:Sp}(h:oks C s):oks C (negS s):=common_ok h ⟨trivial,one_okx (by decide) (by decide)⟩
theorem zerS_ok{s:Sp}(h:oks C s):oks C (zerS s):=common_ok h ⟨one_okx (by decide) (by decide),one_okx (by decide) (by decide)⟩
section
variable (lf:Nat)(h3:200000≤lf)
include h3
end
end Go.N
namespace Go.N
open Go Go.Q Go.Rx
theorem sg_neg(x:X):sg (xneg x)= -sg x:=by
 cases x with
 | ni=>rfl
 | pi=>rfl
 | fin z=>simp only[xneg,sg,sgn];(repeat' split)<;>omega
theorem xmul_comm(x y:X):xmul x y=xmul y x:=by
 unfold xmul
 rw[Int.mul_comm (sg y) (sg x)]
 split
 ·rfl
 ·cases x<;>cases y<;>simp only[Int.mul_comm]
theorem xmul_neg(x y:X):xmul (xneg x) y=xneg (xmul x y):=by
 unfold xmul
 rw[sg_neg,Int.neg_mul]
 have a:=sg3 x
 have b:=sg3 y
 by_cases h:sg x*sg y=0
 ·rw[h,if_pos (by decide),if_pos rfl];rfl
 ·rw[if_neg (by omega),if_neg h]
  have one:sg x*sg y=1∨sg x*sg y= -1:=by
   rcases a with a | a | a<;>rcases b with b | b | b<;>rw[a,b]at h⊢<;>simp at h⊢
  cases x<;>cases y<;>simp only[xneg,Int.neg_mul]<;>rcases one with o | o<;>rw[o]<;>rfl
theorem xmul_neg'(x y:X):xmul x (xneg y)=xneg (xmul x y):=by rw[xmul_comm,xmul_neg,xmul_comm]
theorem key_mul_sg{x y:X}:(key (xmul x y) < 0↔sg x*sg y < 0)∧(key (xmul x y)=0↔sg x*sg y=0):=by
 have hK:=K_gt
 have a:=sg3 x
 have b:=sg3 y
 unfold xmul
 by_cases h:sg x*sg y=0
 ·rw[if_pos h,h];simp[key]
 ·rw[if_neg h]
  have one:sg x*sg y=1∨sg x*sg y= -1:=by
   rcases a with a | a | a<;>rcases b with b | b | b<;>rw[a,b]at h⊢<;>simp at h⊢
  have inf:(key (if sg x*sg y=1 then X.pi else X.ni) < 0↔sg x*sg y < 0)∧(key (if sg x*sg y=1 then X.pi else X.ni)=0↔sg x*sg y=0):=by
   rcases one with o | o<;>rw[o]
   ·rw[if_pos rfl,show key X.pi=K from rfl];omega
   ·rw[if_neg (by decide),show key X.ni= -K from rfl];omega
  cases x with
  | fin u=>cases y with
   | fin v =>
    simp only[key]
    have ku:=sg_key (.fin u)
    have kv:=sg_key (.fin v)
    simp only[key]at ku kv
    rcases a with a | a | a<;>rcases b with b | b | b<;>rw[a,b]at h⊢<;>simp at h⊢
    ·have:=Int.mul_pos_of_neg_of_neg (show u < 0 by omega) (show v < 0 by omega);omega
    ·have:=Int.mul_neg_of_neg_of_pos (show u < 0 by omega) (show 0 < v by omega);omega
    ·have:=Int.mul_neg_of_pos_of_neg (show 0 < u by omega) (show v < 0 by omega);omega
    ·have:=Int.mul_pos (show 0 < u by omega) (show 0 < v by omega);omega
   | ni=>exact inf
   | pi=>exact inf
  | ni=>exact inf
  | pi=>exact inf
theorem xmul_ff{a b:Int}:xmul (.fin a) (.fin b)=.fin (a*b):=by
 unfold xmul
 split
 ·rename_i h
  have:=(key_mul_sg (x:=.fin a) (y:=.fin b)).2
  have ka:=sg_key (.fin a)
  have kb:=sg_key (.fin b)
  simp only[key]at ka kb
  rcases Int.mul_eq_zero.1 h with z | z
  ·rw[ka.2.1.1 z,Int.zero_mul]
  ·rw[kb.2.1.1 z,Int.mul_zero]
 ·rfl
theorem xmul_mono{x x' y:X}(hx:okx Dd x)(hx':okx Dd x')(hy:okx Dd y)(h:key x≤key x')(h0:0≤key y):key (xmul x y)≤key (xmul x' y):=by
 have hK:=K_gt
 have hC:=Dd_K
 have k1:=key_le (xmul_okD hx hy)
 have k2:=key_le (xmul_okD hx' hy)
 have s1:=key_mul_sg (x:=x) (y:=y)
 have s2:=key_mul_sg (x:=x') (y:=y)
 have gx:=sg_key x
 have gx':=sg_key x'
 have gy:=sg_key y
 have a:=sg3 x
 have a':=sg3 x'
 have b:=sg3 y
 have inf:∀ {u v:X},(u=.ni∨u=.pi∨v=.ni∨v=.pi)→key (xmul u v)=sg u*sg v*K:=by
  intro u v hu
  have c:=sg3 u
  have d:=sg3 v
  unfold xmul
  by_cases hz:sg u*sg v=0
  ·rw[if_pos hz,hz];simp[key]
  ·rw[if_neg hz]
   have one:sg u*sg v=1∨sg u*sg v= -1:=by
    rcases c with c | c | c<;>rcases d with d | d | d<;>rw[c,d]at hz⊢<;>simp at hz⊢
   have f:key (if sg u*sg v=1 then X.pi else X.ni)=sg u*sg v*K:=by
    rcases one with o | o<;>rw[o]
    ·rw[if_pos rfl,show key X.pi=K from rfl];omega
    ·rw[if_neg (by decide),show key X.ni= -K from rfl];omega
   rcases hu with rfl | rfl | rfl | rfl
   ·exact f
   ·exact f
   ·cases u<;>exact f
   ·cases u<;>exact f
 by_cases y0:key y=0
 ·have:sg y=0:=by omega
  have e1:key (xmul x y)=0:=s1.2.2 (by rw[this,Int.mul_zero])
  have e2:key (xmul x' y)=0:=s2.2.2 (by rw[this,Int.mul_zero])
  omega
 have y1:sg y=1:=by omega
 rw[y1,Int.mul_one]at s1 s2
 cases y with
 | ni=>simp only[key]at h0;omega
 | pi =>
  rw[inf (.inr (.inr (.inr rfl))),inf (.inr (.inr (.inr rfl))),y1,Int.mul_one,Int.mul_one]
  exact Int.mul_le_mul_of_nonneg_right (by omega) (by omega)
 | fin v =>
  cases x with
  | ni =>
   rw[inf (.inl rfl),y1,Int.mul_one,show sg X.ni= -1 from rfl];omega
  | pi =>
   cases x' with
   | pi=>exact Int.le_refl _
   | ni=>simp only[key]at h;omega
   | fin w=>simp only[key,okx]at h hx';omega
  | fin u=>cases x' with
   | pi =>
    rw[inf (u:=X.pi) (.inr (.inl rfl)),y1,Int.mul_one,show sg X.pi=1 from rfl];omega
   | ni=>simp only[key,okx]at h hx;omega
   | fin w =>
    rw[xmul_ff,xmul_ff]
    simp only[key]at h h0⊢
    exact Int.mul_le_mul_of_nonneg_right h h0
theorem xmul_anti{x x' y:X}(hx:okx Dd x)(hx':okx Dd x')(hy:okx Dd y)(h:key x≤key x')(h0:key y≤0):key (xmul x' y)≤key (xmul x y):=by
 have:=xmul_mono hx hx' (xneg_ok hy) h (by rw[key_xneg];omega)
 rw[xmul_neg',xmul_neg',key_xneg,key_xneg]at this
 omega
def El(s:Sp)(x:X):Prop:=okx Dd x∧key s.lo≤key x∧key x≤key s.hi
theorem El_lo{s:Sp}(hs:oks C s)(he:emp s=false):El s s.lo:=⟨hs.1.D,Int.le_refl _,by have:=of_decide_eq_false he;omega⟩
theorem El_hi{s:Sp}(hs:oks C s)(he:emp s=false):El s s.hi:=⟨hs.2.D,by have:=of_decide_eq_false he;omega,Int.le_refl _⟩
theorem corner{s t:Sp}(hs:oks C s)(ht:oks C t){x y:X}(hx:El s x)(hy:El t y):
  (∃ cx cy,(cx=s.lo∨cx=s.hi)∧(cy=t.lo∨cy=t.hi)∧key (xmul cx cy)≤key (xmul x y))∧(∃ cx cy,(cx=s.lo∨cx=s.hi)∧(cy=t.lo∨cy=t.hi)∧key (xmul x y)≤key (xmul cx cy)):=by
 have one:∀ {s:Sp} {x y:X},oks C s→El s x→okx Dd y→(∃ cx,(cx=s.lo∨cx=s.hi)∧key (xmul cx y)≤key (xmul x y))∧(∃ cx,(cx=s.lo∨cx=s.hi)∧key (xmul x y)≤key (xmul cx y)):=by
  intro s x y hs hx hy
  by_cases h:0≤key y
  ·exact⟨⟨_,.inl rfl,xmul_mono hs.1.D hx.1 hy hx.2.1 h⟩,⟨_,.inr rfl,xmul_mono hx.1 hs.2.D hy hx.2.2 h⟩⟩
  ·exact⟨⟨_,.inr rfl,xmul_anti hx.1 hs.2.D hy hx.2.2 (by omega)⟩,⟨_,.inl rfl,xmul_anti hs.1.D hx.1 hy hx.2.1 (by omega)⟩⟩
 obtain⟨⟨cx,c1,c2⟩,⟨dx,d1,d2⟩⟩:=one hs hx hy.1
 have okc:∀ {c:X},(c=s.lo∨c=s.hi)→okx Dd c:=fun h=>by rcases h with rfl | rfl;exact hs.1.D;exact hs.2.D
 obtain⟨⟨cy,e1,e2⟩,_⟩:=one ht hy (okc c1)
 obtain⟨_,⟨dy,f1,f2⟩⟩:=one ht hy (okc d1)
 rw[xmul_comm cy,xmul_comm y]at e2
 rw[xmul_comm dy,xmul_comm y]at f2
 exact⟨⟨cx,cy,c1,e1,by omega⟩,⟨dx,dy,d1,f1,by omega⟩⟩
theorem xmin_or(x y:X):xmin x y=x∨xmin x y=y:=by unfold xmin;split;exact .inr rfl;exact .inl rfl
theorem xmax_or(x y:X):xmax x y=x∨xmax x y=y:=by unfold xmax;split;exact .inr rfl;exact .inl rfl
theorem apS_ends{o:X→X→X}{s t:Sp}(hs:emp s=false)(ht:emp t=false):
  ((∃ x y,(x=s.lo∨x=s.hi)∧(y=t.lo∨y=t.hi)∧(apS o s t).lo=o x y)∧(∀ x y,(x=s.lo∨x=s.hi)→(y=t.lo∨y=t.hi)→key (apS o s t).lo≤key (o x y)))∧
  ((∃ x y,(x=s.lo∨x=s.hi)∧(y=t.lo∨y=t.hi)∧(apS o s t).hi=o x y)∧(∀ x y,(x=s.lo∨x=s.hi)→(y=t.lo∨y=t.hi)→key (o x y)≤key (apS o s t).hi)):=by
 have e:apS o s t=⟨xmin (xmin (xmin (o s.lo t.lo) (o s.lo t.hi)) (o s.hi t.lo)) (o s.hi t.hi),xmax (xmax (xmax (o s.lo t.lo) (o s.lo t.hi)) (o s.hi t.lo)) (o s.hi t.hi)⟩:=by
  unfold apS
  rw[if_neg (by simp[hs]),if_neg (by simp[ht]),non_hull,hullNE (emp_one _) (emp_one _)]
  have e1:=emp_one (o s.lo t.lo)
  have e2:=emp_one (o s.lo t.hi)
  have e3:=emp_one (o s.hi t.lo)
  have e4:=emp_one (o s.hi t.hi)
  have n1:=hull_emp e1 e2
  rw[hullNE e1 e2]at n1
  rw[hullNE n1 e3]
  have n2:=hull_emp n1 e3
  rw[hullNE n1 e3]at n2
  rw[hullNE n2 e4]
  rfl
 rw[e]
 refine⟨⟨?_,?_⟩,⟨?_,?_⟩⟩
 ·simp only
  rcases xmin_or (xmin (xmin (o s.lo t.lo) (o s.lo t.hi)) (o s.hi t.lo)) (o s.hi t.hi)with h | h<;>rw[h]
  ·rcases xmin_or (xmin (o s.lo t.lo) (o s.lo t.hi)) (o s.hi t.lo)with h | h<;>rw[h]
   ·rcases xmin_or (o s.lo t.lo) (o s.lo t.hi)with h | h<;>rw[h]
    ·exact⟨_,_,.inl rfl,.inl rfl,rfl⟩
    ·exact⟨_,_,.inl rfl,.inr rfl,rfl⟩
   ·exact⟨_,_,.inr rfl,.inl rfl,rfl⟩
  ·exact⟨_,_,.inr rfl,.inr rfl,rfl⟩
 ·intro x y hx hy
  simp only[key_min]
  rcases hx with rfl | rfl<;>rcases hy with rfl | rfl<;>omega
 ·simp only
  rcases xmax_or (xmax (xmax (o s.lo t.lo) (o s.lo t.hi)) (o s.hi t.lo)) (o s.hi t.hi)with h | h<;>rw[h]
  ·rcases xmax_or (xmax (o s.lo t.lo) (o s.lo t.hi)) (o s.hi t.lo)with h | h<;>rw[h]
   ·rcases xmax_or (o s.lo t.lo) (o s.lo t.hi)with h | h<;>rw[h]
    ·exact⟨_,_,.inl rfl,.inl rfl,rfl⟩
    ·exact⟨_,_,.inl rfl,.inr rfl,rfl⟩
   ·exact⟨_,_,.inr rfl,.inl rfl,rfl⟩
  ·exact⟨_,_,.inr rfl,.inr rfl,rfl⟩
 ·intro x y hx hy
  simp only[key_max]
  rcases hx with rfl | rfl<;>rcases hy with rfl | rfl<;>omega
end Go.N
namespace Go.N
open Go Go.Q Go.Rx
def pt(i:Nat)(s:Sp):Sp:=if i=0 then negS s else if i=1 then zerS s else posS s
def Qp(i k:Nat)(p q:Sp):Sp:=if i=1∨k=1 then⟨.fin 0,.fin 0⟩else if i=0 then(if k=0 then⟨xmul p.hi q.hi,xmul p.lo q.lo⟩else⟨xmul p.lo q.hi,xmul p.hi q.lo⟩)else(if k=0 then⟨xmul p.hi q.lo,xmul p.lo q.hi⟩else⟨xmul p.lo q.lo,xmul p.hi q.hi⟩)
theorem pt_ok{s:Sp}(h:oks C s)(i:Nat):oks C (pt i s):=by
 unfold pt;split
 ·exact negS_ok h
 ·split
  ·exact zerS_ok h
  ·exact posS_ok h
theorem i3{i:Nat}(h:i < 3):i=0∨i=1∨i=2:=by omega
theorem pt_keys{s:Sp}(h:oks C s):(key (negS s).lo=key s.lo∧key (negS s).hi=min (key s.hi) (-1))∧(key (zerS s).lo=max (key s.lo) 0∧key (zerS s).hi=min (key s.hi) 0)∧(key (posS s).lo=max (key s.lo) 1∧key (posS s).hi=key s.hi):=by
 have a:=key_le h.K.1
 have b:=key_le h.K.2
 have h1:key (negS s).lo=max (key s.lo) (-K):=key_max s.lo .ni
 have h2:key (negS s).hi=min (key s.hi) (-1):=key_min s.hi (.fin (-1))
 have h3:key (zerS s).lo=max (key s.lo) 0:=key_max s.lo (.fin 0)
 have h4:key (zerS s).hi=min (key s.hi) 0:=key_min s.hi (.fin 0)
 have h5:key (posS s).lo=max (key s.lo) 1:=key_max s.lo (.fin 1)
 have h6:key (posS s).hi=min (key s.hi) K:=key_min s.hi .pi
 omega
theorem El_sub{s:Sp}(hs:oks C s){i:Nat}{x:X}(h:El (pt i s) x):El s x:=by
 have k:=pt_keys hs
 obtain⟨h1,h2,h3⟩:=h
 refine⟨h1,?_,?_⟩<;>unfold pt at h2 h3<;>split at h2<;>(try split at h2)<;>simp_all<;>omega
theorem El_ne{s:Sp}{x:X}(h:El s x):emp s=false:=decide_eq_false (by have:=h.2;omega)
theorem El_sign{s:Sp}(hs:oks C s){x:X}:(El (pt 0 s) x→key x≤-1)∧(El (pt 1 s) x→key x=0)∧(El (pt 2 s) x→1≤key x):=by
 have k:=pt_keys hs
 refine⟨fun h=>?_,fun h=>?_,fun h=>?_⟩
 ·have:=h.2.2;simp only[pt,if_true]at this;omega
 ·have a:=h.2.1
  have b:=h.2.2
  simp only[pt,Nat.one_ne_zero,if_true,if_false]at a b;omega
 ·have:=h.2.1
  simp only[pt,show ¬(2=0) by omega,show ¬(2=1) by omega,if_false]at this;omega
theorem cls{s:Sp}(hs:oks C s){x:X}(h:El s x):∃ i,i < 3∧El (pt i s) x:=by
 have k:=pt_keys hs
 obtain⟨h1,h2,h3⟩:=h
 rcases Int.lt_trichotomy (key x) 0 with z | z | z
 ·exact⟨0,by omega,h1,by simp only[pt,if_true];omega,by simp only[pt,if_true];omega⟩
 ·exact⟨1,by omega,h1,by simp only[pt,Nat.one_ne_zero,if_true,if_false];omega,by simp only[pt,Nat.one_ne_zero,if_true,if_false];omega⟩
 ·exact⟨2,by omega,h1,by simp only[pt,show ¬(2=0) by omega,show ¬(2=1) by omega,if_false];omega,by simp only[pt,show ¬(2=0) by omega,show ¬(2=1) by omega,if_false];omega⟩
theorem sg0{x:X}(h:key x=0):sg x=0:=(sg_key x).2.1.2 h
theorem key_mul0{x y:X}(h:key x=0∨key y=0):xmul x y=.fin 0:=by
 unfold xmul
 rw[if_pos]
 rcases h with h | h
 ·rw[sg0 h,Int.zero_mul]
 ·rw[sg0 h,Int.mul_zero]
theorem upr{x y y':X}(hx:okx Dd x)(hy:okx Dd y)(hy':okx Dd y')(h:key y≤key y')(h0:0≤key x):key (xmul x y)≤key (xmul x y'):=by rw[xmul_comm x y,xmul_comm x y'];exact xmul_mono hy hy' hx h h0
theorem dnr{x y y':X}(hx:okx Dd x)(hy:okx Dd y)(hy':okx Dd y')(h:key y≤key y')(h0:key x≤0):key (xmul x y')≤key (xmul x y):=by rw[xmul_comm x y,xmul_comm x y'];exact xmul_anti hy hy' hx h h0
theorem Qp_in{s t:Sp}(hs:oks C s)(ht:oks C t){i k:Nat}(hi:i < 3)(hk:k < 3){x y:X}(hx:El (pt i s) x)(hy:El (pt k t) y):
  key (Qp i k (pt i s) (pt k t)).lo≤key (xmul x y)∧key (xmul x y)≤key (Qp i k (pt i s) (pt k t)).hi:=by
 have ps:=pt_ok hs i
 have qs:=pt_ok ht k
 have pe:=El_ne hx
 have qe:=El_ne hy
 have a:=El_lo ps pe
 have b:=El_hi ps pe
 have c:=El_lo qs qe
 have d:=El_hi qs qe
 have S:=@El_sign s hs
 have T:=@El_sign t ht
 rcases i3 hi with rfl | rfl | rfl
 ·have sx:=S.1 hx
  have sa:=S.1 a
  have sb:=S.1 b
  rcases i3 hk with rfl | rfl | rfl
  ·have sy:=T.1 hy
   have sc:=T.1 c
   have sd:=T.1 d
   simp only[Qp,Nat.zero_ne_one,or_self,if_false,if_true]
   exact⟨Int.le_trans (xmul_anti hx.1 b.1 d.1 hx.2.2 (by omega)) (dnr hx.1 hy.1 d.1 hy.2.2 (by omega)),Int.le_trans (xmul_anti a.1 hx.1 hy.1 hx.2.1 (by omega)) (dnr a.1 c.1 hy.1 hy.2.1 (by omega))⟩
  ·have sy:=T.2.1 hy
   simp only[Qp,or_true,if_true]
   rw[key_mul0 (.inr sy)];exact⟨Int.le_refl _,Int.le_refl _⟩
  ·have sy:=T.2.2 hy
   have sc:=T.2.2 c
   have sd:=T.2.2 d
   simp only[Qp,Nat.zero_ne_one,show ¬(2=1) by omega,show ¬(2=0) by omega,or_self,if_false,if_true]
   exact⟨Int.le_trans (dnr a.1 hy.1 d.1 hy.2.2 (by omega)) (xmul_mono a.1 hx.1 hy.1 hx.2.1 (by omega)),Int.le_trans (xmul_mono hx.1 b.1 hy.1 hx.2.2 (by omega)) (dnr b.1 c.1 hy.1 hy.2.1 (by omega))⟩
 ·have sx:=S.2.1 hx
  simp only[Qp,true_or,if_true]
  rw[key_mul0 (.inl sx)];exact⟨Int.le_refl _,Int.le_refl _⟩
 ·have sx:=S.2.2 hx
  have sa:=S.2.2 a
  have sb:=S.2.2 b
  rcases i3 hk with rfl | rfl | rfl
  ·have sy:=T.1 hy
   have sc:=T.1 c
   have sd:=T.1 d
   simp only[Qp,Nat.zero_ne_one,show ¬(2=1) by omega,show ¬(2=0) by omega,or_self,if_false,if_true]
   exact⟨Int.le_trans (xmul_anti hx.1 b.1 c.1 hx.2.2 (by omega)) (upr hx.1 c.1 hy.1 hy.2.1 (by omega)),Int.le_trans (xmul_anti a.1 hx.1 hy.1 hx.2.1 (by omega)) (upr a.1 hy.1 d.1 hy.2.2 (by omega))⟩
  ·have sy:=T.2.1 hy
   simp only[Qp,or_true,if_true]
   rw[key_mul0 (.inr sy)];exact⟨Int.le_refl _,Int.le_refl _⟩
  ·have sy:=T.2.2 hy
   have sc:=T.2.2 c
   have sd:=T.2.2 d
   simp only[Qp,show ¬(2=1) by omega,show ¬(2=0) by omega,or_self,if_false]
   exact⟨Int.le_trans (xmul_mono a.1 hx.1 c.1 hx.2.1 (by omega)) (upr hx.1 c.1 hy.1 hy.2.1 (by omega)),Int.le_trans (xmul_mono hx.1 b.1 hy.1 hx.2.2 (by omega)) (upr b.1 hy.1 d.1 hy.2.2 (by omega))⟩
theorem Qp_ends{s t:Sp}(hs:oks C s)(ht:oks C t){i k:Nat}(hi:i < 3)(hk:k < 3)(ei:emp (pt i s)=false)(ek:emp (pt k t)=false):
  (∃ x y,El (pt i s) x∧El (pt k t) y∧(Qp i k (pt i s) (pt k t)).lo=xmul x y)∧(∃ x y,El (pt i s) x∧El (pt k t) y∧(Qp i k (pt i s) (pt k t)).hi=xmul x y):=by
 have a:=El_lo (pt_ok hs i) ei
 have b:=El_hi (pt_ok hs i) ei
 have c:=El_lo (pt_ok ht k) ek
 have d:=El_hi (pt_ok ht k) ek
 by_cases z:i=1∨k=1
 ·have e:xmul (pt i s).lo (pt k t).lo=.fin 0:=by
   apply key_mul0
   rcases z with rfl | rfl
   ·exact .inl ((El_sign hs).2.1 a)
   ·exact .inr ((El_sign ht).2.1 c)
  simp only[Qp,if_pos z]
  exact⟨⟨_,_,a,c,e.symm⟩,⟨_,_,a,c,e.symm⟩⟩
 ·unfold Qp
  rw[if_neg z]
  split<;>split
  ·exact⟨⟨_,_,b,d,rfl⟩,⟨_,_,a,c,rfl⟩⟩
  ·exact⟨⟨_,_,a,d,rfl⟩,⟨_,_,b,c,rfl⟩⟩
  ·exact⟨⟨_,_,b,c,rfl⟩,⟨_,_,a,d,rfl⟩⟩
  ·exact⟨⟨_,_,a,c,rfl⟩,⟨_,_,b,d,rfl⟩⟩
theorem Qp_ok{s t:Sp}(hs:oks C s)(ht:oks C t)(i k:Nat):oks K (Qp i k (pt i s) (pt k t)):=by
 have hK:=K_gt
 have p:=pt_ok hs i
 have q:=pt_ok ht k
 have z:okx K (.fin 0):=by simp only[okx];omega
 unfold Qp
 split
 ·exact⟨z,z⟩
 ·split<;>split
  ·exact⟨xmul_ok p.2 q.2,xmul_ok p.1 q.1⟩
  ·exact⟨xmul_ok p.1 q.2,xmul_ok p.2 q.1⟩
  ·exact⟨xmul_ok p.2 q.1,xmul_ok p.1 q.2⟩
  ·exact⟨xmul_ok p.1 q.1,xmul_ok p.2 q.2⟩
section
variable {s t:Sp}(hs:oks C s)(ht:oks C t)(es:emp s=false)(et:emp t=false)(ps:Pr s)(pt':Pr t)
include hs ht es et
theorem corner_ok{x y:X}(hx:x=s.lo∨x=s.hi)(hy:y=t.lo∨y=t.hi):El s x∧El t y:=by
 constructor
 ·rcases hx with rfl | rfl
  ·exact El_lo hs es
  ·exact El_hi hs es
 ·rcases hy with rfl | rfl
  ·exact El_lo ht et
  ·exact El_hi ht et
theorem F1{i k:Nat}(hi:i < 3)(hk:k < 3)(ei:emp (pt i s)=false)(ek:emp (pt k t)=false):
  key (apS xmul s t).lo≤key (Qp i k (pt i s) (pt k t)).lo∧key (Qp i k (pt i s) (pt k t)).hi≤key (apS xmul s t).hi:=by
 obtain⟨⟨x,y,hx,hy,e⟩,⟨x',y',hx',hy',e'⟩⟩:=Qp_ends hs ht hi hk ei ek
 have en:=apS_ends (o:=xmul) es et
 obtain⟨⟨cx,cy,c1,c2,c3⟩,_⟩:=corner hs ht (El_sub hs hx) (El_sub ht hy)
 obtain⟨_,⟨dx,dy,d1,d2,d3⟩⟩:=corner hs ht (El_sub hs hx') (El_sub ht hy')
 have a:=en.1.2 cx cy c1 c2
 have b:=en.2.2 dx dy d1 d2
 rw[e,e']
 omega
theorem F2:(∃ i k,i < 3∧k < 3∧emp (pt i s)=false∧emp (pt k t)=false∧(Qp i k (pt i s) (pt k t)).lo=(apS xmul s t).lo)∧
  (∃ i k,i < 3∧k < 3∧emp (pt i s)=false∧emp (pt k t)=false∧(Qp i k (pt i s) (pt k t)).hi=(apS xmul s t).hi):=by
 have en:=apS_ends (o:=xmul) es et
 have ok:=mulS_ok hs ht
 constructor
 ·obtain⟨cx,cy,c1,c2,c3⟩:=en.1.1
  have co:=corner_ok hs ht es et c1 c2
  obtain⟨i,hi,xi⟩:=cls hs co.1
  obtain⟨k,hk,yk⟩:=cls ht co.2
  have ei:=El_ne xi
  have ek:=El_ne yk
  have q:=Qp_in hs ht hi hk xi yk
  have f:=F1 hs ht es et hi hk ei ek
  refine⟨i,k,hi,hk,ei,ek,key_inj (Qp_ok hs ht i k).1 ok.1 ?_⟩
  rw[←c3]at q
  omega
 ·obtain⟨cx,cy,c1,c2,c3⟩:=en.2.1
  have co:=corner_ok hs ht es et c1 c2
  obtain⟨i,hi,xi⟩:=cls hs co.1
  obtain⟨k,hk,yk⟩:=cls ht co.2
  have ei:=El_ne xi
  have ek:=El_ne yk
  have q:=Qp_in hs ht hi hk xi yk
  have f:=F1 hs ht es et hi hk ei ek
  refine⟨i,k,hi,hk,ei,ek,key_inj (Qp_ok hs ht i k).2 ok.2 ?_⟩
  rw[←c3]at q
  omega
end
section
variable {s t:Sp}(hs:oks C s)(ht:oks C t)(es:emp s=false)(et:emp t=false)(ps:Pr s)(pt':Pr t)
include hs ht es et ps pt'
end
section
variable {s t:Sp}(hs:oks C s)(ht:oks C t)(es:emp s=false)(et:emp t=false)(ps:Pr s)(pt':Pr t)
include hs ht es et ps pt'
end
end Go.N
namespace Go.N
open Go Go.Q Go.Rx
def pp(i:Nat)(s:Sp):Sp:=if i=0 then⟨xneg (negS s).hi,xneg (negS s).lo⟩else posS s
section
variable (lf:Nat)(h3:200000≤lf){s t:Sp}(hs:oks C s)(ht:oks C t)(ps:Pr s)(pt':Pr t)
include h3 hs ht ps pt'
def sv(s:Sp):List IV:=[ac (toA (negS s)),ac (toA (zerS s)),ac (toA (posS s))]
end
end Go.N
namespace Go.N
open Go Go.Q Go.Rx
theorem inS_iff{s:Sp}{z:Int}:inS s z=true↔key s.lo≤z∧z≤key s.hi:=by unfold inS;simp
theorem in_ne{s:Sp}{z:Int}(h:inS s z=true):emp s=false:=emp_of_in h
theorem in_turn{s:Sp}{z:Int}(h:inS s z=true):inS (turn s) (-z)=true:=by
 have e:=in_ne h
 rw[inS_iff]at h⊢
 unfold turn
 rw[if_neg (by simp[e])]
 simp only[key_xneg];omega
theorem in_hullL{s t:Sp}{z:Int}(h:inS s z=true):inS (hull s t) z=true:=by
 have e:=in_ne h
 rw[inS_iff]at h⊢
 unfold hull
 rw[if_neg (by simp[e])]
 split
 ·exact h
 ·simp only[key_min,key_max];omega
theorem in_hullR{s t:Sp}{z:Int}(h:inS t z=true):inS (hull s t) z=true:=by
 have e:=in_ne h
 rw[inS_iff]at h⊢
 unfold hull
 split
 ·exact h
 ·rw[if_neg (by simp[e])]
  simp only[key_min,key_max];omega
theorem in_pos{s:Sp}(hs:oks C s){z:Int}(h:inS s z=true)(h1:1≤z):inS (posS s) z=true:=by
 have k:=pt_keys hs
 rw[inS_iff]at h⊢
 omega
section
variable {s t:Sp}(hs:oks C s)(ht:oks C t){x y:Int}(bx: -Dd < x∧x < Dd)(by': -Dd < y∧y < Dd)(hx:inS s x=true)(hy:inS t y=true)
include hs ht bx by' hx hy
theorem in_mul:inS (apS xmul s t) (x*y)=true:=by
 have e1:=in_ne hx
 have e2:=in_ne hy
 rw[inS_iff]at hx hy⊢
 have en:=apS_ends (o:=xmul) e1 e2
 obtain⟨⟨cx,cy,c1,c2,c3⟩,⟨dx,dy,d1,d2,d3⟩⟩:=corner hs ht (x:=.fin x) (y:=.fin y) ⟨bx,hx⟩ ⟨by',hy⟩
 have a:=en.1.2 cx cy c1 c2
 have b:=en.2.2 dx dy d1 d2
 rw[xmul_ff,show key (X.fin (x*y))=x*y from rfl]at c3 d3
 omega
theorem in_over(h1:1≤y)(p1:Po t.lo)(p2:Po t.hi):inS (apS xover s t) (x.fdiv y)=true:=by
 have e1:=in_ne hx
 have e2:=in_ne hy
 rw[inS_iff]at hx hy⊢
 have en:=apS_ends (o:=xover) e1 e2
 have py:Po (.fin y):=h1
 have oy:okx Dd (.fin y):=by'
 have ox:okx Dd (.fin x):=bx
 have kx:key (X.fin x)=x:=rfl
 have ky:key (X.fin y)=y:=rfl
 have kq:key (xover (.fin x) (.fin y))=x.fdiv y:=rfl
 have lo:=xo_mono hs.1.D ox py (by rw[kx];exact hx.1)
 have hi:=xo_mono ox hs.2.D py (by rw[kx];exact hx.2)
 rw[kq]at lo hi
 constructor
 ·by_cases n:key s.lo < 0
  ·have:=xo_neg hs.1.D p1 py ht.1.D oy (by rw[ky];exact hy.1) n
   have:=en.1.2 s.lo t.lo (.inl rfl) (.inl rfl)
   omega
  ·have:=xo_pos hs.1.D py p2 oy ht.2.D (by rw[ky];exact hy.2) (by omega)
   have:=en.1.2 s.lo t.hi (.inl rfl) (.inr rfl)
   omega
 ·by_cases n:key s.hi < 0
  ·have:=xo_neg hs.2.D py p2 oy ht.2.D (by rw[ky];exact hy.2) n
   have:=en.2.2 s.hi t.hi (.inr rfl) (.inr rfl)
   omega
  ·have:=xo_pos hs.2.D p1 py ht.1.D oy (by rw[ky];exact hy.1) (by omega)
   have:=en.2.2 s.hi t.lo (.inr rfl) (.inl rfl)
   omega
end
section
variable {s t:Sp}(hs:oks C s)(ht:oks C t)(ps:Pr s)(pt':Pr t){x y:Int}(bx: -Dd < x∧x < Dd)(by': -Dd < y∧y < Dd)(hx:inS s x=true)(hy:inS t y=true)
include hs ht ps pt' bx by' hx hy
theorem in_quoS(h0:y≠0):inS (quoS s t) (x.fdiv y)=true:=by
 have e1:=in_ne hx
 unfold quoS
 rw[if_neg (by simp[e1])]
 rcases Int.lt_or_lt_of_ne h0 with z | z
 ·have hy':=in_pos (turn_ok ht) (in_turn hy) (show 1≤-y by omega)
  have e:=in_ne hy'
  obtain⟨l,l1,l2,l3⟩:=posS_Po e (turn_ok ht) pt'.turn
  rw[if_neg (show ¬emp (posS (turn t))=true by simp[e])]
  apply in_hullR
  have:=in_over (turn_ok hs) (posS_ok (turn_ok ht)) (x:= -x) (y:= -y) (by omega) (by omega) (in_turn hx) hy' (by omega) (by rw[l1];exact l2) l3
  have q:(-x).fdiv (-y)=x.fdiv y:=by
   have m:=Int.mul_fdiv_add_fmod x y
   have a:=Int.fmod_nonneg_of_pos (-x) (show 0 < -y by omega)
   have b:=Int.fmod_lt_of_pos (-x) (show 0 < -y by omega)
   rw[Int.neg_fmod_neg]at a b
   exact((fdiv_unique (x:= -x) (y:= -y) (q:=x.fdiv y) (r:= -x.fmod y) (by rw[Int.neg_mul];omega) (.inl (by omega))).1).symm
  rw[q]at this
  exact this
 ·have hy':=in_pos ht hy (show 1≤y by omega)
  have e:=in_ne hy'
  obtain⟨l,l1,l2,l3⟩:=posS_Po e ht pt'
  rw[if_neg (show ¬emp (posS t)=true by simp[e])]
  apply in_hullL
  exact in_over hs (posS_ok ht) bx by' hx hy' (by omega) (by rw[l1];exact l2) l3
end
end Go.N
namespace Go.N
open Go Go.Q Go.Rx
def Att(P:Int→Prop)(s:Sp):Prop:=s=non∨∃ p q,s.lo=.fin p∧s.hi=.fin q∧p≤q∧P p∧P q
section
variable {P:Int→Prop}
theorem Att.one{z:Int}(h:P z):Att P (Go.N.one (.fin z)):=.inr ⟨z,z,rfl,rfl,Int.le_refl _,h,h⟩
theorem emp_fin{s:Sp}{p q:Int}(h1:s.lo=.fin p)(h2:s.hi=.fin q)(h:p≤q):emp s=false:=by
 unfold emp;rw[h1,h2];simp[key];omega
theorem Att.hull{s t:Sp}(hs:Att P s)(ht:Att P t):Att P (hull s t):=by
 unfold Go.N.hull
 rcases hs with rfl | ⟨p,q,h1,h2,h3,h4,h5⟩
 ·rw[if_pos emp_non];exact ht
 ·rw[if_neg (by rw[emp_fin h1 h2 h3];simp)]
  rcases ht with rfl | ⟨p',q',g1,g2,g3,g4,g5⟩
  ·rw[if_pos emp_non];exact .inr ⟨p,q,h1,h2,h3,h4,h5⟩
  ·rw[if_neg (by rw[emp_fin g1 g2 g3];simp),h1,h2,g1,g2]
   refine .inr ⟨if p' < p then p' else p,if q' > q then q' else q,?_,?_,?_,?_,?_⟩
   ·show xmin (.fin p) (.fin p')=_
    unfold xmin;simp only[key];exact(apply_ite X.fin _ _ _).symm
   ·show xmax (.fin q) (.fin q')=_
    unfold xmax;simp only[key];exact(apply_ite X.fin _ _ _).symm
   ·split<;>split<;>omega
   ·split;exact g4;exact h4
   ·split;exact g5;exact h5
theorem Att.non:Att P Go.N.non:=.inl rfl
theorem Att.apS{o:X→X→X}{s t:Sp}(h:∀ x y,(x=s.lo∨x=s.hi)→(y=t.lo∨y=t.hi)→∃ z,o x y=.fin z∧P z):Att P (apS o s t):=by
 have one':∀ x y,(x=s.lo∨x=s.hi)→(y=t.lo∨y=t.hi)→Att P (Go.N.one (o x y)):=fun x y hx hy=>by
  obtain⟨z,e,hz⟩:=h x y hx hy
  rw[e];exact .one hz
 unfold Go.N.apS
 split
 ·exact .non
 ·split
  ·exact .non
  ·exact((((Att.non.hull (one' _ _ (.inl rfl) (.inl rfl))).hull (one' _ _ (.inl rfl) (.inr rfl))).hull (one' _ _ (.inr rfl) (.inl rfl))).hull (one' _ _ (.inr rfl) (.inr rfl)))
end
structure IsSpan(l:List Int)(a:A):Prop where
 nil:l=[]→a=E0
 ne:l≠[]→∃ p q,a=⟨false,some p,some q⟩∧p∈l∧q∈l∧∀ z∈l,p≤z∧z≤q
theorem IsSpan.eq{l:List Int}{a b:A}(h:IsSpan l a)(k:IsSpan l b):a=b:=by
 by_cases e:l=[]
 ·rw[h.nil e,k.nil e]
 ·obtain⟨p,q,rfl,h1,h2,h3⟩:=h.ne e
  obtain⟨p',q',rfl,k1,k2,k3⟩:=k.ne e
  have:=h3 p' k1
  have:=h3 q' k2
  have:=k3 p h1
  have:=k3 q h2
  rw[show p=p' by omega,show q=q' by omega]
theorem isSpan{l:List Int}{s:Sp}(h:Att (·∈l) s)(hin:∀ z∈l,inS s z=true)(hbd:∀ z∈l,-1000000≤z∧z≤1000000):IsSpan l (toA s):=by
 rcases h with rfl | ⟨p,q,h1,h2,h3,h4,h5⟩
 ·refine⟨fun _=>toA_non,fun e=>?_⟩
  obtain⟨z,l',rfl⟩:=List.exists_cons_of_ne_nil e
  have:=emp_of_in (hin z (List.mem_cons_self ..))
  rw[emp_non]at this;cases this
 ·refine⟨fun e=>(by rw[e]at h4;cases h4),fun _=>⟨p,q,?_,h4,h5,fun z hz=>?_⟩⟩
  ·unfold toA
   have hC:=C_gt
   have b1:=hbd p h4
   have b2:=hbd q h5
   rw[if_neg (by rw[emp_fin h1 h2 h3];simp),h1,h2]
   simp only[tx,clip]
   rw[if_pos ⟨by omega,by omega⟩,if_pos ⟨by omega,by omega⟩]
  ·have:=inS_iff.1 (hin z hz)
   rw[h1,h2]at this
   exact this
def rg(f:Int)(m:Nat):Sp:=⟨.fin f,.fin (f+m)⟩
theorem rg_emp(f:Int)(m:Nat):emp (rg f m)=false:=emp_fin rfl rfl (by omega)
theorem rg_in{f:Int}{m:Nat}{i:Int}(h1:f≤i)(h2:i≤f+m):inS (rg f m) i=true:=by
 exact inS_iff.2 ⟨h1,h2⟩
def rl(f:Int)(m:Nat):List Int:=(List.range (m+1)).map fun k:Nat=>f+k
theorem mem_rl{f:Int}{m:Nat}{i:Int}:i∈rl f m↔f≤i∧i≤f+m:=by
 unfold rl
 rw[List.mem_map]
 constructor
 ·rintro ⟨k,hk,rfl⟩
  rw[List.mem_range]at hk;omega
 ·rintro ⟨h1,h2⟩
  exact⟨(i-f).toNat,List.mem_range.2 (by omega),by omega⟩
def op2(o:Int→Int→Int)(c:Int→Bool)(a b:List Int):List Int:=a.flatMap fun i=>(b.filter c).map fun j=>o i j
theorem mem_op2{o:Int→Int→Int}{c:Int→Bool}{a b:List Int}{z:Int}:z∈op2 o c a b↔∃ i∈a,∃ j∈b,c j=true∧o i j=z:=by
 unfold op2
 simp only[List.mem_flatMap,List.mem_map,List.mem_filter]
 constructor
 ·rintro ⟨i,hi,j,⟨hj,hc⟩,e⟩;exact⟨i,hi,j,hj,hc,e⟩
 ·rintro ⟨i,hi,j,hj,hc,e⟩;exact⟨i,hi,j,⟨hj,hc⟩,e⟩
section
variable {f g:Int}{m n:Nat}
theorem turn_rg:turn (rg f m)=⟨.fin (-(f+m)),.fin (-f)⟩:=by
 unfold turn
 rw[if_neg (by rw[rg_emp];simp)];rfl
variable (hf: -300≤f∧f≤300)(hg: -300≤g∧g≤300)(hm:m≤10)(hn:n≤10)
include hf hg hm hn
theorem span_add:IsSpan (op2 (·+·) (fun _=>true) (rl f m) (rl g n)) (toA (addS (rg f m) (rg g n))):=by
 refine isSpan ?_ (fun z hz=>?_) fun z hz=>?_
 ·unfold addS
  rw[if_neg (by rw[rg_emp];simp),if_neg (by rw[rg_emp];simp)]
  refine .inr ⟨f+g,f+m+(g+n),rfl,rfl,by omega,mem_op2.2 ⟨f,mem_rl.2 (by omega),g,mem_rl.2 (by omega),rfl,rfl⟩,mem_op2.2 ⟨f+m,mem_rl.2 (by omega),g+n,mem_rl.2 (by omega),rfl,rfl⟩⟩
 ·obtain⟨i,hi,j,hj,_,rfl⟩:=mem_op2.1 hz
  rw[mem_rl]at hi hj
  unfold addS
  rw[if_neg (by rw[rg_emp];simp),if_neg (by rw[rg_emp];simp)]
  exact inS_iff.2 ⟨show f+g≤i+j by omega,show i+j≤f+m+(g+n) by omega⟩
 ·obtain⟨i,hi,j,hj,_,rfl⟩:=mem_op2.1 hz
  rw[mem_rl]at hi hj
  show -1000000≤i+j∧i+j≤1000000
  omega
theorem span_sub:IsSpan (op2 (·-·) (fun _=>true) (rl f m) (rl g n)) (toA (addS (rg f m) (turn (rg g n)))):=by
 have he:emp (turn (rg g n))=false:=by rw[turn_rg];exact emp_fin rfl rfl (by omega)
 refine isSpan ?_ (fun z hz=>?_) fun z hz=>?_
 ·unfold addS
  rw[if_neg (by rw[rg_emp];simp),if_neg (by rw[he];simp),turn_rg]
  refine .inr ⟨f+ -(g+n),f+m+ -g,rfl,rfl,by omega,mem_op2.2 ⟨f,mem_rl.2 (by omega),g+n,mem_rl.2 (by omega),rfl,by show f-(g+n)=_;omega⟩,mem_op2.2 ⟨f+m,mem_rl.2 (by omega),g,mem_rl.2 (by omega),rfl,by show f+m-g=_;omega⟩⟩
 ·obtain⟨i,hi,j,hj,_,rfl⟩:=mem_op2.1 hz
  rw[mem_rl]at hi hj
  unfold addS
  rw[if_neg (by rw[rg_emp];simp),if_neg (by rw[he];simp),turn_rg]
  exact inS_iff.2 ⟨show f+ -(g+n)≤i-j by omega,show i-j≤f+m+ -g by omega⟩
 ·obtain⟨i,hi,j,hj,_,rfl⟩:=mem_op2.1 hz
  rw[mem_rl]at hi hj
  show -1000000≤i-j∧i-j≤1000000
  omega
theorem span_neg:IsSpan ((rl f m).map fun i=> -i) (toA (turn (rg f m))):=by
 refine isSpan ?_ (fun z hz=>?_) fun z hz=>?_
 ·rw[turn_rg]
  exact .inr ⟨-(f+m),-f,rfl,rfl,by omega,List.mem_map.2 ⟨f+m,mem_rl.2 (by omega),rfl⟩,List.mem_map.2 ⟨f,mem_rl.2 (by omega),rfl⟩⟩
 ·obtain⟨i,hi,rfl⟩:=List.mem_map.1 hz
  rw[mem_rl]at hi
  rw[turn_rg];exact inS_iff.2 ⟨show -(f+m)≤-i by omega,show -i≤-f by omega⟩
 ·obtain⟨i,hi,rfl⟩:=List.mem_map.1 hz
  rw[mem_rl]at hi
  omega
theorem span_join:IsSpan (rl f m++rl g n) (toA (hull (rg f m) (rg g n))):=by
 refine isSpan (Att.hull ?_ ?_) (fun z hz=>?_) fun z hz=>?_
 ·exact .inr ⟨f,f+m,rfl,rfl,by omega,List.mem_append.2 (.inl (mem_rl.2 (by omega))),List.mem_append.2 (.inl (mem_rl.2 (by omega)))⟩
 ·exact .inr ⟨g,g+n,rfl,rfl,by omega,List.mem_append.2 (.inr (mem_rl.2 (by omega))),List.mem_append.2 (.inr (mem_rl.2 (by omega)))⟩
 ·rcases List.mem_append.1 hz with h | h
  ·rw[mem_rl]at h;exact in_hullL (rg_in h.1 h.2)
  ·rw[mem_rl]at h;exact in_hullR (rg_in h.1 h.2)
 ·rcases List.mem_append.1 hz with h | h
  ·rw[mem_rl]at h;omega
  ·rw[mem_rl]at h;omega
end
end Go.N
namespace Go.N
open Go Go.Q Go.Rx
theorem xmul_fin(a b:Int):xmul (.fin a) (.fin b)=.fin (a*b):=by
 unfold xmul
 split
 ·rename_i h
  have:a=0∨b=0:=by
   rcases Int.mul_eq_zero.1 h with h | h
   ·exact .inl ((sg_key (.fin a)).2.1.1 h)
   ·exact .inr ((sg_key (.fin b)).2.1.1 h)
  rcases this with rfl | rfl<;>simp
 ·rfl
theorem fdiv_pb{i j:Int}(h1: -400≤i)(h2:i≤400)(hj:1≤j): -1000≤i.fdiv j∧i.fdiv j≤1000:=by
 have e:=Int.mul_fdiv_add_fmod i j
 have r1:=Int.fmod_nonneg_of_pos i (show 0 < j by omega)
 have r2:=Int.fmod_lt_of_pos i (show 0 < j by omega)
 generalize i.fdiv j=q at *
 generalize i.fmod j=r at *
 constructor
 ·refine Int.not_lt.1 fun h=>?_
  have:=Int.mul_le_mul_of_nonpos_right hj (show q+1≤0 by omega)
  rw[Int.mul_add]at this
  omega
 ·refine Int.not_lt.1 fun h=>?_
  have:=Int.mul_le_mul_of_nonneg_right hj (show 0≤q by omega)
  omega
theorem fdiv_b{i j:Int}(h1: -400≤i)(h2:i≤400)(hj:j≠0): -1000≤i.fdiv j∧i.fdiv j≤1000:=by
 by_cases h:1≤j
 ·exact fdiv_pb h1 h2 h
 ·have:=fdiv_pb (i:= -i) (j:= -j) (by omega) (by omega) (by omega)
  rwa [Int.neg_fdiv_neg]at this
theorem mul_b{i j:Int}(h1: -400≤i)(h2:i≤400)(h3: -400≤j)(h4:j≤400): -1000000≤i*j∧i*j≤1000000:=by
 have h:(i*j).natAbs≤400*400:=by
  rw[Int.natAbs_mul]
  exact Nat.mul_le_mul (by omega) (by omega)
 omega
theorem posS_fin{p q:Int}(hq:q≤1000000):posS ⟨.fin p,.fin q⟩=⟨.fin (if 1 > p then 1 else p),.fin q⟩:=by
 have hK:=K_gt
 show Sp.mk (xmax (.fin p) (.fin 1)) (xmin (.fin q) .pi)=_
 congr 1
 ·unfold xmax;simp only[key];exact(apply_ite X.fin _ _ _).symm
 ·unfold xmin;exact if_neg (show ¬K < q by omega)
section
variable {f g:Int}{m n:Nat}(hf: -300≤f∧f≤300)(hg: -300≤g∧g≤300)(hm:m≤10)(hn:n≤10)
theorem rg_ok(hf: -300≤f∧f≤300)(hm:m≤10):oks C (rg f m)∧Pr (rg f m):=by
 have hC:=C_gt
 exact⟨⟨show -C < f∧f < C by omega,show -C < f+m∧f+m < C by omega⟩,.inr ⟨by simp[rg],by simp[rg]⟩⟩
include hf hg hm hn
theorem span_mul:IsSpan (op2 (·*·) (fun _=>true) (rl f m) (rl g n)) (toA (apS xmul (rg f m) (rg g n))):=by
 refine isSpan (Att.apS fun x y hx hy=>?_) (fun z hz=>?_) fun z hz=>?_
 ·have key:∀ i j:Int,i∈rl f m→j∈rl g n→∃ z,xmul (.fin i) (.fin j)=.fin z∧z∈op2 (·*·) (fun _=>true) (rl f m) (rl g n):=fun i j hi hj=>⟨i*j,xmul_fin i j,mem_op2.2 ⟨i,hi,j,hj,rfl,rfl⟩⟩
  rcases hx with rfl | rfl<;>rcases hy with rfl | rfl<;>exact key _ _ (mem_rl.2 (by omega)) (mem_rl.2 (by omega))
 ·obtain⟨i,hi,j,hj,_,rfl⟩:=mem_op2.1 hz
  rw[mem_rl]at hi hj
  have hD:=C_lt_Dd
  have hC:=C_gt
  exact in_mul (rg_ok hf hm).1 (rg_ok hg hn).1 (x:=i) (y:=j) ⟨by omega,by omega⟩ ⟨by omega,by omega⟩ (rg_in hi.1 hi.2) (rg_in hj.1 hj.2)
 ·obtain⟨i,hi,j,hj,_,rfl⟩:=mem_op2.1 hz
  rw[mem_rl]at hi hj
  exact mul_b (by omega) (by omega) (by omega) (by omega)
theorem span_quo:IsSpan (op2 Int.fdiv (fun j=>j != 0) (rl f m) (rl g n)) (toA (quoS (rg f m) (rg g n))):=by
 refine isSpan ?_ (fun z hz=>?_) fun z hz=>?_
 ·unfold quoS
  rw[if_neg (by rw[rg_emp];simp)]
  refine Att.hull ?_ ?_
  ·split
   ·exact .non
   ·rename_i he
    have hp:posS (rg g n)=⟨.fin (if 1 > g then 1 else g),.fin (g+n)⟩:=posS_fin (by omega)
    rw[hp]at he⊢
    have hle:(if 1 > g then 1 else g)≤g+n:=by
     refine Int.not_lt.1 fun h=>he ?_
     unfold emp;simp only[key];exact decide_eq_true h
    refine Att.apS fun x y hx hy=>?_
    have key:∀ i j:Int,i∈rl f m→j∈rl g n→1≤j→∃ z,xover (.fin i) (.fin j)=.fin z∧z∈op2 Int.fdiv (fun j=>j != 0) (rl f m) (rl g n):=fun i j hi hj h1=>⟨i.fdiv j,rfl,mem_op2.2 ⟨i,hi,j,hj,by simp;omega,rfl⟩⟩
    have c1:(if 1 > g then(1:Int)else g)∈rl g n∧1≤(if 1 > g then(1:Int)else g):=by
     split at hle
     ·rename_i h;rw[if_pos h];exact⟨mem_rl.2 (by omega),by omega⟩
     ·rename_i h;rw[if_neg h];exact⟨mem_rl.2 (by omega),by omega⟩
    have c2:g+n∈rl g n:=mem_rl.2 (by omega)
    rcases hx with rfl | rfl<;>rcases hy with rfl | rfl
    ·exact key _ _ (mem_rl.2 (by omega)) c1.1 c1.2
    ·exact key _ _ (mem_rl.2 (by omega)) c2 (by omega)
    ·exact key _ _ (mem_rl.2 (by omega)) c1.1 c1.2
    ·exact key _ _ (mem_rl.2 (by omega)) c2 (by omega)
  ·split
   ·exact .non
   ·rename_i he
    simp only[turn_rg]at he⊢
    have hp:posS ⟨.fin (-(g+n)),.fin (-g)⟩=⟨.fin (if 1 > -(g+n)then 1 else -(g+n)),.fin (-g)⟩:=posS_fin (by omega)
    rw[hp]at he⊢
    have hle:(if 1 > -(g+n)then 1 else -(g+n))≤-g:=by
     refine Int.not_lt.1 fun h=>he ?_
     unfold emp;simp only[key];exact decide_eq_true h
    refine Att.apS fun x y hx hy=>?_
    have key:∀ i j:Int,-i∈rl f m→-j∈rl g n→1≤j→∃ z,xover (.fin i) (.fin j)=.fin z∧z∈op2 Int.fdiv (fun j=>j != 0) (rl f m) (rl g n):=fun i j hi hj h1=>⟨i.fdiv j,rfl,mem_op2.2 ⟨-i,hi,-j,hj,by simp;omega,Int.neg_fdiv_neg i j⟩⟩
    have c1: -(if 1 > -(g+n)then(1:Int)else -(g+n))∈rl g n∧1≤(if 1 > -(g+n)then(1:Int)else -(g+n)):=by
     split at hle
     ·rename_i h;rw[if_pos h];exact⟨mem_rl.2 (by omega),by omega⟩
     ·rename_i h;rw[if_neg h];exact⟨mem_rl.2 (by omega),by omega⟩
    have c2: - -g∈rl g n:=mem_rl.2 (by omega)
    rcases hx with rfl | rfl<;>rcases hy with rfl | rfl
    ·exact key _ _ (mem_rl.2 (by omega)) c1.1 c1.2
    ·exact key _ _ (mem_rl.2 (by omega)) c2 (by omega)
    ·exact key _ _ (mem_rl.2 (by omega)) c1.1 c1.2
    ·exact key _ _ (mem_rl.2 (by omega)) c2 (by omega)
 ·obtain⟨i,hi,j,hj,hc,rfl⟩:=mem_op2.1 hz
  rw[mem_rl]at hi hj
  have hD:=C_lt_Dd
  have hC:=C_gt
  exact in_quoS (rg_ok hf hm).1 (rg_ok hg hn).1 (rg_ok hf hm).2 (rg_ok hg hn).2 ⟨by omega,by omega⟩ ⟨by omega,by omega⟩ (rg_in hi.1 hi.2) (rg_in hj.1 hj.2) (by simpa using hc)
 ·obtain⟨i,hi,j,hj,hc,rfl⟩:=mem_op2.1 hz
  rw[mem_rl]at hi hj
  have:=fdiv_b (i:=i) (j:=j) (by omega) (by omega) (by simpa using hc)
  omega
end
end Go.N
namespace Go.N
open Go Go.Q Go.Rx
def Big(lf:Nat):Prop:=2000000000≤lf∧K < (lf:Int)
end Go.N
namespace Go.N
open Go Go.Q Go.Rx
structure Cg where
 em:Bool
 m:Int
 r:Int
deriving DecidableEq
def cc(c:Cg):IV:=if c.em=true then(true,bs [],bs [],())else(false,bs (Lib.itoa c.m),bs (Lib.itoa c.r),())
structure WfC(c:Cg):Prop where
 m: -C < c.m∧c.m < C
 r: -C < c.r∧c.r < C
 pos:0≤c.m
 rng:c.m≠0→0≤c.r∧c.r < c.m
def Ec:Cg:=⟨true,0,0⟩
def dvd'(m a:Int):Bool:=if m=0 then decide (a=0)else decide (a.fmod m=0)
end Go.N
namespace Go.N
open Go Go.Q Go.Rx
section
variable (lf:Nat)(hb:Big lf)
include hb
end
section
variable (lf:Nat)(hb:Big lf){c d:Cg}(hc:WfC c)(hd:WfC d)
include hb hc
include hd
end
end Go.N
namespace Go.N
open Go Go.Q Go.Rx
section
variable (lf:Nat)(hb:Big lf){c d:Cg}(hc:WfC c)(hd:WfC d)
include hb hc hd
end
end Go.N
namespace Go.N
open Go Go.Q Go.Rx
section
variable (lf:Nat)(hb:Big lf){c d:Cg}(hc:WfC c)(hd:WfC d)
include hb hc hd
end
end Go.N
namespace Go.N
open Go Go.Q Go.Rx
def inC(c:Cg)(a:Int):Bool:=!c.em&&dvd' c.m (a-c.r)
section
variable (lf:Nat)(hb:Big lf){c d:Cg}(hc:WfC c)(hd:WfC d)
include hb hc hd
end
section
variable (lf:Nat)(hb:Big lf){c:Cg}(hc:WfC c)
include hb hc
end
end Go.N
namespace Go.N
open Go Go.Q Go.Rx
section
variable (lf:Nat)(hb:Big lf){c:Cg}(hc:WfC c)
include hb hc
end
end Go.N
namespace Go.N
open Go Go.Q Go.Rx
section
variable (lf:Nat)(hb:Big lf){c:Cg}(hc:WfC c)(he:c.em=false){a:Int}(ha: -Dd < a∧a < Dd)
include hb hc he ha
end
end Go.N
namespace Go.N
open Go Go.Q Go.Rx
section
variable (lf:Nat)(hb:Big lf){c:Cg}(hc:WfC c)(he:c.em=false){a:Int}(ha: -Dd < a∧a < Dd)
include hb hc he ha
end
end Go.N
namespace Go.N
open Go Go.Q Go.Rx
end Go.N
namespace Go.N
open Go Go.Q Go.Rx
end Go.N
namespace Go.N
open Go Go.Q Go.Rx
abbrev Nb:Type:=Bool×(List Int×Unit)
theorem RN.natAbs{p:Nb}{z:Int}{k:Nat}(h:RN p z k):lv G p.2.1=(z.natAbs:Int):=by
 have:=h.val
 have:=lv_nonneg (B:=G) (by decide) h.dg
 split at*<;> omega
theorem RN.nil{p:Nb}{k:Nat}(h:RN p 0 k):p.2.1=[]:=(lv_eq_zero (B:=G) (by decide) h.dg h.tr).1 (by rw[h.natAbs];rfl)
theorem RN.ne{p:Nb}{z:Int}{k:Nat}(h:RN p z k)(h0:z≠0):0 < p.2.1.length:=by
 refine List.length_pos_iff.2 fun e=>h0 ?_
 have:=h.natAbs
 rw[e]at this
 simp only[lv]at this
 omega
section
variable (lf:Nat)(hlf:2000000000≤lf){a b:Int}(hb:b < C)
include hlf hb
end
end Go.N
namespace Go.N
open Go Go.Q Go.Rx
structure Vl where
 a:A
 c:Cg
deriving DecidableEq
abbrev VV:Type:=IV×(IV×Unit)
def vc(v:Vl):VV:=(ac v.a,cc v.c,())
def Ev:Vl:=⟨E0,Ec⟩
def onev(z:Int):Vl:=⟨⟨false,some z,some z⟩,⟨false,0,z⟩⟩
def loC(c:Cg)(a:Int):Int:=a+(c.r-a).fmod c.m
def hiC(c:Cg)(a:Int):Int:=a-(a-c.r).fmod c.m
def fin3(x y:Option Int)(c:Cg):Vl:=match x,y with
 | some x,some y=>if y < x then Ev else if x=y then onev x else⟨⟨false,clip x,clip y⟩,c⟩
 | x,y=>⟨⟨false,x.bind clip,y.bind clip⟩,c⟩
def red(a:A)(c:Cg):Vl:=if a.em=true then Ev else if c.em=true then Ev else if c.m=0 then(if inS (ofA a) c.r=true then onev c.r else Ev)else fin3 (a.lo.map (loC c)) (a.hi.map (hiC c)) c
structure WfV(v:Vl):Prop where
 a:Wf v.a
 c:WfC v.c
 red:red v.a v.c=v
theorem fmod0{m a:Int}(p:0 < m):a.fmod m=0↔m∣a:=by
 rw[Int.fmod_eq_emod_of_nonneg _ (Int.le_of_lt p)]
 exact⟨Int.dvd_of_emod_eq_zero,Int.emod_eq_zero_of_dvd⟩
theorem fmod_dvd{m:Int}(p:0 < m)(a:Int):m∣a-a.fmod m:=by
 rw[Int.fmod_eq_emod_of_nonneg _ (Int.le_of_lt p)]
 exact Int.dvd_self_sub_emod
theorem in_iff{c:Cg}(he:c.em=false)(hp:0≤c.m){z:Int}:inC c z=true↔c.m∣z-c.r:=by
 unfold inC dvd'
 rw[he]
 by_cases h:c.m=0
 ·rw[if_pos h,h];simp
 ·rw[if_neg h]
  simp only[Bool.not_false,Bool.true_and,decide_eq_true_eq]
  exact fmod0 (by omega)
theorem lo_in{c:Cg}(p:0 < c.m)(a:Int):c.m∣loC c a-c.r:=by
 obtain⟨k,hk⟩:=fmod_dvd p (c.r-a)
 exact⟨-k,by unfold loC;rw[Int.mul_neg,←hk];omega⟩
theorem hi_in{c:Cg}(p:0 < c.m)(a:Int):c.m∣hiC c a-c.r:=by
 obtain⟨k,hk⟩:=fmod_dvd p (a-c.r)
 exact⟨k,by unfold hiC;rw[←hk];omega⟩
theorem Wf.inS{a:A}(h:Wf a)(he:a.em=false){z:Int}(hz: -K < z∧z < K):inS (ofA a) z=true↔(∀ l,a.lo=some l→l≤z)∧∀ u,a.hi=some u→z≤u:=by
 unfold Go.N.inS ofA
 rw[he,if_neg (by simp)]
 simp only[Bool.and_eq_true,decide_eq_true_eq]
 cases a.lo with
 | none=>cases a.hi with
  | none=>simp[lox,hix,key];omega
  | some u=>simp[lox,hix,key];omega
 | some l=>cases a.hi with
  | none=>simp[lox,hix,key];omega
  | some u=>simp[lox,hix,key]
end Go.N
namespace Go.N
open Go Go.Q Go.Rx
section
variable {c d:Cg}(hc:WfC c)(hd:WfC d){z w:Int}(hz:inC c z=true)(hw:inC d w=true)
include hc hd hz hw
end
end Go.N
namespace Go.N
open Go Go.Q Go.Rx
section
variable {c d:Cg}(hc:WfC c)(hd:WfC d)(ec:c.em=false)(ed:d.em=false)
include hc hd ec ed
end
end Go.N
namespace Go.N
open Go Go.Q Go.Rx
section
variable (lf:Nat)(hb:Big lf){a b:Int}(ha:0 < a∧a < C)(hbb:0 < b∧b < C)
include hb ha hbb
end
section
variable (lf:Nat)(hb:Big lf){c d:Cg}(hc:WfC c)(hd:WfC d)
include hb hc hd
end
end Go.N
namespace Go.N
open Go Go.Q Go.Rx
section
variable (lf:Nat)(hb:Big lf){a:A}{c:Cg}(ha:Wf a)(hc:WfC c)
include hb ha hc
end
end Go.N
namespace Go.N
open Go Go.Q Go.Rx
section
variable {a b:A}(ha:Wf a)(hb:Wf b)
include ha hb
end
end Go.N
namespace Go.N
open Go Go.Q Go.Rx
namespace WfV
variable {v:Vl}(h:WfV v)
include h
theorem em:v.a.em=v.c.em:=by
 have r:=h.red
 unfold Go.N.red at r
 cases e1:v.a.em with
 | true =>
  rw[if_pos e1]at r
  rw[←r];rfl
 | false=>cases e2:v.c.em with
  | false=>rfl
  | true =>
   rw[if_neg (by simp[e1]),if_pos e2]at r
   rw[←r]at e1;simp[Ev,E0]at e1
theorem ev(e:v.a.em=true):v=Ev:=by
 have r:=h.red
 unfold Go.N.red at r
 rw[if_pos e]at r
 exact r.symm
theorem one(e:v.a.em=false)(m:v.c.m=0):v=onev v.c.r∧inS (ofA v.a) v.c.r=true:=by
 have r:=h.red
 have e2:v.c.em=false:=by rw[←h.em,e]
 unfold Go.N.red at r
 rw[if_neg (by simp[e]),if_neg (by simp[e2]),if_pos m]at r
 split at r
 ·exact⟨r.symm,by assumption⟩
 ·rw[←r]at e;simp[Ev,E0]at e
theorem fin(e:v.a.em=false)(m:v.c.m≠0):fin3 (v.a.lo.map (loC v.c)) (v.a.hi.map (hiC v.c)) v.c=v:=by
 have r:=h.red
 have e2:v.c.em=false:=by rw[←h.em,e]
 unfold Go.N.red at r
 rwa [if_neg (by simp[e]),if_neg (by simp[e2]),if_neg m]at r
theorem bnd(e:v.a.em=false):(∀ l,v.a.lo=some l→inC v.c l=true)∧∀ l,v.a.hi=some l→inC v.c l=true:=by
 have e2:v.c.em=false:=by rw[←h.em,e]
 by_cases m:v.c.m=0
 ·obtain⟨o,i⟩:=h.one e m
  have hs:inC v.c v.c.r=true:=(in_iff e2 h.c.pos).2 (by simp)
  constructor
  ·intro l hl
   rw[o]at hl;cases hl;exact hs
  ·intro l hl
   rw[o]at hl;cases hl;exact hs
 ·have p:0 < v.c.m:=by have:=h.c.pos;omega
  have f:=h.fin e m
  have ck:=h.a
  have lo:=ck.lo
  have hi:=ck.hi
  revert f lo hi
  cases hl:v.a.lo with
  | none=>cases hh:v.a.hi with
   | none=>intro _ _ _;exact⟨nofun,nofun⟩
   | some u =>
    intro f lo hi
    have f2:=congrArg (fun x=>x.a.hi) f
    simp only[Option.map,fin3,Option.bind,hh]at f2
    have hu:hiC v.c u=u:=by
     unfold clip at f2;split at f2
     ·exact Option.some.inj f2
     ·cases f2
    exact⟨nofun,fun l x=>by cases x;exact(in_iff e2 h.c.pos).2 (by have:=hi_in p u;rwa [hu]at this)⟩
  | some l=>cases hh:v.a.hi with
   | none =>
    intro f lo hi
    have f2:=congrArg (fun x=>x.a.lo) f
    simp only[Option.map,fin3,Option.bind,hl]at f2
    have hu:loC v.c l=l:=by
     unfold clip at f2;split at f2
     ·exact Option.some.inj f2
     ·cases f2
    exact⟨fun l x=>(by cases x;exact(in_iff e2 h.c.pos).2 (by have:=lo_in p l;rwa [hu]at this)),nofun⟩
   | some u =>
    intro f lo hi
    simp only[Option.map,fin3]at f
    split at f
    ·rw[←f]at e;simp[Ev,E0]at e
    ·split at f
     ·rw[←f]at m;simp[onev]at m
     ·have f1:=congrArg (fun x=>x.a.lo) f
      have f2:=congrArg (fun x=>x.a.hi) f
      simp only[hl,hh]at f1 f2
      have h1:loC v.c l=l:=by
       unfold clip at f1;split at f1
       ·exact Option.some.inj f1
       ·cases f1
      have h2:hiC v.c u=u:=by
       unfold clip at f2;split at f2
       ·exact Option.some.inj f2
       ·cases f2
      exact⟨fun k x=>(by cases x;exact(in_iff e2 h.c.pos).2 (by have:=lo_in p l;rwa [h1]at this)),fun k x=>(by cases x;exact(in_iff e2 h.c.pos).2 (by have:=hi_in p u;rwa [h2]at this))⟩
end WfV
end Go.N
namespace Go.N
open Go Go.Q Go.Rx
section
variable {a b:Vl}(ha:WfV a)(hb:WfV b)
include ha hb
end
section
variable {a b:Vl}(ha:WfV a)(hb:WfV b)
include ha hb
end
end Go.N
namespace Go.N
open Go Go.Q Go.Rx
section
variable (lf:Nat)(hb:Big lf)
include hb
end
end Go.N
namespace Go.N
open Go Go.Q
theorem playV(lf:Nat):surveyortop_playValues.f lf=some (true,()):=by kernel_rfl
end Go.N
namespace Go.Q
open Go Go.RowKit Go.ChangeShapes Go.WideShapes
def flat:Ty→Bool
 | .sl _=>false
 | .pair a b=>flat a&&flat b
 | _=>true
def partsOf(P:Program)(t:TypeId):List (TypeId×Nat):=match P.underlying t with
 | some (.struct fs)=>fs.toList.map fun f=>(f.type,f.offset)
 | some (.array n e)=>(List.range n).map fun i=>(e,i*P.cellsOf e)
 | _=>[]
mutual
def fitT(P:Program):Ty→TypeId→Bool
 | .int k,t=>match P.underlying t with
  | some (.int k')=>decide (k'=k)
  | _=>false
 | .bool,t=>match P.underlying t with
  | some .bool=>true
  | _=>false
 | .str,t=>match P.underlying t with
  | some .string=>true
  | _=>false
 | .unit,_=>false
 | .nul,_=>false
 | .pair a b,t=>match partsOf P t with
  | p::r=>p.2==0&&(fitT P a p.1&&(P.cellsOf p.1==a.n&&(fitL P b r a.n&&P.cellsOf t==a.n+b.n)))
  | []=>false
 | .sl e,t=>match P.underlying t with
  | some (.slice e')=>fitT P e e'&&(flat e&&P.cellsOf e'==e.n)
  | _=>false
def fitL(P:Program):Ty→List (TypeId×Nat)→Nat→Bool
 | .unit,l,_=>match l with
  | []=>true
  | _=>false
 | .pair a b,l,k=>match l with
  | p::r=>p.2==k&&(fitT P a p.1&&(P.cellsOf p.1==a.n&&fitL P b r (k+a.n)))
  | []=>false
 | _,_,_=>false
end
def Bnd:(T:Ty)→T.α→Prop
 | .int k,x=>k.min≤x∧x≤k.max
 | .str,x=>x.size≤9223372036854775807
 | .pair a b,x=>Bnd a x.1∧Bnd b x.2
 | .sl e,l=>l.length≤9223372036854775807∧∀ y∈l,Bnd e y
 | _,_=>True
def Bnds:(ps:List Ty)→Tys ps→Prop
 | [],_=>True
 | t::ts,x=>Bnd t x.1∧Bnds ts x.2
section
variable {H:Type}{enc:TypeId×Value→H}{P:Program}{w:World}{F:Nat→Prop}{sp:Nat→Bool}{held:Bool}
theorem trod_parts{t:TypeId}{fuel:Nat}{cs:List Value}{x:DataW H×List MemPlace}(hp:partsOf P t≠[])(h:DataW.trod enc P w 0 sp held fuel t cs=some x):
  cs.length=P.cellsOf t∧∃ n,∀ p∈partsOf P t,∃ y,DataW.trod enc P w 0 sp held n p.1 ((cs.drop p.2).take (P.cellsOf p.1))=some y:=by
 unfold partsOf at hp⊢
 split at hp
 ·rename_i fs hu
  obtain⟨xs,n,_,_,hl,hxl,hf⟩:=DataW.trod_struct hu h
  refine⟨hl,n,fun p hm=>?_⟩
  simp only[List.mem_map]at hm
  obtain⟨f,hfm,rfl⟩:=hm
  obtain⟨i,hi,he⟩:=List.mem_iff_getElem.1 hfm
  have h1:fs[i]? = some f:=by
   have:fs.toList[i]? = some f:=by rw[List.getElem?_eq_getElem hi,he]
   simpa using this
  have h2:i < xs.length:=by
   rw[hxl];simpa using hi
  exact⟨xs[i],by rw[hf i f h1,List.getElem?_eq_getElem h2]⟩
 ·rename_i n e hu
  obtain⟨xs,m,_,_,hl,hxl,hf⟩:=DataW.trod_array hu h
  refine⟨hl,m,fun p hm=>?_⟩
  simp only[List.mem_map,List.mem_range]at hm
  obtain⟨i,hi,rfl⟩:=hm
  exact⟨xs[i],by rw[hf i hi,List.getElem?_eq_getElem (by omega)]⟩
 ·exact absurd rfl hp
mutual
theorem dr_flat:∀ (T:Ty) (t:TypeId) (cs:List Value) (x:DataW H×List MemPlace) (fuel:Nat),flat T=true→fitT P T t=true→DataW.trod enc P w 0 sp held fuel t cs=some x→∃ y:T.α,DR F w T y cs∧Bnd T y
 | .int k,t,cs,x,fuel,_,hf,h=>by
  unfold fitT at hf
  split at hf
  ·rename_i k' hu
   obtain rfl:k'=k:=by simpa using hf
   obtain⟨n,rfl,_,hw⟩:=DataW.trod_int hu h
   exact⟨n,rfl,by simpa [Lit.wf,Bnd]using hw⟩
  ·cases hf
 | .bool,t,cs,x,fuel,_,hf,h=>by
  unfold fitT at hf
  split at hf
  ·rename_i hu
   obtain⟨b,rfl,_⟩:=DataW.trod_bool hu h
   exact⟨b,rfl,trivial⟩
  ·cases hf
 | .str,t,cs,x,fuel,_,hf,h=>by
  unfold fitT at hf
  split at hf
  ·rename_i hu
   obtain⟨s,rfl,_,hs⟩:=DataW.trod_string hu h
   exact⟨s,rfl,by simpa [maxLen,Bnd]using hs⟩
  ·cases hf
 | .unit,t,cs,x,fuel,_,hf,h=>by simp[fitT]at hf
 | .nul,t,cs,x,fuel,_,hf,h=>by simp[fitT]at hf
 | .sl e,t,cs,x,fuel,hfl,_,_=>by simp[flat]at hfl
 | .pair a b,t,cs,x,fuel,hfl,hf,h=>by
  unfold fitT at hf
  split at hf
  ·rename_i p r hp
   simp only[Bool.and_eq_true,beq_iff_eq]at hf
   obtain⟨h0,h1,h2,h3,h4⟩:=hf
   simp only[flat,Bool.and_eq_true]at hfl
   obtain⟨hl,n,hm⟩:=trod_parts (by rw[hp];simp) h
   rw[hp]at hm
   obtain⟨y0,hy0⟩:=hm p (by simp)
   rw[h0,h2]at hy0
   obtain⟨u,d1,b1⟩:=dr_flat a p.1 _ _ n hfl.1 h1 hy0
   obtain⟨v,d2,b2⟩:=dr_flatL b r a.n cs n hfl.2 h3 (fun q hq=>hm q (by simp[hq])) (by omega)
   refine⟨(u,v),⟨_,_,?_,d1,d2⟩,b1,b2⟩
   have e:(cs.drop a.n).take b.n=cs.drop a.n:=List.take_of_length_le (by rw[List.length_drop];omega)
   rw[e];simp
  ·cases hf
theorem dr_flatL:∀ (T:Ty) (l:List (TypeId×Nat)) (k:Nat) (cs:List Value) (n:Nat),flat T=true→fitL P T l k=true→(∀ p∈l,∃ y,DataW.trod enc P w 0 sp held n p.1 ((cs.drop p.2).take (P.cellsOf p.1))=some y)→k+T.n≤cs.length→∃ y:T.α,DR F w T y ((cs.drop k).take T.n)∧Bnd T y
 | .int k',l,k,cs,n,_,hf,_,_=>by simp[fitL]at hf
 | .bool,l,k,cs,n,_,hf,_,_=>by simp[fitL]at hf
 | .str,l,k,cs,n,_,hf,_,_=>by simp[fitL]at hf
 | .nul,l,k,cs,n,_,hf,_,_=>by simp[fitL]at hf
 | .sl _,l,k,cs,n,_,hf,_,_=>by simp[fitL]at hf
 | .unit,l,k,cs,n,_,hf,_,_=>⟨(),by simp[DR,Ty.n],trivial⟩
 | .pair a b,l,k,cs,n,hfl,hf,hm,hk=>by
  unfold fitL at hf
  split at hf
  ·rename_i p r
   simp only[Bool.and_eq_true,beq_iff_eq]at hf
   obtain⟨h0,h1,h2,h3⟩:=hf
   simp only[flat,Bool.and_eq_true]at hfl
   simp only[Ty.n]at hk
   obtain⟨y0,hy0⟩:=hm p (by simp)
   rw[h0,h2]at hy0
   obtain⟨u,d1,b1⟩:=dr_flat a p.1 _ _ n hfl.1 h1 hy0
   obtain⟨v,d2,b2⟩:=dr_flatL b r (k+a.n) cs n hfl.2 h3 (fun q hq=>hm q (by simp[hq])) (by omega)
   refine⟨(u,v),⟨_,_,?_,d1,d2⟩,b1,b2⟩
   simp only[Ty.n]
   rw[List.take_add,List.drop_drop]
  ·cases hf
end
theorem list_of{α:Type}{R:Nat→α→Prop}:∀ (n:Nat),(∀ i,i < n→∃ y,R i y)→∃ l:List α,l.length=n∧∀ (i:Nat) (y:α),l[i]? = some y→R i y
 | 0,_=>⟨[],rfl,fun i y h=>by simp at h⟩
 | n+1,h=>by
  obtain⟨l,hl,hr⟩:=list_of n fun i hi=>h i (by omega)
  obtain⟨y,hy⟩:=h n (by omega)
  refine⟨l++[y],by simp[hl],fun i z hz=>?_⟩
  by_cases hi:i < l.length
  ·rw[List.getElem?_append_left hi]at hz;exact hr i z hz
  ·rw[List.getElem?_append_right (by omega)]at hz
   have:i=l.length:=by
    by_cases e:i-l.length=0
    ·omega
    ·obtain⟨q,hq⟩:=Nat.exists_eq_succ_of_ne_zero e
     rw[hq]at hz;simp at hz
   subst this
   simp only[Nat.sub_self,List.getElem?_cons_zero,Option.some.injEq]at hz
   subst hz;rw[hl];exact hy
def topOK:Ty→Bool
 | .sl e=>flat e
 | T=>flat T
theorem add_none(b o n:Nat):(Addr.add ⟨b,o,none⟩ n)=⟨b,o+n,none⟩:=by
 unfold Addr.add;split
 ·rename_i h;rw[h];rfl
 ·rfl
theorem isC_shape{i:Nat}{q:TypeId×Nat}(h:w.shape? i=some q):IsC w i:=by
 unfold World.shape? at h
 unfold IsC
 cases hb:w.heap[i]? with
 | none=>rw[hb]at h;simp at h
 | some o=>cases o<;>rw[hb]at h<;>simp_all
theorem valR_of_trod{T:Ty}{t:TypeId}{v:Value}{d:DataW H}{p:List MemPlace}{base:Nat}(ht:topOK T=true)(hf:fitT P T t=true)(hv:Value.okWide P w .any base t v)(h:DataW.Trod enc P w 0 sp held t v d p):∃ y:T.α,ValR (IsC w) w T y v∧Bnd T y:=by
 obtain⟨fuel,h⟩:=h
 unfold ValR
 cases T with
 | int k =>
  obtain⟨y,h1,h2⟩:=dr_flat (F:=IsC w) (.int k) t _ _ fuel rfl hf h
  unfold fitT at hf
  split at hf
  ·rename_i k' hu
   obtain⟨n,rfl⟩:=okWide_int hu hv
   exact⟨y,by rw[if_neg (by simp[isSt])];simpa [Value.cells]using h1,h2⟩
  ·cases hf
 | bool =>
  obtain⟨y,h1,h2⟩:=dr_flat (F:=IsC w) .bool t _ _ fuel rfl hf h
  unfold fitT at hf
  split at hf
  ·rename_i hu
   obtain⟨n,rfl⟩:=okWide_bool hu hv
   exact⟨y,by rw[if_neg (by simp[isSt])];simpa [Value.cells]using h1,h2⟩
  ·cases hf
 | str =>
  obtain⟨y,h1,h2⟩:=dr_flat (F:=IsC w) .str t _ _ fuel rfl hf h
  unfold fitT at hf
  split at hf
  ·rename_i hu
   obtain⟨n,rfl⟩:=okWide_string hu hv
   exact⟨y,by rw[if_neg (by simp[isSt])];simpa [Value.cells]using h1,h2⟩
  ·cases hf
 | unit=>simp[fitT]at hf
 | nul=>simp[fitT]at hf
 | pair a b =>
  obtain⟨y,h1,h2⟩:=dr_flat (F:=IsC w) (.pair a b) t _ _ fuel ht hf h
  obtain⟨cs,rfl⟩:∃ cs,v=.agg cs:=by
   unfold fitT at hf
   split at hf
   ·rename_i q r hp
    unfold partsOf at hp
    unfold Value.okWide at hv
    split at hp
    ·rename_i fs hu
     rw[hu]at hv
     obtain⟨cs,e,_⟩:=hv
     exact⟨cs,e⟩
    ·rename_i n e hu
     rw[hu]at hv
     obtain⟨cs,e,_⟩:=hv
     exact⟨cs,e⟩
    ·cases hp
   ·cases hf
  exact⟨y,by rw[if_pos (show isSt (.pair a b)=true from rfl)];exact⟨cs.toList,by simp,h1⟩,h2⟩
 | sl e =>
  unfold fitT at hf
  split at hf
  ·rename_i e' hu
   simp only[Bool.and_eq_true,beq_iff_eq]at hf
   obtain⟨h1,h2,h3⟩:=hf
   obtain⟨a,len,cap,rfl⟩:=okWide_slice hu hv
   rcases DataW.trod_slice hu h with⟨hc,_⟩ | ⟨a',len',cap',elems,rest,n,_,hc,_,_,hle,hcm,hel,hread,_⟩
   ·simp only[Value.cells,List.cons.injEq,Value.slice.injEq,and_true]at hc
    obtain⟨rfl,rfl,rfl⟩:=hc
    exact⟨[],by rw[if_neg (by simp[isSt])];exact⟨_,rfl,.inl ⟨rfl,rfl⟩⟩,by simp[Bnd]⟩
   ·simp only[Value.cells,List.cons.injEq,Value.slice.injEq,and_true]at hc
    obtain⟨rfl,rfl,rfl⟩:=hc
    have hhas:w.has P .any base a' e' cap:=by
     unfold Value.okWide Cell.okWide Cell.ok at hv
     rw[hu]at hv
     exact hv.2.2
    obtain⟨_,hspot,row,cells,hsh,_⟩:=hhas
    obtain⟨b,o,s⟩:=a'
    simp only at hspot;subst hspot
    have hisc:IsC w b:=isC_shape hsh
    obtain⟨l,hl,hr⟩:=list_of (α:=e.α) (R:=fun i y=>(∃ ds:List Value,DR (IsC w) w e y ds∧∀ (j:Nat) (d:Value),ds[j]? = some d→w.cell? ⟨b,o+(i*e.n+j),none⟩=some d)∧Bnd e y) len fun i hi=>by
     have hq:=hread i hi
     rw[List.getElem?_eq_getElem (by omega),Option.bind_eq_some_iff]at hq
     obtain⟨cs,c1,c2⟩:=hq
     obtain⟨y,k1,k2⟩:=dr_flat (F:=IsC w) e e' cs _ n h2 h1 c2
     refine⟨y,⟨cs,k1,fun j d' hd=>?_⟩,k2⟩
     obtain⟨_,m1,m2⟩:=World.cells?_some c1
     have hj:j < cs.length:=(List.getElem?_eq_some_iff.1 hd).1
     have:=m2 j (by omega)
     rw[add_none,add_none,h3]at this
     rw[←Nat.add_assoc,this];exact hd
    refine⟨l,?_,?_,?_⟩
    ·rw[if_neg (by simp[isSt])]
     refine⟨_,rfl,.inr ⟨b,o,cap,by rw[hl],hisc,by omega,fun i x hx=>(hr i x hx).1⟩⟩
    ·rw[hl];simp only[maxLen]at hcm;omega
    ·intro y hy
     obtain⟨i,hi,he⟩:=List.mem_iff_getElem.1 hy
     exact(hr i y (by rw[List.getElem?_eq_getElem hi,he])).2
  ·cases hf
def fitAll(P:Program):List Ty→List TypeId→Bool
 | [],[]=>true
 | T::Ts,t::ts=>(topOK T&&fitT P T t)&&fitAll P Ts ts
 | _,_=>false
theorem argsR_of_trod:∀ {Ts:List Ty} {ts:List TypeId} {vs:List Value} {ds:List (DataW H)} {p:List MemPlace} {base:Nat},fitAll P Ts ts=true→(∀ (j:Nat) t v,ts[j]? = some t→vs[j]? = some v→Value.okWide P w .any base t v)→
  DataW.TrodAll enc P w 0 sp held ts vs ds p→∃ x:Tys Ts,ArgsR (IsC w) w Ts x vs∧Bnds Ts x
 | [],[],vs,ds,p,base,_,_,h=>by
  cases vs with
  | nil=>exact⟨(),rfl,trivial⟩
  | cons _ _=>cases ds<;>exact absurd h (by simp[DataW.TrodAll])
 | [],_::_,vs,ds,p,base,hf,_,h=>by simp[fitAll]at hf
 | _::_,[],vs,ds,p,base,hf,_,h=>by simp[fitAll]at hf
 | T::Ts,t::ts,vs,ds,p,base,hf,hv,h=>by
  simp only[fitAll,Bool.and_eq_true]at hf
  cases vs with
  | nil=>cases ds<;>exact absurd h (by simp[DataW.TrodAll])
  | cons v vs =>
   cases ds with
   | nil=>exact absurd h (by simp[DataW.TrodAll])
   | cons d ds =>
    obtain⟨p1,p2,h1,h2,_⟩:=h
    obtain⟨y,k1,k2⟩:=valR_of_trod hf.1.1 hf.1.2 (hv 0 t v rfl rfl) h1
    obtain⟨x,m1,m2⟩:=argsR_of_trod hf.2 (fun j t' v' a b=>hv (j+1) t' v' (by simpa using a) (by simpa using b)) h2
    exact⟨(y,x),⟨v,vs,rfl,k1,m1⟩,k2,m2⟩
theorem trodAll_below{W W':World}(hl:laidOutB P=true)(hb:Below W.heap.size W W'):∀ {ts:List TypeId} {vs:List Value} {ds:List (DataW H)} {p:List MemPlace},(ts.all fun t=>P.readableRec t&&decide (t < P.types.size))=true→
  DataW.TrodAll enc P W 0 (fun _=>true) true ts vs ds p→DataW.TrodAll enc P W' 0 (fun b=>decide (b < W.heap.size)) true ts vs ds p
 | [],vs,ds,p,_,h=>by cases vs<;>cases ds<;>simp_all [DataW.TrodAll]
 | t::ts,vs,ds,p,ha,h=>by
  cases vs with
  | nil=>cases ds<;>exact absurd h (by simp[DataW.TrodAll])
  | cons v vs =>
   cases ds with
   | nil=>exact absurd h (by simp[DataW.TrodAll])
   | cons d ds =>
    simp only[List.all_cons,Bool.and_eq_true,decide_eq_true_eq]at ha
    obtain⟨p1,p2,h1,h2,rfl⟩:=h
    have hlt:∀ x∈p1,x.block < W.heap.size:=by
     obtain⟨m,hm⟩:=h1
     exact DataW.trod_lt m _ _ _ hm
    exact⟨p1,p2,Below.trod hl ha.1.1 ha.1.2 h1 hb hlt,trodAll_below hl hb ha.2 h2,rfl⟩
theorem trodAll_len{ts:List TypeId}:∀ {vs:List Value} {ds:List (DataW H)} {p:List MemPlace},DataW.TrodAll enc P w 0 sp held ts vs ds p→ds.length=ts.length:=by
 induction ts with
 | nil=>intro vs ds p h;cases vs<;>cases ds<;>simp_all [DataW.TrodAll]
 | cons t ts ih =>
  intro vs ds p h
  cases vs with
  | nil=>cases ds<;>exact absurd h (by simp[DataW.TrodAll])
  | cons v vs =>
   cases ds with
   | nil=>exact absurd h (by simp[DataW.TrodAll])
   | cons d ds=>obtain⟨_,_,_,h2,_⟩:=h;simp[ih h2]
end
section
variable {H:Type}{enc:TypeId×Value→H}
theorem law_post(hl:laidOutB Proofs.Tryz.prog=true){n:FuncId}{fn:Func}{s:ChangeSpec}{Ts:List Ty}{f:Nat→Tys Ts→Option (Bool×Unit)}(hE:∀ lf,EntryOK Proofs.Tryz.prog TabG n ⟨Ts,[.bool],f lf⟩)
  (hf:fitAll Proofs.Tryz.prog Ts fn.params.toList=true) (hrd:(fn.params.toList.all fun t=>Proofs.Tryz.prog.readableRec t&&decide (t < Proofs.Tryz.prog.types.size))=true)
  {rt:TypeId} (hrt:fn.resultTypes=#[rt]) (hub:Proofs.Tryz.prog.underlying rt=some .bool) (hsv:s.vars=[])
  (hs:∀ ds:List (DataW H),ds.length=fn.params.toList.length→s.fn H ds={ results:=[.lit (.bool true)],args:=ds })
  (hpure:∀ x:Tys Ts,Bnds Ts x→∃ lf,f lf x=some (true,()))
  {W:World} {base:Nat} {args:Array Value} {ds gs:List (DataW H)} {before:List MemPlace} {apart fresh handsOn:Bool}
  (hval:∀ (j:Nat) t v,fn.params[j]? = some t→args[j]? = some v→Value.okWide Proofs.Tryz.prog W .any base t v)
  (hW:DataW.Whole enc Proofs.Tryz.prog fn.params.toList s.vars apart W args.toList ds gs before) (hG:TabG W) :
  Calls Proofs.Tryz.prog n args W fun e W'=>∃ v,e=.returned v∧s.post enc Proofs.Tryz.prog fn apart fresh handsOn false W args v W':=by
 have hW':=hW
 obtain⟨p,q,hA,hV,rfl,_,_⟩:=hW
 rw[hsv]at hV
 obtain⟨rfl,rfl⟩:=trodVars_none hV
 have hv':∀ (j:Nat) (t:TypeId) (v:Value),fn.params.toList[j]? = some t→args.toList[j]? = some v→Value.okWide Proofs.Tryz.prog W .any base t v:=by
  intro j t v a b
  rw[Array.getElem?_toList]at a b
  exact hval j t v a b
 obtain⟨x,k1,k2⟩:=argsR_of_trod hf hv' hA
 obtain⟨lf,hlf⟩:=hpure x k2
 have hlen:=trodAll_len hA
 have h:=hE lf x (true,()) hlf (IsC W) W args.toList hG (fun i hi=>hi) k1
 rw[Array.toArray_toList]at h
 refine h.mono ?_
 rintro e W' ⟨v,rfl,hb,hr⟩
 obtain⟨vs,⟨u,r,rfl,h1,h2⟩,rfl⟩:=hr
 obtain rfl:r=[]:=h2
 have hu:u=.bool true:=by
  unfold ValR at h1
  rw[if_neg (by simp[isSt])]at h1
  simpa [DR]using h1
 subst hu
 refine⟨_,rfl,ds,[],p++[],[],p,[],hW',?_,?_,?_,hb.frame _,fun h=>by cases h⟩
 ·rw[List.append_nil,hs ds hlen,hrt]
  exact trodAll_mk1 (shut_bool hub true)
 ·rw[List.append_nil,hs ds hlen]
  exact trodAll_below hl hb hrd hA
 ·rw[List.append_nil,hs ds hlen,hsv]
  rfl
end
theorem tabG_of_laid{laid:List (String×DataW Unit)}{W:World}(hp:(laid.all fun x=>x.2.handleName?.isNone)=true){g:Nat}{t e:TypeId}{n:Nat}{rest:List (String×DataW Unit)}
  (hg:Proofs.Tryz.prog.globalNamed "internal/strconv.uint64pow10" = some g) (hty:(Proofs.Tryz.prog.globals[g]?).map (·.type)=some t) (ht:Proofs.Tryz.prog.underlying t=some (.array n e)) (he:Proofs.Tryz.prog.underlying e=some (.int .u64))
  (hce:Proofs.Tryz.prog.cellsOf e=1) (hct:Proofs.Tryz.prog.cellsOf t=n)
  (hh:(laid.filter fun x=>x.1 == "internal/strconv.uint64pow10")=("internal/strconv.uint64pow10",Lib.tabData .u64 Lib.pow10Tab)::rest)
  (h:laidMetH Proofs.Tryz.prog laid W):TabG W:=by
 rw[MakeChecks.laidMetH_plain _ _ _ hp]at h
 have h':=laidMet.filter (fun x=>x.1 == "internal/strconv.uint64pow10") h
 rw[hh]at h'
 exact Lib.tabIs_of_head hg hty ht he hce hct h'
theorem goes_no{P:Program}{c:OpenClaim}(h:P.funcs.any Func.goes=false)(hs:c.start=.entering):false=c.goesBy P:=by
 have key:∀ (g:Nat) (fn:Func),P.funcs[g]? = some fn→fn.goes=false:=by
  intro g fn hg
  have:=Array.any_eq_false.1 h
  obtain⟨hlt,e⟩:=Array.getElem?_eq_some_iff.1 hg
  have:=this g hlt
  rw[e]at this
  simpa using this
 have k2:∀ g:Nat,(P.funcs[g]?).any Func.goes=false:=by
  intro g
  cases hg:P.funcs[g]? with
  | none=>rfl
  | some fn=>simp[key g fn hg]
 unfold OpenClaim.goesBy Program.goesAt Program.goesFrom
 rw[hs]
 have k3:∀ f,P.goes f=false:=by
  intro f
  unfold Program.goes
  rw[h,Bool.and_false,Bool.or_false]
  simp only[k2]
  simp
 cases P.funcNamed c.func with
 | none=>rfl
 | some f=>simp[k3]
end Go.Q
