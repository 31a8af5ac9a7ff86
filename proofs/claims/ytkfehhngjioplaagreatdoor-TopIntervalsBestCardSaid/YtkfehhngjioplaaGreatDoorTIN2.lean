import Derived.Test.YtkfehhngjioplaaGreatDoorTIG6
import Derived.Test.YtkfehhngjioplaaGreatDoorTIN1
set_option linter.unusedVariables false
set_option linter.unusedSimpArgs false
set_option linter.unusedSectionVars false
namespace Go.N
open Go.IntKind (i64)
open Go Go.Q Go.Rx
theorem ltk{j:Nat}{k:Nat}:decide ((j:Int) < ((k:Nat):Int))=decide (j < k):=by simp
theorem apS'{α:Type}(b:Nat)(l l':List α)(hb:b≤1000)(h:l.length+l'.length≤1000000):apL true b l l'=some (l++l'):=by
 unfold apL
 have:(l.length+l'.length)*b≤1000000*1000:=Nat.mul_le_mul h hb
 rw[if_pos ⟨rfl,by simp only[maxLen];omega,by omega⟩]
theorem fdiv_t{i j:Int}(hj:j≠0):i.fdiv j=if i.tmod j≠0∧(decide (i < 0) != decide (j < 0))=true then i.tdiv j-1 else i.tdiv j:=by
 have e:=Int.mul_tdiv_add_tmod i j
 have f:=Int.mul_fdiv_add_fmod i j
 rw[Int.fdiv_eq_tdiv]
 by_cases hd:j∣i
 ·rw[if_pos hd,if_neg (fun h=>h.1 (Int.tmod_eq_zero_of_dvd hd))];omega
 ·have hm:i.tmod j≠0:=fun h=>hd (Int.dvd_of_tmod_eq_zero h)
  have hi:i≠0:=fun h=>hd (h▸Int.dvd_zero j)
  rw[if_neg hd]
  by_cases h1:0≤i<;>by_cases h2:0≤j
  ·simp[h1,h2,hm,show ¬i < 0 by omega,show ¬j < 0 by omega]
  ·simp[h1,h2,hm,show ¬i < 0 by omega,show j < 0 by omega]
  ·simp[h1,h2,hm,show i < 0 by omega,show ¬j < 0 by omega,show 0 < j by omega]
  ·simp[h1,h2,hm,show i < 0 by omega,show j < 0 by omega,Int.sign_eq_neg_one_of_neg (show j < 0 by omega)]
theorem down_f(lf:Nat){i j:Int}(h1: -400≤i)(h2:i≤400)(hj:j≠0):surveyortop_playDown.f lf i j=some (i.fdiv j,()):=by
 have hb:=fdiv_b h1 h2 hj
 rw[fdiv_t hj]at hb⊢
 rw[surveyortop_playDown.f,iQuo,iRem,if_neg hj,if_neg hj,bdS,bdS]
 by_cases hm:i.tmod j=0
 ·rw[show(i.tmod j != 0)=false by simpa using hm,brF,if_neg (fun h=>h.1 hm)]
  rw[if_neg (fun h=>h.1 hm)]at hb
  rw[w64 (by omega) (by omega)]
 ·rw[show(i.tmod j != 0)=true by simpa using hm,brT]
  cases hc:(decide (i < 0) != decide (j < 0))with
  | true =>
   rw[if_pos ⟨hm,hc⟩]at hb
   rw[brT,if_pos ⟨hm,rfl⟩,w64 (n:=i.tdiv j) (by omega) (by omega),w64 (by omega) (by omega)]
  | false =>
   rw[if_neg (fun h=>by rw[hc]at h;cases h.2)]at hb
   rw[brF,if_neg (fun h=>by cases h.2),w64 (by omega) (by omega)]
theorem min_lp(lf:Nat){l:List Int}(hl:l.length≤1000):∀ (d n k:Nat) (v:Int),k+d=l.length→d < n→v∈l→(∀ z∈l.take k,v≤z)→∃ p,slices_Min_int_int.l0 lf l n v k=some ((p,()),())∧p∈l∧∀ z∈l,p≤z
 | 0,n,k,v,hk,hn,hv,ha=>by
  obtain⟨n,rfl⟩:∃ q,n=q+1:=⟨n-1,by omega⟩
  rw[List.take_of_length_le (by omega)]at ha
  exact⟨v,by rw[slices_Min_int_int.l0,slices_Min_int_int.r0,ltk,decide_eq_false (by omega),brF],hv,ha⟩
 | d+1,n,k,v,hk,hn,hv,ha=>by
  obtain⟨n,rfl⟩:∃ q,n=q+1:=⟨n-1,by omega⟩
  have hkl:k < l.length:=by omega
  obtain⟨p,p1,p2⟩:=min_lp lf hl d n (k+1) (if l[k] < v then l[k]else v) (by omega) (by omega) (by split;exact List.getElem_mem hkl;exact hv) (fun z hz=>by
   rw[←List.take_append_getElem hkl,List.mem_append]at hz
   rcases hz with hz | hz
   ·have:=ha z hz;split<;>omega
   ·rw[List.mem_singleton]at hz;subst hz;split<;>omega)
  exact⟨p,by rw[slices_Min_int_int.l0,slices_Min_int_int.r0,ltk,decide_eq_true hkl,brT,idxL_nat _ k hkl,bdS,w64 (by omega) (by omega),show(k:Int)+1=((k+1:Nat):Int) by omega,p1],p2⟩
theorem max_lp(lf:Nat){l:List Int}(hl:l.length≤1000):∀ (d n k:Nat) (v:Int),k+d=l.length→d < n→v∈l→(∀ z∈l.take k,z≤v)→∃ p,slices_Max_int_int.l0 lf l n v k=some ((p,()),())∧p∈l∧∀ z∈l,z≤p
 | 0,n,k,v,hk,hn,hv,ha=>by
  obtain⟨n,rfl⟩:∃ q,n=q+1:=⟨n-1,by omega⟩
  rw[List.take_of_length_le (by omega)]at ha
  exact⟨v,by rw[slices_Max_int_int.l0,slices_Max_int_int.r0,ltk,decide_eq_false (by omega),brF],hv,ha⟩
 | d+1,n,k,v,hk,hn,hv,ha=>by
  obtain⟨n,rfl⟩:∃ q,n=q+1:=⟨n-1,by omega⟩
  have hkl:k < l.length:=by omega
  obtain⟨p,p1,p2⟩:=max_lp lf hl d n (k+1) (if l[k] > v then l[k]else v) (by omega) (by omega) (by split;exact List.getElem_mem hkl;exact hv) (fun z hz=>by
   rw[←List.take_append_getElem hkl,List.mem_append]at hz
   rcases hz with hz | hz
   ·have:=ha z hz;split<;>omega
   ·rw[List.mem_singleton]at hz;subst hz;split<;>omega)
  exact⟨p,by rw[slices_Max_int_int.l0,slices_Max_int_int.r0,ltk,decide_eq_true hkl,brT,idxL_nat _ k hkl,bdS,w64 (by omega) (by omega),show(k:Int)+1=((k+1:Nat):Int) by omega,p1],p2⟩
theorem min_f(lf:Nat)(h3:200000≤lf){l:List Int}(hl:l.length≤1000)(h0:l≠[]):∃ p,slices_Min_int_int.f lf l=some (p,())∧p∈l∧∀ z∈l,p≤z:=by
 have hp:0 < l.length:=List.length_pos_iff.2 h0
 obtain⟨p,p1,p2⟩:=min_lp lf hl (l.length-1) (lf+40) 1 l[0] (by omega) (by omega) (List.getElem_mem hp) (fun z hz=>by
  rw[←List.take_append_getElem hp,List.take_zero,List.nil_append,List.mem_singleton]at hz
  rw[hz];exact Int.le_refl _)
 refine⟨p,?_,p2⟩
 rw[slices_Min_int_int.f,decide_eq_false (by omega),brF,show idxL l 0=some l[0] from idxL_nat l 0 hp,bdS,show(1:Int)=((1:Nat):Int) from rfl,p1,bdS]
theorem max_f(lf:Nat)(h3:200000≤lf){l:List Int}(hl:l.length≤1000)(h0:l≠[]):∃ p,slices_Max_int_int.f lf l=some (p,())∧p∈l∧∀ z∈l,z≤p:=by
 have hp:0 < l.length:=List.length_pos_iff.2 h0
 obtain⟨p,p1,p2⟩:=max_lp lf hl (l.length-1) (lf+40) 1 l[0] (by omega) (by omega) (List.getElem_mem hp) (fun z hz=>by
  rw[←List.take_append_getElem hp,List.take_zero,List.nil_append,List.mem_singleton]at hz
  rw[hz];exact Int.le_refl _)
 refine⟨p,?_,p2⟩
 rw[slices_Max_int_int.f,decide_eq_false (by omega),brF,show idxL l 0=some l[0] from idxL_nat l 0 hp,bdS,show(1:Int)=((1:Nat):Int) from rfl,p1,bdS]
theorem span_f(lf:Nat)(h3:200000≤lf){l:List Int}{a:A}(hl:l.length≤1000)(h:IsSpan l a)(hbd:∀ z∈l,-1000000≤z∧z≤1000000):surveyortop_playSpan.f lf l=some (ac a,()):=by
 rw[surveyortop_playSpan.f]
 by_cases h0:l=[]
 ·subst h0;rw[h.nil rfl,show(((([]:List Int).length:Nat):Int)==0)=true from rfl,brT];rfl
 ·have hp:0 < l.length:=List.length_pos_iff.2 h0
  obtain⟨p,q,rfl,h1,h2,h4⟩:=h.ne h0
  obtain⟨p',e1,k1,k2⟩:=min_f lf h3 hl h0
  obtain⟨q',e2,k3,k4⟩:=max_f lf h3 hl h0
  have:=h4 p' k1
  have:=h4 q' k3
  have:=k2 p h1
  have:=k4 q h2
  have b1:=hbd p h1
  have b2:=hbd q h2
  obtain rfl:p'=p:=by omega
  obtain rfl:q'=q:=by omega
  rw[show(((l.length:Nat):Int)==0)=false by simp;exact h0,brF,e1,bdS,whole_ref lf h3 (by omega) (by omega),bdS,e2,bdS,whole_ref lf h3 (by omega) (by omega),bdS]
  rfl
theorem rl_len(f:Int)(m:Nat):(rl f m).length=m+1:=by simp[rl]
theorem rl_get(f:Int)(m k:Nat)(h:k < (rl f m).length):(rl f m)[k]=f+k:=by simp[rl]
theorem list_lp(lf:Nat){a b:Int}{m:Nat}(ha: -300≤a∧a≤300)(hm:m≤10):∀ (d n k:Nat),k+d=m+1→d < n→surveyortop_playList.l0 lf ((m+1:Nat):Int) a b n k ((rl a m).take k)=some ((rl a m,()),())
 | 0,n,k,hk,hn=>by
  obtain⟨n,rfl⟩:∃ q,n=q+1:=⟨n-1,by omega⟩
  rw[surveyortop_playList.l0,surveyortop_playList.r0,ltk,decide_eq_false (by omega),brF,List.take_of_length_le (by rw[rl_len];omega)]
 | d+1,n,k,hk,hn=>by
  obtain⟨n,rfl⟩:∃ q,n=q+1:=⟨n-1,by omega⟩
  have hkl:k < (rl a m).length:=by rw[rl_len];omega
  have e:(rl a m).take k++[a+(k:Int)]=(rl a m).take (k+1):=by rw[←List.take_append_getElem hkl,rl_get]
  rw[surveyortop_playList.l0,surveyortop_playList.r0,ltk,decide_eq_true (by omega),brT,w64 (n:=a) (by omega) (by omega),w64 (n:=a+k) (by omega) (by omega),apS' 8 _ _ (by omega) (by simp;omega),bdS,e,w64 (by omega) (by omega),show(k:Int)+1=((k+1:Nat):Int) by omega]
  exact list_lp lf ha hm d n (k+1) (by omega) (by omega)
theorem list_f(lf:Nat)(h3:200000≤lf){a b:Int}(ha: -300≤a∧a≤300)(hb:0≤b):∃ m:Nat,m≤10∧surveyortop_playList.f lf (a,b,())=some (rl a m,()):=by
 refine⟨(b % 6).toNat,by omega,?_⟩
 have:=list_lp lf (a:=a) (b:=b) (m:=(b % 6).toNat) ha (by omega) ((b % 6).toNat+1) (lf+40) 0 (by omega) (by omega)
 rw[List.take_zero,show(((b % 6).toNat+1:Nat):Int)=1+b % 6 by omega,show((0:Nat):Int)=0 from rfl]at this
 rw[surveyortop_playList.f]
 simp only[iRem_nn hb (show(6:Int)≠0 by omega),bdS]
 rw[w64 (n:=b % 6) (by omega) (by omega),w64 (by omega) (by omega),this,bdS]
theorem flt_true(b:List Int):b.filter (fun _=>true)=b:=by simp
theorem row_lp(lf:Nat){i v1 v2:Int}{b v5 v7 v8:List Int}(hi: -400≤i∧i≤400)(hbb:∀ j∈b,-400≤j∧j≤400)(hbl:b.length≤100):∀ (d n k:Nat) (q p g s:List Int),k+d=b.length→d < n→q.length+d≤10000→p.length+d≤10000→g.length+d≤10000→s.length+d≤10000→
  surveyortop_TopIntervalsBest.l1 lf i v1 v2 (b.length:Nat) v5 b v7 v8 n k q p g s=some ((q++((b.drop k).filter fun j=>j != 0).map (Int.fdiv i),p++(b.drop k).map (i*·),g++(b.drop k).map (i-·),s++(b.drop k).map (i+·),()),())
 | 0,n,k,q,p,g,s,hk,hn,c1,c2,c3,c4=>by
  obtain⟨n,rfl⟩:∃ q,n=q+1:=⟨n-1,by omega⟩
  rw[surveyortop_TopIntervalsBest.l1,surveyortop_TopIntervalsBest.r1,ltk,decide_eq_false (by omega),brF,List.drop_eq_nil_of_le (by omega)]
  simp
 | d+1,n,k,q,p,g,s,hk,hn,c1,c2,c3,c4=>by
  obtain⟨n,rfl⟩:∃ q,n=q+1:=⟨n-1,by omega⟩
  have hkb:k < b.length:=by omega
  have hj:=hbb _ (List.getElem_mem hkb)
  have hm:=mul_b hi.1 hi.2 hj.1 hj.2
  rw[surveyortop_TopIntervalsBest.l1,surveyortop_TopIntervalsBest.r1,ltk,decide_eq_true hkb,brT,idxB_nat _ _ hkb,bdS,List.getElem?_eq_getElem hkb,bdS,w64 (n:=i+b[k]) (by omega) (by omega),w64 (n:=i-b[k]) (by omega) (by omega),w64 (n:=i*b[k]) (by omega) (by omega),
   apS' 8 s _ (by omega) (by simp;omega),bdS,apS' 8 g _ (by omega) (by simp;omega),bdS,apS' 8 p _ (by omega) (by simp;omega),bdS,w64 (by omega) (by omega),show(k:Int)+1=((k+1:Nat):Int) by omega]
  rw[List.drop_eq_getElem_cons hkb]
  by_cases h0:b[k]=0
  ·rw[show(b[k] != 0)=false by simpa using h0,brF,row_lp lf hi hbb hbl d n (k+1) _ _ _ _ (by omega) (by omega) (by omega) (by simp;omega) (by simp;omega) (by simp;omega)]
   rw[List.filter_cons_of_neg (by simpa using h0)]
   simp only[List.map_cons,List.append_assoc,List.cons_append,List.nil_append]
  ·rw[show(b[k] != 0)=true by simpa using h0,brT,down_f lf hi.1 hi.2 h0,bdS,apS' 8 q _ (by omega) (by simp;omega),bdS,row_lp lf hi hbb hbl d n (k+1) _ _ _ _ (by omega) (by omega) (by simp;omega) (by simp;omega) (by simp;omega) (by simp;omega)]
   rw[List.filter_cons_of_pos (by simpa using h0)]
   simp only[List.map_cons,List.append_assoc,List.cons_append,List.nil_append]
theorem op2_cons(o:Int→Int→Int)(c:Int→Bool)(i:Int)(a b:List Int):op2 o c (i::a) b=(b.filter c).map (o i)++op2 o c a b:=rfl
theorem all_lp(lf:Nat)(h3:200000≤lf){a b:List Int}(ha:∀ i∈a,-400≤i∧i≤400)(hal:a.length≤20)(hbb:∀ j∈b,-400≤j∧j≤400)(hbl:b.length≤20):∀ (d n k:Nat) (o q p g s:List Int),k+d=a.length→d < n→o.length≤k→q.length≤k*20→p.length≤k*20→g.length≤k*20→s.length≤k*20→
  surveyortop_TopIntervalsBest.l0 lf (a.length:Nat) a b n k o q p g s=some ((o++(a.drop k).map (fun i=> -i),q++op2 Int.fdiv (fun j=>j != 0) (a.drop k) b,p++op2 (·*·) (fun _=>true) (a.drop k) b,g++op2 (·-·) (fun _=>true) (a.drop k) b,s++op2 (·+·) (fun _=>true) (a.drop k) b,()),())
 | 0,n,k,o,q,p,g,s,hk,hn,c0,c1,c2,c3,c4=>by
  obtain⟨n,rfl⟩:∃ q,n=q+1:=⟨n-1,by omega⟩
  rw[surveyortop_TopIntervalsBest.l0,surveyortop_TopIntervalsBest.r0,ltk,decide_eq_false (by omega),brF,List.drop_eq_nil_of_le (by omega)]
  simp[op2]
 | d+1,n,k,o,q,p,g,s,hk,hn,c0,c1,c2,c3,c4=>by
  obtain⟨n,rfl⟩:∃ q,n=q+1:=⟨n-1,by omega⟩
  have hka:k < a.length:=by omega
  have hi:=ha _ (List.getElem_mem hka)
  have hq:((b.filter fun j=>j != 0).map (Int.fdiv a[k])).length≤20:=by
   rw[List.length_map];exact Nat.le_trans (List.length_filter_le ..) hbl
  have row:=row_lp lf (i:=a[k]) (v1:=(a.length:Nat)) (v2:=(k:Int)) (v5:=a) (v7:=[-a[k]]) (v8:=o++[-a[k]]) hi hbb (by omega) b.length (lf+40) 0 q p g s (by omega) (by omega) (by omega) (by omega) (by omega) (by omega)
  rw[List.drop_zero,show((0:Nat):Int)=0 from rfl]at row
  rw[surveyortop_TopIntervalsBest.l0,surveyortop_TopIntervalsBest.r0,ltk,decide_eq_true hka,brT,idxB_nat _ _ hka,bdS,List.getElem?_eq_getElem hka,bdS,w64 (n:=0-a[k]) (by omega) (by omega),show 0-a[k]= -a[k] by omega,apS' 8 o _ (by omega) (by simp;omega),bdS,row,bdS,w64 (by omega) (by omega),show(k:Int)+1=((k+1:Nat):Int) by omega]
  rw[all_lp lf h3 ha hal hbb hbl d n (k+1) _ _ _ _ _ (by omega) (by omega) (by simp;omega) (by rw[List.length_append];omega) (by rw[List.length_append,List.length_map];omega) (by rw[List.length_append,List.length_map];omega) (by rw[List.length_append,List.length_map];omega),List.drop_eq_getElem_cons hka]
  simp only[List.map_cons,op2_cons,flt_true,List.append_assoc,List.cons_append,List.nil_append]
theorem topi_f(lf:Nat)(hb:Big lf)(a b c d:Int)(ha: -128≤a∧a≤127)(hbb:0≤b)(hc: -128≤c∧c≤127)(hd:0≤d):surveyortop_TopIntervalsBest.f lf (a,b,()) (c,d,())=some (true,()):=by
 have hlf:=hb.1
 have h3:200000≤lf:=by omega
 have hC:=C_gt
 obtain⟨m,hm,e1⟩:=list_f lf h3 (a:=a) (b:=b) (by omega) hbb
 obtain⟨n,hn,e2⟩:=list_f lf h3 (a:=c) (b:=d) (by omega) hd
 have hf: -300≤a∧a≤300:=by omega
 have hg: -300≤c∧c≤300:=by omega
 have bd1:∀ z∈rl a m,-400≤z∧z≤400:=fun z hz=>by rw[mem_rl]at hz;omega
 have bd2:∀ z∈rl c n,-400≤z∧z≤400:=fun z hz=>by rw[mem_rl]at hz;omega
 have lp:=all_lp lf h3 bd1 (by rw[rl_len];omega) bd2 (by rw[rl_len];omega) (rl a m).length (lf+40) 0 [] [] [] [] [] (by omega) (by rw[rl_len];omega) (by simp) (by simp) (by simp) (by simp) (by simp)
 rw[List.drop_zero,show((0:Nat):Int)=0 from rfl]at lp
 simp only[List.nil_append]at lp
 have len2:∀ (o:Int→Int→Int) (t:Int→Bool),(op2 o t (rl a m) (rl c n)).length≤1000:=fun o t=>by
  have:∀ (x y:List Int),(op2 o t x y).length≤x.length*y.length:=fun x y=>by
   induction x with
   | nil=>simp[op2]
   | cons i x ih =>
    have h:(op2 o t (i::x) y)=(y.filter t).map (o i)++op2 o t x y:=rfl
    have:=List.length_filter_le t y
    rw[h,List.length_append,List.length_map,List.length_cons,Nat.succ_mul];omega
  have h:=this (rl a m) (rl c n)
  rw[rl_len,rl_len]at h
  have:=Nat.mul_le_mul (show m+1≤11 by omega) (show n+1≤11 by omega)
  omega
 have wA:Wf (⟨false,some a,some (a+m)⟩:A):=⟨nofun,by show -C < a∧a < C;omega,by show -C < a+m∧a+m < C;omega,by show a≤a+m;omega⟩
 have wB:Wf (⟨false,some c,some (c+n)⟩:A):=⟨nofun,by show -C < c∧c < C;omega,by show -C < c+n∧c+n < C;omega,by show c≤c+n;omega⟩
 have sA:=span_f lf h3 (l:=rl a m) (a:=⟨false,some a,some (a+m)⟩) (by rw[rl_len];omega) ⟨fun e=>by have:=congrArg List.length e;rw[rl_len]at this;simp at this,fun _=>⟨a,a+m,rfl,mem_rl.2 (by omega),mem_rl.2 (by omega),fun z hz=>by rw[mem_rl]at hz;omega⟩⟩ (fun z hz=>by have:=bd1 z hz;omega)
 have sB:=span_f lf h3 (l:=rl c n) (a:=⟨false,some c,some (c+n)⟩) (by rw[rl_len];omega) ⟨fun e=>by have:=congrArg List.length e;rw[rl_len]at this;simp at this,fun _=>⟨c,c+n,rfl,mem_rl.2 (by omega),mem_rl.2 (by omega),fun z hz=>by rw[mem_rl]at hz;omega⟩⟩ (fun z hz=>by have:=bd2 z hz;omega)
 have bO:∀ (o:Int→Int→Int) (t:Int→Bool),(∀ i j,-400≤i→i≤400→-400≤j→j≤400→t j=true→-1000000≤o i j∧o i j≤1000000)→∀ z∈op2 o t (rl a m) (rl c n),-1000000≤z∧z≤1000000:=fun o t h z hz=>by
  obtain⟨i,hi,j,hj,ht,rfl⟩:=mem_op2.1 hz
  have:=bd1 i hi
  have:=bd2 j hj
  exact h i j (by omega) (by omega) (by omega) (by omega) ht
 have t1:=span_f lf h3 (len2 _ _) (span_add hf hg hm hn) (bO _ _ fun i j _ _ _ _ _=>by omega)
 have t2:=span_f lf h3 (len2 _ _) (span_sub hf hg hm hn) (bO _ _ fun i j _ _ _ _ _=>by omega)
 have t3:=span_f lf h3 (len2 _ _) (span_mul hf hg hm hn) (bO _ _ fun i j x1 x2 x3 x4 _=>mul_b x1 x2 x3 x4)
 have t4:=span_f lf h3 (len2 _ _) (span_quo hf hg hm hn) (bO _ _ fun i j x1 x2 x3 x4 h=>by have:=fdiv_b x1 x2 (j:=j) (by simpa using h);omega)
 have t5:=span_f lf h3 (l:=(rl a m).map fun i=> -i) (by rw[List.length_map,rl_len];omega) (span_neg hf hg hm hn) (fun z hz=>by
  obtain⟨i,hi,rfl⟩:=List.mem_map.1 hz
  have:=bd1 i hi
  omega)
 have t6:=span_f lf h3 (l:=rl a m++rl c n) (by rw[List.length_append,rl_len,rl_len];omega) (span_join hf hg hm hn) (fun z hz=>by
  rcases List.mem_append.1 hz with h | h
  ·have:=bd1 z h;omega
  ·have:=bd2 z h;omega)
 have o1:=iAdd_f lf h3 wA wB
 have o2:=iSub_f lf h3 wA wB
 have o3:=iMul_f lf h3 wA wB
 have o4:=iQuo_f lf (by omega) wA wB
 have o5:=neg_f lf h3 wA
 have o6:=join_f lf h3 wA wB
 rw[show ofA (⟨false,some a,some (a+m)⟩:A)=rg a m from rfl]at o1 o2 o3 o4 o5 o6
 rw[show ofA (⟨false,some c,some (c+n)⟩:A)=rg c n from rfl]at o1 o2 o3 o4 o6
 have z0:i64.wrap (0+0)=0:=rfl
 rw[surveyortop_TopIntervalsBest.f]
 simp only[e1,e2,bdS,lp,sA,sB,o1,o2,o3,o4,o5,o6,z0,BEq.rfl,ba_beq,decide_true,brT,t1,t2,t3,t4,t5,Bool.and_self,Bool.and_true,apS' 8 (rl a m) (rl c n) (by omega) (by rw[rl_len,rl_len];omega),t6,playV]
end Go.N
namespace Go.Q
open Go.IntKind (i64)
open Go.N
theorem Pure.TopIntervalsBest(x:Tys (surveyortop_TopIntervalsBest.E 0).ps)(h:Bnds (surveyortop_TopIntervalsBest.E 0).ps x):∃ lf,surveyortop_TopIntervalsBest.f lf x.1 x.2.1=some (true,()):=by
 obtain⟨⟨a,b,⟨⟩⟩,⟨c,d,⟨⟩⟩,⟨⟩⟩:=x
 obtain⟨lf,hb⟩:∃ lf,Big lf:=⟨2000000000+K.toNat,by omega,by omega⟩
 exact⟨lf,topi_f lf hb a b c d h.1.1 h.1.2.1.1 h.2.1.1 h.2.1.2.1.1⟩
end Go.Q
