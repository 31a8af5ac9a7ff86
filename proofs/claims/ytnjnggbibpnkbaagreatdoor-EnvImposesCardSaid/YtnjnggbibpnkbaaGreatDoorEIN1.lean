import Derived.Test.YtnjnggbibpnkbaaGreatDoorEIG6
import Derived.Test.YtnjnggbibpnkbaaGreatDoorEIG7
set_option linter.all false
open Bool renaming not_true→ze,false_eq_true→zg,not_false→zj,and_eq_true→zm,true_and→tL,eq_false_iff→gC
open Go.Lib renaming itoa→z7
open Int renaming le_of_lt→zR,mul_nonneg→yf,fmod_lt_of_pos→yW,fmod_nonneg_of_pos→xd,mul_le_mul_of_nonneg_left→xF,mul_fdiv_add_fmod→wh,mul_comm→wk,pow_succ→wy,mul_le_mul_of_nonneg_right→wA,toNat_natCast→vm,tmod→vA,mul_add→vL,ediv_nonneg→vR,mul_zero→uc,mul_sub→uC,emod_nonneg→tO,emod_lt_of_pos→tP,neg_mul→tQ,add_zero→sA,emod_add_mul_ediv→sI,mul_le_mul→sL,natCast_mul→sM,mul_neg→sY,tdiv→q7,emod_eq_of_lt→p9,zero_add→pf,natAbs_mul→pm,pow_add→pL,lt_or_lt_of_ne→pP,ediv_lt_of_lt_mul→pS,one_mul→pZ,add_assoc→nt,sub_eq_add_neg→nL,mul_pos→nW,add_mul→m6,neg_fmod_neg→m7,ofNat_lt→mN,tmod_eq_emod_of_nonneg→j3,tdiv_eq_ediv_of_nonneg→j5,lt_trichotomy→jp,eq_of_mul_eq_mul_left→gA,tmod_nonneg→gD
open List renaming getElem?_eq_getElem→zP,all_eq_true→ym,length_append→yo,length_set→yq,mem_map→yy,drop_zero→xD,replicate→xS,length_take→xV,length_eq_zero_iff→wc,length_cons→vh,length_pos_iff→vj,length_replicate→vo,getElem?_set_ne→vq,drop_eq_getElem_cons→vr,drop_of_length_le→vt,length_drop→vu,nil_append→vv,ext_getElem?→vE,length_map→vQ,getElem?_drop→ue,getElem?_take_of_lt→un,length_singleton→uA,take_of_length_le→uW,append_nil→tc,getElem?_replicate→sw,map_cons→rz,getElem_mem→qD,all_cons→qT,take_append_getElem→pg,take_length→pB,mem_iff_getElem→pQ,getElem_cons_zero→oA,all_append→nB,head?_eq_getElem?→nE,getLast?_eq_getElem?→nQ,drop_drop→m5,take_succ_eq_append_getElem→mK,take_zero→j9,length_tail→jj,take_append_drop→jn,getElem_concat_length→hY,getLast?_drop→gg,getElem_cons_succ→gh,getElem_tail→gi,getElem?_take_eq_none→gw
open Nat renaming le_refl→za,exists_eq_succ_of_ne_zero→zv,add_assoc→xo,zero_add→wm,min_eq_left→ut,le_of_lt→tI,add_zero→rI,pow_succ→q5,pow_le_pow_right→q6,mod_eq_of_lt→n9,add_sub_cancel→mE,lt_or_gt_of_ne→lO,eq_zero_or_pos→gj
open Option renaming some→y8,map→xf,bind_some→wT
namespace Go.N
open Go.IntKind (i64)
open Go Go.Q Go.Rx
abbrev G:Int:=1000000000
def aiE(lf:Nat):∀ (l:List Int) (n:Nat),l.length < n→l.length≤1000000→bM.l0 lf n l=some ((tr l,()),()):=by
 intro l;refine abr (p:=fun l=>∀ n,l.length < n→l.length≤1000000→bM.l0 lf n l=some ((tr l,()),())) l ?_ ?_ ?_
 ·intro n h _;obtain⟨m,rfl⟩:=zv (show n≠0 from ω);rw[bM.l0,bM.r0];simp[brI,acV]
 ·intro l c n h a;obtain⟨m,rfl⟩:=zv (show n≠0 from ω);rw[yo,uA]at h a;have e:i64.wrap (((l++[0]).length:Nat)-1:Int)=(l.length:Nat):=by
   rw[yo,uA,w64 ω ω];omega
  rw[bM.l0,bM.r0,gP (by rw[yo,uA];omega),ff,e,iE _ _ ψ,fa];simp only[hY,BEq.rfl,ff];rw[aez _ _ l.length rfl ψ,fa,List.take_left,c m ω ω,sW]
 ·intro l x b n h a;obtain⟨m,rfl⟩:=zv (show n≠0 from ω);rw[yo,uA]at h a;have e:i64.wrap (((l++[x]).length:Nat)-1:Int)=(l.length:Nat):=by
   rw[yo,uA,w64 ω ω];omega
  rw[bM.l0,bM.r0,gP (by rw[yo,uA];omega),ff,e,iE _ _ ψ,fa];have:(x==0)=false:=by simpa using b
  simp only[hY,this,fe];rw[vS _ _ b]
def xR(lf:Nat)(l:List Int)(h:l.length≤lf)(a:l.length≤1000000):bM.f lf l=some (tr l,()):=by
 rw[bM.f,aiE lf l (lf+40) ω a,fa]
def ail(lf:Nat)(xs b:List Int)(N:Nat)(t:Dg G xs)(u:Dg G b)(x:N≤1000000):∀ (k n i:Nat) (c:Int) (out:List Int),i+k=N→out.length=N→0≤c→c≤1→k < n→
  jH.l0 lf xs b (N:Nat) n c (i:Nat) out=some ((out.take i++addL G (xs.drop i) (b.drop i) c k,()),()):=by
 intro k
 induction k with
 | zero =>
  intro n i c out l p h j o;obtain⟨m,rfl⟩:=zv (show n≠0 from ω);rw[jH.l0,jH.r0,gO ω,fe,addL,tc,uW ω]
 | succ k v =>
  intro n i c out l p h j o;obtain⟨m,rfl⟩:=zv (show n≠0 from ω);have g:0≤xs.getD i 0∧xs.getD i 0 < G:=t.getD δ i;have f:0≤b.getD i 0∧b.getD i 0 < G:=u.getD δ i;have fin:∀ s:Int,s=c+xs.getD i 0+b.getD i 0→
    (bd (iRem s 1000000000) fun r4=>bd (iQuo .i64 s 1000000000) fun r5=>bd (idxB out.length (i:Nat)) fun w=>bd (upE out w fun _=>some r4) fun l7=>jH.l0 lf xs b (N:Nat) m r5 (i64.wrap ((i:Nat)+1)) l7) =
    some ((out.take i++addL G (xs.drop i) (b.drop i) c (k+1),()),()):=by
   intro s q;simp only[G]at g f;have e:0≤s:=ω;have r:s≤2000000000:=ω;rw[uT e δ,fa,rW e δ ω,fa,fV _ _ ω,fa,pK _ _ _ ω,fa];rw[w64 ω ω,show((i:Nat):Int)+1=((i+1:Nat):Int) by omega];rw[v m (i+1) _ _ ω (by rw[yq];omega) (vR e δ) ω ω];rw[take_set _ _ _ ω,addL,pG,pG,pJ,pJ,←q];simp
  simp only[G]at g f;rw[jH.l0,jH.r0,gP ω,ff];by_cases d:i < xs.length
  ·rw[gP ω,ff,iE _ _ d,fa];rw[getD_lt _ _ d]at g fin;rw[w64 ω ω];by_cases a:i < b.length
   ·rw[gP ω,ff,iE _ _ a,fa];rw[getD_lt _ _ a]at f fin;rw[w64 ω ω];exact fin _ rfl
   ·rw[gO ω,fe];rw[wU _ _ a]at fin;exact fin _ ω
  ·rw[gO ω,fe];rw[wU _ _ d]at fin;by_cases a:i < b.length
   ·rw[gP ω,ff,iE _ _ a,fa];rw[getD_lt _ _ a]at f fin;rw[w64 ω ω];exact fin _ ω
   ·rw[gO ω,fe];rw[wU _ _ a]at fin;exact fin _ ω
def ag7(lf:Nat)(xs c:List Int)(q:Dg G xs)(r:Dg G c)(s:xs.length≤100000)(t:c.length≤100000)(h3:200000≤lf):
  ∃ l,jH.f lf xs c=some (l,())∧Dg G l∧Tr l∧lv G l=lv G xs+lv G c∧l.length≤max xs.length c.length+1:=by
 have key:∀ (a b:List Int),Dg G a→Dg G b→a.length≤100000→b.length≤a.length→
   ∃ l,(bd (mkL (i64.wrap ((a.length:Int)+1)) (i64.wrap ((a.length:Int)+1)) 8 0) fun d =>
    bd (jH.l0 lf a b (d.length:Int) (lf+40) 0 0 d) fun p=>bd (bM.f lf p.1.1) fun o=>some (o.1,()))=some (l,())∧Dg G l∧Tr l∧lv G l=lv G a+lv G b∧l.length≤a.length+1:=by
  intro a b g i y j;refine⟨tr (addL G a b 0 (a.length+1)),?_,qB (ach δ _ _ _ _),tH _,?_,?_⟩
  ·rw[w64 ω ω,uU _ _ _ (a.length+1) ω ω ω,fa];rw[vo];have:=ail lf a b (a.length+1) g i ω (a.length+1) (lf+40) 0 0 (xS (a.length+1) 0) ω ψ ω ω ω;simp only[xD,j9,vv]at this;rw[show((0:Nat):Int)=0 from rfl]at this;rw[this,fa,xR lf _ (by rw[vY];omega) (by rw[vY];omega),fa]
  ·rw[oU,acA δ,pf];have a1:=rH (B:=G) δ g;have a2:=rH (B:=G) δ i;have v:=nH (B:=G) δ j;have w:=dw (B:=G) δ g;have x:=dw (B:=G) δ i;apply p9 ω;rw[wy];have:0 < G ^ a.length:=mX δ _;simp only[G]at *
   omega
  ·have:=nS (addL G a b 0 (a.length+1));rw[vY]at this;exact this
 rw[jH.f];by_cases h:xs.length < c.length
 ·rw[gP ω,ff];obtain⟨l,e,k,m,n,u⟩:=key c xs r q t ω;exact⟨l,e,k,m,by rw[n,Int.add_comm],ω⟩
 ·rw[gO ω,fe];obtain⟨l,e,k,m,n,u⟩:=key xs c q r s ω;exact⟨l,e,k,m,n,ω⟩
def agP(lf:Nat)(xs a:List Int)(N:Nat)(x:Dg G xs)(z:Dg G a)(E:N≤1000000)(y:xs.length=N):∀ (k n i:Nat) (c:Int) (out:List Int),i+k=N→out.length=N→0≤c→c≤1→k < n→
  iq.l0 lf xs a (N:Nat) n c (i:Nat) out=some ((out.take i++subL G (xs.drop i) (a.drop i) c k,()),()):=by
 intro k
 induction k with
 | zero =>
  intro n i c out s u p q t;obtain⟨m,rfl⟩:=zv (show n≠0 from ω);rw[iq.l0,iq.r0,gO ω,fe,subL,tc,uW ω]
 | succ k A =>
  intro n i c out s u p q t;obtain⟨m,rfl⟩:=zv (show n≠0 from ω);have j:0≤xs.getD i 0∧xs.getD i 0 < G:=x.getD δ i;have l:0≤a.getD i 0∧a.getD i 0 < G:=z.getD δ i;simp only[G]at j l;have o:∀ (d v f:Int),d=xs.getD i 0-c-a.getD i 0→v=d % G→f= -(d / G)→0≤f→f≤1→
    (bd (idxB out.length (i:Nat)) fun C=>bd (upE out C fun _=>some v) fun l7=>iq.l0 lf xs a (N:Nat) m f (i64.wrap ((i:Nat)+1)) l7) =
    some ((out.take i++subL G (xs.drop i) (a.drop i) c (k+1),()),()):=by
   intro d v f h w r c1 c2;rw[fV _ _ ω,fa,pK _ _ _ ω,fa];rw[w64 ω ω,show((i:Nat):Int)+1=((i+1:Nat):Int) by omega];rw[A m (i+1) _ _ ω (by rw[yq];omega) c1 c2 ω];rw[take_set _ _ _ ω,subL,pG,pG,pJ,pJ,←h,w,r];simp
  have fin:∀ d:Int,d=xs.getD i 0-c-a.getD i 0→
    (br (decide (d < 0)) (bd (idxB out.length (i:Nat)) fun B=>bd (upE out B fun _=>some (i64.wrap (d+1000000000))) fun l5=>iq.l0 lf xs a (N:Nat) m 1 (i64.wrap ((i:Nat)+1)) l5)
     (bd (idxB out.length (i:Nat)) fun D=>bd (upE out D fun _=>some d) fun l8=>iq.l0 lf xs a (N:Nat) m 0 (i64.wrap ((i:Nat)+1)) l8)) =
    some ((out.take i++subL G (xs.drop i) (a.drop i) c (k+1),()),()):=by
   intro d h;by_cases b:d < 0
   ·rw[gP b,ff,w64 ω ω];exact o d _ 1 h (by simp only[G];omega) (by simp only[G];omega) ω ω
   ·rw[gO b,fe];exact o d _ 0 h (by simp only[G];omega) (by simp only[G];omega) ω ω
  have g:i < xs.length:=ω;rw[getD_lt _ _ g]at j fin;rw[iq.l0,iq.r0,gP ω,ff,iE _ _ g,fa,w64 ω ω];by_cases e:i < a.length
  ·rw[gP ω,ff,iE _ _ e,fa];rw[getD_lt _ _ e]at l fin;rw[w64 ω ω];exact fin _ rfl
  ·rw[gO ω,fe];rw[wU _ _ e]at fin;exact fin _ ω
def acF(lf:Nat)(xs a:List Int)(b:Dg G xs)(c:Dg G a)(g:xs.length≤100000)(d:lv G a≤lv G xs)(h3:200000≤lf):
  ∃ l,iq.f lf xs a=some (l,())∧Dg G l∧Tr l∧lv G l=lv G xs-lv G a∧l.length≤xs.length:=by
 refine⟨tr (subL G xs a 0 xs.length),?_,qB (aci δ _ _ _ _),tH _,?_,?_⟩
 ·rw[iq.f,uU _ _ _ xs.length rfl rfl ω,fa,vo];have:=agP lf xs a xs.length b c ω rfl xs.length (lf+40) 0 0 (xS xs.length 0) ω ψ ω ω ω;simp only[xD,j9,vv]at this;rw[show((0:Nat):Int)=0 from rfl]at this;rw[this,fa,xR lf _ (by rw[wK];omega) (by rw[wK];omega),fa]
 ·rw[oU,acC δ];have a1:=rH (B:=G) δ b;have e:=dw (B:=G) δ c;rw[show lv G xs-0-lv G a=lv G xs-lv G a by omega];exact p9 ω ω
 ·have:=nS (subL G xs a 0 xs.length);rw[wK]at this;exact this
def qN(B:Int)(l:List Int)(i:Nat)(h:i < l.length):lv B (l.take (i+1))=lv B (l.take i)+B ^ i*l[i]:=by
 rw[mK h,wW];simp[lv,xV,ut (tI h)]
def Sg(v d:Int):Prop:=(v < 0↔d < 0)∧(v=0↔d=0)
def aaW{B:Int}(e:0 < B){xs d:List Int}(j:Dg B xs)(k:Dg B d)(i:Nat)(f:i < xs.length)(g:i < d.length)(h:xs[i] < d[i]):lv B (xs.take (i+1)) < lv B (d.take (i+1)):=by
 rw[qN B xs i f,qN B d i g];have a:=rH e (j.take i);have b:=dw e (k.take i);rw[xV,ut (tI f)]at a;have c:B ^ i*(xs[i]+1)≤B ^ i*d[i]:=xF ω (zR (mX e i));rw[vL]at c;omega
def ag4(lf:Nat)(xs a:List Int)(f:Dg G xs)(j:Dg G a)(t:xs.length=a.length)(s:xs.length≤1000000):∀ (i n:Nat) (l:i≤xs.length),i < n→
  ∃ b v,iM.l0 lf a 0 xs n ((i:Nat)-1:Int)=some (b,(v,()),(),())∧Sg (if b=true then v else 0) (lv G (xs.take i)-lv G (a.take i)):=by
 intro i
 induction i with
 | zero =>
  intro n l p;obtain⟨m,rfl⟩:=zv (show n≠0 from ω);refine⟨false,0,?_,by simp[Sg,lv]⟩;rw[iM.l0,iM.r0,gO ω,fe]
 | succ i q =>
  intro n l p;obtain⟨m,rfl⟩:=zv (show n≠0 from ω);have e:((i+1:Nat):Int)-1=(i:Nat):=ω;have g:=f.at i ω;have k:=j.at i ω;simp only[G]at g k;rw[iM.l0,iM.r0,gP ω,ff,xI xs _ i e ω,fa,xI a _ i e ω,fa];by_cases h:xs[i]=a[i]'ω
  ·have d:(xs[i] != a[i]'ω)=false:=by simp[h]
   rw[d,fe,w64 ω ω,e];obtain⟨b,v,o,r⟩:=q m ω ω;refine⟨b,v,o,?_⟩;rw[qN G xs i ω,qN G a i ω,h]
   rwa [show lv G (xs.take i)+G ^ i*a[i]-(lv G (a.take i)+G ^ i*a[i])=lv G (xs.take i)-lv G (a.take i) by omega]
  ·have d:(xs[i] != a[i]'ω)=true:=by simp[h]
   rw[d,ff,fa,w64 ω ω];refine⟨true,_,rfl,?_⟩;rw[gT rfl];rcases pP h with c | c
   ·have:=aaW (B:=G) δ f j i ω ω c;exact⟨ω,ω⟩
   ·have:=aaW (B:=G) δ j f i ω ω c;exact⟨ω,ω⟩
def aeY(lf:Nat)(xs a:List Int)(e:Dg G xs)(g:Dg G a)(t1:Tr xs)(t2:Tr a)(k:xs.length≤100000)(l:a.length≤100000)(h3:200000≤lf):
  ∃ v,iM.f lf xs a=some (v,())∧Sg v (lv G xs-lv G a):=by
 rw[iM.f];by_cases h:xs.length=a.length
 ·have d:((xs.length:Int) !=(a.length:Int))=false:=by simp[h]
  rw[d,fe,w64 ω ω];obtain⟨b,v,j,i⟩:=ag4 lf xs a e g h ω xs.length (lf+40) (za _) ω;rw[uW (za _),uW ω]at i;rw[j,fa];cases b with
  | true=>exact⟨v,by simp only[ff],by simpa using i⟩
  | false=>exact⟨0,by simp only[fe],by simpa using i⟩
 ·have d:((xs.length:Int) !=(a.length:Int))=true:=by
   simp only[bne_iff_ne,ne_eq];omega
  rw[d,ff,w64 ω ω];refine⟨_,rfl,?_⟩;rcases lO h with c | c
  ·have:=oJ (B:=G) δ e g t2 c;exact⟨ω,ω⟩
  ·have:=oJ (B:=G) δ g e t1 c;exact⟨ω,ω⟩
structure RN(p:Bool×(List Int×Unit))(z:Int)(k:Nat):Prop where
 dg:Dg G p.2.1
 tr:Tr p.2.1
 len:p.2.1.length≤k
 val:z=if p.1=true then -lv G p.2.1 else lv G p.2.1
def RN.mono{p:Bool×(List Int×Unit)}{z:Int}{k k':Nat}(h:RN p z k)(a:k≤k'):RN p z k':=⟨h.dg,h.tr,Nat.le_trans h.len a,h.val⟩
def yx(lf:Nat){p:Bool×(List Int×Unit)}{z:Int}{k:Nat}(h:RN p z k):∃ q,dH.f lf p=some (q,())∧RN q (-z) k:=by
 refine⟨_,rfl,h.dg,h.tr,h.len,?_⟩;rw[h.val];cases p.1<;>simp
def adI(lf:Nat){p q:Bool×(List Int×Unit)}{x y:Int}{k:Nat}(A:RN p x k)(B:RN q y k)(D:k≤100000)(h3:200000≤lf):∃ s,gJ.f lf p q=some (s,())∧RN s (x+y) (k+1):=by
 obtain⟨n,m,⟨⟩⟩:=p;obtain⟨b,o,⟨⟩⟩:=q;obtain⟨c,t1,l1,t⟩:=A;obtain⟨d,t2,l2,u⟩:=B;simp only at c t1 l1 t d t2 l2 u;rw[gJ.f];by_cases h:n=b
 ·have a:(n != b)=false:=by simp[h]
  simp only[a,fe];rw[nU.f,fa];obtain⟨l,e,g,i,j,w⟩:=ag7 lf m o c d ω ω h3;rw[e,fa];refine⟨_,rfl,g,i,by simp only;omega,?_⟩;simp only;rw[j,t,u,h];cases b<;>simp<;>omega
 ·have a:(n != b)=true:=by simp[h]
  simp only[a,ff];rw[nX.f,nV.f];obtain⟨v,e,z,E⟩:=aeY lf m o c d t1 t2 ω ω h3;simp only[e,fa];by_cases r:v < 0
  ·have C:=z.1 r;obtain⟨l,e2,g,i,j,w⟩:=acF lf o m d c ω ω h3;rw[gP r,ff,e2,fa,fa];refine⟨_,rfl,g,i,by simp only;omega,?_⟩;simp only;rw[j,t,u];cases n<;>cases b<;>simp_all<;>omega
  ·have C:¬(lv G m-lv G o < 0):=fun h=>r (z.2 h);obtain⟨l,e2,g,i,j,w⟩:=acF lf m o c d ω ω h3;rw[gO r,fe,e2,fa,fa];refine⟨_,rfl,g,i,by simp only;omega,?_⟩;simp only;rw[j,t,u];cases n<;>cases b<;>simp_all<;>omega
def sgn(z:Int):Int:=if z < 0 then -1 else if z=0 then 0 else 1
def ajF(lf:Nat){p:Bool×(List Int×Unit)}{z:Int}{k:Nat}(h:RN p z k):oO.f lf p=some (sgn z,()):=by
 obtain⟨g,c,⟨⟩⟩:=p;obtain⟨d,t1,l1,a⟩:=h;simp only at d t1 l1 a;rw[oO.f];by_cases b:c=[]
 ·subst b;have:z=0:=by rw[a];cases g<;>simp[lv]
  subst this;simp[ff,sgn]
 ·have i:=vF (B:=G) δ d t1 b;have:((c.length:Int)==0)=false:=by
   have:c.length≠0:=fun e=>b (wc.1 e);simp only[beq_eq_false_iff_ne,ne_eq];omega
  simp only[this,fe];cases g with
  | true =>
   rw[ff,a,sgn,gT (by simp;omega)]
  | false =>
   rw[fe,a,sgn,gR (by simp;omega),gR (by simp;omega)]
def aat(lf:Nat)(l:List UInt8):stringslite_HasPrefix.f lf (bs l) (⟨#[45]⟩:ByteArray)=some (neg l,()):=by
 rw[stringslite_HasPrefix.f];have e1:((⟨#[45]⟩:ByteArray).size:Int)=1:=rfl;rw[e1,jI];cases l with
 | nil=>rw[gO ψ,fe];rfl
 | cons b r =>
  rw[gP (by simp;omega),ff,ait (b::r) 1 1 rfl ψ,fa];simp only[List.take_succ_cons,j9];rw[show(⟨#[45]⟩:ByteArray)=bs [45] from rfl,lS];simp[neg]
def aas(lf:Nat)(l:List UInt8):strings_CutPrefix.f lf (bs l) (⟨#[45]⟩:ByteArray)=some (bs (body l),neg l,()):=by
 rw[strings_CutPrefix.f,stringslite_CutPrefix.f,aat,fa];simp only;cases h:neg l with
 | false =>
  simp only[zj,ff,fa];have:¬l.head? = some 45:=by unfold neg at h;simpa using h
  unfold body;rw[gR this]
 | true =>
  have a:l.head? = some 45:=by unfold neg at h;simpa using h
  simp only[ze,fe];have c:1≤l.length:=by cases l with
   | nil=>simp at a
   | cons b r=>simp
  rw[show(((⟨#[45]⟩:ByteArray).size:Nat):Int)=1 from rfl,wJ l 1 1 rfl c,fa,fa];unfold body;rw[gT a];simp
def qQ(lf:Nat)(l:List UInt8):strings_TrimPrefix.f lf (bs l) (⟨#[45]⟩:ByteArray)=some (bs (body l),()):=by
 rw[strings_TrimPrefix.f,stringslite_TrimPrefix.f,aat,fa];simp only;cases h:neg l with
 | false =>
  simp only[fe,fa];have:¬l.head? = some 45:=by unfold neg at h;simpa using h
  unfold body;rw[gR this]
 | true =>
  have a:l.head? = some 45:=by unfold neg at h;simpa using h
  simp only[ff];have c:1≤l.length:=by cases l with
   | nil=>simp at a
   | cons b r=>simp
  rw[show(((⟨#[45]⟩:ByteArray).size:Nat):Int)=1 from rfl,wJ l 1 1 rfl c,fa,fa];unfold body;rw[gT a];simp
def ada(l:List UInt8):(body l).length≤l.length:=aaM l
def adb(lf:Nat)(l:List UInt8)(o:l.length≤9223372036854775807):oC.f lf (bs l)=some (can l,()):=by
 rw[oC.f,aas,fa];simp only;rw[show(⟨#[48]⟩:ByteArray)=bs [48] from rfl,show(⟨#[]⟩:ByteArray)=bs [] from rfl,lS,lS];by_cases a:body l=[48]
 ·rw[gP a,ff];congr 2;unfold can;rw[a];unfold neg body at *
  by_cases h:l.head? = some 45
  ·rw[gP h];have:l≠[48]:=by rintro rfl;simp at h
   simp[this]
  ·rw[gO h];rw[gR h]at a;simp[a]
 ·rw[gO a,fe];have i:l≠[48]:=by rintro rfl;exact a rfl
  unfold can;rw[gO i,Bool.false_or];by_cases g:body l=[]
  ·rw[gP g];simp[fe,g]
  ·rw[gO g];simp only[zj,ff];have c:0 < (body l).length:=vj.2 g;rw[uy _ 0 0 rfl c,fa];have d:(body l).head? = some ((body l)[0]):=by rw[nE,zP c]
   rw[d];by_cases m:(body l)[0]=48
   ·rw[m];simp[fe]
   ·have:((((body l)[0]).toNat:Int) != 48)=true:=by
     simp only[bne_iff_ne,ne_eq];intro e;apply m;apply UInt8.toNat_inj.1;have n:(48:UInt8).toNat=48:=rfl;omega
    rw[this,ff];have e1:B.Trim.f lf (bs (body l)) (⟨#[48,49,50,51,52,53,54,55,56,57]⟩:ByteArray)=some (bs (Lib.trimS (body l) [48,49,50,51,52,53,54,55,56,57]),()):=by
     unfold B.Trim.f;rw[gT ⟨by rw[jI];have:=ada l;omega,δ,δ⟩]
    rw[e1,fa];simp only;rw[lS];congr 2;have:decide (some ((body l)[0])≠some 48)=true:=by simpa using m
    rw[this];have k:decide (body l≠[])=true:=by simpa using g
    rw[k,tL,tL];have e2:(body l).all isDig=(body l).all (([48,49,50,51,52,53,54,55,56,57]:List UInt8).contains ·):=by
     congr 1;funext b;exact(abz b).symm
    rw[e2];by_cases j:(body l).all (([48,49,50,51,52,53,54,55,56,57]:List UInt8).contains ·)=true
    ·rw[j];exact gP ((ab6 _ _).2 j)
    ·rw[Bool.not_eq_true]at j;rw[j];apply gO;intro e;have:=(ab6 _ _).1 e;rw[j]at this;cases this
def agh(lf:Nat)(l:List UInt8):qW.f lf (bs l)=some ((nlen l:Int),()):=by
 rw[qW.f,qQ,fa];simp only;rw[jI];rfl
def rU(lf:Nat)(l:List UInt8)(a:l.length≤9223372036854775807):dF.f lf (bs l)=some (chk l,()):=by
 rw[dF.f,adb lf l a,fa,agh,fa];simp only;unfold chk;cases can l with
 | false=>simp[ff]
 | true =>
  simp only[ze,fe,if_true];by_cases h:nlen l > 4096
  ·rw[gP ω,ff,gT h]
  ·rw[gO ω,fe,gR h]
def abQ(lf:Nat)(l:List UInt8)(a:l.length≤9223372036854775807):lT.f lf (bs l)=some ((nlen l:Int),()):=by
 rw[lT.f,jI];cases l with
 | nil=>rw[gO ψ,fe];rfl
 | cons b r =>
  rw[gP (by rw[vh];omega),ff,uy (b::r) 0 0 rfl ψ,fa];simp only[oA];unfold nlen body;by_cases h:b=45
  ·subst h;have:((((45:UInt8).toNat:Nat):Int)==45)=true:=δ;rw[this,ff];simp only[vh]at a⊢;rw[w64 ω ω];simp
  ·have:(((b.toNat:Nat):Int)==45)=false:=by
    rw[beq_eq_false_iff_ne];intro e;apply h;apply UInt8.toNat_inj.1;have:(45:UInt8).toNat=45:=rfl;omega
   rw[this,fe];simp[h]
def ady(lf:Nat)(l:List UInt8)(b:l.length≤9223372036854775807):jr.f lf (bs l)=some (num l,()):=by
 rw[jr.f,rU lf l b,fa,abQ lf l b,fa];simp only;unfold num;by_cases h:chk l=0
 ·rw[h];simp only[bne_self_eq_false,fe,ne_eq,not_true,if_false];by_cases a:nlen l > 100
  ·rw[gP ω,ff,gT a]
  ·rw[gO ω,fe,gR a]
 ·have:(chk l != 0)=true:=by simpa using h
  rw[this,ff,gT h]
def aiq(lf:Nat)(o:Bool)(l:List UInt8)(s:l.all isDig=true)(I:l.length≤1000000):∀ (e n:Nat) (d:List Int),e≤l.length→e < n→d.length+e≤1000000→
  ∃ r,jR.l0 lf o (bs l) n (e:Nat) d=some ((d++r,()),())∧Dg G r∧lv G r=dv (l.take e)∧r.length≤e:=by
 intro e
 induction e using Nat.strongRecOn with
 | _ e C =>
  intro n d z J t;obtain⟨m,rfl⟩:=zv (show n≠0 from ω);have h:∀ (a b:Nat),((l.drop a).take b).all isDig=true:=by
   intro a b;rw[ym]at s⊢;intro x A;exact s x (List.mem_of_mem_drop (List.mem_of_mem_take A))
  rw[jR.l0,jR.r0];by_cases u:e=0
  ·subst u;rw[gO ω,fe];exact⟨[],ψ,Dg.nil,rfl,ψ⟩
  ·rw[gP ω,ff,w64 ω ω];have step:∀ a:Nat,a=e-9→∃ y:Int,(bd (sCut (bs l) (some (a:Int)) (some (e:Int))) fun r2=>bd (B.Atoi.f lf r2) fun r3=>bd (apL true 8 d [r3.1]) fun l4=>jR.l0 lf o (bs l) m ((e:Int)-9) l4) =
     jR.l0 lf o (bs l) m ((e:Int)-9) (d++[y])∧y=dv ((l.drop a).take (e-a))∧0≤y∧y < G:=by
    intro a v;have w:=agk _ (h a (e-a));have c:((l.drop a).take (e-a)).length=e-a:=by rw[xV,vu];omega
    have K:(10:Nat) ^ (e-a)≤10 ^ 9:=q6 ω ω;rw[c]at w;refine⟨(dv ((l.drop a).take (e-a)):Int),?_,rfl,ω,?_⟩
    ·rw[afi l _ _ a e rfl rfl ω z,fa];have e2:B.Atoi.f lf (bs ((l.drop a).take (e-a)))=some ((dv ((l.drop a).take (e-a)):Int),(),()):=by
      unfold B.Atoi.f;rw[jI,gT ω,aft (h a (e-a)) (by intro e0;rw[e0]at c;simp at c;omega)];rfl
     rw[e2,fa];simp only;rw[pY 8 _ _ ω (by simp;omega),fa]
    ·simp only[G];have:(10:Nat) ^ 9=1000000000:=δ;omega
   by_cases H:e≤9
   ·have i:(if(e:Int)-9 > 0 then(e:Int)-9 else 0)=((0:Nat):Int):=by rw[gR ω];rfl
    rw[i];obtain⟨y,e1,j,p,q⟩:=step 0 ω;rw[e1];obtain⟨k,rfl⟩:∃ k,m=k+1:=zv (show m≠0 from ω);rw[jR.l0,jR.r0,gO ω,fe];refine⟨[y],rfl,Dg.cons ⟨p,q⟩ Dg.nil,?_,by simp;omega⟩;simp only[lv,uc,sA];rw[j,xD,Nat.sub_zero]
   ·have i:(if(e:Int)-9 > 0 then(e:Int)-9 else 0)=((e-9:Nat):Int):=by rw[gT ω];omega
    rw[i];obtain⟨y,e1,j,p,q⟩:=step (e-9) rfl;rw[e1,show(e:Int)-9=((e-9:Nat):Int) by omega];obtain⟨r,D,E,F,L⟩:=C (e-9) ω m (d++[y]) ω ω (by simp;omega);rw[D];refine⟨y::r,ψ,Dg.cons ⟨p,q⟩ E,?_,by simp;omega⟩;rw[lv,F,j];have g:l.take e=l.take (e-9)++(l.drop (e-9)).take (e-(e-9)):=by
     conv=>lhs;rw[show e=(e-9)+(e-(e-9)) by omega]
     rw[List.take_add]
    have c:((l.drop (e-9)).take (e-(e-9))).length=9:=by rw[xV,vu];omega
    rw[g,adY,c];have:(10:Nat) ^ 9=1000000000:=δ;rw[this];simp only[G];omega
def ahd(lf:Nat)(l:List UInt8)(c:can l=true)(j:l.length≤100000)(h3:200000≤lf):
  ∃ p,jR.f lf (bs l)=some (p,())∧RN p (iv l) (nlen l)∧p.1=neg l:=by
 rw[jR.f,aas,fa];simp only;obtain⟨b,d,_⟩:=mM c;have i:=ada l;obtain⟨r,e,g,h,k⟩:=aiq lf false (body l) b ω (body l).length (lf+40) [] (za _) ω (by simp;omega);rw[jI,e,fa];simp only[vv];rw[xR lf r ω ω,fa];have a:=nS r;refine⟨_,rfl,⟨qB g,tH r,by simp only;unfold nlen;omega,?_⟩,rfl⟩;simp only;rw[oU,h,uW (za _)];rfl
def wZ(lf:Nat)(l m:List UInt8)(a:chk l=0)(b:chk m=0)(h3:200000≤lf):
  ∃ p q,fZ.f lf (bs l) (bs m)=some (p,q,0,())∧RN p (iv l) 4096∧RN q (iv m) 4096∧p.1=neg l∧q.1=neg m:=by
 have a1:=nI.1 a;have a2:=nI.1 b;have b1:=wG l;have b2:=wG m;obtain⟨p,e1,c,e⟩:=ahd lf l a1.1 ω h3;obtain⟨q,e2,d,g⟩:=ahd lf m a2.1 ω h3;rw[fZ.f,rU lf l ω,fa,rU lf m ω,a,b];simp only[bne_self_eq_false,fe,fa,e1,e2];exact⟨p,q,rfl,c.mono a1.2,d.mono a2.2,e,g⟩
def aae(lf:Nat)(l m:List UInt8)(b:chk l=0)(c:chk m=0)(h3:200000≤lf):
  iU.f lf (bs l) (bs m)=some (sgn (iv l-iv m),0,()):=by
 obtain⟨p,q,e,d,g,_⟩:=wZ lf l m b c h3;rw[iU.f,e,fa];simp only[bne_self_eq_false,fe];obtain⟨j,e2,h⟩:=yx lf g;rw[e2,fa];obtain⟨s,a,i⟩:=adI lf d h ω h3;rw[a,fa,ajF lf i,fa];simp only[nL]
def xJ(lf:Nat)(l m:List UInt8)(a:chk l=0)(b:chk m=0)(h3:200000≤lf):
  dO.f lf (bs l) (bs m)=some (sgn (iv l-iv m),()):=by
 rw[dO.f,aae lf l m a b h3,fa]
abbrev D(n:Nat):List UInt8:=Lib.decDigits n
def zs(n:Nat):List UInt8:=xS n 48
def ajM(n:Nat):(zs n).all isDig=true:=by
 unfold zs;rw[ym];intro b a;rw[(List.mem_replicate.1 a).2];rfl
def aiN:∀ n:Nat,dv (zs n)=0
 | 0=>rfl
 | n+1=>by
  unfold zs;rw[List.replicate_succ',wR];have:=aiN n;unfold zs at this;rw[this];rfl
def aeB{v x k:Nat}(i:0 < v)(h:0 < k)(g:x < 10 ^ k):D (v*10 ^ k+x)=D v++(zs (k-(D x).length)++D x):=by
 have a:(D x).length≤k:=by
  obtain⟨j,rfl⟩:=zv (show k≠0 from ω);exact oW j x g
 obtain⟨b,r,e,f⟩:=aa5 (show v≠0 from ω);have c:(D v++(zs (k-(D x).length)++D x)).all isDig=true:=by
  rw[nB,nB,yc,ajM,yc];rfl
 have d:dv (D v++(zs (k-(D x).length)++D x))=v*10 ^ k+x:=by
  rw[adY,adY,aiN,aa6,aa6,yo];unfold zs;rw[vo,Nat.sub_add_cancel a];omega
 have h3:=adU c (by rw[show D v=b::r from e];simp) (.inl (by rw[show D v=b::r from e];simpa using f));rw[d]at h3;exact h3.symm
def adg{v x k:Nat}(d:0 < v)(c:0 < k)(b:x < 10 ^ k):(D (v*10 ^ k+x)).length=(D v).length+k:=by
 have a:(D x).length≤k:=by
  obtain⟨j,rfl⟩:=zv (show k≠0 from ω);exact oW j x b
 rw[aeB d c b,yo,yo];unfold zs;rw[vo];omega
def uv(L:List Int)(k:Nat):Nat:=(lv G (L.drop k)).toNat
def ac0{L:List Int}(h:Dg G L)(k:Nat)(a:k < L.length):uv L k=uv L (k+1)*10 ^ 9+(L[k]).toNat:=by
 unfold uv;rw[vr a,lv];have b:=h.at k a;have c:=dw (B:=G) δ (h.drop (k+1));have e:(10:Nat) ^ 9=1000000000:=δ;rw[e];simp only[G]at *
 omega
def ahI(L:List Int):uv L L.length=0:=by unfold uv;rw[List.drop_length];rfl
def acZ{L:List Int}(h:Dg G L)(b:Tr L){k:Nat}(c:k < L.length):0 < uv L k:=by
 have a:Tr (L.drop k):=by
  unfold Tr at *
  rw[gg,gR ω];exact b
 have:=vF (B:=G) δ (h.drop k) a (by intro e;have:=congrArg List.length e;simp at this;omega);unfold uv;omega
def aiF{L:List Int}(h:Dg G L){k:Nat}(d:k < L.length):(D (uv L k)).length≤9*(L.length-k):=by
 have a:=rH (B:=G) δ (h.drop k);have c:=dw (B:=G) δ (h.drop k);rw[vu]at a;have h3:uv L k < 10 ^ (9*(L.length-k)):=by
  unfold uv;have e:(G:Int) ^ (L.length-k)=((10 ^ (9*(L.length-k)):Nat):Int):=by
   rw[Nat.pow_mul];have:(10:Nat) ^ 9=1000000000:=δ;rw[this];simp[G]
  rw[e]at a;omega
 obtain⟨j,b⟩:=zv (show 9*(L.length-k)≠0 by omega);rw[b]at h3⊢;exact oW j _ h3
def ah6{y:Int}(h:0≤y):z7 y=D y.toNat:=by unfold z7;rw[gR ω]
def bItoa(lf:Nat){y:Int}(a:0≤y)(b:y < G):B.Itoa.f lf y=some (bs (D y.toNat),()):=by
 simp only[G]at b;unfold B.Itoa.f;rw[gT ⟨ω,ω⟩,ah6 a]
def adD:∀ c:Nat,Lib.repeatL [48] c=zs c
 | 0=>rfl
 | c+1=>by rw[Lib.repeatL,adD c];rfl
def ahT(lf:Nat)(c:Nat)(h:c≤9):B.Repeat.f lf (⟨#[48]⟩:ByteArray) (c:Int)=some (bs (zs c),()):=by
 unfold B.Repeat.f;have e:(⟨#[48]⟩:ByteArray).size=1:=rfl;rw[e,gT ⟨ω,ω,by rw[vm];omega⟩,vm];show some (bs (Lib.repeatL [48] c),())=_;rw[adD]
abbrev si(l:List UInt8):List Int:=l.map fun b=>(b.toNat:Int)
def aei(l m:List UInt8):si l++si m=si (l++m):=by simp[si]
def aai(lf:Nat){L:List Int}(h:Dg G L)(g:Tr L)(l:L.length≤100000)(k:Nat)(d:k < L.length)(b:List UInt8)(m:b.length≤1){R:Type}(f:List Int→Option R):
    (bd (idxL L (k:Nat)) fun i=>bd (B.Itoa.f lf i) fun r3=>br (decide (((k:Nat):Int) < i64.wrap ((L.length:Int)-1)))
      (bd (B.Repeat.f lf (⟨#[48]⟩:ByteArray) (i64.wrap (9-(r3.1.size:Int)))) fun r4=>bd (apL true 1 (si (b++(if k+1=L.length then []else D (uv L (k+1))))) (sBytes r4.1)) fun l5=>bd (apL true 1 l5 (sBytes r3.1)) fun l6=>f l6)
      (bd (apL true 1 (si (b++(if k+1=L.length then []else D (uv L (k+1))))) (sBytes r3.1)) fun l7=>f l7))=f (si (b++D (uv L k))):=by
  have c:=h.at k d;have e:(D (L[k]).toNat).length≤9:=oW 8 _ (by
   simp only[G]at c;have:(10:Nat) ^ (8+1)=1000000000:=δ;omega)
  rw[iE L k d,fa,bItoa lf c.1 c.2,fa,w64 (n:=(L.length:Int)-1) ω ω];simp only[jI];rw[ac0 h k d];by_cases a:k+1=L.length
  · rw[gO ω,fe,gT a,a,ahI,tc]
    simp only[ab2];rw[pY 1 _ _ ω (by simp;omega),fa,aei];simp
  · have j:=aiF h (k:=k+1) ω
    rw[gP ω,ff,gR a,w64 ω ω];rw[show(9:Int)-((D (L[k]).toNat).length:Nat)=((9-(D (L[k]).toNat).length:Nat):Int) by omega,ahT lf _ ω,fa];simp only[ab2];have o:(zs (9-(D (L[k]).toNat).length)).length=9-(D (L[k]).toNat).length:=by simp[zs]
    rw[pY 1 _ _ ω (by simp only[vQ,yo];omega),fa,aei];rw[pY 1 _ _ ω (by simp only[vQ,yo];omega),fa,aei];rw[aeB (acZ h g ω) ω (by
     simp only[G]at c;have:(10:Nat) ^ 9=1000000000:=δ;omega)]
    simp only[List.append_assoc]
def aiz(lf:Nat){L:List Int}(h:Dg G L)(i:Tr L)(d:L.length≤100000)(b:Bool)(q:List Int)(a:List UInt8)(g:a.length≤1):∀ (k n:Nat),k≤L.length→k < n→
  aG.l0 lf b L q L n ((k:Nat)-1:Int) (si (a++(if k=L.length then []else D (uv L k))))=some ((si (a++(if L.length=0 then []else D (uv L 0))),()),()):=by
 intro k
 induction k with
 | zero =>
  intro n c f;obtain⟨m,rfl⟩:=zv (show n≠0 from ω);rw[aG.l0,aG.r0,gO ω,fe];congr 5;by_cases e:L.length=0<;>simp[e,eq_comm]
 | succ k j =>
  intro n c f;obtain⟨m,rfl⟩:=zv (show n≠0 from ω);rw[aG.l0,aG.r0,gP ω,ff,show((k+1:Nat):Int)-1=(k:Nat) by omega];have o:=aai lf h i d k ω a g (fun l=>aG.l0 lf b L q L m (i64.wrap (((k:Nat):Int)-1)) l);rw[o,w64 ω ω];have:=j m ω ω;rw[gR (show ¬k=L.length from ω)]at this;exact this
def aiA(lf:Nat){L:List Int}(h:Dg G L)(i:Tr L)(d:L.length≤100000)(b:Bool)(a:List UInt8)(g:a.length≤1):∀ (k n:Nat),k≤L.length→k < n→
  aG.l2 lf b L L n ((k:Nat)-1:Int) (si (a++(if k=L.length then []else D (uv L k))))=some ((b,L,L,si (a++(if L.length=0 then []else D (uv L 0))),()),()):=by
 intro k
 induction k with
 | zero =>
  intro n c f;obtain⟨m,rfl⟩:=zv (show n≠0 from ω);rw[aG.l2,aG.r2,gO ω,fe];congr 8;by_cases e:L.length=0<;>simp[e,eq_comm]
 | succ k j =>
  intro n c f;obtain⟨m,rfl⟩:=zv (show n≠0 from ω);rw[aG.l2,aG.r2,gP ω,ff,show((k+1:Nat):Int)-1=(k:Nat) by omega];have o:=aai lf h i d k ω a g (fun l=>aG.l2 lf b L L m (i64.wrap (((k:Nat):Int)-1)) l);rw[o,w64 ω ω];have:=j m ω ω;rw[gR (show ¬k=L.length from ω)]at this;exact this
def wX(lf:Nat){p:Bool×(List Int×Unit)}{z:Int}{k:Nat}(h:RN p z k)(x:k≤100000)(h3:200000≤lf):aG.f lf p=some (bs (z7 z),()):=by
 obtain⟨q,L,⟨⟩⟩:=p;obtain⟨g,i,s,j⟩:=h;simp only at g i s j;rw[aG.f];simp only;by_cases o:L=[]
 ·subst o;have:z=0:=by rw[j];cases q<;>simp[lv]
  subst this;rw[show(((([]:List Int).length:Nat):Int)==0)=true from rfl,ff];have:z7 0=[48]:=by unfold z7;rw[gR ω];exact qA
  rw[this]
 ·have c:L.length≠0:=fun e=>o (wc.1 e);have r:(((L.length:Int))==0)=false:=by rw[beq_eq_false_iff_ne];omega
  rw[r,fe];have y:(uv L 0:Int)=lv G L:=by
   have:=dw (B:=G) δ g;unfold uv;rw[xD];omega
  have w:=acZ g i (k:=0) ω;cases q with
  | true =>
   rw[ff,pY 1 _ _ ω ψ,fa,w64 ω ω];have a:=aiz lf g i ω true [45] [45] ψ L.length (lf+40) (za _) ω;rw[gT rfl,gR c]at a;simp only[tc,vv]at a⊢;rw[show si [45]=([45]:List Int) from rfl]at a;rw[a,fa];simp only;rw[gT ψ,fa,wM];congr 2;rw[gT rfl]at j;unfold z7;rw[gT ω,show z.natAbs=uv L 0 by omega];rfl
  | false =>
   rw[fe,w64 ω ω];obtain⟨m,u⟩:∃ m,lf+40=m+1:=⟨lf+39,ω⟩
   obtain⟨t,v⟩:=zv c;rw[u,aG.l1,aG.r1,gP ω,ff];have e1:(L.length:Int)-1=(t:Nat):=ω;rw[e1];have a:=aai lf g i ω t ω [] ψ (fun l=>bd (aG.l2 lf false L L m (i64.wrap (((t:Nat):Int)-1)) l) fun b=>some (false,(false,([]:List Int),([]:List Int),([]:List Int),()),((b.1.1,b.1.2.1,b.1.2.2.1,b.1.2.2.2.1,()),())));rw[gT ω]at a;simp only[tc,vv]at a;rw[show si []=([]:List Int) from rfl,e1]at a;rw[a,w64 ω ω];have d:=aiA lf g i ω false [] ψ t m ω ω;rw[gR ω,gR c]at d;simp only[vv]at d;rw[d,fa,fa];simp only[fe];have n:0 < (D (uv L 0)).length:=vj.2 (ajh _);rw[gT (by simpa using n),fa,wM];congr 2;rw[gR ψ]at j;unfold z7;rw[gR ω,show z.toNat=uv L 0 by omega]
def abu{L:List Int}(h:Dg G L)(b:Tr L)(c:0 < L.length):∀ j,j < L.length→(D (uv L (L.length-1-j))).length=9*j+(D (L[L.length-1]).toNat).length
  | 0,_=>by
    rw[Nat.sub_zero,ac0 h (L.length-1) ω,show L.length-1+1=L.length by omega,ahI];simp
  | j+1,hj=>by
    have e:=abu h b c j ω;have a:L.length-1-(j+1) < L.length:=ω;have d:=h.at _ a;rw[ac0 h _ a,adg (acZ h b ω) ω (by
     simp only[G]at d;have:(10:Nat) ^ 9=1000000000:=δ;omega)]
    rw[show L.length-1-(j+1)+1=L.length-1-j by omega,e];omega
def ajG(lf:Nat){p:Bool×(List Int×Unit)}{z:Int}{k:Nat}(h:RN p z k)(s:k≤100000):mQ.f lf p=some ((if z=0 then 0 else((D z.natAbs).length:Int)),()):=by
  obtain⟨j,L,⟨⟩⟩:=p;obtain⟨a,b,m,c⟩:=h;simp only at a b m c;rw[mQ.f];simp only;by_cases g:L=[]
  · subst g
    have:z=0:=by rw[c];cases j<;>simp[lv]
    subst this;rw[show(((([]:List Int).length:Nat):Int)==0)=true from rfl,ff];rfl
  · have q:L.length≠0:=fun e=>g (wc.1 e)
    have l:(((L.length:Int))==0)=false:=by rw[beq_eq_false_iff_ne];omega
    have r:=acZ a b (k:=0) ω;have t:(uv L 0:Int)=lv G L:=by
      have:=dw (B:=G) δ a;unfold uv;rw[xD];omega
    have d:=a.at (L.length-1) ω;have o:(D (L[L.length-1]).toNat).length≤9:=oW 8 _ (by
     simp only[G]at d;have:(10:Nat) ^ (8+1)=1000000000:=δ;omega)
    have e:=abu a b ω (L.length-1) ω;rw[show L.length-1-(L.length-1)=0 by omega]at e;have i:z.natAbs=uv L 0∧z≠0:=by cases j<;>simp at c<;>omega
    rw[l,fe,w64 (n:=(L.length:Int)-1) ω ω,xI L _ (L.length-1) ω ω,fa,bItoa lf d.1 d.2,fa];simp only[jI];rw[w64 (n:=((L.length:Int)-1)*9) ω ω,w64 ω ω,gR i.2,i.1,e];congr 2;omega
def yG(lf:Nat){p:Bool×(List Int×Unit)}{z:Int}{k:Nat}(h:RN p z k)(b:k≤100000)(h3:200000≤lf):
  jl.f lf p=some (if(D z.natAbs).length > 4096 then(bs [],10,())else(bs (z7 z),0,())):=by
 rw[jl.f,ajG lf h b,fa,wX lf h b h3,fa];by_cases c:z=0
 ·rw[c,gT rfl,gO ω,fe];rw[show(0:Int).natAbs=0 from rfl,show(D 0).length=1 from by rw[show D 0=[48] from qA];rfl,gR ω]
 ·rw[gR c];by_cases a:(D z.natAbs).length > 4096
  ·rw[gP ω,ff,gT a]
  ·rw[gO ω,fe,gR a]
def afn(lf:Nat)(l m:List UInt8)(b:chk l=0)(c:chk m=0)(h3:200000≤lf):
  kR.f lf (bs l) (bs m)=some (if(D (iv l-iv m).natAbs).length > 4096 then(bs [],10,())else(bs (z7 (iv l-iv m)),0,())):=by
 obtain⟨p,q,e,d,g,_⟩:=wZ lf l m b c h3;rw[kR.f,e,fa];simp only[bne_self_eq_false,fe];obtain⟨j,e2,h⟩:=yx lf g;rw[e2,fa];obtain⟨s,a,i⟩:=adI lf d h ω h3;rw[a,fa,yG lf i ω h3,fa,←nL]
def aiK(lf:Nat)(l m:List UInt8)(b:chk l=0)(c:chk m=0)(h3:200000≤lf):
  jV.f lf (bs l) (bs m)=some (if(D (iv l+iv m).natAbs).length > 4096 then(bs [],10,())else(bs (z7 (iv l+iv m)),0,())):=by
 obtain⟨p,q,e,d,g,_⟩:=wZ lf l m b c h3;rw[jV.f,e,fa];simp only[bne_self_eq_false,fe];obtain⟨s,a,h⟩:=adI lf d g ω h3;rw[a,fa,yG lf h ω h3,fa]
def ahH(b:UInt8)(n:Nat)(a:n < 256):(((b.toNat:Nat):Int)==(n:Int))=decide (b=UInt8.ofNat n):=by
 by_cases h:b=UInt8.ofNat n
 ·rw[gP h];subst h;rw[UInt8.toNat_ofNat',n9 ω];simp
 ·rw[gO h,beq_eq_false_iff_ne];intro e;apply h;apply UInt8.toNat_inj.1;rw[UInt8.toNat_ofNat',n9 ω];omega
def afq(b:UInt8):(((b.toNat:Nat):Int)==45)=decide (b=45):=ahH b 45 ω
def aiZ(b:UInt8):(((b.toNat:Nat):Int)==48)=decide (b=48):=ahH b 48 ω
def aeK(lf:Nat)(l:List UInt8)(g:l.length≤9223372036854775807):∀ (k n i:Nat),i+k=l.length→k < n→
  fD.l0 lf (bs l) n (i:Nat)=some (!(l.drop i).all isDig,(),(),()):=by
 intro k
 induction k with
 | zero =>
  intro n i b c;obtain⟨m,rfl⟩:=zv (show n≠0 from ω);rw[fD.l0,fD.r0,jI,gO ω,fe,vt ω];rfl
 | succ k d =>
  intro n i b c;obtain⟨m,rfl⟩:=zv (show n≠0 from ω);have a:i < l.length:=ω;rw[fD.l0,fD.r0,jI,gP ω,ff,uy l _ i rfl a,fa,fa];rw[vr a,qT];by_cases e:l[i].toNat < 48
  ·rw[gP ω,ff];have:isDig l[i]=false:=by unfold isDig;apply gO;omega
   rw[this];rfl
  ·rw[gO ω,fe];by_cases f:l[i].toNat > 57
   ·rw[gP ω,ff];have:isDig l[i]=false:=by unfold isDig;apply gO;omega
    rw[this];rfl
   ·rw[gO ω,fe,w64 ω ω,show((i:Nat):Int)+1=((i+1:Nat):Int) by omega];have:isDig l[i]=true:=by unfold isDig;apply gP;omega
    rw[this,tL];exact d m (i+1) ω ω
def agr(lf:Nat)(l:List UInt8)(h:l.length≤9223372036854775807)(i:l.length≤lf):fD.f lf (bs l)=some (can l,()):=by
 rw[fD.f];rw[show(⟨#[48]⟩:ByteArray)=bs [48] from rfl,lS,jI];unfold can;by_cases e:l=[48]
 ·rw[gP e,ff];rfl
 ·rw[gO e,fe,Bool.false_or];cases l with
  | nil =>
   rw[gO ψ,fe];simp[ff,body]
  | cons b r =>
   rw[gP (by rw[vh];omega),ff,uy (b::r) 0 0 rfl ψ,fa];simp only[oA];rw[afq];by_cases a:b=45
   ·rw[gP a,ff];have g:body (b::r)=r:=by unfold body;rw[gT (by simp[a])];rfl
    rw[g];cases r with
    | nil =>
     have:((1:Int)==(([b].length:Nat):Int))=true:=ψ;rw[this,ff];simp
    | cons d s =>
     have:((1:Int)==(((b::d::s).length:Nat):Int))=false:=by
      rw[beq_eq_false_iff_ne];simp only[vh];omega
     rw[this,fe,uy (b::d::s) 1 1 rfl ψ,fa];simp only[gh,oA];rw[aiZ];by_cases c:d=48
     ·rw[gP c,ff];simp[c]
     ·rw[gO c,fe];have:=aeK lf (b::d::s) h (d::s).length (lf+40) 1 (by simp only[vh];omega) (by simp only[vh]at i⊢;omega);rw[show((1:Nat):Int)=1 from rfl]at this;rw[this,fa];simp only[List.drop_succ_cons,xD];cases (d::s).all isDig<;>simp[ff,fe,c]
   ·rw[gO a,fe];have g:body (b::r)=b::r:=by unfold body;rw[gR (by simp[a])]
    rw[g];have:((0:Int)==(((b::r).length:Nat):Int))=false:=by
     rw[beq_eq_false_iff_ne];simp only[vh];omega
    rw[this,fe,fa];rw[aiZ];by_cases c:b=48
    ·rw[gP c,ff];simp[c]
    ·rw[gO c,fe];have:=aeK lf (b::r) h (b::r).length (lf+40) 0 ω ω;rw[show((0:Nat):Int)=0 from rfl]at this;rw[this,fa];simp only[xD];cases (b::r).all isDig<;>simp[ff,fe,c]
def kT(lf:Nat)(l:List UInt8)(h:l≠[]):aA.f lf (bs l)=some (neg l,()):=by
 cases l with
 | nil=>exact absurd rfl h
 | cons b r =>
  rw[aA.f,uy (b::r) 0 0 rfl ψ,fa];simp only[oA];rw[afq];unfold neg;simp
def rM(lf:Nat)(l:List UInt8)(h:l≠[])(b:l.length≤9223372036854775807):bH.f lf (bs l)=some ((nlen l:Int),()):=by
 rw[bH.f,kT lf l h,fa];simp only;unfold nlen body neg;rw[jI];by_cases a:l.head? = some 45
 ·rw[gP a,ff,gT a,jj];have:l.length≠0:=fun e=>h (wc.1 e);rw[w64 ω ω];congr 2;omega
 ·rw[gO a,fe,gR a]
def ahc(lf:Nat)(l:List UInt8)(a:l.length≤9223372036854775807)(c:l.length≤lf):lW.f lf (bs l)=some (chk l,()):=by
 rw[lW.f,agr lf l a c,fa];simp only;unfold chk;cases b:can l with
 | false=>simp[ff]
 | true =>
  simp only[ze,fe,if_true];rw[rM lf l (mM b).2.2 a,fa];simp only;by_cases h:nlen l > 4096
  ·rw[gP ω,ff,gT h]
  ·rw[gO ω,fe,gR h]
def ab1(lf:Nat)(l:List UInt8)(b:l.length≤9223372036854775807)(c:l.length≤lf):eY.f lf (bs l)=some (num l,()):=by
 rw[eY.f,ahc lf l b c,fa];simp only;unfold num;by_cases h:chk l=0
 ·rw[h];simp only[bne_self_eq_false,fe,ne_eq,not_true,if_false];rw[rM lf l (mM (nI.1 h).1).2.2 b,fa];simp only;by_cases a:nlen l > 100
  ·rw[gP ω,ff,gT a]
  ·rw[gO ω,fe,gR a]
 ·have:(chk l != 0)=true:=by simpa using h
  rw[this,ff,gT h]
def aaI{l:List UInt8}(h:can l=true):iv l=0↔l=[48]:=by
 constructor
 ·intro e;exact ajr h δ (by rw[e];decide)
 ·rintro rfl;decide
def acv{l:List UInt8}(h:can l=true):iv l < 0↔neg l=true:=by
 constructor
 ·intro e;unfold iv at e;by_cases a:neg l=true
  ·exact a
  ·rw[gR a]at e;omega
 ·intro a;have b:iv l≠0:=by
   intro e;have:=(aaI h).1 e;subst this;cases a
  unfold iv at b⊢;rw[gT a]at b⊢;omega
def xQ(lf:Nat)(l:List UInt8)(h:can l=true):bD.f lf (bs l)=some (sgn (iv l),()):=by
 rw[bD.f,show(⟨#[48]⟩:ByteArray)=bs [48] from rfl,lS];by_cases a:l=[48]
 ·rw[gP a,ff];subst a;rfl
 ·have c:iv l≠0:=fun e=>a ((aaI h).1 e);rw[gO a,fe,kT lf l (mM h).2.2,fa];simp only;cases b:neg l with
  | true =>
   have:=(acv h).2 b;rw[ff,sgn,gT this]
  | false =>
   have:¬iv l < 0:=fun e=>by have:=(acv h).1 e;rw[b]at this;cases this
   rw[fe,sgn,gR this,gR c]
def ld(l:List UInt8):List Int:=l.reverse.map fun b=>(dig b:Int)
def acy(l:List UInt8):(ld l).length=l.length:=by simp[ld]
def agJ{l:List UInt8}(h:l.all isDig=true):Dg 10 (ld l):=by
 intro y a;unfold ld at a;obtain⟨b,c,rfl⟩:=yy.1 a;have:=ack (ym.1 h b (by simpa using c));omega
def aeT(l:List UInt8):lv 10 (ld l)=dv l:=by
 refine zU (p:=fun l=>lv 10 (ld l)=dv l) l rfl fun l b a=>?_;have:ld (l++[b])=(dig b:Int)::ld l:=by simp[ld]
 rw[this,lv,a,wR];omega
def afw(lf:Nat)(l:List UInt8)(C:Bool)(h:(body l).all isDig=true)(B:l.length≤1000000):∀ (k n:Nat) (f:List Int),k≤l.length→k < n→f.length+k≤1000000→
  aW.l0 lf (bs l) n ((k:Nat)-1:Int) f=some ((f++ld (if neg l=true then(l.take k).tail else l.take k),()),()):=by
 intro k
 induction k with
 | zero =>
  intro n f w y j;obtain⟨m,rfl⟩:=zv (show n≠0 from ω);rw[aW.l0,aW.r0,gO ω,fe];simp[ld]
 | succ k A =>
  intro n f w y j;obtain⟨m,rfl⟩:=zv (show n≠0 from ω);have c:k < l.length:=ω;rw[aW.l0,aW.r0,gP ω,ff,uy l _ k ω c,fa,fa];have r:((((l[k]).toNat:Nat):Int) != 45)=!decide (l[k]=45):=by rw[bne,afq]
  rw[r,mK c];by_cases d:l[k]=45
  ·-- the sign
   rw[gP d];simp only[ze,fe];have p:k=0:=by
    by_cases i:k=0
    ·exact i
    ·exfalso;have g:l[k]∈body l:=by
      unfold body;split
      ·rw[pQ];exact⟨k-1,by rw[jj];omega,by rw[gi];congr 1;omega⟩
      ·exact qD c
     have:=ym.1 h _ g;rw[d]at this;cases this
   subst p;have a:neg l=true:=by
    unfold neg;apply gP;rw[nE,zP c,d]
   rw[gT a];simp[ld]
  ·rw[gO d];simp only[zj,ff];have g:isDig l[k]=true:=by
    by_cases i:k=0∧l.head? = some 45
    ·exfalso;obtain⟨rfl,i⟩:=i;rw[nE,zP c]at i;exact d (y8.inj i)
    ·have x:l[k]∈body l:=by
      unfold body;split
      ·rename_i v;have:k≠0:=fun e=>i ⟨e,v⟩;rw[pQ];exact⟨k-1,by rw[jj];omega,by rw[gi];congr 1;omega⟩
      ·exact qD c
     exact ym.1 h _ x
   have s:=g;unfold isDig at s;simp only[decide_eq_true_eq]at s;rw[w8 ω ω,w64 ω ω,pY 8 _ _ ω (by simp;omega),fa,w64 ω ω];rw[show((k+1:Nat):Int)-1-1=((k:Nat):Int)-1 by omega];rw[A m _ ω ω (by simp;omega)];have o:(((l[k]).toNat:Nat):Int)-48=(dig l[k]:Int):=by unfold dig;omega
   rw[o];congr 3;have q:∀ (t:List UInt8) (b:UInt8),ld (t++[b])=(dig b:Int)::ld t:=by intro t b;simp[ld]
   by_cases a:neg l=true
   ·rw[gT a,gT a];have p:k≠0:=by
     rintro rfl;unfold neg at a;simp only[decide_eq_true_eq]at a;rw[nE,zP c]at a;exact d (y8.inj a)
    have z:(l.take k++[l[k]]).tail=(l.take k).tail++[l[k]]:=by
     rw[List.tail_append_of_ne_nil];intro e;have u:=congrArg List.length e;rw[xV,List.length_nil]at u;omega
    rw[z,q];simp
   ·rw[gR a,gR a,q];simp
def qC(lf:Nat)(l:List UInt8)(h:can l=true)(b:l.length≤100000)(h3:200000≤lf):aW.f lf (bs l)=some (ld (body l),()):=by
 rw[aW.f,jI,w64 ω ω];rw[afw lf l true (mM h).1 ω l.length (lf+40) [] (za _) ω (by simp;omega),fa];simp only[vv,pB];congr 2;unfold body neg;by_cases a:l.head? = some 45
 ·rw[gT a,gT (gP a)]
 ·rw[gR a,gR (by rw[gO a];simp)]
def ajb(lf:Nat)(l:List Int)(g:l.length≤1000000):∀ (k n:Nat),k≤l.length→k < n→
  ∃ j:Nat,aN.l0 lf l n (k:Nat)=some (((j:Int),()),())∧j≤k∧l.take j=tr (l.take k):=by
 intro k
 induction k with
 | zero =>
  intro n c d;obtain⟨m,rfl⟩:=zv (show n≠0 from ω);rw[aN.l0,aN.r0,gO ω,fe];exact⟨0,rfl,za _,by simp[acV]⟩
 | succ k f =>
  intro n c d;obtain⟨m,rfl⟩:=zv (show n≠0 from ω);have a:k < l.length:=ω;have e:i64.wrap (((k+1:Nat):Int)-1)=(k:Nat):=by rw[w64 ω ω];omega
  rw[aN.l0,aN.r0,gP ω,ff,e,iE _ _ a,fa,mK a];by_cases h:l[k]=0
  ·have:(l[k]==0)=true:=by simp[h]
   rw[this,ff,h,sW];obtain⟨j,e1,e2,b⟩:=f m ω ω;exact⟨j,e1,ω,b⟩
  ·have:(l[k]==0)=false:=by simp[h]
   rw[this,fe,vS _ _ h];exact⟨k+1,rfl,za _,by rw[mK a]⟩
def vK(lf:Nat)(l:List Int)(b:l.length≤100000)(h3:200000≤lf):aN.f lf l=some (tr l,()):=by
 obtain⟨j,e1,e2,a⟩:=ajb lf l ω l.length (lf+40) (za _) ω;rw[aN.f,e1,fa];simp only;rw[aez _ _ j rfl e2,fa,a,pB]
def afM(lf:Nat)(xs a:List Int)(g:Dg 10 xs)(j:Dg 10 a)(r:xs.length=a.length)(q:xs.length≤1000000):∀ (i n:Nat) (f:i≤xs.length),i < n→
  ∃ b v,dh.l0 lf xs a n ((i:Nat)-1:Int)=some (b,(v,()),(),())∧(if b=true then v else 0)=sgn (lv 10 (xs.take i)-lv 10 (a.take i)):=by
 intro i
 induction i with
 | zero =>
  intro n f l;obtain⟨m,rfl⟩:=zv (show n≠0 from ω);refine⟨false,0,?_,by simp[sgn,lv]⟩;rw[dh.l0,dh.r0,gO ω,fe]
 | succ i o =>
  intro n f l;obtain⟨m,rfl⟩:=zv (show n≠0 from ω);have e:((i+1:Nat):Int)-1=(i:Nat):=ω;rw[dh.l0,dh.r0,gP ω,ff,xI xs _ i e ω,fa,xI a _ i e ω,fa];by_cases h:xs[i]=a[i]'ω
  ·have d:(xs[i] != a[i]'ω)=false:=by simp[h]
   rw[d,fe,w64 ω ω,e];obtain⟨b,v,k,p⟩:=o m ω ω;refine⟨b,v,k,?_⟩;rw[qN 10 xs i ω,qN 10 a i ω,h]
   rwa [show lv 10 (xs.take i)+10 ^ i*a[i]-(lv 10 (a.take i)+10 ^ i*a[i])=lv 10 (xs.take i)-lv 10 (a.take i) by omega]
  ·have d:(xs[i] != a[i]'ω)=true:=by simp[h]
   rw[d,ff,fa,fa];rcases pP h with c | c
   ·have:=aaW (B:=10) δ g j i ω ω c;rw[gP c,ff];exact⟨true,_,rfl,by rw[gT rfl,sgn,gT ω]⟩
   ·have:=aaW (B:=10) δ j g i ω ω c;rw[gO ω,fe];exact⟨true,_,rfl,by rw[gT rfl,sgn,gR ω,gR ω]⟩
def zK(lf:Nat)(xs a:List Int)(e:Dg 10 xs)(g:Dg 10 a)(t1:Tr xs)(t2:Tr a)(k:xs.length≤100000)(l:a.length≤100000)(h3:200000≤lf):
  dh.f lf xs a=some (sgn (lv 10 xs-lv 10 a),()):=by
 rw[dh.f];by_cases h:xs.length=a.length
 ·have d:((xs.length:Int) !=(a.length:Int))=false:=by simp[h]
  rw[d,fe,w64 ω ω];obtain⟨b,v,j,i⟩:=afM lf xs a e g h ω xs.length (lf+40) (za _) ω;rw[uW (za _),uW ω]at i;rw[j,fa,←i];cases b with
  | true=>simp only[ff];simp
  | false=>simp only[fe];simp
 ·have d:((xs.length:Int) !=(a.length:Int))=true:=by
   simp only[bne_iff_ne,ne_eq];omega
  rw[d,ff];rcases lO h with c | c
  ·have:=oJ (B:=10) δ e g t2 c;rw[gP ω,ff,sgn,gT ω]
  ·have:=oJ (B:=10) δ g e t1 c;rw[gO ω,fe,sgn,gR ω,gR ω]
def yD(z:Int):sgn (-z)= -sgn z:=by unfold sgn;(repeat' split)<;>omega
def aaS{z:Int}(h:0 < z):sgn z=1:=by unfold sgn;rw[gR ω,gR ω]
def afI(lf:Nat)(l m:List UInt8)(g:can l=true)(i:can m=true)(l1:l.length≤100000)(l2:m.length≤100000)(h3:200000≤lf):
  lX.f lf (bs l) (bs m)=some (sgn (iv l-iv m),()):=by
 rw[lX.f,xQ lf l g,fa,xQ lf m i,fa];simp only;by_cases c:sgn (iv l)=sgn (iv m)
 ·have d:(sgn (iv l) != sgn (iv m))=false:=by simp[c]
  rw[d,fe,qC lf l g l1 h3,fa];have b1:(body l).length≤l.length:=aaM l;have b2:(body m).length≤m.length:=aaM m;rw[vK lf _ (by rw[acy];omega) h3,fa,qC lf m i l2 h3,fa,vK lf _ (by rw[acy];omega) h3,fa];have c1:=nS (ld (body l));have c2:=nS (ld (body m));rw[acy]at c1 c2;rw[zK lf _ _ (qB (agJ (mM g).1)) (qB (agJ (mM i).1)) (tH _) (tH _) ω ω h3,fa];simp only;rw[oU,oU,aeT,aeT];have k:∀ a b:Int,-1≤a→a≤1→-1≤b→b≤1→i64.wrap (a*b)=a*b:=by
   intro a b a1 a2 b1 b2;have:a= -1∨a=0∨a=1:=ω;have:b= -1∨b=0∨b=1:=ω;apply w64
   ·rcases ‹a= -1∨a=0∨a=1› with rfl | rfl | rfl<;>omega
   ·rcases ‹a= -1∨a=0∨a=1› with rfl | rfl | rfl<;>omega
  have e:∀ z:Int,-1≤sgn z∧sgn z≤1:=by intro z;unfold sgn;split<;>(try split)<;>omega
  rw[k _ _ (e _).1 (e _).2 (e _).1 (e _).2];congr 2;unfold iv at c⊢;generalize neg l=nl at c⊢;generalize neg m=nm at c⊢;generalize dv (body l)=x at c⊢;generalize dv (body m)=y at c⊢;clear d e k;have n:sgn 0=0:=rfl;rcases gj x with j | j<;>rcases gj y with hy | hy
  ·subst j;subst hy;cases nl<;>cases nm<;>rfl
  ·subst j;have p2:=aaS (show(0:Int) < (y:Int) by omega);cases nl<;>cases nm<;>simp[yD,p2,n]at c
  ·subst hy;have p2:=aaS (show(0:Int) < (x:Int) by omega);cases nl<;>cases nm<;>simp[yD,p2,n]at c
  ·have p1:=aaS (show(0:Int) < (x:Int) by omega);have p2:=aaS (show(0:Int) < (y:Int) by omega);cases nl<;>cases nm
   ·simp[p1]
   ·simp[yD,p1,p2]at c
   ·simp[yD,p1,p2]at c
   ·simp only[if_true,yD,p1];rw[show -(x:Int) - -(y:Int)= -((x:Int)-(y:Int)) by omega,yD];omega
 ·have d:(sgn (iv l) != sgn (iv m))=true:=by simp[c]
  rw[d,ff];unfold sgn at c⊢;by_cases h:sgn (iv l) < sgn (iv m)
  ·unfold sgn at h;rw[gP h,ff];congr 2
   repeat' split at h
   all_goals (try omega)
   all_goals (repeat' split)
   all_goals omega
  ·unfold sgn at h;rw[gO h,fe];congr 2
   repeat' split at h
   all_goals (try omega)
   all_goals (repeat' split)
   all_goals omega
def ad6(lf:Nat)(l m:List UInt8)(a:can l=true)(b:can m=true)(l1:l.length≤100000)(l2:m.length≤100000)(h3:200000≤lf):
  aK.f lf (bs l) (bs m)=some (decide (iv l < iv m),()):=by
 rw[aK.f,afI lf l m a b l1 l2 h3,fa];congr 2;simp only[decide_eq_decide];unfold sgn;split
 ·omega
 ·split<;>omega
def sJ(B:Int):∀ (l:List Int) (k:Nat) (v:Int) (h:k < l.length),lv B (l.set k v)=lv B l+B ^ k*(v-l[k])
 | x::l,0,v,h=>by simp[lv];omega
 | x::l,k+1,v,h=>by
  have a:=sJ B l k v (by simpa using h);simp only[List.set_cons_succ,lv,a,gh,wy]
  grind
def tJ{B:Int}{l:List Int}(h:Dg B l)(k:Nat){v:Int}(b:0≤v∧v < B):Dg B (l.set k v):=fun y a=>by
 rcases List.mem_or_eq_of_mem_set a with a | rfl
 ·exact h y a
 ·exact b
def aak{a y:Int}(b:0≤a)(c:a < G)(h3:0≤y)(d:y < G):0≤a*y∧a*y≤999999998000000001:=by
 refine⟨yf b h3,?_⟩;have:=sL (show a≤999999999 by simp only[G]at *;omega) (show y≤999999999 by simp only[G]at *;omega) h3 ω;omega
def ring_step(P B s o c a y D m q:Int)(h:m+B*q=s)(b:s=c+(o+a*y)):P*(m-o)+P*B*(q+a*D)=P*(c+a*(y+B*D)):=by grind
def ahD(lf:Nat)(M N:List Int)(O P:Int)(a:Int)(i:Nat)(d:List Int)(D:0≤a∧a < G)(I:Dg G d):∀ (k n j:Nat) (c:Int) (out:List Int),j+k=d.length→k < n→0≤c→c < G→Dg G out→i+d.length≤out.length→out.length≤1000000→
  ∃ f b,gK.l1 lf M (i:Nat) a N O P d (d.length:Int) n c (j:Nat) out=some ((f,b,()),())∧b.length=out.length∧Dg G b∧0≤f∧f < G∧lv G b+G ^ (i+d.length)*f=lv G out+G ^ (i+j)*(c+a*lv G (d.drop j))∧∀ q,i+d.length≤q→b[q]? = out[q]? := by
 intro k
 induction k with
 | zero =>
  intro n j c out E F c0 c1 h t r;obtain⟨m,rfl⟩:=zv (show n≠0 from ω);refine⟨c,out,?_,rfl,h,c0,c1,?_,fun q _=>rfl⟩
  ·rw[gK.l1,gK.r1,gO ω,fe]
  ·rw[vt ω,show j=d.length by omega];simp[lv]
 | succ k J =>
  intro n j c out E F c0 c1 h t r;obtain⟨m,rfl⟩:=zv (show n≠0 from ω);have e:j < d.length:=ω;have g:i+j < out.length:=ω;have v:=I.at j e;have o0:=h.at (i+j) g;have R:=aak D.1 (show a < G from ω) v.1 (show d[j] < G from ω);have l:c < G:=ω;have o:out[i+j] < G:=ω;have w:=c0;simp only[G]at l o;have e1:i64.wrap (((i:Nat):Int)+((j:Nat):Int))=((i+j:Nat):Int):=by rw[w64 ω ω];omega
  have e2:i64.wrap (a*d[j])=a*d[j]:=w64 ω ω;have A:i64.wrap (out[i+j]+a*d[j])=out[i+j]+a*d[j]:=w64 ω ω;have B:i64.wrap (c+(out[i+j]+a*d[j]))=c+(out[i+j]+a*d[j]):=w64 ω ω;have C:i64.wrap (((j:Nat):Int)+1)=((j+1:Nat):Int):=by rw[w64 ω ω];omega
  obtain⟨s,u⟩:∃ s,s=c+(out[i+j]+a*d[j]):=⟨_,rfl⟩
  have p:0≤s:=ω;have x:=tO s (show G≠0 from δ);have y:=tP s (show 0 < G from δ);have z:=sI s G;have K:0≤s / G:=vR p δ;have L:s / G < G:=by
   apply pS δ;have Q:a*d[j]≤(G-1)*(G-1):=sL ω ω v.1 δ
   try simp only[G]at *
   omega
  obtain⟨f,b,r1,r2,r3,r4,r5,r6,r7⟩:=J m (j+1) (s / G) (out.set (i+j) (s % G)) ω ω K L (tJ h _ ⟨x,y⟩) (by rw[yq];exact t) (by rw[yq];exact r);refine⟨f,b,?_,by rw[r2,yq],r3,r4,r5,?_,fun q H=>?_⟩
  ·rw[gK.l1,gK.r1,gP ω,ff];rw[iE _ _ e,fa,e1,fV _ _ g,fa,zP g,fa,e2,A,B,←u,uT p δ,fa,rW p δ ω,fa,fa,pK _ _ _ g,fa,C];exact r1
  ·rw[r6,sJ G out (i+j) _ g,vr e,lv,←xo,wy,nt,ring_step _ _ s out[i+j] c a d[j] _ _ _ z u]
  ·rw[r7 q H,vq ω]
def ahC(lf:Nat)  (xs b:List Int)(w:Dg G xs)(x:Dg G b)(h3:200000≤lf)(u:b.length≤100000): ∀ (k n i:Nat) (out:List Int),i+k=xs.length→k < n→Dg G out→out.length=xs.length+b.length→out.length≤1000000→(∀ q,i+b.length≤q→q < out.length→out[q]? = some 0)→
  ∃ a,gK.l0 lf b xs (xs.length:Int) n (i:Nat) out=some ((a,()),())∧a.length=out.length∧Dg G a∧lv G a=lv G out+G ^ i*(lv G (xs.drop i)*lv G b):=by
 intro k
 induction k with
 | zero =>
  intro n i out t v h p g j;obtain⟨m,rfl⟩:=zv (show n≠0 from ω);refine⟨out,?_,rfl,h,?_⟩
  ·rw[gK.l0,gK.r0,gO ω,fe]
  ·rw[vt ω];simp[lv]
 | succ k y =>
  intro n i out t v h p g j;obtain⟨m,rfl⟩:=zv (show n≠0 from ω);have c:i < xs.length:=ω;have z:=w.at i c;obtain⟨r,a,r1,r2,r3,r4,r5,r6,r7⟩:=ahD lf b xs (xs.length:Int) (i:Nat) xs[i] i b z x b.length (lf+40) 0 0 out ω ω δ δ h ω g;rw[show((0:Nat):Int)=0 from rfl]at r1;have e:i+b.length < a.length:=by rw[r2];omega
  have l:a[i+b.length]=0:=by
   have f:=r7 (i+b.length) (za _);rw[j (i+b.length) (za _) ω,zP e]at f;exact y8.inj f
  have e1:i64.wrap (((i:Nat):Int)+(b.length:Int))=((i+b.length:Nat):Int):=by rw[w64 ω ω];omega
  have s:i64.wrap (((i:Nat):Int)+1)=((i+1:Nat):Int):=by rw[w64 ω ω];omega
  obtain⟨d,t1,t2,t3,t4⟩:=y m (i+1) (a.set (i+b.length) r) ω ω (tJ r3 _ ⟨r4,r5⟩) (by rw[yq,r2];exact p) (by rw[yq,r2];exact g) (fun q f o=>by
   rw[yq,r2]at o;rw[vq ω,r7 q ω];exact j q ω o)
  refine⟨d,?_,by rw[t2,yq,r2],t3,?_⟩
  ·rw[gK.l0,gK.r0,gP ω,ff];rw[iE _ _ c,fa,r1,fa,e1,fV _ _ e,fa,pK _ _ _ e,fa,s];exact t1
  ·rw[t4,sJ G a (i+b.length) _ e,l,vr c,lv];simp only[xD,rI]at r6;rw[wy]
   grind
def ab4{B:Int}(xs ys:List Int):lv B (xS (xs.length+ys.length) 0)+B ^ 0*(lv B (xs.drop 0)*lv B ys)=lv B xs*lv B ys:=by
 rw[uK];simp
def acU(lf:Nat)(xs ys:List Int)(a:Dg G xs)(b:Dg G ys)(c:xs.length≤50000)(d:ys.length≤50000)(h3:200000≤lf):
  ∃ r,gK.f lf xs ys=some (r,())∧Dg G r∧Tr r∧r.length≤xs.length+ys.length∧lv G r=lv G xs*lv G ys:=by
 have e0:i64.wrap ((xs.length:Int)+(ys.length:Int))=((xs.length+ys.length:Nat):Int):=by rw[w64 ω ω];omega
 obtain⟨out,r1,r2,r3,r4⟩:=ahC lf xs ys a b h3 ω xs.length (lf+40) 0 (xS (xs.length+ys.length) 0) ω ω (Dg.zeros δ _) ψ (by simp;omega) (fun q _ h=>by rw[vo]at h;rw[sw,gT h]);rw[vo]at r2;rw[ab4]at r4;rw[gK.f,e0,uU _ _ _ (xs.length+ys.length) rfl rfl ω,fa];rw[show((0:Nat):Int)=0 from rfl]at r1;rw[r1,fa,xR lf out ω ω,fa];exact⟨_,rfl,qB r3,tH _,by have:=nS out;show(tr out).length≤_;omega,by rw[oU];exact r4⟩
def afP(lf:Nat)(xs:List Int)(a:Int)(i:Nat)(d:List Int)(E:0≤a∧a < 10)(K:Dg 10 d)(F:i < xs.length)(p:xs[i]=a):∀ (k n j:Nat) (c:Int) (out:List Int),j+k=d.length→k < n→0≤c→c < 10→Dg 10 out→i+d.length≤out.length→out.length≤1000000→
  ∃ f b,dK.l1 lf xs d (i:Nat) n c (j:Nat) out=some ((f,b,()),())∧b.length=out.length∧Dg 10 b∧0≤f∧f < 10∧lv 10 b+10 ^ (i+d.length)*f=lv 10 out+10 ^ (i+j)*(c+a*lv 10 (d.drop j))∧∀ q,i+d.length≤q→b[q]? = out[q]? := by
 intro k
 induction k with
 | zero =>
  intro n j c out H I c0 c1 h u t;obtain⟨m,rfl⟩:=zv (show n≠0 from ω);refine⟨c,out,?_,rfl,h,c0,c1,?_,fun q _=>rfl⟩
  ·rw[dK.l1,dK.r1,gO ω,fe]
  ·rw[vt ω,show j=d.length by omega];simp[lv]
 | succ k L =>
  intro n j c out H I c0 c1 h u t;obtain⟨m,rfl⟩:=zv (show n≠0 from ω);have e:j < d.length:=ω;have g:i+j < out.length:=ω;have w:=K.at j e;have o0:=h.at (i+j) g;have P:=aak E.1 (show a < G by simp only[G];omega) w.1 (show d[j] < G by simp only[G];omega);have l:c < G:=by simp only[G];omega
  have o:out[i+j] < G:=by simp only[G];omega
  have x:=c0;simp only[G]at l o;have e1:i64.wrap (((i:Nat):Int)+((j:Nat):Int))=((i+j:Nat):Int):=by rw[w64 ω ω];omega
  have e2:i64.wrap (a*d[j])=a*d[j]:=w64 ω ω;have B:i64.wrap (out[i+j]+a*d[j])=out[i+j]+a*d[j]:=w64 ω ω;have C:i64.wrap (c+(out[i+j]+a*d[j]))=c+(out[i+j]+a*d[j]):=w64 ω ω;have D:i64.wrap (((j:Nat):Int)+1)=((j+1:Nat):Int):=by rw[w64 ω ω];omega
  obtain⟨s,v⟩:∃ s,s=c+(out[i+j]+a*d[j]):=⟨_,rfl⟩
  have r:0≤s:=ω;have y:=tO s (show 10≠0 from δ);have z:=tP s (show 0 < 10 from δ);have A:=sI s 10;have M:0≤s / 10:=vR r δ;have N:s / 10 < 10:=by
   apply pS δ;have O:a*d[j]≤(10-1)*(10-1):=sL ω ω w.1 δ
   try simp only[G]at *
   omega
  obtain⟨f,b,r1,r2,r3,r4,r5,r6,r7⟩:=L m (j+1) (s / 10) (out.set (i+j) (s % 10)) ω ω M N (tJ h _ ⟨y,z⟩) (by rw[yq];exact u) (by rw[yq];exact t);refine⟨f,b,?_,by rw[r2,yq],r3,r4,r5,?_,fun q J=>?_⟩
  ·rw[dK.l1,dK.r1,gP ω,ff];rw[e1,fV _ _ g,fa,zP g,fa,iE _ _ F,fa,iE _ _ e,fa,p,e2,B,C,←v,uT r δ,fa,fa,pK _ _ _ g,fa,rW r δ ω,fa,D];exact r1
  ·rw[r6,sJ 10 out (i+j) _ g,vr e,lv,←xo,wy,nt,ring_step _ _ s out[i+j] c a d[j] _ _ _ A v]
  ·rw[r7 q J,vq ω]
def afO(lf:Nat)  (xs b:List Int)(w:Dg 10 xs)(x:Dg 10 b)(h3:200000≤lf)(u:b.length≤100000): ∀ (k n i:Nat) (out:List Int),i+k=xs.length→k < n→Dg 10 out→out.length=xs.length+b.length→out.length≤1000000→(∀ q,i+b.length≤q→q < out.length→out[q]? = some 0)→
  ∃ a,dK.l0 lf xs b n (i:Nat) out=some ((a,()),())∧a.length=out.length∧Dg 10 a∧lv 10 a=lv 10 out+10 ^ i*(lv 10 (xs.drop i)*lv 10 b):=by
 intro k
 induction k with
 | zero =>
  intro n i out t v h p g j;obtain⟨m,rfl⟩:=zv (show n≠0 from ω);refine⟨out,?_,rfl,h,?_⟩
  ·rw[dK.l0,dK.r0,gO ω,fe]
  ·rw[vt ω];simp[lv]
 | succ k y =>
  intro n i out t v h p g j;obtain⟨m,rfl⟩:=zv (show n≠0 from ω);have c:i < xs.length:=ω;have z:=w.at i c;obtain⟨r,a,r1,r2,r3,r4,r5,r6,r7⟩:=afP lf xs xs[i] i b z x c rfl b.length (lf+40) 0 0 out ω ω δ δ h ω g;rw[show((0:Nat):Int)=0 from rfl]at r1;have e:i+b.length < a.length:=by rw[r2];omega
  have l:a[i+b.length]=0:=by
   have f:=r7 (i+b.length) (za _);rw[j (i+b.length) (za _) ω,zP e]at f;exact y8.inj f
  have e1:i64.wrap (((i:Nat):Int)+(b.length:Int))=((i+b.length:Nat):Int):=by rw[w64 ω ω];omega
  have s:i64.wrap (((i:Nat):Int)+1)=((i+1:Nat):Int):=by rw[w64 ω ω];omega
  obtain⟨d,t1,t2,t3,t4⟩:=y m (i+1) (a.set (i+b.length) r) ω ω (tJ r3 _ ⟨r4,r5⟩) (by rw[yq,r2];exact p) (by rw[yq,r2];exact g) (fun q f o=>by
   rw[yq,r2]at o;rw[vq ω,r7 q ω];exact j q ω o)
  refine⟨d,?_,by rw[t2,yq,r2],t3,?_⟩
  ·rw[dK.l0,dK.r0,gP ω,ff];rw[r1,fa,e1,fV _ _ e,fa,pK _ _ _ e,fa,s];exact t1
  ·rw[t4,sJ 10 a (i+b.length) _ e,l,vr c,lv];simp only[xD,rI]at r6;rw[wy]
   grind
def ahi(lf:Nat)(xs ys:List Int)(a:Dg 10 xs)(b:Dg 10 ys)(c:xs.length≤50000)(d:ys.length≤50000)(h3:200000≤lf):
  ∃ r,dK.f lf xs ys=some (r,())∧Dg 10 r∧r.length≤xs.length+ys.length∧lv 10 r=lv 10 xs*lv 10 ys:=by
 have e0:i64.wrap ((xs.length:Int)+(ys.length:Int))=((xs.length+ys.length:Nat):Int):=by rw[w64 ω ω];omega
 obtain⟨out,r1,r2,r3,r4⟩:=afO lf xs ys a b h3 ω xs.length (lf+40) 0 (xS (xs.length+ys.length) 0) ω ω (Dg.zeros δ _) ψ (by simp;omega) (fun q _ h=>by rw[vo]at h;rw[sw,gT h]);rw[vo]at r2;rw[ab4]at r4;rw[dK.f,e0,uU _ _ _ (xs.length+ys.length) rfl rfl ω,fa];rw[show((0:Nat):Int)=0 from rfl]at r1;rw[r1,fa,vK lf out ω ω,fa];exact⟨_,rfl,qB r3,by have:=nS out;show(tr out).length≤_;omega,by rw[oU];exact r4⟩
def qZ(B:Int)(l:List Int)(k:Nat)(h:k≤l.length):lv B l=lv B (l.take k)+B ^ k*lv B (l.drop k):=by
 have:=wW B (l.take k) (l.drop k);rw[jn,xV,ut h]at this;exact this
def uJ(B:Int)(l:List Int)(k:Nat)(h:k < l.length):lv B (l.drop k)=l[k]+B*lv B (l.drop (k+1)):=by
 rw[vr h,lv]
def abk(B:Int)(l:List Int)(k:Nat)(h:k < l.length):lv B (l.take (k+1))=lv B (l.take k)+B ^ k*l[k]:=by
 rw[←pg h,wW,xV,ut ω];simp[lv]
def aeh(P B d o x r v r1 A T:Int)(h:r1+d*v=r*B+x):d*(A+P*(v-0))+(P*r1+T)=d*A+(P*B*r+(T+P*x)):=by grind
def aht(lf:Nat)(xs:List Int)(d:Int)(b:0 < d)(g:d < G)(y:Dg G xs)(D:xs.length≤1000000):∀ (k n:Nat) (out:List Int) (r:Int),k≤xs.length→k < n→out.length=xs.length→0≤r→r < d→Dg G out→(∀ q,q < k→out[q]? = some 0)→
  ∃ a f,iw.l0 lf d xs n ((k:Nat)-1:Int) out r=some ((a,f,()),())∧a.length=out.length∧Dg G a∧0≤f∧f < d∧d*lv G a+f=d*lv G out+(G ^ k*r+lv G (xs.take k)):=by
 intro k
 induction k with
 | zero =>
  intro n out r w x l r0 r1 c h;obtain⟨m,rfl⟩:=zv (show n≠0 from ω);refine⟨out,r,?_,rfl,c,r0,r1,by simp[lv]⟩;rw[iw.l0,iw.r0,gO ω,fe]
 | succ k z =>
  intro n out r w x l r0 r1 c h;obtain⟨m,rfl⟩:=zv (show n≠0 from ω);have e:k < xs.length:=ω;have C:=y.at k e;have o0:out[k]'ω=0:=by
   have j:=h k ω;rw[zP ω]at j;exact y8.inj j
  simp only[G]at C g;have e0:((k+1:Nat):Int)-1=((k:Nat):Int):=ω;have e1:i64.wrap (r*1000000000)=r*1000000000:=w64 ω ω;obtain⟨s,o⟩:∃ s,s=r*1000000000+xs[k]:=⟨_,rfl⟩
  have e2:i64.wrap s=s:=w64 ω ω;have v:i64.wrap (((k:Nat):Int)-1)=((k:Nat):Int)-1:=w64 ω ω;have i:0≤s:=ω;have p:=tO s (show d≠0 from ω);have t:=tP s b;have u:=sI s d;have A:0≤s / d:=vR i ω;have B:s / d < G:=by
   apply pS b;simp only[G];omega
  obtain⟨a,f,t1,t2,t3,t4,t5,t6⟩:=z m (out.set k (s / d)) (s % d) ω ω (by rw[yq];exact l) p t (tJ c _ ⟨A,B⟩) (fun q E=>by
   rw[vq ω];exact h q ω)
  refine⟨a,f,?_,by rw[t2,yq],t3,t4,t5,?_⟩
  ·rw[iw.l0,iw.r0,e0,gP ω,ff,iE _ _ e,fa,e1,←o,e2,rW i b ω,fa,uT i ω,fa,fV _ _ ω,fa,pK _ _ _ ω,fa,v];exact t1
  ·rw[t6,sJ G out k _ ω,o0,abk G xs k e,wy];exact aeh _ _ _ 0 _ _ _ _ _ _ (by rw[u,o])
def afk(lf:Nat)(xs:List Int)(d:Int)(a:0 < d)(b:d < G)(e:Dg G xs)(g:xs.length≤100000)(h3:200000≤lf):
  ∃ q r,iw.f lf xs d=some (q,r,())∧Dg G q∧Tr q∧q.length≤xs.length∧0≤r∧r < d∧lv G xs=d*lv G q+r:=by
 obtain⟨out,r,t1,t2,t3,t4,t5,t6⟩:=aht lf xs d a b e ω xs.length (lf+40) (xS xs.length 0) 0 (za _) ω ψ ω a (Dg.zeros δ _) (fun q c=>by rw[sw,gT c]);rw[vo]at t2;refine⟨tr out,r,?_,qB t3,tH _,by have:=nS out;omega,t4,t5,?_⟩
 ·rw[iw.f,uU _ _ _ xs.length rfl rfl ω,fa,w64 ω ω,t1,fa,xR lf out ω ω,fa]
 ·rw[oU,t6,uK,uW (za _)];simp
def ajU(lf:Nat)(M:List Int)(N O:Int)(a:Int)(i:Nat)(d:List Int)(D:0≤a∧a < G)(I:Dg G d):∀ (k n j:Nat) (c:Int) (out:List Int),j+k=d.length→k < n→0≤c→c < G→Dg G out→i+d.length≤out.length→out.length≤1000000→
  ∃ f b,ay.l1 lf (i:Nat) a M N O (d.length:Int) d n c (j:Nat) out=some ((f,b,()),())∧b.length=out.length∧Dg G b∧0≤f∧f < G∧lv G b+G ^ (i+d.length)*f=lv G out+G ^ (i+j)*(c+a*lv G (d.drop j))∧∀ q,i+d.length≤q→b[q]? = out[q]? := by
 intro k
 induction k with
 | zero =>
  intro n j c out E F c0 c1 h t r;obtain⟨m,rfl⟩:=zv (show n≠0 from ω);refine⟨c,out,?_,rfl,h,c0,c1,?_,fun q _=>rfl⟩
  ·rw[ay.l1,ay.r1,gO ω,fe]
  ·rw[vt ω,show j=d.length by omega];simp[lv]
 | succ k J =>
  intro n j c out E F c0 c1 h t r;obtain⟨m,rfl⟩:=zv (show n≠0 from ω);have e:j < d.length:=ω;have g:i+j < out.length:=ω;have v:=I.at j e;have o0:=h.at (i+j) g;have Q:=aak D.1 (show a < G from ω) v.1 (show d[j] < G from ω);have l:c < G:=ω;have o:out[i+j] < G:=ω;have w:=c0;simp only[G]at l o;have e1:i64.wrap (((i:Nat):Int)+((j:Nat):Int))=((i+j:Nat):Int):=by rw[w64 ω ω];omega
  have e2:i64.wrap (a*d[j])=a*d[j]:=w64 ω ω;have A:i64.wrap (out[i+j]+a*d[j])=out[i+j]+a*d[j]:=w64 ω ω;have B:i64.wrap (c+(out[i+j]+a*d[j]))=c+(out[i+j]+a*d[j]):=w64 ω ω;have C:i64.wrap (((j:Nat):Int)+1)=((j+1:Nat):Int):=by rw[w64 ω ω];omega
  obtain⟨s,u⟩:∃ s,s=c+(out[i+j]+a*d[j]):=⟨_,rfl⟩
  have p:0≤s:=ω;have x:=tO s (show G≠0 from δ);have y:=tP s (show 0 < G from δ);have z:=sI s G;have K:0≤s / G:=vR p δ;have L:s / G < G:=by
   apply pS δ;have P:a*d[j]≤(G-1)*(G-1):=sL ω ω v.1 δ
   try simp only[G]at *
   omega
  obtain⟨f,b,r1,r2,r3,r4,r5,r6,r7⟩:=J m (j+1) (s / G) (out.set (i+j) (s % G)) ω ω K L (tJ h _ ⟨x,y⟩) (by rw[yq];exact t) (by rw[yq];exact r);refine⟨f,b,?_,by rw[r2,yq],r3,r4,r5,?_,fun q H=>?_⟩
  ·rw[ay.l1,ay.r1,gP ω,ff];rw[fV _ _ e,fa,zP e,fa,e1,fV _ _ g,fa,zP g,fa,e2,A,B,←u,uT p δ,fa,rW p δ ω,fa,fa,pK _ _ _ g,fa,C];exact r1
  ·rw[r6,sJ G out (i+j) _ g,vr e,lv,←xo,wy,nt,ring_step _ _ s out[i+j] c a d[j] _ _ _ z u]
  ·rw[r7 q H,vq ω]
def ajT(lf:Nat)  (xs b:List Int)(w:Dg G xs)(x:Dg G b)(h3:200000≤lf)(u:b.length≤100000): ∀ (k n i:Nat) (out:List Int),i+k=xs.length→k < n→Dg G out→out.length=xs.length+b.length→out.length≤1000000→(∀ q,i+b.length≤q→q < out.length→out[q]? = some 0)→
  ∃ a,ay.l0 lf xs (xs.length:Int) b n (i:Nat) out=some ((a,()),())∧a.length=out.length∧Dg G a∧lv G a=lv G out+G ^ i*(lv G (xs.drop i)*lv G b):=by
 intro k
 induction k with
 | zero =>
  intro n i out t v h p g j;obtain⟨m,rfl⟩:=zv (show n≠0 from ω);refine⟨out,?_,rfl,h,?_⟩
  ·rw[ay.l0,ay.r0,gO ω,fe]
  ·rw[vt ω];simp[lv]
 | succ k y =>
  intro n i out t v h p g j;obtain⟨m,rfl⟩:=zv (show n≠0 from ω);have c:i < xs.length:=ω;have z:=w.at i c;obtain⟨r,a,r1,r2,r3,r4,r5,r6,r7⟩:=ajU lf xs (xs.length:Int) (i:Nat) xs[i] i b z x b.length (lf+40) 0 0 out ω ω δ δ h ω g;rw[show((0:Nat):Int)=0 from rfl]at r1;have e:i+b.length < a.length:=by rw[r2];omega
  have l:a[i+b.length]=0:=by
   have f:=r7 (i+b.length) (za _);rw[j (i+b.length) (za _) ω,zP e]at f;exact y8.inj f
  have e1:i64.wrap (((i:Nat):Int)+(b.length:Int))=((i+b.length:Nat):Int):=by rw[w64 ω ω];omega
  have s:i64.wrap (((i:Nat):Int)+1)=((i+1:Nat):Int):=by rw[w64 ω ω];omega
  obtain⟨d,t1,t2,t3,t4⟩:=y m (i+1) (a.set (i+b.length) r) ω ω (tJ r3 _ ⟨r4,r5⟩) (by rw[yq,r2];exact p) (by rw[yq,r2];exact g) (fun q f o=>by
   rw[yq,r2]at o;rw[vq ω,r7 q ω];exact j q ω o)
  refine⟨d,?_,by rw[t2,yq,r2],t3,?_⟩
  ·rw[ay.l0,ay.r0,gP ω,ff];rw[iE _ _ c,fa,r1,fa,e1,fV _ _ e,fa,pK _ _ _ e,fa,s];exact t1
  ·rw[t4,sJ G a (i+b.length) _ e,l,vr c,lv];simp only[xD,rI]at r6;rw[wy]
   grind
def ajW(lf:Nat)(N:List Int)(O P:Int)(Q r:List Int)(a:Int)(i:Nat)(d:List Int)(E:0≤a∧a < G)(J:Dg G d):∀ (k n j:Nat) (c:Int) (out:List Int),j+k=d.length→k < n→0≤c→c < G→Dg G out→i+d.length≤out.length→out.length≤1000000→
  ∃ f b,ay.l5 lf (i:Nat) a N O P (d.length:Int) d Q r n c (j:Nat) out=some ((f,b,()),())∧b.length=out.length∧Dg G b∧0≤f∧f < G∧lv G b+G ^ (i+d.length)*f=lv G out+G ^ (i+j)*(c+a*lv G (d.drop j))∧∀ q,i+d.length≤q→b[q]? = out[q]? := by
 intro k
 induction k with
 | zero =>
  intro n j c out F H c0 c1 h u t;obtain⟨m,rfl⟩:=zv (show n≠0 from ω);refine⟨c,out,?_,rfl,h,c0,c1,?_,fun q _=>rfl⟩
  ·rw[ay.l5,ay.r5,gO ω,fe]
  ·rw[vt ω,show j=d.length by omega];simp[lv]
 | succ k K =>
  intro n j c out F H c0 c1 h u t;obtain⟨m,rfl⟩:=zv (show n≠0 from ω);have e:j < d.length:=ω;have g:i+j < out.length:=ω;have w:=J.at j e;have o0:=h.at (i+j) g;have S:=aak E.1 (show a < G from ω) w.1 (show d[j] < G from ω);have l:c < G:=ω;have o:out[i+j] < G:=ω;have x:=c0;simp only[G]at l o;have e1:i64.wrap (((i:Nat):Int)+((j:Nat):Int))=((i+j:Nat):Int):=by rw[w64 ω ω];omega
  have e2:i64.wrap (a*d[j])=a*d[j]:=w64 ω ω;have B:i64.wrap (out[i+j]+a*d[j])=out[i+j]+a*d[j]:=w64 ω ω;have C:i64.wrap (c+(out[i+j]+a*d[j]))=c+(out[i+j]+a*d[j]):=w64 ω ω;have D:i64.wrap (((j:Nat):Int)+1)=((j+1:Nat):Int):=by rw[w64 ω ω];omega
  obtain⟨s,v⟩:∃ s,s=c+(out[i+j]+a*d[j]):=⟨_,rfl⟩
  have p:0≤s:=ω;have y:=tO s (show G≠0 from δ);have z:=tP s (show 0 < G from δ);have A:=sI s G;have L:0≤s / G:=vR p δ;have M:s / G < G:=by
   apply pS δ;have R:a*d[j]≤(G-1)*(G-1):=sL ω ω w.1 δ
   try simp only[G]at *
   omega
  obtain⟨f,b,r1,r2,r3,r4,r5,r6,r7⟩:=K m (j+1) (s / G) (out.set (i+j) (s % G)) ω ω L M (tJ h _ ⟨y,z⟩) (by rw[yq];exact u) (by rw[yq];exact t);refine⟨f,b,?_,by rw[r2,yq],r3,r4,r5,?_,fun q I=>?_⟩
  ·rw[ay.l5,ay.r5,gP ω,ff];rw[fV _ _ e,fa,zP e,fa,e1,fV _ _ g,fa,zP g,fa,e2,B,C,←v,uT p δ,fa,rW p δ ω,fa,fa,pK _ _ _ g,fa,D];exact r1
  ·rw[r6,sJ G out (i+j) _ g,vr e,lv,←xo,wy,nt,ring_step _ _ s out[i+j] c a d[j] _ _ _ A v]
  ·rw[r7 q I,vq ω]
def ajV(lf:Nat)(r s:List Int)  (xs b:List Int)(y:Dg G xs)(z:Dg G b)(h3:200000≤lf)(w:b.length≤100000): ∀ (k n i:Nat) (out:List Int),i+k=xs.length→k < n→Dg G out→out.length=xs.length+b.length→out.length≤1000000→(∀ q,i+b.length≤q→q < out.length→out[q]? = some 0)→
  ∃ a,ay.l4 lf xs (xs.length:Int) b r s n (i:Nat) out=some ((a,()),())∧a.length=out.length∧Dg G a∧lv G a=lv G out+G ^ i*(lv G (xs.drop i)*lv G b):=by
 intro k
 induction k with
 | zero =>
  intro n i out v x h p g j;obtain⟨m,rfl⟩:=zv (show n≠0 from ω);refine⟨out,?_,rfl,h,?_⟩
  ·rw[ay.l4,ay.r4,gO ω,fe]
  ·rw[vt ω];simp[lv]
 | succ k A =>
  intro n i out v x h p g j;obtain⟨m,rfl⟩:=zv (show n≠0 from ω);have c:i < xs.length:=ω;have B:=y.at i c;obtain⟨t,a,r1,r2,r3,r4,r5,r6,r7⟩:=ajW lf xs (xs.length:Int) (i:Nat) r s xs[i] i b B z b.length (lf+40) 0 0 out ω ω δ δ h ω g;rw[show((0:Nat):Int)=0 from rfl]at r1;have e:i+b.length < a.length:=by rw[r2];omega
  have l:a[i+b.length]=0:=by
   have f:=r7 (i+b.length) (za _);rw[j (i+b.length) (za _) ω,zP e]at f;exact y8.inj f
  have e1:i64.wrap (((i:Nat):Int)+(b.length:Int))=((i+b.length:Nat):Int):=by rw[w64 ω ω];omega
  have u:i64.wrap (((i:Nat):Int)+1)=((i+1:Nat):Int):=by rw[w64 ω ω];omega
  obtain⟨d,t1,t2,t3,t4⟩:=A m (i+1) (a.set (i+b.length) t) ω ω (tJ r3 _ ⟨r4,r5⟩) (by rw[yq,r2];exact p) (by rw[yq,r2];exact g) (fun q f o=>by
   rw[yq,r2]at o;rw[vq ω,r7 q ω];exact j q ω o)
  refine⟨d,?_,by rw[t2,yq,r2],t3,?_⟩
  ·rw[ay.l4,ay.r4,gP ω,ff];rw[iE _ _ c,fa,r1,fa,e1,fV _ _ e,fa,pK _ _ _ e,fa,u];exact t1
  ·rw[t4,sJ G a (i+b.length) _ e,l,vr c,lv];simp only[xD,rI]at r6;rw[wy]
   grind
def afo(l:List Int):l.take (tr l).length=tr l:=by
 refine abr (p:=fun l=>l.take (tr l).length=tr l) l rfl (fun l h=>?_) fun l x h=>?_
 ·rw[sW,List.take_append_of_le_length (nS l),h]
 ·rw[vS _ _ h,pB]
def aaE(n:Nat)(h:Int)(k:Nat)(e:h=k)(a:k≤n):cutB n none (some h)=some (0,k):=by
 subst e;unfold cutB Rx.bnd;simp only[vm];rw[gT ⟨ω,ω⟩];simp
def agc(n:Nat)(i j:Int)(a b:Nat)(c:i=a)(d:j=b)(e:a≤b)(f:b≤n):cutB n (some i) (some j)=some (a,b-a):=by
 subst c;subst d;unfold cutB Rx.bnd;simp only[vm];rw[gT ⟨ω,ω⟩];simp only[wT];rw[gT ⟨ω,ω⟩];simp
def aj2(lf:Nat)(b:List Int)(l:List Int)(g:l.length≤1000000):∀ (k n:Nat),k≤l.length→k < n→ay.l3 lf b l n k=some (((tr (l.take k)).length,b,l,()),()):=by
 intro k
 induction k with
 | zero =>
  intro n c d;obtain⟨m,rfl⟩:=zv (show n≠0 from ω);rw[ay.l3,ay.r3,gO ω,fe];simp[acV]
 | succ k f =>
  intro n c d;obtain⟨m,rfl⟩:=zv (show n≠0 from ω);have a:k < l.length:=ω;have e:i64.wrap (((k+1:Nat):Int)-1)=((k:Nat):Int):=by rw[w64 ω ω];omega
  rw[ay.l3,ay.r3,gP ω,ff,e,fV _ _ ω,fa,wm,zP a,fa,←pg a];by_cases h:l[k]=0
  ·rw[beq_iff_eq.2 h,ff,aaE _ _ k rfl ω,fa,h,sW];exact f m ω ω
  ·rw[beq_eq_false_iff_ne.2 h,fe,vS _ _ h,pg a,xV,ut ω]
def aj1(lf:Nat)(a:List Int)(l:List Int)(c:l.length≤1000000)(n:Nat)(f:l.length+1 < n):
  (l.getLast?≠some 0∧ay.l2 lf a l n=some (true,(a,l,()),((0,[],[],()),())))∨
  (l.getLast? = some 0∧ay.l2 lf a l n=some (false,([],[],()),(((tr l).length,a,l,()),()))):=by
 obtain⟨m,rfl⟩:=zv (show n≠0 from ω);rw[ay.l2,ay.r2];by_cases b:l=[]
 ·subst b;left;refine⟨ψ,?_⟩;rw[gO ψ,fe]
 have d:0 < l.length:=vj.2 b;have e:i64.wrap ((l.length:Int)-1)=((l.length-1:Nat):Int):=by rw[w64 ω ω];omega
 rw[gP ω,ff,e,fV _ _ ω,fa,zP ω,fa,nQ,zP ω];by_cases h:l[l.length-1]'ω=0
 ·right;refine⟨by rw[h],?_⟩;rw[beq_iff_eq.2 h,ff,aaE _ _ (l.length-1) rfl ω,fa,aj2 lf a l c (l.length-1) m ω ω,fa];have:tr l=tr (l.take (l.length-1)):=by
   conv=>lhs;rw[←jn (l.length-1) l,vr ω,h,vt ω]
   rw[sW]
  rw[this]
 ·left;refine⟨by intro x;exact h (y8.inj x),?_⟩;rw[beq_eq_false_iff_ne.2 h,fe]
def aj6(lf:Nat)(b c d:List Int)(l:List Int)(j:l.length≤1000000):∀ (k n:Nat),k≤l.length→k < n→ay.l7 lf b c d l n k=some (((tr (l.take k)).length,b,c,d,l,()),()):=by
 intro k
 induction k with
 | zero =>
  intro n f g;obtain⟨m,rfl⟩:=zv (show n≠0 from ω);rw[ay.l7,ay.r7,gO ω,fe];simp[acV]
 | succ k i =>
  intro n f g;obtain⟨m,rfl⟩:=zv (show n≠0 from ω);have a:k < l.length:=ω;have e:i64.wrap (((k+1:Nat):Int)-1)=((k:Nat):Int):=by rw[w64 ω ω];omega
  rw[ay.l7,ay.r7,gP ω,ff,e,fV _ _ ω,fa,wm,zP a,fa,←pg a];by_cases h:l[k]=0
  ·rw[beq_iff_eq.2 h,ff,aaE _ _ k rfl ω,fa,h,sW];exact i m ω ω
  ·rw[beq_eq_false_iff_ne.2 h,fe,vS _ _ h,pg a,xV,ut ω]
def aj3(lf:Nat)(a b c:List Int)(l:List Int)(f:l.length≤1000000)(n:Nat)(i:l.length+1 < n):
  (l.getLast?≠some 0∧ay.l6 lf a b c l n=some (true,(a,b,c,l,()),((0,[],[],[],[],()),())))∨
  (l.getLast? = some 0∧ay.l6 lf a b c l n=some (false,([],[],[],[],()),(((tr l).length,a,b,c,l,()),()))):=by
 obtain⟨m,rfl⟩:=zv (show n≠0 from ω);rw[ay.l6,ay.r6];by_cases d:l=[]
 ·subst d;left;refine⟨ψ,?_⟩;rw[gO ψ,fe]
 have g:0 < l.length:=vj.2 d;have e:i64.wrap ((l.length:Int)-1)=((l.length-1:Nat):Int):=by rw[w64 ω ω];omega
 rw[gP ω,ff,e,fV _ _ ω,fa,zP ω,fa,nQ,zP ω];by_cases h:l[l.length-1]'ω=0
 ·right;refine⟨by rw[h],?_⟩;rw[beq_iff_eq.2 h,ff,aaE _ _ (l.length-1) rfl ω,fa,aj6 lf a b c l f (l.length-1) m ω ω,fa];have:tr l=tr (l.take (l.length-1)):=by
   conv=>lhs;rw[←jn (l.length-1) l,vr ω,h,vt ω]
   rw[sW]
  rw[this]
 ·left;refine⟨by intro x;exact h (y8.inj x),?_⟩;rw[beq_eq_false_iff_ne.2 h,fe]
def adi{B P a b V0 c d q t:Int}(f:0 < P)(g:0≤V0)(k:d < P)(i:0≤q)(h:q*b >(t-q*a)*B+c):(t*B+c)*P+d < q*((a*B+b)*P+V0):=by
 have e:t*B+c+1≤q*(a*B+b):=by
  have:q*(a*B+b)=q*b-(t-q*a)*B+t*B:=by grind
  omega
 have j:=wA e (zR f);have h3:=yf i g;have e1:(t*B+c+1)*P=(t*B+c)*P+P:=by grind
 have e2:q*((a*B+b)*P+V0)=q*(a*B+b)*P+q*V0:=by grind
 omega
def afz{B P c v2 d f e t:Int}(i:0 < B)(j:0 < P)(m:0 < c)(g:0≤v2)(k:0≤d)(l:e < P)(o:f < B)(q:Int)(n:0≤q)(h:t < (q+1)*c):(t*B+f)*P+e < (q+1)*((c*B+v2)*P+d):=by
 refine adi j k l ω ?_;have a:(t-(q+1)*c)*B≤(-1)*B:=wA ω (zR i);have b:0≤(q+1)*v2:=yf ω g;omega
def afA{B P b a V0 w2 W0 q t:Int}(c:0 < P)(d:0 < B)(j:1≤b)(e:0≤a)(k:a < B)(f:0≤V0)(g:V0 < P)(n:0≤W0)(l:0≤w2)(o:0≤q)(i:q < B)(h:t-q*b≥B∨q*a≤(t-q*b)*B+w2):(q-1)*((b*B+a)*P+V0)≤(t*B+w2)*P+W0:=by
 have c1:q*V0≤B*P:=sL ω ω f ω;have c2:B*P≤b*(B*P):=by
  have:=wA j (zR (nW d c));omega
 have c3:0≤a*P:=yf e (zR c);have key:q*((b*B+a)*P)≤(t*B+w2)*P+W0-q*V0+B*P:=by
  rcases h with h | h
  ·have a1:B*(B*P)≤(t-q*b)*(B*P):=wA h (zR (nW d c));have a2:0≤w2*P:=yf l (zR c);have m:q*(a*P+V0)≤B*(B*P):=by
    have b1:a*P≤(B-1)*P:=wA ω (zR c);have b2:(B-1)*P=B*P-P:=by grind
    exact sL ω ω ω ω
   have e1:q*((b*B+a)*P)=t*(B*P)-(t-q*b)*(B*P)+q*(a*P+V0)-q*V0:=by grind
   have e2:(t*B+w2)*P=t*(B*P)+w2*P:=by grind
   have:0 < B*P:=nW d c;omega
  ·have a1:q*(b*B+a)≤t*B+w2:=by
    have:q*(b*B+a)=q*a-(t-q*b)*B+t*B:=by grind
    omega
   have a2:=wA a1 (zR c);have:q*(b*B+a)*P=q*((b*B+a)*P):=by grind
   omega
 have e1:(q-1)*((b*B+a)*P+V0)=q*((b*B+a)*P)+q*V0-b*(B*P)-a*P-V0:=by grind
 omega
def aje(lf t m:Nat)(sc h u out:List Int)(n:Nat)(H:2≤n)(I:n≤1000000)(J:n≤h.length)(L:n+1=m)(N:t+m≤u.length)(i:Dg G h)(w:Dg G u)
  (b v1 v2 w2:Int) (l:v1=h[n-1]'ω) (o:v2=h[n-2]'ω) (p:w2=u[t+(n-2)]'ω) (M:1≤v1) :
  ∀ (k f:Nat) (q r:Int),G-r≤k→k < f→0≤q→q < G→0≤r→r≤3000000000→r=b-q*v1→
  ∃ a,ay.l15 lf t m n ((n:Nat):Int) sc h u out f q r=some ((a,()),())∧0≤a∧a < G∧a≤q∧(b-a*v1≥G∨a*v2≤(b-a*v1)*G+w2)∧
   (a=q∨(a+1)*v2 >(b-(a+1)*v1)*G+w2):=by
 have b1:=i.at (n-1) ω;have b2:=i.at (n-2) ω;have x:=w.at (t+(n-2)) ω;rw[←l]at b1;rw[←o]at b2;rw[←p]at x;simp only[G]at b1 b2 x;have e1:i64.wrap (((n:Nat):Int)-2)=((n-2:Nat):Int):=by rw[w64 ω ω];omega
 have e2:i64.wrap (((n:Nat):Int)-1)=((n-1:Nat):Int):=by rw[w64 ω ω];omega
 have d:∀ (f:Nat) (q r:Int),0 < f→¬r < 1000000000→ay.l15 lf t m n ((n:Nat):Int) sc h u out f q r=some ((q,()),()):=by
  intro f q r y c;obtain⟨g,rfl⟩:=zv (show f≠0 from ω);rw[ay.l15,ay.r15,gO c,fe]
 intro k
 induction k with
 | zero =>
  intro f q r A y s e r0 r1 c;simp only[G]at A;exact⟨q,d f q r ω ω,s,e,ω,Or.inl (by rw[←c];simp only[G];omega),Or.inl rfl⟩
 | succ k K =>
  intro f q r A y s e r0 r1 c;by_cases j:r < 1000000000
  ·obtain⟨g,rfl⟩:=zv (show f≠0 from ω);have m1:=aak s e b2.1 b2.2;have B:i64.wrap (q*v2)=q*v2:=w64 ω ω;have C:i64.wrap (r*1000000000)=r*1000000000:=w64 ω ω;have D:i64.wrap (r*1000000000+w2)=r*1000000000+w2:=w64 ω ω;rw[ay.l15,ay.r15,gP j,ff,e1,fV _ _ ω,fa,wm,zP ω,fa,fV _ _ ω,fa,zP ω,fa,←o,←p,B,C,D];by_cases v:q*v2 > r*1000000000+w2
   ·have O:1≤q:=by
     by_cases z:q=0
     ·subst z;omega
     ·omega
    have E:i64.wrap (q-1)=q-1:=w64 (by simp only[G]at e;omega) (by simp only[G]at e;omega);have F:i64.wrap (r+v1)=r+v1:=w64 ω ω;rw[gP v,ff,e2,fV _ _ ω,fa,wm,zP ω,fa,←l,E,F];obtain⟨a,t1,t2,t3,t4,t5,t6⟩:=K g (q-1) (r+v1) ω ω ω ω ω ω (by rw[c];grind);refine⟨a,t1,t2,t3,ω,t5,Or.inr ?_⟩;rcases t6 with rfl | t6
    ·rw[Int.sub_add_cancel,←c];exact v
    ·exact t6
   ·rw[gO v,fe];exact⟨q,rfl,s,e,ω,Or.inr (by rw[←c];simp only[G];omega),Or.inl rfl⟩
  ·exact⟨q,d f q r ω j,s,e,ω,Or.inl (by rw[←c];simp only[G];omega),Or.inl rfl⟩
def ahA(P B s c q y D x e c2 L:Int)(h:e=x-s+B*c2)(a:s=c+q*y):L+P*(e-x)-P*B*(c2+q*D)=L-P*(c+q*(y+B*D)):=by grind
def afY(P B s c y D x r c2 L:Int)(h:r+B*c2=s)(a:s=c+x+y):L+P*(r-x)+P*B*(c2+D)=L+P*(c+(y+B*D)):=by grind
def dropv(a:List Int)(i:Nat):lv G (a.drop i)=a.getD i 0+G*lv G (a.drop (i+1)):=by
 rw[xM,pG,pJ]
def ajf(lf t m:Nat)(q:Int)(sc o out a:List Int)(z:0≤q)(A:q < G)(y:Dg G a)(B:o.take a.length=a)(S:m≤1000000):
  ∀ (k f i:Nat) (c:Int) (u:List Int),i+k=m→k < f→0≤c→c≤G→Dg G u→t+m≤u.length→
  ∃ d b,ay.l16 lf t m a.length q ((m:Nat):Int) sc o out f c (i:Nat) u=some ((d,b,()),())∧b.length=u.length∧Dg G b∧0≤d∧
   lv G b-G ^ (t+m)*(d+q*lv G (a.drop m))=lv G u-G ^ (t+i)*(c+q*lv G (a.drop i))∧∀ p,p < t+i∨t+m≤p→b[p]? = u[p]? := by
 intro k
 induction k with
 | zero =>
  intro f i c u R Q c0 c1 w E;obtain⟨g,rfl⟩:=zv (show f≠0 from ω);obtain rfl:i=m:=ω;refine⟨c,u,?_,rfl,w,c0,rfl,fun p _=>rfl⟩;rw[ay.l16,ay.r16,gO ω,fe]
 | succ k U =>
  intro f i c u R Q c0 c1 w E;obtain⟨g,rfl⟩:=zv (show f≠0 from ω);have v:t+i < u.length:=ω;have V:=w.at (t+i) v;have F:=y.getD δ i;have m1:=aak z A F.1 F.2;simp only[G]at V c1;have I:i64.wrap (((i:Nat):Int)+1)=((i+1:Nat):Int):=by rw[w64 ω ω];omega
  have D:∀ (s e c2:Int),s=c+q*a.getD i 0→e=u[t+i]-s+G*c2→0≤e→e < G→0≤c2→c2≤G→
    ∃ d b,(bd (some i) fun j=>bd (upE u (t+j) fun _=>some e) fun l=>ay.l16 lf t m a.length q ((m:Nat):Int) sc o out g c2 (i64.wrap (((i:Nat):Int)+1)) l)=some ((d,b,()),())∧b.length=u.length∧Dg G b∧0≤d∧
   lv G b-G ^ (t+m)*(d+q*lv G (a.drop m))=lv G u-G ^ (t+i)*(c+q*lv G (a.drop i))∧∀ p,p < t+i∨t+m≤p→b[p]? = u[p]? := by
   intro s e c2 x P g0 M N O;obtain⟨d,b,t1,t2,t3,t4,t5,t6⟩:=U g (i+1) c2 (u.set (t+i) e) ω ω N O (tJ w _ ⟨g0,M⟩) (by rw[yq];exact E);refine⟨d,b,?_,by rw[t2,yq],t3,t4,?_,fun p T=>?_⟩
   ·rw[fa,pK _ _ _ v,fa,I];exact t1
   ·rw[t5,sJ G u (t+i) _ v,dropv a i,←xo,wy];exact ahA _ _ s _ _ _ _ _ _ _ _ P x
   ·rw[t6 p ω,vq ω]
  have fin:∀ s:Int,s=c+q*a.getD i 0→
    ∃ d b,(bd (iRem s 1000000000) fun r=>bd (iQuo .i64 s 1000000000) fun r2=>br (decide ((i64.wrap (u[t+i]-r)) < 0)) (
     bd (some i) fun j=>bd (upE u (t+j) fun _=>some (i64.wrap ((i64.wrap (u[t+i]-r))+1000000000))) fun l=>ay.l16 lf t m a.length q ((m:Nat):Int) sc o out g (i64.wrap (r2+1)) (i64.wrap (((i:Nat):Int)+1)) l) (
     bd (some i) fun j=>bd (upE u (t+j) fun _=>some (i64.wrap (u[t+i]-r))) fun l=>ay.l16 lf t m a.length q ((m:Nat):Int) sc o out g r2 (i64.wrap (((i:Nat):Int)+1)) l))=some ((d,b,()),())∧b.length=u.length∧Dg G b∧0≤d∧
   lv G b-G ^ (t+m)*(d+q*lv G (a.drop m))=lv G u-G ^ (t+i)*(c+q*lv G (a.drop i))∧∀ p,p < t+i∨t+m≤p→b[p]? = u[p]? := by
   intro s x;have C:0≤s:=ω;have W:=tO s (show(1000000000:Int)≠0 by decide);have X:=tP s (show(0:Int) < 1000000000 by decide);have Y:=sI s 1000000000;have Z:0≤s / 1000000000:=vR C δ;have q1:s / 1000000000 < 1000000000:=pS δ ω;have J:i64.wrap (u[t+i]-s % 1000000000)=u[t+i]-s % 1000000000:=w64 ω ω;rw[uT C δ,fa,rW C δ ω,fa,J];by_cases n:u[t+i]-s % 1000000000 < 0
   ·have K:i64.wrap (u[t+i]-s % 1000000000+1000000000)=u[t+i]-s % 1000000000+1000000000:=w64 ω ω;have L:i64.wrap (s / 1000000000+1)=s / 1000000000+1:=w64 ω ω;rw[gP n,ff,K,L];exact D s _ _ x (by simp only[G];omega) ω (by simp only[G];omega) ω (by simp only[G];omega)
   ·rw[gO n,fe];exact D s _ _ x (by simp only[G];omega) ω (by simp only[G];omega) ω (by simp only[G];omega)
  rw[ay.l16,ay.r16,gP ω,ff];by_cases h:i < a.length
  ·have ev:o[i]? = some (a.getD i 0):=by
    rw[getD_lt _ _ h,←zP h]
    conv=>rhs;rw[←B]
    rw[un h]
   have e2:i64.wrap (q*a.getD i 0)=q*a.getD i 0:=w64 ω ω;have H:i64.wrap (c+q*a.getD i 0)=c+q*a.getD i 0:=w64 ω ω;rw[gP ω,ff,fV _ _ h,fa,wm,ev,fa,fV _ _ ω,fa,zP v,fa,e2,H];exact fin _ rfl
  ·rw[gO ω,fe,fV _ _ ω,fa,zP v,fa];exact fin c (by rw[wU _ _ h];omega)
def ajg(lf t m:Nat)(q:Int)(sc o out a:List Int)(v:Dg G a)(w:o.take a.length=a)(H:m≤1000000)(K:a.length≤1000000):
  ∀ (k f i:Nat) (c:Int) (u:List Int),i+k=m→k < f→0≤c→c≤1→Dg G u→t+m≤u.length→
  ∃ e b,ay.l17 lf t m a.length (a.length:Int) q ((m:Nat):Int) sc o out f c (i:Nat) u=some ((b,()),())∧b.length=u.length∧Dg G b∧0≤e∧
   lv G b+G ^ (t+m)*(e+lv G (a.drop m))=lv G u+G ^ (t+i)*(c+lv G (a.drop i))∧∀ p,p < t+i∨t+m≤p→b[p]? = u[p]? := by
 intro k
 induction k with
 | zero =>
  intro f i c u F E c0 c1 h y;obtain⟨g,rfl⟩:=zv (show f≠0 from ω);obtain rfl:i=m:=ω;refine⟨c,u,?_,rfl,h,c0,rfl,fun p _=>rfl⟩;rw[ay.l17,ay.r17,gO ω,fe]
 | succ k L =>
  intro f i c u F E c0 c1 h y;obtain⟨g,rfl⟩:=zv (show f≠0 from ω);have n:t+i < u.length:=ω;have N:=h.at (t+i) n;have O:=v.getD δ i;simp only[G]at N O;have D:i64.wrap (((i:Nat):Int)+1)=((i+1:Nat):Int):=by rw[w64 ω ω];omega
  have fin:∀ s:Int,s=c+u[t+i]+a.getD i 0→
    ∃ e b,(bd (iRem s 1000000000) fun r=>bd (iQuo .i64 s 1000000000) fun r2 =>
     bd (some i) fun j=>bd (upE u (t+j) fun _=>some r) fun l=>ay.l17 lf t m a.length (a.length:Int) q ((m:Nat):Int) sc o out g r2 (i64.wrap (((i:Nat):Int)+1)) l)=some ((b,()),())∧b.length=u.length∧Dg G b∧0≤e∧
   lv G b+G ^ (t+m)*(e+lv G (a.drop m))=lv G u+G ^ (t+i)*(c+lv G (a.drop i))∧∀ p,p < t+i∨t+m≤p→b[p]? = u[p]? := by
   intro s J;have x:0≤s:=ω;have z:=tO s (show G≠0 from δ);have A:=tP s (show 0 < G from δ);have B:=sI s G;have M:0≤s / G:=vR x δ;obtain⟨e,b,t1,t2,t3,t4,t5,t6⟩:=L g (i+1) (s / G) (u.set (t+i) (s % G)) ω ω M (by simp only[G];omega) (tJ h _ ⟨z,A⟩) (by rw[yq];exact y);refine⟨e,b,?_,by rw[t2,yq],t3,t4,?_,fun p I=>?_⟩
   ·rw[uT x δ,fa,rW x δ ω,fa,fa,pK _ _ _ n,fa,D];exact t1
   ·rw[t5,sJ G u (t+i) _ n,dropv a i,←xo,wy];exact afY _ _ s _ _ _ _ _ _ _ B J
   ·rw[t6 p ω,vq ω]
  have e2:i64.wrap (c+u[t+i])=c+u[t+i]:=w64 ω ω;rw[ay.l17,ay.r17,gP ω,ff,fV _ _ ω,fa,zP n,fa,e2];by_cases d:i < a.length
  ·have ev:o[i]? = some (a.getD i 0):=by
    rw[getD_lt _ _ d,←zP d]
    conv=>rhs;rw[←w]
    rw[un d]
   have C:i64.wrap (c+u[t+i]+a.getD i 0)=c+u[t+i]+a.getD i 0:=w64 ω ω;rw[gP ω,ff,fV _ _ d,fa,wm,ev,fa,C];exact fin _ rfl
  ·rw[gO ω,fe];exact fin _ (by rw[wU _ _ d];omega)
def take_same{u b:List Int}{j:Nat}(c:b.length=u.length)(h:∀ p,p < j→b[p]? = u[p]?):b.take j=u.take j:=by
 apply vE;intro p;by_cases a:p < j
 ·rw[un a,un a,h p a]
 ·rw[gw ω,gw ω]
def afx{u a:List Int}{j:Nat}(h:∀ p,j≤p→a[p]? = u[p]?):a.drop j=u.drop j:=by
 apply vE;intro p;rw[ue,ue,h _ ω]
def win{u a:List Int}{j m:Nat}(i:a.length=u.length)(g:Dg G a)(k:j+m≤u.length)(d:lv G (u.drop (j+m))=0)(h:∀ p,p < j∨j+m≤p→a[p]? = u[p]?):
  lv G a-lv G u=G ^ j*(lv G (a.drop j)-lv G (u.drop j))∧lv G (a.drop j) < G ^ m∧lv G (a.drop (j+m))=0:=by
 have a1:=qZ G u j ω;have a2:=qZ G a j ω;rw[take_same i (fun p b=>h p (Or.inl b))]at a2;have c:=afx (j:=j+m) (fun p b=>h p (Or.inr b));have e:=qZ G (a.drop j) m (by rw[vu];omega);rw[m5,c,d]at e;have f:=rH (B:=G) δ ((g.drop j).take m);rw[xV,vu,ut ω]at f;refine⟨by grind,ω,by rw[c,d]⟩
def acB{l:List Int}(n:Nat)(d:Dg G l)(e:n≤l.length)(h:lv G l < G ^ n):lv G (l.drop n)=0:=by
 have a:=qZ G l n e;have b:=dw (B:=G) δ (d.take n);have c:=dw (B:=G) δ (d.drop n);by_cases z:lv G (l.drop n)=0
 ·exact z
 ·have:=xF (show 1≤lv G (l.drop n) by omega) (zR (mX (B:=G) δ n));omega
def top2{l:List Int}(n:Nat)(b:2≤n)(c:l.length=n):lv G l=(l[n-1]*G+l[n-2])*G ^ (n-2)+lv G (l.take (n-2)):=by
 have a:=qZ G l (n-2) ω;rw[uJ G l (n-2) ω,show n-2+1=n-1 by omega,uJ G l (n-1) ω,vt ω]at a;simp only[lv]at a
 grind
def top3{u:List Int}(j n:Nat)(c:2≤n)(d:j+n+1≤u.length)(b:lv G (u.drop (j+n+1))=0):
  lv G (u.drop j)=((u[j+n]*G+u[j+(n-1)])*G+u[j+(n-2)])*G ^ (n-2)+lv G ((u.drop j).take (n-2)):=by
 have a:=qZ G (u.drop j) (n-2) (by rw[vu];omega);rw[m5,uJ G u (j+(n-2)) ω,show j+(n-2)+1=j+(n-1) by omega,uJ G u (j+(n-1)) ω,show j+(n-1)+1=j+n by omega,uJ G u (j+n) ω,b]at a
 grind
def ac3{M a b d:Int}(c:0 < M)(h:a+M*d=b)(e:0≤a)(a1:a < M)(f:0≤b)(b1:b < M):d=0∧a=b:=by
 have:d=0:=by
  rcases jp d 0 with z | z | z
  ·have:=xF (show d≤-1 from ω) (zR c);omega
  ·exact z
  ·have:=xF (show 1≤d from ω) (zR c);omega
 subst this;exact⟨rfl,ω⟩
def adT(J M A b W a Q c:Int)(f:0 < J)(d:b-J*M*c=A-J*Q)(e:b-A=J*(a-W)):a=W-Q+M*c:=by
 have:J*a=J*(W-Q+M*c):=by grind
 exact gA ω this
def adS(J M A d a b V c:Int)(g:0 < J)(e:d+J*M*c=A+J*V)(f:d-A=J*(b-a)):b=a+V-M*c:=by
 have:J*b=J*(a+V-M*c):=by grind
 exact gA ω this
def ag0(J A W a Q:Int):A+(J*(W-Q-a)+J*(a-W))=A-J*Q:=by grind
def agd{ρ:Type}(lf j:Nat)(sc k ys u out:List Int)(hlf:2000000000≤lf)(hn2:2≤ys.length)(g:Dg G ys)(U:Tr ys)(C:Dg G k)(E:k.take ys.length=ys)(hvl:ys.length≤k.length)(f:Dg G u)(hjl:j+ys.length+1≤u.length)(hub:u.length≤500000)(T:j < out.length)
  (hinv:lv G (u.drop (j+1)) < lv G ys) (K:Int→List Int→List Int→Option ρ) (E0:List Int→List Int→Option ρ) :
  ∃ X q,ay.r14 lf ys.length (ys.length:Int) sc k ((j:Nat):Int) u out K E0=K (((j:Nat):Int)-1) X (out.set j q)∧X.length=u.length∧Dg G X∧0≤q∧q < G∧
   lv G X=lv G u-G ^ j*(q*lv G ys)∧lv G (X.drop j) < lv G ys:=by
 obtain⟨n,N⟩:∃ n,n=ys.length:=⟨_,rfl⟩
 obtain⟨V,s⟩:∃ V,V=lv G ys:=⟨_,rfl⟩
 obtain⟨W,hW⟩:∃ W,W=lv G (u.drop j):=⟨_,rfl⟩
 have hV1:V < G ^ n:=by rw[s,N];exact rH δ g
 have hV0:0 < V:=by rw[s];exact vF δ g U (by intro e;subst e;simp at hn2)
 have hz:lv G (u.drop (j+n+1))=0:=by
  have:=acB (l:=u.drop (j+1)) n (f.drop _) (by rw[vu];omega) ω;rw[m5]at this;rw[show j+n+1=j+1+n by omega];exact this
 have hW0:0≤W:=by rw[hW];exact dw δ (f.drop j)
 have hWB:W < G*V:=by
  have a:=uJ G u j ω;have b:=f.at j ω;have c:=xF (show lv G (u.drop (j+1))+1≤V by omega) (show 0≤G from δ);rw[vL]at c;omega
 have F:∀ i (h:i < n),k[i]'ω=ys[i]'ω:=by
  intro i h;have:k[i]? = ys[i]? := by
   conv=>rhs;rw[←E]
   rw[un ω]
  rw[zP ω,zP ω]at this;exact y8.inj this
 have b1:=C.at (n-1) ω;have b2:=C.at (n-2) ω;have u0:=f.at (j+n) ω;have u1:=f.at (j+(n-1)) ω;have u2:=f.at (j+(n-2)) ω;have L:=top2 (l:=ys) n ω N.symm;have M:=top3 (u:=u) j n ω ω hz;have x:=dw (B:=G) δ (g.take (n-2));have O:=rH (B:=G) δ (g.take (n-2));have W00:=dw (B:=G) δ ((f.drop j).take (n-2));have y:=rH (B:=G) δ ((f.drop j).take (n-2));rw[xV,ut ω]at O;rw[xV,vu,ut ω]at y;have S:0 < G ^ (n-2):=mX δ _;have D:1≤k[n-1]'ω:=by
  rw[F (n-1) ω];have c:=g.at (n-1) ω;have:ys[n-1]'ω≠0:=by
   intro e;apply U;rw[nQ,zP ω];simp only[←N,e]
  omega
 rw[←s,←F (n-1) ω,←F (n-2) ω]at L;rw[←hW]at M;obtain⟨v1,r⟩:∃ v1,v1=k[n-1]'ω:=⟨_,rfl⟩
 obtain⟨I,Q⟩:∃ I,I=k[n-2]'ω:=⟨_,rfl⟩
 obtain⟨w2,R⟩:∃ w2,w2=u[j+(n-2)]'ω:=⟨_,rfl⟩
 obtain⟨top,w⟩:∃ top,top=u[j+n]'ω*1000000000+u[j+(n-1)]'ω:=⟨_,rfl⟩
 rw[←r]at L b1 D;rw[←Q]at L b2;rw[←R]at M u2;rw[show u[j+n]'ω*G+u[j+(n-1)]'ω=top from w.symm]at M;simp only[G]at b1 b2 u0 u1 u2;have t0:0≤top:=ω;have t1:top < 1000000000000000000:=ω;obtain⟨q0,d⟩:∃ q0,q0=if 999999999 < top / v1 then 999999999 else top / v1:=⟨_,rfl⟩
 have d0:0≤top / v1:=vR t0 ω;have dd:=sI top v1;have dm0:=tO top (show v1≠0 from ω);have dm1:=tP top (show 0 < v1 from ω);have H:0≤q0:=by rw[d];split<;>omega
 have q01:q0 < G:=by rw[d];simp only[G];split<;>omega
 have qv:q0*v1≤v1*(top / v1):=by
  rw[wk v1];exact wA (by rw[d];split<;>omega) ω
 have qn:=yf H (show 0≤v1 from ω);have hov:W < (q0+1)*V:=by
  by_cases c:999999999 < top / v1
  ·rw[gT c]at d;rw[d];exact hWB
  ·rw[gR c]at d;rw[M,L];refine afz δ S ω ω x y (by simp only[G];omega) q0 H ?_;rw[d,m6,wk (top / v1)];omega
 have rb:top-q0*v1≤3000000000:=by
  by_cases c:999999999 < top / v1
  ·have hov2:top≤v1*1000000000+999999999:=by
    have a:u[j+n]'ω≤v1:=by
     by_cases z:u[j+n]'ω≤v1
     ·exact z
     ·exfalso;have z1:(v1+1)*G≤top:=by simp only[G];omega
      have z2:((v1+1)*G*G)*G ^ (n-2)≤W:=by
       have y1:=wA z1 (show 0≤G from δ);have y2:(v1+1)*G*G≤top*G+w2:=ω;have:=wA y2 (zR S);omega
      have z3:G*V≤((v1+1)*G*G)*G ^ (n-2):=by
       have x1:(v1*G+I)*G ^ (n-2)+lv G (ys.take (n-2))≤(v1*G+I+1)*G ^ (n-2):=by
        rw[m6 (v1*G+I) 1];omega
       have x2:(v1*G+I+1)*G ^ (n-2)≤((v1+1)*G)*G ^ (n-2):=wA (by simp only[G];omega) (zR S);have x3:=xF (show V≤((v1+1)*G)*G ^ (n-2) by omega) (show 0≤G from δ);have x4:G*(((v1+1)*G)*G ^ (n-2))=((v1+1)*G*G)*G ^ (n-2):=by grind
       omega
      omega
    omega
   rw[gT c]at d;rw[d];omega
  ·rw[gR c]at d;rw[d,wk (top / v1)];omega
 have r0:0≤top-q0*v1:=ω;obtain⟨q,k1,k2,Z,k4,k5,k6⟩:=aje lf j (n+1) sc k u out n ω ω ω rfl ω C f top v1 I w2 r Q R D 1000000000 (lf+40) q0 (top-q0*v1) (by simp only[G];omega) ω H q01 r0 rb rfl;have lo:(q-1)*V≤W:=by
  rw[M,L];exact afA S δ D b2.1 (by simp only[G];omega) x O W00 u2.1 k2 Z k5
 have hi:W < (q+1)*V:=by
  rcases k6 with rfl | k6
  ·exact hov
  ·rw[M,L];exact adi S x y ω k6
 obtain⟨c,o,s1,s2,s3,s4,s5,s6⟩:=ajf lf j (n+1) q sc k out ys k2 Z g E ω (n+1) (lf+40) 0 0 u ω ω δ δ f ω;rw[xD,show j+0=j from rfl,vt ω,←s]at s5;simp only[lv,uc,sA,pf]at s5;rw[show((0:Nat):Int)=0 from rfl]at s1;obtain⟨x1,x2,x3⟩:=win (j:=j) (m:=n+1) s2 s3 ω hz (fun p hp=>s6 p ω);have x0:0≤lv G (o.drop j):=dw δ (s3.drop j);obtain⟨J,t⟩:∃ J,J=lv G (o.drop j):=⟨_,rfl⟩
 rw[←t,←hW]at x1;rw[←t]at x0 x2;have Pj:0 < G ^ j:=mX δ _;have M0:0 < G ^ (n+1):=mX δ _;have VM:V < G ^ (n+1):=by
  have:=nH (B:=G) δ (show n≤n+1 from ω);omega
 have y1:J=W-q*V+G ^ (n+1)*c:=by
  rw[pL]at s5;exact adT _ _ _ _ _ _ _ _ Pj s5 x1
 have qV1:(q-1)*V=q*V-V:=by grind
 have qV2:(q+1)*V=q*V+V:=by grind
 have f1:i64.wrap (((j:Nat):Int)+((n:Nat):Int))=((j+n:Nat):Int):=by rw[w64 ω ω];omega
 have f2:i64.wrap (((j+n:Nat):Int)+1)=((j+n+1:Nat):Int):=by rw[w64 ω ω];omega
 have f3:i64.wrap (((n:Nat):Int)-1)=((n-1:Nat):Int):=by rw[w64 ω ω];omega
 have f4:i64.wrap (u[j+n]'ω*1000000000)=u[j+n]'ω*1000000000:=w64 ω ω;have f5:i64.wrap top=top:=w64 ω ω;have f6:i64.wrap (q0*v1)=q0*v1:=w64 ω ω;have f7:i64.wrap (top-q0*v1)=top-q0*v1:=w64 ω ω;have f8:i64.wrap (((j:Nat):Int)-1)=((j:Nat):Int)-1:=w64 ω ω;have f9:i64.wrap (q-1)=q-1:=w64 ω (by simp only[G]at Z;omega);have go:ay.r14 lf ys.length (ys.length:Int) sc k ((j:Nat):Int) u out K E0 =
   (br (!(c==0)) (
    bd (ay.l17 lf j (n+1) n ((n:Nat):Int) (q-1) ((n+1:Nat):Int) sc k out (lf+40) 0 0 o) fun z=>K (((j:Nat):Int)-1) z.1.1 (out.set j (q-1))) (K (((j:Nat):Int)-1) o (out.set j q))):=by
  rw[←N]at s1;rw[ay.r14,←N,gP ω,ff,f1,f2,agc _ _ _ j (j+n+1) rfl rfl ω ω,fa];simp only[show j+n+1-j=n+1 by omega,wm];rw[fV _ _ ω,fa,zP ω,fa,f3,fV _ _ ω,fa,zP ω,fa,fV _ _ ω,fa,zP ω,fa,←r,f4,←w,f5,rW t0 ω ω,fa,fa,zP ω,fa,←r,←d,f6,f7,k1,fa];simp only[s1,fa,f9,fV _ _ T,pK _ _ _ T,f8]
 rw[go];by_cases hc:c=0
 ·rw[beq_iff_eq.2 hc];subst hc;refine⟨o,q,by rw[ze,fe],s2,s3,k2,Z,?_,?_⟩
  ·rw[←s];omega
  ·rw[←t,←s];omega
 ·rw[beq_eq_false_iff_ne.2 hc,zj,ff];have neg:W < q*V:=by
   by_cases z:W < q*V
   ·exact z
   ·have:=xF (show 1≤c from ω) (zR M0);omega
  have q1:1≤q:=by
   by_cases z:q=0
   ·subst z;omega
   ·omega
  obtain⟨c2,v,a1,a2,a3,a4,Y,a6⟩:=ajg lf j (n+1) (q-1) sc k out ys g E ω ω (n+1) (lf+40) 0 0 o ω ω δ δ s3 ω;rw[xD,show j+0=j from rfl,vt ω,←s]at Y;simp only[lv,sA,pf]at Y;rw[show((0:Nat):Int)=0 from rfl,←N]at a1;obtain⟨z1,z2,z3⟩:=win (j:=j) (m:=n+1) a2 a3 ω x3 (fun p hp=>a6 p ω);have z0:0≤lv G (v.drop j):=dw δ (a3.drop j);obtain⟨P,A⟩:∃ P,P=lv G (v.drop j):=⟨_,rfl⟩
  rw[←A,←t]at z1;rw[←A]at z0 z2;have y2:P=J+V-G ^ (n+1)*c2:=by
   rw[pL]at Y;exact adS _ _ _ _ _ _ _ _ Pj Y z1
  have y3:P+G ^ (n+1)*(c2-c)=W-(q-1)*V:=by rw[y2,y1,uC];omega
  obtain⟨_,y4⟩:=ac3 M0 y3 z0 z2 ω ω;refine⟨v,q-1,by rw[a1,fa],by rw[a2,s2],a3,ω,ω,?_,?_⟩
  ·rw[←s];have e1:lv G v=lv G u+(G ^ j*(P-J)+G ^ j*(J-W)):=ω;rw[e1,y4];exact ag0 _ _ _ _ _
  ·rw[←A,←s];omega
def ajd(lf:Nat)(sc h ys:List Int)(l:2000000000≤lf)(m:2≤ys.length)(j:Dg G ys)(o:Tr ys)(i:Dg G h)(s:h.take ys.length=ys)(r:ys.length≤h.length)(N:Nat)(z:N≤500000):
  ∀ (k f:Nat) (u out:List Int),k+ys.length≤N→u.length=N→k < f→Dg G u→Dg G out→k≤out.length→(∀ p,p < k→out[p]? = some 0)→lv G (u.drop k) < lv G ys→
  ∃ e a,ay.l14 lf ys.length (ys.length:Int) sc h f (((k:Nat):Int)-1) u out=some ((e,a,()),())∧Dg G e∧Dg G a∧e.length=N∧a.length=out.length∧lv G e+lv G ys*lv G a=lv G u+lv G ys*lv G out∧lv G e < lv G ys:=by
 intro k
 induction k with
 | zero =>
  intro f u out y w x d c n t b;obtain⟨g,rfl⟩:=zv (show f≠0 from ω);refine⟨u,out,?_,d,c,w,rfl,rfl,b⟩;rw[ay.l14,ay.r14,gO ω,fe]
 | succ k A =>
  intro f u out y w x d c n t b;obtain⟨g,rfl⟩:=zv (show f≠0 from ω);obtain⟨e,q,t1,t2,t3,t4,t5,t6,t7⟩:=agd lf k sc h ys u out l m j o i s r d ω ω ω b (ay.l14 lf ys.length (ys.length:Int) sc h g) (fun J K=>some ((J,K,()),()));obtain⟨u2,o2,B,C,D,E,F,H,I⟩:=A g e (out.set k q) ω ω ω t3 (tJ c _ ⟨t4,t5⟩) (by rw[yq];omega) (fun p L=>by
   rw[vq ω];exact t p ω) t7
  refine⟨u2,o2,?_,C,D,E,by rw[F,yq],?_,I⟩
  ·rw[ay.l14,show((k+1:Nat):Int)-1=((k:Nat):Int) by omega,t1];exact B
  ·have o0:out[k]'ω=0:=by
    have v:=t k ω;rw[zP ω]at v;exact y8.inj v
   rw[H,t6,sJ G out k q ω,o0]
   grind
def ajc(lf e:Nat)(xs f g:List Int)(h:xs.length≤1000000):∀ (k n:Nat) (w:List Int),xs.length < w.length+k→(0 < k→w.length+k=xs.length+1)→w.length+k≤1100000→k < n→
  ay.l13 lf xs e f g n w=some ((w++xS k 0,()),()):=by
 intro k
 induction k with
 | zero =>
  intro n w b a h3 c;obtain⟨m,rfl⟩:=zv (show n≠0 from ω);rw[ay.l13,ay.r13,gO ω,fe];simp
 | succ k d =>
  intro n w b a h3 c;obtain⟨m,rfl⟩:=zv (show n≠0 from ω);have:=a ω;rw[ay.l13,ay.r13,gP ω,ff,pY _ _ _ δ (by simp;omega),fa,d m (w++[0]) (by simp;omega) (by simp;omega) (by simp;omega) ω];simp[List.replicate_succ]
def dtail(lf:Nat)(xs ys u0:List Int)(s:Int)(P:2000000000≤lf)(hx:Dg G xs)(T:Dg G ys)(ty:Tr ys)(v:2≤ys.length)(hyx:ys.length≤xs.length)(hxb:xs.length≤50000)(J:0 < s)(s1:s < G)
    (hs:s*lv G ys < G ^ ys.length) (hu:Dg G u0) (hul:u0.length≤xs.length+2) (hu1:1≤u0.length) (hu2:lv G u0 < G ^ (u0.length-1)) (S:lv G u0=lv G xs*s)
    (K:Bool×((List Int)×(List Int)×(List Int)×(List Int)×Unit)×(Nat×(List Int)×(List Int)×(List Int)×(List Int)×Unit)×Unit→Option (List Int×List Int×Unit)) :
    ∃ Q R,(bd (mkL (i64.wrap ((ys.length:Int)+((([s]:List Int).length:Nat):Int))) (i64.wrap ((ys.length:Int)+((([s]:List Int).length:Nat):Int))) 8 0) fun y =>
 bd (ay.l4 lf ys (ys.length:Int) [s] [0] u0 (lf+40) 0 y) fun H =>
 bd (ay.l6 lf [s] [0] u0 H.1.1 (lf+40)) fun g =>
 br g.1 (K g) (
 bd (ay.l13 lf xs g.2.2.1.1 g.2.2.1.2.1 g.2.2.1.2.2.2.2.1 (lf+40) g.2.2.1.2.2.2.1) fun j =>
 bd (mkL (i64.wrap ((j.1.1.length:Int)-((g.2.2.1.1:Nat):Int))) (i64.wrap ((j.1.1.length:Int)-((g.2.2.1.1:Nat):Int))) 8 0) fun A =>
 bd (ay.l14 lf g.2.2.1.1 ((g.2.2.1.1:Nat):Int) g.2.2.1.2.1 g.2.2.1.2.2.2.2.1 (lf+40) (i64.wrap ((i64.wrap ((j.1.1.length:Int)-((g.2.2.1.1:Nat):Int)))-1)) j.1.1 A) fun m =>
 bd (bM.f lf m.1.1) fun C =>
 bd (idxB g.2.2.1.2.1.length 0) fun w =>
 bd (g.2.2.1.2.1[w]?) fun F =>
 bd (iw.f lf C.1 F) fun D =>
 bd (bM.f lf m.1.2.1) fun E =>
 some (E.1,D.1,())))=some (Q,R,())∧Dg G Q∧Tr Q∧Dg G R∧Tr R∧lv G xs=lv G ys*lv G Q+lv G R∧lv G R < lv G ys:=by
  have e0:i64.wrap ((ys.length:Int)+((([s]:List Int).length:Nat):Int))=((ys.length+1:Nat):Int):=by rw[w64 (by simp;omega) (by simp;omega)];simp
  obtain⟨vl,r1,r2,r3,r4⟩:=ajV lf [0] u0 ys [s] T (Dg.cons ⟨ω,s1⟩ Dg.nil) ω ψ ys.length (lf+40) 0 (xS (ys.length+1) 0) ω ω (Dg.zeros δ _) ψ (by simp;omega) (fun q _ h=>by rw[vo]at h;rw[sw,gT h]);rw[vo]at r2;rw[uK]at r4;simp only[lv,xD,uc,sA,Int.pow_zero,pZ,pf]at r4;rw[show((0:Nat):Int)=0 from rfl]at r1;obtain⟨V,O⟩:∃ V,V=lv G vl:=⟨_,rfl⟩
  have t:V=s*lv G ys:=by rw[O,r4,wk]
  have y0:0 < lv G ys:=vF δ T ty (by intro e;subst e;simp at v);have yt:=aaj (B:=G) δ T ty (by intro e;subst e;simp at v);have yV:lv G ys≤V:=by
    have:=wA (show 1≤s from ω) (zR y0);omega
  have x:vl.getLast? = some 0:=by
    have h1:=qZ G vl ys.length ω;rw[uJ G vl ys.length ω,vt ω]at h1;simp only[lv,uc,sA]at h1;have h2:=dw (B:=G) δ (r3.take ys.length);have h3:=r3.at ys.length ω;have h4:vl[ys.length]'ω=0:=by
      by_cases z:vl[ys.length]'ω=0
      · exact z
      · have:=xF (show 1≤vl[ys.length]'ω from ω) (zR (mX (B:=G) δ ys.length))
        omega
    rw[nQ,r2,mE,zP ω,h4]
  have h6:ay.l6 lf [s] [0] u0 vl (lf+40)=some (false,([],[],[],[],()),(((tr vl).length,[s],[0],u0,vl,()),())):=by
    rcases aj3 lf [s] [0] u0 vl ω (lf+40) ω with⟨h,_⟩ | ⟨_,h⟩
    · exact absurd x h
    · exact h
  have I:=qB r3;have X:=tH vl;have vT:=oU G vl;obtain⟨n,o⟩:∃ n,n=(tr vl).length:=⟨_,rfl⟩
  have n1:n≤ys.length:=by
    by_cases z:n≤ys.length
    · exact z
    · have a:=aaj (B:=G) δ I X (by intro e;rw[e]at o;simp at o;omega)
      have b:=nH (B:=G) δ (show ys.length≤(tr vl).length-1 by omega);omega
  have n2:2≤n:=by
    by_cases z:2≤n
    · exact z
    · have a:=rH (B:=G) δ I
      have b:=nH (B:=G) δ (show(tr vl).length≤ys.length-1 by omega);omega
  obtain⟨k,hk⟩:∃ k,k=xs.length+1-u0.length:=⟨_,rfl⟩
  obtain⟨N,hN⟩:∃ N,N=u0.length+k:=⟨_,rfl⟩
  obtain⟨u,l⟩:∃ u,u=u0++xS k 0:=⟨_,rfl⟩
  have ul:u.length=N:=by rw[l,yo,vo,hN]
  have ud:Dg G u:=by rw[l];exact hu.app (Dg.zeros δ _)
  have Z:lv G u=lv G u0:=by rw[l,wW,uK];simp
  have L:ay.l13 lf xs n [s] vl (lf+40) u0=some ((u,()),()):=by
    rw[l];exact ajc lf n xs [s] vl ω k (lf+40) u0 ω ω ω ω
  have U:lv G (u.drop (N-n)) < lv G (tr vl):=by
    have a:=qZ G u (N-n) ω;have b:=dw (B:=G) δ (ud.take (N-n));have c:=aaj (B:=G) δ I X (by intro e;rw[e]at o;simp at o;omega);have d:=nH (B:=G) δ (show u0.length-1≤N-1 from ω);have e:G ^ (N-1)=G ^ (N-n)*G ^ (n-1):=by rw[←pL];congr 1;omega
    rw[←o]at c;by_cases z:lv G (u.drop (N-n)) < lv G (tr vl)
    · exact z
    · have:=xF (show G ^ (n-1)≤lv G (u.drop (N-n)) by omega) (zR (mX (B:=G) δ (N-n)))
      omega
  have e1:i64.wrap ((u.length:Int)-((n:Nat):Int))=((N-n:Nat):Int):=by rw[w64 ω ω];omega
  have e2:i64.wrap (((N-n:Nat):Int)-1)=((N-n:Nat):Int)-1:=w64 ω ω;obtain⟨Y,i,t1,t2,t3,t4,t5,t6,t7⟩:=ajd lf [s] vl (tr vl) P ω I X r3 (afo vl) (nS vl) N ω (N-n) (lf+40) u (xS (N-n) 0) ω ul ω ud (Dg.zeros δ _) ψ (fun p hp=>by rw[sw,gT hp]) U;rw[uK,vT,Z,S,←O,t]at t6;rw[vT,←O,t]at t7;rw[←o]at t1;rw[vo]at t5;obtain⟨q,r,p1,p2,p3,p4,p5,p6,W⟩:=afk lf (tr Y) s J s1 (qB t2) (by have:=nS Y;omega) ω;rw[oU]at W;have key:lv G xs=lv G ys*lv G i+lv G q∧r=0:=by
    have:=ac3 (M:=s) (a:=r) (d:=lv G q+lv G ys*lv G i-lv G xs) (b:=0) J (by rw[W]at t6;grind) p5 p6 δ J;exact⟨ω,this.2⟩
  refine⟨tr i,q,?_,qB t3,tH _,p2,p3,by rw[oU];exact key.1,?_⟩
  · rw[e0,uU _ _ _ (ys.length+1) rfl rfl ω,fa,r1,fa,h6,fa,fe]
    simp only[←o];rw[L,fa];simp only[e1];rw[uU _ _ _ (N-n) rfl rfl ω,fa,e2,t1,fa,xR lf Y ω ω,fa];simp only[p1,fa,show idxB ([s]:List Int).length 0=some 0 from fV 1 0 δ,List.getElem?_cons_zero];rw[xR lf i ω ω,fa]
  · exact Int.lt_of_mul_lt_mul_left (by rw[key.2]at W;omega) (zR J)
def zq(lf:Nat)(xs ys:List Int)(l:Dg G xs)(j:Dg G ys)(tx:Tr xs)(n:Tr ys)(A:ys≠[])(x:xs.length≤50000)(O:ys.length≤50000)(u:2000000000≤lf):
  ∃ Q R,ay.f lf xs ys=some (Q,R,())∧Dg G Q∧Tr Q∧Dg G R∧Tr R∧lv G xs=lv G ys*lv G Q+lv G R∧lv G R < lv G ys:=by
 obtain⟨v,e,sg⟩:=aeY lf xs ys l j tx n ω ω ω;rw[ay.f,e,fa];by_cases i:v < 0
 ·rw[gP i,ff];have:=sg.1.1 i;exact⟨[],xs,rfl,Dg.nil,Tr.nil,l,tx,by simp[lv],ω⟩
 rw[gO i,fe];have L:lv G ys≤lv G xs:=by
  have:¬(lv G xs-lv G ys < 0):=fun h=>i (sg.1.2 h);omega
 have m:ys.length≤xs.length:=by
  by_cases z:ys.length≤xs.length
  ·exact z
  ·have:=oJ (B:=G) δ l j n ω;omega
 have N:1≤ys.length:=vj.2 A;by_cases F:ys.length=1
 ·rw[show((ys.length:Int)==1)=true by rw[F];rfl,ff];obtain⟨d,rfl⟩:=List.length_eq_one_iff.1 F;have I:=j d ψ;have J:0 < d:=by
   have:=vF (B:=G) δ j n ψ;simp only[lv]at this;omega
  obtain⟨q,r,p1,p2,P,W,S,X,T⟩:=afk lf xs d J I.2 l ω ω;have o:idxL [d] 0=some d:=rfl;refine⟨q,tr [r],?_,p2,P,qB (Dg.cons ⟨S,ω⟩ Dg.nil),tH _,?_,?_⟩
  ·rw[o,fa,p1,fa,xR lf [r] (by simp;omega) ψ,fa]
  ·rw[oU,T];simp[lv]
  ·rw[oU];simp only[lv];omega
 ·rw[show((ys.length:Int)==1)=false by rw[beq_eq_false_iff_ne];omega,fe];have k:=j.at (ys.length-1) ω;have D:1≤ys[ys.length-1]'ω:=by
   have:ys[ys.length-1]'ω≠0:=by
    intro e;apply n;rw[nQ,zP ω,e]
   omega
  obtain⟨y,p⟩:∃ y,y=ys[ys.length-1]'ω:=⟨_,rfl⟩
  rw[←p]at k D;have e2:i64.wrap ((ys.length:Int)-1)=((ys.length-1:Nat):Int):=by rw[w64 ω ω];omega
  have o:i64.wrap (y+1)=y+1:=w64 ω (by simp only[G]at k;omega);have K:i64.wrap ((xs.length:Int)+1)=((xs.length+1:Nat):Int):=by rw[w64 ω ω];omega
  obtain⟨s,E⟩:∃ s,s=1000000000 / (y+1):=⟨_,rfl⟩
  have U:(y+1)*s≤1000000000:=by rw[E];exact Int.mul_ediv_self_le ω
  have C:0 < s:=by
   have:1≤1000000000 / (y+1):=Int.le_ediv_of_mul_le ω (by simp only[G]at k;omega);omega
  have H:s < G:=by
   have:=wA (show 2≤y+1 from ω) (zR C);simp only[G];omega
  have M:s*lv G ys < G ^ ys.length:=by
   have a:=qZ G ys (ys.length-1) ω;rw[uJ G ys (ys.length-1) ω,vt ω,←p]at a;simp only[lv,uc,sA]at a;have b:=rH (B:=G) δ (j.take (ys.length-1));rw[xV,ut ω]at b;have c:lv G ys < G ^ (ys.length-1)*(y+1):=by rw[vL];omega
   have d:=Int.mul_lt_mul_of_pos_left c C;have e:s*(G ^ (ys.length-1)*(y+1))=G ^ (ys.length-1)*((y+1)*s):=by grind
   have f:=xF U (zR (mX (B:=G) δ (ys.length-1)));have g:G ^ ys.length=G ^ (ys.length-1)*1000000000:=by
    conv=>lhs;rw[show ys.length=(ys.length-1)+1 by omega]
    rw[wy]
   omega
  rw[e2,iE _ _ ω,fa,←p,o,rW δ ω δ,fa,←E,K,uU _ _ _ (xs.length+1) rfl rfl ω,fa];obtain⟨w,r1,r2,r3,r4⟩:=ajT lf xs [s] l (Dg.cons ⟨ω,H⟩ Dg.nil) ω ψ xs.length (lf+40) 0 (xS (xs.length+1) 0) ω ω (Dg.zeros δ _) ψ (by simp;omega) (fun q _ h=>by rw[vo]at h;rw[sw,gT h]);rw[vo]at r2;rw[uK]at r4;simp only[lv,xD,uc,sA,Int.pow_zero,pZ,pf]at r4;rw[show((0:Nat):Int)=0 from rfl]at r1;rw[r1,fa];have V:=nS w;have fin:=dtail lf xs ys (tr w++[0]) s u l j n ω m x C H M ((qB r3).app (Dg.zeros δ 1)) (by simp;omega) ψ (by
   rw[yo,uA,mE,wW];simp only[lv,uc,sA];exact rH δ (qB r3)) (by rw[wW,oU,r4];simp[lv])
  rcases aj1 lf [s] w ω (lf+40) ω with⟨t,h2⟩ | ⟨_,h2⟩
  ·rw[h2,fa,ff,pY _ _ _ δ (by simp;omega),fa];rw[ahF (show Tr w from t)]at fin;exact fin _
  ·rw[h2,fa,fe];simp only[afo];rw[gP V,tL,pY _ _ _ δ (by simp;omega),fa];exact fin _
def aiP(lf:Nat)(l m:List UInt8)(n:chk l=0)(o:chk m=0)(h3:200000≤lf):
  kQ.f lf (bs l) (bs m)=some (if(D (iv l*iv m).natAbs).length > 4096 then(bs [],10,())else(bs (z7 (iv l*iv m)),0,())):=by
 obtain⟨⟨g,q,⟨⟩⟩,⟨h,s,⟨⟩⟩,e,c,d,_⟩:=wZ lf l m n o h3;rw[kQ.f,e,fa];simp only[bne_self_eq_false,fe];obtain⟨r,e2,i,j,t,k⟩:=acU lf q s c.dg d.dg (by have:=c.len;simp only at this;omega) (by have:=d.len;simp only at this;omega) h3;have p:RN (g != h,r,()) (iv l*iv m) 8192:=by
  refine⟨i,j,?_,?_⟩
  ·have a:=c.len;have b:=d.len;simp only at a b⊢;omega
  ·have a:=c.val;have b:=d.val;simp only at a b⊢;rw[k,a,b];cases g<;>cases h<;>simp[tQ,sY]
 rw[dV.f];simp only[e2,fa];rw[yG lf p ω h3,fa]
def kZ{x y q r:Int}(h:x=y*q+r)(c:(0≤r∧r < y)∨(y < r∧r≤0)):q=x.fdiv y∧r=x.fmod y:=by
 have e:=wh x y;have f:(0≤x.fmod y∧x.fmod y < y)∨(y < x.fmod y∧x.fmod y≤0):=by
  rcases c with c | c
  ·exact Or.inl ⟨xd x ω,yW x ω⟩
  ·refine Or.inr ?_;have a:=xd (-x) (show 0 < -y from ω);have b:=yW (-x) (show 0 < -y from ω);rw[m7]at a b;omega
 have key:x.fdiv y=q:=by
  have d:y*(x.fdiv y-q)=r-x.fmod y:=by rw[uC];omega
  rcases jp (x.fdiv y) q with z | z | z
  ·rcases c with c | c
   ·have:=xF (show x.fdiv y-q≤-1 from ω) (show 0≤y from ω);omega
   ·have:=xF (show x.fdiv y-q≤-1 from ω) (show 0≤-y from ω);simp only[tQ]at this;omega
  ·exact z
  ·rcases c with c | c
   ·have:=xF (show 1≤x.fdiv y-q from ω) (show 0≤y from ω);omega
   ·have:=xF (show 1≤x.fdiv y-q from ω) (show 0≤-y from ω);simp only[tQ]at this;omega
 rw[key]at e;exact⟨key.symm,ω⟩
def xh(lf:Nat)(u:2000000000≤lf){p q:Bool×(List Int×Unit)}{x y:Int}{k:Nat}(O:RN p x k)(P:RN q y k)(X:k≤40000)(S:y≠0):
  ∃ s t,bZ.f lf p q=some (s,t,())∧RN s (x.fdiv y) (k+1)∧RN t (x.fmod y) k:=by
 obtain⟨c,v,⟨⟩⟩:=p;obtain⟨h,g,⟨⟩⟩:=q;obtain⟨o,t1,l1,b⟩:=O;obtain⟨i,t2,l2,a⟩:=P;simp only at o t1 l1 b i t2 l2 a;have m:g≠[]:=by
  rintro rfl;apply S;rw[a];simp[lv]
 obtain⟨Q,R,e,j,w,l,d,val,lt⟩:=zq lf v g o i t1 t2 m ω ω u;have y0:=vF (B:=G) δ i t2 m;have T:=dw (B:=G) δ l;have D:=dw (B:=G) δ j;have Z:R.length≤g.length:=by
  by_cases z:R.length≤g.length
  ·exact z
  ·have:=oJ (B:=G) δ i l d ω;omega
 have Y:Q.length≤v.length:=by
  by_cases z:Q.length≤v.length
  ·exact z
  ·have:=oJ (B:=G) δ o j w ω;have:=wA (show 1≤lv G g from ω) D;omega
 rw[bZ.f];simp only[e,fa];by_cases n:c=h
 ·subst n;simp only[BEq.rfl,ff];have key:lv G Q=x.fdiv y∧(if c=true then -lv G R else lv G R)=x.fmod y:=by
   apply kZ
   ·cases c<;>simp only[zg,if_true,if_false]at b a⊢<;>rw[b,a,val]<;>grind
   ·cases c<;>simp only[zg,if_true,if_false]at b a⊢<;>omega
  exact⟨_,_,rfl,⟨j,w,by simp only;omega,by simp[key.1]⟩,⟨l,d,by simp only;omega,key.2.symm⟩⟩
 ·rw[show(c==h)=false from beq_eq_false_iff_ne.2 n,fe];by_cases r:R=[]
  ·subst r;rw[gO ψ,fe];have key: -lv G Q=x.fdiv y∧0=x.fmod y:=by
    apply kZ
    ·simp only[lv,sA]at val;cases c<;>cases h<;>simp only[zg,if_true,if_false,not_true,reduceCtorEq]at b a n⊢<;>rw[b,a,val]<;>grind
    ·omega
   exact⟨_,_,rfl,⟨j,w,by simp only;omega,by simp[key.1]⟩,⟨Dg.nil,Tr.nil,ψ,by rw[←key.2];simp[lv]⟩⟩
  ·have U:0 < R.length:=vj.2 r;have V:=vF (B:=G) δ l d r;rw[gP ω,ff];obtain⟨E,F,I,J,K,L⟩:=ag7 lf Q [1] j (Dg.cons δ Dg.nil) ω ψ ω;obtain⟨A,H,M,N,C,W⟩:=acF lf g R i l ω ω ω;have e1:lv G [1]=1:=by simp[lv]
   have key: -lv G E=x.fdiv y∧(if h=true then -lv G A else lv G A)=x.fmod y:=by
    apply kZ
    ·rw[K,C,e1];cases c<;>cases h<;>simp only[zg,if_true,if_false,not_true,reduceCtorEq]at b a n⊢<;>rw[b,a,val]<;>grind
    ·rw[C];cases c<;>cases h<;>simp only[zg,if_true,if_false,not_true,reduceCtorEq]at b a n⊢<;>omega
   rw[F,fa,H,fa];refine⟨_,_,rfl,⟨I,J,?_,by simp[key.1]⟩,⟨M,N,by simp only;omega,key.2.symm⟩⟩;simp only[uA]at L⊢;omega
def abO(lf:Nat)(g:2000000000≤lf)(l m:List UInt8)(h:chk l=0)(i:chk m=0):
  mP.f lf (bs l) (bs m)=some (if iv m=0 then(bs [],bs [],19,())else(bs (z7 ((iv l).fdiv (iv m))),bs (z7 ((iv l).fmod (iv m))),0,())):=by
 obtain⟨p,q,e,k,d,_⟩:=wZ lf l m h i ω;rw[mP.f,e,fa];simp only[bne_self_eq_false,fe];by_cases c:iv m=0
 ·rw[gT c];have:q.2.1=[]:=by
   have a:=d.val;rw[c]at a;have b:=yU (B:=G) δ d.dg d.tr;apply b.1;split at a<;>omega
  simp[this,ff]
 ·rw[gR c];have j:q.2.1≠[]:=by
   intro z;apply c;have a:=d.val;rw[z]at a;simpa [lv]using a
  have n:0 < q.2.1.length:=vj.2 j;rw[show((q.2.1.length:Int)==0)=false from beq_eq_false_iff_ne.2 ω,fe];obtain⟨s,t,e2,r1,r2⟩:=xh lf g k d ω c;simp only[e2,fa,wX lf r1 ω ω,wX lf r2 ω ω]
def akh(lf:Nat)(a:2000000000≤lf)(l m:List UInt8)(b:chk l=0)(c:chk m=0):
  gY.f lf (bs l) (bs m)=some (if iv m=0 then(bs [],19,())else(bs (z7 ((iv l).fdiv (iv m))),0,())):=by
 rw[gY.f,abO lf a l m b c,fa];split<;>rfl
def akk(lf:Nat)(a:2000000000≤lf)(l m:List UInt8)(b:chk l=0)(c:chk m=0):
  jk.f lf (bs l) (bs m)=some (if iv m=0 then(bs [],19,())else(bs (z7 ((iv l).fmod (iv m))),0,())):=by
 rw[jk.f,abO lf a l m b c,fa];split<;>rfl
set_option exponentiation.threshold 5000
def sz(z:Int):Nat:=nlen (z7 z)
def aac(z:Int):body (z7 z)=Lib.decDigits z.natAbs:=by
 unfold body z7;by_cases h:z < 0
 ·rw[gT h];simp
 ·rw[gR h,gR (wB _)];congr 1;omega
def aiY(z:Int)(k:Nat)(a:0 < k):sz z≤k↔z.natAbs < 10 ^ k:=by
 unfold sz nlen;rw[aac];constructor
 ·intro h;have:=agk _ (yc z.natAbs);rw[aa6]at this;exact Nat.lt_of_lt_of_le this (q6 ω h)
 ·intro h;obtain⟨j,rfl⟩:=zv (show k≠0 from ω);exact oW j _ h
@[irreducible] def K : Int := ((10 ^ 4096 : Nat) : Int)
@[irreducible] def C : Int := ((10 ^ 100 : Nat) : Int)
def sz_K(z:Int):sz z≤4096↔-K < z∧z < K:=by
 rw[aiY z 4096 ω];unfold K;generalize 10 ^ 4096=n;omega
def sz_C(z:Int):sz z≤100↔-C < z∧z < C:=by
 rw[aiY z 100 ω];unfold C;generalize 10 ^ 100=n;omega
def fO:C < K:=by
 unfold C K;have:(10:Nat) ^ 100 < 10 ^ 4096:=Nat.pow_lt_pow_right ω ω;exact mN.2 this
def C_gt:1000000 < C:=by
 unfold C;have:(1000000:Nat) < 10 ^ 100:=by decide +kernel
 omega
def K_gt:1000000 < K:=Int.lt_trans C_gt fO
def adr(z:Int)(h:sz z≤4096):(z7 z).length≤4097:=by
 have:=wG (z7 z);unfold sz at h;omega
def pM(z:Int):chk (z7 z)=0↔-K < z∧z < K:=by
 rw[nI,←sz_K];exact⟨fun h=>h.2,fun h=>⟨kL z,h⟩⟩
def vG(z:Int):num (z7 z)=0↔-C < z∧z < C:=by
 rw[sN,←sz_C];exact⟨fun h=>h.2,fun h=>⟨kL z,h⟩⟩
def lJ(z:Int):z7 z≠[]:=(mM (kL z)).2.2
def pR{x y:Int}(h:z7 x=z7 y):x=y:=by rw[←dR x,←dR y,h]
inductive X where
 | ni
 | fin (z:Int)
 | pi
deriving DecidableEq
abbrev EB:Type:=Int×(ByteArray×Unit)
abbrev IV:Type:=Bool×(ByteArray×(ByteArray×Unit))
def xc:X→EB
 | .ni=>(-1,bs [],())
 | .fin z=>(0,bs (z7 z),())
 | .pi=>(1,bs [],())
def key:X→Int
 | .ni=> -K
 | .fin z=>z
 | .pi=>K
def okx(k:Int):X→Prop
 | .fin z=> -k < z∧z < k
 | _=>True
def okx.mono{k a:Int}(h:k≤a){x:X}(b:okx k x):okx a x:=by cases x<;>simp_all [okx];omega
def qV{x:X}(h:okx K x): -K≤key x∧key x≤K:=by
 have:=K_gt;cases x<;>simp only[okx,key]at*<;> omega
def key_inj{x y:X}(a:okx K x)(b:okx K y)(h:key x=key y):x=y:=by
 have:=K_gt;cases x<;>cases y<;>simp only[okx,key,X.fin.injEq,reduceCtorEq]at*<;> omega
def abK(lf:Nat)(h3:200000≤lf){x y:X}(a:okx K x)(b:okx K y):∃ c,fA.f lf (xc x) (xc y)=some (c,())∧Sg c (key x-key y):=by
 have d:=K_gt;rw[fA.f];cases x with
 | ni=>cases y with
  | ni=>exact⟨0,(ff _ _).trans rfl,by simp[Sg,key]⟩
  | fin z=>exact⟨-1,(ff _ _).trans rfl,by simp only[okx,key,Sg]at *;omega⟩
  | pi=>exact⟨-2,(ff _ _).trans rfl,by simp only[okx,key,Sg]at *;omega⟩
 | pi=>cases y with
  | ni=>exact⟨2,(ff _ _).trans rfl,by simp only[okx,key,Sg]at *;omega⟩
  | fin z=>exact⟨1,(ff _ _).trans rfl,by simp only[okx,key,Sg]at *;omega⟩
  | pi=>exact⟨0,(ff _ _).trans rfl,by simp[Sg,key]⟩
 | fin z=>cases y with
  | ni=>exact⟨1,(fe _ _).trans ((ff _ _).trans rfl),by simp only[okx,key,Sg]at *;omega⟩
  | pi=>exact⟨-1,(fe _ _).trans ((ff _ _).trans rfl),by simp only[okx,key,Sg]at *;omega⟩
  | fin u =>
   refine⟨sgn (z-u),?_,?_⟩
   ·simp only[xc,bne_self_eq_false,fe];rw[xJ lf _ _ ((pM z).2 a) ((pM u).2 b) h3,fa,dR,dR]
   ·simp only[key,Sg,sgn];constructor<;>(repeat' split)<;>omega
def xmin(x y:X):X:=if key y < key x then y else x
def xmax(x y:X):X:=if key y > key x then y else x
def yH{k:Int}{x y:X}(a:okx k x)(b:okx k y):okx k (xmin x y):=by unfold xmin;split<;>assumption
def zW{k:Int}{x y:X}(a:okx k x)(b:okx k y):okx k (xmax x y):=by unfold xmax;split<;>assumption
def kX(x y:X):key (xmin x y)=min (key x) (key y):=by unfold xmin;split<;>omega
def lK(x y:X):key (xmax x y)=max (key x) (key y):=by unfold xmax;split<;>omega
def acz(lf:Nat)(h3:200000≤lf){x y:X}(a:okx K x)(b:okx K y):iY.f lf (xc x) (xc y)=some (xc (xmin x y),()):=by
 obtain⟨c,e,d,g⟩:=abK lf h3 b a;rw[iY.f,e,fa];unfold xmin;by_cases h:key y < key x
 ·rw[gP ω,ff,gT h]
 ·rw[gO ω,fe,gR h]
def agS(lf:Nat)(h3:200000≤lf){x y:X}(a:okx K x)(b:okx K y):kW.f lf (xc x) (xc y)=some (xc (xmax x y),()):=by
 obtain⟨c,e,d,g⟩:=abK lf h3 b a;rw[kW.f,e,fa];unfold xmax;by_cases h:key y > key x
 ·rw[gP ω,ff,gT h]
 ·rw[gO ω,fe,gR h]
structure Sp where
 lo:X
 hi:X
deriving DecidableEq
def sc(s:Sp):EB×(EB×Unit):=(xc s.lo,xc s.hi,())
def oks(k:Int)(s:Sp):Prop:=okx k s.lo∧okx k s.hi
def oks.mono{k b:Int}(h:k≤b){s:Sp}(a:oks k s):oks b s:=⟨a.1.mono h,a.2.mono h⟩
def emp(s:Sp):Bool:=decide (key s.lo > key s.hi)
def oZ(lf:Nat)(h3:200000≤lf){s:Sp}(a:oks K s):ak.f lf (sc s)=some (emp s,()):=by
 obtain⟨c,e,b,d⟩:=abK lf h3 a.1 a.2;rw[ak.f];simp only[sc];rw[e,fa];unfold emp;congr 2;simp only[decide_eq_decide];omega
def non:Sp:=⟨.pi,.ni⟩
def yY(lf:Nat):aB.f lf=some (sc non,()):=by
 rw[aB.f,bQ.f,fa,bQ.f,fa];rfl
def jC{k:Int}:oks k non:=⟨trivial,trivial⟩
def iG:emp non=true:=by
 have:=K_gt;show decide (K > -K)=true;exact gP ω
def hull(s t:Sp):Sp:=if emp s=true then t else if emp t=true then s else⟨xmin s.lo t.lo,xmax s.hi t.hi⟩
def jA{k:Int}{s t:Sp}(a:oks k s)(b:oks k t):oks k (hull s t):=by
 unfold hull;split
 ·exact b
 ·split
  ·exact a
  ·exact⟨yH a.1 b.1,zW a.2 b.2⟩
def oH(lf:Nat)(h3:200000≤lf){s t:Sp}(a:oks K s)(b:oks K t):ah.f lf (sc s) (sc t)=some (sc (hull s t),()):=by
 rw[ah.f,oZ lf h3 a,fa,oZ lf h3 b];unfold hull;cases emp s with
 | true=>rw[ff,gT rfl]
 | false =>
  rw[fe,fa,gR ψ];cases emp t with
  | true=>rw[ff,gT rfl]
  | false =>
   rw[fe,gR ψ];simp only[sc];rw[acz lf h3 a.1 b.1,fa,agS lf h3 a.2 b.2,fa]
def common(s t:Sp):Sp:=⟨xmax s.lo t.lo,xmin s.hi t.hi⟩
def wu{k:Int}{s t:Sp}(a:oks k s)(b:oks k t):oks k (common s t):=⟨zW a.1 b.1,yH a.2 b.2⟩
def adf(lf:Nat)(h3:200000≤lf){s t:Sp}(a:oks K s)(b:oks K t):eX.f lf (sc s) (sc t)=some (sc (common s t),()):=by
 rw[eX.f];simp only[sc];rw[agS lf h3 a.1 b.1,fa,acz lf h3 a.2 b.2,fa];rfl
def ob:Option Int→ByteArray
 | none=>bs []
 | some z=>bs (z7 z)
def agY{x y:Option Int}(h:ob x=ob y):x=y:=by
 cases x with
 | none=>cases y with
  | none=>rfl
  | some v=>exact absurd (yP h).symm (lJ v)
 | some u=>cases y with
  | none=>exact absurd (yP h) (lJ u)
  | some v=>rw[pR (yP h)]
structure A where
 em:Bool
 lo:Option Int
 hi:Option Int
deriving DecidableEq
def ac(a:A):IV:=(a.em,ob a.lo,ob a.hi,())
def ai4{a b:A}(h:ac a=ac b):a=b:=by
 obtain⟨e,l,m⟩:=a;obtain⟨f,g,i⟩:=b;simp only[ac,Prod.mk.injEq]at h;obtain⟨rfl,c,d,_⟩:=h;rw[agY c,agY d]
def okb(k:Int):Option Int→Prop
 | none=>True
 | some z=> -k < z∧z < k
def le? : Option Int→Option Int→Prop
 | some x,some y=>x≤y
 | _,_=>True
structure Wf(a:A):Prop where
 em:a.em=true→a.lo=none∧a.hi=none
 lo:okb C a.lo
 hi:okb C a.hi
 le:le? a.lo a.hi
def lox:Option Int→X
 | none=>.ni
 | some z=>.fin z
def hix:Option Int→X
 | none=>.pi
 | some z=>.fin z
def ofA(a:A):Sp:=if a.em=true then non else⟨lox a.lo,hix a.hi⟩
def aaO{k:Int}{x:Option Int}(h:okb k x):okx k (lox x):=by cases x<;>simp_all [okb,lox,okx]
def aaN{k:Int}{x:Option Int}(h:okb k x):okx k (hix x):=by cases x<;>simp_all [okb,hix,okx]
def ajv{k:Int}{a:A}(b:okb k a.lo)(c:okb k a.hi):oks k (ofA a):=by
 unfold ofA;split
 ·exact jC
 ·exact⟨aaO b,aaN c⟩
def jd(x:Option Int):((ob x).toList==(⟨#[]⟩:ByteArray).toList)=decide (x=none):=by
 cases x with
 | none=>rw[ob,show(⟨#[]⟩:ByteArray)=bs [] from rfl,lS];simp
 | some z =>
  rw[ob,show(⟨#[]⟩:ByteArray)=bs [] from rfl,lS,gO (lJ z)];simp
def of_f(lf:Nat)(a:A):aV.f lf (ac a)=some (sc (ofA a),()):=by
 obtain⟨em,c,b⟩:=a;rw[aV.f];simp only[ac,ofA];cases em with
 | true=>rw[ff,yY,fa];rfl
 | false =>
  simp only[fe,bQ.f,aY.f,fa,jd];cases c<;>cases b<;>simp[ff,fe,sc,lox,hix,xc,ob]
def clip(z:Int):Option Int:=if -C < z∧z < C then some z else none
def tx:X→Option Int
 | .fin z=>clip z
 | _=>none
def ahB(lf:Nat){x:X}(b:okx K x):pX.f lf (xc x)=some (ob (tx x),()):=by
 rw[pX.f];cases x with
 | ni=>exact(ff _ _).trans rfl
 | pi=>exact(ff _ _).trans rfl
 | fin z =>
  simp only[xc,bne_self_eq_false,fe];have c:=(sz_K z).2 b;rw[abQ lf _ (by have:=adr z c;omega),fa];simp only[tx,clip];have:=sz_C z;unfold sz at this;by_cases h:nlen (z7 z)≤100
  ·rw[gO ω,fe,gT (this.1 h)];rfl
  ·rw[gP ω,ff,gR (fun a=>h (this.2 a))];rfl
def toA(s:Sp):A:=if emp s=true then⟨true,none,none⟩else⟨false,tx s.lo,tx s.hi⟩
def jP(lf:Nat)(h3:200000≤lf){s:Sp}(a:oks K s):af.f lf (sc s)=some (ac (toA s),()):=by
 rw[af.f,oZ lf h3 a,fa];unfold toA;cases emp s with
 | true=>rw[ff,gT rfl];rfl
 | false =>
  rw[fe,gR ψ];simp only[sc];rw[ahB lf a.1,fa,ahB lf a.2,fa];rfl
def ck(em:Bool)(l h:List UInt8):Int :=
 if em=true∧(l≠[]∨h≠[])then 3 else if l≠[]∧num l≠0 then num l else if h≠[]∧num h≠0 then num h else if l≠[]∧h≠[]∧iv h < iv l then 14 else 0
def yA{l:List UInt8}(h:num l=0):chk l=0:=nI.2 ⟨(sN.1 h).1,by have:=(sN.1 h).2;omega⟩
def wY{l:List UInt8}(h:num l=0):l.length≤101:=by have:=wG l;have:=(sN.1 h).2;omega
def bneT{x:Int}(h:¬x=0):(x != 0)=true:=by simpa using h
def e0:(⟨#[]⟩:ByteArray)=bs []:=rfl
def aeg(a b:Int):decide (sgn (a-b) > 0)=decide (b < a):=by
 simp only[decide_eq_decide];unfold sgn;(repeat' split)<;>omega
set_option maxHeartbeats 1000000 in
def ade(lf:Nat)(h3:200000≤lf)(em:Bool)(l h:List UInt8)(m:l.length≤9223372036854775807)(k:h.length≤9223372036854775807):bJ.f lf (em,bs l,bs h,())=some (ck em l h,()):=by
 rw[bJ.f];simp only[e0,lS,ady lf l ω,ady lf h ω,fa];have j:num l=0→num h=0→dO.f lf (bs l) (bs h)=some (sgn (iv l-iv h),()):=fun a b=>xJ lf l h (yA a) (yA b) h3;unfold ck;by_cases c:num l=0<;>by_cases d:num h=0
 ·simp only[j c d,fa,aeg];by_cases e:l=[]<;>by_cases g:h=[]<;>by_cases i:iv h < iv l<;>cases em<;>simp[e,g,i,c,d,ff,fe]<;>simp_all
 ·by_cases e:l=[]<;>by_cases g:h=[]<;>cases em<;>simp[e,g,c,d,bneT d,ff,fe]<;>simp_all [bneT d,ff]
 ·by_cases e:l=[]<;>by_cases g:h=[]<;>cases em<;>simp[e,g,c,d,bneT c,ff,fe]<;>simp_all [bneT c,ff]
 ·by_cases e:l=[]<;>by_cases g:h=[]<;>cases em<;>simp[e,g,c,d,bneT c,bneT d,ff,fe]<;>simp_all [bneT c,bneT d,ff]
def abE(lf:Nat)(l:List UInt8)(b:l.length≤9223372036854775807)(a:l.length≤lf):jc.f lf (bs l)=some ((if l=[]then 0 else num l),()):=by
 rw[jc.f,e0,lS,ab1 lf l b a,fa];by_cases h:l=[]
 ·rw[gP h,ff,gT h]
 ·rw[gO h,fe,gR h]
set_option maxHeartbeats 1000000 in
def abG(lf:Nat)(h3:200000≤lf)(em:Bool)(l h:List UInt8)(n:l.length≤9223372036854775807)(m:h.length≤9223372036854775807)(j:l.length≤lf)(i:h.length≤lf):kD.f lf (em,bs l,bs h,())=some (ck em l h,()):=by
 rw[kD.f];simp only[e0,lS,abE lf l n j,abE lf h m i,fa];have o:num l=0→num h=0→aK.f lf (bs h) (bs l)=some (decide (iv h < iv l),()):=fun a b =>
  ad6 lf h l (sN.1 b).1 (sN.1 a).1 (by have:=wY b;omega) (by have:=wY a;omega) h3
 unfold ck;by_cases c:num l=0<;>by_cases d:num h=0
 ·simp only[o c d,fa];by_cases e:l=[]<;>by_cases g:h=[]<;>by_cases k:iv h < iv l<;>cases em<;>simp[e,g,k,c,d,ff,fe]<;>simp_all
 ·by_cases e:l=[]<;>by_cases g:h=[]<;>cases em<;>simp[e,g,c,d,bneT d,ff,fe]<;>simp_all [bneT d,ff]
 ·by_cases e:l=[]<;>by_cases g:h=[]<;>cases em<;>simp[e,g,c,d,bneT c,ff,fe]<;>simp_all [bneT c,ff]
 ·by_cases e:l=[]<;>by_cases g:h=[]<;>cases em<;>simp[e,g,c,d,bneT c,bneT d,ff,fe]<;>simp_all [bneT c,bneT d,ff]
def ajS{em:Bool}{l h:List UInt8}(b:ck em l h=0):∃ a:A,((em,bs l,bs h,()):IV)=ac a∧Wf a:=by
 have c1:¬(em=true∧(l≠[]∨h≠[])):=by intro c;unfold ck at b;rw[gT c]at b;cases b
 have c2:¬(l≠[]∧num l≠0):=by intro c;unfold ck at b;rw[gR c1,gT c]at b;exact c.2 b
 have c3:¬(h≠[]∧num h≠0):=by intro c;unfold ck at b;rw[gR c1,gR c2,gT c]at b;exact c.2 b
 have c4:¬(l≠[]∧h≠[]∧iv h < iv l):=by intro c;unfold ck at b;rw[gR c1,gR c2,gR c3,gT c]at b;cases b
 have key:∀ m:List UInt8,¬(m≠[]∧num m≠0)→∃ o:Option Int,bs m=ob o∧okb C o∧(o=none↔m=[])∧∀ z,o=some z→z=iv m:=by
  intro m t;by_cases d:m=[]
  ·exact⟨none,by rw[d];rfl,trivial,by simp[d],ψ⟩
  ·have n:num m=0:=by
    by_cases e:num m=0
    ·exact e
    ·exact absurd ⟨d,e⟩ t
   have e:=yj (sN.1 n).1;have j:=n;rw[e,vG]at j;exact⟨some (iv m),by rw[ob,←e],j,by simp[d],fun z u=>(y8.inj u).symm⟩
 obtain⟨o1,a1,b1,g,p⟩:=key l c2;obtain⟨o2,a2,b2,i,q⟩:=key h c3;refine⟨⟨em,o1,o2⟩,by rw[ac,a1,a2],⟨?_,b1,b2,?_⟩⟩
 ·intro k;constructor
  ·apply g.2;by_cases e:l=[]
   ·exact e
   ·exact absurd ⟨k,.inl e⟩ c1
  ·apply i.2;by_cases e:h=[]
   ·exact e
   ·exact absurd ⟨k,.inr e⟩ c1
 ·cases o1 with
  | none=>trivial
  | some x=>cases o2 with
   | none=>trivial
   | some y =>
    have r:l≠[]:=fun e=>by cases g.2 e
    have s:h≠[]:=fun e=>by cases i.2 e
    have e1:=p x rfl;have e2:=q y rfl;simp only[le?];by_cases f:x≤y
    ·exact f
    ·exact absurd ⟨r,s,ω⟩ c4
def ai0{a:A}(h:Wf a):∃ l m,ac a=(a.em,bs l,bs m,())∧ck a.em l m=0∧l.length≤101∧m.length≤101:=by
 have key:∀ o:Option Int,okb C o→∃ m,ob o=bs m∧(m≠[]→num m=0)∧(m=[]↔o=none)∧(∀ z,o=some z→iv m=z)∧m.length≤101:=by
  intro o n;cases o with
  | none=>exact⟨[],rfl,fun h=>absurd rfl h,ψ,ψ,ψ⟩
  | some z =>
   have i:=(vG z).2 n;exact⟨z7 z,rfl,fun _=>i,by simp[lJ z],fun u r=>by rw[dR];exact y8.inj r,wY i⟩
 obtain⟨l,a1,b1,c1,j,e1⟩:=key a.lo h.lo;obtain⟨m,a2,b2,c2,k,e2⟩:=key a.hi h.hi;refine⟨l,m,by rw[ac,a1,a2],?_,e1,e2⟩;unfold ck;have g:=h.em;have f:=h.le;rw[gR,gR,gR,gR]
 ·rintro ⟨e,b,s⟩;cases d:a.lo with
  | none=>exact e (c1.2 d)
  | some x=>cases c:a.hi with
   | none=>exact b (c2.2 c)
   | some y =>
    rw[d,c]at f;simp only[le?]at f;rw[j x d,k y c]at s;omega
 ·rintro ⟨e,b⟩;exact b (b2 e)
 ·rintro ⟨e,b⟩;exact b (b1 e)
 ·rintro ⟨e,b⟩;obtain⟨p,q⟩:=g e;rcases b with b | b
  ·exact b (c1.2 p)
  ·exact b (c2.2 q)
def lU(lf:Nat)(h3:200000≤lf){a:A}(h:Wf a):bJ.f lf (ac a)=some (0,()):=by
 obtain⟨l,m,e,b,c,d⟩:=ai0 h;rw[e,ade lf h3 _ _ _ ω ω,b]
def acf(lf:Nat)(h3:200000≤lf){a:A}(h:Wf a):kD.f lf (ac a)=some (0,()):=by
 obtain⟨l,m,e,b,c,d⟩:=ai0 h;rw[e,abG lf h3 _ _ _ ω ω ω ω,b]
def Wf.okC{a:A}(h:Wf a):oks C (ofA a):=ajv h.lo h.hi
def Wf.okK{a:A}(h:Wf a):oks K (ofA a):=h.okC.mono (zR fO)
def kK{a:A}(h:Wf a):emp (ofA a)=a.em:=by
 have i:=K_gt;have g:=fO;obtain⟨em,c,b⟩:=a;obtain⟨d,e,h3,f⟩:=h;unfold ofA;cases em with
 | true=>exact iG
 | false =>
  rw[gR ψ];apply gO;cases c<;>cases b<;>simp only[lox,hix,key,okb,le?]at*<;> omega
def leqA(s t:Sp):Bool:=emp s||(decide (key t.lo≤key s.lo)&&decide (key s.hi≤key t.hi))
def ajt(lf:Nat)(h3:200000≤lf){a b:A}(c:Wf a)(d:Wf b):qY.f lf (ac a) (ac b)=some (ac (toA (common (ofA a) (ofA b))),0,()):=by
 rw[qY.f];simp only[lU lf h3 c,lU lf h3 d,fa,bne_self_eq_false,fe,of_f,adf lf h3 c.okK d.okK,jP lf h3 (wu c.okK d.okK)]
def sV{s:Sp}(h:oks K s)(e:emp s=true∨(s.lo≠.pi∧s.hi≠.ni)):Wf (toA s):=by
  unfold toA;cases b:emp s with
  | true=>exact⟨fun _=>⟨rfl,rfl⟩,trivial,trivial,trivial⟩
  | false =>
    rw[gR ψ];have d:∀ x,okb C (tx x):=by
      intro x;cases x with
      | fin z=>
       unfold tx clip;simp only;split
       · assumption
       · trivial
      | ni=>trivial
      | pi=>trivial
    refine⟨(fun h=>by cases h),d _,d _,?_⟩;unfold emp at b;simp only[decide_eq_false_iff_not]at b;obtain⟨lo,hi⟩:=s;have c:∀ x:Option Int,le? x none:=fun x=>by cases x<;>trivial
    have a:∀ x:Option Int,le? none x:=fun x=>trivial;cases lo with
    | ni=>exact a _
    | pi=>exact a _
    | fin z=>cases hi with
      | ni=>exact c _
      | pi=>exact c _
      | fin u =>
        simp only[key]at b;simp only[tx,clip];split
        · split
          · simp only[le?];omega
          · exact c _
        · exact a _
def aif{s:Sp}(h:oks C s)(a:emp s=false)(b:s.lo≠.pi)(c:s.hi≠.ni):ofA (toA s)=s:=by
 unfold toA ofA;rw[a];simp only[zg,if_false];obtain⟨lo,hi⟩:=s;obtain⟨d,e⟩:=h;cases lo<;>cases hi<;>simp_all [tx,clip,lox,hix,okx]
def qO{x:Int}(h: -K < x∧x < K):(z7 x).length≤4097:=adr x ((sz_K x).2 h)
def lessI(lf:Nat)(h3:200000≤lf){x y:Int}(c: -K < x∧x < K)(d: -K < y∧y < K):aK.f lf (bs (z7 x)) (bs (z7 y))=some (decide (x < y),()):=by
 have a:=qO c;have b:=qO d;rw[ad6 lf _ _ (kL x) (kL y) ω ω h3,dR,dR]
def aga(lf:Nat)(o:Option Int)(h:okb K o):ig.f lf (ob o)=some (ob (o.bind clip),()):=by
 rw[ig.f,jd];cases o with
 | none=>simp[fe]
 | some z =>
  rw[gO ψ];simp only[zj,ff,ob];have c:=qO h;rw[rM lf _ (lJ z) ω,fa];simp only[wT,clip];have:=sz_C z;unfold sz at this;by_cases a:nlen (z7 z)≤100
  ·rw[gO ω,fe,gT (this.1 a)]
  ·rw[gP ω,ff,gR (fun b=>a (this.2 b))]
def gt? : Option Int→Option Int→Bool
 | some x,some y=>decide (y < x)
 | _,_=>false
def agm{a hi:Option Int}(b:okb K a)(c:okb K hi):emp ⟨lox a,hix hi⟩=gt? a hi:=by
 have d:=K_gt;unfold emp;cases a with
 | none=>cases hi with
  | none=>exact gO (by simp only[key,lox,hix];omega)
  | some y=>exact gO (by simp only[key,lox,hix];simp only[okb]at c;omega)
 | some x=>cases hi with
  | none=>exact gO (by simp only[key,lox,hix];simp only[okb]at b;omega)
  | some y=>rfl
def acY(o:Option Int):tx (lox o)=o.bind clip:=by cases o<;>rfl
def acX(o:Option Int):tx (hix o)=o.bind clip:=by cases o<;>rfl
def nK(lf:Nat)(h3:200000≤lf)(b a:Option Int)(c:okb K b)(d:okb K a):au.f lf (ob b) (ob a)=some (ac (toA ⟨lox b,hix a⟩),()):=by
 rw[au.f];simp only[jd,aga lf b c,aga lf a d,fa];unfold toA;rw[agm c d];simp only[acY,acX];cases b with
 | none=>simp[fe,ac,gt?]
 | some x=>cases a with
  | none=>simp[ff,fe,ac,gt?]
  | some y =>
   have e:aK.f lf (ob (some y)) (ob (some x))=some (decide (y < x),()):=lessI lf h3 d c;simp only[reduceCtorEq,decide_false,zj,ff,e,fa];by_cases h:y < x
   ·simp[gt?,h,ff,aX.f,fa,ac,ob]
   ·simp[gt?,h,fe,ac]
def leastO(x y:Option Int):Option Int:=match x,y with
 | some a,some b=>some (if b < a then b else a)
 | _,_=>none
def lH(x y:Option Int):Option Int:=match x,y with
 | some a,some b=>some (if a < b then b else a)
 | _,_=>none
def lowerO(x y:Option Int):Option Int:=match x,y with
 | none,y=>y
 | x,none=>x
 | some a,some b=>some (if a < b then b else a)
def upperO(x y:Option Int):Option Int:=match x,y with
 | none,y=>y
 | x,none=>x
 | some a,some b=>some (if b < a then b else a)
def abS(lf:Nat)(h3:200000≤lf)(x y:Option Int)(d:okb K x)(e:okb K y):jE.f lf (ob x) (ob y)=some (ob (leastO x y),()):=by
 rw[jE.f,jd,jd];cases x with
 | none=>simp[ff,leastO];rfl
 | some a=>cases y with
  | none=>simp[ff,fe,leastO];rfl
  | some b =>
   have c:aK.f lf (ob (some b)) (ob (some a))=some (decide (b < a),()):=lessI lf h3 e d;rw[c];by_cases h:b < a<;>simp[h,ff,fe,fa,leastO]
def zB(lf:Nat)(h3:200000≤lf)(x y:Option Int)(d:okb K x)(e:okb K y):iP.f lf (ob x) (ob y)=some (ob (lH x y),()):=by
 rw[iP.f,jd,jd];cases x with
 | none=>simp[ff,lH];rfl
 | some a=>cases y with
  | none=>simp[ff,fe,lH];rfl
  | some b =>
   have c:aK.f lf (ob (some a)) (ob (some b))=some (decide (a < b),()):=lessI lf h3 d e;rw[c];by_cases h:a < b<;>simp[h,ff,fe,fa,lH]
def afE(lf:Nat)(h3:200000≤lf)(x y:Option Int)(c:okb K x)(d:okb K y):mr.f lf (ob x) (ob y)=some (ob (lowerO x y),()):=by
 rw[mr.f,jd,jd,zB lf h3 x y c d];cases x with
 | none=>simp[ff,lowerO]
 | some a=>cases y with
  | none=>simp[ff,fe,lowerO]
  | some b=>simp[fe,fa,lowerO,lH]
def ab7(lf:Nat)(h3:200000≤lf)(x y:Option Int)(c:okb K x)(d:okb K y):jF.f lf (ob x) (ob y)=some (ob (upperO x y),()):=by
 rw[jF.f,jd,jd,abS lf h3 x y c d];cases x with
 | none=>simp[ff,upperO]
 | some a=>cases y with
  | none=>simp[ff,fe,upperO]
  | some b=>simp[fe,fa,upperO,leastO]
def okb.mono{k a:Int}(h:k≤a){o:Option Int}(b:okb k o):okb a o:=by cases o<;>simp only[okb]at *;omega
def ac4{x y:X}(h:key y < key x):xmin x y=y:=gT h
def aaq{x y:X}(h:¬key y < key x):xmin x y=x:=gR h
def abw{x y:X}(h:key x < key y):xmax x y=y:=gT h
def zi{x y:X}(h:¬key x < key y):xmax x y=x:=gR h
def abT{x y:Option Int}(c:okb K x)(d:okb K y):lox (leastO x y)=xmin (lox x) (lox y)∧okb K (leastO x y):=by
 have f:=K_gt;cases x with
 | none=>cases y with
  | none=>exact⟨(aaq (x:=lox none) (y:=lox none) ω).symm,trivial⟩
  | some b=>simp only[okb]at d;exact⟨(aaq (x:=lox none) (y:=lox (some b)) (show ¬b < -K from ω)).symm,trivial⟩
 | some a=>cases y with
  | none=>simp only[okb]at c;exact⟨(ac4 (x:=lox (some a)) (y:=lox none) (show -K < a from ω)).symm,trivial⟩
  | some b =>
   by_cases h:b < a
   ·have e:leastO (some a) (some b)=some b:=by simp[leastO,h]
    rw[e];exact⟨(ac4 (x:=lox (some a)) (y:=lox (some b)) (show b < a from h)).symm,d⟩
   ·have e:leastO (some a) (some b)=some a:=by simp[leastO,h]
    rw[e];exact⟨(aaq (x:=lox (some a)) (y:=lox (some b)) (show ¬b < a from h)).symm,c⟩
def zC{x y:Option Int}(c:okb K x)(d:okb K y):hix (lH x y)=xmax (hix x) (hix y)∧okb K (lH x y):=by
 have f:=K_gt;cases x with
 | none=>cases y with
  | none=>exact⟨(zi (x:=hix none) (y:=hix none) ω).symm,trivial⟩
  | some b=>simp only[okb]at d;exact⟨(zi (x:=hix none) (y:=hix (some b)) (show ¬K < b from ω)).symm,trivial⟩
 | some a=>cases y with
  | none=>simp only[okb]at c;exact⟨(abw (x:=hix (some a)) (y:=hix none) (show a < K from ω)).symm,trivial⟩
  | some b =>
   by_cases h:a < b
   ·have e:lH (some a) (some b)=some b:=by simp[lH,h]
    rw[e];exact⟨(abw (x:=hix (some a)) (y:=hix (some b)) (show a < b from h)).symm,d⟩
   ·have e:lH (some a) (some b)=some a:=by simp[lH,h]
    rw[e];exact⟨(zi (x:=hix (some a)) (y:=hix (some b)) (show ¬a < b from h)).symm,c⟩
def afF{x y:Option Int}(c:okb K x)(d:okb K y):lox (lowerO x y)=xmax (lox x) (lox y)∧okb K (lowerO x y):=by
 have f:=K_gt;cases x with
 | none=>cases y with
  | none=>exact⟨(zi (x:=lox none) (y:=lox none) ω).symm,trivial⟩
  | some b=>simp only[okb]at d;exact⟨(abw (x:=lox none) (y:=lox (some b)) (show -K < b from ω)).symm,d⟩
 | some a=>cases y with
  | none=>simp only[okb]at c;exact⟨(zi (x:=lox (some a)) (y:=lox none) (show ¬a < -K from ω)).symm,c⟩
  | some b =>
   by_cases h:a < b
   ·have e:lowerO (some a) (some b)=some b:=by simp[lowerO,h]
    rw[e];exact⟨(abw (x:=lox (some a)) (y:=lox (some b)) (show a < b from h)).symm,d⟩
   ·have e:lowerO (some a) (some b)=some a:=by simp[lowerO,h]
    rw[e];exact⟨(zi (x:=lox (some a)) (y:=lox (some b)) (show ¬a < b from h)).symm,c⟩
def abP{x y:Option Int}(c:okb K x)(d:okb K y):hix (upperO x y)=xmin (hix x) (hix y)∧okb K (upperO x y):=by
 have f:=K_gt;cases x with
 | none=>cases y with
  | none=>exact⟨(aaq (x:=hix none) (y:=hix none) ω).symm,trivial⟩
  | some b=>simp only[okb]at d;exact⟨(ac4 (x:=hix none) (y:=hix (some b)) (show b < K from ω)).symm,d⟩
 | some a=>cases y with
  | none=>simp only[okb]at c;exact⟨(aaq (x:=hix (some a)) (y:=hix none) (show ¬K < a from ω)).symm,c⟩
  | some b =>
   by_cases h:b < a
   ·have e:upperO (some a) (some b)=some b:=by simp[upperO,h]
    rw[e];exact⟨(ac4 (x:=hix (some a)) (y:=hix (some b)) (show b < a from h)).symm,d⟩
   ·have e:upperO (some a) (some b)=some a:=by simp[upperO,h]
    rw[e];exact⟨(aaq (x:=hix (some a)) (y:=hix (some b)) (show ¬b < a from h)).symm,c⟩
def aaV{a:A}(h:Wf a):toA (ofA a)=a:=by
 have e:=kK h;unfold toA;rw[e];obtain⟨em,d,c⟩:=a;obtain⟨b,f,h3,g⟩:=h;simp only at *
 cases em with
 | true=>obtain⟨rfl,rfl⟩:=b rfl;rfl
 | false =>
  simp only[ofA,zg,if_false,acY,acX];cases d<;>cases c<;>simp_all [okb,clip]
def Wf.loK{a:A}(h:Wf a):okb K a.lo:=h.lo.mono (zR fO)
def Wf.hiK{a:A}(h:Wf a):okb K a.hi:=h.hi.mono (zR fO)
def vC(lf:Nat)(h3:200000≤lf){a b:A}(c:Wf a)(d:Wf b):dP.f lf (ac a) (ac b)=some (ac (toA (hull (ofA a) (ofA b))),()):=by
 rw[dP.f];unfold hull;rw[kK c,kK d];cases e:a.em with
 | true=>simp only[ac,e,ff,if_true];rw[aaV d]
 | false=>cases g:b.em with
  | true=>simp only[ac,e,g,ff,fe,zg,if_false,if_true];rw[aaV c];simp only[ac,e]
  | false =>
   obtain⟨h,i⟩:=abT c.loK d.loK;obtain⟨j,k⟩:=zC c.hiK d.hiK;simp only[ac,e,g,fe,zg,if_false];rw[abS lf h3 _ _ c.loK d.loK,fa,zB lf h3 _ _ c.hiK d.hiK,fa,nK lf h3 _ _ i k,fa,h,j];simp only[ofA,e,g,zg,if_false,ac]
def aaK(lf:Nat)(h3:200000≤lf){a b:A}(c:Wf a)(d:Wf b):jf.f lf (ac a) (ac b)=some (ac (toA (common (ofA a) (ofA b))),()):=by
 have l:=K_gt;rw[jf.f];cases e:a.em with
 | true =>
  have:emp (common (ofA a) (ofA b))=true:=by
   have:=qV d.okK.1;have:=qV d.okK.2;unfold emp common;apply gP;rw[lK,kX];have:ofA a=non:=by unfold ofA;rw[gT e]
   rw[this];simp only[non,key];omega
  unfold toA;rw[this];simp only[ac,e,ff,aX.f,fa,if_true];rfl
 | false=>cases g:b.em with
  | true =>
   have:emp (common (ofA a) (ofA b))=true:=by
    have:=qV c.okK.1;have:=qV c.okK.2;unfold emp common;apply gP;rw[lK,kX];have:ofA b=non:=by unfold ofA;rw[gT g]
    rw[this];simp only[non,key];omega
   unfold toA;rw[this];simp only[ac,e,g,ff,fe,aX.f,fa,if_true];rfl
  | false =>
   obtain⟨h,i⟩:=afF c.loK d.loK;obtain⟨j,k⟩:=abP c.hiK d.hiK;simp only[ac,e,g,fe];rw[afE lf h3 _ _ c.loK d.loK,fa,ab7 lf h3 _ _ c.hiK d.hiK,fa,nK lf h3 _ _ i k,fa,h,j];simp only[common,ofA,e,g,zg,if_false,ac]
abbrev tl(b:ByteArray):List UInt8:=b.data.toList
def bel(v:Int)(a:X)(x:Int):X:=if x≤v then .fin x else a
def abo(v:Int)(x:Int)(a:X):X:=if x≥v then .fin x else a
def below(zs:List Int)(v:X):X:=zs.foldl (bel (key v)) .ni
def above(zs:List Int)(v:X):X:=zs.foldr (abo (key v)) .pi
structure Ks(s:Sp)(e:Bool):Prop where
 ok:oks K s
 e1:e=true→s=non
 e2:e=false→key s.lo≤key s.hi∧key s.lo < K∧-K < key s.hi
def Wf.ks{a:A}(h:Wf a):Ks (ofA a) a.em:=by
 have f:=K_gt;have d:=fO;refine⟨h.okK,fun e=>by unfold ofA;rw[gT e],fun e=>?_⟩;have:=kK h;rw[e]at this;unfold emp at this;simp only[decide_eq_false_iff_not]at this;refine⟨ω,?_,?_⟩
 ·unfold ofA;rw[gR (by simp[e])];have b:=h.lo;cases c:a.lo with
  | none=>simp only[lox,key];omega
  | some z=>rw[c]at b;simp only[lox,key,okb]at *;omega
 ·unfold ofA;rw[gR (by simp[e])];have b:=h.hi;cases c:a.hi with
  | none=>simp only[hix,key];omega
  | some z=>rw[c]at b;simp only[hix,key,okb]at *;omega
def ah7:key non.lo=K∧key non.hi= -K:=⟨rfl,rfl⟩
def Ks.keys{s:Sp}{e:Bool}(h:Ks s e):(key s.lo=K∧key s.hi= -K)∨(key s.lo≤key s.hi∧key s.lo < K∧-K < key s.hi):=by
 cases e with
 | true=>rw[h.e1 rfl];exact .inl ah7
 | false=>exact .inr (h.e2 rfl)
def adu(s t:Sp):leqA s t=decide (key s.lo > key s.hi∨(key t.lo≤key s.lo∧key s.hi≤key t.hi)):=by
 unfold leqA emp;by_cases a:key s.lo > key s.hi<;>by_cases b:key t.lo≤key s.lo<;>by_cases h3:key s.hi≤key t.hi<;>simp[a,b,h3]
def agM{s:Sp}(h:key s.lo < K):s.lo≠.pi:=by intro e;rw[e]at h;simp only[key]at h;omega
def agy{s:Sp}(h: -K < key s.hi):s.hi≠.ni:=by intro e;rw[e]at h;simp only[key]at h;omega
def aiD{s:Sp}(h:oks K s)(c:key s.lo≤key s.hi→key s.lo < K∧-K < key s.hi):Wf (toA s):=by
 refine sV h ?_;by_cases b:key s.lo > key s.hi
 ·exact .inl (gP b)
 ·have a:=c ω;exact .inr ⟨agM a.1,agy a.2⟩
def af2(x y:ByteArray):(x==y)=decide (x=y):=by
 have e:(x==y)=(x.data==y.data):=rfl;rw[e];obtain⟨x⟩:=x;obtain⟨y⟩:=y;by_cases h:x=y
 ·subst h;simp
 ·have:¬(⟨x⟩:ByteArray)=⟨y⟩:=fun e=>h (by injection e);rw[gO this];simpa using h
def inS(s:Sp)(z:Int):Bool:=decide (key s.lo≤z)&&decide (z≤key s.hi)
def agz(lf:Nat)(h3:200000≤lf){a:A}(b:Wf a){z:Int}(g: -K < z∧z < K):qE.f lf (ac a) (bs (z7 z))=some (inS (ofA a) z,0,()):=by
 rw[qE.f];have m:=qO g;have e:((0,bs (z7 z),()):EB)=xc (.fin z):=rfl;have i:okx K (.fin z):=g;obtain⟨c,c1,c2,c3⟩:=abK lf h3 b.okK.1 i;obtain⟨d,j,k,l⟩:=abK lf h3 i b.okK.2;simp only[lU lf h3 b,fa,bne_self_eq_false,fe,rU lf (z7 z) ω,(pM z).2 g,of_f,aY.f,e,sc,c1,j];unfold inS;rw[show key (.fin z)=z from rfl]at c2 c3 k l;by_cases h:key (ofA a).lo≤z
 ·rw[gP (show c≤0 from ω),ff,gP h,tL];congr 2;simp only[decide_eq_decide];omega
 ·rw[gO (show ¬c≤0 from ω),fe,gO h,Bool.false_and]
def ah9{z:Int}(a: -K < z∧z < K):decide (key (lox none)≤z)=true:=gP (show -K≤z from ω)
def ah1{z:Int}(a: -K < z∧z < K):decide (z≤key (hix none))=true:=gP (show z≤K from ω)
def aeS(x z:Int):decide (key (lox (some x))≤z)=!decide (z < x):=by
 show decide (x≤z)=!decide (z < x);by_cases h:z < x
 ·rw[gP h,gO ω];rfl
 ·rw[gO h,gP ω];rfl
def aeO(y z:Int):decide (z≤key (hix (some y)))=!decide (y < z):=by
 show decide (z≤y)=!decide (y < z);by_cases h:y < z
 ·rw[gP h,gO ω];rfl
 ·rw[gO h,gP ω];rfl
def ajq(lf:Nat)(h3:200000≤lf){a:A}(i:Wf a){z:Int}(g: -K < z∧z < K):oM.f lf (ac a) (bs (z7 z))=some (inS (ofA a) z,()):=by
 have l:=K_gt;rw[oM.f];cases e:a.em with
 | true =>
  have d:ofA a=non:=by unfold ofA;rw[gT e]
  rw[d];simp only[ac,e,ze,fe];have:decide (key non.lo≤z)=false:=gO (by rw[show key non.lo=K from rfl];omega);unfold inS;rw[this];rfl
 | false =>
  have d:ofA a=⟨lox a.lo,hix a.hi⟩:=by unfold ofA;rw[gR (by simp[e])]
  rw[d];unfold inS;simp only[ac,e,zj,ff,jd];have c:=i.loK;have b:=i.hiK;have hi:∀ o,okb K o→(br (decide (o=none)) (some (true,())) (bd (aK.f lf (ob o) (bs (z7 z))) fun r=>some ((!r.1),())))=some (decide (z≤key (hix o)),()):=by
   intro o d;cases o with
   | none=>rw[ah1 g];simp[ff]
   | some y =>
    have j:aK.f lf (ob (some y)) (bs (z7 z))=some (decide (y < z),()):=lessI lf h3 d g;rw[j,aeO];simp[fe,fa]
  cases k:a.lo with
  | none =>
   rw[ah9 g,tL,←hi _ b];simp[ff]
  | some x =>
   rw[k]at c;have h:aK.f lf (bs (z7 z)) (ob (some x))=some (decide (z < x),()):=lessI lf h3 g c;rw[h,aeS];simp only[reduceCtorEq,decide_false,fe,fa];cases decide (z < x)with
   | true=>simp[fe]
   | false =>
    simp only[zj,ff,tL];exact hi _ b
section
variable (lf:Nat)(h3:200000≤lf){e1 e2:Bool}{l1 m1 l2 m2:List UInt8}(a1:l1.length≤100000)(b1:m1.length≤100000)(a2:l2.length≤100000)(b2:m2.length≤100000)
include h3 a1 b1 a2 b2
end
section
variable (lf:Nat)(h3:200000≤lf){e1 e2:Bool}{l1 m1 l2 m2:List UInt8}(a1:l1.length≤100000)(b1:m1.length≤100000)(a2:l2.length≤100000)(b2:m2.length≤100000)
include h3 a1 b1 a2 b2
end
def rD(z:Int):(D z.natAbs).length=sz z:=by unfold sz nlen;rw[aac]
def aew:chk [48]=0:=δ
def iv48:iv [48]=0:=δ
def af5(lf:Nat)(h3:200000≤lf){z:Int}(a: -K < z∧z < K):jD.f lf (bs (z7 z))=some (bs (z7 (-z)),0,()):=by
 rw[jD.f,show(⟨#[48]⟩:ByteArray)=bs [48] from rfl,afn lf [48] (z7 z) aew ((pM z).2 a) h3,iv48,dR,Int.zero_sub,rD];have:sz (-z)≤4096:=(sz_K (-z)).2 ω;rw[gR ω,fa]
def agF(lf:Nat)(h3:200000≤lf){z:Int}(a: -K < z∧z < K):jB.f lf (bs (z7 z))=some (bs (z7 (-z)),()):=by
 rw[jB.f,af5 lf h3 a,fa]
def uM(lf:Nat){z:Int}(h: -K < z∧z < K):aZ.f lf (bs (z7 z))=some (bs (z7 (-z)),()):=by
 have i:=qO h;rw[aZ.f,show(⟨#[48]⟩:ByteArray)=bs [48] from rfl,lS];have i0:z7 0=[48]:=by unfold z7;rw[gR ω];exact qA
 by_cases d:z=0
 ·subst d;rw[gP i0,ff];rfl
 ·have c:z7 z≠[48]:=fun e=>d (pR (e.trans i0.symm));rw[gO c,fe,kT lf _ (lJ z),fa];simp only;by_cases g:z < 0
  ·have e:z7 z=45::D z.natAbs:=by unfold z7;rw[gT g]
   have b:z7 (-z)=D z.natAbs:=by unfold z7;rw[gR ω];congr 1;omega
   have a:neg (z7 z)=true:=by rw[e];rfl
   rw[a,ff,e,b,wJ (45::D z.natAbs) 1 1 rfl ψ,fa];rfl
  ·have e:z7 z=D z.toNat:=by unfold z7;rw[gR g]
   have b:z7 (-z)=45::D z.toNat:=by unfold z7;rw[gT ω];congr 2;omega
   have a:neg (z7 z)=false:=by rw[e];unfold neg;exact gO (wB _)
   rw[a,fe,b,show(⟨#[45]⟩:ByteArray)=bs [45] from rfl,aaR [45] _ (by simp;omega),fa,e];rfl
def xneg:X→X
 | .ni=>.pi
 | .fin z=>.fin (-z)
 | .pi=>.ni
def zZ{k:Int}{x:X}(h:okx k x):okx k (xneg x):=by cases x<;>simp only[xneg,okx]at*<;>(try trivial)<;>omega
def abn(lf:Nat)(h3:200000≤lf){x:X}(a:okx K x):lI.f lf (xc x)=some (xc (xneg x),()):=by
 rw[lI.f];cases x with
 | ni=>exact(ff _ _).trans (by rw[bQ.f,fa];rfl)
 | pi=>exact(ff _ _).trans (by rw[bQ.f,fa];rfl)
 | fin z =>
  simp only[xc,bne_self_eq_false,fe];rw[agF lf h3 a,fa,aY.f,fa];rfl
def turn(s:Sp):Sp:=if emp s=true then non else⟨xneg s.hi,xneg s.lo⟩
def gI{k:Int}{s:Sp}(h:oks k s):oks k (turn s):=by
 unfold turn;split
 ·exact jC
 ·exact⟨zZ h.2,zZ h.1⟩
def uP(lf:Nat)(h3:200000≤lf){s:Sp}(a:oks K s):ax.f lf (sc s)=some (sc (turn s),()):=by
 rw[ax.f,oZ lf h3 a,fa];unfold turn;cases emp s with
 | true=>rw[ff,yY,fa,gT rfl]
 | false =>
  rw[fe,gR ψ];simp only[sc];rw[abn lf h3 a.2,fa,abn lf h3 a.1,fa]
def aiQ(lf:Nat)(h3:200000≤lf){a:A}(b:Wf a):pI.f lf (ac a)=some (ac (toA (turn (ofA a))),0,()):=by
 rw[pI.f];simp only[lU lf h3 b,fa,bne_self_eq_false,fe,of_f,uP lf h3 b.okK,jP lf h3 (gI b.okK)]
def adG(lf:Nat){o:Option Int}(a:okb K o):jM.f lf (ob o)=some (ob (o.map fun z=> -z),()):=by
 rw[jM.f,jd];cases o with
 | none=>simp[ff];rfl
 | some z=>rw[show decide (some z=none)=false from ψ,fe,show ob (some z)=bs (z7 z) from rfl,uM lf a,fa];rfl
def aia(o:Option Int):lox (o.map fun z=> -z)=xneg (hix o):=by cases o<;>rfl
def ah2(o:Option Int):hix (o.map fun z=> -z)=xneg (lox o):=by cases o<;>rfl
def aeW{k:Int}{o:Option Int}(h:okb k o):okb k (o.map fun z=> -z):=by cases o<;>simp only[okb,xf]at*<;> omega
def nT(lf:Nat)(h3:200000≤lf){a:A}(b:Wf a):bF.f lf (ac a)=some (ac (toA (turn (ofA a))),()):=by
 rw[bF.f];unfold turn;rw[kK b];cases c:a.em with
 | true =>
  have d:toA non=⟨true,none,none⟩:=by unfold toA;rw[iG];rfl
  obtain⟨e,g⟩:=b.em c;simp only[ac,c,ff,if_true,d,e,g]
 | false =>
  simp only[ac,c,fe,zg,if_false];rw[adG lf b.hiK,fa,adG lf b.loK,fa,nK lf h3 _ _ (aeW b.hiK) (aeW b.loK),fa,aia,ah2];simp only[ofA,c,zg,if_false,ac]
def ad4(lf:Nat)(h3:200000≤lf){a b:A}(e:Wf a)(n:Wf b):lg.f lf (ac a) (ac b)=some (leqA (ofA a) (ofA b),()):=by
 have z:=K_gt;rw[lg.f];cases d:a.em with
 | true =>
  have:leqA (ofA a) (ofA b)=true:=by unfold leqA;rw[kK e,d];rfl
  rw[this];simp only[ac,d,ff]
 | false =>
  have B:=e.ks.e2 d;have s:ofA a=⟨lox a.lo,hix a.hi⟩:=by unfold ofA;rw[d];rfl
  cases m:b.em with
  | true =>
   have p:ofA b=non:=by unfold ofA;rw[m];rfl
   have:leqA (ofA a) (ofA b)=false:=by
    rw[adu,p];apply gO;rw[show key non.lo=K from rfl];omega
   rw[this];simp only[ac,d,m,ff,fe]
  | false =>
   have p:ofA b=⟨lox b.lo,hix b.hi⟩:=by unfold ofA;rw[m];rfl
   have g:leqA (ofA a) (ofA b)=(decide (key (lox b.lo)≤key (lox a.lo))&&decide (key (hix a.hi)≤key (hix b.hi))):=by
    unfold leqA;rw[kK e,d,s,p];rfl
   rw[g];have l:∀ x y:Option Int,okb K x→okb K y→decide (key (lox y)≤key (lox x))=match y,x with
     | none,_=>true
     | some v,some u=>!decide (u < v)
     | some _,none=>false:=by
    intro x y c r;cases y with
    | none=>exact gP (qV (aaO c)).1
    | some v=>cases x with
     | none=>exact gO (by simp only[lox,key,okb]at *;omega)
     | some u=>exact aeS v u
   have k:∀ x y:Option Int,okb K x→okb K y→decide (key (hix x)≤key (hix y))=match y,x with
     | none,_=>true
     | some v,some u=>!decide (v < u)
     | some _,none=>false:=by
    intro x y c r;cases y with
    | none=>exact gP (qV (aaN c)).2
    | some v=>cases x with
     | none=>exact gO (by simp only[hix,key,okb]at *;omega)
     | some u=>exact aeO v u
   rw[l _ _ e.loK n.loK,k _ _ e.hiK n.hiK];have l1:=e.loK;have l2:=n.loK;have l3:=e.hiK;have l4:=n.hiK;simp only[ac,d,m,fe,jd];cases q:b.lo with
   | none=>cases i:b.hi with
    | none=>simp[ff]
    | some v=>cases j:a.hi with
     | none=>simp[ff,fe]
     | some u =>
      rw[i]at l4;rw[j]at l3;have g:aK.f lf (ob (some v)) (ob (some u))=some (decide (v < u),()):=lessI lf h3 l4 l3;simp[ff,fe,g,fa]
   | some w=>cases o:a.lo with
    | none=>cases i:b.hi with
     | none=>simp[ff,fe]
     | some v=>cases j:a.hi with
      | none=>simp[ff,fe]
      | some u =>
       rw[i]at l4;rw[j]at l3;have g:aK.f lf (ob (some v)) (ob (some u))=some (decide (v < u),()):=lessI lf h3 l4 l3;simp[ff,fe,g,fa]
    | some t =>
     rw[q]at l2;rw[o]at l1;have h:aK.f lf (ob (some t)) (ob (some w))=some (decide (t < w),()):=lessI lf h3 l1 l2;cases i:b.hi with
     | none =>
      by_cases c:t < w<;>simp[ff,fe,h,fa,c]
     | some v=>cases j:a.hi with
      | none=>by_cases c:t < w<;>simp[ff,fe,h,fa,c]
      | some u =>
       rw[i]at l4;rw[j]at l3;have g:aK.f lf (ob (some v)) (ob (some u))=some (decide (v < u),()):=lessI lf h3 l4 l3;by_cases c:t < w<;>simp[ff,fe,h,g,fa,c]
section
variable (lf:Nat)(h3:200000≤lf){e1 e2:Bool}{l1 m1 l2 m2:List UInt8}(a1:l1.length≤100000)(b1:m1.length≤100000)(a2:l2.length≤100000)(b2:m2.length≤100000)
include h3 a1 b1 a2 b2
end
def abX(lf:Nat)(l:List UInt8)(x:l.length≤1000000):∀ (k n i j a:Nat),i+k=l.length→k < n→(l.drop i).all isDig=true→a < 10 ^ j→j+k≤18→
  bP.l0 lf (bs l) n ((a:Nat):Int) ((i:Nat):Int)=some (((((l.drop i).foldl (fun a b=>a*10+dig b) a:Nat):Int),()),()):=by
 intro k
 induction k with
 | zero =>
  intro n i j a t v f r u;obtain⟨m,rfl⟩:=zv (show n≠0 from ω);rw[bP.l0,bP.r0,jI,gO ω,fe,vt ω];rfl
 | succ k w =>
  intro n i j a t v f r u;obtain⟨m,rfl⟩:=zv (show n≠0 from ω);have d:i < l.length:=ω;rw[vr d,qT,zm]at f;have h:=f.1;have c:=h;unfold isDig at c;simp only[decide_eq_true_eq]at c;have p1:10 ^ (j+1)≤10 ^ 18:=q6 ω ω;have p2:10 ^ (j+1)=10 ^ j*10:=q5 ..;have y:(10:Nat) ^ 18=1000000000000000000:=δ;have s:=ack h;have e1:IntKind.u8.wrap (((l[i].toNat:Nat):Int)-48)=(dig l[i]:Int):=by
   rw[w8 ω ω];unfold dig;omega
  have e2:i64.wrap (((a:Nat):Int)*10)=((a*10:Nat):Int):=by rw[w64 ω ω];omega
  have o:i64.wrap ((dig l[i]:Nat):Int)=((dig l[i]:Nat):Int):=w64 ω ω;have p:i64.wrap (((a*10:Nat):Int)+((dig l[i]:Nat):Int))=((a*10+dig l[i]:Nat):Int):=by rw[w64 ω ω];omega
  have q:i64.wrap (((i:Nat):Int)+1)=((i+1:Nat):Int):=by rw[w64 ω ω];omega
  have g:((((l[i]).toNat:Nat):Int) != 45)=true:=by
   rw[bne,afq,gO (by intro e;rw[e]at c;simp at c)];rfl
  rw[bP.l0,bP.r0,jI,gP ω,ff,uy l _ i rfl d,fa,g,ff,fa,e1,e2,o,p,q,w m (i+1) (j+1) _ ω ω f.2 ω ω];rw[vr d,List.foldl_cons]
def tZ(lf:Nat)(h3:200000≤lf){z:Int}(n:sz z≤18):bP.f lf (bs (z7 z))=some (z,()):=by
 have o:=kL z;have i:=mM o;have m:(body (z7 z)).length≤18:=n;have q:=wG (z7 z);have p:nlen (z7 z)≤18:=n;have c:=dR z;have l:=agk _ i.1;have p1:10 ^ (body (z7 z)).length≤10 ^ 18:=q6 ω m;have s:(10:Nat) ^ 18=1000000000000000000:=δ;rw[bP.f];by_cases g:neg (z7 z)=true
 ·have e:(z7 z).head? = some 45:=by unfold neg at g;simpa using g
  obtain⟨r,d⟩:∃ r,z7 z=45::r:=by
   cases h:z7 z with
   | nil=>rw[h]at e;simp at e
   | cons b r=>rw[h]at e;simp at e;exact⟨r,by rw[e]⟩
  have a:body (z7 z)=r:=by unfold body;rw[gT e,d];rfl
  rw[a]at i m l p1;have j:bP.l0 lf (bs (z7 z)) ((lf+39)+1) 0 0=some ((((dv r:Nat):Int),()),()):=by
   have step:=abX lf (z7 z) ω r.length (lf+39) 1 0 0 (by rw[d,vh];omega) ω (by rw[d];exact i.1) δ ω;rw[bP.l0,bP.r0,jI,gP (by rw[d,vh];omega),ff,uy (z7 z) 0 0 rfl (by rw[d];simp),fa];have k:((((z7 z)[0]'(by rw[d];simp)).toNat:Nat):Int) != 45↔False:=by
    have:(z7 z)[0]'(by rw[d];simp)=45:=by simp[d]
    rw[this];decide
   rw[show(((((z7 z)[0]'(by rw[d];simp)).toNat:Nat):Int) != 45)=false from by rw[gC];exact fun h=>k.1 h,fe,show i64.wrap (0+1)=((1:Nat):Int) from δ];rw[show(0:Int)=((0:Nat):Int) from rfl,step];simp[d,dv]
  rw[show lf+40=(lf+39)+1 from rfl,j,fa,kT lf _ i.2.2,fa];simp only[g,ff];unfold iv at c;rw[gT g,a]at c;rw[w64 ω ω];congr 2;omega
 ·have e:(z7 z).head?≠some 45:=by unfold neg at g;simpa using g
  have a:body (z7 z)=z7 z:=by unfold body;rw[gR e]
  have j:=abX lf (z7 z) ω (z7 z).length (lf+40) 0 0 0 ω ω (by rw[xD,←a];exact i.1) δ (by rw[←a];omega);rw[show((0:Nat):Int)=0 from rfl]at j;rw[j,fa,kT lf _ i.2.2,fa];simp only[g,fe];unfold iv at c;rw[gR g,a]at c;rw[xD];exact congrArg (fun x:Int=>some (x,())) c
def D0(m:Nat):List UInt8:=if m=0 then []else D m
def ahQ{m:Nat}(h:m≠0):D0 m=D0 (m / 10)++[dch (m % 10)]:=by
 unfold D0;rw[gR h];by_cases a:m < 10
 ·rw[gT ω,vv];show Lib.decDigits m=_;rw[nG a,n9 a]
 ·rw[gR ω];exact wQ a
def afT(d:Nat)(h:d < 10):(([48,49,50,51,52,53,54,55,56,57]:List UInt8).drop d).take 1=[dch d]:=by
 have:∀ d:Fin 10,(([48,49,50,51,52,53,54,55,56,57]:List UInt8).drop d.val).take 1=[dch d.val]:=by decide +kernel
 exact this ⟨d,h⟩
def ahO(lf:Nat)(s:Int):∀ (k n m:Nat) (v:Int) (a:List UInt8),m < 10 ^ k→k < n→(v=(m:Int)∨v= -(m:Int))→m≤9223372036854775808→(v=(m:Int)→m≤9223372036854775807)→a.length+k≤1000000→
  bW.l0 lf s n (bs a) v=some ((bs (D0 m++a),()),()):=by
 intro k
 induction k with
 | zero =>
  intro n m v a i q c _ _ _;obtain⟨f,rfl⟩:=zv (show n≠0 from ω);obtain rfl:m=0:=by simpa using i
  obtain rfl:v=0:=ω;rw[bW.l0,bW.r0,bne_self_eq_false,fe];rfl
 | succ k r =>
  intro n m v a i q c u p h;obtain⟨f,rfl⟩:=zv (show n≠0 from ω);by_cases g:m=0
  ·subst g;obtain rfl:v=0:=ω;rw[bW.l0,bW.r0,bne_self_eq_false,fe];rfl
  have t:v≠0:=ω;have p2:10 ^ (k+1)=10 ^ k*10:=q5 ..;have d:vA v 10=((m % 10:Nat):Int)∨vA v 10= -((m % 10:Nat):Int):=by
   rcases c with rfl | rfl
   ·left;rw[j3 ω];omega
   ·right;rw[Int.neg_tmod,j3 ω];omega
  have eq:(v=(m:Int)∧q7 v 10=((m / 10:Nat):Int))∨(v= -(m:Int)∧q7 v 10= -((m / 10:Nat):Int)):=by
   rcases c with rfl | rfl
   ·left;exact⟨rfl,by rw[j5 ω];omega⟩
   ·right;exact⟨rfl,by rw[Int.neg_tdiv,j5 ω];omega⟩
  have e1:iRem v 10=some (vA v 10):=by unfold iRem;rw[gR δ]
  have e2:iQuo .i64 v 10=some (q7 v 10):=by
   unfold iQuo;rw[gR δ];congr 1;apply w64<;>rcases eq with⟨_,e⟩ | ⟨_,e⟩<;>rw[e]<;>omega
  have j:i64.wrap (0-vA v 10)=0-vA v 10:=by apply w64<;>rcases d with e | e<;>rw[e]<;>omega
  have l:(if 0-vA v 10 > vA v 10 then 0-vA v 10 else vA v 10)=((m % 10:Nat):Int):=by
   rcases d with e | e<;>rw[e]<;>split<;>omega
  have o:i64.wrap (((m % 10:Nat):Int)+1)=((m % 10+1:Nat):Int):=by rw[w64 ω ω];omega
  have b:m % 10 < 10:=Nat.mod_lt _ ω;rw[bW.l0,bW.r0,show(v != 0)=true by simpa using t,ff,e1,fa,fa,j,l,o,
   show(⟨#[48,49,50,51,52,53,54,55,56,57]⟩:ByteArray)=bs [48,49,50,51,52,53,54,55,56,57] from rfl,afi _ _ _ (m % 10) (m % 10+1) rfl rfl ω (by simp;omega),fa,
   Nat.add_sub_cancel_left,afT _ b,aaR _ _ (by simp;omega),fa,e2,fa,r f (m / 10) _ _ ω ω (by rcases eq with⟨_,e⟩ | ⟨_,e⟩<;>rw[e]<;>omega) ω ω (by simp;omega),ahQ g]
  simp
def aap(lf:Nat)(h3:200000≤lf){z:Int}(d: -9223372036854775808≤z)(e:z≤9223372036854775807):bW.f lf z=some (bs (z7 z),()):=by
 have c:(10:Nat) ^ 19=10000000000000000000:=δ;rw[bW.f];by_cases b:z=0
 ·subst b;rw[BEq.rfl,ff];have i0:z7 0=[48]:=by unfold z7;rw[gR ω];exact qA
  rw[i0]
 ·rw[show(z==0)=false from beq_eq_false_iff_ne.2 b,fe,show(⟨#[]⟩:ByteArray)=bs [] from rfl,
   ahO lf z 19 (lf+40) z.natAbs z [] ω ω ω ω ω ψ,fa]
  simp only[tc];have e0:D0 z.natAbs=D z.natAbs:=by unfold D0;rw[gR ω]
  rw[e0];by_cases a:z < 0
  ·have g:(D z.natAbs).length≤19:=oW 18 _ ω;rw[gP a,ff,show(⟨#[45]⟩:ByteArray)=bs [45] from rfl,aaR [45] _ (by simp;omega),fa];unfold z7;rw[gT a];rfl
  ·rw[gO a,fe];unfold z7;rw[gR a,show z.natAbs=z.toNat by omega]
def bl(l:List Int):List UInt8:=l.reverse.map fun d=>dch d.toNat
def aeu(l:List Int)(d:Int):bl (l++[d])=dch d.toNat::bl l:=by simp[bl]
def aj8{l:List Int}(h:Dg 10 l):ld (bl l)=l:=by
 unfold ld bl;rw[←List.map_reverse,List.reverse_reverse,List.map_map]
 conv=>rhs;rw[←List.map_id l]
 apply List.map_congr_left;intro d a;have:=h d a;simp only[Function.comp,id];rw[acj ω];omega
def ai5{l:List Int}(h:Dg 10 l):(bl l).all isDig=true:=by
 rw[ym];intro b a;unfold bl at a;obtain⟨d,c,rfl⟩:=yy.1 a;have:=h d (by simpa using c);exact aag ω
def ai7(l:List Int):(bl l).length=l.length:=by simp[bl]
def ai6{l:List Int}(h:Dg 10 l)(b:Tr l)(a:l≠[]):bl l=D (lv 10 l).toNat:=by
 have c:dv (bl l)=(lv 10 l).toNat:=by
  have:=aeT (bl l);rw[aj8 h]at this;omega
 rw[←c];apply adU (ai5 h)
 ·intro e;apply a;have:=ai7 l;rw[e]at this;exact wc.1 this.symm
 ·left;obtain⟨m,x,rfl⟩:∃ m x,l=m++[x]:=⟨l.dropLast,l.getLast a,(List.dropLast_concat_getLast a).symm⟩
  have f:=h x ψ;have d:x≠0:=by intro e;subst e;simp[Tr]at b
  unfold bl;rw[List.reverse_append];simp only[List.reverse_singleton,List.singleton_append,rz,List.head?_cons,ne_eq,y8.injEq];intro e;have:=congrArg UInt8.toNat e;rw[zl ω]at this;simp at this;omega
def aar(a:List UInt8)(d:Int)(c:0≤d)(e:d < 10):(a.map fun b=>(b.toNat:Int))++[IntKind.u8.wrap (i64.wrap (48+d))]=(a++[dch d.toNat]).map fun b=>(b.toNat:Int):=by
 rw[w64 ω ω,w8 ω ω,List.map_append];simp only[rz,List.map_nil];rw[zl ω];congr 2;omega
def aib(lf:Nat)(l q:List Int)(h:Dg 10 l)(j:l.length≤1000000):∀ (k n:Nat) (a:List UInt8),k≤l.length→k < n→a.length+k≤1100000→
  bg.l0 lf l q n (((k:Nat):Int)-1) (a.map fun b=>(b.toNat:Int))=some (((a++bl (l.take k)).map fun b=>(b.toNat:Int),()),()):=by
 intro k
 induction k with
 | zero =>
  intro n a f g e;obtain⟨m,rfl⟩:=zv (show n≠0 from ω);rw[bg.l0,bg.r0,gO ω,fe];simp[bl]
 | succ k i =>
  intro n a f g e;obtain⟨m,rfl⟩:=zv (show n≠0 from ω);have c:k < l.length:=ω;have d:=h.at k c;rw[bg.l0,bg.r0,show((k+1:Nat):Int)-1=((k:Nat):Int) by omega,gP ω,ff,iE _ _ c,fa,pY _ _ _ δ (by simp;omega),fa,w64 (n:=((k:Nat):Int)-1) ω ω,
   aar a _ d.1 d.2,i m _ ω ω (by simp;omega)]
  rw[←pg c,aeu];simp
def aic(lf:Nat)(l:List Int)(h:Dg 10 l)(j:l.length≤1000000):∀ (k n:Nat) (a:List UInt8),k≤l.length→k < n→a.length+k≤1100000→
  bg.l1 lf l n (((k:Nat):Int)-1) (a.map fun b=>(b.toNat:Int))=some (((a++bl (l.take k)).map fun b=>(b.toNat:Int),()),()):=by
 intro k
 induction k with
 | zero =>
  intro n a f g e;obtain⟨m,rfl⟩:=zv (show n≠0 from ω);rw[bg.l1,bg.r1,gO ω,fe];simp[bl]
 | succ k i =>
  intro n a f g e;obtain⟨m,rfl⟩:=zv (show n≠0 from ω);have c:k < l.length:=ω;have d:=h.at k c;rw[bg.l1,bg.r1,show((k+1:Nat):Int)-1=((k:Nat):Int) by omega,gP ω,ff,iE _ _ c,fa,pY _ _ _ δ (by simp;omega),fa,w64 (n:=((k:Nat):Int)-1) ω ω,
   aar a _ d.1 d.2,i m _ ω ω (by simp;omega)]
  rw[←pg c,aeu];simp
def xN(lf:Nat)(h3:200000≤lf){l:List Int}(h:Dg 10 l)(j:l.length≤100000)(b:Bool):bg.f lf l b=some (bs (z7 (if b=true then -lv 10 l else lv 10 l)),()):=by
 have d:=qB h;have i:=tH l;have e:=oU 10 l;have g:=nS l;rw[bg.f,vK lf l j h3,fa];simp only;by_cases c:tr l=[]
 ·rw[c]at e;have k:lv 10 l=0:=by rw[←e];rfl
  have i0:z7 0=[48]:=by unfold z7;rw[gR ω];exact qA
  rw[c,show((([]:List Int).length:Nat):Int)==0 from rfl,ff,k];cases b<;>simp[i0]
 ·have l0:0 < (tr l).length:=vj.2 c;have m:=vF (B:=10) δ d i c;have a:=ai6 d i c;rw[e]at m a;rw[show((((tr l).length:Nat):Int)==0)=false from beq_eq_false_iff_ne.2 ω,fe,w64 ω ω];cases b with
  | true =>
   have:=aib lf (tr l) [45] d ω (tr l).length (lf+40) [45] (za _) ω (by simp;omega);rw[show([45]:List UInt8).map (fun b=>(b.toNat:Int))=[45] from rfl]at this;rw[ff,pY _ _ _ δ ψ,fa,vv,this,fa,gT trivial,fa,wM,pB,a,gT rfl];unfold z7;rw[gT ω,show(-lv 10 l).natAbs=(lv 10 l).toNat by omega];rfl
  | false =>
   have:=aic lf (tr l) d ω (tr l).length (lf+40) [] (za _) ω (by simp;omega);rw[show([]:List UInt8).map (fun b=>(b.toNat:Int))=[] from rfl]at this;rw[fe,this,fa,gT trivial,fa,wM,pB,vv,a,gR ψ];unfold z7;rw[gR ω]
def adO(lf:Nat)(l:List Int)(i:Nat):iZ.f lf l ((i:Nat):Int)=some (l.getD i 0,()):=by
 rw[iZ.f];by_cases h:i < l.length
 ·rw[gP ω,ff,iE _ _ h,fa,getD_lt _ _ h]
 ·rw[gO ω,fe,wU _ _ h]
def ahh(lf:Nat)(xs a:List Int)(N:Nat)(q:Dg 10 xs)(r:Dg 10 a)(w:N=max xs.length a.length+1)(x:N≤1000000):∀ (k n i:Nat) (c:Int) (out:List Int),i+k=N→out.length=i→0≤c→c≤1→k < n→
  fE.l0 lf xs a n c (i:Nat) out=some ((out++addL 10 (xs.drop i) (a.drop i) c k,()),()):=by
 have d:i64.wrap ((if(a.length:Int) >(xs.length:Int)then(a.length:Int)else(xs.length:Int))+1)=((N:Nat):Int):=by
  have e:(if(a.length:Int) >(xs.length:Int)then(a.length:Int)else(xs.length:Int))=((max xs.length a.length:Nat):Int):=by split<;>omega
  rw[e,w64 ω ω];omega
 intro k
 induction k with
 | zero =>
  intro n i c out j o g h l;obtain⟨m,rfl⟩:=zv (show n≠0 from ω);rw[fE.l0,fE.r0,d,gO ω,fe,addL,tc]
 | succ k t =>
  intro n i c out j o g h l;obtain⟨m,rfl⟩:=zv (show n≠0 from ω);have u:=q.getD δ i;have v:=r.getD δ i;obtain⟨s,p⟩:∃ s,s=c+xs.getD i 0+a.getD i 0:=⟨_,rfl⟩
  have b:0≤s:=ω;have e1:i64.wrap (xs.getD i 0+a.getD i 0)=xs.getD i 0+a.getD i 0:=w64 ω ω;have e2:i64.wrap (c+(xs.getD i 0+a.getD i 0))=s:=by rw[w64 ω ω];omega
  have f:i64.wrap (((i:Nat):Int)+1)=((i+1:Nat):Int):=by rw[w64 ω ω];omega
  rw[fE.l0,fE.r0,d,gP ω,ff,adO,fa,adO,fa,e1,e2,uT b δ,fa,pY _ _ _ δ (by simp;omega),fa,rW b δ ω,fa,f,
   t m (i+1) _ _ ω (by simp;omega) (vR b δ) ω ω,addL,pG,pG,pJ,pJ,←p]
  simp
def afN(lf:Nat)(h3:200000≤lf){xs ys:List Int}(a:Dg 10 xs)(b:Dg 10 ys)(i:xs.length≤90000)(j:ys.length≤90000):
  ∃ l,fE.f lf xs ys=some (l,())∧Dg 10 l∧Tr l∧l.length≤max xs.length ys.length+1∧lv 10 l=lv 10 xs+lv 10 ys:=by
 obtain⟨N,c⟩:∃ N,N=max xs.length ys.length+1:=⟨_,rfl⟩
 refine⟨tr (addL 10 xs ys 0 N),?_,qB (ach δ _ _ _ _),tH _,?_,?_⟩
 ·have:=ahh lf xs ys N a b c ω N (lf+40) 0 0 [] ω rfl ω ω ω;rw[show((0:Nat):Int)=0 from rfl]at this;rw[fE.f,this,fa,xD,xD,vv,vK lf _ (by rw[vY];omega) h3,fa]
 ·have:=nS (addL 10 xs ys 0 N);rw[vY]at this;omega
 ·rw[oU,acA δ,pf];have a1:=rH (B:=10) δ a;have a2:=rH (B:=10) δ b;have e:=nH (B:=10) δ (show xs.length≤max xs.length ys.length from ω);have d:=nH (B:=10) δ (show ys.length≤max xs.length ys.length from ω);have g:=dw (B:=10) δ a;have h:=dw (B:=10) δ b;apply p9 ω;rw[c,wy];omega
def afL(lf:Nat)(xs a:List Int)(u:Dg 10 xs)(w:Dg 10 a)(A:xs.length≤1000000):∀ (k n i:Nat) (c:Int) (out:List Int),i+k=xs.length→out.length=i→0≤c→c≤1→k < n→
  bY.l0 lf xs a n c (i:Nat) out=some ((out++subL 10 (xs.drop i) (a.drop i) c k,()),()):=by
 intro k
 induction k with
 | zero =>
  intro n i c out q s j l r;obtain⟨m,rfl⟩:=zv (show n≠0 from ω);rw[bY.l0,bY.r0,gO ω,fe,subL,tc]
 | succ k x =>
  intro n i c out q s j l r;obtain⟨m,rfl⟩:=zv (show n≠0 from ω);have e:i < xs.length:=ω;have y:=u.at i e;have z:=w.getD δ i;obtain⟨d,p⟩:∃ d,d=xs[i]-c-a.getD i 0:=⟨_,rfl⟩
  have e1:i64.wrap (xs[i]-a.getD i 0)=xs[i]-a.getD i 0:=w64 ω ω;have e2:i64.wrap (xs[i]-a.getD i 0-c)=d:=by rw[w64 ω ω];omega
  have g:i64.wrap (((i:Nat):Int)+1)=((i+1:Nat):Int):=by rw[w64 ω ω];omega
  have h:∀ (v f:Int),v=d % 10→f= -(d / 10)→0≤f→f≤1→bY.l0 lf xs a m f ((i+1:Nat):Int) (out++[v])=some ((out++subL 10 (xs.drop i) (a.drop i) c (k+1),()),()):=by
   intro v f t o c0 c1;rw[x m (i+1) f _ ω (by simp;omega) c0 c1 ω,subL,pG,pG,pJ,pJ,getD_lt _ _ e,←p,t,o];simp
  rw[bY.l0,bY.r0,gP ω,ff,iE _ _ e,fa,adO,fa,e1,e2];by_cases b:d < 0
  ·rw[gP b,ff,pY _ _ _ δ (by simp;omega),fa,w64 (n:=d+10) ω ω,g];exact h _ 1 ω ω ω ω
  ·rw[gO b,fe,pY _ _ _ δ (by simp;omega),fa,g];exact h _ 0 ω ω ω ω
def yZ(lf:Nat)(h3:200000≤lf){xs ys:List Int}(a:Dg 10 xs)(b:Dg 10 ys)(e:xs.length≤90000)(c:lv 10 ys≤lv 10 xs):
  ∃ l,bY.f lf xs ys=some (l,())∧Dg 10 l∧Tr l∧l.length≤xs.length∧lv 10 l=lv 10 xs-lv 10 ys:=by
 refine⟨tr (subL 10 xs ys 0 xs.length),?_,qB (aci δ _ _ _ _),tH _,?_,?_⟩
 ·have:=afL lf xs ys a b ω xs.length (lf+40) 0 0 [] ω rfl ω ω ω;rw[show((0:Nat):Int)=0 from rfl]at this;rw[bY.f,this,fa,xD,xD,vv,vK lf _ (by rw[wK];omega) h3,fa]
 ·have:=nS (subL 10 xs ys 0 xs.length);rw[wK]at this;exact this
 ·rw[oU,acC δ];have a1:=rH (B:=10) δ a;have d:=dw (B:=10) δ b;rw[show lv 10 xs-0-lv 10 ys=lv 10 xs-lv 10 ys by omega];exact p9 ω ω
def ld_body{z:Int}:Dg 10 (ld (body (z7 z)))∧lv 10 (ld (body (z7 z)))=(z.natAbs:Int)∧(ld (body (z7 z))).length=sz z:=by
 refine⟨agJ (mM (kL z)).1,?_,by rw[acy];rfl⟩;rw[aeT];have h:=dR z;unfold iv at h;split at h<;>omega
def wH(z:Int):neg (z7 z)=decide (z < 0):=by
 by_cases h:z < 0
 ·rw[gP h];exact(acv (kL z)).1 (by rw[dR];exact h)
 ·rw[gO h,gC];intro e;have:=(acv (kL z)).2 e;rw[dR]at this;omega
def xK(z:Int):(z7 z).length≤sz z+1:=wG _
def yE(lf:Nat){z:Int}(a:sz z≤50000)(n:Int):iC.f lf (bs (z7 z)) n=some (decide ((sz z:Int)≤n),()):=by
 have:=xK z;rw[iC.f,rM lf _ (lJ z) ω,fa];rfl
def vX{z:Int}{k:Nat}(h:sz z≤k)(c:1≤k):(z.natAbs:Int) < 10 ^ k:=by
 have a:=ld_body (z:=z);have b:=rH (B:=10) δ a.1;rw[a.2.1,a.2.2]at b;have:=nH (B:=10) δ h;omega
def adv(lf:Nat)(h3:200000≤lf){x y:Int}(s:sz x≤50000)(t:sz y≤50000):
    (bd (aW.f lf (bs (z7 x))) fun r6 =>
 bd (aW.f lf (bs (z7 y))) fun r7 =>
 bd (aA.f lf (bs (z7 x))) fun r8 =>
 bd (aA.f lf (bs (z7 y))) fun r9 =>
 br (r8.1==r9.1) (
 bd (fE.f lf r6.1 r7.1) fun r10 =>
 bd (aA.f lf (bs (z7 x))) fun r11 =>
 bd (bg.f lf r10.1 r11.1) fun r12 =>
 some (r12.1,())) (
 bd (aN.f lf r6.1) fun r13 =>
 bd (aN.f lf r7.1) fun r14 =>
 bd (dh.f lf r13.1 r14.1) fun r15 =>
 br (decide (r15.1≥0)) (
 bd (bY.f lf r6.1 r7.1) fun r16 =>
 bd (aA.f lf (bs (z7 x))) fun r17 =>
 bd (bg.f lf r16.1 r17.1) fun k =>
 some (k.1,())) (
 bd (bY.f lf r7.1 r6.1) fun m =>
 bd (aA.f lf (bs (z7 y))) fun n =>
 bd (bg.f lf m.1 n.1) fun o =>
 some (o.1,()))))=some (bs (z7 (x+y)),()):=by
  have a:=ld_body (z:=x);have b:=ld_body (z:=y);have u:=xK x;have v:=xK y;rw[qC lf _ (kL x) ω h3,fa,qC lf _ (kL y) ω h3,fa,kT lf _ (lJ x),fa,kT lf _ (lJ y),fa];simp only[wH];by_cases j:decide (x < 0)=decide (y < 0)
  · rw[beq_iff_eq.2 j,ff]
    obtain⟨l,e,g,p,q,h⟩:=afN lf h3 a.1 b.1 ω ω;rw[e,fa];simp only[fa];rw[xN lf h3 g ω,fa,h,a.2.1,b.2.1];refine congrArg (fun z:Int=>some (bs (z7 z),())) ?_;have d:(x < 0↔y < 0):=by simpa using j
    by_cases c:x < 0
    · have:=d.1 c
      rw[gP c,gT rfl];omega
    · have:¬y < 0:=fun e=>c (d.2 e)
      rw[gO c,gR ψ];omega
  · rw[beq_eq_false_iff_ne.2 j,fe,vK lf _ ω h3,fa,vK lf _ ω h3,fa]
    simp only;rw[zK lf _ _ (qB a.1) (qB b.1) (tH _) (tH _) (by have:=nS (ld (body (z7 x)));omega) (by have:=nS (ld (body (z7 y)));omega) h3,fa,oU,oU,a.2.1,b.2.1];simp only;have d:¬(x < 0↔y < 0):=by simpa using j
    by_cases r:(x.natAbs:Int)-(y.natAbs:Int) < 0
    · rw[gO (by unfold sgn;rw[gT r];decide),fe]
      obtain⟨l,e,g,p,q,h⟩:=yZ lf h3 b.1 a.1 ω (by rw[a.2.1,b.2.1];omega);rw[e,fa];simp only[fa];rw[xN lf h3 g ω,fa,h,a.2.1,b.2.1];refine congrArg (fun z:Int=>some (bs (z7 z),())) ?_;by_cases i:y < 0
      · rw[gP i,gT rfl];omega
      · rw[gO i,gR ψ];omega
    · rw[gP (by unfold sgn;rw[gR r];split<;>decide),ff]
      obtain⟨l,e,g,p,q,h⟩:=yZ lf h3 a.1 b.1 ω (by rw[a.2.1,b.2.1];omega);rw[e,fa];simp only[fa];rw[xN lf h3 g ω,fa,h,a.2.1,b.2.1];refine congrArg (fun z:Int=>some (bs (z7 z),())) ?_;by_cases c:x < 0
      · rw[gP c,gT rfl];omega
      · rw[gO c,gR ψ];omega
def acS(lf:Nat)(h3:200000≤lf){x y:Int}(c:sz x≤50000)(d:sz y≤50000):dD.f lf (bs (z7 x)) (bs (z7 y))=some (bs (z7 (x+y)),()):=by
 rw[dD.f,yE lf c,fa];simp only;by_cases c1:(sz x:Int)≤17
 ·rw[gP c1,ff,yE lf d,fa];simp only;by_cases c2:(sz y:Int)≤17
  ·have a:=vX (z:=x) (k:=17) ω ω;have b:=vX (z:=y) (k:=17) ω ω;have p:(10:Int) ^ 17=100000000000000000:=δ;rw[gP c2,ff,tZ lf h3 ω,fa,tZ lf h3 ω,fa];simp only;rw[w64 ω ω,aap lf h3 ω ω,fa]
  ·rw[gO c2,fe];exact adv lf h3 c d
 ·rw[gO c1,fe];exact adv lf h3 c d
def ajJ(z:Int):sz (-z)=sz z:=by rw[←rD,←rD,Int.natAbs_neg]
def agW(lf:Nat){z:Int}(i:sz z≤50000):aZ.f lf (bs (z7 z))=some (bs (z7 (-z)),()):=by
 have h:=xK z;rw[aZ.f,show(⟨#[48]⟩:ByteArray)=bs [48] from rfl,lS];have i0:z7 0=[48]:=by unfold z7;rw[gR ω];exact qA
 by_cases d:z=0
 ·subst d;rw[gP i0,ff];rfl
 ·have c:z7 z≠[48]:=fun e=>d (pR (e.trans i0.symm));rw[gO c,fe,kT lf _ (lJ z),fa];simp only;by_cases g:z < 0
  ·have e:z7 z=45::D z.natAbs:=by unfold z7;rw[gT g]
   have b:z7 (-z)=D z.natAbs:=by unfold z7;rw[gR ω];congr 1;omega
   have a:neg (z7 z)=true:=by rw[e];rfl
   rw[a,ff,e,b,wJ (45::D z.natAbs) 1 1 rfl ψ,fa];rfl
  ·have e:z7 z=D z.toNat:=by unfold z7;rw[gR g]
   have b:z7 (-z)=45::D z.toNat:=by unfold z7;rw[gT ω];congr 2;omega
   have a:neg (z7 z)=false:=by rw[e];unfold neg;exact gO (wB _)
   rw[a,fe,b,show(⟨#[45]⟩:ByteArray)=bs [45] from rfl,aaR [45] _ (by simp;omega),fa,e];rfl
def zo(lf:Nat)(h3:200000≤lf){x y:Int}(b:sz x≤50000)(a:sz y≤50000):aU.f lf (bs (z7 x)) (bs (z7 y))=some (bs (z7 (x-y)),()):=by
 rw[aU.f,agW lf a,fa,acS lf h3 b (by rw[ajJ];exact a),fa,←nL]
def xO(lf:Nat)(h3:200000≤lf){x y:Int}(t:sz x≤40000)(u:sz y≤40000):aO.f lf (bs (z7 x)) (bs (z7 y))=some (bs (z7 (x*y)),()):=by
 have v:=xK x;have w:=xK y;rw[aO.f,rM lf _ (lJ x) ω,fa,rM lf _ (lJ y) ω,fa];simp only;rw[show nlen (z7 x)=sz x from rfl,show nlen (z7 y)=sz y from rfl,w64 ω ω];by_cases c:(sz x:Int)+(sz y:Int)≤18
 ·have n:1≤sz x:=by
   have:=(mM (kL x)).2.1;exact vj.2 this
  have o:1≤sz y:=by
   have:=(mM (kL y)).2.1;exact vj.2 this
  have a:=vX (z:=x) (k:=sz x) (za _) n;have b:=vX (z:=y) (k:=sz y) (za _) o;have p:(10:Int) ^ 18=1000000000000000000:=δ;have m1:(x*y).natAbs≤1000000000000000000:=by
   rw[pm];have i:((x.natAbs:Int))*((y.natAbs:Int))≤10 ^ sz x*10 ^ sz y:=sL ω ω ω ω;rw[←pL]at i;have s:=nH (B:=10) δ (show sz x+sz y≤18 from ω);rw[←sM]at i;omega
  rw[gP c,ff,tZ lf h3 ω,fa,tZ lf h3 ω,fa];simp only;rw[w64 ω ω,aap lf h3 ω ω,fa]
 ·have a:=ld_body (z:=x);have b:=ld_body (z:=y);rw[gO c,fe,qC lf _ (kL x) ω h3,fa,qC lf _ (kL y) ω h3,fa];simp only;obtain⟨r,e,j,q,l⟩:=ahi lf _ _ a.1 b.1 ω ω h3;rw[e,fa,kT lf _ (lJ x),fa,kT lf _ (lJ y),fa];simp only;rw[xN lf h3 j ω,fa,l,a.2.1,b.2.1];refine congrArg (fun z:Int=>some (bs (z7 z),())) ?_;rw[wH,wH];have m:=pm x y;have h:(((x*y).natAbs:Nat):Int)=(x.natAbs:Int)*(y.natAbs:Int):=by rw[m,sM]
  rw[←h];by_cases g:x < 0
  ·rw[gP g];by_cases d:y < 0
   ·have:=Int.mul_pos_of_neg_of_neg g d;rw[gP d];simp;omega
   ·have:=Int.mul_nonpos_of_nonpos_of_nonneg (show x≤0 from ω) (show 0≤y from ω);rw[gO d];simp;omega
  ·rw[gO g];by_cases d:y < 0
   ·have:=Int.mul_nonpos_of_nonneg_of_nonpos (show 0≤x from ω) (show y≤0 from ω);rw[gP d];simp;omega
   ·have:=yf (show 0≤x from ω) (show 0≤y from ω);rw[gO d];simp;omega
def aej(A V P a R r1 B:Int)(h:r1=R-V):V*(A+P*(a+1-a))+P*r1=V*A+P*R:=by subst h;grind
def ahx(lf:Nat)(h3:200000≤lf)(a C D ys:List Int)(i:Nat)(l:Dg 10 ys)(r:Tr ys)(z:ys.length≤60000):∀ (c n:Nat) (rest q:List Int),c < n→Dg 10 rest→Tr rest→rest.length≤80000→lv 10 rest < (c+1)*lv 10 ys→Dg 10 q→(f:i < q.length)→q[i]+c≤9→
  ∃ b h,bI.l1 lf a ys (i:Nat) C D n rest q=some ((b,h,()),())∧Dg 10 b∧Tr b∧b.length≤rest.length∧lv 10 b < lv 10 ys∧Dg 10 h∧h.length=q.length∧
   lv 10 ys*lv 10 h+10 ^ i*lv 10 b=lv 10 ys*lv 10 q+10 ^ i*lv 10 rest∧∀ p,p≠i→h[p]? = q[p]? := by
 intro c
 induction c with
 | zero =>
  intro n rest q x j d w g k f v;obtain⟨m,rfl⟩:=zv (show n≠0 from ω);have lt:lv 10 rest < lv 10 ys:=by simpa using g
  refine⟨rest,q,?_,j,d,za _,lt,k,rfl,rfl,fun p _=>rfl⟩;rw[bI.l1,bI.r1,zK lf rest ys j l d r ω ω h3,fa,gO (by unfold sgn;rw[gT ω];decide),fe]
 | succ c A =>
  intro n rest q x j d w g k f v;obtain⟨m,rfl⟩:=zv (show n≠0 from ω);rw[bI.l1,bI.r1,zK lf rest ys j l d r ω ω h3,fa];by_cases lt:lv 10 rest < lv 10 ys
  ·rw[gO (by unfold sgn;rw[gT ω];decide),fe];exact⟨rest,q,rfl,j,d,za _,lt,k,rfl,rfl,fun p _=>rfl⟩
  ·rw[gP (by unfold sgn;rw[gR ω];split<;>decide),ff];obtain⟨r1,e,s,t,E,u⟩:=yZ lf h3 j l ω ω;have F:=k.at i f;have e1:i64.wrap (q[i]+1)=q[i]+1:=w64 ω ω;have o:lv 10 r1 < ((c:Int)+1)*lv 10 ys:=by
    have:((c+1:Nat):Int)+1=((c:Int)+1)+1:=ω;rw[this,m6 ((c:Int)+1) 1,pZ]at g;omega
   obtain⟨B,h,t1,t2,t3,t4,t5,t6,t7,t8,t9⟩:=A m r1 (q.set i (q[i]+1)) ω s t ω o (tJ k i ⟨ω,ω⟩) (by rw[yq];exact f) (by rw[List.getElem_set_self];omega);refine⟨B,h,?_,t2,t3,ω,t5,t6,by rw[t7,yq],?_,fun p y=>by rw[t9 p y,vq ω]⟩
   ·rw[e,fa,fV _ _ f,fa,zP f,fa,fa,e1,pK _ _ _ f,fa];exact t1
   ·rw[t8,sJ 10 q i _ f];exact aej _ _ _ _ _ _ 10 u
def aax(lf:Nat)(h3:200000≤lf)(xs b h i:List Int)(r:Dg 10 xs)(s:Dg 10 b)(v:Tr b)(g:b.length≤60000)(k:Nat)(l:k < xs.length)(rest q:List Int)(o:Dg 10 rest)(x:rest.length≤70000)(m:lv 10 rest < lv 10 b)(n:Dg 10 q)(d:k < q.length)(t:q[k]=0):
  ∃ a c,bI.l1 lf xs b (k:Nat) h i (lf+40) (tr ([xs[k]]++rest)) q=some ((a,c,()),())∧Dg 10 a∧Tr a∧lv 10 a < lv 10 b∧Dg 10 c∧c.length=q.length∧
   lv 10 b*lv 10 c+10 ^ k*lv 10 a=lv 10 b*lv 10 q+10 ^ k*(xs[k]+10*lv 10 rest)∧∀ p,p≠k→c[p]? = q[p]? := by
 have w:=r.at k l;have j:Dg 10 ([xs[k]]++rest):=Dg.cons w o;have f:=nS ([xs[k]]++rest);have e:lv 10 ([xs[k]]++rest)=xs[k]+10*lv 10 rest:=rfl;obtain⟨u,c,t1,t2,t3,_,t5,t6,t7,t8,t9⟩:=ahx lf h3 xs h i b k s v g 9 (lf+40) (tr ([xs[k]]++rest)) q ω (qB j) (tH _) (by simp at f;simp;omega) (by rw[oU,e];omega) n d (by rw[t];decide);rw[oU,e]at t8;exact⟨u,c,t1,t2,t3,t5,t6,t7,t8,t9⟩
def adF{rest a:List Int}(d:Dg 10 a)(c:Dg 10 rest)(b:Tr rest)(h:lv 10 rest < lv 10 a):rest.length≤a.length:=by
 by_cases z:rest.length≤a.length
 ·exact z
 ·have:=oJ (B:=10) δ d c b ω;omega
def ab3(V Q a P x R b L:Int)(h:V*a+P*b=V*Q+P*(x+10*R)):V*a+(P*b+L)=V*Q+(P*10*R+(L+P*x)):=by grind
def ahy(lf:Nat)(h3:200000≤lf)(xs c o:List Int)(v:Dg 10 xs)(s:Dg 10 c)(H:Tr c)(j:c.length≤60000)(w:xs.length≤60000):∀ (k n:Nat) (rest q:List Int),k < n→k≤xs.length→Dg 10 rest→Tr rest→lv 10 rest < lv 10 c→Dg 10 q→k≤q.length→(∀ p,p < k→q[p]? = some 0)→
  ∃ a g,bI.l2 lf xs c o n rest (((k:Nat):Int)-1) q=some ((a,g,o,()),())∧Dg 10 a∧Tr a∧lv 10 a < lv 10 c∧Dg 10 g∧g.length=q.length∧
   lv 10 c*lv 10 g+lv 10 a=lv 10 c*lv 10 q+(10 ^ k*lv 10 rest+lv 10 (xs.take k)):=by
 intro k
 induction k with
 | zero =>
  intro n rest q u t f e b i h l;obtain⟨m,rfl⟩:=zv (show n≠0 from ω);refine⟨rest,q,?_,f,e,b,i,rfl,by simp[lv]⟩;rw[bI.l2,bI.r2,gO ω,fe]
 | succ k x =>
  intro n rest q u t f e b i h l;obtain⟨m,rfl⟩:=zv (show n≠0 from ω);have d:k < xs.length:=ω;have K:=adF s f e b;have I:q[k]'ω=0:=by
   have r:=l k ω;rw[zP ω]at r;exact y8.inj r
  obtain⟨r1,y,t1,t2,t3,t4,t5,t6,t7,t8⟩:=aax lf h3 xs c o ([xs[k]]++rest) v s H j k d rest q f ω b i ω I;obtain⟨r2,z,A,B,C,D,E,F,G⟩:=x m r1 y ω ω t2 t3 t4 t5 ω (fun p J=>by rw[t8 p ω];exact l p ω);refine⟨r2,z,?_,B,C,D,E,by rw[F,t6],?_⟩
  ·rw[bI.l2,bI.r2,show((k+1:Nat):Int)-1=((k:Nat):Int) by omega,gP ω,ff,iE _ _ d,fa,pY _ _ _ δ (by simp;omega),fa,vK lf _ (by simp;omega) h3,fa];simp only[t1,fa];rw[w64 (n:=((k:Nat):Int)-1) ω ω];exact A
  ·rw[G,abk 10 xs k d,wy];exact ab3 _ _ _ _ _ _ _ _ t7
def ahw(lf:Nat)(h3:200000≤lf)(xs c:List Int)(r:Dg 10 xs)(l:Dg 10 c)(u:Tr c)(f:c.length≤60000)(j:xs.length≤60000)(k:Nat)(rest q:List Int)(G:k≤xs.length)(i:Dg 10 rest)(h:Tr rest)(e:lv 10 rest < lv 10 c)(o:Dg 10 q)(v:k≤q.length)(s:∀ p,p < k→q[p]? = some 0):
  ∃ b a g w,bI.l0 lf xs c (((k:Nat):Int)-1) q rest (lf+40)=some w∧w.1=b∧(if b=true then w.2.1.1=g∧w.2.1.2.1=a else w.2.2.1.2.1=g∧w.2.2.1.1=a)∧Dg 10 a∧Tr a∧lv 10 a < lv 10 c∧Dg 10 g∧g.length=q.length∧
   lv 10 c*lv 10 g+lv 10 a=lv 10 c*lv 10 q+(10 ^ k*lv 10 rest+lv 10 (xs.take k)):=by
 cases k with
 | zero =>
  refine⟨true,rest,q,(true,(q,rest,()),(([],[],[],()),())),?_,rfl,by rw[gT rfl];exact⟨rfl,rfl⟩,i,h,e,o,rfl,by simp[lv]⟩;rw[show lf+40=(lf+39)+1 from rfl,bI.l0,bI.r0,gO ω,fe]
 | succ k =>
  have d:k < xs.length:=ω;have I:=adF l i h e;have F:q[k]'ω=0:=by
   have m:=s k ω;rw[zP ω]at m;exact y8.inj m
  obtain⟨r1,x,t1,t2,t3,t4,t5,t6,t7,t8⟩:=aax lf h3 xs c rest ([xs[k]]++rest) r l u f k d rest q i ω e o ω F;obtain⟨r2,t,y,z,A,B,C,D,E⟩:=ahy lf h3 xs c rest r l u f j k (lf+39) r1 x ω ω t2 t3 t4 t5 ω (fun p H=>by rw[t8 p ω];exact s p ω);refine⟨false,r2,t,(false,([],[],()),((r2,t,rest,()),())),?_,rfl,ψ,z,A,B,C,by rw[D,t6],?_⟩
  ·rw[show lf+40=(lf+39)+1 from rfl,bI.l0,bI.r0,show((k+1:Nat):Int)-1=((k:Nat):Int) by omega,gP ω,ff,iE _ _ d,fa,pY _ _ _ δ (by simp;omega),fa,vK lf _ (by simp;omega) h3,fa];simp only[t1,fa];rw[w64 (n:=((k:Nat):Int)-1) ω ω,y,fa]
  ·rw[E,abk 10 xs k d,wy];exact ab3 _ _ _ _ _ _ _ _ t7
def afS(lf:Nat)(h3:200000≤lf){xs ys:List Int}(d:Dg 10 xs)(j:Dg 10 ys)(tx:Tr xs)(k:Tr ys)(c:ys≠[])(e:xs.length≤60000)(g:ys.length≤60000):
  ∃ Q R,bI.f lf xs ys=some (Q,R,())∧Dg 10 Q∧Q.length≤xs.length+1∧Dg 10 R∧Tr R∧lv 10 xs=lv 10 ys*lv 10 Q+lv 10 R∧lv 10 R < lv 10 ys:=by
 have yl:1≤ys.length:=vj.2 c;obtain⟨n,o⟩:∃ n,n=xs.length+1-ys.length:=⟨_,rfl⟩
 have r:=aaj (B:=10) δ j k c;have e0:(if(i64.wrap ((i64.wrap ((xs.length:Int)-(ys.length:Int)))+1)) > 0 then(i64.wrap ((i64.wrap ((xs.length:Int)-(ys.length:Int)))+1))else 0)=((n:Nat):Int):=by
  rw[w64 (n:=(xs.length:Int)-(ys.length:Int)) ω ω,w64 ω ω];split<;>omega
 have e1:i64.wrap (((n:Nat):Int)-1)=((n:Nat):Int)-1:=w64 ω ω;have h:n≤xs.length:=ω;have m:Tr (xs.drop n):=by
  unfold Tr at *
  by_cases z:n < xs.length
  ·rw[gg,gR ω];exact tx
  ·rw[vt ω];simp
 have i:lv 10 (xs.drop n) < lv 10 ys:=by
  have a:=rH (B:=10) δ (d.drop n);rw[vu]at a;have b:=nH (B:=10) δ (show xs.length-n≤ys.length-1 from ω);omega
 obtain⟨b,R,Q,w,t1,t2,t3,t4,t5,t6,t7,t8,t9⟩:=ahw lf h3 xs ys d j k g e n (xs.drop n) (xS n 0) h (d.drop n) m i (Dg.zeros δ _) ψ (fun p l=>by rw[sw,gT l]);rw[vo]at t8;rw[uK,uc,pf]at t9;have q:=qZ 10 xs n h;refine⟨tr Q,R,?_,qB t7,by have:=nS Q;omega,t4,t5,by rw[oU];omega,t6⟩;rw[bI.f,e0,e1,uU _ _ _ n rfl rfl ω,fa,afv _ _ n rfl h,fa,pY _ _ _ δ (by simp;omega),fa,vv,t1,fa,t2];cases b with
 | true =>
  rw[gT rfl]at t3;rw[ff,t3.1,t3.2,vK lf Q ω h3,fa]
 | false =>
  rw[gR ψ]at t3;rw[fe,t3.1,t3.2,vK lf Q ω h3,fa]
def afB(lf:Nat){x y:Int}(g:x.natAbs < 100000000000000000)(i:y.natAbs < 100000000000000000)(c:y≠0):lY.f lf x y=some (x.fdiv y,()):=by
 have e:=Int.mul_tdiv_add_tmod x y;have e1:iRem x y=some (vA x y):=by unfold iRem;rw[gR c]
 have j:(q7 x y).natAbs≤x.natAbs:=by rw[Int.natAbs_tdiv];exact Nat.div_le_self _ _
 have e2:iQuo .i64 x y=some (q7 x y):=by
  unfold iQuo;rw[gR c];congr 1;apply w64<;>omega
 have sg:(0≤x→0≤vA x y)∧(x≤0→vA x y≤0):=by
  refine⟨fun h=>gD y h,fun h=>?_⟩;have:=gD y (show 0≤-x from ω);rw[Int.neg_tmod]at this;omega
 have d:(vA x y).natAbs < y.natAbs:=by
  rw[Int.natAbs_tmod];exact Nat.mod_lt _ ω
 rw[lY.f,e2,fa,e1,fa];by_cases r0:vA x y=0
 ·rw[r0,bne_self_eq_false,fe];have:=(kZ (x:=x) (y:=y) (q:=q7 x y) (r:=0) ω ω).1;rw[this]
 ·rw[show(vA x y != 0)=true by simpa using r0,ff];by_cases a:decide (x < 0)=decide (y < 0)
  ·have b:(x < 0↔y < 0):=by simpa using a
   rw[show(decide (x < 0) != decide (y < 0))=false by rw[a,bne_self_eq_false],fe];have:=(kZ (x:=x) (y:=y) (q:=q7 x y) (r:=vA x y) ω ω).1;rw[this]
  ·have b:¬(x < 0↔y < 0):=by simpa using a
   rw[show(decide (x < 0) != decide (y < 0))=true by simpa using a,ff,w64 ω ω];have:=(kZ (x:=x) (y:=y) (q:=q7 x y-1) (r:=vA x y+y) (by rw[uC];omega) ω).1;rw[this]
def zV{z:Int}{k:Nat}(b:1≤k)(h:(z.natAbs:Int) < 10 ^ k):sz z≤k:=by
 obtain⟨j,rfl⟩:=zv (show k≠0 from ω);rw[←rD];apply oW;have:((10 ^ (j+1):Nat):Int)=(10:Int) ^ (j+1):=by norm_cast
 have a:(z.natAbs:Int) < ((10 ^ (j+1):Nat):Int):=by rw[this];exact h
 exact mN.1 a
def abj(lf:Nat)(h3:200000≤lf){x y:Int}(M:sz x≤40000)(N:sz y≤40000)(L:y≠0):
    (bd (aW.f lf (bs (z7 x))) fun o =>
 bd (aN.f lf o.1) fun p =>
 bd (aW.f lf (bs (z7 y))) fun s =>
 bd (aN.f lf s.1) fun t =>
 bd (bI.f lf p.1 t.1) fun h =>
 bd (aA.f lf (bs (z7 x))) fun u =>
 bd (aA.f lf (bs (z7 y))) fun v =>
 bd (bg.f lf h.1 (u.1 != v.1)) fun g =>
 bd (aA.f lf (bs (z7 x))) fun w =>
 bd (aA.f lf (bs (z7 y))) fun A =>
 br (w.1 != A.1) (
 br (decide ((h.2.1.length:Int) > 0)) (
 bd (aU.f lf g.1 (⟨#[49]⟩:ByteArray)) fun C =>
 some (C.1,())) (
 some (g.1,()))) (
 some (g.1,())))=some (bs (z7 (x.fdiv y)),()):=by
  have a:=ld_body (z:=x);have b:=ld_body (z:=y);have P:=xK x;have S:=xK y;have tx:=nS (ld (body (z7 x)));have T:=nS (ld (body (z7 y)));have n:tr (ld (body (z7 y)))≠[]:=by
    intro e;have:=oU 10 (ld (body (z7 y)));rw[e,b.2.1]at this;simp only[lv]at this;omega
  obtain⟨Q,R,e,l,O,E,D,val,lt⟩:=afS lf h3 (qB a.1) (qB b.1) (tH _) (tH _) n ω ω;rw[oU,oU,a.2.1,b.2.1]at val;rw[oU,b.2.1]at lt;have I:=dw (B:=10) δ E;have H:=dw (B:=10) δ l;rw[qC lf _ (kL x) ω h3,fa,vK lf (ld (body (z7 x))) ω h3,fa,qC lf _ (kL y) ω h3,fa,vK lf (ld (body (z7 y))) ω h3,fa];simp only;rw[e,fa,kT lf _ (lJ x),fa,kT lf _ (lJ y),fa];simp only;rw[xN lf h3 l ω,fa,fa,fa];simp only[wH];by_cases j:decide (x < 0)=decide (y < 0)
  · have d:(x < 0↔y < 0):=by simpa using j
    rw[j,bne_self_eq_false,fe,gR ψ];refine congrArg (fun z:Int=>some (bs (z7 z),())) ?_;refine(kZ (x:=x) (y:=y) (q:=lv 10 Q) (r:=if x < 0 then -lv 10 R else lv 10 R) ?_ ?_).1
    · by_cases c:x < 0
      · have:=d.1 c
        rw[gT c];have e1:(y.natAbs:Int)= -y:=ω;have e2:(x.natAbs:Int)= -x:=ω;rw[e1,e2,tQ]at val;omega
      · have:¬y < 0:=fun e=>c (d.2 e)
        rw[gR c];have e1:(y.natAbs:Int)=y:=ω;have e2:(x.natAbs:Int)=x:=ω;rw[e1,e2]at val;omega
    · split<;>omega
  · have d:¬(x < 0↔y < 0):=by simpa using j
    rw[show(decide (x < 0) != decide (y < 0))=true by simpa using j,ff,gT rfl];have i:x=y*(-lv 10 Q)+(if x < 0 then -lv 10 R else lv 10 R):=by
      by_cases c:x < 0
      · have e1:(y.natAbs:Int)=y:=ω
        have e2:(x.natAbs:Int)= -x:=ω;rw[e1,e2]at val;rw[gT c,sY];omega
      · have e1:(y.natAbs:Int)= -y:=ω
        have e2:(x.natAbs:Int)=x:=ω;rw[e1,e2,tQ]at val;rw[gR c,sY];omega
    by_cases m:R=[]
    · subst m
      rw[gO ψ,fe];refine congrArg (fun z:Int=>some (bs (z7 z),())) ?_;refine(kZ (x:=x) (y:=y) (q:= -lv 10 Q) (r:=0) ?_ ω).1;simp only[lv,Int.neg_zero,ite_self,sA]at i;omega
    · have J:0 < R.length:=vj.2 m
      have K:=vF (B:=10) δ E D m;have F:sz (-lv 10 Q)≤50000:=by
        have:=zV (z:= -lv 10 Q) (k:=Q.length+1) ω (by
          have a1:=rH (B:=10) δ l;have a2:=nH (B:=10) δ (show Q.length≤Q.length+1 from ω);omega)
        omega
      have i1:z7 1=[49]:=by decide +kernel
      have G:sz 1≤50000:=by unfold sz;rw[i1];decide
      rw[gP ω,ff,show(⟨#[49]⟩:ByteArray)=bs [49] from rfl,←i1,zo lf h3 F G,fa];refine congrArg (fun z:Int=>some (bs (z7 z),())) ?_;refine(kZ (x:=x) (y:=y) (q:= -lv 10 Q-1) (r:=(if x < 0 then -lv 10 R else lv 10 R)+y) ?_ ?_).1
      · rw[uC];omega
      · split<;>omega
def pV(lf:Nat)(h3:200000≤lf){x y:Int}(d:sz x≤40000)(e:sz y≤40000)(c:y≠0):aI.f lf (bs (z7 x)) (bs (z7 y))=some (bs (z7 (x.fdiv y)),()):=by
 rw[aI.f,yE lf ω,fa];simp only;by_cases c1:(sz x:Int)≤17
 ·rw[gP c1,ff,yE lf ω,fa];simp only;by_cases c2:(sz y:Int)≤17
  ·have a:=vX (z:=x) (k:=17) ω ω;have b:=vX (z:=y) (k:=17) ω ω;have p:(10:Int) ^ 17=100000000000000000:=δ;have fb:(x.fdiv y).natAbs≤200000000000000000:=by
    have m:=wh x y;have h:(x.fdiv y).natAbs*1≤(x.fdiv y).natAbs*y.natAbs:=Nat.mul_le_mul_left _ ω;have g:(y*x.fdiv y).natAbs=y.natAbs*(x.fdiv y).natAbs:=pm _ _;rw[Nat.mul_comm]at g;have h3:(x.fmod y).natAbs < y.natAbs:=by
     rcases pP c with z | z
     ·have a:=xd (-x) (show 0 < -y from ω);have b:=yW (-x) (show 0 < -y from ω);rw[m7]at a b;omega
     ·have a:=xd x z;have b:=yW x z;omega
    omega
   rw[gP c2,ff,tZ lf h3 ω,fa,tZ lf h3 ω,fa];simp only;rw[afB lf ω ω c,fa,aap lf h3 ω ω,fa]
  ·rw[gO c2,fe];exact abj lf h3 d e c
 ·rw[gO c1,fe];exact abj lf h3 d e c
def abd{x y:Int}(c:y≠0):(x.fmod y).natAbs < y.natAbs:=by
 rcases pP c with z | z
 ·have a:=xd (-x) (show 0 < -y from ω);have b:=yW (-x) (show 0 < -y from ω);rw[m7]at a b;omega
 ·have a:=xd x z;have b:=yW x z;omega
def uG{x y:Int}(a:y≠0):(x.fdiv y).natAbs≤x.natAbs+1:=by
 by_cases d:x.fdiv y=0
 ·rw[d];simp
 have m:=wh x y;have b:(y*x.fdiv y).natAbs=y.natAbs*(x.fdiv y).natAbs:=pm _ _;have h3:=abd (x:=x) a;obtain⟨k,c⟩:=zv (show(x.fdiv y).natAbs≠0 by omega);rw[c,Nat.mul_succ]at b;have e:1*k≤y.natAbs*k:=Nat.mul_le_mul_right _ ω;omega
def aix{x y:Int}{k:Nat}(e:1≤k)(d:y≠0)(h:sz x≤k):sz (x.fdiv y)≤k+1:=by
 apply zV ω;have a:=vX h e;have b:=uG (x:=x) d;have c:(10:Int) ^ (k+1)=10 ^ k*10:=wy ..;omega
def ajI{x y:Int}{j k:Nat}(g:1≤j)(h:1≤k)(e:sz x≤j)(f:sz y≤k):sz (x*y)≤j+k:=by
 apply zV ω;have a:=vX e g;have b:=vX f h;rw[pm,sM,pL];have p:=mX (B:=10) δ k;have c:=xF (zR b) (show 0≤(x.natAbs:Int) by omega);have d:=Int.mul_lt_mul_of_pos_right a p;omega
def uO(lf:Nat)(h3:200000≤lf){x y:Int}(b:sz x≤20000)(c:sz y≤20000)(a:y≠0):bT.f lf (bs (z7 x)) (bs (z7 y))=some (bs (z7 (x.fmod y)),()):=by
 have q:=aix ω a b;have p:=ajI ω ω c q;rw[bT.f,pV lf h3 ω ω a,fa,xO lf h3 ω ω,fa,zo lf h3 ω ω,fa];have m:=wh x y;refine congrArg (fun z:Int=>some (bs (z7 z),())) ?_;omega
set_option exponentiation.threshold 5000
def xsh(x:X)(d:Int):X:=match x with
 | .fin z=>.fin (z+d)
 | y=>y
def K_C:C+10 < K:=by
 have h:(10:Nat) ^ 100+10 < 10 ^ 4096:=by
  have:(10:Nat) ^ 101≤10 ^ 4096:=q6 ω ω;have e:(10:Nat) ^ 101=10 ^ 100*10:=q5 ..;have:1000≤(10:Nat) ^ 100:=by decide +kernel
  omega
 unfold C K;omega
def xW(lf:Nat)(h3:200000≤lf){x y:Int}(b: -K < x∧x < K)(c: -K < y∧y < K)(a: -K < x+y∧x+y < K):jV.f lf (bs (z7 x)) (bs (z7 y))=some (bs (z7 (x+y)),0,()):=by
 have h:=(sz_K (x+y)).2 a;rw[aiK lf _ _ ((pM x).2 b) ((pM y).2 c) h3,dR,dR,rD,gR ω]
def afQ(lf:Nat)(h3:200000≤lf){x:X}(a:okx C x){d:Int}(b: -10≤d)(c:d≤10):jS.f lf (xc x) (bs (z7 d))=some (xc (xsh x d),()):=by
 have g:=K_C;have e:=C_gt;rw[jS.f];cases x with
 | ni=>exact(ff _ _).trans rfl
 | pi=>exact(ff _ _).trans rfl
 | fin z =>
  simp only[okx]at a;simp only[xc,bne_self_eq_false,fe];rw[jY.f,xW lf h3 ω ω ω,fa,fa,aY.f,fa];rfl
def i1:(⟨#[49]⟩:ByteArray)=bs (z7 1):=by
 have:z7 1=[49]:=by unfold z7;rw[gR ω];exact nG ω
 rw[this]
def i0:(⟨#[48]⟩:ByteArray)=bs (z7 0):=by
 have:z7 0=[48]:=by unfold z7;rw[gR ω];exact qA
 rw[this]
def im1:(⟨#[45,49]⟩:ByteArray)=bs (z7 (-1)):=by
 have:z7 (-1)=[45,49]:=by
  unfold z7;rw[gT ω];have:(-1:Int).natAbs=1:=rfl;rw[this];congr 1;exact nG ω
 rw[this]
def single(s:Sp):Bool:=match s.lo,s.hi with
 | .fin x,.fin y=>decide (x=y)
 | _,_=>false
def ahu(lf:Nat)(s:Sp):jq.f lf (sc s)=some (single s,()):=by
 obtain⟨b,a⟩:=s;rw[jq.f];cases b<;>cases a<;>simp only[sc,xc,single]
 ·exact(fe _ _)
 ·exact(fe _ _)
 ·exact(fe _ _)
 ·exact(ff _ _).trans (fe _ _)
 ·rw[show((0:Int)==0)=true from rfl,ff,ff,lS];congr 2;simp only[decide_eq_decide];exact⟨pR,fun h=>by rw[h]⟩
 ·exact(ff _ _).trans (fe _ _)
 ·exact(fe _ _)
 ·exact(fe _ _)
 ·exact(fe _ _)
def valX:X→Int
 | .fin z=>z
 | _=>0
def E0:A:=⟨true,none,none⟩
def uz:toA non=E0:=by unfold toA;rw[gT iG];rfl
def aam{s:Sp}(h:single s=true):s.lo=.fin (valX s.lo):=by
 obtain⟨lo,a⟩:=s;cases lo<;>cases a<;>simp[single,valX]at *
def afy{s:Sp}{z:Int}(h:inS s z=true):emp s=false:=by
 unfold inS at h;simp only[zm,decide_eq_true_eq]at h;exact gO ω
def ako:Wf E0:=⟨fun _=>⟨rfl,rfl⟩,trivial,trivial,trivial⟩
end Go.N
