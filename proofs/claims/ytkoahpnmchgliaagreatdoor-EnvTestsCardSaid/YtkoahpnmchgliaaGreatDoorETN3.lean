import Derived.Test.YtkoahpnmchgliaaGreatDoorChecked
import Derived.ProofKit
import Derived.OpenShut
import Derived.LaidMore
import Derived.Lay
import Derived.Carry
import Derived.SevenTiedAt
import Derived.Stop.Joined
import Derived.Lib.LaidTab
import Derived.LaidSub
import Derived.Test.YtkoahpnmchgliaaGreatDoorETG16
import Derived.Test.YtkoahpnmchgliaaGreatDoorETN2
set_option linter.all false
set_option maxRecDepth 100000
open Bool renaming false_eq_true→ze,not_false→zg,not_true→zj,and_eq_true→zm
open Go.Lib renaming itoa→z7
open Go.Proofs.Tryz renaming prog→y5
open Int renaming mul_nonneg→yf,le_refl→xp,mul_fdiv_add_fmod→wh,toNat_natCast→vm,lt_or_lt_of_ne→pQ,neg_fmod_neg→mh
open List renaming getElem?_eq_getElem→zP,getElem?_eq_some_iff→y6,mem_map→yy,getElem?_map→yz,drop_zero→xD,length_eq_zero_iff→wc,mem_cons→ww,drop_eq_getElem_cons→vr,length_drop→vu,nil_append→vv,take_of_length_le→uW,append_nil→tc,mem_or_eq_of_mem_set→sC,mem_of_mem_take→rI,mem_of_mem_drop→qS,getElem_mem→qT,mem_iff_getElem→pS,drop_eq_nil_of_le→oA,cons→n6,drop_drop→m8
open Nat renaming le_refl→za,add_assoc→xo,strongRecOn→pP,sub_add_cancel→m5
open Option renaming some→y8,map→xf,map_some→wj,bind_some→wT,bind_eq_some_iff→vB,bind→ow
namespace Go.N
open Go Go.Q Go.Rx
def sN{s:Sp}{z:Int}:inS s z=true↔key s.lo≤z∧z≤key s.hi:=by unfold inS;simp
def uX{s:Sp}{z:Int}(h:inS s z=true):emp s=false:=af5 h
def yR{s:Sp}{z:Int}(h:inS s z=true):inS (turn s) (-z)=true:=by
 have e:=uX h;rw[sN]at h⊢;unfold turn;rw[gT (by simp[e])];simp only[mO];omega
def adM{s t:Sp}{z:Int}(h:inS s z=true):inS (hull s t) z=true:=by
 have e:=uX h;rw[sN]at h⊢;unfold hull;rw[gT (by simp[e])];split
 ·exact h
 ·simp only[lM,mg];omega
def adN{s t:Sp}{z:Int}(h:inS t z=true):inS (hull s t) z=true:=by
 have e:=uX h;rw[sN]at h⊢;unfold hull;split
 ·exact h
 ·rw[gT (by simp[e])];simp only[lM,mg];omega
def acS{s:Sp}(hs:oks C s){z:Int}(h:inS s z=true)(a:1≤z):inS (posS s) z=true:=by
 have k:=uN hs;rw[sN]at h⊢;omega
section
variable {s t:Sp}(hs:oks C s)(ht:oks C t){x y:Int}(bx: -Dd < x∧x < Dd)(by': -Dd < y∧y < Dd)(hx:inS s x=true)(hy:inS t y=true)
include hs ht bx by' hx hy
theorem ag1:inS (addS s t) (x+y)=true:=by
 have l:=DD_K;have j:=C_gt;have k:=kW;have i:0≤Dd*Dd:=yf ω ω;have a:=uX hx;have b:=uX hy;rw[sN]at hx hy⊢;unfold addS;rw[gT (by simp[a]),gT (by simp[b])];obtain⟨sl,g⟩:=s;obtain⟨tl,h⟩:=t;simp only at hx hy⊢;have d:=hx.1;have c:=hx.2;have f:=hy.1;have e:=hy.2;constructor
 ·cases sl<;>cases tl<;>simp only[xadd,key]at d f⊢<;>omega
 ·cases g<;>cases h<;>simp only[xadd,key]at c e⊢<;>omega
theorem ajO:inS (apS xmul s t) (x*y)=true:=by
 have k:=uX hx;have l:=uX hy;rw[sN]at hx hy⊢;have c:=yc (o:=xmul) k l;obtain⟨⟨d,e,c1,c2,c3⟩,⟨i,j,f,g,h⟩⟩:=corner hs ht (x:=.fin x) (y:=.fin y) ⟨bx,hx⟩ ⟨by',hy⟩;have a:=c.1.2 d e c1 c2;have b:=c.2.2 i j f g;rw[uQ,show key (X.fin (x*y))=x*y from rfl]at c3 h;omega
theorem afk(h:1≤y)(p1:Po t.lo)(p2:Po t.hi):inS (apS xover s t) (x.fdiv y)=true:=by
 have f:=uX hx;have g:=uX hy;rw[sN]at hx hy⊢;have b:=yc (o:=xover) f g;have a:Po (.fin y):=h;have d:okx Dd (.fin y):=by'
 have e:okx Dd (.fin x):=bx;have kx:key (X.fin x)=x:=rfl;have c:key (X.fin y)=y:=rfl;have i:key (xover (.fin x) (.fin y))=x.fdiv y:=rfl;have lo:=abg hs.1.D e a (by rw[kx];exact hx.1);have hi:=abg e hs.2.D a (by rw[kx];exact hx.2);rw[i]at lo hi;constructor
 ·by_cases n:key s.lo < 0
  ·have:=adx hs.1.D p1 a ht.1.D d (by rw[c];exact hy.1) n;have:=b.1.2 s.lo t.lo (.inl rfl) (.inl rfl);omega
  ·have:=ady hs.1.D a p2 d ht.2.D (by rw[c];exact hy.2) ω;have:=b.1.2 s.lo t.hi (.inl rfl) (.inr rfl);omega
 ·by_cases n:key s.hi < 0
  ·have:=adx hs.2.D a p2 d ht.2.D (by rw[c];exact hy.2) n;have:=b.2.2 s.hi t.hi (.inr rfl) (.inr rfl);omega
  ·have:=ady hs.2.D p1 a ht.1.D d (by rw[c];exact hy.1) ω;have:=b.2.2 s.hi t.lo (.inr rfl) (.inl rfl);omega
theorem ag2(d:1≤y):inS (remI s t) (x.fmod y)=true:=by
 have C:=Dd_K;have A:=C_gt;have B:=kW;have m:=wh x y;have b:=vg x d;have f:0≤x→x.fmod y≤x:=fun k=>by
  have:=acQ d k;have:=yf (show 0≤y from ω) this;omega
 have p:=uX hx;have u:=uX hy;rw[sN]at hx hy;rw[sN];unfold remI;split
 ·rename_i sg;obtain⟨tl,i⟩:=t;have j:∃ c,tl=.fin c∧i=.fin c:=by
   cases tl<;>cases i<;>simp[single]at sg;exact⟨_,rfl,by rw[sg]⟩
  obtain⟨c,rfl,rfl⟩:=j;simp only[key]at hy;obtain rfl:y=c:=ω;simp only[valX];have a:key (allS y).lo≤x.fmod y∧x.fmod y≤key (allS y).hi:=by simp only[allS,key];omega
  obtain⟨sl,o⟩:=s;cases sl with
  | ni=>simp only[resS];exact a
  | pi=>simp only[resS];exact a
  | fin l=>cases o with
   | ni=>simp only[resS];exact a
   | pi=>simp only[resS];exact a
   | fin h =>
    simp only[key]at hx;simp only[resS];rw[ad5 d ω];split
    ·rename_i q;have D:=wh l y;have n:=wh h y;have w:=wY d hx.1;have z:=wY d hx.2;have e:x.fdiv y=l.fdiv y:=ω;rw[e]at m;rw[←q]at n;simp only[key];omega
    ·exact a
 ·split
  ·rename_i c1 c2;have:x.fmod y=x:=by
    have:=(lN (x:=x) (y:=y) (q:=0) (r:=x) (by rw[Int.mul_zero];omega) (.inl ω)).2;omega
   rw[this];exact hx
  ·rename_i c1 c2;refine⟨b.1,?_⟩;have kx:x.fmod y≤key (xsh t.hi (-1)):=by
    have g:=hy.2;cases e:t.hi with
    | ni=>rw[e]at g;simp only[key]at g;omega
    | pi=>simp only[xsh,key];omega
    | fin v=>rw[e]at g;simp only[xsh,key]at g⊢;omega
   simp only;split
   ·rename_i c3;rw[lM];have:=f ω;omega
   ·exact kx
end
section
variable {s t:Sp}(hs:oks C s)(ht:oks C t)(ps:Pr s)(pt':Pr t){x y:Int}(bx: -Dd < x∧x < Dd)(by': -Dd < y∧y < Dd)(hx:inS s x=true)(hy:inS t y=true)
include hs ht ps pt' bx by' hx hy
theorem air(f:y≠0):inS (quoS s t) (x.fdiv y)=true:=by
 have d:=uX hx;unfold quoS;rw[gT (by simp[d])];rcases pQ f with z | z
 ·have c:=acS (gW ht) (yR hy) (show 1≤-y from ω);have e:=uX c;obtain⟨l,l1,l2,l3⟩:=ru e (gW ht) pt'.turn;rw[gT (show ¬emp (posS (turn t))=true by simp[e])];apply adN;have:=afk (gW hs) (gB (gW ht)) (x:= -x) (y:= -y) ω ω (yR hx) c ω (by rw[l1];exact l2) l3;have q:(-x).fdiv (-y)=x.fdiv y:=by
   have m:=wh x y;have a:=Int.fmod_nonneg_of_pos (-x) (show 0 < -y from ω);have b:=Int.fmod_lt_of_pos (-x) (show 0 < -y from ω);rw[mh]at a b;exact((lN (x:= -x) (y:= -y) (q:=x.fdiv y) (r:= -x.fmod y) (by rw[Int.neg_mul];omega) (.inl ω)).1).symm
  rw[q]at this;exact this
 ·have c:=acS ht hy (show 1≤y from ω);have e:=uX c;obtain⟨l,l1,l2,l3⟩:=ru e ht pt';rw[gT (show ¬emp (posS t)=true by simp[e])];apply adM;exact afk hs (gB ht) bx by' hx c ω (by rw[l1];exact l2) l3
theorem ais(c:y≠0):inS (remS s t) (x.fmod y)=true:=by
 have b:=uX hx;unfold remS;rw[gT (by simp[b])];rcases pQ c with z | z
 ·have a:=acS (gW ht) (yR hy) (show 1≤-y from ω);have e:=uX a;have:=yR (ag2 (gW hs) (gB (gW ht)) (x:= -x) (y:= -y) ω ω (yR hx) a ω);rw[mh,Int.neg_neg]at this;split
  ·rw[gT (show ¬emp (posS (turn t))=true by simp[e])];exact this
  ·rw[gT (show ¬emp (posS (turn t))=true by simp[e])];exact adN this
 ·have a:=acS ht hy (show 1≤y from ω);have e:=uX a;have:=ag2 hs (gB ht) bx by' hx a ω
  rw[gT (show ¬emp (posS t)=true by simp[e])];split
  ·exact this
  ·exact adM this
end
def valO(op x y:Int):Int:=if op=3 then x+y else if op=4 then x-y else if op=5 then x*y else if op=6 then x.fdiv y else x.fmod y
def akw{s t:Sp}(hs:oks C s)(ht:oks C t)(ps:Pr s)(pt':Pr t){x y:Int}(bx: -Dd < x∧x < Dd)(by': -Dd < y∧y < Dd)(hx:inS s x=true)(hy:inS t y=true){op:Int}(b:3≤op∧op≤7)(a:op≤5∨y≠0):inS (opS op s t) (valO op x y)=true:=by
 rcases op3 b with rfl | rfl | rfl | rfl | rfl
 ·exact ag1 hs ht bx by' hx hy
 ·have:=ag1 hs (gW ht) bx (y:= -y) ω hx (yR hy);rw[←Int.sub_eq_add_neg]at this;exact this
 ·exact ajO hs ht bx by' hx hy
 ·exact air hs ht ps pt' bx by' hx hy (a.resolve_left δ)
 ·exact ais hs ht ps pt' bx by' hx hy (a.resolve_left δ)
def aiM{s t:Sp}(hs:oks C s)(ht:oks C t)(ps:Pr s)(pt':Pr t):oks K (remS s t):=by
 unfold remS;split
 ·exact jJ
 ·split
  ·split
   ·exact jJ
   ·rename_i e;exact(gW (wH (gW hs) (gB (gW ht)) (pq (by simpa using e) (gW ht) pt'.turn))).K
  ·rename_i e;have a:=wH hs (gB ht) (pq (by simpa using e) ht pt');split
   ·exact a.K
   ·rename_i b;exact jO a.K (gW (wH (gW hs) (gB (gW ht)) (pq (by simpa using b) (gW ht) pt'.turn))).K
def aiK{s t:Sp}(hs:oks C s)(ht:oks C t)(ps:Pr s)(pt':Pr t):oks K (quoS s t):=by
 unfold quoS;split
 ·exact jJ
 ·apply jO
  ·split
   ·exact jJ
   ·rename_i e;exact abj hs (pq (by simpa using e) ht pt')
  ·split
   ·exact jJ
   ·rename_i e;exact abj (gW hs) (pq (by simpa using e) (gW ht) pt'.turn)
def ajW{s t:Sp}(hs:oks C s)(ht:oks C t)(ps:Pr s)(pt':Pr t){op:Int}:oks K (opS op s t):=by
 unfold opS;split
 ·exact aaT hs ht
 ·split
  ·exact aaT hs (gW ht)
  ·split
   ·exact aa2 hs ht
   ·split
    ·exact aiK hs ht ps pt'
    ·exact aiM hs ht ps pt'
def afQ{a:A}(ha:Wf a)(b:a.em=false):∃ z,(-C < z∧z < C)∧inS (ofA a) z=true:=by
 have d:=C_gt;have e:=fD;have l:=ha.lo;have u:=ha.hi;have le:=ha.le;cases hl:a.lo with
 | some z =>
  rw[hl]at l le;refine⟨z,l,(Wf.inS ha b (CK l)).2 ⟨fun v h=>(by rw[hl]at h;cases h;exact xp _),fun v h=>?_⟩⟩;rw[h]at le;exact le
 | none=>cases c:a.hi with
  | some z =>
   rw[c]at u;exact⟨z,u,(Wf.inS ha b (CK u)).2 ⟨fun v h=>(by rw[hl]at h;cases h),fun v h=>(by rw[c]at h;cases h;exact xp _)⟩⟩
  | none=>exact⟨0,ω,(Wf.inS ha b ω).2 ⟨fun v h=>(by rw[hl]at h;cases h),fun v h=>(by rw[c]at h;cases h)⟩⟩
def ah8{s:Sp}(h:oks K s){z:Int}(b: -K < z∧z < K)(a:inS s z=true):Wf (toA s):=by
 refine nT h (.inr ⟨fun e=>?_,fun e=>?_⟩)
 ·have:=sN.1 a;rw[e]at this;simp only[key]at this;omega
 ·have:=sN.1 a;rw[e]at this;simp only[key]at this;omega
def adu:Wf (toA non):=nT jJ (.inl iM)
def ahk{a:A}(h:a.em=true):ofA a=non:=by unfold ofA;rw[fa h]
def aht:emp (posS non)=true:=by
 have a:=K_gt;refine gR ?_;show key (xmax non.lo (.fin 1)) > key (xmin non.hi .pi);rw[mg,lM];simp only[non,key];omega
def agf:emp (posS (⟨.fin 0,.fin 0⟩:Sp))=true:=by
 have a:=K_gt;refine gR ?_;show key (xmax (.fin 0) (.fin 1)) > key (xmin (.fin 0) .pi);rw[mg,lM];simp only[key];omega
def ai1{x y op:Int}(bx: -Dd < x∧x < Dd)(by': -Dd < y∧y < Dd)(b:3≤op∧op≤7)(a:op≤5∨y≠0): -K < valO op x y∧valO op x y < K:=by
 have f:=DD_K;have d:=C_gt;have e:=kW;have c:0≤Dd*Dd:=yf ω ω;rcases op3 b with rfl | rfl | rfl | rfl | rfl
 ·show -K < x+y∧x+y < K;omega
 ·show -K < x-y∧x-y < K;omega
 ·have:=ahe bx by';show -K < x*y∧x*y < K;omega
 ·have:=uU (x:=x) (a.resolve_left δ);show -K < x.fdiv y∧x.fdiv y < K;omega
 ·have:=abw (x:=x) (a.resolve_left δ);show -K < x.fmod y∧x.fmod y < K;omega
section
variable {a b:A}(ha:Wf a)(hb:Wf b)
include ha hb
theorem abm:Wf (toA (common (ofA a) (ofA b))):=by
 have e:=K_gt;have c:key (common (ofA a) (ofA b)).lo=max (key (ofA a).lo) (key (ofA b).lo):=mg _ _;have d:key (common (ofA a) (ofA b)).hi=min (key (ofA a).hi) (key (ofA b).hi):=lM _ _;have f:=ha.ks.keys;have kb:=hb.ks.keys;exact aiY (uw ha.okK hb.okK) (by intro h;rw[c,d]at *;omega)
theorem non0(eb:b.em=false):(∃ z,(-C < z∧z < C)∧z≠0∧inS (ofA b) z=true)∨ofA b=⟨.fin 0,.fin 0⟩:=by
 have f:=C_gt;have g:=fD;have l:=hb.lo;have u:=hb.hi;have le:=hb.le;have I:=fun z (e: -C < z∧z < C)=>Wf.inS hb eb (CK e);cases hl:b.lo with
 | some z =>
  rw[hl]at l le;by_cases d:z=0
  ·subst d;cases a:b.hi with
   | some w =>
    rw[a]at u le;by_cases c:w=0
    ·subst c;right;unfold ofA;rw[eb,gT ψ,hl,a];rfl
    ·exact .inl ⟨w,u,c,(I w u).2 ⟨fun v h=>(by rw[hl]at h;cases h;exact le),fun v h=>(by rw[a]at h;cases h;exact xp _)⟩⟩
   | none=>exact .inl ⟨1,ω,ω,(I 1 ω).2 ⟨fun v h=>(by rw[hl]at h;cases h;omega),fun v h=>(by rw[a]at h;cases h)⟩⟩
  ·exact .inl ⟨z,l,d,(I z l).2 ⟨fun v h=>(by rw[hl]at h;cases h;exact xp _),fun v h=>(by rw[h]at le;exact le)⟩⟩
 | none=>cases a:b.hi with
  | some w =>
   rw[a]at u;by_cases c:w=0
   ·subst c;exact .inl ⟨-1,ω,ω,(I (-1) ω).2 ⟨fun v h=>(by rw[hl]at h;cases h),fun v h=>(by rw[a]at h;cases h;omega)⟩⟩
   ·exact .inl ⟨w,u,c,(I w u).2 ⟨fun v h=>(by rw[hl]at h;cases h),fun v h=>(by rw[a]at h;cases h;exact xp _)⟩⟩
  | none=>exact .inl ⟨1,ω,ω,(I 1 ω).2 ⟨fun v h=>(by rw[hl]at h;cases h),fun v h=>(by rw[a]at h;cases h)⟩⟩
theorem aiD{op:Int}(h:a.em=true):opS op (ofA a) (ofA b)=non:=by
 rw[ahk h];unfold opS addS apS quoS remS;simp[iM]
theorem ahn{op:Int}(c:3≤op∧op≤7)(e:a.em=false)(h:b.em=true):opS op (ofA a) (ofA b)=non:=by
 rw[ahk h];have t:turn non=non:=by unfold turn;rw[fa iM]
 have p:=aht;have ea:=jV ha;rw[e]at ea;rcases op3 c with rfl | rfl | rfl | rfl | rfl
 ·simp[opS,addS,ea,iM]
 ·simp[opS,addS,ea,iM,t]
 ·simp[opS,apS,ea,iM]
 ·simp[opS,quoS,ea,t,p,hull,iM]
 ·simp[opS,remS,ea,t,p]
theorem aho{op:Int}(f:3≤op∧op≤7):Wf (toA (opS op (ofA a) (ofA b))):=by
 have j:=kW;cases ea:a.em with
 | true=>rw[aiD ha hb ea];exact adu
 | false=>cases eb:b.em with
  | true=>rw[ahn ha hb f ea eb];exact adu
  | false =>
   obtain⟨x,hx,i⟩:=afQ ha ea;have ok:=ajW (op:=op) ha.okC hb.okC ha.pr hb.pr;have fin:∀ y,(-C < y∧y < C)→inS (ofA b) y=true→(op≤5∨y≠0)→Wf (toA (opS op (ofA a) (ofA b))):=fun y hy d g =>
    ah8 ok (ai1 (x:=x) (y:=y) ω ω f g) (akw ha.okC hb.okC ha.pr hb.pr ω ω i d f g)
   rcases non0 ha hb eb with⟨y,hy,y0,d⟩ | e
   ·exact fin y hy d (.inr y0)
   ·by_cases h:op≤5
    ·obtain⟨y,hy,d⟩:=afQ hb eb;exact fin y hy d (.inl h)
    ·rw[e];have t:turn (⟨.fin 0,.fin 0⟩:Sp)=⟨.fin 0,.fin 0⟩:=δ;have p:=agf;have c:=jV ha;rw[ea]at c;have:op=6∨op=7:=ω;rcases this with rfl | rfl
     ·simp[opS,quoS,c,t,p,hull,iM];exact adu
     ·simp[opS,remS,c,t,p];exact adu
end
namespace WfV
variable {v:Vl}(h:WfV v)
include h
theorem em:v.a.em=v.c.em:=by
 have r:=h.red;unfold Go.N.red at r;cases b:v.a.em with
 | true =>
  rw[fa b]at r;rw[←r];rfl
 | false=>cases d:v.c.em with
  | false=>rfl
  | true =>
   rw[gT (by simp[b]),fa d]at r;rw[←r]at b;simp[Ev,E0]at b
theorem ev(e:v.a.em=true):v=Ev:=by
 have r:=h.red;unfold Go.N.red at r;rw[fa e]at r;exact r.symm
theorem one(e:v.a.em=false)(m:v.c.m=0):v=onev v.c.r∧inS (ofA v.a) v.c.r=true:=by
 have r:=h.red;have b:v.c.em=false:=by rw[←h.em,e]
 unfold Go.N.red at r;rw[gT (by simp[e]),gT (by simp[b]),fa m]at r;split at r
 ·exact⟨r.symm,by assumption⟩
 ·rw[←r]at e;simp[Ev,E0]at e
theorem fin(e:v.a.em=false)(m:v.c.m≠0):fin3 (v.a.lo.map (loC v.c)) (v.a.hi.map (hiC v.c)) v.c=v:=by
 have r:=h.red;have b:v.c.em=false:=by rw[←h.em,e]
 unfold Go.N.red at r
 rwa [gT (by simp[e]),gT (by simp[b]),gT m]at r
theorem bnd(e:v.a.em=false):(∀ l,v.a.lo=some l→inC v.c l=true)∧∀ l,v.a.hi=some l→inC v.c l=true:=by
 have d:v.c.em=false:=by rw[←h.em,e]
 by_cases m:v.c.m=0
 ·obtain⟨o,i⟩:=h.one e m;have hs:inC v.c v.c.r=true:=(xK d h.c.pos).2 ψ;constructor
  ·intro l hl;rw[o]at hl;cases hl;exact hs
  ·intro l hl;rw[o]at hl;cases hl;exact hs
 ·have p:0 < v.c.m:=by have:=h.c.pos;omega
  have f:=h.fin e m;have ck:=h.a;have lo:=ck.lo;have hi:=ck.hi;revert f lo hi;cases hl:v.a.lo with
  | none=>cases j:v.a.hi with
   | none=>intro _ _ _;exact⟨nofun,nofun⟩
   | some u =>
    intro f lo hi;have b:=congrArg (fun x=>x.a.hi) f;simp only[xf,fin3,ow,j]at b;have n:hiC v.c u=u:=by
     unfold clip at b;split at b
     ·exact y8.inj b
     ·cases b
    exact⟨nofun,fun l x=>by cases x;exact(xK d h.c.pos).2 (by have:=agY p u;rwa [n]at this)⟩
  | some l=>cases j:v.a.hi with
   | none =>
    intro f lo hi;have b:=congrArg (fun x=>x.a.lo) f;simp only[xf,fin3,ow,hl]at b;have n:loC v.c l=l:=by
     unfold clip at b;split at b
     ·exact y8.inj b
     ·cases b
    exact⟨fun l x=>(by cases x;exact(xK d h.c.pos).2 (by have:=ag8 p l;rwa [n]at this)),nofun⟩
   | some u =>
    intro f lo hi;simp only[xf,fin3]at f;split at f
    ·rw[←f]at e;simp[Ev,E0]at e
    ·split at f
     ·rw[←f]at m;simp[onev]at m
     ·have g:=congrArg (fun x=>x.a.lo) f;have b:=congrArg (fun x=>x.a.hi) f;simp only[hl,j]at g b;have q:loC v.c l=l:=by
       unfold clip at g;split at g
       ·exact y8.inj g
       ·cases g
      have s:hiC v.c u=u:=by
       unfold clip at b;split at b
       ·exact y8.inj b
       ·cases b
      exact⟨fun k x=>(by cases x;exact(xK d h.c.pos).2 (by have:=ag8 p l;rwa [q]at this)),fun k x=>(by cases x;exact(xK d h.c.pos).2 (by have:=agY p u;rwa [s]at this))⟩
end WfV
noncomputable def metV (a b:Vl):Vl:=red (toA (common (ofA a.a) (ofA b.a))) (metC a.c b.c)
def opC(op:Int)(c d:Cg):Cg:=if op=3 then plusC c d else if op=4 then minusC c d else if op=5 then timesC c d else if op=6 then quoC c d else restC c d
def opV(op:Int)(a b:Vl):Vl:=red (toA (opS op (ofA a.a) (ofA b.a))) (opC op a.c b.c)
def negV(a:Vl):Vl:=red (toA (turn (ofA a.a))) (negC a.c)
noncomputable def refV (op:Int) (a b:Vl):Vl×Vl:=if op=2 then(metV a b,metV a b)else
 if(red (refA op a.a b.a).1 a.c).a.em=true then(Ev,Ev)else if(red (refA op a.a b.a).2 b.c).a.em=true then(Ev,Ev)else(red (refA op a.a b.a).1 a.c,red (refA op a.a b.a).2 b.c)
def aeF{op:Int}{c d:Cg}(a:WfC c):WfC (opC op c d):=by
 unfold opC;split;exact ahq;split;exact agb;split;exact ags;split;exact aiJ a;exact ahB
section
variable {a b:Vl}(ha:WfV a)(hb:WfV b)
include ha hb
theorem vz:WfV (metV a b):=acu (abm ha.a hb.a) (ac2 ha.c hb.c)
theorem xh{op:Int}(d:3≤op∧op≤7):WfV (opV op a b):=acu (aho ha.a hb.a d) (aeF ha.c)
theorem aj2{op:Int}(d:op=2∨op=3∨op=4∨op=5):WfV (refV op a b).1∧WfV (refV op a b).2:=by
 unfold refV;split
 ·exact⟨vz ha hb,vz ha hb⟩
 ·obtain⟨e,f⟩:=ac8 ha.a hb.a d;split
  ·exact⟨Ev_V,Ev_V⟩
  ·split
   ·exact⟨Ev_V,Ev_V⟩
   ·exact⟨acu e ha.c,acu f hb.c⟩
end
def ahf{a:Vl}(ha:WfV a):WfV (negV a):=acu (turnA ha.a).1 aaf
section
variable {a b:Vl}(ha:WfV a)(hb:WfV b)
include ha hb
end
abbrev tb(b:ByteArray):Nat:=b.data.toList.length
def SmV(x:VV):Prop:=tb x.1.2.1≤100000∧tb x.1.2.2.1≤100000∧tb x.2.1.2.1≤100000∧tb x.2.1.2.2.1≤100000
def aeP(x y:VV):(((x.1.1==y.1.1)&&((x.1.2.1==y.1.2.1)&&((x.1.2.2.1==y.1.2.2.1)&&true)))&&(((x.2.1.1==y.2.1.1)&&((x.2.1.2.1==y.2.1.2.1)&&((x.2.1.2.2.1==y.2.1.2.2.1)&&true)))&&true))=decide (x=y):=by
 obtain⟨⟨a,l1,e,⟨⟩⟩,⟨b,l2,f,⟨⟩⟩,⟨⟩⟩:=x;obtain⟨⟨c,p1,g,⟨⟩⟩,⟨d,p2,h,⟨⟩⟩,⟨⟩⟩:=y;rw[Bool.eq_iff_iff];simp only[agz,zm,beq_iff_eq,decide_eq_true_eq,Bool.and_true,Prod.mk.injEq,and_true]
def akQ{a:A}{c:Cg}(ha:Wf a)(j:WfC c)(h:vc (red a c)=vc ⟨a,c⟩):∃ v,vc ⟨a,c⟩=vc v∧WfV v:=by
 simp only[vc,Prod.mk.injEq]at h;have d:=ajr h.1;obtain⟨f,g⟩:=ajv h.2.1;cases b:c.em with
 | true =>
  have i:red a c=Ev:=by
   unfold red;by_cases e:a.em=true
   ·rw[fa e]
   ·rw[gT e,fa b]
  refine⟨Ev,?_,Ev_V⟩;rw[i]at d;simp only[vc,←d];rw[nC b];rfl
 | false =>
  rw[b]at f;refine⟨⟨a,c⟩,rfl,ha,j,?_⟩;have k:=g f;show red a c=⟨a,c⟩;generalize red a c=r at *
  cases r;simp_all
section
variable (lf:Nat)(hb:Big lf)
include hb
theorem chkV{x:VV}(hx:SmV x):∃ n:Int,iT.f lf x=some (n,())∧jo.f lf x=some (n,())∧(n=0→∃ v,x=vc v∧WfV v):=by
 have s:=hb.1;have h3:200000≤lf:=ω;obtain⟨⟨e,l1,b,⟨⟩⟩,⟨g,l2,d,⟨⟩⟩,⟨⟩⟩:=x;obtain⟨l,m,o,p⟩:=hx;rw[←abk l1,←abk b,←abk l2,←abk d];simp only[tb]at l m o p;revert l m o p;generalize l1.data.toList=l1;generalize b.data.toList=b;generalize l2.data.toList=l2;generalize d.data.toList=d;intro l m o p;have p1:=adE lf h3 e l1 b ω ω;have p2:=ab2 lf h3 e l1 b ω ω ω ω;have t:=ai7 lf h3 g l2 d ω ω;have u:=ae0 lf h3 g l2 d ω ω ω ω;rw[iT.f,pO.f,jo.f];simp only[p1,p2,fe];by_cases i:ck e l1 b=0
 ·rw[i];simp only[bne_self_eq_false,ff,t,u,fe];by_cases j:ckc g l2 d=0
  ·obtain⟨a,ea,ha⟩:=akp i;obtain⟨c,r,k⟩:=ajw j;rw[j];have r1:=yJ lf hb ha k;have r2:=yE lf hb ha k;rw[←ea,←r]at r1 r2;simp only[bne_self_eq_false,ff,r1,r2,fe];have q:=aeP (vc (red a c)) ((e,bs l1,bs b,()),(g,bs l2,bs d,()),());simp only at q;rw[q,ea,r];by_cases h:vc (red a c)=(ac a,cc c,())
   ·rw[gR h,zj,ff];exact⟨0,rfl,rfl,fun _=>akQ ha k h⟩
   ·rw[gP h,zg,fg];exact⟨3,rfl,rfl,nofun⟩
  ·simp only[bneT j,fg];exact⟨_,rfl,rfl,fun h=>absurd h j⟩
 ·simp only[bneT i,fg,fe];exact⟨_,rfl,rfl,fun h=>absurd h i⟩
theorem chk_wf{v:Vl}(h:WfV v):iT.f lf (vc v)=some (0,())∧jo.f lf (vc v)=some (0,()):=by
 have d:=hb.1;have h3:200000≤lf:=ω;have p1:=jy lf h3 h.a;have p2:=acF lf h3 h.a;have e:=ccheck lf hb h.c;have g:=rcheck lf hb h.c;have r1:=yJ lf hb h.a h.c;have r2:=yE lf hb h.a h.c;rw[h.red]at r1 r2;have b:=aeP (vc v) (vc v);rw[gR rfl]at b;constructor
 ·rw[iT.f,pO.f];simp only[show(vc v).1=ac v.a from rfl,show(vc v).2.1=cc v.c from rfl]at b⊢;simp only[p1,e,r1,fe,bne_self_eq_false,ff];simp only[show(vc v).1=ac v.a from rfl,show(vc v).2.1=cc v.c from rfl,b,zj,ff]
 ·rw[jo.f];simp only[show(vc v).1=ac v.a from rfl,show(vc v).2.1=cc v.c from rfl]at b⊢;simp only[p2,g,r2,fe,bne_self_eq_false,ff];simp only[show(vc v).1=ac v.a from rfl,show(vc v).2.1=cc v.c from rfl,b,zj,ff]
theorem aem{v w:Vl}(h:WfV v)(k:WfV w):jd.f lf (vc v) (vc w)=some (0,()):=by
 rw[jd.f,(chk_wf lf hb h).1,fe];simp only[bne_self_eq_false,ff,(chk_wf lf hb k).1,fe]
end
section
variable (lf:Nat)(hb:Big lf){v w:Vl}(hv:WfV v)(hw:WfV w)
include hb hv hw
theorem tH:nS.f lf (vc v) (vc w)=some (vc (metV v w),0,()):=by
 have h3:200000≤lf:=by have:=hb.1;omega
 rw[nS.f,aem lf hb hv hw,fe];simp only[bne_self_eq_false,ff];simp only[show(vc v).1=ac v.a from rfl,show(vc v).2.1=cc v.c from rfl,show(vc w).1=ac w.a from rfl,show(vc w).2.1=cc w.c from rfl,ajS lf h3 hv.a hw.a,ajR lf hb hv.c hw.c,fe,bne_self_eq_false,ff,yJ lf hb (abm hv.a hw.a) (ac2 hv.c hw.c)];rfl
theorem tJ:dD.f lf (vc v) (vc w)=some (vc (metV v w),()):=by
 have h3:200000≤lf:=by have:=hb.1;omega
 rw[dD.f];simp only[show(vc v).1=ac v.a from rfl,show(vc v).2.1=cc v.c from rfl,show(vc w).1=ac w.a from rfl,show(vc w).2.1=cc w.c from rfl,aae lf h3 hv.a hw.a,akD lf hb hv.c hw.c,fe,yE lf hb (abm hv.a hw.a) (ac2 hv.c hw.c)];rfl
end
section
variable (lf:Nat)(hb:Big lf){v:Vl}(hv:WfV v)
include hb hv
theorem ahg:uJ.f lf (vc v)=some (vc (negV v),0,()):=by
 have h3:200000≤lf:=by have:=hb.1;omega
 rw[uJ.f,(chk_wf lf hb hv).1,fe];simp only[bne_self_eq_false,ff];simp only[show(vc v).1=ac v.a from rfl,show(vc v).2.1=cc v.c from rfl,ajc lf h3 hv.a,akF lf hb hv.c,fe,yJ lf hb (turnA hv.a).1 aaf];rfl
theorem aeD:iC.f lf (vc v)=some (vc (negV v),()):=by
 have h3:200000≤lf:=by have:=hb.1;omega
 rw[iC.f];simp only[show(vc v).1=ac v.a from rfl,show(vc v).2.1=cc v.c from rfl,oJ lf h3 hv.a,abH lf hb hv.c,fe,yE lf hb (turnA hv.a).1 aaf];rfl
end
section
variable (lf:Nat)(hb:Big lf){x y:VV}(hx:SmV x)(hy:SmV y)
include hb hx hy
end
section
variable (lf:Nat)(hb:Big lf){v w:Vl}(hv:WfV v)(hw:WfV w)
include hb hv hw
theorem adZ{op:Int}(g:3≤op∧op≤7):qU.f lf op (vc v) (vc w)=some (vc (opV op v w),0,()):=by
 have e:=hb.1;have h3:200000≤lf:=ω;have k:=aho hv.a hw.a g;have j:=aeF (op:=op) (d:=w.c) hv.c;have b:=yJ lf hb k j;have p1:(vc v).1=ac v.a:=rfl;have p2:(vc v).2.1=cc v.c:=rfl;have h:(vc w).1=ac w.a:=rfl;have i:(vc w).2.1=cc w.c:=rfl;rw[qU.f];simp only[aem lf hb hv hw,fe,bne_self_eq_false,ff,p1,p2,h,i];rcases op3 g with rfl | rfl | rfl | rfl | rfl
 ·rw[show((3:Int)==3)=true from rfl,fg];simp only[ajJ lf h3 hv.a hw.a,akn lf hb hv.c hw.c,fe,bne_self_eq_false,ff];rw[show opS 3 (ofA v.a) (ofA w.a)=addS (ofA v.a) (ofA w.a) from rfl,show opC 3 v.c w.c=plusC v.c w.c from rfl]at b;rw[b,fe];rfl
 ·rw[show((4:Int)==3)=false from rfl,ff,show((4:Int)==4)=true from rfl,fg];simp only[ajN lf h3 hv.a hw.a,ajj lf hb hv.c hw.c,fe,bne_self_eq_false,ff];rw[show opS 4 (ofA v.a) (ofA w.a)=addS (ofA v.a) (turn (ofA w.a)) from rfl,show opC 4 v.c w.c=minusC v.c w.c from rfl]at b;rw[b,fe];rfl
 ·rw[show((5:Int)==3)=false from rfl,ff,show((5:Int)==4)=false from rfl,ff,show((5:Int)==5)=true from rfl,fg];simp only[ajK lf h3 hv.a hw.a,akE lf hb hv.c hw.c,fe,bne_self_eq_false,ff];rw[show opS 5 (ofA v.a) (ofA w.a)=apS xmul (ofA v.a) (ofA w.a) from rfl,show opC 5 v.c w.c=timesC v.c w.c from rfl]at b;rw[b,fe];rfl
 ·rw[show((6:Int)==3)=false from rfl,ff,show((6:Int)==4)=false from rfl,ff,show((6:Int)==5)=false from rfl,ff,show((6:Int)==6)=true from rfl,fg];simp only[ajL lf e hv.a hw.a,akJ lf hb hv.c hw.c,fe,bne_self_eq_false,ff];rw[show opS 6 (ofA v.a) (ofA w.a)=quoS (ofA v.a) (ofA w.a) from rfl,show opC 6 v.c w.c=quoC v.c w.c from rfl]at b;rw[b,fe];rfl
 ·rw[show((7:Int)==3)=false from rfl,ff,show((7:Int)==4)=false from rfl,ff,show((7:Int)==5)=false from rfl,ff,show((7:Int)==6)=false from rfl,ff,show((7:Int)==7)=true from rfl,fg];simp only[ajM lf e hv.a hw.a,akM lf hb hv.c hw.c,fe,bne_self_eq_false,ff];rw[show opS 7 (ofA v.a) (ofA w.a)=remS (ofA v.a) (ofA w.a) from rfl,show opC 7 v.c w.c=restC v.c w.c from rfl]at b;rw[b,fe];rfl
theorem ad1{op:Int}(e:3≤op∧op≤7):eY.f lf op (vc v) (vc w)=some (vc (opV op v w),()):=by
 have g:=hb.1;have h3:200000≤lf:=ω;have k:=aho hv.a hw.a e;have j:=aeF (op:=op) (d:=w.c) hv.c;have b:=yE lf hb k j;have p1:(vc v).1=ac v.a:=rfl;have p2:(vc v).2.1=cc v.c:=rfl;have h:(vc w).1=ac w.a:=rfl;have i:(vc w).2.1=cc w.c:=rfl;rw[eY.f];simp only[p1,p2,h,i];rcases op3 e with rfl | rfl | rfl | rfl | rfl
 ·rw[show((3:Int)==3)=true from rfl,fg];simp only[ahr lf h3 hv.a hw.a,aj0 lf hb hv.c hw.c,fe];rw[show opS 3 (ofA v.a) (ofA w.a)=addS (ofA v.a) (ofA w.a) from rfl,show opC 3 v.c w.c=plusC v.c w.c from rfl]at b;rw[b,fe];rfl
 ·rw[show((4:Int)==3)=false from rfl,ff,show((4:Int)==4)=true from rfl,fg];simp only[aiA lf h3 hv.a hw.a,aiB lf hb hv.c hw.c,fe];rw[show opS 4 (ofA v.a) (ofA w.a)=addS (ofA v.a) (turn (ofA w.a)) from rfl,show opC 4 v.c w.c=minusC v.c w.c from rfl]at b;rw[b,fe];rfl
 ·rw[show((5:Int)==3)=false from rfl,ff,show((5:Int)==4)=false from rfl,ff,show((5:Int)==5)=true from rfl,fg];simp only[aiW lf h3 hv.a hw.a,aiX lf hb hv.c hw.c,fe];rw[show opS 5 (ofA v.a) (ofA w.a)=apS xmul (ofA v.a) (ofA w.a) from rfl,show opC 5 v.c w.c=timesC v.c w.c from rfl]at b;rw[b,fe];rfl
 ·rw[show((6:Int)==3)=false from rfl,ff,show((6:Int)==4)=false from rfl,ff,show((6:Int)==5)=false from rfl,ff,show((6:Int)==6)=true from rfl,fg];simp only[ajX lf h3 hv.a hw.a,ajY lf hb hv.c hw.c,fe];rw[show opS 6 (ofA v.a) (ofA w.a)=quoS (ofA v.a) (ofA w.a) from rfl,show opC 6 v.c w.c=quoC v.c w.c from rfl]at b;rw[b,fe];rfl
 ·rw[show((7:Int)==3)=false from rfl,ff,show((7:Int)==4)=false from rfl,ff,show((7:Int)==5)=false from rfl,ff,show((7:Int)==6)=false from rfl,ff];simp only[ahc lf h3 hv.a hw.a,ahd lf hb hv.c hw.c,fe];rw[show opS 7 (ofA v.a) (ofA w.a)=remS (ofA v.a) (ofA w.a) from rfl,show opC 7 v.c w.c=restC v.c w.c from rfl]at b;rw[b,fe];rfl
end
section
variable (lf:Nat)(hb:Big lf)
include hb
theorem topV:(((false,(⟨#[]⟩:ByteArray),(⟨#[]⟩:ByteArray),()),(false,(⟨#[49]⟩:ByteArray),(⟨#[48]⟩:ByteArray),()),()):VV)=vc ⟨⟨false,none,none⟩,topC⟩:=by
 unfold vc;rw[dP rfl];simp only[topC];rw[←i1,←i0];rfl
def oneV(z:Int):Vl:=if -C < z∧z < C then onev z else⟨⟨false,none,none⟩,topC⟩
theorem ajV(z:Int):WfV (oneV z):=by
 unfold oneV;split
 ·exact aeE (by assumption)
 ·exact⟨⟨nofun,trivial,trivial,trivial⟩,xW,rfl⟩
theorem akG{z:Int}(a: -K < z∧z < K):yH.f lf (bs (z7 z))=some (vc (oneV z),0,()):=by
 have hl:=rq a;rw[yH.f,sH lf _ ω,(qg z).2 a,fe];simp only[bne_self_eq_false,ff,show bs (z7 z)=ob (some z) from rfl,clipV lf (o:=some z) a,fe,ow,jh,vK.f,pG.f];unfold oneV;by_cases c: -C < z∧z < C
 ·rw[vJ c,fa c,gP nofun,ff];simp only[show ob (some z)=bs (z7 z) from rfl,onV]
 ·rw[ab3 c,gT c,gR rfl,fg,topV lf hb]
theorem akH{z:Int}(b: -K < z∧z < K):gJ.f lf (bs (z7 z))=some (vc (oneV z),()):=by
 have h3:200000≤lf:=by have:=hb.1;omega
 have g:=K_gt;rw[gJ.f,iQ.f,i0,qx lf h3 (m:=0) ω b,fe,fe];simp only[qF.f,dB.f,fe];unfold oneV;by_cases c: -C < z∧z < C
 ·have d:=C_gt;rw[zO (xp 0) ω c,fa rfl,fa c,dP rfl];simp only[BEq.rfl,zj,ff];rw[←onV,i0]
 ·have e:clsF 0 z=topC:=by
   have:¬sz z≤100:=fun x=>c ((sz_C z).1 x);unfold clsF;rw[fa (.inr (by rw[fa rfl];omega))]
  rw[e,gT c,dP rfl];have a:((bs (z7 topC.m)).toList==(bs (z7 0)).toList)=false:=by
   rw[kL];exact gP fun x=>by have:=nZ x;simp[topC]at this
  rw[a,zg,fg,topV lf hb]
end
section
variable (lf:Nat)(hb:Big lf){v w:Vl}(hv:WfV v)(hw:WfV w)
include hb hv hw
theorem aj3{op:Int}(d:op=2∨op=3∨op=4∨op=5):um.f lf op (vc v) (vc w)=some (vc (refV op v w).1,vc (refV op v w).2,0,()):=by
 have h3:200000≤lf:=by have:=hb.1;omega
 rw[um.f,gP ω,ff,gP ω,ff,aem lf hb hv hw,fe];simp only[bne_self_eq_false,ff];unfold refV;by_cases b:op=2
 ·have:(op==2)=true:=by simp[b]
  rw[this,fg,fa b,tH lf hb hv hw,fe]
 ·have:(op==2)=false:=by simp[b]
  obtain⟨e,g⟩:=ac8 hv.a hw.a d;rw[this,ff,gT b];simp only[show(vc v).1=ac v.a from rfl,show(vc v).2.1=cc v.c from rfl,show(vc w).1=ac w.a from rfl,show(vc w).2.1=cc w.c from rfl,ahz lf h3 hv.a hw.a op d,fe,bne_self_eq_false,ff,yJ lf hb e hv.c,yJ lf hb g hw.c,jq.f,evV];have em:∀ x:Vl,(vc x).1.1=x.a.em:=fun _=>rfl;simp only[em];cases h:(red (refA op v.a w.a).1 v.c).a.em with
  | true=>simp only[fg,if_true]
  | false =>
   cases i:(red (refA op v.a w.a).2 w.c).a.em with
   | true=>simp only[fg,ff,if_true,if_false,ze]
   | false=>simp only[ff,if_false,ze]
end
def ac5(x y:Option Int):((ob x).toList==(ob y).toList)=decide (x=y):=by
 cases x with
 | none=>cases y with
  | none=>rw[gR rfl];exact BEq.rfl
  | some z =>
   rw[gP ψ];show((bs []).toList==(bs (z7 z)).toList)=false;rw[kL,gP];exact fun h=>kX z h.symm
 | some z=>cases y with
  | none =>
   rw[gP ψ];show((bs (z7 z)).toList==(bs []).toList)=false;rw[kL,gP];exact fun h=>kX z h
  | some u =>
   show((bs (z7 z)).toList==(bs (z7 u)).toList)=_;rw[kL];simp only[decide_eq_decide,y8.injEq];exact⟨nZ,fun h=>by rw[h]⟩
def zJ{a:A}(e:a.em=false):ofA a=⟨lox a.lo,hix a.hi⟩:=by unfold ofA;rw[gT (by simp[e])]
def ahP{b:A}(e:b.em=false):single (ofA b)=(!decide (b.lo=none)&&decide (b.lo=b.hi)):=by
 rw[zJ e];cases b.lo<;>cases b.hi<;>simp[single,lox,hix]
section
variable (lf:Nat)(h3:200000≤lf){a b:A}(ha:Wf a)(hb:Wf b)(ea:a.em=false)(eb:b.em=false)
include h3 ha hb ea eb
theorem acB:jZ.f lf (ac a) (ac b)=some (ac (toA (if single (ofA b)=true then without (ofA a) (valX (ofA b).lo)else ofA a)),()):=by
 have w:=C_gt;have z:=fD;have o1:(⟨#[49]⟩:ByteArray)=bs (z7 1):=i1;rw[jZ.f,oD.f];have i:((ac b).2.1.toList==(⟨#[]⟩:ByteArray).toList)=decide (b.lo=none):=jh b.lo;have j:((ac b).2.1.toList==(ac b).2.2.1.toList)=decide (b.lo=b.hi):=ac5 b.lo b.hi;have l:(ac b).1=false:=eb;have m:(ac a).1=false:=ea;have n:((ob a.lo).toList==(ac b).2.1.toList)=decide (a.lo=b.lo):=ac5 a.lo b.lo;have o:((ob a.hi).toList==(ac b).2.1.toList)=decide (a.hi=b.lo):=ac5 a.hi b.lo;have p:(ac a).2.1=ob a.lo:=rfl;have q:(ac a).2.2.1=ob a.hi:=rfl;have g:toA (ofA a)=a:=aat ha;rw[ahP eb];simp only[i,j,l,m,n,o,p,q,zg,fg,ff];cases hl:b.lo with
 | none=>simp only[decide_true,zj,ff,fe,zg,fg,Bool.false_and,ze,if_false,g]
 | some v =>
  have u: -C < v∧v < C:=by have:=hb.lo;rw[hl]at this;exact this
  simp only[reduceCtorEq,decide_false,zg,fg,fe,Bool.true_and];by_cases hs:some v=b.hi
  ·rw[gR hs,fa rfl];simp only[zj,ff];have t:valX (ofA b).lo=v:=by rw[zJ eb,hl];rfl
   rw[t,zJ ea];have lo:=ha.lo;have hi:=ha.hi;have s:=fun(x y:Int) (h: -K < x∧x < K) (k: -K < y∧y < K)=>sumI lf h3 h k;have e:=fun(x y:Int) (h: -K < x∧x < K) (k: -K < y∧y < K)=>diffI lf h3 h k;unfold without;dsimp only;by_cases c1:a.lo=some v
   ·have d:lox a.lo=.fin v:=by rw[c1];rfl
    rw[gR c1,fg,fa d];have u1:cO.f lf (ob a.lo) (⟨#[49]⟩:ByteArray)=some (ob (some (v+1)),()):=by
     rw[c1,o1];exact s v 1 ω ω
    rw[u1,fe];by_cases c2:a.hi=some v
    ·have c:hix a.hi=.fin v:=by rw[c2];rfl
     have u2:aT.f lf (ob a.hi) (⟨#[49]⟩:ByteArray)=some (ob (some (v-1)),()):=by
      rw[c2,o1];exact e v 1 ω ω
     rw[gR c2,fg,fa c,u2,fe];have r:=kE lf h3 (some (v+1)) (some (v-1)) (by simp only[okb];omega) (by simp only[okb];omega);simp only at r⊢;rw[r,fe,d,c];rfl
    ·have c:¬hix a.hi=.fin v:=fun h=>c2 (by revert h;cases a.hi<;>simp[hix]);rw[gP c2,ff,gT c];have r:=kE lf h3 (some (v+1)) a.hi (by simp only[okb];omega) ha.hiK;simp only at r⊢;rw[r,fe,d];rfl
   ·have d:¬lox a.lo=.fin v:=fun h=>c1 (by revert h;cases a.lo<;>simp[lox]);rw[gP c1,ff,gT d];by_cases c2:a.hi=some v
    ·have c:hix a.hi=.fin v:=by rw[c2];rfl
     have u2:aT.f lf (ob a.hi) (⟨#[49]⟩:ByteArray)=some (ob (some (v-1)),()):=by
      rw[c2,o1];exact e v 1 ω ω
     rw[gR c2,fg,fa c,u2,fe];have r:=kE lf h3 a.lo (some (v-1)) ha.loK (by simp only[okb];omega);simp only at r⊢;rw[r,fe,c];rfl
    ·have c:¬hix a.hi=.fin v:=fun h=>c2 (by revert h;cases a.hi<;>simp[hix]);rw[gP c2,ff,gT c,kE lf h3 a.lo a.hi ha.loK ha.hiK,fe]
  ·rw[gP hs];simp only[zg,fg,ze,if_false,g]
end
def afj{x:Option Int}(d:Int):hix (addO x (some d))=xsh (hix x) d∧lox (addO x (some d))=xsh (lox x) d:=by
 cases x<;>exact⟨rfl,rfl⟩
def acE0:((true,(⟨#[]⟩:ByteArray),(⟨#[]⟩:ByteArray),()):IV)=ac E0:=rfl
def aj1(lf:Nat)(h3:200000≤lf){a b:A}(ha:Wf a)(hb:Wf b){op:Int}(g:op=3∨op=4∨op=5):
  lm.f lf op (ac a) (ac b)=some (ac (refA op a b).1,ac (refA op a b).2,()):=by
 have k:=C_gt;have l:=fD;have h:(⟨#[45,49]⟩:ByteArray)=ob (some (-1)):=im1;have o1:(⟨#[49]⟩:ByteArray)=ob (some 1):=i1;rw[lm.f];have i:(ac a).1=a.em:=rfl;have j:(ac b).1=b.em:=rfl;unfold refA;rw[jV ha,jV hb];simp only[i,j,aA.f,fe,acE0];cases ea:a.em with
 | true=>simp only[fg,Bool.true_or,if_true]
 | false=>cases eb:b.em with
  | true=>simp only[fg,ff,Bool.or_true,if_true]
  | false =>
   simp only[ff,Bool.or_self,ze,if_false,aae lf h3 ha hb,fe];have l1:(ac a).2.1=ob a.lo:=rfl;have l2:(ac a).2.2.1=ob a.hi:=rfl;have l3:(ac b).2.1=ob b.lo:=rfl;have l4:(ac b).2.2.1=ob b.hi:=rfl;have c:okb C (some (1:Int)):=by simp only[okb];omega
   have e:okb C (some (-1:Int)):=by simp only[okb];omega
   have em:∀ x:A,(ac x).1=x.em:=fun _=>rfl;rcases g with rfl | rfl | rfl
   ·rw[show((3:Int)==3)=true from rfl,show((3:Int)==4)=false from rfl,show((3:Int)==5)=false from rfl];simp only[fg,ff,acB lf h3 ha hb ea eb,acB lf h3 hb ha eb ea,fe,em,wP];have d:cmpS 3 (ofA a) (ofA b)=(if single (ofA b)=true then without (ofA a) (valX (ofA b).lo)else ofA a,if single (ofA a)=true then without (ofA b) (valX (ofA a).lo)else ofA b):=rfl;rw[d];simp only;generalize (if single (ofA b)=true then without (ofA a) (valX (ofA b).lo)else ofA a)=S;generalize (if single (ofA a)=true then without (ofA b) (valX (ofA a).lo)else ofA b)=T;cases emp S<;>cases emp T<;>simp[fg,ff]
   ·rw[show((4:Int)==3)=false from rfl,show((4:Int)==4)=true from rfl,show((4:Int)==5)=false from rfl];have t1:=yQ ha.hiK (xB hb.hi e);have t2:=aaE hb.loK (xB ha.lo c);simp only[fg,ff,l1,l2,l3,l4,h,o1,rsumO lf h3 hb.hi e,rsumO lf h3 ha.lo c,fe,zn lf h3 _ _ ha.hiK (xB hb.hi e),aaD lf h3 _ _ hb.loK (xB ha.lo c),
     kE lf h3 _ _ ha.loK t1.2,kE lf h3 _ _ t2.2 hb.hiK,t1.1,t2.1,(afj (-1)).1,(afj 1).2,em,wP]
    have d:cmpS 4 (ofA a) (ofA b)=(⟨(ofA a).lo,xmin (ofA a).hi (xsh (ofA b).hi (-1))⟩,⟨xmax (ofA b).lo (xsh (ofA a).lo 1),(ofA b).hi⟩):=rfl;rw[d,zJ ea,zJ eb];simp only;generalize (⟨lox a.lo,xmin (hix a.hi) (xsh (hix b.hi) (-1))⟩:Sp)=S;generalize (⟨xmax (lox b.lo) (xsh (lox a.lo) 1),hix b.hi⟩:Sp)=T;cases emp S<;>cases emp T<;>simp[fg,ff]
   ·rw[show((5:Int)==3)=false from rfl,show((5:Int)==4)=false from rfl,show((5:Int)==5)=true from rfl];have t1:=yQ ha.hiK hb.hiK;have t2:=aaE hb.loK ha.loK;simp only[fg,ff,l1,l2,l3,l4,fe,zn lf h3 _ _ ha.hiK hb.hiK,aaD lf h3 _ _ hb.loK ha.loK,
     kE lf h3 _ _ ha.loK t1.2,kE lf h3 _ _ t2.2 hb.hiK,t1.1,t2.1,em,wP]
    have z:∀ x:X,xsh x 0=x:=fun x=>by cases x<;>simp[xsh]
    have d:cmpS 5 (ofA a) (ofA b)=(⟨(ofA a).lo,xmin (ofA a).hi (xsh (ofA b).hi 0)⟩,⟨xmax (ofA b).lo (xsh (ofA a).lo 0),(ofA b).hi⟩):=rfl;rw[d,zJ ea,zJ eb];simp only[z];generalize (⟨lox a.lo,xmin (hix a.hi) (hix b.hi)⟩:Sp)=S;generalize (⟨xmax (lox b.lo) (lox a.lo),hix b.hi⟩:Sp)=T;cases emp S<;>cases emp T<;>simp[fg,ff]
section
variable (lf:Nat)(hb:Big lf){v w:Vl}(hv:WfV v)(hw:WfV w)
include hb hv hw
theorem aj6{op:Int}(g:op=2∨op=3∨op=4∨op=5):lC.f lf op (vc v) (vc w)=some (vc (refV op v w).1,vc (refV op v w).2,()):=by
 have h3:200000≤lf:=by have:=hb.1;omega
 rw[lC.f];unfold refV;by_cases b:op=2
 ·have:(op==2)=true:=by simp[b]
  rw[this,fg,fa b,tJ lf hb hv hw,fe,fe]
 ·have:(op==2)=false:=by simp[b]
  obtain⟨h,i⟩:=ac8 hv.a hw.a g;have e:op=3∨op=4∨op=5:=ω;rw[this,ff,gT b];simp only[show(vc v).1=ac v.a from rfl,show(vc v).2.1=cc v.c from rfl,show(vc w).1=ac w.a from rfl,show(vc w).2.1=cc w.c from rfl,aj1 lf h3 hv.a hw.a e,fe,yE lf hb h hv.c,yE lf hb i hw.c,dH.f,aA.f,aI.f];have em:∀ x:Vl,(vc x).1.1=x.a.em:=fun _=>rfl;simp only[em];have d:(((true,(⟨#[]⟩:ByteArray),(⟨#[]⟩:ByteArray),()),(true,(⟨#[]⟩:ByteArray),(⟨#[]⟩:ByteArray),()),()):VV)=vc Ev:=rfl;simp only[d];cases j:(red (refA op v.a w.a).1 v.c).a.em with
  | true=>simp only[fg,if_true]
  | false =>
   cases k:(red (refA op v.a w.a).2 w.c).a.em with
   | true=>simp only[fg,ff,if_true,if_false,ze]
   | false=>simp only[ff,if_false,ze]
end
section
variable (lf:Nat)(hb:Big lf){v w:Vl}(hv:WfV v)(hw:WfV w)
include hb hv hw
end
section
variable (lf:Nat)(hb:Big lf){x y:VV}(hx:SmV x)(hy:SmV y)
include hb hx hy
end
section
variable (lf:Nat)(hb:Big lf){x:VV}(hx:SmV x)
include hb hx
end
def afb(lf:Nat)(x:IV):∃ b,mD.f lf x=some (b,())∧(b=true→tb x.2.1≤100000∧tb x.2.2.1≤100000):=by
 rw[mD.f];simp only[oq.f,fe];by_cases h:(x.2.1.size:Int)≤250
 ·rw[gR h,fg];refine⟨_,rfl,fun k=>?_⟩;have k:=of_decide_eq_true k;rw[Lib.size_eq]at h k;exact⟨by simp only[tb];omega,by simp only[tb];omega⟩
 ·rw[gP h,ff];exact⟨_,rfl,nofun⟩
def aim(lf:Nat)(x y:IV):∃ b,oC.f lf x y=some (b,())∧(b=true→(tb x.2.1≤100000∧tb x.2.2.1≤100000)∧(tb y.2.1≤100000∧tb y.2.2.1≤100000)):=by
 rw[oC.f];by_cases a:(x.2.1.size:Int)≤450
 ·rw[gR a,fg];by_cases c:(x.2.2.1.size:Int)≤450
  ·rw[gR c,fg];by_cases h3:(y.2.1.size:Int)≤450
   ·rw[gR h3,fg];refine⟨_,rfl,fun k=>?_⟩;have k:=of_decide_eq_true k;rw[Lib.size_eq]at a c h3 k;exact⟨⟨by simp only[tb];omega,by simp only[tb];omega⟩,by simp only[tb];omega,by simp only[tb];omega⟩
   ·rw[gP h3,ff];exact⟨_,rfl,nofun⟩
  ·rw[gP c,ff];exact⟨_,rfl,nofun⟩
 ·rw[gP a,ff];exact⟨_,rfl,nofun⟩
def ajH(lf:Nat)(x y:VV):∃ b,mG.f lf x y=some (b,())∧(b=true→SmV x∧SmV y):=by
 obtain⟨a,i,j⟩:=aim lf x.1 y.1;obtain⟨b,l,m⟩:=afb lf x.2.1;obtain⟨c,c1,c2⟩:=afb lf y.2.1;rw[mG.f,i,fe];cases a with
 | false=>simp only[ff];exact⟨_,rfl,nofun⟩
 | true =>
  simp only[fg,l,fe];cases b with
  | false=>simp only[ff];exact⟨_,rfl,nofun⟩
  | true =>
   simp only[fg,c1,fe];refine⟨_,rfl,fun k=>?_⟩;obtain⟨d,e⟩:=j rfl;have g:=m rfl;have h:=c2 k;exact⟨⟨d.1,d.2,g.1,g.2⟩,e.1,e.2,h.1,h.2⟩
def bigN(n:Nat):∃ lf,Big lf∧n≤lf:=⟨2000000000+K.toNat+n,⟨ω,ω⟩,ω⟩
def bigE:∃ lf,Big lf:=⟨_,(bigN 0).choose_spec.1⟩
open Go.IntKind (i64)
def apLe{α:Type}(b:Nat)(l a:List α)(hb:b≤1000)(h:l.length+a.length≤1000000):apL true b l a=some (l++a):=by
 unfold apL;have:(l.length+a.length)*b≤1000000*1000:=Nat.mul_le_mul h hb;rw[fa ⟨rfl,by simp only[maxLen];omega,ω⟩]
def ltE{j k:Nat}:decide ((j:Int) < ((k:Nat):Int))=decide (j < k):=ψ
def wrE{j:Nat}(h:j < 1000000):i64.wrap ((j:Int)+1)=((j+1:Nat):Int):=by rw[w64 ω ω];omega
structure WfE(vs:List Vl):Prop where
 v:∀ v∈vs,WfV v
 ne:∀ v∈vs,v.a.em=false
 len:vs.length≤32
section
variable (lf:Nat)(hb:Big lf)
include hb
theorem afc{l:List VV}(hl:l.length≤40):∀ (d n j:Nat),j+d=l.length→d < n→∃ b,iP.l0 lf l n j=some (b,(),(),())∧(b=false→∀ s∈l.drop j,SmV s)
 | 0,n,j,hd,hn=>by
  obtain⟨n,rfl⟩:∃ q,n=q+1:=⟨n-1,ω⟩
  refine⟨false,?_,fun _ s hs=>?_⟩
  ·rw[iP.l0,iP.r0,ltE,gP ω,ff]
  ·rw[oA ω]at hs;cases hs
 | d+1,n,j,hd,hn=>by
  obtain⟨n,rfl⟩:∃ q,n=q+1:=⟨n-1,ω⟩
  have a:j < l.length:=ω;obtain⟨b,e,f⟩:=ajH lf l[j] l[j];obtain⟨c,c1,c2⟩:=afc hl d n (j+1) ω ω;rw[iP.l0,iP.r0,ltE,gR a,fg,iK l j a,fe,fe,e,fe,wrE ω,c1];cases b with
  | false=>exact⟨true,by rw[zg,fg],fun h=>by cases h⟩
  | true =>
   refine⟨c,by rw[zj,ff],fun h s hs=>?_⟩;rw[vr a]at hs;rcases ww.1 hs with rfl | hs
   ·exact(f rfl).1
   ·exact c2 h s hs
theorem aku(l:List VV):∃ b,iP.f lf l=some (b,())∧(b=true→l.length≤40∧∀ s∈l,SmV s):=by
 rw[iP.f];by_cases h:40 < l.length
 ·exact⟨false,by rw[show decide ((l.length:Int) > 40)=true by simp;omega,fg],fun h=>by cases h⟩
 ·rw[show decide ((l.length:Int) > 40)=false by simp;omega,ff];obtain⟨b,a,c⟩:=afc lf hb (l:=l) ω l.length (lf+40) 0 ω (by have:=hb.1;omega);rw[show((0:Nat):Int)=0 from rfl]at a;rw[a,fe];cases b with
  | true=>exact⟨false,by rw[fg],fun h=>by cases h⟩
  | false=>exact⟨true,by rw[ff],fun _=>⟨ω,fun s hs=>c rfl s (by simpa using hs)⟩⟩
theorem ad8{l:List VV}(hl:l.length≤1000):∀ (d n j:Nat),j+d=l.length→d < n→dJ.l0 lf l l n j=some (false,(),(),())
 | 0,n,j,hd,hn=>by
  obtain⟨n,rfl⟩:∃ q,n=q+1:=⟨n-1,ω⟩
  rw[dJ.l0,dJ.r0,ltE,gP ω,ff]
 | d+1,n,j,hd,hn=>by
  obtain⟨n,rfl⟩:∃ q,n=q+1:=⟨n-1,ω⟩
  have a:j < l.length:=ω;rw[dJ.l0,dJ.r0,ltE,gR a,fg,iK l j a,fe,fe,aeP,fe];simp only[BEq.rfl,decide_true,zj];rw[ff,wrE ω];exact ad8 hl d n (j+1) ω ω
theorem aj7(l:List VV)(hl:l.length≤1000):dJ.f lf l l=some (true,()):=by
 rw[dJ.f,show(((l.length:Int)) !=(l.length:Int))=false by simp,ff];have:=ad8 lf hb hl l.length (lf+40) 0 ω (by have:=hb.1;omega);rw[show((0:Nat):Int)=0 from rfl]at this;rw[this,fe,ff]
theorem agE{l:List VV}(hs:∀ x∈l,SmV x)(hl:l.length≤40):∀ (d n j:Nat),j+d=l.length→d < n→∃ (b:Bool) (e:Int),jC.l0 lf l (l.length:Nat) n j=some (b,(e,()),(),())∧gU.l0 lf l n j=some (b,(e,()),(),())∧
      (b=true→e≠0)∧(b=false→∃ vs:List Vl,l.drop j=vs.map vc∧(∀ v∈vs,WfV v)∧∀ v∈vs,v.a.em=false)
  | 0,n,j,hd,hn=>by
    obtain⟨n,rfl⟩:∃ q,n=q+1:=⟨n-1,ω⟩
    refine⟨false,0,?_,?_,nofun,fun _=>⟨[],?_,ψ,ψ⟩⟩
    · rw[jC.l0,jC.r0,ltE,gP ω,ff]
    · rw[gU.l0,gU.r0,ltE,gP ω,ff]
    · rw[oA ω];rfl
  | d+1,n,j,hd,hn=>by
    obtain⟨n,rfl⟩:∃ q,n=q+1:=⟨n-1,ω⟩
    have g:j < l.length:=ω;obtain⟨k,t,u,y⟩:=chkV lf hb (hs _ (qT g));obtain⟨b,e,i1,r,i3,s⟩:=agE hs hl d n (j+1) ω ω;rw[jC.l0,jC.r0,gU.l0,gU.r0,ltE,gR g,fg,fg,iK l j g,fe,fe,t,u,fe,fe];by_cases h:k=0
    · subst h
      obtain⟨v,ev,hv⟩:=y rfl;simp only[bne_self_eq_false,ff,dA.f,fe];cases c:(l[j]).1.1 with
      | true=>simp only[fg];exact⟨true,16,rfl,rfl,fun _=>δ,nofun⟩
      | false =>
        simp only[ff,wrE (show j < 1000000 from ω),i1,r];refine⟨b,e,rfl,rfl,i3,fun i=>?_⟩;obtain⟨vs,m,o,p⟩:=s i;refine⟨v::vs,by rw[vr g,m,ev];rfl,fun w hw=>?_,fun w hw=>?_⟩
        · rcases ww.1 hw with rfl | hw
          · exact hv
          · exact o w hw
        · rcases ww.1 hw with rfl | hw
          · rw[ev]at c;exact c
          · exact p w hw
    · simp only[bneT h,fg]
      exact⟨true,k,rfl,rfl,fun _=>h,nofun⟩
theorem chkE{l:List VV}(hs:∀ x∈l,SmV x)(hl:l.length≤40):∃ e:Int,jC.f lf l=some (e,())∧gU.f lf l=some (e,())∧(e=0→∃ vs:List Vl,l=vs.map vc∧WfE vs):=by
 rw[jC.f,gU.f];by_cases h:32 < l.length
 ·rw[show decide ((l.length:Int) > 32)=true by simp;omega,fg,fg];exact⟨5,rfl,rfl,nofun⟩
 ·rw[show decide ((l.length:Int) > 32)=false by simp;omega,ff,ff];obtain⟨b,e,i1,c,i3,i⟩:=agE lf hb hs hl l.length (lf+40) 0 ω (by have:=hb.1;omega);rw[show((0:Nat):Int)=0 from rfl]at i1 c;rw[i1,c,fe];cases b with
  | true=>simp only[fg];exact⟨e,rfl,rfl,fun h=>absurd h (i3 rfl)⟩
  | false =>
   simp only[ff];obtain⟨vs,a,d,g⟩:=i rfl;refine⟨0,rfl,rfl,fun _=>⟨vs,by simpa using a,d,g,?_⟩⟩;have:l.length=vs.length:=by have:=congrArg List.length a;simpa using this
   omega
end
section
variable (lf:Nat)(hb:Big lf){vs ws:List Vl}(hv:WfE vs)(hw:WfE ws)(hn:vs.length=ws.length)
include hb hv hw hn
end
section
variable (lf:Nat)(hb:Big lf){l m:List VV}(hs:∀ x∈l,SmV x)(hl:l.length≤40)(ks:∀ x∈m,SmV x)(kl:m.length≤40)
include hb hs hl ks kl
end
def betV(b a:Option Int):Vl:=red (toA ⟨lox b,hix a⟩) topC
def aej{b a:Option Int}(c:okb K b)(d:okb K a):Wf (toA ⟨lox b,hix a⟩):=nT ⟨aa5 c,aa4 d⟩ (.inr ⟨by cases b<;>simp[lox],by cases a<;>simp[hix]⟩)
def aei{b a:Option Int}(c:okb K b)(d:okb K a):WfV (betV b a):=acu (aej c d) xW
def sgl(v:Vl):Option Int:=if v.c.em=true then none else if v.c.m=0 then some v.c.r else none
def scl(b a:Option Int)(c:Int):Vl:=betV (b.map fun l=> -((-l).fdiv c)) (a.map fun h=>h.fdiv c)
def scV(w:Vl)(c:Int):Vl:=if c < 0 then scl (toA (turn (ofA w.a))).lo (toA (turn (ofA w.a))).hi (-c)else scl w.a.lo w.a.hi c
def dvV(w:Vl)(c:Int):Vl:=betV (w.a.lo.map fun l=>c*l) (w.a.hi.map fun h=>c*h+c-1)
def ahi(z:Int):∃ b:UInt8,sIdx (ob (some z)) 0=some b∧(((b.toNat:Nat):Int)==45)=decide (z < 0):=by
 have a:0 < (z7 z).length:=List.length_pos_iff.2 (kX z);refine⟨(z7 z)[0],uP _ 0 0 rfl a,?_⟩;rw[←xg];unfold neg;rw[List.head?_eq_getElem?,zP a];generalize (z7 z)[0]=b;by_cases h:b=45
 ·subst h;rfl
 ·rw[gP (by simpa using h),beq_eq_false_iff_ne];intro e;have c:((b.toNat:Nat):Int)=45:=e;exact h (UInt8.toNat_inj.1 (show b.toNat=45 from ω))
def fdivC{a c:Int}(h: -C < a∧a < C)(b:c≠0): -K < a.fdiv c∧a.fdiv c < K:=by
 have:=uU (x:=a) b;have:=fD;omega
section
variable (lf:Nat)(hb:Big lf)
include hb
theorem big3:200000≤lf:=by have:=hb.1;omega
theorem ac6{z:Int}(a: -K < z∧z < K):dK.f lf (bs (z7 z))=some (0,()):=by
 have:=rq a;rw[sH lf _ ω,(qg z).2 a]
theorem aiq{b a:Option Int}(c:okb K b)(d:okb K a):rH.f lf (ob b) (ob a)=some (ac (toA ⟨lox b,hix a⟩),0,()):=by
 have o:aK.f lf (false,ob b,ob a,())=some (sc ⟨lox b,hix a⟩,()):=of_f lf ⟨false,b,a⟩;have i:=jr lf (big3 lf hb) (s:=⟨lox b,hix a⟩) ⟨aa5 c,aa4 d⟩;rw[rH.f,jh,jh,o,fe,i,fe];cases b with
 | none=>cases a with
  | none=>rw[gR rfl,fg,fg]
  | some y=>rw[gR rfl,fg,gP nofun,ff];simp only[show ob (some y)=bs (z7 y) from rfl,ac6 lf hb d,fe,bne_self_eq_false,ff]
 | some x=>cases a with
  | none=>rw[gR rfl,gP nofun,ff];simp only[show ob (some x)=bs (z7 x) from rfl,ac6 lf hb c,fe,bne_self_eq_false,ff,fg]
  | some y=>rw[gP nofun,gP nofun,ff];simp only[show ob (some x)=bs (z7 x) from rfl,show ob (some y)=bs (z7 y) from rfl,ac6 lf hb c,ac6 lf hb d,fe,bne_self_eq_false,ff]
theorem abZ{b a:Option Int}(c:okb K b)(d:okb K a):gm.f lf (ob b) (ob a)=some (vc (betV b a),()):=by
 have w:=aej c d;rw[gm.f,aiq lf hb c d,fe];simp only[oH.f,fe,gZ.f,acz,xY.f,pO.f,jy lf (big3 lf hb) w,ccheck lf hb xW,bne_self_eq_false,ff,yJ lf hb w xW,eG.f];rfl
theorem ad3{b a:Option Int}(c:okb K b)(d:okb K a):bM.f lf (ob b) (ob a)=some (vc (betV b a),()):=by
 have w:=aej c d;rw[bM.f,kE lf (big3 lf hb) b a c d,fe];simp only[dB.f,fe,acz,yE lf hb w xW];rfl
theorem ahM{v:Vl}(hv:WfV v):pW.f lf (vc v)=some (ob (sgl v),()):=by
 rw[pW.f,vI.f,(chk_wf lf hb hv).1,fe];simp only[bne_self_eq_false,ff];have p:(vc v).2.1=cc v.c:=rfl;unfold sgl;simp only[p];cases e:v.c.em with
 | true =>
  have q:cc v.c=(true,bs [],bs [],()):=by unfold cc;rw[fa e]
  simp only[q,fg,fe,zg,if_true];rfl
 | false =>
  simp only[dP e,ff,beq0,ze,if_false];by_cases h:v.c.m=0
  ·simp only[h,decide_true,zj,ff,fe,if_true];rfl
  ·simp only[h,decide_false,zg,fg,fe,if_false];rfl
omit hb in
theorem ahN{v:Vl}:iD.f lf (vc v)=some (ob (sgl v),()):=by
 rw[iD.f];have p:(vc v).2.1=cc v.c:=rfl;unfold sgl;simp only[p];cases e:v.c.em with
 | true =>
  have q:cc v.c=(true,bs [],bs [],()):=by unfold cc;rw[fa e]
  have z:((bs []).toList==(⟨#[48]⟩:ByteArray).toList)=false:=by rw[show(⟨#[48]⟩:ByteArray)=bs [48] from rfl,kL];rfl
  simp only[q,z,ff,if_true];rfl
 | false =>
  simp only[dP e,beq0,ze,if_false];by_cases h:v.c.m=0
  ·simp only[h,decide_true,fg,if_true];rfl
  ·simp only[h,decide_false,ff,if_false];rfl
omit hb in
theorem tX{v:Vl}(hv:WfV v){c:Int}(h:sgl v=some c): -C < c∧c < C:=by
 unfold sgl at h;split at h
 ·cases h
 ·split at h
  ·cases h;exact hv.c.r
  ·cases h
theorem bneg{z:Int}(a: -K < z∧z < K):jQ.f lf (bs (z7 z))=some (bs (z7 (-z)),0,()):=agB lf (big3 lf hb) a
theorem rneg{z:Int}(a: -K < z∧z < K):bg.f lf (bs (z7 z))=some (bs (z7 (-z)),()):=ve lf a
theorem rquo{x y:Int}(hx: -K < x∧x < K)(hy: -K < y∧y < K)(a:y≠0):aJ.f lf (bs (z7 x)) (bs (z7 y))=some (bs (z7 (x.fdiv y)),()) :=
 qw lf (big3 lf hb) (by have:=(sz_K x).2 hx;omega) (by have:=(sz_K y).2 hy;omega) a
omit hb in
theorem adi{d b:Option Int}{c:Int}(f:okb C d)(g:okb C b)(e:c≠0):okb K (d.map fun l=> -((-l).fdiv c))∧okb K (b.map fun h=>h.fdiv c):=by
 constructor
 ·cases d with
  | none=>trivial
  | some l=>have:=fdivC (a:= -l) (c:=c) (by simp only[okb]at f;omega) e;simp only[okb,xf];omega
 ·cases b with
  | none=>trivial
  | some l=>exact fdivC g e
theorem ajh{g b:Option Int}{c:Int}(p:okb C g)(j:okb C b)(u: -C < c∧c < C)(h:c≠0):
  (br (!((ob g).toList==(⟨#[]⟩:ByteArray).toList)) (bd (jQ.f lf (ob g)) fun r6=>bd (fQ.f lf r6.1 r6.2.1) fun r7=>bd (iE.f lf r7.1 (bs (z7 c))) fun r8=>bd (fQ.f lf r8.1 r8.2.1) fun r9=>bd (jQ.f lf r9.1) fun r10=>bd (fQ.f lf r10.1 r10.2.1) fun r11 =>
   br (!((ob b).toList==(⟨#[]⟩:ByteArray).toList)) (bd (iE.f lf (ob b) (bs (z7 c))) fun r12=>bd (fQ.f lf r12.1 r12.2.1) fun r13=>bd (gm.f lf r11.1 r13.1) fun r14=>some (r14.1,())) (bd (gm.f lf r11.1 (ob b)) fun r15=>some (r15.1,())))
   (br (!((ob b).toList==(⟨#[]⟩:ByteArray).toList)) (bd (iE.f lf (ob b) (bs (z7 c))) fun r16=>bd (fQ.f lf r16.1 r16.2.1) fun r17=>bd (gm.f lf (ob g) r17.1) fun k=>some (k.1,())) (bd (gm.f lf (ob g) (ob b)) fun l=>some (l.1,()))))
   = some (vc (scl g b c),()):=by
 have t:=fD;have e:=hb.1;obtain⟨r,s⟩:=adi p j h;have i: -K < c∧c < K:=ω;have d:=abZ lf hb r s;rw[jh,jh];unfold scl;cases g with
 | none=>cases b with
  | none=>simp only[decide_true,zj,ff,xf]at d⊢;rw[d,fe]
  | some y =>
   simp only[okb]at j;simp only[decide_true,zj,reduceCtorEq,decide_false,zg,ff,fg,show ob (some y)=bs (z7 y) from rfl,uG lf e (x:=y) ω i h,fQ.f,fe];simp only[xf,ob]at d⊢;rw[d,fe]
 | some x =>
  simp only[okb]at p;have q:=fdivC (a:= -x) (c:=c) ω h;have m:jQ.f lf (ob (some x))=some (bs (z7 (-x)),0,()):=bneg lf hb ω;have n:=uG lf e (x:= -x) ω i h;have o:=bneg lf hb q;cases b with
  | none =>
   simp only[decide_true,zj,reduceCtorEq,decide_false,zg,ff,fg,m,n,o,fQ.f,fe];simp only[xf,ob]at d⊢;rw[d,fe]
  | some y =>
   simp only[okb]at j;simp only[reduceCtorEq,decide_false,zg,fg,m,n,o,show ob (some y)=bs (z7 y) from rfl,uG lf e (x:=y) ω i h,fQ.f,fe];simp only[xf,ob]at d⊢;rw[d,fe]
theorem aji{e b:Option Int}{c:Int}(m:okb C e)(i:okb C b)(s: -C < c∧c < C)(g:c≠0):
  (br (!((ob e).toList==(⟨#[]⟩:ByteArray).toList)) (bd (bg.f lf (ob e)) fun r4=>bd (aJ.f lf r4.1 (bs (z7 c))) fun r5=>bd (bg.f lf r5.1) fun r6 =>
   br (!((ob b).toList==(⟨#[]⟩:ByteArray).toList)) (bd (aJ.f lf (ob b) (bs (z7 c))) fun r7=>bd (bM.f lf r6.1 r7.1) fun r8=>some (r8.1,())) (bd (bM.f lf r6.1 (ob b)) fun r9=>some (r9.1,())))
   (br (!((ob b).toList==(⟨#[]⟩:ByteArray).toList)) (bd (aJ.f lf (ob b) (bs (z7 c))) fun r10=>bd (bM.f lf (ob e) r10.1) fun r11=>some (r11.1,())) (bd (bM.f lf (ob e) (ob b)) fun r12=>some (r12.1,()))))
   = some (vc (scl e b c),()):=by
 have r:=fD;have n:=hb.1;obtain⟨o,p⟩:=adi m i g;have h: -K < c∧c < K:=ω;have d:=ad3 lf hb o p;rw[jh,jh];unfold scl;cases e with
 | none=>cases b with
  | none=>simp only[decide_true,zj,ff,xf]at d⊢;rw[d,fe]
  | some y =>
   simp only[okb]at i;simp only[decide_true,zj,reduceCtorEq,decide_false,zg,ff,fg,show ob (some y)=bs (z7 y) from rfl,rquo lf hb (x:=y) ω h g,fe];simp only[xf,ob]at d⊢;rw[d,fe]
 | some x =>
  simp only[okb]at m;have q:=fdivC (a:= -x) (c:=c) ω g;have j:bg.f lf (ob (some x))=some (bs (z7 (-x)),()):=rneg lf hb ω;have k:=rquo lf hb (x:= -x) ω h g;have l:=rneg lf hb q;cases b with
  | none =>
   simp only[decide_true,zj,reduceCtorEq,decide_false,zg,ff,fg,j,k,l,fe];simp only[xf,ob]at d⊢;rw[d,fe]
  | some y =>
   simp only[okb]at i;simp only[reduceCtorEq,decide_false,zg,fg,j,k,l,show ob (some y)=bs (z7 y) from rfl,rquo lf hb (x:=y) ω h g,fe];simp only[xf,ob]at d⊢;rw[d,fe]
theorem aap{w:Vl}(hw:WfV w){c:Int}(e: -C < c∧c < C)(d:c≠0):pV.f lf (vc w) (ob (some c))=some (vc (scV w c),()):=by
 have j:=fD;obtain⟨b,g,i⟩:=ahi c;rw[pV.f,g,fe,i];unfold scV;by_cases h:c < 0
 ·have t:=turnA hw.a;have f:=ajh lf hb (c:= -c) t.1.lo t.1.hi ω ω;have n:jQ.f lf (ob (some c))=some (bs (z7 (-c)),0,()):=bneg lf hb ω;rw[gR h,fg,fa h,show(vc w).1=ac w.a from rfl,ajc lf (big3 lf hb) hw.a,fe];simp only[oH.f,fe,n,fQ.f]at f⊢;exact f
 ·rw[gP h,ff,gT h];exact ajh lf hb hw.a.lo hw.a.hi e d
theorem aaq{w:Vl}(hw:WfV w){c:Int}(e: -C < c∧c < C)(d:c≠0):iR.f lf (vc w) (ob (some c))=some (vc (scV w c),()):=by
 have g:=fD;rw[iR.f,show bF.f lf (ob (some c))=some (sgn c,()) from signI lf c,fe];have s:decide (sgn c < 0)=decide (c < 0):=by unfold sgn;by_cases h:c < 0<;>by_cases b:c=0<;>simp[h,b]<;>omega
 rw[s];unfold scV;by_cases h:c < 0
 ·have t:=turnA hw.a;have f:=aji lf hb (c:= -c) t.1.lo t.1.hi ω ω;have n:bg.f lf (ob (some c))=some (bs (z7 (-c)),()):=rneg lf hb ω;rw[gR h,fg,fa h,show(vc w).1=ac w.a from rfl,oJ lf (big3 lf hb) hw.a,fe];simp only[fe,n];exact f
 ·rw[gP h,ff,gT h];exact aji lf hb hw.a.lo hw.a.hi e d
omit hb in
theorem ae7{w:Vl}(hw:WfV w){c:Int}(b: -C < c∧c < C):okb K (w.a.lo.map fun l=>c*l)∧okb K (w.a.hi.map fun h=>c*h+c-1):=by
 have d:=CC_K;have l:=hw.a.lo;have h:=hw.a.hi;constructor
 ·cases e:w.a.lo with
  | none=>trivial
  | some x=>rw[e]at l;have:=rY b l;simp only[okb,xf];omega
 ·cases e:w.a.hi with
  | none=>trivial
  | some x=>rw[e]at h;have:=rY b h;simp only[okb,xf];omega
theorem bmul{x y:Int}(hx: -C < x∧x < C)(hy: -C < y∧y < C):lF.f lf (bs (z7 x)) (bs (z7 y))=some (bs (z7 (x*y)),0,()):=by
 have a:=CC_K;have:=rY hx hy;have hl:=fD;have z:sz (x*y)≤4096:=(sz_K _).2 ω;rw[ajb lf _ _ (chkK ω) (chkK ω) (big3 lf hb),dW,dW,rU,gT ω]
theorem badd{x y:Int}(hx: -K < x∧x < K)(hy: -K < y∧y < K)(h: -K < x+y∧x+y < K):kM.f lf (bs (z7 x)) (bs (z7 y))=some (bs (z7 (x+y)),0,()):=by
 have z:sz (x+y)≤4096:=(sz_K _).2 h;rw[ai5 lf _ _ (chkK hx) (chkK hy) (big3 lf hb),dW,dW,rU,gT ω]
theorem bsub{x y:Int}(hx: -K < x∧x < K)(hy: -K < y∧y < K)(h: -K < x-y∧x-y < K):lG.f lf (bs (z7 x)) (bs (z7 y))=some (bs (z7 (x-y)),0,()):=by
 have z:sz (x-y)≤4096:=(sz_K _).2 h;rw[afR lf _ _ (chkK hx) (chkK hy) (big3 lf hb),dW,dW,rU,gT ω]
theorem rmul{x y:Int}(hx: -C < x∧x < C)(hy: -C < y∧y < C):aU.f lf (bs (z7 x)) (bs (z7 y))=some (bs (z7 (x*y)),()):=by
 have hl:=fD;exact yC lf (big3 lf hb) (by have:=szK (z:=x) ω;omega) (by have:=szK (z:=y) ω;omega)
theorem radd{x y:Int}(hx: -K < x∧x < K)(hy: -K < y∧y < K):cO.f lf (bs (z7 x)) (bs (z7 y))=some (bs (z7 (x+y)),()) :=
 adl lf (big3 lf hb) (by have:=szK hx;omega) (by have:=szK hy;omega)
theorem rsub{x y:Int}(hx: -K < x∧x < K)(hy: -K < y∧y < K):aT.f lf (bs (z7 x)) (bs (z7 y))=some (bs (z7 (x-y)),()) :=
 zT lf (big3 lf hb) (by have:=szK hx;omega) (by have:=szK hy;omega)
theorem aeo{w:Vl}(hw:WfV w){c:Int}(d: -C < c∧c < C):pJ.f lf (vc w) (ob (some c))=some (vc (dvV w c),()):=by
 have o:=CC_K;have n:=C_gt;obtain⟨j,k⟩:=ae7 hw d;have b:=abZ lf hb j k;have l:=hw.a.lo;have h:=hw.a.hi;have p1:(vc w).1.2.1=ob w.a.lo:=rfl;have p2:(vc w).1.2.2.1=ob w.a.hi:=rfl;have i:ob (some c)=bs (z7 c):=rfl;rw[pJ.f,p1,p2,jh,jh];unfold dvV;cases g:w.a.lo with
 | none=>cases e:w.a.hi with
  | none=>rw[g,e]at b;simp only[decide_true,zj,ff,xf]at b⊢;rw[b,fe]
  | some y =>
   rw[g,e]at b;rw[e]at h;have m:=rY d h;simp only[decide_true,zj,reduceCtorEq,decide_false,zg,ff,fg,i,show ob (some y)=bs (z7 y) from rfl,bmul lf hb d h,badd lf hb (x:=c*y) (y:=c) ω ω ω,i1,bsub lf hb (x:=c*y+c) (y:=1) ω ω ω,fQ.f,fe];simp only[xf,ob]at b⊢;rw[b,fe]
 | some x =>
  rw[g]at l;have p:=rY d l;cases e:w.a.hi with
  | none =>
   rw[g,e]at b;simp only[decide_true,zj,reduceCtorEq,decide_false,zg,ff,fg,i,show ob (some x)=bs (z7 x) from rfl,bmul lf hb d l,fQ.f,fe];simp only[xf,ob]at b⊢;rw[b,fe]
  | some y =>
   rw[g,e]at b;rw[e]at h;have m:=rY d h;simp only[reduceCtorEq,decide_false,zg,fg,i,show ob (some x)=bs (z7 x) from rfl,show ob (some y)=bs (z7 y) from rfl,bmul lf hb d l,bmul lf hb d h,badd lf hb (x:=c*y) (y:=c) ω ω ω,i1,bsub lf hb (x:=c*y+c) (y:=1) ω ω ω,fQ.f,fe];simp only[xf,ob]at b⊢;rw[b,fe]
theorem aep{w:Vl}(hw:WfV w){c:Int}(d: -C < c∧c < C):lD.f lf (vc w) (ob (some c))=some (vc (dvV w c),()):=by
 have o:=CC_K;have n:=C_gt;obtain⟨j,k⟩:=ae7 hw d;have b:=ad3 lf hb j k;have l:=hw.a.lo;have h:=hw.a.hi;have p1:(vc w).1.2.1=ob w.a.lo:=rfl;have p2:(vc w).1.2.2.1=ob w.a.hi:=rfl;have i:ob (some c)=bs (z7 c):=rfl;rw[lD.f,p1,p2,jh,jh];unfold dvV;cases g:w.a.lo with
 | none=>cases e:w.a.hi with
  | none=>rw[g,e]at b;simp only[decide_true,zj,ff,xf]at b⊢;rw[b,fe]
  | some y =>
   rw[g,e]at b;rw[e]at h;have m:=rY d h;simp only[decide_true,zj,reduceCtorEq,decide_false,zg,ff,fg,i,show ob (some y)=bs (z7 y) from rfl,rmul lf hb d h,radd lf hb (x:=c*y) (y:=c) ω ω,i1,rsub lf hb (x:=c*y+c) (y:=1) ω ω,fe];simp only[xf,ob]at b⊢;rw[b,fe]
 | some x =>
  rw[g]at l;have p:=rY d l;cases e:w.a.hi with
  | none =>
   rw[g,e]at b;simp only[decide_true,zj,reduceCtorEq,decide_false,zg,ff,fg,i,show ob (some x)=bs (z7 x) from rfl,rmul lf hb d l,fe];simp only[xf,ob]at b⊢;rw[b,fe]
  | some y =>
   rw[g,e]at b;rw[e]at h;have m:=rY d h;simp only[reduceCtorEq,decide_false,zg,fg,i,show ob (some x)=bs (z7 x) from rfl,show ob (some y)=bs (z7 y) from rfl,rmul lf hb d l,rmul lf hb d h,radd lf hb (x:=c*y) (y:=c) ω ω,i1,rsub lf hb (x:=c*y+c) (y:=1) ω ω,fe];simp only[xf,ob]at b⊢;rw[b,fe]
end
noncomputable def pmV (v w:Vl):Option Int→Vl
 | some c=>if c=0 then v else metV v (scV w c)
 | none=>v
noncomputable def pdV (v w:Vl):Option Int→Vl
 | some c=>if 0 < c then metV v (dvV w c)else v
 | none=>v
noncomputable def parV (op:Int) (w a b:Vl):Vl×Vl :=
 if op=3 then(metV a (opV 4 w b),metV b (opV 4 w a))else if op=4 then(metV a (opV 3 w b),metV b (opV 4 a w))else
 if op=5 then(pmV a w (sgl b),pmV b w (sgl a))else if op=6 then(pdV a w (sgl b),b)else(a,b)
def aao{w:Vl}(hw:WfV w){c:Int}(f: -C < c∧c < C)(e:c≠0):WfV (scV w c):=by
 unfold scV;split
 ·have t:=turnA hw.a;obtain⟨b,d⟩:=adi (c:= -c) t.1.lo t.1.hi ω;exact aei b d
 ·obtain⟨b,d⟩:=adi hw.a.lo hw.a.hi e;exact aei b d
def agM{w:Vl}(hw:WfV w){c:Int}(a: -C < c∧c < C):WfV (dvV w c):=aei (ae7 hw a).1 (ae7 hw a).2
def ob0(o:Option Int):((ob o).toList==(⟨#[48]⟩:ByteArray).toList)=decide (o=some 0):=by
 cases o with
 | none=>rw[gP nofun];show((bs []).toList==(bs [48]).toList)=false;rw[kL];rfl
 | some c=>show((bs (z7 c)).toList==_)=_;rw[beq0];simp
section
variable (lf:Nat)(hb:Big lf){w a b:Vl}(hw:WfV w)(ha:WfV a)(hB:WfV b)
include hb hw ha
theorem aje{o:Option Int}(b:∀ c,o=some c→-C < c∧c < C):WfV (pmV a w o):=by
 cases o with
 | none=>exact ha
 | some c =>
  show WfV (if c=0 then a else metV a (scV w c));split
  ·exact ha
  ·exact vz ha (aao hw (b c rfl) (by assumption))
theorem akI{o:Option Int}(b:∀ c,o=some c→-C < c∧c < C):WfV (pdV a w o):=by
 cases o with
 | none=>exact ha
 | some c =>
  show WfV (if 0 < c then metV a (dvV w c)else a);split
  ·exact vz ha (agM hw (b c rfl))
  ·exact ha
include hB
theorem ajZ{op:Int}:WfV (parV op w a b).1∧WfV (parV op w a b).2:=by
 unfold parV;split
 ·exact⟨vz ha (xh hw hB ⟨ω,ω⟩),vz hB (xh hw ha ⟨ω,ω⟩)⟩
 split
 ·exact⟨vz ha (xh hw hB ⟨ω,ω⟩),vz hB (xh ha hw ⟨ω,ω⟩)⟩
 split
 ·exact⟨aje lf hb hw ha fun c h=>tX hB h,aje lf hb hw hB fun c h=>tX ha h⟩
 split
 ·exact⟨akI lf hb hw ha fun c h=>tX hB h,hB⟩
 ·exact⟨ha,hB⟩
theorem aiE{op:Int}(j:3≤op∧op≤7):qY.f lf op (vc w) (vc a) (vc b)=some (vc (parV op w a b).1,vc (parV op w a b).2,()):=by
 have A:=ahM lf hb ha;have B:=ahM lf hb hB;have n:=fD;unfold parV;rcases op3 j with rfl | rfl | rfl | rfl | rfl
 ·rw[qY.f,show((3:Int)==3)=true from rfl,fg];simp only[pK.f,gq.f,adZ lf hb hw hB (op:=4) ⟨ω,ω⟩,adZ lf hb hw ha (op:=4) ⟨ω,ω⟩,tH lf hb ha (xh hw hB (op:=4) ⟨ω,ω⟩),tH lf hb hB (xh hw ha (op:=4) ⟨ω,ω⟩),eG.f,fe,if_true]
 ·rw[qY.f,show((4:Int)==3)=false from rfl,ff,show((4:Int)==4)=true from rfl,fg];simp only[pK.f,gq.f,adZ lf hb hw hB (op:=3) ⟨ω,ω⟩,adZ lf hb ha hw (op:=4) ⟨ω,ω⟩,tH lf hb ha (xh hw hB (op:=3) ⟨ω,ω⟩),tH lf hb hB (xh ha hw (op:=4) ⟨ω,ω⟩),eG.f,fe,if_true];rfl
 ·rw[qY.f];simp only[show((5:Int)==3)=false from rfl,show((5:Int)==4)=false from rfl,show((5:Int)==5)=true from rfl,ff,fg,A,B,fe,jh,ob0,show((5:Int)=3)=False from ψ,show((5:Int)=4)=False from ψ,if_false,if_true];cases ea:sgl a with
  | none =>
   simp only[decide_true,zj,ff,pmV];cases eb:sgl b with
   | none=>simp only[decide_true,fg]
   | some c =>
    by_cases h:c=0
    ·subst h;simp only[reduceCtorEq,decide_false,decide_true,ff,fg,if_true]
    ·simp only[reduceCtorEq,y8.injEq,h,decide_false,ff,if_false,aap lf hb hw (tX hB eb) h,gq.f,tH lf hb ha (aao hw (tX hB eb) h),eG.f,fe]
  | some d =>
   have i:=tX ha ea;by_cases g:d=0
   ·subst g;simp only[reduceCtorEq,decide_false,decide_true,zg,zj,ff,fg,pmV,if_true];cases eb:sgl b with
    | none=>simp only[decide_true,fg]
    | some c =>
     by_cases h:c=0
     ·subst h;simp only[reduceCtorEq,decide_false,decide_true,ff,fg,if_true]
     ·simp only[reduceCtorEq,y8.injEq,h,decide_false,ff,if_false,aap lf hb hw (tX hB eb) h,gq.f,tH lf hb ha (aao hw (tX hB eb) h),eG.f,fe]
   ·simp only[reduceCtorEq,y8.injEq,g,decide_false,zg,fg,pmV,if_false,aap lf hb hw i g,gq.f,tH lf hb hB (aao hw i g),eG.f,fe];cases eb:sgl b with
    | none=>simp only[decide_true,fg]
    | some c =>
     by_cases h:c=0
     ·subst h;simp only[reduceCtorEq,decide_false,decide_true,ff,fg,if_true]
     ·simp only[reduceCtorEq,y8.injEq,h,decide_false,ff,if_false,aap lf hb hw (tX hB eb) h,tH lf hb ha (aao hw (tX hB eb) h),fe]
 ·rw[qY.f];simp only[show((6:Int)==3)=false from rfl,show((6:Int)==4)=false from rfl,show((6:Int)==5)=false from rfl,show((6:Int)==6)=true from rfl,ff,fg,B,fe,jh,ob0,show((6:Int)=3)=False from ψ,show((6:Int)=4)=False from ψ,show((6:Int)=5)=False from ψ,if_false,if_true];cases eb:sgl b with
  | none=>simp only[decide_true,fg,pdV]
  | some c =>
   have e:=tX hB eb;obtain⟨x,l,m⟩:=ahi c;simp only[reduceCtorEq,decide_false,ff,pdV];by_cases h:c=0
   ·subst h;simp only[decide_true,fg,show ¬((0:Int) < 0) from ω,if_false]
   ·simp only[y8.injEq,h,decide_false,ff,l,fe,bne,m];by_cases k:c < 0
    ·simp only[k,decide_true,zj,ff,show ¬(0 < c) from ω,if_false]
    ·simp only[k,decide_false,zg,fg,show 0 < c from ω,if_true,aeo lf hb hw e,gq.f,tH lf hb ha (agM hw e),eG.f,fe]
 ·rw[qY.f];simp only[show((7:Int)==3)=false from rfl,show((7:Int)==4)=false from rfl,show((7:Int)==5)=false from rfl,show((7:Int)==6)=false from rfl,ff];rfl
theorem aiF{op:Int}(l:3≤op∧op≤7):gV.f lf op (vc w) (vc a) (vc b)=some (vc (parV op w a b).1,vc (parV op w a b).2,()):=by
 have A:=ahN lf (v:=a);have B:=ahN lf (v:=b);unfold parV;rcases op3 l with rfl | rfl | rfl | rfl | rfl
 ·rw[gV.f,show((3:Int)==3)=true from rfl,fg];simp only[ad1 lf hb hw hB (op:=4) ⟨ω,ω⟩,ad1 lf hb hw ha (op:=4) ⟨ω,ω⟩,tJ lf hb ha (xh hw hB (op:=4) ⟨ω,ω⟩),tJ lf hb hB (xh hw ha (op:=4) ⟨ω,ω⟩),fe,if_true]
 ·rw[gV.f,show((4:Int)==3)=false from rfl,ff,show((4:Int)==4)=true from rfl,fg];simp only[ad1 lf hb hw hB (op:=3) ⟨ω,ω⟩,ad1 lf hb ha hw (op:=4) ⟨ω,ω⟩,tJ lf hb ha (xh hw hB (op:=3) ⟨ω,ω⟩),tJ lf hb hB (xh ha hw (op:=4) ⟨ω,ω⟩),fe,if_true];rfl
 ·rw[gV.f];simp only[show((5:Int)==3)=false from rfl,show((5:Int)==4)=false from rfl,show((5:Int)==5)=true from rfl,ff,fg,A,B,fe,jh,ob0,show((5:Int)=3)=False from ψ,show((5:Int)=4)=False from ψ,if_false,if_true];cases eb:sgl b with
  | none =>
   simp only[decide_true,zj,ff,pmV];cases ea:sgl a with
   | none=>simp only[decide_true,zj,ff]
   | some c =>
    by_cases h:c=0
    ·subst h;simp only[reduceCtorEq,decide_false,decide_true,zg,zj,ff,fg,if_true]
    ·simp only[reduceCtorEq,y8.injEq,h,decide_false,zg,fg,if_false,aaq lf hb hw (tX ha ea) h,tJ lf hb hB (aao hw (tX ha ea) h),fe]
  | some d =>
   have i:=tX hB eb;by_cases g:d=0
   ·subst g;simp only[reduceCtorEq,decide_false,decide_true,zg,zj,ff,fg,pmV,if_true];cases ea:sgl a with
    | none=>simp only[decide_true,zj,ff]
    | some c =>
     by_cases h:c=0
     ·subst h;simp only[reduceCtorEq,decide_false,decide_true,zg,zj,ff,fg,if_true]
     ·simp only[reduceCtorEq,y8.injEq,h,decide_false,zg,fg,if_false,aaq lf hb hw (tX ha ea) h,tJ lf hb hB (aao hw (tX ha ea) h),fe]
   ·simp only[reduceCtorEq,y8.injEq,g,decide_false,zg,fg,pmV,if_false,aaq lf hb hw i g,tJ lf hb ha (aao hw i g),fe];cases ea:sgl a with
    | none=>simp only[decide_true,zj,ff]
    | some c =>
     by_cases h:c=0
     ·subst h;simp only[reduceCtorEq,decide_false,decide_true,zg,zj,ff,fg,if_true]
     ·simp only[reduceCtorEq,y8.injEq,h,decide_false,zg,fg,if_false,aaq lf hb hw (tX ha ea) h,tJ lf hb hB (aao hw (tX ha ea) h),fe]
 ·rw[gV.f];simp only[show((6:Int)==3)=false from rfl,show((6:Int)==4)=false from rfl,show((6:Int)==5)=false from rfl,show((6:Int)==6)=true from rfl,ff,fg,B,fe,jh,show((6:Int)=3)=False from ψ,show((6:Int)=4)=False from ψ,show((6:Int)=5)=False from ψ,if_false,if_true];cases eb:sgl b with
  | none=>simp only[decide_true,zj,ff,pdV]
  | some c =>
   have e:=tX hB eb;have s:decide (sgn c > 0)=decide (0 < c):=by unfold sgn;by_cases h:c < 0<;>by_cases j:c=0<;>simp[h,j]<;>omega
   simp only[reduceCtorEq,decide_false,zg,fg,pdV,show bF.f lf (ob (some c))=some (sgn c,()) from signI lf c,fe,s];by_cases k:0 < c
   ·simp only[k,decide_true,fg,if_true,aep lf hb hw e,tJ lf hb ha (agM hw e),fe]
   ·simp only[k,decide_false,ff,if_false]
 ·rw[gV.f];simp only[show((7:Int)==3)=false from rfl,show((7:Int)==4)=false from rfl,show((7:Int)==5)=false from rfl,show((7:Int)==6)=false from rfl,ff];rfl
end
mutual
def cnt:EX→Nat
 | .mk _ _ _ l=>cntL l+1
def cntL:List EX→Nat
 | []=>0
 | a::l=>cnt a+cntL l
end
mutual
def dep:EX→Nat
 | .mk _ _ _ l=>depL l+1
def depL:List EX→Nat
 | []=>0
 | a::l=>max (dep a) (depL l)
end
mutual
def txt:EX→Prop
 | .mk _ s _ l=>tb s≤450∧txtL l
def txtL:List EX→Prop
 | []=>True
 | a::l=>txt a∧txtL l
end
def ab7(e:EX):cnt e=cntL e.l+1:=by cases e;rfl
def zS(e:EX):dep e=depL e.l+1:=by cases e;rfl
def akP(e:EX):txt e↔tb e.s≤450∧txtL e.l:=by cases e;exact Iff.rfl
def wF:∀ l:List EX,l.length≤cntL l
 | []=>za _
 | a::l=>by have:=wF l;have:=ab7 a;simp only[List.length_cons,cntL];omega
def drop_at{l:List EX}{j:Nat}(h:j < l.length):l.drop j=l[j]::l.drop (j+1):=vr h
def idxLn{l:List EX}{j:Nat}(h:j < l.length):idxL l ((j:Nat):Int)=some l[j]:=by
 unfold idxL;rw[fa ω,vm,zP h]
def aaX:∀ (l:List EX) (j:Nat),depL (l.drop j)≤depL l∧cntL (l.drop j)≤cntL l:=by
 intro l
 induction l with
 | nil=>intro j;simp[depL,cntL]
 | cons a l b =>
  intro j;cases j with
  | zero=>exact⟨za _,za _⟩
  | succ j=>have:=b j;simp only[List.drop_succ_cons,depL,cntL];omega
def aiT(s:ByteArray):s.size=tb s:=rfl
def abL(lf:Nat)(f:EX→Int→Int→Option (Int×Unit))(c:Int)(s:0≤c)(t:c≤24)
  (H:∀ (e:EX) (b:Int),b≤80→∃ r,f e (c+1) b=some (r,())∧-1≤r∧(0≤r→r+cnt e=b∧c+1+dep e≤25∧txt e)) (o:Int) (p:ByteArray) (q:Int) (l:List EX) :
  ∀ (n j:Nat) (a:Int),-1≤a→a≤80→a+3≤n→j+a≤90→∃ r,fV.l0 lf f c o p q l n a (j:Int)=some ((r,()),())∧-1≤r∧
   (0≤r→r+cntL (l.drop j)=a∧c+1+depL (l.drop j)≤25∧txtL (l.drop j))
 | 0,j,a,b1,b2,b3,b4=>ω
 | n+1,j,a,b1,b2,b3,b4=>by
  rw[fV.l0,fV.r0];by_cases d:j < l.length
  ·rw[ltE,gR d,fg];by_cases hv:0≤a
   ·rw[gR (show a≥0 from hv),fg,idxLn d,fe,EX.eta,w64 ω ω];obtain⟨r,u,z,v⟩:=H l[j] a b2;rw[u,fe,wrE ω];by_cases x:0≤r
    ·obtain⟨C,D,y⟩:=v x;have:=ab7 l[j];obtain⟨m,g,i,k⟩:=abL lf f c s t H o p q l n (j+1) r ω ω ω ω;refine⟨m,g,i,fun h=>?_⟩;obtain⟨A,B,w⟩:=k h;rw[drop_at d];exact⟨by simp only[cntL];omega,by simp only[depL];omega,y,w⟩
    ·obtain⟨m,g,i,k⟩:=abL lf f c s t H o p q l n (j+1) r ω ω ω ω;refine⟨m,g,i,fun h=>?_⟩;have:=k h;omega
   ·rw[gP (show ¬a≥0 from hv),ff];exact⟨a,rfl,b1,fun h=>absurd h hv⟩
  ·rw[ltE,gP d,ff];rw[oA ω];exact⟨a,rfl,b1,fun h=>⟨by simp[cntL],by simp only[depL];omega,trivial⟩⟩
def afP(lf:Nat)(hl:100≤lf):∀ (m:Nat) (e:EX) (a c:Int),0≤a→a≤25→25≤a+m→c≤80→
  ∃ r,fV.f (lf+m+1) e a c=some (r,())∧-1≤r∧(0≤r→r+cnt e=c∧a+dep e≤25∧txt e)
 | m,e,a,c,h1,h2,h3,h4=>by
  show ∃ r,fV.fb (lf+m) (fV.f (lf+m)) e a c=some (r,())∧_;rw[fV.fb];by_cases c1:a > 24
  ·rw[gR c1,fg];exact⟨-1,rfl,ω,fun h=>ω⟩
  ·rw[gP c1,ff];by_cases c2:c≤0
   ·rw[gR c2,fg];exact⟨-1,rfl,ω,fun h=>ω⟩
   ·rw[gP c2,ff,lg.f,fe];by_cases c3:(e.s.size:Int)≤450
    ·rw[gR c3,zj,ff,w64 ω ω];obtain⟨m,rfl⟩:∃ q,m=q+1:=⟨m-1,ω⟩
     have H:∀ (x:EX) (b:Int),b≤80→∃ r,fV.f (lf+(m+1)) x (a+1) b=some (r,())∧-1≤r∧(0≤r→r+cnt x=b∧a+1+dep x≤25∧txt x) :=
      fun x b hb=>afP lf hl m x (a+1) b ω ω ω hb
     obtain⟨r,d,k,n⟩:=abL (lf+(m+1)) _ a h1 ω H e.i e.s e.j e.l (lf+(m+1)+40) 0 (c-1) ω ω ω ω;rw[show((0:Nat):Int)=0 from rfl]at d;rw[d,fe];refine⟨r,rfl,k,fun h=>?_⟩;obtain⟨o,p,g⟩:=n h;rw[xD]at o p g;exact⟨by rw[ab7];omega,by rw[zS];omega,(akP e).2 ⟨by rw[←aiT];omega,g⟩⟩
    ·rw[gP c3,zg,fg];exact⟨-1,rfl,ω,fun h=>ω⟩
def ai9(lf:Nat)(hl:200≤lf)(e:EX):∃ b,mr.f lf e=some (b,())∧(b=true→cnt e≤80∧dep e≤25∧txt e):=by
 obtain⟨r,a,g,c⟩:=afP (lf-26) ω 25 e 0 80 ω ω ω ω;rw[show lf-26+25+1=lf by omega]at a;rw[mr.f,EX.eta,a,fe];refine⟨_,rfl,fun h=>?_⟩;obtain⟨i,j,d⟩:=c (of_decide_eq_true h);have:=of_decide_eq_true h;exact⟨ω,ω,d⟩
def p2{a c b b':Int}(h:a=c)(k:b=b'):(some ((a,b,()),()):Option ((Int×Int×Unit)×Unit))=some ((c,b',()),()):=by rw[h,k]
def p1{a b:Int}(h:a=b):(some ((a,()),()):Option ((Int×Unit)×Unit))=some ((b,()),()):=by rw[h]
def aiR(lf q:Nat)(k:Nat)(c u:Int)(v:ByteArray)(w:Int)(x:List EX)(h:Int)(m:ByteArray)(o:Int)(p:List EX)(B:0≤c∧c≤1000)(E:k≤100)
  (H:∀ e,dep e≤k→cnt e≤80→∀ b a:Int,0≤b→b+cnt e≤1000→0≤a→a≤2000→
   jM.g0 lf q (c+1) e.i e.s e.j e.l u v w x b a h m o p=some ((b+cnt e,max a (c+1+dep e-1),()),())) (l:List EX) (D:depL l≤k) (C:cntL l≤80) :
  ∀ (d n j:Nat) (b a:Int),j+d=l.length→d < n→0≤b→b+cntL (l.drop j)≤1000→c≤a→a≤2000→
   jM.l1 lf (jM.g0 lf q) c l (l.length:Int) u v w x h m o p n (j:Int) b a=some ((b+cntL (l.drop j),max a (c+depL (l.drop j)),()),()):=by
 have t:=wF l;intro d
 induction d with
 | zero =>
  intro n j b a z hn _ _ r _;obtain⟨n,rfl⟩:∃ q,n=q+1:=⟨n-1,ω⟩
  rw[jM.l1,jM.r1,ltE,gP ω,ff,oA ω];simp only[cntL,depL];rw[show max a (c+((0:Nat):Int))=a by omega,show b+((0:Nat):Int)=b by omega]
 | succ d A =>
  intro n j b a z hn y hs r hb;obtain⟨n,rfl⟩:∃ q,n=q+1:=⟨n-1,ω⟩
  have f:j < l.length:=ω;have g:=aaX l j;rw[drop_at f]at hs g⊢;simp only[depL,cntL]at hs g⊢;rw[jM.l1,jM.r1,ltE,gR f,fg,idxLn f,fe,w64 ω ω,H l[j] ω ω b a y ω ω hb,fe,wrE ω];dsimp only;rw[A n (j+1) _ _ ω ω ω ω ω ω];exact p2 ω ω
def ahQ(lf:Nat)(hl:200≤lf):∀ (k:Nat) (e:EX),dep e≤k→cnt e≤80→k≤100→∀ (q:Nat),k≤q→∀ (g t:Int) (u:ByteArray) (v:Int) (w:List EX) (r f h:Int) (m:ByteArray) (n:Int) (o:List EX),
  1≤g→g+k≤1000→0≤r→r+cnt e≤1000→0≤f→f≤2000→
  jM.g0 lf q g e.i e.s e.j e.l t u v w r f h m n o=some ((r+cnt e,max f (g+dep e-1),()),())
 | 0,e,hd,_,_,_,_,_,_,_,_,_,_,_,_,_,_,_,_,_,_,_,_,_=>by have:=zS e;omega
 | k+1,e,hd,hc,hk,q,hq,g,t,u,v,w,r,f,h,m,n,o,h0,h0',h9,hs,h10,hb=>by
  obtain⟨q,rfl⟩:∃ p,q=p+1:=⟨q-1,ω⟩
  have C:=zS e;have D:=ab7 e;have B:=wF e.l;rw[jM.g0,jM.gr0,w64 ω ω];have H:=aiR lf q k g t u v w h m n o ⟨ω,ω⟩ ω (fun x hx A y z a b c d=>ahQ lf hl k x hx A ω q ω (g+1) t u v w y z h m n o ω ω a b c d) e.l ω ω
   e.l.length (lf+40) 0 (r+1) (if g > f then g else f) ω ω ω (by rw[xD];omega) (by split<;>omega) (by split<;>omega)
  rw[show((0:Nat):Int)=0 from rfl,xD]at H;rw[H,fe];dsimp only;exact p2 ω (by split<;>omega)
def ajq(lf:Nat)(hl:200≤lf){e:EX}(a:cnt e≤80)(b:dep e≤25):jM.f lf e=some ((cnt e:Int),(dep e:Int),()):=by
 rw[jM.f,ahQ lf hl 25 e b a ω (lf+40) ω 1 _ _ _ _ 0 0 _ _ _ _ ω ω ω ω ω ω,fe];have:=zS e;dsimp only;rw[show(0:Int)+(cnt e:Int)=cnt e by omega,show max (0:Int) (1+(dep e:Int)-1)=dep e by omega]
def agt(lf k:Nat)(o:Int)(p:ByteArray)(r:Int)(h:EX→Option (Int×Unit))(H:∀ e,dep e≤k→cnt e≤80→h e=some ((cnt e:Int),()))(l:List EX)(u:depL l≤k)(t:cntL l≤80):
  ∀ (d n j:Nat) (a:Int),j+d=l.length→d < n→0≤a→a+cntL (l.drop j)≤1000→fA.l0 lf h o p r l n a (j:Int)=some ((a+cntL (l.drop j),()),()):=by
 have g:=wF l;intro d
 induction d with
 | zero =>
  intro n j a i hn _ _;obtain⟨n,rfl⟩:∃ q,n=q+1:=⟨n-1,ω⟩
  rw[fA.l0,fA.r0,ltE,gP ω,ff,oA ω];simp only[cntL];rw[show a+((0:Nat):Int)=a by omega]
 | succ d m =>
  intro n j a i hn s f;obtain⟨n,rfl⟩:∃ q,n=q+1:=⟨n-1,ω⟩
  have b:j < l.length:=ω;have c:=aaX l j;rw[drop_at b]at c f⊢;simp only[depL,cntL]at c f⊢;rw[fA.l0,fA.r0,ltE,gR b,fg,idxLn b,fe,EX.eta,H l[j] ω ω,fe,wrE ω,w64 (by dsimp only;omega) (by dsimp only;omega)];dsimp only;rw[m n (j+1) _ ω ω ω ω];exact p1 ω
def aeQ(lf:Nat)(hl:200≤lf):∀ (k:Nat) (e:EX),dep e≤k→cnt e≤80→fA.f (lf+k) e=some ((cnt e:Int),())
 | 0,e,hd,_=>by have:=zS e;omega
 | k+1,e,hd,hc=>by
  have c:=zS e;have d:=ab7 e;have b:=wF e.l;show fA.fb (lf+k) (fA.f (lf+k)) e=_;have H:=agt (lf+k) k e.i e.s e.j _ (fun x hx a=>aeQ lf hl k x hx a) e.l ω ω e.l.length (lf+k+40) 0 1 ω ω ω (by rw[xD];omega);rw[show((0:Nat):Int)=0 from rfl,xD]at H;rw[fA.fb,H,fe];dsimp only;rw[show(1:Int)+(cntL e.l:Int)=cnt e by omega]
def agu(lf k:Nat)(u:k≤100)(m:Int)(o:ByteArray)(p:Int)(g:EX→Option (Int×Unit))(H:∀ e,dep e≤k→cnt e≤80→g e=some ((dep e:Int),()))(l:List EX)(t:depL l≤k)(s:cntL l≤80):
  ∀ (d n j:Nat) (b:Int),j+d=l.length→d < n→0≤b→fB.l0 lf g m o p l n b (j:Int)=some ((max b (depL (l.drop j)),()),()):=by
 have f:=wF l;intro d
 induction d with
 | zero =>
  intro n j b h hn _;obtain⟨n,rfl⟩:∃ q,n=q+1:=⟨n-1,ω⟩
  rw[fB.l0,fB.r0,ltE,gP ω,ff,oA ω];simp only[depL];rw[show max b ((0:Nat):Int)=b by omega]
 | succ d i =>
  intro n j b h hn r;obtain⟨n,rfl⟩:∃ q,n=q+1:=⟨n-1,ω⟩
  have a:j < l.length:=ω;have c:=aaX l j;rw[drop_at a]at c⊢;simp only[depL,cntL]at c⊢;rw[fB.l0,fB.r0,ltE,gR a,fg,idxLn a,fe,EX.eta,H l[j] ω ω,fe,wrE ω];dsimp only;rw[i n (j+1) _ ω ω (by split<;>omega)];exact p1 (by split<;>omega)
def aeR(lf:Nat)(hl:200≤lf):∀ (k:Nat) (e:EX),k≤100→dep e≤k→cnt e≤80→fB.f (lf+k) e=some ((dep e:Int),())
 | 0,e,_,hd,_=>by have:=zS e;omega
 | k+1,e,hk,hd,hc=>by
  have c:=zS e;have d:=ab7 e;have b:=wF e.l;show fB.fb (lf+k) (fB.f (lf+k)) e=_;have H:=agu (lf+k) k ω e.i e.s e.j _ (fun x hx a=>aeR lf hl k x ω hx a) e.l ω ω e.l.length (lf+k+40) 0 0 ω ω ω;rw[show((0:Nat):Int)=0 from rfl,xD]at H;rw[fB.fb,H,fe,w64 (by dsimp only;omega) (by dsimp only;omega)];dsimp only;rw[show max (0:Int) (depL e.l:Int)+1=dep e by omega]
inductive RE(n:Nat):Nat→EX→Prop
 | num (k:Nat) (z:Int): -C < z∧z < C→RE n (k+1) (.mk 0 (bs (z7 z)) 0 [])
 | var (k i:Nat):i < n→RE n (k+1) (.mk 1 (bs []) (i:Int) [])
 | neg (k:Nat) (a:EX):RE n k a→RE n (k+1) (.mk 2 (bs []) 0 [a])
 | bin (k:Nat) (op:Int) (a b:EX):3≤op∧op≤7→RE n k a→RE n k b→RE n (k+1) (.mk op (bs []) 0 [a,b])
def NodeOK(n:Nat)(i:Int)(s:ByteArray)(j:Int)(l:List EX):Prop :=
 (i=0∧l.length=0∧(∃ z:Int,(-C < z∧z < C)∧s=bs (z7 z))∧j=0)∨(i=1∧l.length=0∧s=bs []∧∃ q:Nat,q < n∧j=(q:Int))∨
 (i=2∧l.length=1∧s=bs []∧j=0)∨((3≤i∧i≤7)∧l.length=2∧s=bs []∧j=0)
def gt_N:gtab gtN=[0,0,1,2,2,2,2,2]:=θ
def agC(s:ByteArray):s=bs s.data.toList:=rfl
def ajG(lf:Nat)(l:List UInt8)(hl:l.length≤9223372036854775807):uT.f lf (bs l)=some (num l,()):=by
 rw[uT.f,sH lf l hl,fe];unfold num;by_cases h:chk l=0
 ·simp only[h,bne_self_eq_false,ff,yP.f,rC,fe,jU,ne_eq,not_true,if_false];by_cases a:nlen l > 100
  ·rw[gR (show(((body l).length:Nat):Int) > 100 by unfold nlen at a;omega),fg,fa a]
  ·rw[gP (show ¬(((body l).length:Nat):Int) > 100 by unfold nlen at a;omega),ff,gT a]
 ·simp only[bneT h,fg,ne_eq,h,not_false_eq_true,if_true]
def ajT(lf:Nat)(n:Nat)(e:EX)(ht:tb e.s≤450):∃ x:Int,uz.f lf e n=some (x,())∧(∀ a,1000≤a→lJ.f a e n=some (x,()))∧(x=0→NodeOK n e.i e.s e.j e.l):=by
  rw[uz.f];simp only[lJ.f,gt_N];generalize e.i=i;generalize e.s=s at ht⊢;generalize e.j=j;generalize e.l=l;have H:s.data.toList.length≤450:=ht;have c:(s.toList==(⟨#[]⟩:ByteArray).toList)=decide (s=bs []):=by
    rw[agC s,e0,kL];by_cases h:s.data.toList=[]
    · rw[h];simp
    · rw[gP h,gP fun q=>h (zD q)]
  simp only[c];by_cases d:i < 0
  · simp only[d,decide_true,fg];exact⟨1,rfl,fun _ _=>rfl,nofun⟩
  by_cases t:i > 7
  · simp only[d,t,show i≥8 by omega,decide_true,decide_false,fg,ff];exact⟨1,rfl,fun _ _=>rfl,nofun⟩
  simp only[d,t,show ¬i≥8 by omega,decide_false,ff];by_cases c0:i=0
  · subst c0
    simp only[show idxL ([0,0,1,2,2,2,2,2]:List Int) 0=some 0 from rfl,fe,show((0:Int)==0)=true from rfl,show((0:Int)==1)=false from rfl,show((0:Int)==2)=false from rfl,show((0:Int) != 1)=true from rfl,show decide ((0:Int)≤1)=true from rfl,fg,ff];by_cases g:l.length=0
    · rw[show((l.length:Int) != 0)=false by simp[g]]
      have y:=ajG lf s.data.toList ω;rw[←agC]at y;simp only[ff,y,fe];have k:∀ a,1000≤a→fF.f a s=some (num s.data.toList,()):=fun a h=>by
        have:=acr a s.data.toList ω ω
        rwa [←agC]at this
      by_cases q:num s.data.toList=0
      · by_cases w:j=0
        · refine⟨0,by simp only[q,w,bne_self_eq_false,ff],fun a h=>by rw[k a h,fe];simp only[q,w,bne_self_eq_false,ff],fun _=>.inl ⟨rfl,g,?_,w⟩⟩
          obtain⟨z,D,E⟩:∃ z:Int,s.data.toList=z7 z∧(-C < z∧z < C):=by
            have F:chk s.data.toList=0:=by
              unfold num at q;by_cases h:chk s.data.toList=0
              · exact h
              · simp only[ne_eq,h,not_false_eq_true,if_true]at q
            have e:=yT (nX.1 F).1;refine⟨_,e,?_⟩;rw[e]at q;exact(vY _).1 q
          exact⟨z,E,by rw[←D]⟩
        · exact⟨3,by simp only[q,bne_self_eq_false,bneT w,ff,fg],fun a h=>by rw[k a h,fe];simp only[q,bne_self_eq_false,bneT w,ff,fg],nofun⟩
      · refine⟨num s.data.toList,by rw[bneT q,fg],fun a h=>?_,fun h=>absurd h q⟩
        rw[k a h,fe];dsimp only;rw[bneT q,fg]
    · rw[show((l.length:Int) != 0)=true by simpa using g]
      simp only[fg];exact⟨15,rfl,fun _ _=>rfl,nofun⟩
  by_cases c1:i=1
  · subst c1
    simp only[show idxL ([0,0,1,2,2,2,2,2]:List Int) 1=some 0 from rfl,fe,show((1:Int)==0)=false from rfl,show((1:Int)==1)=true from rfl,show((1:Int)==2)=false from rfl,show((1:Int) != 1)=false from rfl,show decide ((1:Int)≤1)=true from rfl,fg,ff];by_cases g:l.length=0
    · rw[show((l.length:Int) != 0)=false by simp[g]]
      simp only[ff];by_cases w:s=bs []
      · rw[gR w,zj,ff]
        by_cases u:j < 0
        · simp only[u,decide_true,fg,ff];exact⟨6,rfl,fun _ _=>rfl,nofun⟩
        · by_cases v:j≥(n:Int)
          · simp only[u,v,decide_true,decide_false,fg,ff];exact⟨6,rfl,fun _ _=>rfl,nofun⟩
          · simp only[u,v,decide_false,ff];exact⟨0,rfl,fun _ _=>rfl,fun _=>.inr (.inl ⟨rfl,g,w,j.toNat,ω,ω⟩)⟩
      · rw[gP w,zg,fg];exact⟨3,rfl,fun _ _=>by simp only[zg,fg],nofun⟩
    · rw[show((l.length:Int) != 0)=true by simpa using g]
      simp only[fg];exact⟨15,rfl,fun _ _=>rfl,nofun⟩
  have rest:∀ (m:Nat),idxL ([0,0,1,2,2,2,2,2]:List Int) i=some (m:Int)→(i=2∧m=1)∨((3≤i∧i≤7)∧m=2)→∃ x:Int,(bd (idxL ([0,0,1,2,2,2,2,2]:List Int) i) fun I=>br ((l.length:Int) != I) (some (15,())) (br (!decide (s=bs [])) (some (3,())) (br (j != 0) (some (3,())) (some (0,())))))=some (x,())∧
      (br ((l.length:Int) !=(m:Int)) (some (15,())) (br (!decide (s=bs [])) (some (3,())) (br (j != 0) (some (3,())) (some (0,())))))=some (x,())∧(x=0→NodeOK n i s j l):=by
    intro m e G;rw[e,fe];by_cases g:l.length=m
    · rw[show((l.length:Int) !=(m:Int))=false by simp[g],ff]
      by_cases w:s=bs []
      · rw[gR w,zj,ff]
        by_cases u:j=0
        · rw[show(j != 0)=false by simp[u],ff]
          exact⟨0,rfl,rfl,fun _=>by
            rcases G with⟨h,h'⟩ | ⟨h,h'⟩
            · exact .inr (.inr (.inl ⟨h,ω,w,u⟩))
            · exact .inr (.inr (.inr ⟨h,ω,w,u⟩))⟩
        · rw[bneT u,fg];exact⟨3,rfl,rfl,nofun⟩
      · rw[gP w,zg,fg];exact⟨3,rfl,rfl,nofun⟩
    · rw[show((l.length:Int) !=(m:Int))=true by rw[bne_iff_ne];omega,fg];exact⟨15,rfl,rfl,nofun⟩
  have A:(i==0)=false:=by simpa using c0
  have B:(i==1)=false:=by simpa using c1
  have b:(i != 1)=true:=by simpa using c1
  simp only[A,B,b,fg,ff,show ¬i≤1 by omega,decide_false];by_cases c2:i=2
  · obtain⟨x,o,p,r⟩:=rest 1 (by rw[c2];rfl) (.inl ⟨c2,rfl⟩)
    refine⟨x,o,fun _ _=>?_,r⟩;rw[show(i==2)=true by simpa using c2,fg];exact p
  · obtain⟨x,o,p,r⟩:=rest 2 (by
     have:i=3∨i=4∨i=5∨i=6∨i=7:=ω;rcases this with rfl | rfl | rfl | rfl | rfl<;>rfl) (.inr ⟨ω,rfl⟩)
    refine⟨x,o,fun _ _=>?_,r⟩;rw[show(i==2)=false by simpa using c2,ff];exact p
def resN(x:Int):Bool×(Int×Unit)×Unit×Unit:=if x=0 then(false,(0,()),(),())else(true,(x,()),(),())
def akL{n k:Nat}{i:Int}{s:ByteArray}{j:Int}{l:List EX}(h:NodeOK n i s j l)(hl:∀ (q:Nat) (c:q < l.length),RE n k l[q]):RE n (k+1) (.mk i s j l):=by
 rcases h with⟨rfl,g,⟨z,hz,rfl⟩,rfl⟩ | ⟨rfl,g,rfl,q,c,rfl⟩ | ⟨rfl,g,rfl,rfl⟩ | ⟨ho,g,rfl,rfl⟩
 ·obtain rfl:=wc.1 g;exact .num k z hz
 ·obtain rfl:=wc.1 g;exact .var k q c
 ·match l,g,hl with
  | [a],_,hl=>exact .neg k a (hl 0 ψ)
 ·match l,g,hl with
  | [a,b],_,hl=>exact .bin k i a b ho (hl 0 ψ) (hl 1 ψ)
def afT:∀ {l:List EX} {q:Nat} (b:q < l.length),txtL l→txt l[q]
 | a::l,0,_,h=>h.1
 | a::l,q+1,b,h=>afT (l:=l) (by simpa using b) h.2
def ai6(lf:Nat)(hl:200≤lf)(m:Nat):∀ (k:Nat) (e:EX),dep e≤k→cnt e≤80→txt e→k≤100→∃ x:Int,
  (∀ (q:Nat),k≤q→∀ (r z:Int) (A:ByteArray) (B:Int) (J:List EX) (b c:Int) (g:ByteArray) (h:Int) (E:List EX),1≤r→r+k≤1000→eF.g0 lf q r e.i e.s e.j e.l z A B J (m:Int) b c g h E=some (resN x))∧
  (∀ a,1000≤a→cZ.f (a+k) e m=some (x,()))∧(x=0→RE m k e)
 | 0,e,hd,_,_,_=>by have:=zS e;omega
 | k+1,.mk i s j l,hd,hc,ht,hk=>by
  simp only[dep,cnt]at hd hc;obtain⟨t1,t2⟩:tb s≤450∧txtL l:=ht;have O:=wF l;obtain⟨x,P,Q,V⟩:=ajT lf m (.mk i s j l) t1;have ops:∀ (d p:Nat),p+d=l.length→∃ y:Int,
    (∀ (n q:Nat),d < n→k≤q→∀ (r v:Int) (z:ByteArray) (A:Int) (B:List EX) (F b:Int) (c:ByteArray) (g:Int) (h:List EX),1≤r→r+k+1≤1000→eF.l1 lf (eF.g0 lf q) r l (l.length:Int) v z A B (m:Int) F b c g h n (p:Int)=some (resN y))∧
    (∀ (n a:Nat),d < n→1000≤a→∀ C H I v,cZ.l0 C (cZ.f (a+k)) (m:Int) H I v l n (p:Int)=some (resN y))∧(y=0→∀ (q:Nat) (w:q < l.length),p≤q→RE m k l[q]):=by
   intro d
   induction d with
   | zero =>
    intro p T;refine⟨0,fun n q hn _ r v z A B F b c g h _ _=>?_,fun n a hn _ C H I v=>?_,fun _ q w K=>ω⟩
    ·obtain⟨n,rfl⟩:∃ q,n=q+1:=⟨n-1,ω⟩
     rw[eF.l1,eF.r1,ltE,gP ω,ff];rfl
    ·obtain⟨n,rfl⟩:∃ q,n=q+1:=⟨n-1,ω⟩
     rw[cZ.l0,cZ.r0,ltE,gP ω,ff];rfl
   | succ d U =>
    intro p T;have o:p < l.length:=ω;have G:=aaX l p;rw[drop_at o]at G;simp only[depL,cntL]at G;obtain⟨x,R,S,W⟩:=ai6 lf hl m k l[p] ω ω (afT o t2) ω;obtain⟨y,L,M,N⟩:=U (p+1) ω;by_cases t:x=0
    ·refine⟨y,fun n q hn w r v z A B F b c g h hv D=>?_,fun n a hn u C H I v=>?_,fun hy q w K=>?_⟩
     ·obtain⟨n,rfl⟩:∃ q,n=q+1:=⟨n-1,ω⟩
      rw[eF.l1,eF.r1,ltE,gR o,fg,idxLn o,fe,w64 ω ω,R q w (r+1) v z A B F b c g h ω ω,fe,wrE ω];simp only[resN,t,if_true,ff];exact L n q ω w r v z A B F b c g h hv D
     ·obtain⟨n,rfl⟩:∃ q,n=q+1:=⟨n-1,ω⟩
      rw[cZ.l0,cZ.r0,ltE,gR o,fg,idxLn o,fe,EX.eta,S a u,fe,wrE ω];simp only[t,bne_self_eq_false,ff];exact M n a ω u C H I v
     ·by_cases e:q=p
      ·subst e;exact W t
      ·exact N hy q w ω
    ·refine⟨x,fun n q hn w r v z A B F b c g h hv D=>?_,fun n a hn u C H I v=>?_,fun hy=>absurd hy t⟩
     ·obtain⟨n,rfl⟩:∃ q,n=q+1:=⟨n-1,ω⟩
      rw[eF.l1,eF.r1,ltE,gR o,fg,idxLn o,fe,w64 ω ω,R q w (r+1) v z A B F b c g h ω ω,fe];simp only[resN,t,if_false,fg]
     ·obtain⟨n,rfl⟩:∃ q,n=q+1:=⟨n-1,ω⟩
      rw[cZ.l0,cZ.r0,ltE,gR o,fg,idxLn o,fe,EX.eta,S a u,fe];simp only[bneT t,fg,resN,t,if_false]
  obtain⟨y,L,M,N⟩:=ops l.length 0 ω;by_cases t:x=0
  ·refine⟨y,fun q w r z A B J b c g h E hv D=>?_,fun a u=>?_,fun hy=>akL (V t) fun q w=>N hy q w ω⟩
   ·obtain⟨q,rfl⟩:∃ p,q=p+1:=⟨q-1,ω⟩
    have:=L (lf+40) q ω ω r z A B J b c g h E hv ω;rw[show((0:Nat):Int)=0 from rfl]at this;rw[eF.g0,eF.gr0];simp only[EX.i,EX.s,EX.j,EX.l,P,fe,t,bne_self_eq_false,ff,this];unfold resN;by_cases hy:y=0
    ·simp only[hy,if_true,ff]
    ·simp only[hy,if_false,fg]
   ·show cZ.fb (a+k) (cZ.f (a+k)) (.mk i s j l) m=_;have:=M (a+k+40) a ω u (a+k) i s j;rw[show((0:Nat):Int)=0 from rfl]at this;rw[cZ.fb];simp only[EX.i,EX.s,EX.j,EX.l,Q (a+k) ω,fe,t,bne_self_eq_false,ff,this];unfold resN;by_cases hy:y=0
    ·simp only[hy,if_true,ff]
    ·simp only[hy,if_false,fg]
  ·refine⟨x,fun q w r z A B J b c g h E hv D=>?_,fun a u=>?_,fun hy=>absurd hy t⟩
   ·obtain⟨q,rfl⟩:∃ p,q=p+1:=⟨q-1,ω⟩
    rw[eF.g0,eF.gr0];simp only[EX.i,EX.s,EX.j,EX.l,P,fe,bneT t,fg,resN,t,if_false]
   ·show cZ.fb (a+k) (cZ.f (a+k)) (.mk i s j l) m=_;rw[cZ.fb];simp only[EX.i,EX.s,EX.j,EX.l,Q (a+k) ω,fe,bneT t,fg]
def aeY(lf:Nat)(hl:2000≤lf){e:EX}(h:cnt e≤80∧dep e≤25∧txt e)(m:Nat):∃ x:Int,eF.f lf e m=some (x,())∧kS.f lf e m=some (x,())∧(x=0→m≤12∧RE m 25 e):=by
 obtain⟨a,b,ht⟩:=h;have c:=aeQ (lf-25) ω 25 e b a;have d:=aeR (lf-25) ω 25 e ω b a;obtain⟨x,n,k,r⟩:=ai6 lf ω m 25 e b a ht ω;have n:=n (lf+40) ω 1 e.i e.s e.j e.l 0 e.i e.s e.j e.l ω ω;have k:=k (lf-25) ω;rw[show lf-25+25=lf by omega]at c d k;rw[eF.f,kS.f];simp only[EX.eta,ajq lf ω a b,c,d,n,k,fe];rw[gP (show ¬(m:Int) < 0 by omega),ff,ff];by_cases g:(m:Int) > 12
 ·rw[gR g,fg,fg];exact⟨2,rfl,rfl,nofun⟩
 rw[gP g,ff,ff];by_cases o:(cnt e:Int) > 64
 ·rw[gR o,fg,fg];exact⟨5,rfl,rfl,nofun⟩
 rw[gP o,ff,ff];by_cases p:(dep e:Int) > 16
 ·rw[gR p,fg,fg];exact⟨12,rfl,rfl,nofun⟩
 rw[gP p,ff,ff];refine⟨x,?_,rfl,fun h=>⟨ω,r h⟩⟩;unfold resN;by_cases q:x=0
 ·simp only[q,if_true,ff]
 ·simp only[q,if_false,fg]
def Big.more{lf:Nat}(h:Big lf)(m:Nat):Big (lf+m):=⟨by have:=h.1;omega,by have:=h.2;omega⟩
def idx0{α:Type}(a:α)(l:List α):idxL (a::l) 0=some a:=rfl
def idx1{α:Type}(a b:α)(l:List α):idxL (a::b::l) 1=some b:=rfl
def ib{n:Nat}{k:Nat}(h:k < n):idxB n (k:Int)=some k:=by unfold idxB;rw[fa ⟨ω,ω⟩,vm]
def mk_i(i:Int)(s:ByteArray)(j:Int)(l:List EX):(EX.mk i s j l).i=i:=rfl
def mk_s(i:Int)(s:ByteArray)(j:Int)(l:List EX):(EX.mk i s j l).s=s:=rfl
def mk_j(i:Int)(s:ByteArray)(j:Int)(l:List EX):(EX.mk i s j l).j=j:=rfl
def mk_l(i:Int)(s:ByteArray)(j:Int)(l:List EX):(EX.mk i s j l).l=l:=rfl
def rv_1(lf n:Nat)(b:List VV→EX→Option (VV×Unit))(L:List VV)(a:EX)(v:VV)(ha:b L a=some (v,()))(i:Int)(s:ByteArray)(j:Int)(c:Bool)(e f:ByteArray)(d:Bool)(g h:ByteArray):
  aQ.l0 lf b L i s j [a] c e f d g h (n+2) 0 []=some (([v],()),()):=by
 rw[aQ.l0,aQ.r0,show decide ((0:Int) < (([a]:List EX).length:Nat))=true from rfl,fg,idx0,fe,EX.eta,ha,fe,apLe _ _ _ ω ψ,fe,show i64.wrap ((0:Int)+1)=1 from δ,
  aQ.l0,aQ.r0,show decide ((1:Int) < (([a]:List EX).length:Nat))=false from rfl,ff]
 rfl
def rv_2(lf n:Nat)(c:List VV→EX→Option (VV×Unit))(L:List VV)(a b:EX)(v w:VV)(ha:c L a=some (v,()))(hb:c L b=some (w,()))(i:Int)(s:ByteArray)(j:Int)(d:Bool)(f g:ByteArray)(e:Bool)(h k:ByteArray):
  aQ.l0 lf c L i s j [a,b] d f g e h k (n+3) 0 []=some (([v,w],()),()):=by
 rw[aQ.l0,aQ.r0,show decide ((0:Int) < (([a,b]:List EX).length:Nat))=true from rfl,fg,idx0,fe,EX.eta,ha,fe,apLe _ _ _ ω ψ,fe,show i64.wrap ((0:Int)+1)=1 from δ,
  aQ.l0,aQ.r0,show decide ((1:Int) < (([a,b]:List EX).length:Nat))=true from rfl,fg,idx1,fe,EX.eta,hb,fe,apLe _ _ _ ω ψ,fe,show i64.wrap ((1:Int)+1)=2 from δ,
  aQ.l0,aQ.r0,show decide ((2:Int) < (([a,b]:List EX).length:Nat))=false from rfl,ff]
 rfl
def ri_1(lf n:Nat)(d:List VV→EX→VV→Option (List VV×Bool×Unit))(L:List VV)(a:EX)(v:VV)(ha:aQ.f lf L a=some (v,()))(i:Int)(s:ByteArray)(j:Int)(b:Bool)(e g:ByteArray)(c:Bool)(h k:ByteArray):
  aG.l0 lf d L i s j [a] b e g c h k (n+2) 0 []=some (([v],()),()):=by
 rw[aG.l0,aG.r0,show decide ((0:Int) < (([a]:List EX).length:Nat))=true from rfl,fg,idx0,fe,EX.eta,ha,fe,apLe _ _ _ ω ψ,fe,show i64.wrap ((0:Int)+1)=1 from δ,
  aG.l0,aG.r0,show decide ((1:Int) < (([a]:List EX).length:Nat))=false from rfl,ff]
 rfl
def ri_2(lf n:Nat)(e:List VV→EX→VV→Option (List VV×Bool×Unit))(L:List VV)(a b:EX)(v w:VV)(ha:aQ.f lf L a=some (v,()))(hb:aQ.f lf L b=some (w,()))(i:Int)(s:ByteArray)(j:Int)(c:Bool)(g h:ByteArray)(d:Bool)(k l:ByteArray):
  aG.l0 lf e L i s j [a,b] c g h d k l (n+3) 0 []=some (([v,w],()),()):=by
 rw[aG.l0,aG.r0,show decide ((0:Int) < (([a,b]:List EX).length:Nat))=true from rfl,fg,idx0,fe,EX.eta,ha,fe,apLe _ _ _ ω ψ,fe,show i64.wrap ((0:Int)+1)=1 from δ,
  aG.l0,aG.r0,show decide ((1:Int) < (([a,b]:List EX).length:Nat))=true from rfl,fg,idx1,fe,EX.eta,hb,fe,apLe _ _ _ ω ψ,fe,show i64.wrap ((1:Int)+1)=2 from δ,
  aG.l0,aG.r0,show decide ((2:Int) < (([a,b]:List EX).length:Nat))=false from rfl,ff]
 rfl
def rj_1(lf n:Nat)(b:List VV→EX→VV→Option (List VV×Bool×Unit))(L:List VV)(a:EX)(w:VV)(x:List VV×Bool×Unit)(h:b L a w=some x)(i:Int)(s:ByteArray)(j:Int):
  aG.l2 lf b i s j [a] [w] (n+2) L true 0=some (x,()):=by
 rw[aG.l2,aG.r2,show decide ((0:Int) < (([a]:List EX).length:Nat))=true from rfl,fg,fg,idx0,fe,show idxB ([w]:List VV).length 0=some 0 from rfl,fe,show([w]:List VV)[0]? = some w from rfl,fe,EX.eta,h,fe,
  show i64.wrap ((0:Int)+1)=1 from δ,aG.l2,aG.r2,show decide ((1:Int) < (([a]:List EX).length:Nat))=false from rfl,ff]
def rj_2(lf n:Nat)(d:List VV→EX→VV→Option (List VV×Bool×Unit))(L:List VV)(a b:EX)(w y:VV)(x:List VV×Bool×Unit)(h:d L a w=some x)(i:Int)(s:ByteArray)(j:Int)(q:List VV)(e:Bool)(l m:ByteArray)(f:Bool)(o p:ByteArray)(g:Bool)(t u:ByteArray)(k:Bool)(v z:ByteArray):
  aG.l1 lf d i s j [a,b] q e l m f o p g t u k v z [w,y] (n+3) L true 0=br x.2.1 (bd (d x.1 b y) fun c=>some ((c.1,c.2.1,()),())) (some ((x.1,x.2.1,()),())):=by
 rw[aG.l1,aG.r1,show decide ((0:Int) < (([a,b]:List EX).length:Nat))=true from rfl,fg,fg,idx0,fe,show idxB ([w,y]:List VV).length 0=some 0 from rfl,fe,show([w,y]:List VV)[0]? = some w from rfl,fe,EX.eta,h,fe,
  show i64.wrap ((0:Int)+1)=1 from δ,aG.l1,aG.r1,show decide ((1:Int) < (([a,b]:List EX).length:Nat))=true from rfl,fg,idx1,fe,show idxB ([w,y]:List VV).length 1=some 1 from rfl,fe,show([w,y]:List VV)[1]? = some y from rfl,fe,EX.eta]
 congr 1;congr 1
 funext r
 rw[show i64.wrap ((1:Int)+1)=2 from δ,aG.l1,aG.r1,show decide ((2:Int) < (([a,b]:List EX).length:Nat))=false from rfl,ff]
def wJ:∀ {n k:Nat} {e:EX},RE n k e→∀ {vs:List Vl},WfE vs→vs.length=n→∃ v,WfV v∧∀ lf,Big lf→∀ m,k≤m→aY.f (lf+m) (vs.map vc) e=some (vc v,())∧aQ.f (lf+m) (vs.map vc) e=some (vc v,()):=by
 intro n k e h
 induction h with
 | num k z F =>
  intro vs hw hn;have D:=fD;obtain⟨x,p⟩:=bigE;refine⟨oneV z,ajV x p z,fun lf hb m r=>?_⟩;obtain⟨m,rfl⟩:∃ q,m=q+1:=⟨m-1,ω⟩
  have c:=hb.more m;constructor
  ·show aY.fb (lf+m) (aY.f (lf+m)) _ _=_;rw[aY.fb];simp only[mk_i,mk_s,show((0:Int)==0)=true from rfl,fg,acO.f,akG (lf+m) c (z:=z) ω,eG.f,fe]
  ·show aQ.fb (lf+m) (aQ.f (lf+m)) _ _=_;rw[aQ.fb];simp only[mk_i,mk_s,show((0:Int)==0)=true from rfl,fg,akH (lf+m) c (z:=z) ω,fe]
 | var k i E =>
  intro vs hw hn;have j:i < vs.length:=ω;refine⟨vs[i],hw.v _ (qT j),fun lf hb m r=>?_⟩;obtain⟨m,rfl⟩:∃ q,m=q+1:=⟨m-1,ω⟩
  have y:idxL (vs.map vc) (i:Int)=some (vc vs[i]):=by
   unfold idxL;rw[fa ω,vm,yz,zP j];rfl
  constructor
  ·show aY.fb (lf+m) (aY.f (lf+m)) _ _=_;rw[aY.fb];simp only[mk_i,mk_j,show((1:Int)==0)=false from rfl,show((1:Int)==1)=true from rfl,fg,ff,y,fe]
  ·show aQ.fb (lf+m) (aQ.f (lf+m)) _ _=_;rw[aQ.fb];simp only[mk_i,mk_j,show((1:Int)==0)=false from rfl,show((1:Int)==1)=true from rfl,fg,ff,y,fe]
 | neg k a _ C =>
  intro vs hw hn;obtain⟨v,hv,h⟩:=C hw hn;refine⟨negV v,ahf hv,fun lf hb m r=>?_⟩;obtain⟨m,rfl⟩:∃ q,m=q+1:=⟨m-1,ω⟩
  have c:=hb.more m;obtain⟨l,o⟩:=h lf hb m ω;constructor
  ·show aY.fb (lf+m) (aY.f (lf+m)) _ _=_;rw[aY.fb];simp only[mk_i,mk_l,show((2:Int)==0)=false from rfl,show((2:Int)==1)=false from rfl,show((2:Int)==2)=true from rfl,fg,ff,idx0,fe,EX.eta,l,ahg (lf+m) c hv,eG.f]
  ·show aQ.fb (lf+m) (aQ.f (lf+m)) _ _=_;rw[aQ.fb];simp only[mk_i,mk_s,mk_j,mk_l,show((2:Int)==0)=false from rfl,show((2:Int)==1)=false from rfl,show((2:Int)==2)=true from rfl,fg,ff,rv_1 (lf+m) (lf+m+38) _ _ a _ o,fe];rw[show idxB ([vc v]:List VV).length 0=some 0 from rfl,fe,show([vc v]:List VV)[0]? = some (vc v) from rfl,fe,aeD (lf+m) c hv,fe]
 | bin k op a b s _ _ t u =>
  intro vs hw hn;obtain⟨v,hv,h⟩:=t hw hn;obtain⟨w,d,g⟩:=u hw hn;refine⟨opV op v w,xh hv d s,fun lf hb m r=>?_⟩;obtain⟨m,rfl⟩:∃ q,m=q+1:=⟨m-1,ω⟩
  have c:=hb.more m;obtain⟨l,o⟩:=h lf hb m ω;obtain⟨A,B⟩:=g lf hb m ω;have c0:(op==0)=false:=by rw[beq_eq_false_iff_ne];omega
  have c1:(op==1)=false:=by rw[beq_eq_false_iff_ne];omega
  have c2:(op==2)=false:=by rw[beq_eq_false_iff_ne];omega
  constructor
  ·show aY.fb (lf+m) (aY.f (lf+m)) _ _=_;rw[aY.fb];simp only[mk_i,mk_l,c0,c1,c2,fg,ff,idx0,idx1,fe,EX.eta,l,A,adZ (lf+m) c hv d s,eG.f]
  ·show aQ.fb (lf+m) (aQ.f (lf+m)) _ _=_;rw[aQ.fb];simp only[mk_i,mk_s,mk_j,mk_l,c0,c1,c2,fg,ff,rv_2 (lf+m) (lf+m+37) _ _ a b _ _ o B,fe];rw[show idxB ([vc v,vc w]:List VV).length 0=some 0 from rfl,fe,show([vc v,vc w]:List VV)[0]? = some (vc v) from rfl,fe,show idxB ([vc v,vc w]:List VV).length 1=some 1 from rfl,fe,show([vc v,vc w]:List VV)[1]? = some (vc w) from rfl,fe,ad1 (lf+m) c hv d s,fe]
def resI:Option (List Vl)→List VV×Bool×Unit
 | some ws=>(ws.map vc,true,())
 | none=>([],false,())
def Good(n:Nat)(r:Option (List Vl)):Prop:=∀ ws,r=some ws→WfE ws∧ws.length=n
def aia(lf:Nat){vs:List Vl}(hw:WfE vs){i:Nat}(c:i < vs.length){w:Vl}(hv:WfV w):
  jI.f lf (vs.map vc) (i:Int) (vc w)=some (resI (if w.a.em=true then none else some (vs.set i w)))∧lK.f lf (vs.map vc) (i:Int) (vc w)=some (resI (if w.a.em=true then none else some (vs.set i w)))∧Good vs.length (if w.a.em=true then none else some (vs.set i w)):=by
 have em:(vc w).1.1=w.a.em:=rfl;have hl:=hw.len;rw[jI.f,lK.f,dA.f,fe,em];cases e:w.a.em with
 | true=>simp only[fg,if_true];exact⟨rfl,rfl,nofun⟩
 | false =>
  have d:apL true 80 [] (vs.map vc)=some (vs.map vc):=by
   have:=apLe 80 [] (vs.map vc) ω (by simp;omega)
   rwa [vv]at this
  have g:idxB (vs.map vc).length (i:Int)=some i:=ib (by simpa using c);have j:upE (vs.map vc) i (fun _=>some (vc w))=some ((vs.set i w).map vc):=by
   unfold upE;rw[yz,zP c];simp only[wj,List.map_set]
  simp only[ff,d,fe,g,j,if_false,ze,gR (show 0 < (vs.map vc).length by simp;omega),fg];refine⟨?_,rfl,fun ws h=>?_⟩
  ·rfl
  ·cases h;refine⟨⟨fun v b=>?_,fun v b=>?_,by simpa using hl⟩,ψ⟩
   ·rcases sC b with h | rfl
    ·exact hw.v v h
    ·exact hv
   ·rcases sC b with h | rfl
    ·exact hw.ne v h
    ·exact e
def ag0:∀ {n k:Nat} {e:EX},RE n k e→∀ {vs:List Vl},WfE vs→vs.length=n→∀ {v:Vl},WfV v→∃ r,Good n r∧∀ lf,Big lf→∀ m,k+1≤m→
  bn.f (lf+m) (vs.map vc) e (vc v)=some (resI r)∧aG.f (lf+m) (vs.map vc) e (vc v)=some (resI r):=by
 intro n k e h
 induction h with
 | num k z U =>
  intro vs hw hn v hv;obtain⟨u,g,d⟩:=wJ (.num (n:=n) k z U) hw hn;have s:=vz hv g;refine⟨if(metV v u).a.em=true then none else some vs,?_,fun lf hb m s=>?_⟩
  ·intro ws h;split at h
   ·cases h
   ·cases h;exact⟨hw,hn⟩
  obtain⟨m,rfl⟩:∃ q,m=q+1:=⟨m-1,ω⟩
  have c:=hb.more m;obtain⟨A,B⟩:=d lf hb m ω;have em:(vc (metV v u)).1.1=(metV v u).a.em:=rfl;constructor
  ·show bn.fb (lf+m) (bn.f (lf+m)) _ _ _=_;rw[bn.fb];simp only[EX.eta,A,fe,tH (lf+m) c hv g,eG.f,em];cases (metV v u).a.em with
   | true=>simp only[fg,if_true];rfl
   | false=>simp only[mk_i,ff,show((0:Int)==0)=true from rfl,fg,if_false,ze];rfl
  ·show aG.fb (lf+m) (aG.f (lf+m)) _ _ _=_;rw[aG.fb];simp only[EX.eta,B,fe,tJ (lf+m) c hv g,dA.f,em];cases (metV v u).a.em with
   | true=>simp only[fg,if_true];rfl
   | false=>simp only[mk_i,ff,show((0:Int)==0)=true from rfl,fg,if_false,ze];rfl
 | var k i T =>
  intro vs hw hn v hv;obtain⟨u,g,d⟩:=wJ (.var (n:=n) k i T) hw hn;have j:=vz hv g;refine⟨if(metV v u).a.em=true then none else some (vs.set i (metV v u)),?_,fun lf hb m s=>?_⟩
  ·have:=(aia 0 hw (i:=i) ω j).2.2
   rwa [hn]at this
  obtain⟨m,rfl⟩:∃ q,m=q+1:=⟨m-1,ω⟩
  have c:=hb.more m;obtain⟨A,B⟩:=d lf hb m ω;obtain⟨D,E,_⟩:=aia (lf+m) hw (i:=i) ω j;have em:(vc (metV v u)).1.1=(metV v u).a.em:=rfl;constructor
  ·show bn.fb (lf+m) (bn.f (lf+m)) _ _ _=_;rw[bn.fb];simp only[EX.eta,A,fe,tH (lf+m) c hv g,eG.f,em];cases e:(metV v u).a.em with
   | true=>simp only[fg,if_true];rfl
   | false =>
    rw[e]at D;simp only[mk_i,mk_j,ff,show((1:Int)==0)=false from rfl,show((1:Int)==1)=true from rfl,fg,D,fe]
  ·show aG.fb (lf+m) (aG.f (lf+m)) _ _ _=_;rw[aG.fb];simp only[EX.eta,B,fe,tJ (lf+m) c hv g,dA.f,em];cases e:(metV v u).a.em with
   | true=>simp only[fg,if_true];rfl
   | false =>
    rw[e]at E;simp only[mk_i,mk_j,ff,show((1:Int)==0)=false from rfl,show((1:Int)==1)=true from rfl,fg,E,fe]
 | neg k a ha V =>
  intro vs hw hn v hv;obtain⟨u,g,d⟩:=wJ (.neg (n:=n) k a ha) hw hn;obtain⟨p,o,x⟩:=wJ ha hw hn;have j:=vz hv g;obtain⟨r,H,L⟩:=V hw hn (ahf j);refine⟨if(metV v u).a.em=true then none else r,?_,fun lf hb m s=>?_⟩
  ·intro ws h;split at h
   ·cases h
   ·exact H ws h
  obtain⟨m,rfl⟩:∃ q,m=q+1:=⟨m-1,ω⟩
  have c:=hb.more m;obtain⟨A,B⟩:=d lf hb m ω;obtain⟨Q,F⟩:=x lf hb m ω;obtain⟨r1,r2⟩:=L lf hb m ω;have em:(vc (metV v u)).1.1=(metV v u).a.em:=rfl;constructor
  ·show bn.fb (lf+m) (bn.f (lf+m)) _ _ _=_;rw[bn.fb];simp only[EX.eta,A,fe,tH (lf+m) c hv g,eG.f,em];cases (metV v u).a.em with
   | true=>simp only[fg,if_true];rfl
   | false=>simp only[mk_i,mk_l,ff,show((2:Int)==0)=false from rfl,show((2:Int)==1)=false from rfl,show((2:Int)==2)=true from rfl,fg,idx0,fe,ahg (lf+m) c j,EX.eta,r1,if_false,ze]
  ·show aG.fb (lf+m) (aG.f (lf+m)) _ _ _=_;rw[aG.fb];simp only[EX.eta,B,fe,tJ (lf+m) c hv g,dA.f,em];cases (metV v u).a.em with
   | true=>simp only[fg,if_true];rfl
   | false =>
    simp only[mk_i,mk_s,mk_j,mk_l,ff,show((2:Int)==0)=false from rfl,show((2:Int)==1)=false from rfl,show((2:Int) != 2)=false from rfl,ri_1 (lf+m) (lf+m+38) _ _ a _ F,fe,aeD (lf+m) c j,if_false,ze];rw[rj_1 (lf+m) (lf+m+38) _ _ a _ _ r2,fe]
 | bin k op a b K ha c N O =>
  intro vs hw hn v hv;obtain⟨u,g,d⟩:=wJ (.bin (n:=n) k op a b K ha c) hw hn;obtain⟨p,o,x⟩:=wJ ha hw hn;obtain⟨y,w,M⟩:=wJ c hw hn;have j:=vz hv g;obtain⟨P,J⟩:=bigE;obtain⟨p1,p2⟩:=ajZ P J j o w (op:=op);obtain⟨r,H,L⟩:=N hw hn p1;have c0:(op==0)=false:=by rw[beq_eq_false_iff_ne];omega
  have c1:(op==1)=false:=by rw[beq_eq_false_iff_ne];omega
  have c2:(op==2)=false:=by rw[beq_eq_false_iff_ne];omega
  have G:(op != 2)=true:=by rw[bne_iff_ne];omega
  have em:(vc (metV v u)).1.1=(metV v u).a.em:=rfl;obtain⟨t,I,ht⟩:∃ t:Option (List Vl),Good n t∧∀ lf,Big lf→∀ m,k+1≤m→
    (br (!(resI r).2.1) (some ([],false,())) (bd (bn.f (lf+m) (resI r).1 b (vc (parV op (metV v u) p y).2)) fun r17=>some (r17.1,r17.2.1,())))=some (resI t)∧
    (br (resI r).2.1 (bd (aG.f (lf+m) (resI r).1 b (vc (parV op (metV v u) p y).2)) fun C=>some ((C.1,C.2.1,()),())) (some (((resI r).1,(resI r).2.1,()),())))=some (resI t,()):=by
   cases r with
   | none=>exact⟨none,nofun,fun lf hb m s=>⟨by simp only[resI,zg,fg],by simp only[resI,ff]⟩⟩
   | some ws =>
    obtain⟨D,E⟩:=H ws rfl;obtain⟨t,I,ht⟩:=O D E p2;refine⟨t,I,fun lf hb m s=>?_⟩;obtain⟨t1,t2⟩:=ht lf hb m s;exact⟨by simp only[resI,zj,ff,t1,fe],by simp only[resI,fg,t2,fe]⟩
  refine⟨if(metV v u).a.em=true then none else t,?_,fun lf hb m s=>?_⟩
  ·intro ws h;split at h
   ·cases h
   ·exact I ws h
  obtain⟨m,rfl⟩:∃ q,m=q+1:=⟨m-1,ω⟩
  have l:=hb.more m;obtain⟨A,B⟩:=d lf hb m ω;obtain⟨Q,F⟩:=x lf hb m ω;obtain⟨R,S⟩:=M lf hb m ω;obtain⟨r1,r2⟩:=L lf hb m ω;obtain⟨t1,t2⟩:=ht lf hb m ω;constructor
  ·show bn.fb (lf+m) (bn.f (lf+m)) _ _ _=_;rw[bn.fb];simp only[EX.eta,A,fe,tH (lf+m) l hv g,eG.f,em];cases (metV v u).a.em with
   | true=>simp only[fg,if_true];rfl
   | false =>
    simp only[mk_i,mk_l,ff,c0,c1,c2,idx0,idx1,fe,EX.eta,Q,R,aiE (lf+m) l j o w K,r1,if_false,ze];exact t1
  ·show aG.fb (lf+m) (aG.f (lf+m)) _ _ _=_;rw[aG.fb];simp only[EX.eta,B,fe,tJ (lf+m) l hv g,dA.f,em];cases (metV v u).a.em with
   | true=>simp only[fg,if_true];rfl
   | false =>
    simp only[mk_i,mk_s,mk_j,mk_l,ff,fg,c0,c1,G,ri_2 (lf+m) (lf+m+37) _ _ a b _ _ F S,fe,aeD (lf+m) l j,if_false,ze];rw[show idxB ([vc p,vc y]:List VV).length 0=some 0 from rfl,fe,show([vc p,vc y]:List VV)[0]? = some (vc p) from rfl,fe,show idxB ([vc p,vc y]:List VV).length 1=some 1 from rfl,fe,show([vc p,vc y]:List VV)[1]? = some (vc y) from rfl,fe,aiF (lf+m) l j o w K,fe];rw[rj_2 (lf+m) (lf+m+37) _ _ a b _ _ _ r2,t2,fe]
def chs2{β:Type}(x:β):chs [some x,some x]=some x:=chs_of ψ ψ
def resF(r:Option (List Vl)):List VV×Bool×Int×Unit:=((resI r).1,(resI r).2.1,0,())
def ahC(lf:Nat){n:Nat}{r:Option (List Vl)}(h:Good n r):lH.f lf (resI r).1 (resI r).2.1=some (resF r):=by
 cases r with
 | none=>rw[lH.f];simp only[resI,zg,fg];rfl
 | some ws =>
  obtain⟨w,_⟩:=h ws rfl;have hl:=w.len;have b:apL true 80 [] (ws.map vc)=some (ws.map vc):=by
   have:=apLe 80 [] (ws.map vc) ω (by simp;omega)
   rwa [vv]at this
  show lH.f lf (ws.map vc) true=some (resF (some ws));rw[lH.f];simp only[zj,ff,b,fe];by_cases g:0 < (ws.map vc).length
  ·rw[gR g,fg];rfl
  ·have:ws.map vc=[]:=by
    cases h:ws.map vc with
    | nil=>rfl
    | cons a l=>rw[h]at g;simp at g
   rw[gP g,ff,this,chs2];unfold resF resI;simp only[this]
def agV{n:Nat}{r:Option (List Vl)}(h:Good n r):(resF r).1.length≤1000:=by
 cases r with
 | none=>simp[resF,resI]
 | some ws=>have:=(h ws rfl).1.len;simp[resF,resI];omega
section
variable (lf:Nat)(hb:Big lf)
include hb
end
def Bigx(lf:Nat):Prop:=Big (lf-100)∧100≤lf
def Bigx.big{lf:Nat}(h:Bigx lf):Big lf:=by
 have:=h.1.more 100
 rwa [m5 h.2]at this
def bigX:∃ lf,Bigx lf:=by
 obtain⟨lf,h⟩:=bigE;exact⟨lf+100,by rwa [Nat.add_sub_cancel],ω⟩
section
variable (lf:Nat)(hx:Bigx lf)
include hx
theorem afV{n:Nat}{e:EX}(h:RE n 25 e){vs:List Vl}(hw:WfE vs)(hn:vs.length=n):∃ v,WfV v∧aY.f lf (vs.map vc) e=some (vc v,())∧aQ.f lf (vs.map vc) e=some (vc v,()):=by
 obtain⟨v,hv,k⟩:=wJ h hw hn;have:=k (lf-100) hx.1 100 ω;rw[m5 hx.2]at this;exact⟨v,hv,this⟩
theorem adL{n:Nat}{e:EX}(h:RE n 25 e){vs:List Vl}(hw:WfE vs)(hn:vs.length=n){v:Vl}(hv:WfV v):∃ r,Good n r∧bn.f lf (vs.map vc) e (vc v)=some (resI r)∧aG.f lf (vs.map vc) e (vc v)=some (resI r):=by
 obtain⟨r,a,k⟩:=ag0 h hw hn hv;have:=k (lf-100) hx.1 100 ω;rw[m5 hx.2]at this;exact⟨r,a,this⟩
theorem akg{n:Nat}{a b:EX}(ha:RE n 25 a)(hB:RE n 25 b){vs:List Vl}(hw:WfE vs)(hn:vs.length=n){op:Int}(d:op=2∨op=3∨op=4∨op=5):
  ∃ r,Good n r∧jH.f lf (vs.map vc) op a b=some (resI r)∧lV.f lf (vs.map vc) op a b=some (resI r):=by
 have hb:=hx.big;obtain⟨u,g,u1,u2⟩:=afV lf hx ha hw hn;obtain⟨w,c,l,m⟩:=afV lf hx hB hw hn;obtain⟨p1,p2⟩:=aj2 g c d;have em:(vc (refV op u w).1).1.1=(refV op u w).1.a.em:=rfl;rw[jH.f,lV.f];simp only[EX.eta,u1,l,u2,m,fe,aj3 lf hb g c d,aj6 lf hb g c d,dA.f,em];cases e:(refV op u w).1.a.em with
 | true=>simp only[fg];exact⟨none,nofun,rfl,rfl⟩
 | false =>
  obtain⟨r,j,r1,r2⟩:=adL lf hx ha hw hn p1;simp only[ff,r1,r2,fe];cases r with
  | none=>simp only[resI,zg,fg];exact⟨none,nofun,rfl,rfl⟩
  | some ws =>
   obtain⟨h,i⟩:=j ws rfl;obtain⟨t,k,t1,t2⟩:=adL lf hx hB h i p2;simp only[resI,zj,ff,t1,t2,fe];exact⟨t,k,rfl,rfl⟩
theorem agr{l:List VV}(hs:∀ x∈l,SmV x)(hl:l.length≤40){a b:EX}(ha:cnt a≤80∧dep a≤25∧txt a)(hB:cnt b≤80∧dep b≤25∧txt b)(op:Int):
  ∃ r,uS.f lf l op a b=some r∧nR.f lf l op a b=some r∧r.1.length≤1000:=by
 have hb:=hx.big;obtain⟨e,j,k,m⟩:=chkE lf hb hs hl;have i:2000≤lf:=by have:=hb.1;omega
 rw[uS.f,nR.f,j,k,fe,fe];by_cases h:e=0
 ·simp only[h,bne_self_eq_false,ff];obtain⟨vs,rfl,hw⟩:=m h;obtain⟨x,n,o,p⟩:=aeY lf i ha (vs.map vc).length;obtain⟨y,q,s,t⟩:=aeY lf i hB (vs.map vc).length;rw[mZ.f];by_cases c1:op < 2
  ·rw[gR c1,fg,gP (show ¬op≥2 from ω),ff,fe];simp only[zg,fg];exact⟨_,rfl,rfl,ψ⟩
  ·rw[gP c1,ff,gR (show op≥2 from ω),fg,fe];by_cases c2:op > 5
   ·rw[gR c2,fg];simp only[gP (show ¬op≤5 from ω)];rw[zg,fg];exact⟨_,rfl,rfl,ψ⟩
   ·rw[gP c2,ff];dsimp only;rw[gR (show op≤5 from ω),zj,ff];simp only[EX.eta,n,o,fe];by_cases c:x=0
    ·simp only[c,bne_self_eq_false,ff,q,s,fe];by_cases d:y=0
     ·simp only[d,bne_self_eq_false,ff];have r1:=(p c).2;have r2:=(t d).2;rw[List.length_map]at r1 r2;obtain⟨r,g,t1,t2⟩:=akg lf hx r1 r2 hw rfl (op:=op) ω;rw[t1,t2,fe,fe,ahC lf g,fe];exact⟨resF r,rfl,rfl,agV g⟩
     ·simp only[bneT d,fg];exact⟨_,rfl,rfl,ψ⟩
    ·simp only[bneT c,fg];exact⟨_,rfl,rfl,ψ⟩
 ·simp only[bneT h,fg];exact⟨_,rfl,rfl,ψ⟩
end
open Go Go.Q
def aid(m:Nat):jl.f (m+1000)=some (true,()):=θ
def awakeX{lf:Nat}(h:1000≤lf):jl.f lf=some (true,()):=by
 have:=aid (lf-1000)
 rwa [m5 h]at this
end Go.N
namespace Go.Q
open Go Go.RowKit Go.ChangeShapes Go.WideShapes
def flat:Ty→Bool
 | .sl _=>false
 | .rc _=>false
 | .pair a b=>flat a&&flat b
 | _=>true
def partsOf(P:Program)(t:TypeId):List (TypeId×Nat):=match P.underlying t with
 | some (.struct fs)=>fs.toList.map fun f=>(f.type,f.offset)
 | some (.array n e)=>(List.range n).map fun i=>(e,i*P.cellsOf e)
 | _=>[]
def isSlT(P:Program)(u e:TypeId):Bool:=match P.underlying u with
 | some (.slice e')=>decide (e'=e)
 | _=>false
def adQ(P:Program)(u:TypeId):Bool:=match P.underlying u with
 | some (.int k)=>decide (k=.i64)
 | _=>false
def isStr(P:Program)(u:TypeId):Bool:=match P.underlying u with
 | some .string=>true
 | _=>false
def fitX(P:Program)(t:TypeId):Bool:=match partsOf P t with
 | [a,b,c,d]=>decide (P.cellsOf t=4∧a.2=0∧b.2=1∧c.2=2∧d.2=3∧P.cellsOf a.1=1∧P.cellsOf b.1=1∧P.cellsOf c.1=1∧P.cellsOf d.1=1)&&(adQ P a.1&&(isStr P b.1&&(adQ P c.1&&isSlT P d.1 t)))
 | _=>false
def fitY(P:Program)(t:TypeId):Bool:=match partsOf P t with
 | [a,b,c]=>decide (P.cellsOf t=3∧a.2=0∧b.2=1∧c.2=2∧P.cellsOf a.1=1∧P.cellsOf b.1=1∧P.cellsOf c.1=1)&&(adQ P a.1&&((match P.underlying b.1 with
   | some (.slice e)=>fitX P e
   | _=>false)&&isSlT P c.1 t))
 | _=>false
mutual
def fitT(P:Program):Ty→TypeId→Bool
 | .int k,t=>match P.underlying t with
  | some (.int k')=>decide (k'=k)
  | _=>false
 | .bool,t=>match P.underlying t with
  | some .bool=>true
  | _=>false
 | .str,t=>match P.underlying t with
  | some .string=>true
  | _=>false
 | .unit,_=>false
 | .nul,_=>false
 | .rc c,t=>bif c then fitY P t else fitX P t
 | .pair a b,t=>match partsOf P t with
  | p::r=>p.2==0&&(fitT P a p.1&&(P.cellsOf p.1==a.n&&(fitL P b r a.n&&P.cellsOf t==a.n+b.n)))
  | []=>false
 | .sl e,t=>match P.underlying t with
  | some (.slice e')=>fitT P e e'&&(flat e&&P.cellsOf e'==e.n)
  | _=>false
def fitL(P:Program):Ty→List (TypeId×Nat)→Nat→Bool
 | .unit,l,_=>match l with
  | []=>true
  | _=>false
 | .pair a b,l,k=>match l with
  | p::r=>p.2==k&&(fitT P a p.1&&(P.cellsOf p.1==a.n&&fitL P b r (k+a.n)))
  | []=>false
 | _,_,_=>false
end
def Bnd:(T:Ty)→T.α→Prop
 | .int k,x=>k.min≤x∧x≤k.max
 | .str,x=>x.size≤9223372036854775807
 | .pair a b,x=>Bnd a x.1∧Bnd b x.2
 | .sl e,l=>l.length≤9223372036854775807∧∀ y∈l,Bnd e y
 | _,_=>True
def Bnds:(ps:List Ty)→Tys ps→Prop
 | [],_=>True
 | t::ts,x=>Bnd t x.1∧Bnds ts x.2
section
variable {H:Type}{enc:TypeId×Value→H}{P:Program}{w:World}{F:Nat→Prop}{sp:Nat→Bool}{held:Bool}
def xX{t:TypeId}{a:Nat}{j:List Value}{x:DataW H×List MemPlace}(o:partsOf P t≠[])(h:DataW.trod enc P w 0 sp held a t j=some x):
  j.length=P.cellsOf t∧∃ n,a=n+1∧∀ p∈partsOf P t,∃ y,DataW.trod enc P w 0 sp held n p.1 ((j.drop p.2).take (P.cellsOf p.1))=some y:=by
 unfold partsOf at o⊢;split at o
 ·rename_i r q;obtain⟨xs,n,b,_,hl,d,k⟩:=DataW.trod_struct q h;refine⟨hl,n,b,fun p c=>?_⟩;simp only[yy]at c;obtain⟨f,l,rfl⟩:=c;obtain⟨i,g,v⟩:=pS.1 l;have s:r[i]? = some f:=by
   have:r.toList[i]? = some f:=by rw[zP g,v]
   simpa using this
  have u:i < xs.length:=by
   rw[d];simpa using g
  exact⟨xs[i],by rw[k i f s,zP u]⟩
 ·rename_i n e q;obtain⟨xs,m,b,_,hl,d,k⟩:=DataW.trod_array q h;refine⟨hl,m,b,fun p c=>?_⟩;simp only[yy,List.mem_range]at c;obtain⟨i,g,rfl⟩:=c;exact⟨xs[i],by rw[k i g,zP ω]⟩
 ·exact absurd rfl o
mutual
theorem uM:∀ (T:Ty) (t:TypeId) (d:List Value) (x:DataW H×List MemPlace) (c:Nat),flat T=true→fitT P T t=true→DataW.trod enc P w 0 sp held c t d=some x→∃ y:T.α,DR F w T y d∧Bnd T y
 | .int k,t,d,x,c,_,hf,h=>by
  unfold fitT at hf;split at hf
  ·rename_i E f;obtain rfl:E=k:=by simpa using hf
   obtain⟨n,rfl,_,hw⟩:=DataW.trod_int f h;exact⟨n,rfl,by simpa [Lit.wf,Bnd]using hw⟩
  ·cases hf
 | .bool,t,d,x,c,_,hf,h=>by
  unfold fitT at hf;split at hf
  ·rename_i f;obtain⟨b,rfl,_⟩:=DataW.trod_bool f h;exact⟨b,rfl,trivial⟩
  ·cases hf
 | .str,t,d,x,c,_,hf,h=>by
  unfold fitT at hf;split at hf
  ·rename_i f;obtain⟨s,rfl,_,hs⟩:=DataW.trod_string f h;exact⟨s,rfl,by simpa [maxLen,Bnd]using hs⟩
  ·cases hf
 | .unit,t,d,x,c,_,hf,h=>by simp[fitT]at hf
 | .nul,t,d,x,c,_,hf,h=>by simp[fitT]at hf
 | .rc _,t,d,x,c,hfl,_,h=>by simp[flat]at hfl
 | .sl e,t,d,x,c,hfl,_,_=>by simp[flat]at hfl
 | .pair a b,t,d,x,c,hfl,hf,h=>by
  unfold fitT at hf;split at hf
  ·rename_i p r j;simp only[zm,beq_iff_eq]at hf;obtain⟨A,B,C,h3,G⟩:=hf;simp only[flat,zm]at hfl;obtain⟨hl,n,_,i⟩:=xX (by rw[j];simp) h;rw[j]at i;obtain⟨I,g⟩:=i p ψ;rw[A,C]at g;obtain⟨u,o,l⟩:=uM a p.1 _ _ n hfl.1 B g;obtain⟨v,z,m⟩:=adG b r a.n d n hfl.2 h3 (fun q D=>i q (by simp[D])) ω;refine⟨(u,v),⟨_,_,?_,o,z⟩,l,m⟩;have e:(d.drop a.n).take b.n=d.drop a.n:=uW (by rw[vu];omega);rw[e];simp
  ·cases hf
theorem adG:∀ (T:Ty) (l:List (TypeId×Nat)) (k:Nat) (c:List Value) (n:Nat),flat T=true→fitL P T l k=true→(∀ p∈l,∃ y,DataW.trod enc P w 0 sp held n p.1 ((c.drop p.2).take (P.cellsOf p.1))=some y)→k+T.n≤c.length→∃ y:T.α,DR F w T y ((c.drop k).take T.n)∧Bnd T y
 | .int k',l,k,c,n,_,hf,_,_=>by simp[fitL]at hf
 | .bool,l,k,c,n,_,hf,_,_=>by simp[fitL]at hf
 | .str,l,k,c,n,_,hf,_,_=>by simp[fitL]at hf
 | .nul,l,k,c,n,_,hf,_,_=>by simp[fitL]at hf
 | .rc _,l,k,c,n,_,hf,_,_=>by simp[fitL]at hf
 | .sl _,l,k,c,n,_,hf,_,_=>by simp[fitL]at hf
 | .unit,l,k,c,n,_,hf,_,_=>⟨(),by simp[DR,Ty.n],trivial⟩
 | .pair a b,l,k,c,n,hfl,hf,hm,hk=>by
  unfold fitL at hf;split at hf
  ·rename_i p r;simp only[zm,beq_iff_eq]at hf;obtain⟨i,j,m,h3⟩:=hf;simp only[flat,zm]at hfl;simp only[Ty.n]at hk;obtain⟨s,d⟩:=hm p ψ;rw[i,m]at d;obtain⟨u,g,e⟩:=uM a p.1 _ _ n hfl.1 j d;obtain⟨v,h,f⟩:=adG b r (k+a.n) c n hfl.2 h3 (fun q o=>hm q (by simp[o])) ω;refine⟨(u,v),⟨_,_,?_,g,h⟩,e,f⟩;simp only[Ty.n];rw[List.take_add,m8]
  ·cases hf
end
def aa1{α:Type}{R:Nat→α→Prop}:∀ (n:Nat),(∀ i,i < n→∃ y,R i y)→∃ l:List α,l.length=n∧∀ (i:Nat) (y:α),l[i]? = some y→R i y
 | 0,_=>⟨[],rfl,fun i y h=>by simp at h⟩
 | n+1,h=>by
  obtain⟨l,hl,d⟩:=aa1 n fun i b=>h i ω;obtain⟨y,hy⟩:=h n ω;refine⟨l++[y],by simp[hl],fun i z a=>?_⟩;by_cases b:i < l.length
  ·rw[List.getElem?_append_left b]at a;exact d i z a
  ·rw[List.getElem?_append_right ω]at a;have:i=l.length:=by
    by_cases e:i-l.length=0
    ·omega
    ·obtain⟨q,c⟩:=Nat.exists_eq_succ_of_ne_zero e;rw[c]at a;simp at a
   subst this;simp only[Nat.sub_self,List.getElem?_cons_zero,y8.injEq]at a;subst a;rw[hl];exact hy
def topS:Ty→Bool
 | .rc _=>true
 | .sl e=>flat e
 | .pair a b=>topS a&&topS b
 | T=>flat T
def topOK:Ty→Bool
 | .sl e=>flat e
 | T=>topS T
def wU(b o n:Nat):(Addr.add ⟨b,o,none⟩ n)=⟨b,o+n,none⟩:=by
 unfold Addr.add;split
 ·rename_i h;rw[h];rfl
 ·rfl
def acf{i:Nat}{q:TypeId×Nat}(h:w.shape? i=some q):IsC w i:=by
 unfold World.shape? at h;unfold IsC;cases hb:w.heap[i]? with
 | none=>rw[hb]at h;simp at h
 | some o=>cases o<;>rw[hb]at h<;>simp_all
def SlOK(w:World)(v:Value):Prop:=∀ a len cap,v=.slice (some a) len cap→a.spot=none∧IsC w a.block
def agn{c:Nat}{u:TypeId}{v:Value}(h:Cell.okWide P w .any c u v):SlOK w v:=by
 rintro a len cap rfl;cases g:P.underlying u with
 | none=>simp[Cell.okWide,Cell.ok,g]at h
 | some d =>
  cases d<;>simp only[Cell.okWide,Cell.ok,g]at h
  case slice e =>
   obtain⟨_,b,i,cells,f,_⟩:=h.2.2;exact⟨b,acf f⟩
def aii{a:Addr}{v:Value}(h:w.cell? ((a.add 0).add 0)=some v):a.spot=none∧IsC w a.block:=by
 have e:(a.add 0).add 0=a:=by obtain⟨b,o,q⟩:=a;cases q<;>rfl
 rw[e]at h;obtain⟨b,o,q⟩:=a;unfold World.cell? at h;unfold IsC;dsimp only at h⊢;cases hb:w.heap[b]? with
 | none=>rw[hb]at h;simp at h
 | some ob=>cases ob<;>rw[hb]at h<;>simp_all
def adk(hsp:∀ b,sp b=true){α:Type}{D:α→List Value→Prop}{u e:TypeId}{k p:Nat}{g:List Value}{x:DataW H×List MemPlace}(t:isSlT P u e=true)(K:P.cellsOf e=k)(L:0 < k)
  (O:∀ m g x,m < p→DataW.trod enc P w 0 sp held m e g=some x→∃ y:α,D y g) (h:DataW.trod enc P w 0 sp held p u g=some x) :
  ∃ (v:Value) (l:List α),g=[v]∧((l=[]∧∃ q:Option Addr,v=.slice q 0 0)∨∃ b o cap:Nat,v=.slice (some ⟨b,o,none⟩) l.length cap∧(l≠[]→IsC w b)∧l.length≤cap∧
   ∀ (i:Nat) (x:α),l[i]? = some x→∃ ds:List Value,D x ds∧∀ (j:Nat) (d:Value),ds[j]? = some d→w.cell? ⟨b,o+(i*k+j),none⟩=some d):=by
 unfold isSlT at t;split at t
 case h_2=>cases t
 rename_i z E;obtain rfl:z=e:=by simpa using t
 rcases DataW.trod_slice E h with⟨hc,_⟩ | ⟨a,len,cap,elems,rest,n,hfu,hc,_,_,hle,_,hel,hread,hrest,_⟩
 ·exact⟨_,[],hc,.inl ⟨rfl,none,rfl⟩⟩
 ·subst hc;obtain⟨N,C⟩:=hrest (hsp _);by_cases A:cap=0
  ·subst A;obtain rfl:len=0:=ω;exact⟨_,[],rfl,.inl ⟨rfl,some a,rfl⟩⟩
  ·have I:∃ (cs0:List Value),w.cells? 0 (a.add (0*P.cellsOf z)) (P.cellsOf z)=some cs0:=by
    by_cases B:len=0
    ·subst B;have c:=C 0 ω;rw[zP ω,vB]at c;obtain⟨cs0,c1,_⟩:=c;exact⟨cs0,by simpa using c1⟩
    ·have c:=hread 0 ω;rw[zP ω,vB]at c;obtain⟨cs0,c1,_⟩:=c;exact⟨cs0,c1⟩
   obtain⟨cs0,c1⟩:=I;obtain⟨_,S,F⟩:=World.cells?_some c1;have c:=F 0 ω;rw[Nat.zero_mul,zP ω]at c;obtain⟨f,r⟩:=aii c;obtain⟨b,o,s⟩:=a;simp only at f r;subst f;obtain⟨l,hl,M⟩:=aa1 (α:=α) (R:=fun i y=>(∃ ds:List Value,D y ds∧∀ (j:Nat) (d:Value),ds[j]? = some d→w.cell? ⟨b,o+(i*k+j),none⟩=some d)) len fun i J=>by
    have c:=hread i J;rw[zP ω,vB]at c;obtain⟨g,c1,c2⟩:=c;obtain⟨y,Q⟩:=O n g _ ω c2;refine⟨y,g,Q,fun j T G=>?_⟩;obtain⟨_,S,F⟩:=World.cells?_some c1;have U:j < g.length:=(y6.1 G).1;have:=F j ω;rw[wU,wU,K]at this;rw[←xo,this];exact G
   exact⟨_,l,rfl,.inr ⟨b,o,cap,by rw[hl],fun _=>r,ω,M⟩⟩
def abA{u:TypeId}{a:Nat}{c:List Value}{x:DataW H×List MemPlace}(b:adQ P u=true)(h:DataW.trod enc P w 0 sp held a u c=some x):∃ n,c=[.int .i64 n]:=by
 unfold adQ at b;split at b
 ·rename_i k d;obtain rfl:k=.i64:=by simpa using b
  obtain⟨n,rfl,_⟩:=DataW.trod_int d h;exact⟨n,rfl⟩
 ·cases b
def ahU{u:TypeId}{a:Nat}{c:List Value}{x:DataW H×List MemPlace}(b:isStr P u=true)(h:DataW.trod enc P w 0 sp held a u c=some x):∃ n,c=[.string n]:=by
 unfold isStr at b;split at b
 ·rename_i d;obtain⟨n,rfl,_⟩:=DataW.trod_string d h;exact⟨n,rfl⟩
 ·cases b
def len4{f:List Value}(h:f.length=4):∃ a b c d,f=[a,b,c,d]:=by
 rcases f with _ | ⟨a,_ | ⟨b,_ | ⟨c,_ | ⟨d,_ | ⟨e,l⟩⟩⟩⟩⟩<;>simp_all
def len3{e:List Value}(h:e.length=3):∃ a b c,e=[a,b,c]:=by
 rcases e with _ | ⟨a,_ | ⟨b,_ | ⟨c,_ | ⟨d,l⟩⟩⟩⟩<;>simp_all
def ae9(hsp:∀ b,sp b=true){t:TypeId}(hx:fitX P t=true):∀ (e:Nat) (cs:List Value) (x:DataW H×List MemPlace),DataW.trod enc P w 0 sp held e t cs=some x→∃ y:EX,DX (IsC w) w (.inl y) cs:=by
 intro e
 induction e using pP with
 | ind e K =>
  intro cs x h;unfold fitX at hx;split at hx
  case h_2=>cases hx
  rename_i a b c d r;simp only[zm,decide_eq_true_eq]at hx;obtain⟨⟨ht,u,z,c2,E,A,B,cc,C⟩,L,kb,M,kd⟩:=hx;obtain⟨hl,n,J,f⟩:=xX (by rw[r];simp) h;rw[r]at f;rw[ht]at hl;obtain⟨N,O,Q,R,rfl⟩:=len4 hl;obtain⟨S,g⟩:=f a ψ;obtain⟨T,o⟩:=f b ψ;obtain⟨U,p⟩:=f c ψ;obtain⟨V,h3⟩:=f d ψ;rw[u,A]at g;rw[z,B]at o;rw[c2,cc]at p;rw[E,C]at h3;simp only[List.drop,List.take]at g o p h3;obtain⟨i,e0⟩:=abA L g;obtain⟨s,F⟩:=ahU kb o;obtain⟨j,G⟩:=abA M p;obtain⟨v,l,I,q⟩:=adk hsp (D:=fun y cs=>DX (IsC w) w (.inl y) cs) (k:=4) kd ht ω (fun m cs x f h=>K m ω cs x h) h3;cases e0;cases F;cases G;cases I;refine⟨.mk i s j l,.ex (.mk i s j l) _ (dr_ex.1 ⟨_,rfl,q⟩)⟩
def ail(hsp:∀ b,sp b=true){t:TypeId}(hx:fitY P t=true):∀ (d:Nat) (cs:List Value) (x:DataW H×List MemPlace),DataW.trod enc P w 0 sp held d t cs=some x→∃ y:CX,DY (IsC w) w (.inl y) cs:=by
 intro d
 induction d using pP with
 | ind d J =>
  intro cs x h;unfold fitY at hx;split at hx
  case h_2=>cases hx
  rename_i a b c u;simp only[zm,decide_eq_true_eq]at hx;obtain⟨⟨ht,A,B,c2,C,E,cc⟩,K,kb,L⟩:=hx;split at kb
  case h_2=>cases kb
  rename_i e q;obtain⟨hl,n,I,f⟩:=xX (by rw[u];simp) h;rw[u]at f;rw[ht]at hl;obtain⟨N,O,Q,rfl⟩:=len3 hl;obtain⟨R,j⟩:=f a ψ;obtain⟨S,o⟩:=f b ψ;obtain⟨T,p⟩:=f c ψ;rw[A,C]at j;rw[B,E]at o;rw[c2,cc]at p;simp only[List.drop,List.take]at j o p;obtain⟨i,e0⟩:=abA K j;have r:P.cellsOf e=4:=by
   have:=kb;unfold fitX at this;split at this
   ·simp only[zm,decide_eq_true_eq]at this;exact this.1.1
   ·cases this
  obtain⟨v,l,F,s⟩:=adk hsp (D:=fun y cs=>DX (IsC w) w (.inl y) cs) (k:=4) (e:=e) (by unfold isSlT;rw[q];simp) r ω (fun m cs x _ h=>ae9 hsp kb m cs x h) o;obtain⟨M,z,G,g⟩:=adk hsp (D:=fun y cs=>DY (IsC w) w (.inl y) cs) (k:=3) L ht ω (fun m cs x f h=>J m ω cs x h) p;cases e0;cases F;cases G;exact⟨.mk i l z,.cd (.mk i l z) _ _ (dr_ex.1 ⟨_,rfl,s⟩) (dr_cd.1 ⟨_,rfl,g⟩)⟩
def afw(hsp:∀ b,sp b=true):∀ (c:Bool) {t:TypeId},fitT P (.rc c) t=true→∀ (a:Nat) (d:List Value) (x:DataW H×List MemPlace),DataW.trod enc P w 0 sp held a t d=some x→∃ y:(Ty.rc c).α,DR (IsC w) w (.rc c) y d∧Bnd (.rc c) y
 | false,t,hf,a,d,x,h=>by
  obtain⟨y,hy⟩:=ae9 hsp (by simpa [fitT]using hf) a d x h;exact⟨y,hy,trivial⟩
 | true,t,hf,a,d,x,h=>by
  obtain⟨y,hy⟩:=ail hsp (by simpa [fitT]using hf) a d x h;exact⟨y,hy,trivial⟩
def aeU{t:TypeId}{v:Value}{b:Nat}(g:partsOf P t≠[])(hv:Value.okWide P w .any b t v):∃ a,v=.agg a∧∀ y∈a.toList,SlOK w y:=by
 have f:∀ a:Array Value,Row.okWide P w .any b t a→∀ y∈a.toList,SlOK w y:=fun a c y hy=>by
  obtain⟨ts,_,_,j⟩:=c;obtain⟨i,l,k⟩:=pS.1 hy;have h:a[i]? = some y:=by
   have:a.toList[i]? = some y:=by rw[zP l,k]
   simpa using this
  obtain⟨u,_,d⟩:=j i y h;exact agn d
 unfold partsOf at g;unfold Value.okWide at hv;split at g
 ·rename_i m d;rw[d]at hv;obtain⟨a,e,_,c⟩:=hv;exact⟨a,e,f a c⟩
 ·rename_i n e d;rw[d]at hv;obtain⟨a,e,_,c⟩:=hv;exact⟨a,e,f a c⟩
 ·exact absurd rfl g
section
variable (hsp:∀ b,sp b=true)
include hsp
mutual
theorem aer:∀ (T:Ty) (t:TypeId) (g:List Value) (x:DataW H×List MemPlace) (f:Nat),topS T=true→fitT P T t=true→(∀ v∈g,SlOK w v)→DataW.trod enc P w 0 sp held f t g=some x→∃ y:T.α,DR (IsC w) w T y g∧Bnd T y
 | .int k,t,g,x,f,_,hf,_,h=>uM (.int k) t g x f rfl hf h
 | .bool,t,g,x,f,_,hf,_,h=>uM .bool t g x f rfl hf h
 | .str,t,g,x,f,_,hf,_,h=>uM .str t g x f rfl hf h
 | .unit,t,g,x,f,_,hf,_,h=>by simp[fitT]at hf
 | .nul,t,g,x,f,_,hf,_,h=>by simp[fitT]at hf
 | .rc c,t,g,x,f,_,hf,_,h=>afw hsp c hf f g x h
 | .sl e,t,g,x,f,_,hf,hok,h=>by
  unfold fitT at hf;split at hf
  ·rename_i Q V;simp only[zm,beq_iff_eq]at hf;obtain⟨C,D,h3⟩:=hf;rcases DataW.trod_slice V h with⟨hc,_⟩ | ⟨a',len',cap',elems,rest,n,_,hc,_,_,hle,hcm,hel,hread,_⟩
   ·subst hc;exact⟨[],⟨_,rfl,.inl ⟨rfl,none,rfl⟩⟩,by simp[Bnd]⟩
   ·subst hc;obtain⟨m,z⟩:=hok _ (List.mem_cons_self ..) a' len' cap' rfl;obtain⟨b,o,s⟩:=a';simp only at m z;subst m;obtain⟨l,hl,K⟩:=aa1 (α:=e.α) (R:=fun i y=>(∃ ds:List Value,DR (IsC w) w e y ds∧∀ (j:Nat) (d:Value),ds[j]? = some d→w.cell? ⟨b,o+(i*e.n+j),none⟩=some d)∧Bnd e y) len' fun i E=>by
     have B:=hread i E;rw[zP ω,vB]at B;obtain⟨g,c1,c2⟩:=B;obtain⟨y,W,X⟩:=uM (F:=IsC w) e Q g _ n D C c2;refine⟨y,⟨g,W,fun j Z I=>?_⟩,X⟩;obtain⟨_,m1,Y⟩:=World.cells?_some c1;have hj:j < g.length:=(y6.1 I).1;have:=Y j ω;rw[wU,wU,h3]at this;rw[←xo,this];exact I
    refine⟨l,⟨_,rfl,.inr ⟨b,o,cap',by rw[hl],fun _=>z,ω,fun i x hx=>(K i x hx).1⟩⟩,?_,?_⟩
    ·rw[hl];simp only[maxLen]at hcm;omega
    ·intro y hy;obtain⟨i,E,U⟩:=pS.1 hy;exact(K i y (by rw[zP E,U])).2
  ·cases hf
 | .pair a b,t,g,x,f,hfl,hf,hok,h=>by
  unfold fitT at hf;split at hf
  ·rename_i p r J;simp only[zm,beq_iff_eq]at hf;obtain⟨S,C,D,h3,h4⟩:=hf;simp only[topS,zm]at hfl;obtain⟨hl,n,_,G⟩:=xX (by rw[J];simp) h;rw[J]at G;obtain⟨y0,A⟩:=G p ψ;rw[S,D]at A;obtain⟨u,N,L⟩:=aer a p.1 _ _ n hfl.1 C (fun v hv=>hok v (qS (rI hv))) A;obtain⟨v,O,M⟩:=ae6 b r a.n g n hfl.2 h3 hok (fun q B=>G q (by simp[B])) ω;refine⟨(u,v),⟨_,_,?_,N,O⟩,L,M⟩;have e:(g.drop a.n).take b.n=g.drop a.n:=uW (by rw[vu];omega);rw[e];simp
  ·cases hf
theorem ae6:∀ (T:Ty) (l:List (TypeId×Nat)) (k:Nat) (c:List Value) (n:Nat),topS T=true→fitL P T l k=true→(∀ v∈c,SlOK w v)→(∀ p∈l,∃ y,DataW.trod enc P w 0 sp held n p.1 ((c.drop p.2).take (P.cellsOf p.1))=some y)→k+T.n≤c.length→∃ y:T.α,DR (IsC w) w T y ((c.drop k).take T.n)∧Bnd T y
 | .int k',l,k,c,n,_,hf,_,_,_=>by simp[fitL]at hf
 | .bool,l,k,c,n,_,hf,_,_,_=>by simp[fitL]at hf
 | .str,l,k,c,n,_,hf,_,_,_=>by simp[fitL]at hf
 | .nul,l,k,c,n,_,hf,_,_,_=>by simp[fitL]at hf
 | .rc _,l,k,c,n,_,hf,_,_,_=>by simp[fitL]at hf
 | .sl _,l,k,c,n,_,hf,_,_,_=>by simp[fitL]at hf
 | .unit,l,k,c,n,_,hf,_,_,_=>⟨(),by simp[DR,Ty.n],trivial⟩
 | .pair a b,l,k,c,n,hfl,hf,hok,hm,hk=>by
  unfold fitL at hf;split at hf
  ·rename_i p r;simp only[zm,beq_iff_eq]at hf;obtain⟨i,j,m,h3⟩:=hf;simp only[topS,zm]at hfl;simp only[Ty.n]at hk;obtain⟨s,d⟩:=hm p ψ;rw[i,m]at d;obtain⟨u,g,e⟩:=aer a p.1 _ _ n hfl.1 j (fun v hv=>hok v (qS (rI hv))) d;obtain⟨v,h,f⟩:=ae6 b r (k+a.n) c n hfl.2 h3 hok (fun q o=>hm q (by simp[o])) ω;refine⟨(u,v),⟨_,_,?_,g,h⟩,e,f⟩;simp only[Ty.n];rw[List.take_add,m8]
  ·cases hf
end
theorem adt{T:Ty}{t:TypeId}{v:Value}{d:DataW H}{p:List MemPlace}{A:Nat}(ht:topOK T=true)(f:fitT P T t=true)(hv:Value.okWide P w .any A t v)(h:DataW.Trod enc P w 0 sp held t v d p):∃ y:T.α,ValR (IsC w) w T y v∧Bnd T y:=by
 obtain⟨g,h⟩:=h;unfold ValR;cases T with
 | int k =>
  obtain⟨y,m,q⟩:=uM (F:=IsC w) (.int k) t _ _ g rfl f h;unfold fitT at f;split at f
  ·rename_i X z;obtain⟨n,rfl⟩:=okWide_int z hv;exact⟨y,by rw[gT (by simp[isSt])];simpa [Value.cells]using m,q⟩
  ·cases f
 | bool =>
  obtain⟨y,m,q⟩:=uM (F:=IsC w) .bool t _ _ g rfl f h;unfold fitT at f;split at f
  ·rename_i z;obtain⟨n,rfl⟩:=okWide_bool z hv;exact⟨y,by rw[gT (by simp[isSt])];simpa [Value.cells]using m,q⟩
  ·cases f
 | str =>
  obtain⟨y,m,q⟩:=uM (F:=IsC w) .str t _ _ g rfl f h;unfold fitT at f;split at f
  ·rename_i z;obtain⟨n,rfl⟩:=okWide_string z hv;exact⟨y,by rw[gT (by simp[isSt])];simpa [Value.cells]using m,q⟩
  ·cases f
 | unit=>simp[fitT]at f
 | nul=>simp[fitT]at f
 | rc c =>
  obtain⟨u,rfl,_⟩:=aeU (P:=P) (t:=t) (by
   intro D;cases c<;>simp[fitT,fitX,fitY,D]at f) hv
  obtain⟨y,m,q⟩:=afw hsp c f g u.toList _ h;exact⟨y,by rw[fa (show isSt (.rc c)=true from rfl)];exact⟨u.toList,ψ,m⟩,q⟩
 | pair a b =>
  obtain⟨u,rfl,G⟩:=aeU (P:=P) (t:=t) (by
   intro D;simp[fitT,D]at f) hv
  obtain⟨y,m,q⟩:=aer hsp (.pair a b) t u.toList _ g ht f G h;exact⟨y,by rw[fa (show isSt (.pair a b)=true from rfl)];exact⟨u.toList,ψ,m⟩,q⟩
 | sl e =>
  unfold fitT at f;split at f
  ·rename_i J z;simp only[zm,beq_iff_eq]at f;obtain⟨m,q,h3⟩:=f;obtain⟨a,len,cap,rfl⟩:=okWide_slice z hv;rcases DataW.trod_slice z h with⟨hc,_⟩ | ⟨a',len',cap',elems,rest,n,_,hc,_,_,hle,hcm,hel,hread,_⟩
   ·simp only[Value.cells,n6.injEq,Value.slice.injEq,and_true]at hc;obtain⟨rfl,rfl,rfl⟩:=hc;exact⟨[],by rw[gT (by simp[isSt])];exact⟨_,rfl,.inl ⟨rfl,none,rfl⟩⟩,by simp[Bnd]⟩
   ·simp only[Value.cells,n6.injEq,Value.slice.injEq,and_true]at hc;obtain⟨rfl,rfl,rfl⟩:=hc;have B:w.has P .any A a' J cap:=by
     unfold Value.okWide Cell.okWide Cell.ok at hv;rw[z]at hv;exact hv.2.2
    obtain⟨_,r,U,cells,I,_⟩:=B;obtain⟨b,o,s⟩:=a';simp only at r;subst r;have C:IsC w b:=acf I;obtain⟨l,hl,M⟩:=aa1 (α:=e.α) (R:=fun i y=>(∃ ds:List Value,DR (IsC w) w e y ds∧∀ (j:Nat) (d:Value),ds[j]? = some d→w.cell? ⟨b,o+(i*e.n+j),none⟩=some d)∧Bnd e y) len fun i E=>by
     have L:=hread i E;rw[zP ω,vB]at L;obtain⟨u,c1,c2⟩:=L;obtain⟨y,O,Q⟩:=uM (F:=IsC w) e J u _ n q m c2;refine⟨y,⟨u,O,fun j V K=>?_⟩,Q⟩;obtain⟨_,Y,S⟩:=World.cells?_some c1;have W:j < u.length:=(y6.1 K).1;have:=S j ω;rw[wU,wU,h3]at this;rw[←xo,this];exact K
    refine⟨l,?_,?_,?_⟩
    ·rw[gT (by simp[isSt])];refine⟨_,rfl,.inr ⟨b,o,cap,by rw[hl],fun _=>C,ω,fun i x hx=>(M i x hx).1⟩⟩
    ·rw[hl];simp only[maxLen]at hcm;omega
    ·intro y hy;obtain⟨i,E,N⟩:=pS.1 hy;exact(M i y (by rw[zP E,N])).2
  ·cases f
def fitAll(P:Program):List Ty→List TypeId→Bool
 | [],[]=>true
 | T::Ts,t::ts=>(topOK T&&fitT P T t)&&fitAll P Ts ts
 | _,_=>false
theorem zy:∀ {Ts:List Ty} {ts:List TypeId} {vs:List Value} {ds:List (DataW H)} {p:List MemPlace} {c:Nat},fitAll P Ts ts=true→(∀ (j:Nat) t v,ts[j]? = some t→vs[j]? = some v→Value.okWide P w .any c t v)→
  DataW.TrodAll enc P w 0 sp held ts vs ds p→∃ x:Tys Ts,ArgsR (IsC w) w Ts x vs∧Bnds Ts x
 | [],[],vs,ds,p,c,_,_,h=>by
  cases vs with
  | nil=>exact⟨(),rfl,trivial⟩
  | cons _ _=>cases ds<;>exact absurd h (by simp[DataW.TrodAll])
 | [],_::_,vs,ds,p,c,hf,_,h=>by simp[fitAll]at hf
 | _::_,[],vs,ds,p,c,hf,_,h=>by simp[fitAll]at hf
 | T::Ts,t::ts,vs,ds,p,c,hf,hv,h=>by
  simp only[fitAll,zm]at hf;cases vs with
  | nil=>cases ds<;>exact absurd h (by simp[DataW.TrodAll])
  | cons v vs =>
   cases ds with
   | nil=>exact absurd h (by simp[DataW.TrodAll])
   | cons d ds =>
    obtain⟨p1,p2,e,f,_⟩:=h;obtain⟨y,g,i⟩:=adt hsp hf.1.1 hf.1.2 (hv 0 t v rfl rfl) e;obtain⟨x,k,l⟩:=zy hf.2 (fun j m n a b=>hv (j+1) m n (by simpa using a) (by simpa using b)) f;exact⟨(y,x),⟨v,vs,rfl,g,k⟩,i,l⟩
end
def zB{W c:World}(hl:laidOutB P=true)(hb:Below W.heap.size W c):∀ {ts:List TypeId} {vs:List Value} {ds:List (DataW H)} {p:List MemPlace},(ts.all fun t=>P.readableRec t&&decide (t < P.types.size))=true→
  DataW.TrodAll enc P W 0 (fun _=>true) true ts vs ds p→DataW.TrodAll enc P c 0 (fun b=>decide (b < W.heap.size)) true ts vs ds p
 | [],vs,ds,p,_,h=>by cases vs<;>cases ds<;>simp_all [DataW.TrodAll]
 | t::ts,vs,ds,p,ha,h=>by
  cases vs with
  | nil=>cases ds<;>exact absurd h (by simp[DataW.TrodAll])
  | cons v vs =>
   cases ds with
   | nil=>exact absurd h (by simp[DataW.TrodAll])
   | cons d ds =>
    simp only[List.all_cons,zm,decide_eq_true_eq]at ha;obtain⟨p1,p2,e,f,rfl⟩:=h;have a:∀ x∈p1,x.block < W.heap.size:=by
     obtain⟨m,g⟩:=e;exact DataW.trod_lt m _ _ _ g
    exact⟨p1,p2,Below.trod hl ha.1.1 ha.1.2 e hb a,zB hl hb ha.2 f,rfl⟩
def aeb{ts:List TypeId}:∀ {vs:List Value} {ds:List (DataW H)} {p:List MemPlace},DataW.TrodAll enc P w 0 sp held ts vs ds p→ds.length=ts.length:=by
 induction ts with
 | nil=>intro vs ds p h;cases vs<;>cases ds<;>simp_all [DataW.TrodAll]
 | cons t ts b =>
  intro vs ds p h;cases vs with
  | nil=>cases ds<;>exact absurd h (by simp[DataW.TrodAll])
  | cons v vs =>
   cases ds with
   | nil=>exact absurd h (by simp[DataW.TrodAll])
   | cons d ds=>obtain⟨_,_,_,a,_⟩:=h;simp[b a]
end
def GTabs(W:World):Prop:=∀ (g j:Nat) (v:Int),(gtab g)[j]? = some v→W.cell? ⟨g,j,none⟩=some (.int .i64 v)
def ag4{w:World}{g j:Nat}{v:Value}(h:w.cell? ⟨g,j,none⟩=some v):IsC w g:=by
 unfold World.cell? at h;unfold IsC;cases hb:w.heap[g]? with
 | none=>rw[hb]at h;cases h
 | some o=>cases o<;>rw[hb]at h<;>simp_all
def abX{laid:List (String×DataW Unit)}{W:World}(q:(laid.all fun x=>x.2.handleName?.isNone)=true){t e:TypeId}{rest:List (String×DataW Unit)}
  (l:Proofs.Tryz.prog.globalNamed "surveyor/expr.operands" = some gtN) (f:(Proofs.Tryz.prog.globals[gtN]?).map (·.type)=some t) (ht:Proofs.Tryz.prog.underlying t=some (.array 8 e)) (n:Proofs.Tryz.prog.underlying e=some (.int .i64))
  (b:Proofs.Tryz.prog.cellsOf e=1) (d:Proofs.Tryz.prog.cellsOf t=8)
  (p:(laid.filter fun x=>x.1 == "surveyor/expr.operands")=("surveyor/expr.operands",Lib.tabData .i64 [0,0,1,2,2,2,2,2])::rest)
  (h:laidMetH y5 laid W):GTabs W:=by
 rw[MakeChecks.laidMetH_plain _ _ _ q]at h
 have i:=laidMet.filter (fun x=>x.1 == "surveyor/expr.operands") h
 rw[p]at i;have k:=Lib.tabIs_of_head l f ht n b d i;intro g j v hv;unfold gtab at hv;cases a:(g==gtN&&Nat.blt gtN 1000000000)with
 | false=>rw[a]at hv;simp at hv
 | true =>
  rw[a,cond_true]at hv;simp only[zm,beq_iff_eq]at a;obtain⟨rfl,_⟩:=a;unfold Lib.TabIs World.var? at k;rw[l]at k;simp only[wT]at k;unfold World.cell?;cases hb:W.heap[gtN]? with
  | none=>rw[hb]at k;cases k
  | some o =>
   rw[hb]at k;cases o with
   | cells c u z =>
    have m:=y8.inj k;simp only[Option.isSome_none,ze,if_false];rw[m,List.getElem?_toArray,yz,hv];rfl
   | _=>cases k
section
variable {H:Type}{enc:TypeId×Value→H}
def ag5{L:World→Prop}(hl:laidOutB y5=true){n:FuncId}{fn:Func}{s:ChangeSpec}{Ts:List Ty}{f:Nat→Tys Ts→Option (Bool×Unit)}(Q:∀ lf,EntryOK y5 TabG n ⟨Ts,[.bool],f lf⟩)
  (S:fitAll y5 Ts fn.params.toList=true) (F:(fn.params.toList.all fun t=>Proofs.Tryz.prog.readableRec t&&decide (t < Proofs.Tryz.prog.types.size))=true)
  {rt:TypeId} (G:fn.resultTypes=#[rt]) (I:Proofs.Tryz.prog.underlying rt=some .bool) (z:s.vars=[])
  (hs:∀ ds:List (DataW H),ds.length=fn.params.toList.length→s.fn H ds={ results:=[.lit (.bool true)],args:=ds })
  (w:∀ x:Tys Ts,Bnds Ts x→∃ lf,f lf x=some (true,()))
  (y:∀ W:World,L W→GTabs W)
  {W:World} {m:Nat} {args:Array Value} {ds O:List (DataW H)} {l:List MemPlace} {c o d:Bool}
  (A:∀ (j:Nat) t v,fn.params[j]? = some t→args[j]? = some v→Value.okWide y5 W .any m t v)
  (N:DataW.Whole enc y5 fn.params.toList s.vars c W args.toList ds O l) (R:TabG W) (K:L W) :
  Calls y5 n args W fun e W'=>∃ v,e=.returned v∧s.post enc y5 fn c o d false W args v W':=by
 have D:=N;obtain⟨p,q,C,M,rfl,_,_⟩:=N;rw[z]at M;obtain⟨rfl,rfl⟩:=trodVars_none M;have J:∀ (j:Nat) (t:TypeId) (v:Value),fn.params.toList[j]? = some t→args.toList[j]? = some v→Value.okWide y5 W .any m t v:=by
  intro j t v a b;rw[Array.getElem?_toList]at a b;exact A j t v a b
 obtain⟨x,X,Y⟩:=zy (fun _=>rfl) S J C;obtain⟨lf,E⟩:=w x Y;have k:=aeb C;have h:=Q lf x (true,()) E (IsC W) W args.toList R ⟨fun i T=>T,fun g j v hv=>⟨ag4 (y W K g j v hv),y W K g j v hv⟩⟩ X;rw[Array.toArray_toList]at h;refine h.mono ?_;rintro e W' ⟨v,rfl,hb,U⟩;obtain⟨vs,⟨u,r,rfl,B,P⟩,rfl⟩:=U;obtain rfl:r=[]:=P;have V:u=.bool true:=by
  unfold ValR at B;rw[gT (by simp[isSt])]at B;simpa [DR]using B
 subst V;refine⟨_,rfl,ds,[],p++[],[],p,[],D,?_,?_,?_,hb.frame _,fun h=>by cases h⟩
 ·rw[tc,hs ds k,G];exact trodAll_mk1 (shut_bool I true)
 ·rw[tc,hs ds k];exact zB hl hb F C
 ·rw[tc,hs ds k,z];rfl
end
def adm{laid:List (String×DataW Unit)}{W:World}(k:(laid.all fun x=>x.2.handleName?.isNone)=true){g:Nat}{t e:TypeId}{n:Nat}{rest:List (String×DataW Unit)}
  (i:Proofs.Tryz.prog.globalNamed "internal/strconv.uint64pow10" = some g) (c:(Proofs.Tryz.prog.globals[g]?).map (·.type)=some t) (ht:Proofs.Tryz.prog.underlying t=some (.array n e)) (f:Proofs.Tryz.prog.underlying e=some (.int .u64))
  (a:Proofs.Tryz.prog.cellsOf e=1) (b:Proofs.Tryz.prog.cellsOf t=n)
  (j:(laid.filter fun x=>x.1 == "internal/strconv.uint64pow10")=("internal/strconv.uint64pow10",Lib.tabData .u64 Lib.pow10Tab)::rest)
  (h:laidMetH y5 laid W):TabG W:=by
 rw[MakeChecks.laidMetH_plain _ _ _ k]at h
 have d:=laidMet.filter (fun x=>x.1 == "internal/strconv.uint64pow10") h
 rw[j]at d;exact Lib.tabIs_of_head i c ht f a b d
def ain{P:Program}{c:OpenClaim}(h:P.funcs.any Func.goes=false)(hs:c.start=.entering):false=c.goesBy P:=by
 have key:∀ (g:Nat) (a:Func),P.funcs[g]? = some a→a.goes=false:=by
  intro g a b;have:=Array.any_eq_false.1 h;obtain⟨d,e⟩:=Array.getElem?_eq_some_iff.1 b;have:=this g d;rw[e]at this;simpa using this
 have i:∀ g:Nat,(P.funcs[g]?).any Func.goes=false:=by
  intro g;cases b:P.funcs[g]? with
  | none=>rfl
  | some a=>simp[key g a b]
 unfold OpenClaim.goesBy Program.goesAt Program.goesFrom;rw[hs];have j:∀ f,P.goes f=false:=by
  intro f;unfold Program.goes;rw[h,Bool.and_false,Bool.or_false];simp only[i];simp
 cases P.funcNamed c.func with
 | none=>rfl
 | some f=>simp[j]
open Go Go.N
def Pure.EnvTests(x:Tys (iY.E 0).ps)(h:Bnds (iY.E 0).ps x):∃ lf,iY.f lf x.1 x.2.1 x.2.2.1=some (true,()):=by
 obtain⟨l,op,⟨a,b,⟨⟩⟩,⟨⟩⟩:=x;clear h;obtain⟨lf,hx⟩:=bigX;have hb:=hx.big;have e:1000≤lf:=by have:=hb.1;omega
 refine⟨lf,?_⟩;obtain⟨p,p1,p2⟩:=aku lf hb l;obtain⟨q,g,i⟩:=ai9 lf ω a;obtain⟨r,r1,r2⟩:=ai9 lf ω b;rw[iY.f];simp only[EX.eta,p1,g,r1,fe,awakeX e];cases p with
 | false=>simp only[zg,Go.N.fg]
 | true =>
  simp only[zj,Go.N.ff];cases q with
  | false=>simp only[zg,Go.N.fg]
  | true =>
   simp only[zj,Go.N.ff];cases r with
   | false=>simp only[zg,Go.N.fg]
   | true =>
    obtain⟨c,d⟩:=p2 rfl;obtain⟨t,t1,t2,t3⟩:=agr lf hx d c (i rfl) (r2 rfl) op;simp only[zj,Go.N.ff,t1,t2,aj7 lf hb _ t3,fe,BEq.rfl,Go.N.fg]
end Go.Q
