import Derived.Test.YtkoahpnmchgliaaGreatDoorETG10
import Derived.Test.YtkoahpnmchgliaaGreatDoorETN1
set_option linter.all false
open Bool renaming false_eq_true→ze,not_false→zg,not_true→zj,and_eq_true→zm,true_and→tj,false_and→nt
open Go.Lib renaming itoa→z7
open Int renaming gcd→z8,le_of_lt→zR,mul_nonneg→yf,fmod_lt_of_pos→yW,fmod_nonneg_of_pos→xd,le_refl→xp,mul_le_mul_of_nonneg_left→xF,mul_fdiv_add_fmod→wh,mul_comm→wk,mul_le_mul_of_nonneg_right→wA,mul_add→vL,ediv_nonneg→vR,mul_zero→uc,mul_sub→uC,neg_mul→tQ,le_trans→tU,fmod_eq_emod_of_nonneg→sB,mul_le_mul→sM,natCast_mul→sP,mul_neg→rh,gcd_zero_right→rj,gcd_dvd_left→qu,ediv_le_self→pf,emod_eq_of_lt→pg,natAbs_mul→pA,fdiv_eq_ediv_of_nonneg→pB,one_mul→oc,sub_mul→om,dvd_sub→oo,gcd_dvd_right→ot,mul_assoc→nA,mul_pos→m7,add_mul→m9,mul_one→mi,ofNat_lt→mR,lt_trans→mT,zero_sub→mU,zero_mul→lh,gcd_natCast_natCast→lz,gcd_pos_of_ne_zero_left→lA,dvd_trans→lB,eq_ofNat_of_zero_le→ko,dvd_mul_left→jz,natAbs_of_nonneg→jN,mul_ediv_assoc→i6,dvd_neg→i7,dvd_refl→i8,zero_dvd→ia,gcd_zero_left→gH,emod_eq_zero_of_dvd→gL,dvd_mul_right→gM,natCast_nonneg→gN,mul_ediv_cancel'→gO
open List renaming mem_cons→ww,length_pos_iff→vj,range'→uB,foldl_cons→tf,mem_singleton→sj,range'_succ→mE
open Nat renaming exists_eq_succ_of_ne_zero→zv,zero_ne_one→ri,pow_succ→q7,pow_le_pow_right→q9,one_ne_zero→qq,pow_add→jx
open Option renaming map→xf,map_some→wj,bind_some→wT,bind→ow,map_none→mw,bind_none→gF
namespace Go.N
open Go Go.Q Go.Rx
def valX:X→Int
 | .fin z=>z
 | _=>0
def cmpS(op:Int)(s t:Sp):Sp×Sp :=
 if op=2 then(common s t,common s t)else if op=4 then(⟨s.lo,xmin s.hi (xsh t.hi (-1))⟩,⟨xmax t.lo (xsh s.lo 1),t.hi⟩)
 else if op=5 then(⟨s.lo,xmin s.hi (xsh t.hi 0)⟩,⟨xmax t.lo (xsh s.lo 0),t.hi⟩)
 else(if single t=true then without s (valX t.lo)else s,if single s=true then without t (valX s.lo)else t)
def E0:A:=⟨true,none,none⟩
def refA(op:Int)(a b:A):A×A :=
 if(emp (ofA a)||emp (ofA b))=true then(E0,E0)else if(emp (cmpS op (ofA a) (ofA b)).1||emp (cmpS op (ofA a) (ofA b)).2)=true then(E0,E0)
 else(toA (cmpS op (ofA a) (ofA b)).1,toA (cmpS op (ofA a) (ofA b)).2)
def ug:toA non=E0:=by unfold toA;rw[fa iM];rfl
def xu{s:Sp}(h:single s=true):s.lo=.fin (valX s.lo):=by
 obtain⟨lo,a⟩:=s;cases lo<;>cases a<;>simp[single,valX]at *
def abQ{s:Sp}(hs:oks C s)(v:Int):oks K (without s v):=by
 have a:=fD;unfold without;constructor
 ·simp only;split
  ·exact wR hs.1 ω ω
  ·exact hs.1.mono ω
 ·simp only;split
  ·exact wR hs.2 ω ω
  ·exact hs.2.mono ω
def ae2{s t:Sp}(hs:oks C s)(ht:oks C t)(op:Int):oks K (cmpS op s t).1∧oks K (cmpS op s t).2:=by
 have c:=fD;have a:=hs.mono (zR c);have b:=ht.mono (zR c);unfold cmpS;split
 ·exact⟨uw a b,uw a b⟩
 ·split
  ·exact⟨⟨a.1,wK a.2 (wR ht.2 ω ω)⟩,⟨xZ b.1 (wR hs.1 ω ω),b.2⟩⟩
  ·split
   ·exact⟨⟨a.1,wK a.2 (wR ht.2 ω ω)⟩,⟨xZ b.1 (wR hs.1 ω ω),b.2⟩⟩
   ·constructor
    ·simp only;split
     ·exact abQ hs _
     ·exact a
    ·simp only;split
     ·exact abQ ht _
     ·exact b
def ajx(lf:Nat)(h3:200000≤lf){s t:Sp}(hs:oks C s)(ht:oks C t):iW.f lf (sc s) (sc t)=some (sc (cmpS 3 s t).1,sc (cmpS 3 s t).2,()):=by
 rw[iW.f,abK,fe,abK];have a:single t=true→(sc t).1.2.1=bs (z7 (valX t.lo)):=fun h=>by
  have:=xu h;simp only[sc];rw[this];rfl
 have b:single s=true→(sc s).1.2.1=bs (z7 (valX s.lo)):=fun h=>by
  have:=xu h;simp only[sc];rw[this];rfl
 have d:cmpS 3 s t=(if single t=true then without s (valX t.lo)else s,if single s=true then without t (valX s.lo)else t):=rfl;rw[d];cases c:single t<;>cases e:single s
 ·simp[ff,fe]
 ·simp[ff,fg,fe,b e,zo lf h3 ht]
 ·simp[ff,fg,fe,a c,zo lf h3 hs]
 ·simp[ff,fg,fe,a c,b e,zo lf h3 hs,zo lf h3 ht]
def ahz(lf:Nat)(h3:200000≤lf){a b:A}(ha:Wf a)(hb:Wf b)(op:Int)(k:op=2∨op=3∨op=4∨op=5):
  qj.f lf op (ac a) (ac b)=some (ac (refA op a b).1,ac (refA op a b).2,0,()):=by
 have u:=fD;have t:=C_gt;have hc:=ae2 ha.okC hb.okC op;have i:=jr lf h3 (s:=non) jJ;rw[ug]at i;have j:=acT lf h3 (z:=1) ω;have g0:=acT lf h3 (z:=0) ω;have c:=kD lf h3 hc.1;have e:=kD lf h3 hc.2;have g:=jr lf h3 hc.1;have h:=jr lf h3 hc.2;have n:=uH lf h3 (x:=(ofA b).hi) hb.okC.2 (d:= -1) ω ω;have o:=uH lf h3 (x:=(ofA a).lo) ha.okC.1 (d:=1) ω ω;have p:=uH lf h3 (x:=(ofA b).hi) hb.okC.2 (d:=0) ω ω;have q:=uH lf h3 (x:=(ofA a).lo) ha.okC.1 (d:=0) ω ω;have p1:=aac lf h3 ha.okK.2 (wR (d:= -1) hb.okC.2 ω ω);have p2:=ac4 lf h3 hb.okK.1 (wR (d:=1) ha.okC.1 ω ω);have l:=aac lf h3 ha.okK.2 (wR (d:=0) hb.okC.2 ω ω);have m:=ac4 lf h3 hb.okK.1 (wR (d:=0) ha.okC.1 ω ω);have r: -(0:Int)=0:=ω;rw[qj.f];unfold refA;rcases k with rfl | rfl | rfl | rfl
 ·have d:cmpS 2 (ofA a) (ofA b)=(common (ofA a) (ofA b),common (ofA a) (ofA b)):=rfl;rw[d]at c e g h⊢;rw[show((2:Int)==2)=true from rfl,fg];simp only[jy lf h3 ha,jy lf h3 hb,fe,bne_self_eq_false,ff,of_f,kD lf h3 ha.okK,kD lf h3 hb.okK,vX,i,jP.f,abl lf h3 ha.okK hb.okK,c,e,g,h];cases emp (ofA a)<;>cases emp (ofA b)<;>cases emp (common (ofA a) (ofA b))<;>simp[fg,ff]
 ·have d:=ajx lf h3 ha.okC hb.okC;rw[show((3:Int)==2)=false from rfl,ff,show((3:Int)==4)=false from rfl,ff,show((3:Int)==5)=false from rfl,ff,show((3:Int)==3)=true from rfl,fg];simp only[jy lf h3 ha,jy lf h3 hb,fe,bne_self_eq_false,ff,of_f,kD lf h3 ha.okK,kD lf h3 hb.okK,vX,i,d,c,e,g,h];cases emp (ofA a)<;>cases emp (ofA b)<;>cases emp (cmpS 3 (ofA a) (ofA b)).1<;>cases emp (cmpS 3 (ofA a) (ofA b)).2<;>simp[fg,ff]
 ·have d:cmpS 4 (ofA a) (ofA b)=(⟨(ofA a).lo,xmin (ofA a).hi (xsh (ofA b).hi (-1))⟩,⟨xmax (ofA b).lo (xsh (ofA a).lo 1),(ofA b).hi⟩):=rfl;rw[d]at c e g h⊢;simp only[sc]at c e g h;rw[show((4:Int)==2)=false from rfl,ff,show((4:Int)==4)=true from rfl,fg];simp only[jy lf h3 ha,jy lf h3 hb,fe,bne_self_eq_false,ff,of_f,kD lf h3 ha.okK,kD lf h3 hb.okK,vX,i,i1,j];simp only[sc,n,o,fe,p1,p2,c,e,g,h];cases emp (ofA a)<;>cases emp (ofA b)<;>cases emp (⟨(ofA a).lo,xmin (ofA a).hi (xsh (ofA b).hi (-1))⟩:Sp)<;>cases emp (⟨xmax (ofA b).lo (xsh (ofA a).lo 1),(ofA b).hi⟩:Sp)<;>simp[fg,ff]
 ·have d:cmpS 5 (ofA a) (ofA b)=(⟨(ofA a).lo,xmin (ofA a).hi (xsh (ofA b).hi 0)⟩,⟨xmax (ofA b).lo (xsh (ofA a).lo 0),(ofA b).hi⟩):=rfl;rw[d]at c e g h⊢;simp only[sc]at c e g h;rw[show((5:Int)==2)=false from rfl,ff,show((5:Int)==4)=false from rfl,ff,show((5:Int)==5)=true from rfl,fg];simp only[jy lf h3 ha,jy lf h3 hb,fe,bne_self_eq_false,ff,of_f,kD lf h3 ha.okK,kD lf h3 hb.okK,vX,i,i0,g0,r];simp only[sc,p,q,fe,l,m,c,e,g,h];cases emp (ofA a)<;>cases emp (ofA b)<;>cases emp (⟨(ofA a).lo,xmin (ofA a).hi (xsh (ofA b).hi 0)⟩:Sp)<;>cases emp (⟨xmax (ofA b).lo (xsh (ofA a).lo 0),(ofA b).hi⟩:Sp)<;>simp[fg,ff]
def af5{s:Sp}{z:Int}(h:inS s z=true):emp s=false:=by
 unfold inS at h;simp only[zm,decide_eq_true_eq]at h;exact gP ω
def aij{a b:A}(ha:Wf a)(hb:Wf b){op:Int}(z:op=2∨op=3∨op=4∨op=5)(t:emp (ofA a)=false)(u:emp (ofA b)=false):Wf (toA (cmpS op (ofA a) (ofA b)).1)∧Wf (toA (cmpS op (ofA a) (ofA b)).2):=by
 have B:=K_gt;have w:=K_C;have o:=ha.ks;have p:=hb.ks;rw[←jV ha]at o;rw[←jV hb]at p;have q:=o.e2 t;have kb:=p.e2 u;have hc:=ae2 ha.okC hb.okC op;have i:∀ {x:X} {d:Int},okx C x→x≠.pi→xsh x d≠.pi:=fun {x d} _ h e=>by cases x<;>simp[xsh]at e h
 have g:∀ {x:X} {d:Int},okx C x→x≠.ni→xsh x d≠.ni:=fun {x d} _ h e=>by cases x<;>simp[xsh]at e h
 have c:=abC q.2.1;have j:=abz q.2.2;have l:=abC kb.2.1;have f:=abz kb.2.2;have n:∀ {x y:X},x≠.pi→y≠.pi→xmax x y≠.pi:=fun {x y} h k=>by unfold xmax;split<;>assumption
 have m:∀ {x y:X},x≠.ni→y≠.ni→xmin x y≠.ni:=fun {x y} h k=>by unfold xmin;split<;>assumption
 have r:∀ {s:Sp} {v:Int},oks C s→s.lo≠.pi→s.hi≠.ni→(without s v).lo≠.pi∧(without s v).hi≠.ni:=by
  intro s v hs p1 p2;unfold without;constructor
  ·simp only;split
   ·exact i hs.1 p1
   ·exact p1
  ·simp only;split
   ·exact g hs.2 p2
   ·exact p2
 rcases z with rfl | rfl | rfl | rfl
 ·exact⟨nT hc.1 (.inr ⟨n c l,m j f⟩),nT hc.2 (.inr ⟨n c l,m j f⟩)⟩
 ·refine⟨nT hc.1 (.inr ?_),nT hc.2 (.inr ?_)⟩
  ·have d:(cmpS 3 (ofA a) (ofA b)).1=(if single (ofA b)=true then without (ofA a) (valX (ofA b).lo)else ofA a):=rfl;rw[d];split
   ·exact r ha.okC c j
   ·exact⟨c,j⟩
  ·have d:(cmpS 3 (ofA a) (ofA b)).2=(if single (ofA a)=true then without (ofA b) (valX (ofA a).lo)else ofA b):=rfl;rw[d];split
   ·exact r hb.okC l f
   ·exact⟨l,f⟩
 ·exact⟨nT hc.1 (.inr ⟨c,m j (g hb.okC.2 f)⟩),nT hc.2 (.inr ⟨n l (i ha.okC.1 c),f⟩)⟩
 ·exact⟨nT hc.1 (.inr ⟨c,m j (g hb.okC.2 f)⟩),nT hc.2 (.inr ⟨n l (i ha.okC.1 c),f⟩)⟩
def aec:Wf E0:=⟨fun _=>⟨rfl,rfl⟩,trivial,trivial,trivial⟩
def ac8{a b:A}(ha:Wf a)(hb:Wf b){op:Int}(e:op=2∨op=3∨op=4∨op=5):Wf (refA op a b).1∧Wf (refA op a b).2:=by
 unfold refA;cases c:emp (ofA a)<;>cases d:emp (ofA b)<;>simp only[Bool.or_true,Bool.true_or,if_true,Bool.or_self,ze,if_false]
 ·split
  ·exact⟨aec,aec⟩
  ·exact aij ha hb e c d
 all_goals exact⟨aec,aec⟩
open Go.IntKind (i64)
set_option exponentiation.threshold 5000
def CC_K:C*C+C+C+10 < K:=by
 have a:C*C=((10 ^ 200:Nat):Int):=by
  unfold C;rw[←sP,←jx]
 have b:((10 ^ 200:Nat):Int)*10≤K:=by
  unfold K;have:(10:Nat) ^ 200*10≤10 ^ 4096:=by rw[←q7];exact q9 ω ω
  have h:(((10 ^ 200*10:Nat):Int))≤((10 ^ 4096:Nat):Int):=Int.ofNat_le.2 this;rw[sP]at h;exact h
 have h3:=C_gt;have c:C*1000000≤C*C:=xF ω ω;omega
@[irreducible] def Dd : Int := ((10 ^ 1000 : Nat) : Int)
def kW:C < Dd:=by
 unfold C Dd;have:(10:Nat) ^ 100 < 10 ^ 1000:=Nat.pow_lt_pow_right ω ω;exact mR.2 this
def DD_K:Dd*Dd+Dd+Dd+10 < K:=by
 have a:Dd*Dd=((10 ^ 2000:Nat):Int):=by
  unfold Dd;rw[←sP,←jx]
 have b:((10 ^ 2000:Nat):Int)*10≤K:=by
  unfold K;have:(10:Nat) ^ 2000*10≤10 ^ 4096:=by rw[←q7];exact q9 ω ω
  have h:(((10 ^ 2000*10:Nat):Int))≤((10 ^ 4096:Nat):Int):=Int.ofNat_le.2 this;rw[sP]at h;exact h
 have h3:=C_gt;have d:=kW;have c:Dd*1000000≤Dd*Dd:=xF ω ω;omega
def Dd_K:Dd < K:=by
 have h:=DD_K;have h3:=C_gt;have b:=kW;have a:0≤Dd*Dd:=yf ω ω;omega
def ahe{a b:Int}(ha: -Dd < a∧a < Dd)(hb: -Dd < b∧b < Dd): -(Dd*Dd) < a*b∧a*b < Dd*Dd:=by
 have f:=C_gt;have g:=kW;have c:(a*b).natAbs=a.natAbs*b.natAbs:=pA a b;have d:((a*b).natAbs:Int)=(a.natAbs:Int)*(b.natAbs:Int):=by rw[c,sP]
 have h3:(a.natAbs:Int)*(b.natAbs:Int)≤(Dd-1)*(Dd-1):=sM ω ω ω ω;have e:(Dd-1)*(Dd-1)=Dd*Dd-Dd-Dd+1:=by grind
 omega
def rY{a b:Int}(ha: -C < a∧a < C)(hb: -C < b∧b < C): -(C*C) < a*b∧a*b < C*C:=by
 have f:=C_gt;have c:(a*b).natAbs=a.natAbs*b.natAbs:=pA a b;have d:((a*b).natAbs:Int)=(a.natAbs:Int)*(b.natAbs:Int):=by rw[c,sP]
 have h3:(a.natAbs:Int)*(b.natAbs:Int)≤(C-1)*(C-1):=sM ω ω ω ω;have e:(C-1)*(C-1)=C*C-C-C+1:=by grind
 omega
def aja(lf:Nat)(i:Int):bT.f lf i=some ((i,bs [],()),()):=rfl
def sO(lf:Nat){e v:Int}(h:e=v):(bd (bT.f lf e) fun r=>some (r.1,()))=some (((v,bs [],()):EB),()):=by subst h;rw[aja,fe]
def uo(lf:Nat)(z:Int):aZ.f lf (bs (z7 z))=some (xc (.fin z),()):=rfl
def chkK{z:Int}(h: -K < z∧z < K):chk (z7 z)=0:=(qg z).2 h
def aez(lf:Nat)(h3:200000≤lf){x y:Int}(a: -K < x∧x < K)(b: -K < y∧y < K)(hs: -K < x+y∧x+y < K):kQ.f lf (bs (z7 x)) (bs (z7 y))=some (bs (z7 (x+y)),()):=by
 rw[kQ.f,yK lf h3 a b hs,fe]
def xadd:X→X→X
 | .fin a,.fin b=>.fin (a+b)
 | .fin _,y=>y
 | x,_=>x
def adA(lf:Nat)(h3:200000≤lf){x y:X}(c:okx C x)(d:okx C y)(h:¬(x=.ni∧y=.pi)∧¬(x=.pi∧y=.ni)):nG.f lf (xc x) (xc y)=some (xc (xadd x y),()):=by
 have i:=CC_K;have g:=C_gt;have e:0≤C*C:=yf ω ω;rw[nG.f];cases x with
 | fin a=>cases y with
  | fin b =>
   simp only[okx]at c d;simp only[xc,bne_self_eq_false,ff];rw[aez lf h3 ω ω ω,fe,uo,fe];rfl
  | ni=>exact(ff _ _).trans ((fg _ _).trans (sO lf rfl))
  | pi=>exact(ff _ _).trans ((fg _ _).trans (sO lf rfl))
 | ni=>cases y with
  | pi=>exact absurd ⟨rfl,rfl⟩ h.1
  | ni=>exact(fg _ _).trans (sO lf rfl)
  | fin b=>exact(fg _ _).trans (sO lf rfl)
 | pi=>cases y with
  | ni=>exact absurd ⟨rfl,rfl⟩ h.2
  | pi=>exact(fg _ _).trans (sO lf rfl)
  | fin b=>exact(fg _ _).trans (sO lf rfl)
def Pr(s:Sp):Prop:=emp s=true∨(s.lo≠.pi∧s.hi≠.ni)
def Wf.pr{a:A}(h:Wf a):Pr (ofA a):=by
 unfold Pr ofA;cases b:a.em with
 | true=>left;rw[fa rfl];exact iM
 | false =>
  right;rw[gT ψ];constructor
  ·cases a.lo<;>simp[lox]
  ·cases a.hi<;>simp[hix]
def mO(x:X):key (xneg x)= -key x:=by cases x<;>simp[key,xneg]
def oU{s:Sp}:emp (turn s)=emp s:=by
 unfold turn;cases h:emp s with
 | true=>rw[fa rfl];exact iM
 | false =>
  rw[gT ψ];unfold emp at h⊢;rw[mO,mO];rw[decide_eq_false_iff_not]at h⊢;omega
def Pr.turn{s:Sp}(h:Pr s):Pr (turn s):=by
 unfold Pr;rw[oU];rcases h with h | h
 ·exact .inl h
 ·by_cases he:emp s=true
  ·exact .inl he
  ·right;unfold Go.N.turn;rw[gT he];obtain⟨b,a⟩:=s;cases b<;>cases a<;>simp_all [xneg]
def addS(s t:Sp):Sp:=if emp s=true then non else if emp t=true then non else⟨xadd s.lo t.lo,xadd s.hi t.hi⟩
def afW{x y:X}(d:okx C x)(e:okx C y):okx K (xadd x y):=by
 have c:=CC_K;have b:=C_gt;have a:0≤C*C:=yf ω ω;cases x<;>cases y<;>simp only[xadd,okx]at*<;> omega
def aaT{s t:Sp}(hs:oks C s)(ht:oks C t):oks K (addS s t):=by
 unfold addS;split
 ·exact jJ
 ·split
  ·exact jJ
  ·exact⟨afW hs.1 ht.1,afW hs.2 ht.2⟩
def oks.K{s:Sp}(h:oks C s):oks K s:=h.mono (zR fD)
def aeT(lf:Nat)(h3:200000≤lf){s t:Sp}(hs:oks C s)(ht:oks C t)(ps:Pr s)(pt:Pr t):kP.f lf (sc s) (sc t)=some (sc (addS s t),()):=by
 rw[kP.f,kD lf h3 hs.K,fe,kD lf h3 ht.K];unfold addS;cases a:emp s with
 | true=>rw[fg,vX,fe,fa rfl]
 | false =>
  rw[ff,fe,gT ψ];cases b:emp t with
  | true=>rw[fg,vX,fe,fa rfl]
  | false =>
   rw[ff,gT ψ];have p1:=ps.resolve_left (by simp[a]);have p2:=pt.resolve_left (by simp[b]);simp only[sc];rw[adA lf h3 hs.1 ht.1 ⟨fun h=>p2.1 h.2,fun h=>p1.1 h.1⟩,fe,adA lf h3 hs.2 ht.2 ⟨fun h=>p1.2 h.1,fun h=>p2.2 h.2⟩,fe]
def ajJ(lf:Nat)(h3:200000≤lf){a b:A}(ha:Wf a)(hb:Wf b):sQ.f lf (ac a) (ac b)=some (ac (toA (addS (ofA a) (ofA b))),0,()):=by
 rw[sQ.f];simp only[jy lf h3 ha,jy lf h3 hb,fe,bne_self_eq_false,ff,of_f,aeT lf h3 ha.okC hb.okC ha.pr hb.pr,jr lf h3 (aaT ha.okC hb.okC)]
def ajN(lf:Nat)(h3:200000≤lf){a b:A}(ha:Wf a)(hb:Wf b):sW.f lf (ac a) (ac b)=some (ac (toA (addS (ofA a) (turn (ofA b)))),0,()):=by
 rw[sW.f];simp only[jy lf h3 ha,jy lf h3 hb,fe,bne_self_eq_false,ff,of_f,oW.f,vw lf h3 hb.okK,aeT lf h3 ha.okC (gW hb.okC) ha.pr hb.pr.turn,jr lf h3 (aaT ha.okC (gW hb.okC))]
def sg:X→Int
 | .ni=> -1
 | .fin z=>sgn z
 | .pi=>1
def sg_f(lf:Nat)(h3:200000≤lf){x:X}(a:okx K x):jL.f lf (xc x)=some (sg x,()):=by
 rw[jL.f];cases x with
 | ni=>exact(fg _ _).trans rfl
 | pi=>exact(fg _ _).trans rfl
 | fin z =>
  simp only[xc,bne_self_eq_false,ff];rw[show(⟨#[48]⟩:ByteArray)=bs [48] from rfl,yu lf _ _ ((qg z).2 a) aeZ h3,fe,dW,iv48,Int.sub_zero];rfl
def sg3(x:X):sg x= -1∨sg x=0∨sg x=1:=by
 cases x with
 | ni=>exact .inl rfl
 | pi=>exact .inr (.inr rfl)
 | fin z=>simp only[sg,sgn];(repeat' split)<;>omega
def xmul(x y:X):X:=if sg x*sg y=0 then .fin 0 else match x,y with
 | .fin a,.fin b=>.fin (a*b)
 | _,_=>if sg x*sg y=1 then .pi else .ni
def ack(lf:Nat)(h3:200000≤lf){x y:Int}(a: -K < x∧x < K)(b: -K < y∧y < K)(hs: -K < x*y∧x*y < K):lF.f lf (bs (z7 x)) (bs (z7 y))=some (bs (z7 (x*y)),0,()):=by
 have h:=(sz_K (x*y)).2 hs;rw[ajb lf _ _ ((qg x).2 a) ((qg y).2 b) h3,dW,dW,rU,gT ω]
def abd(lf:Nat)(h3:200000≤lf){x y:X}(g:okx C x)(h:okx C y):fU.f lf (xc x) (xc y)=some (xc (xmul x y),()):=by
 have d:=fD;have j:=CC_K;have i:=C_gt;have kx:=g.mono (zR d);have e:=h.mono (zR d);rw[fU.f,sg_f lf h3 kx,fe,sg_f lf h3 e,fe];have a:=sg3 x;have b:=sg3 y;have w:i64.wrap (sg x*sg y)=sg x*sg y:=by
  apply w64<;>rcases a with a | a | a<;>rcases b with b | b | b<;>rw[a,b]<;>decide
 simp only[w];unfold xmul;by_cases c:sg x*sg y=0
 ·rw[c,BEq.rfl,fg,fa rfl,i0,uo,fe]
 ·rw[show(sg x*sg y==0)=false from beq_eq_false_iff_ne.2 c,ff,gT c];have one:sg x*sg y=1∨sg x*sg y= -1:=by
   rcases a with a | a | a<;>rcases b with b | b | b<;>rw[a,b]at c⊢<;>simp at c⊢
  cases x with
  | fin u=>cases y with
   | fin v =>
    have m:=rY g h;simp only[okx]at kx e;simp only[xc,bne_self_eq_false,ff];rw[ack lf h3 kx e ω,fe,uo,fe];rfl
   | ni => 
    refine(ff _ _).trans ((fg _ _).trans ?_);rcases one with o | o
    ·rw[o,fa rfl];exact sO lf rfl
    ·rw[o,gT δ];exact sO lf rfl
   | pi =>
    refine(ff _ _).trans ((fg _ _).trans ?_);rcases one with o | o
    ·rw[o,fa rfl];exact sO lf rfl
    ·rw[o,gT δ];exact sO lf rfl
  | ni =>
   refine(fg _ _).trans ?_;rcases one with o | o
   ·rw[o];cases y<;>exact sO lf rfl
   ·rw[o];cases y<;>exact sO lf rfl
  | pi =>
   refine(fg _ _).trans ?_;rcases one with o | o
   ·rw[o];cases y<;>exact sO lf rfl
   ·rw[o];cases y<;>exact sO lf rfl
def rD{x y:X}(a:okx C x)(b:okx C y):okx K (xmul x y):=by
 have e:=CC_K;have d:=C_gt;have c:0≤C*C:=yf ω ω;unfold xmul;split
 ·simp only[okx];omega
 ·cases x with
  | fin u=>cases y with
   | fin v =>
    have m:=rY a b;simp only[okx];omega
   | ni=>simp only;split<;>trivial
   | pi=>simp only;split<;>trivial
  | ni=>simp only;split<;>trivial
  | pi=>simp only;split<;>trivial
def aed{x y:X}(a:okx Dd x)(b:okx Dd y):okx K (xmul x y):=by
 have f:=DD_K;have d:=C_gt;have e:=kW;have c:0≤Dd*Dd:=yf ω ω;unfold xmul;split
 ·simp only[okx];omega
 ·cases x with
  | fin u=>cases y with
   | fin v =>
    have m:=ahe a b;simp only[okx];omega
   | ni=>simp only;split<;>trivial
   | pi=>simp only;split<;>trivial
  | ni=>simp only;split<;>trivial
  | pi=>simp only;split<;>trivial
def okx.D{x:X}(h:okx C x):okx Dd x:=h.mono (zR kW)
def one(v:X):Sp:=⟨v,v⟩
def apS(o:X→X→X)(s t:Sp):Sp:=if emp s=true then non else if emp t=true then non else
 hull (hull (hull (hull non (one (o s.lo t.lo))) (one (o s.lo t.hi))) (one (o s.hi t.lo))) (one (o s.hi t.hi))
def jB{k:Int}{v:X}(h:okx k v):oks k (one v):=⟨h,h⟩
def agy{o:X→X→X}{s t:Sp}(h:∀ x y,(x=s.lo∨x=s.hi)→(y=t.lo∨y=t.hi)→okx K (o x y)):oks K (apS o s t):=by
 unfold apS;split
 ·exact jJ
 ·split
  ·exact jJ
  ·exact jO (jO (jO (jO jJ (jB (h _ _ (.inl rfl) (.inl rfl)))) (jB (h _ _ (.inl rfl) (.inr rfl)))) (jB (h _ _ (.inr rfl) (.inl rfl)))) (jB (h _ _ (.inr rfl) (.inr rfl)))
def aa2{s t:Sp}(hs:oks C s)(ht:oks C t):oks K (apS xmul s t):=agy fun x y a b=>by
 rcases a with rfl | rfl<;>rcases b with rfl | rfl<;>exact rD (by first | exact hs.1 | exact hs.2) (by first | exact ht.1 | exact ht.2)
def ajK(lf:Nat)(h3:200000≤lf){a b:A}(ha:Wf a)(hb:Wf b):sS.f lf (ac a) (ac b)=some (ac (toA (apS xmul (ofA a) (ofA b))),0,()):=by
 rw[sS.f];have hs:=ha.okC;have ht:=hb.okC;have c1:=rD hs.1 ht.1;have c2:=rD hs.1 ht.2;have c3:=rD hs.2 ht.1;have c4:=rD hs.2 ht.2;have c:=jO jJ (jB c1);have d:=jO c (jB c2);have e:=jO d (jB c3);have g:=jO e (jB c4);have h:∀ v:X,((xc v,xc v,()):EB×(EB×Unit))=sc (one v):=fun _=>rfl;simp only[jy lf h3 ha,jy lf h3 hb,fe,bne_self_eq_false,ff,of_f,kD lf h3 hs.K,kD lf h3 ht.K,vX,jr lf h3 jJ];unfold apS;cases emp (ofA a)with
 | true=>simp only[fg,if_true]
 | false =>
  cases emp (ofA b)with
  | true=>simp only[fg,ff,ze,if_true,if_false]
  | false =>
   simp only[ff,ze,if_false];have i:(sc (ofA a)).1=xc (ofA a).lo:=rfl;have j:(sc (ofA a)).2.1=xc (ofA a).hi:=rfl;have k:(sc (ofA b)).1=xc (ofA b).lo:=rfl;have l:(sc (ofA b)).2.1=xc (ofA b).hi:=rfl;simp only[i,j,k,l,abd lf h3 hs.1 ht.1,abd lf h3 hs.1 ht.2,abd lf h3 hs.2 ht.1,abd lf h3 hs.2 ht.2,fe,h,oV lf h3 jJ (jB c1),oV lf h3 c (jB c2),oV lf h3 d (jB c3),oV lf h3 e (jB c4),jr lf h3 g]
def xover:X→X→X
 | .fin a,.fin b=>.fin (a.fdiv b)
 | .fin a,_=>if a < 0 then .fin (-1)else .fin 0
 | x,_=>x
def uG(lf:Nat)(hlf:2000000000≤lf){x y:Int}(b: -K < x∧x < K)(c: -K < y∧y < K)(a:y≠0):iE.f lf (bs (z7 x)) (bs (z7 y))=some (bs (z7 (x.fdiv y)),0,()):=by
 rw[akK lf hlf _ _ (chkK b) (chkK c),dW,dW,gT a]
def pz(lf:Nat)(hlf:2000000000≤lf){x y:Int}(b: -K < x∧x < K)(c: -K < y∧y < K)(a:y≠0):jE.f lf (bs (z7 x)) (bs (z7 y))=some (bs (z7 (x.fmod y)),0,()):=by
 rw[akN lf hlf _ _ (chkK b) (chkK c),dW,dW,gT a]
def qR(x:X):(sg x < 0↔key x < 0)∧(sg x=0↔key x=0)∧(0 < sg x↔0 < key x):=by
 have:=K_gt;cases x with
 | ni=>simp only[sg,key];omega
 | pi=>simp only[sg,key];omega
 | fin z=>simp only[sg,key,sgn];(repeat' split)<;>omega
def vC(lf:Nat)(hlf:2000000000≤lf){x y:X}(c:okx C x)(i:okx C y)(d:y≠.fin 0):aF.f lf (xc x) (xc y)=some (xc (xover x y),()):=by
 have g:=fD;rw[aF.f];cases x with
 | ni=>exact(fg _ _).trans rfl
 | pi=>exact(fg _ _).trans rfl
 | fin a =>
  have s:=sg_f lf ω (x:=.fin a) (c.mono (zR g));simp only[okx]at c;rw[s];cases y with
  | fin b =>
   simp only[okx]at i;simp only[xc,bne_self_eq_false,ff,BEq.rfl,fg];rw[uG lf hlf ω ω (by intro e;exact d (by rw[e])),fe,uo,fe];rfl
  | ni =>
   simp only[xc,bne_self_eq_false,ff,fe,show((-1:Int)==0)=false from rfl,show decide (sg (.fin a) < 0)=decide (a < 0) from by have:=(qR (.fin a)).1;simp only[decide_eq_decide];exact this,xover];by_cases h:a < 0
   ·rw[gR h,fg,fa h,im1,uo,fe];rfl
   ·rw[gP h,ff,gT h,i0,uo,fe];rfl
  | pi =>
   simp only[xc,bne_self_eq_false,ff,fe,show((1:Int)==0)=false from rfl,show decide (sg (.fin a) < 0)=decide (a < 0) from by have:=(qR (.fin a)).1;simp only[decide_eq_decide];exact this,xover];by_cases h:a < 0
   ·rw[gR h,fg,fa h,im1,uo,fe];rfl
   ·rw[gP h,ff,gT h,i0,uo,fe];rfl
def aew{a b k:Int}(c:1 < k)(ha: -k < a∧a < k)(hb:1≤b): -k < a.fdiv b∧a.fdiv b < k:=by
 have m:=wh a b;have r0:=xd a (show 0 < b from ω);have r1:=yW a (show 0 < b from ω);rcases Int.lt_or_le (a.fdiv b) 0 with z | z
 ·have:=wA hb (show 0≤-a.fdiv b-1 from ω);have e:b*(-a.fdiv b-1)= -(b*a.fdiv b)-b:=by grind
  omega
 ·have:=wA hb z;omega
def vZ{x y:X}(c:okx C x)(d:∀ b,y=.fin b→1≤b):okx C (xover x y):=by
 have e:=C_gt;cases x with
 | ni=>trivial
 | pi=>trivial
 | fin a=>cases y with
  | fin b=>exact aew ω c (d b rfl)
  | ni=>simp only[xover];split<;>simp only[okx]<;>omega
  | pi=>simp only[xover];split<;>simp only[okx]<;>omega
def acC{x y:X}(c:okx Dd x)(d:∀ b,y=.fin b→1≤b):okx Dd (xover x y):=by
 have e:=C_gt;have f:=kW;cases x with
 | ni=>trivial
 | pi=>trivial
 | fin a=>cases y with
  | fin b=>exact aew ω c (d b rfl)
  | ni=>simp only[xover];split<;>simp only[okx]<;>omega
  | pi=>simp only[xover];split<;>simp only[okx]<;>omega
def posS(s:Sp):Sp:=common s ⟨.fin 1,.pi⟩
def qC{z:Int}(a: -10≤z)(b:z≤10):okx C (.fin z):=by have:=C_gt;simp only[okx];omega
def gB{s:Sp}(h:oks C s):oks C (posS s):=uw h ⟨qC δ δ,trivial⟩
def xQ(lf:Nat)(h3:200000≤lf){s:Sp}(hs:oks C s):aN.f lf (sc s)=some (sc (posS s),()):=by
 rw[aN.f,i1,uo,fe,aja,fe];have:=abl lf h3 hs.K (t:=⟨.fin 1,.pi⟩) ⟨(qC δ δ).mono (zR fD),trivial⟩;rw[show((xc (X.fin 1),(1,bs [],()),()):EB×(EB×Unit))=sc ⟨.fin 1,.pi⟩ from rfl,this,fe];rfl
def aah{s:Sp}(he:emp (posS s)=false)(hs:oks C s)(f:Pr s):∃ l,(posS s).lo=.fin l∧1≤l∧key s.lo≤l∧(∀ h,(posS s).hi=.fin h→l≤h)∧(posS s).hi=s.hi∧s.hi≠.ni:=by
 have k:=fD;have j:=C_gt;have i:=rF (hs.K.1);have a:=rF (hs.K.2);obtain⟨lo,hi⟩:=s;unfold emp at he;have he:=of_decide_eq_false he;simp only[posS,common]at he⊢;have g:xmin hi .pi=hi:=by
  unfold xmin;rw[show key .pi=K from rfl];split
  ·simp only at a;omega
  ·rfl
 rw[g]at he⊢;rw[mg]at he;have b:key (.fin 1)=1:=rfl;rw[b]at he;simp only at i a;have c:lo≠.pi:=by
  rintro rfl;rcases f with h | h
  ·unfold emp at h;simp only[decide_eq_true_eq]at h;omega
  ·exact h.1 rfl
 have d:hi≠.ni:=by
  rintro rfl;simp only[key]at he;omega
 refine⟨max (key lo) 1,?_,ω,ω,?_,rfl,d⟩
 ·by_cases h:key lo < 1
  ·rw[abR (show key lo < key (.fin 1) from h)];congr 1;omega
  ·rw[zN (show ¬key lo < key (.fin 1) from h)];cases lo with
   | pi=>exact absurd rfl c
   | ni=>exfalso;simp only[key]at h;omega
   | fin z=>simp only[key]at h⊢;congr 1;omega
 ·intro h e;have:key hi=h:=by rw[e];rfl
  omega
def abj{s t:Sp}(hs:oks C s)(ht:∀ y,(y=t.lo∨y=t.hi)→∀ b,y=.fin b→1≤b):oks K (apS xover s t):=agy fun x y a c=>by
 refine(vZ ?_ (ht y c)).mono (zR fD);rcases a with rfl | rfl
 ·exact hs.1
 ·exact hs.2
def pq{s:Sp}(he:emp (posS s)=false)(hs:oks C s)(d:Pr s):∀ y,(y=(posS s).lo∨y=(posS s).hi)→∀ b,y=.fin b→1≤b:=by
 obtain⟨l,a,f,g,c,h,i⟩:=aah he hs d;intro y e b hb;rcases e with rfl | rfl
 ·rw[a]at hb;injection hb with hb
  omega
 ·have:=c b hb;omega
def quoS(s t:Sp):Sp :=
 if emp s=true then non else
 hull (if emp (posS t)=true then non else apS xover s (posS t)) (if emp (posS (turn t))=true then non else apS xover (turn s) (posS (turn t)))
def adK(s:Sp)(h:emp s=false∨s=non):hull s non=s:=by
 unfold hull;rcases h with h | rfl
 ·rw[gT (by simp[h]),fa iM]
 ·rw[fa iM]
def oO(v:X):emp (one v)=false:=by unfold emp one;simp
def uV{s t:Sp}(hs:emp s=false)(ht:emp t=false):emp (hull s t)=false:=by
 unfold hull;rw[gT (by simp[hs]),gT (by simp[ht])];unfold emp at hs ht⊢;simp only[decide_eq_false_iff_not,lM,mg]at hs ht⊢;omega
def tK(s:Sp):hull non s=s:=by unfold hull;rw[fa iM]
def aaV{o:X→X→X}{s t:Sp}(a:emp s=false)(b:emp t=false):emp (apS o s t)=false:=by
 unfold apS;rw[gT (by simp[a]),gT (by simp[b]),tK];exact uV (uV (uV (oO _) (oO _)) (oO _)) (oO _)
set_option maxHeartbeats 4000000 in
def ajL(lf:Nat)(hlf:2000000000≤lf){a b:A}(ha:Wf a)(hb:Wf b):sU.f lf (ac a) (ac b)=some (ac (toA (quoS (ofA a) (ofA b))),0,()):=by
 have h3:200000≤lf:=ω;rw[sU.f];have hs:=ha.okC;have ht:=hb.okC;have pt:=hb.pr;have ts:=gW hs;have p:=gW ht;have et:emp (turn (ofA a))=emp (ofA a):=oU;have O:∀ v:X,((xc v,xc v,()):EB×(EB×Unit))=sc (one v):=fun _=>rfl;simp only[jy lf h3 ha,jy lf h3 hb,fe,bne_self_eq_false,ff,of_f,kD lf h3 hs.K,xQ lf h3 ht,vw lf h3 ht.K,xQ lf h3 p,kD lf h3 (gB ht).K,kD lf h3 (gB p).K,vw lf h3 hs.K,kD lf h3 ts.K,et,vX,jr lf h3 jJ,aV.f];unfold quoS;generalize hS:ofA a=s at *
 generalize hT:ofA b=t at *
 have W:(sc s).1=xc s.lo:=rfl;have Y:(sc s).2.1=xc s.hi:=rfl;have Z:(sc (posS t)).1=xc (posS t).lo:=rfl;have x4:(sc (posS t)).2.1=xc (posS t).hi:=rfl;have P:(sc (turn s)).1=xc (turn s).lo:=rfl;have Q:(sc (turn s)).2.1=xc (turn s).hi:=rfl;have R:(sc (posS (turn t))).1=xc (posS (turn t)).lo:=rfl;have S:(sc (posS (turn t))).2.1=xc (posS (turn t)).hi:=rfl;have N:∀ {u:Sp} (h:∀ y,(y=u.lo∨y=u.hi)→∀ b,y=.fin b→1≤b),u.lo≠.fin 0∧u.hi≠.fin 0:=fun h=>⟨fun e=>by have:=h _ (.inl rfl) 0 e;omega,fun e=>by have:=h _ (.inr rfl) 0 e;omega⟩
 have c:∀ {x y:X},okx C x→(∀ b,y=.fin b→1≤b)→okx K (xover x y):=fun U V=>(vZ U V).mono (zR fD);cases J:emp s with
 | true=>simp only[ff,fg,zj,zg,if_true];cases emp (posS t)<;>simp only[ff,fg,zj,zg]<;>cases emp (posS (turn t))<;>simp only[ff,fg,zj,zg]
 | false =>
  cases M:emp (posS t)with
  | true =>
   simp only[ff,fg,zj,zg,if_true,if_false,ze];cases B:emp (posS (turn t))with
   | true =>
    simp only[ff,fg,zj,zg,if_true,if_false,ze];rw[tK]
   | false =>
    have d:=pq B p pt.turn;have n:=N d;have c1:=c ts.1 (d _ (.inl rfl));have c2:=c ts.1 (d _ (.inr rfl));have c3:=c ts.2 (d _ (.inl rfl));have c4:=c ts.2 (d _ (.inr rfl));have D:=jO jJ (jB c1);have F:=jO D (jB c2);have H:=jO F (jB c3);have k:=jO H (jB c4);have i:=gB p;simp only[ff,fg,zj,zg,if_true,if_false,ze,P,Q,R,S,vC lf hlf ts.1 i.1 n.1,vC lf hlf ts.1 i.2 n.2,vC lf hlf ts.2 i.1 n.1,vC lf hlf ts.2 i.2 n.2,fe,O,oV lf h3 jJ (jB c1),oV lf h3 D (jB c2),oV lf h3 F (jB c3),oV lf h3 H (jB c4)];have l:apS xover (turn s) (posS (turn t))=hull (hull (hull (hull non (one (xover (turn s).lo (posS (turn t)).lo))) (one (xover (turn s).lo (posS (turn t)).hi))) (one (xover (turn s).hi (posS (turn t)).lo))) (one (xover (turn s).hi (posS (turn t)).hi)):=by
     unfold apS;rw[gT (by simp[et,J]),gT (by simp[B])]
    rw[←l]at k⊢;rw[oV lf h3 jJ k,fe,jr lf h3 (jO jJ k),fe]
  | false =>
   have d:=pq M ht pt;have n:=N d;have c1:=c hs.1 (d _ (.inl rfl));have c2:=c hs.1 (d _ (.inr rfl));have c3:=c hs.2 (d _ (.inl rfl));have c4:=c hs.2 (d _ (.inr rfl));have D:=jO jJ (jB c1);have F:=jO D (jB c2);have H:=jO F (jB c3);have k:=jO H (jB c4);have i:=gB ht;simp only[ff,fg,zj,zg,if_true,if_false,ze,W,Y,Z,x4,vC lf hlf hs.1 i.1 n.1,vC lf hlf hs.1 i.2 n.2,vC lf hlf hs.2 i.1 n.1,vC lf hlf hs.2 i.2 n.2,fe,O,oV lf h3 jJ (jB c1),oV lf h3 D (jB c2),oV lf h3 F (jB c3),oV lf h3 H (jB c4),jr lf h3 k];have T:apS xover s (posS t)=hull (hull (hull (hull non (one (xover s.lo (posS t).lo))) (one (xover s.lo (posS t).hi))) (one (xover s.hi (posS t).lo))) (one (xover s.hi (posS t).hi)):=by
    unfold apS;rw[gT (by simp[J]),gT (by simp[M])]
   rw[←T]at k⊢;have ne:=aaV (o:=xover) J M;cases B:emp (posS (turn t))with
   | true =>
    simp only[ff,fg,zj,zg,if_true,if_false,ze];rw[adK _ (.inl ne)]
   | false =>
    have g:=pq B p pt.turn;have L:=N g;have q:=c ts.1 (g _ (.inl rfl));have r:=c ts.1 (g _ (.inr rfl));have w:=c ts.2 (g _ (.inl rfl));have z:=c ts.2 (g _ (.inr rfl));have E:=jO jJ (jB q);have G:=jO E (jB r);have I:=jO G (jB w);have m:=jO I (jB z);have j:=gB p;simp only[ff,fg,zj,zg,if_true,if_false,ze,P,Q,R,S,vC lf hlf ts.1 j.1 L.1,vC lf hlf ts.1 j.2 L.2,vC lf hlf ts.2 j.1 L.1,vC lf hlf ts.2 j.2 L.2,fe,O,oV lf h3 jJ (jB q),oV lf h3 E (jB r),oV lf h3 G (jB w),oV lf h3 I (jB z)];have l:apS xover (turn s) (posS (turn t))=hull (hull (hull (hull non (one (xover (turn s).lo (posS (turn t)).lo))) (one (xover (turn s).lo (posS (turn t)).hi))) (one (xover (turn s).hi (posS (turn t)).lo))) (one (xover (turn s).hi (posS (turn t)).hi)):=by
     unfold apS;rw[gT (by simp[et,J]),gT (by simp[B])]
    rw[←l]at m⊢;rw[oV lf h3 k m,fe,jr lf h3 (jO k m),fe]
def allS(c:Int):Sp:=⟨.fin 0,.fin (c-1)⟩
def resS(s:Sp)(c:Int):Sp:=match s.lo,s.hi with
 | .fin l,.fin h=>if h-l≥c-1 then allS c else if l.fmod c > h.fmod c then allS c else⟨.fin (l.fmod c),.fin (h.fmod c)⟩
 | _,_=>allS c
def aj9(a b:Int):decide (sgn (a-b)≥0)=decide (b≤a):=by
 simp only[decide_eq_decide];unfold sgn;(repeat' split)<;>omega
def aaU{c:Int}(a:1≤c)(b:c < C):oks C (allS c):=by
 have:=C_gt;constructor<;>simp only[allS,okx]<;>omega
def aiN{s:Sp}{c:Int}(a:1≤c)(b:c < C):oks C (resS s c):=by
 have i:=C_gt;unfold resS;split
 ·rename_i l h _ _;have d:=xd l (show 0 < c from ω);have e:=yW l (show 0 < c from ω);have f:=xd h (show 0 < c from ω);have g:=yW h (show 0 < c from ω);split
  ·exact aaU a b
  ·split
   ·exact aaU a b
   ·constructor<;>simp only[okx]<;>omega
 ·exact aaU a b
def aeJ(lf:Nat)(hlf:2000000000≤lf){s:Sp}(hs:oks C s){c:Int}(n:1≤c)(o:c < C):nY.f lf (sc s) (bs (z7 c))=some (sc (resS s c),()):=by
 have h3:200000≤lf:=ω;have q:=C_gt;have r:=CC_K;have p:0≤C*C:=yf ω ω;have a:=aez lf h3 (x:=c) (y:= -1) ω ω ω;rw[nY.f,i0,im1,a,uo,fe,fe,uo,fe];have al:(((xc (.fin 0),xc (.fin (c+ -1)),()):EB×(EB×Unit)))=sc (allS c):=by
  rw[show c+ -1=c-1 by omega];rfl
 obtain⟨d,b⟩:=s;cases d with
 | ni=>exact(fg _ _).trans (by simp only[resS];rw[al])
 | pi=>exact(fg _ _).trans (by simp only[resS];rw[al])
 | fin l=>cases b with
  | ni=>exact(ff _ _).trans ((fg _ _).trans (by simp only[resS];rw[al]))
  | pi=>exact(ff _ _).trans ((fg _ _).trans (by simp only[resS];rw[al]))
  | fin h =>
   have u: -C < l∧l < C:=hs.1;have t: -C < h∧h < C:=hs.2;refine(ff _ _).trans ((ff _ _).trans ?_);simp only[sc,xc];have e:=acT lf h3 (z:=l) ω;have g:=aez lf h3 (x:=h) (y:= -l) ω ω ω;rw[e,fe,g,fe,yu lf _ _ (chkK ω) (chkK ω) h3,fe,dW,dW];simp only[resS,aj9];by_cases c1:h-l≥c-1
   ·rw[gR ω,fg,fa c1];exact congrArg (fun x=>some (x,())) al
   ·rw[gP ω,ff,gT c1];have i:=xd l (show 0 < c from ω);have j:=yW l (show 0 < c from ω);have k:=xd h (show 0 < c from ω);have m:=yW h (show 0 < c from ω);rw[pz lf hlf ω ω ω,fe,pz lf hlf ω ω ω,fe,yu lf _ _ (chkK ω) (chkK ω) h3,fe,dW,dW];simp only[aeK];by_cases c2:l.fmod c > h.fmod c
    ·rw[gR ω,fg,fa c2];exact congrArg (fun x=>some (x,())) al
    ·rw[gP ω,ff,gT c2,uo,fe,uo,fe];rfl
def remI(s t:Sp):Sp:=if single t=true then resS s (valX t.lo)else if 0≤key s.lo∧key s.hi < key t.lo then s else
 ⟨.fin 0,if 0≤key s.lo then xmin (xsh t.hi (-1)) s.hi else xsh t.hi (-1)⟩
def ah6{x:X}(h:okx C x):valX x < C:=by have:=C_gt;cases x<;>simp only[valX,okx]at*<;> omega
def ajo{x:X}(a:okx C x)(h:∀ z,x=.fin z→1≤z):okx C (xsh x (-1)):=by
 have:=C_gt;cases x with
 | fin z=>have:=h z rfl;simp only[xsh,okx]at *;omega
 | ni=>trivial
 | pi=>trivial
def wH{s t:Sp}(hs:oks C s)(ht:oks C t)(a:∀ y,(y=t.lo∨y=t.hi)→∀ b,y=.fin b→1≤b):oks C (remI s t):=by
 have c:okx C (.fin 0):=qC δ δ;unfold remI;split
 ·rename_i e;have:=xu e;exact aiN (a _ (.inl rfl) _ this) (ah6 ht.1)
 ·split
  ·exact hs
  ·refine⟨c,?_⟩;have:=ajo ht.2 (a _ (.inr rfl));simp only;split
   ·exact wK this hs.2
   ·exact this
def xU(lf:Nat)(hlf:2000000000≤lf){s t:Sp}(hs:oks C s)(ht:oks C t)(h:∀ y,(y=t.lo∨y=t.hi)→∀ b,y=.fin b→1≤b):dG.f lf (sc s) (sc t)=some (sc (remI s t),()):=by
 have h3:200000≤lf:=ω;have q:(sc s).1=xc s.lo:=rfl;have r:(sc s).2.1=xc s.hi:=rfl;have i:(sc t).1=xc t.lo:=rfl;have u:(sc t).2.1=xc t.hi:=rfl;rw[dG.f,abK,fe];unfold remI;cases e:single t with
 | true =>
  have c:=xu e;have n:=h _ (.inl rfl) _ c;rw[fg,fa rfl];have k:(sc t).1.2.1=bs (z7 (valX t.lo)):=by rw[i,c];rfl
  rw[k,aeJ lf hlf hs n (ah6 ht.1),fe]
 | false =>
  rw[ff,gT ψ];obtain⟨cc,c1,c2,c3⟩:=ab6 lf h3 hs.K.2 ht.K.1;have p:=uH lf h3 ht.2 (d:= -1) δ δ;have o:=ajo ht.2 (h _ (.inr rfl));have g:=qR s.lo;have l:decide (sg s.lo≥0)=decide (0≤key s.lo):=by simp only[decide_eq_decide];omega
  have j:decide (cc < 0)=decide (key s.hi < key t.lo):=by simp only[decide_eq_decide];omega
  simp only[q,r,i,u,sg_f lf h3 hs.K.1,fe,l,c1,im1,p,aac lf h3 (o.mono (zR fD)) hs.K.2,i0,uo,j];by_cases m:0≤key s.lo<;>by_cases a:key s.hi < key t.lo<;>simp only[m,a,decide_true,decide_false,fg,ff,if_true,if_false,and_self,and_true,and_false,false_and]<;>rfl
def remS(s t:Sp):Sp :=
 if emp s=true then non else
 if emp (posS t)=true then(if emp (posS (turn t))=true then non else turn (remI (turn s) (posS (turn t))))else
 if emp (posS (turn t))=true then remI s (posS t)else hull (remI s (posS t)) (turn (remI (turn s) (posS (turn t))))
def ajM(lf:Nat)(hlf:2000000000≤lf){a b:A}(ha:Wf a)(hb:Wf b):sV.f lf (ac a) (ac b)=some (ac (toA (remS (ofA a) (ofA b))),0,()):=by
 have h3:200000≤lf:=ω;rw[sV.f];have hs:=ha.okC;have ht:=hb.okC;have pt:=hb.pr;have ts:=gW hs;have c:=gW ht;simp only[jy lf h3 ha,jy lf h3 hb,fe,bne_self_eq_false,ff,of_f,kD lf h3 hs.K,xQ lf h3 ht,vw lf h3 ht.K,xQ lf h3 c,kD lf h3 (gB ht).K,kD lf h3 (gB c).K,vw lf h3 hs.K,vX,jr lf h3 jJ];unfold remS;generalize ofA a=s at *
 generalize ofA b=t at *
 cases l:emp s with
 | true=>simp only[ff,fg,zj,zg,if_true];cases emp (posS t)<;>simp only[ff,fg,zj,zg]<;>cases emp (posS (turn t))<;>simp only[ff,fg,zj,zg]
 | false =>
  cases k:emp (posS t)with
  | true =>
   simp only[ff,fg,zj,zg,if_true,if_false,ze];cases i:emp (posS (turn t))with
   | true=>simp only[ff,fg,zj,zg,if_true,if_false,ze]
   | false =>
    have d:=pq i c pt.turn;have g:=wH ts (gB c) d;have h:=gW g;simp only[ff,fg,zj,zg,if_true,if_false,ze,xU lf hlf ts (gB c) d,fe,vw lf h3 g.K,oV lf h3 jJ h.K,tK,jr lf h3 h.K]
  | false =>
   have d:=pq k ht pt;have j:=wH hs (gB ht) d;simp only[ff,fg,zj,zg,if_true,if_false,ze,xU lf hlf hs (gB ht) d,fe];cases i:emp (posS (turn t))with
   | true=>simp only[ff,fg,zj,zg,if_true,if_false,ze,jr lf h3 j.K,fe]
   | false =>
    have e:=pq i c pt.turn;have g:=wH ts (gB c) e;have h:=gW g;simp only[ff,fg,zj,zg,if_true,if_false,ze,xU lf hlf ts (gB c) e,fe,vw lf h3 g.K,oV lf h3 j.K h.K,jr lf h3 (jO j.K h.K)]
def szC{z:Int}(h: -C < z∧z < C):sz z≤100:=(sz_C z).2 h
def signI(lf:Nat)(z:Int):bF.f lf (bs (z7 z))=some (sgn z,()):=by rw[yF lf _ (kY z),dW]
def floorI(lf:Nat)(h3:200000≤lf){x y:Int}(b: -C < x∧x < C)(c: -C < y∧y < C)(a:y≠0):aJ.f lf (bs (z7 x)) (bs (z7 y))=some (bs (z7 (x.fdiv y)),()):=by
 have:=szC b;have:=szC c;exact qw lf h3 ω ω a
def restI(lf:Nat)(h3:200000≤lf){x y:Int}(b: -C < x∧x < C)(c: -C < y∧y < C)(a:y≠0):bU.f lf (bs (z7 x)) (bs (z7 y))=some (bs (z7 (x.fmod y)),()):=by
 have:=szC b;have:=szC c;exact vk lf h3 ω ω a
def szK{z:Int}(h: -K < z∧z < K):sz z≤4096:=(sz_K z).2 h
def sumI(lf:Nat)(h3:200000≤lf){x y:Int}(a: -K < x∧x < K)(b: -K < y∧y < K):cO.f lf (bs (z7 x)) (bs (z7 y))=some (bs (z7 (x+y)),()):=by
 have:=szK a;have:=szK b;exact adl lf h3 ω ω
def diffI(lf:Nat)(h3:200000≤lf){x y:Int}(a: -K < x∧x < K)(b: -K < y∧y < K):aT.f lf (bs (z7 x)) (bs (z7 y))=some (bs (z7 (x-y)),()):=by
 have:=szK a;have:=szK b;exact zT lf h3 ω ω
def qm(lf:Nat)(h3:200000≤lf){x y:Int}(a: -K < x∧x < K)(b: -K < y∧y < K):aU.f lf (bs (z7 x)) (bs (z7 y))=some (bs (z7 (x*y)),()):=by
 have:=szK a;have:=szK b;exact yC lf h3 ω ω
def CK{z:Int}(h: -C < z∧z < C): -K < z∧z < K:=by have:=fD;omega
def mkA{s:Sp}(h:oks C s)(p:Pr s):Wf (toA s)∧ofA (toA s)=if emp s=true then non else s:=by
 refine⟨nT h.K p,?_⟩;by_cases e:emp s=true
 ·rw[fa e];have:toA s=E0:=by unfold toA;rw[fa e];rfl
  rw[this];rfl
 ·rw[gT e];have p':=p.resolve_left e;exact aiC h (by simpa using e) p'.1 p'.2
def zl{s:Sp}(h:emp s=true):toA s=E0:=by unfold toA;rw[fa h];rfl
def addO:Option Int→Option Int→Option Int
 | some a,some b=>some (a+b)
 | _,_=>none
def rsumO(lf:Nat)(h3:200000≤lf){x y:Option Int}(c:okb C x)(d:okb C y):fK.f lf (ob x) (ob y)=some (ob (addO x y),()):=by
 rw[fK.f,jh,jh];cases x with
 | none=>simp only[decide_true,fg];rfl
 | some a=>cases y with
  | none=>simp only[decide_true,fg,reduceCtorEq,decide_false,ff];rfl
  | some b =>
   simp only[reduceCtorEq,decide_false,ff];have e:=sumI lf h3 (CK c) (CK d);rw[show ob (some a)=bs (z7 a) from rfl,show ob (some b)=bs (z7 b) from rfl,e,fe];rfl
def xB{x y:Option Int}(d:okb C x)(e:okb C y):okb K (addO x y):=by
 have c:=CC_K;have b:=C_gt;have a:0≤C*C:=yf ω ω;cases x<;>cases y<;>simp only[addO,okb]at*<;> omega
def ahr(lf:Nat)(h3:200000≤lf){a b:A}(ha:Wf a)(hb:Wf b):kF.f lf (ac a) (ac b)=some (ac (toA (addS (ofA a) (ofA b))),()):=by
 rw[kF.f];unfold addS;rw[jV ha,jV hb];cases c:a.em with
 | true=>simp only[ac,c,fg,aA.f,fe,if_true,ug];rfl
 | false=>cases d:b.em with
  | true=>simp only[ac,c,d,fg,ff,aA.f,fe,if_true,if_false,ze,ug];rfl
  | false =>
   simp only[ac,c,d,ff,if_false,ze];rw[rsumO lf h3 ha.lo hb.lo,fe,rsumO lf h3 ha.hi hb.hi,fe,kE lf h3 _ _ (xB ha.lo hb.lo) (xB ha.hi hb.hi),fe];have e:lox (addO a.lo b.lo)=xadd (ofA a).lo (ofA b).lo:=by
    unfold ofA;rw[gT (by simp[c]),gT (by simp[d])];cases a.lo<;>cases b.lo<;>rfl
   have g:hix (addO a.hi b.hi)=xadd (ofA a).hi (ofA b).hi:=by
    unfold ofA;rw[gT (by simp[c]),gT (by simp[d])];cases a.hi<;>cases b.hi<;>rfl
   rw[e,g];rfl
def turnA{a:A}(h:Wf a):Wf (toA (turn (ofA a)))∧ofA (toA (turn (ofA a)))=turn (ofA a):=by
 have m:=mkA (gW h.okC) h.pr.turn;refine⟨m.1,?_⟩;rw[m.2];split
 ·rename_i e;rw[oU]at e;unfold turn;rw[fa e]
 ·rfl
def aiA(lf:Nat)(h3:200000≤lf){a b:A}(ha:Wf a)(hb:Wf b):mW.f lf (ac a) (ac b)=some (ac (toA (addS (ofA a) (turn (ofA b)))),()):=by
 have t:=turnA hb;rw[mW.f,oJ lf h3 hb,fe,ahr lf h3 ha t.1,fe,t.2]
def negS(s:Sp):Sp:=common s ⟨.ni,.fin (-1)⟩
def zerS(s:Sp):Sp:=common s ⟨.fin 0,.fin 0⟩
def abb(lf:Nat)(h3:200000≤lf){a:A}(ha:Wf a):fZ.f lf (ac a)=some ([ac (toA (negS (ofA a))),ac (toA (zerS (ofA a))),ac (toA (posS (ofA a)))],()):=by
 have r:=C_gt;have t:=fD;have g:okb K (some (-1)):=by simp only[okb];omega
 have b:okb K (some 0):=by simp only[okb];omega
 have d:okb K (some 1):=by simp only[okb];omega
 have r1:=kE lf h3 none (some (-1)) trivial g;have r2:=kE lf h3 (some 0) (some 0) b b;have r3:=kE lf h3 (some 1) none d trivial;have c:∀ s:Sp,oks C s→emp s=false→s.lo≠.pi→s.hi≠.ni→Wf (toA s)∧ofA (toA s)=s:=fun s h e p q=>by
  have m:=mkA h (.inr ⟨p,q⟩);rw[e,gT ψ]at m;exact m
 have i:=c ⟨.ni,.fin (-1)⟩ ⟨trivial,qC δ δ⟩ (gP (show ¬(-K > -1) by omega)) ψ ψ;have j:=c ⟨.fin 0,.fin 0⟩ ⟨qC δ δ,qC δ δ⟩ (by unfold emp;simp[key]) ψ ψ;have k:=c ⟨.fin 1,.pi⟩ ⟨qC δ δ,trivial⟩ (gP (show ¬((1:Int) > K) by omega)) ψ ψ;have l:ax.f lf (⟨#[]⟩:ByteArray) (bs (z7 (-1)))=some (ac (toA ⟨.ni,.fin (-1)⟩),()):=r1;have n:ax.f lf (bs (z7 0)) (bs (z7 0))=some (ac (toA ⟨.fin 0,.fin 0⟩),()):=r2;have o:ax.f lf (bs (z7 1)) (⟨#[]⟩:ByteArray)=some (ac (toA ⟨.fin 1,.pi⟩),()):=r3;rw[fZ.f,im1,l,fe,aae lf h3 ha i.1,fe,jW.f,i0,n,fe,fe,aae lf h3 ha j.1,fe,i1,o,fe,aae lf h3 ha k.1,fe,i.2,j.2,k.2];rfl
def hullNE{s t:Sp}(hs:emp s=false)(ht:emp t=false):hull s t=⟨xmin s.lo t.lo,xmax s.hi t.hi⟩:=by
 unfold hull;rw[gT (by simp[hs]),gT (by simp[ht])]
def agx{o:X→X→X}{s t:Sp}(hs:emp s=false)(ht:emp t=false)(ok:∀ x y,(x=s.lo∨x=s.hi)→(y=t.lo∨y=t.hi)→okx K (o x y))
  {L H:X} (l1:∃ x y,(x=s.lo∨x=s.hi)∧(y=t.lo∨y=t.hi)∧L=o x y) (l2:∀ x y,(x=s.lo∨x=s.hi)→(y=t.lo∨y=t.hi)→key L≤key (o x y))
  (m:∃ x y,(x=s.lo∨x=s.hi)∧(y=t.lo∨y=t.hi)∧H=o x y) (c:∀ x y,(x=s.lo∨x=s.hi)→(y=t.lo∨y=t.hi)→key (o x y)≤key H):apS o s t=⟨L,H⟩:=by
 unfold apS;rw[gT (by simp[hs]),gT (by simp[ht]),tK,hullNE (oO _) (oO _)];have k:=oO (o s.lo t.lo);have l:=oO (o s.lo t.hi);have e:=oO (o s.hi t.lo);have p:=oO (o s.hi t.hi);have d:=uV k l;rw[hullNE k l]at d;rw[hullNE d e];have n:=uV d e;rw[hullNE d e]at n;rw[hullNE n p];have g:=ok _ _ (.inl rfl) (.inl rfl);have h:=ok _ _ (.inl rfl) (.inr rfl);have i:=ok _ _ (.inr rfl) (.inl rfl);have j:=ok _ _ (.inr rfl) (.inr rfl);have q:=l2 _ _ (.inl rfl) (.inl rfl);have r:=l2 _ _ (.inl rfl) (.inr rfl);have u:=l2 _ _ (.inr rfl) (.inl rfl);have v:=l2 _ _ (.inr rfl) (.inr rfl);have c1:=c _ _ (.inl rfl) (.inl rfl);have c2:=c _ _ (.inl rfl) (.inr rfl);have c3:=c _ _ (.inr rfl) (.inl rfl);have c4:=c _ _ (.inr rfl) (.inr rfl);have okL:okx K L:=by obtain⟨x,y,a,b,rfl⟩:=l1;exact ok x y a b
 have f:okx K H:=by obtain⟨x,y,a,b,rfl⟩:=m;exact ok x y a b
 have w:key L=min (min (min (key (o s.lo t.lo)) (key (o s.lo t.hi))) (key (o s.hi t.lo))) (key (o s.hi t.hi)):=by
  obtain⟨x,y,a,b,rfl⟩:=l1;rcases a with rfl | rfl<;>rcases b with rfl | rfl<;>omega
 have z:key H=max (max (max (key (o s.lo t.lo)) (key (o s.lo t.hi))) (key (o s.hi t.lo))) (key (o s.hi t.hi)):=by
  obtain⟨x,y,a,b,rfl⟩:=m;rcases a with rfl | rfl<;>rcases b with rfl | rfl<;>omega
 congr 1
 ·apply key_inj (wK (wK (wK g h) i) j) okL;simp only[one,lM];omega
 ·apply key_inj (xZ (xZ (xZ g h) i) j) f;simp only[one,mg];omega
def Po:X→Prop
 | .fin b=>1≤b
 | .pi=>True
 | .ni=>False
def wY{a c b:Int}(hb:1≤b)(h:a≤c):a.fdiv b≤c.fdiv b:=by
 rw[pB _ ω,pB _ ω];exact Int.ediv_le_ediv ω h
def acQ{a b:Int}(hb:1≤b)(h:0≤a):0≤a.fdiv b:=by
 have:=wY (a:=0) hb h
 rwa [Int.zero_fdiv]at this
def afa{a b:Int}(hb:1≤b)(h:a < 0):a.fdiv b≤-1:=by
 have m:=wh a b;have r0:=xd a (show 0 < b from ω);by_cases z:a.fdiv b≤-1
 ·exact z
 ·have:=yf (show 0≤b from ω) (show 0≤a.fdiv b from ω);omega
def abg{x c y:X}(g:okx Dd x)(a:okx Dd c)(d:Po y)(h:key x≤key c):key (xover x y)≤key (xover c y):=by
 have f:=Dd_K;have l:=mT C_gt kW;have i:∀ b,y=.fin b→1≤b:=fun b e=>by subst e;exact d
 have j:=rF ((acC g i).mono (zR f));have k:=rF ((acC a i).mono (zR f));cases x with
 | ni=>exact k.1
 | pi=>cases c with
  | pi=>exact xp _
  | ni=>simp only[key]at h;omega
  | fin z=>simp only[key,okx]at h a;omega
 | fin z=>cases c with
  | pi=>exact j.2
  | ni=>simp only[key,okx]at h g;omega
  | fin w =>
   simp only[key]at h;cases y with
   | ni=>exact d.elim
   | fin b=>exact wY d h
   | pi=>simp only[xover];split<;>split<;>simp only[key]<;>omega
def adx{x y d:X}(o:okx Dd x)(f:Po y)(a:Po d)(r:okx Dd y)(i:okx Dd d)(h:key y≤key d)(e:key x < 0):key (xover x y)≤key (xover x d):=by
 have n:=Dd_K;have l:=mT C_gt kW;cases x with
 | ni=>exact xp _
 | pi=>simp only[key]at e;omega
 | fin z =>
  simp only[key]at e;cases y with
  | ni=>exact f.elim
  | pi=>cases d with
   | ni=>exact a.elim
   | pi=>exact xp _
   | fin b=>simp only[key,okx]at h i;omega
  | fin b=>cases d with
   | ni=>exact a.elim
   | pi =>
    simp only[xover];rw[fa e];exact afa f e
   | fin c =>
    simp only[key]at h;simp only[xover,key];have m:=wh z b;have p:=wh z c;have r0:=xd z (show 0 < b by have:1≤b:=f;omega);have r1:=yW z (show 0 < c by have:1≤c:=a;omega);have q:=afa (b:=b) f e;by_cases g:z.fdiv b≤z.fdiv c
    ·exact g
    ·have hb:1≤b:=f;have j:=xF (show z.fdiv c+1≤z.fdiv b from ω) (show 0≤c by have:1≤c:=a;omega);have k:=wA h (show 0≤-z.fdiv b from ω);rw[vL]at j;rw[rh,rh]at k;omega
def ady{x y d:X}(o:okx Dd x)(f:Po y)(a:Po d)(r:okx Dd y)(i:okx Dd d)(h:key y≤key d)(e:0≤key x):key (xover x d)≤key (xover x y):=by
 have n:=Dd_K;have l:=mT C_gt kW;cases x with
 | pi=>exact xp _
 | ni=>simp only[key]at e;omega
 | fin z =>
  simp only[key]at e;cases y with
  | ni=>exact f.elim
  | pi=>cases d with
   | ni=>exact a.elim
   | pi=>exact xp _
   | fin b=>simp only[key,okx]at h i;omega
  | fin b=>cases d with
   | ni=>exact a.elim
   | pi =>
    simp only[xover];rw[gT ω];exact acQ f e
   | fin c =>
    simp only[key]at h;simp only[xover,key];have m:=wh z b;have p:=wh z c;have r0:=xd z (show 0 < c by have:1≤c:=a;omega);have r1:=yW z (show 0 < b by have:1≤b:=f;omega);have q:=acQ (b:=c) a e;by_cases g:z.fdiv c≤z.fdiv b
    ·exact g
    ·have j:=xF (show z.fdiv b+1≤z.fdiv c from ω) (show 0≤b by have:1≤b:=f;omega);have k:=wA h q;rw[vL]at j;omega
def quL:X→X→X→X
 | .fin z,a,b=>if z < 0 then xover (.fin z) a else xover (.fin z) b
 | x,_,_=>x
def quH:X→X→X→X
 | .fin z,a,b=>if 0≤z then xover (.fin z) a else xover (.fin z) b
 | x,_,_=>x
def aeH(x a b:X):quL x a b=if key x < 0 then xover x a else xover x b:=by
 cases x with
 | fin z=>rfl
 | ni=>simp only[quL,xover,ite_self]
 | pi=>simp only[quL,xover,ite_self]
def aeG(x a b:X):quH x a b=if 0≤key x then xover x a else xover x b:=by
 cases x with
 | fin z=>rfl
 | ni=>simp only[quH,xover,ite_self]
 | pi=>simp only[quH,xover,ite_self]
def quS(s u:Sp):Sp:=⟨quL s.lo u.lo u.hi,quH s.hi u.lo u.hi⟩
def ac7{s u:Sp}(hs:oks C s)(c:oks C u)(es:emp s=false)(i:emp u=false)(p1:Po u.lo)(p2:Po u.hi):apS xover s u=quS s u:=by
 have ls:=of_decide_eq_false es;have k:=of_decide_eq_false i;have j:∀ {y:X},Po y→∀ b,y=.fin b→1≤b:=fun h b e=>by subst e;exact h
 have ok:∀ x y,(x=s.lo∨x=s.hi)→(y=u.lo∨y=u.hi)→okx K (xover x y):=fun x y f a=>by
  refine(vZ ?_ (j ?_)).mono (zR fD)
  ·rcases f with rfl | rfl
   ·exact hs.1
   ·exact hs.2
  ·rcases a with rfl | rfl
   ·exact p1
   ·exact p2
 unfold quS;rw[aeH,aeG];refine agx es i ok ?_ ?_ ?_ ?_
 ·split
  ·exact⟨_,_,.inl rfl,.inl rfl,rfl⟩
  ·exact⟨_,_,.inl rfl,.inr rfl,rfl⟩
 ·intro x y f a;have m:key (xover s.lo y)≤key (xover x y):=by
   have g:Po y:=by
    rcases a with rfl | rfl
    ·exact p1
    ·exact p2
   rcases f with rfl | rfl
   ·exact xp _
   ·exact abg hs.1.D hs.2.D g ω
  split
  ·rename_i d;rcases a with rfl | rfl
   ·exact m
   ·exact tU (adx hs.1.D p1 p2 c.1.D c.2.D ω d) m
  ·rename_i d;rcases a with rfl | rfl
   ·exact tU (ady hs.1.D p1 p2 c.1.D c.2.D ω ω) m
   ·exact m
 ·split
  ·exact⟨_,_,.inr rfl,.inl rfl,rfl⟩
  ·exact⟨_,_,.inr rfl,.inr rfl,rfl⟩
 ·intro x y f a;have m:key (xover x y)≤key (xover s.hi y):=by
   have g:Po y:=by
    rcases a with rfl | rfl
    ·exact p1
    ·exact p2
   rcases f with rfl | rfl
   ·exact abg hs.1.D hs.2.D g ω
   ·exact xp _
  split
  ·rename_i d;rcases a with rfl | rfl
   ·exact m
   ·exact tU m (ady hs.2.D p1 p2 c.1.D c.2.D ω d)
  ·rename_i d;rcases a with rfl | rfl
   ·exact tU m (adx hs.2.D p1 p2 c.1.D c.2.D ω ω)
   ·exact m
def afN(z:Int):decide (sgn z < 0)=decide (z < 0):=by simp only[decide_eq_decide];unfold sgn;(repeat' split)<;>omega
def zh(z:Int):decide (sgn z≥0)=decide (0≤z):=by simp only[decide_eq_decide];unfold sgn;(repeat' split)<;>omega
section
variable (lf:Nat)(h3:200000≤lf)
include h3
theorem rng2{x y:Int}(a: -K < x∧x < K)(b: -K < y∧y < K):ax.f lf (bs (z7 x)) (bs (z7 y))=some (ac (toA ⟨.fin x,.fin y⟩),()):=kE lf h3 (some x) (some y) a b
theorem rng1{x:Int}(a: -K < x∧x < K):ax.f lf (bs (z7 x)) (ob none)=some (ac (toA ⟨.fin x,.pi⟩),()):=kE lf h3 (some x) none a trivial
theorem rng0{y:Int}(a: -K < y∧y < K):ax.f lf (ob none) (bs (z7 y))=some (ac (toA ⟨.ni,.fin y⟩),()):=kE lf h3 none (some y) trivial a
theorem rng:ax.f lf (ob none) (ob none)=some (ac (toA ⟨.ni,.pi⟩),()):=kE lf h3 none none trivial trivial
theorem aaP{a:A}(ha:Wf a){u:Sp}(t:oks C u)(I:emp u=false→∃ l,u.lo=.fin l∧1≤l∧Po u.hi):
  jD.f lf (ac a) (ac (toA u))=some (ac (toA (if a.em=true then non else if emp u=true then non else quS (ofA a) u)),()):=by
 have L:=C_gt;have M:=fD;rw[jD.f];cases r:a.em with
 | true=>simp only[ac,r,fg,aA.f,fe,if_true,ug];rfl
 | false=>cases w:emp u with
  | true =>
   rw[zl w];simp only[ac,r,ff,if_false,if_true,ze,E0,fg,aA.f,fe,ug];rfl
  | false =>
   obtain⟨l,F,g,p2⟩:=I w;obtain⟨N,p⟩:=u;simp only at F p2;subst F;have o: -C < l∧l < C:=t.1;obtain⟨em,lo,hi⟩:=a;simp only at r;subst r;have J:toA ⟨.fin l,p⟩=⟨false,some l,tx p⟩:=by
    unfold toA;rw[w,gT ψ];simp only[tx,clip,fa o]
   rw[J,gT ψ,gT ψ];have G:=ha.lo;have q:=ha.hi;simp only at G q;simp only[ac,ff,ofA,ze,if_false,jh,quS];have k:∀ {x y:Int},(-C < x∧x < C)→(-C < y∧y < C)→1≤y→aJ.f lf (bs (z7 x)) (bs (z7 y))=some (bs (z7 (x.fdiv y)),()):=fun B H h=>floorI lf h3 B H ω;have e:∀ {x y:Int},(-C < x∧x < C)→1≤y→-K < x.fdiv y∧x.fdiv y < K:=fun B h=>CK (aew ω B h);have D: -K < (0:Int)∧(0:Int) < K:=ω;have E: -K < (-1:Int)∧(-1:Int) < K:=ω;have d:∀ z:Int,ob (some z)=bs (z7 z):=fun _=>rfl;cases lo with
   | none =>
    simp only[decide_true,zj,ff,lox];cases hi with
    | none =>
     simp only[decide_true,zj,ff,hix,xover];rw[rng lf h3,fe];refine congrArg (fun s=>some (ac (toA s),())) ?_;simp only[quL,quH,xover]
    | some h =>
     have c: -C < h∧h < C:=q;simp only[reduceCtorEq,decide_false,zg,fg,d,signI,fe,zh,hix];by_cases b:0≤h
     ·simp only[gR b,fg,k c o g,fe,rng0 lf h3 (e c g)];refine congrArg (fun s=>some (ac (toA s),())) ?_;simp only[quL,quH,fa b,xover]
     ·simp only[gP b,ff];cases p with
      | ni=>exact p2.elim
      | pi =>
       simp only[tx,decide_true,zj,ff,im1,rng0 lf h3 E,fe];refine congrArg (fun s=>some (ac (toA s),())) ?_;simp only[quL,quH,gT b,fa (show h < 0 from ω),xover]
      | fin v =>
       have m: -C < v∧v < C:=t.2;have i:1≤v:=p2;simp only[tx,clip,fa m,reduceCtorEq,decide_false,zg,fg,d,k c m i,fe,rng0 lf h3 (e c i)];refine congrArg (fun s=>some (ac (toA s),())) ?_;simp only[quL,quH,gT b,fa (show h < 0 from ω),xover]
   | some z =>
    have n: -C < z∧z < C:=G;simp only[reduceCtorEq,decide_false,zg,fg,d,signI,fe,afN,lox];by_cases j:z < 0
    ·simp only[gR j,fg,k n o g,fe];cases hi with
     | none =>
      simp only[decide_true,zj,ff,hix];rw[rng1 lf h3 (e n g),fe];refine congrArg (fun s=>some (ac (toA s),())) ?_;simp only[quL,quH,fa j,xover]
     | some h =>
      have c: -C < h∧h < C:=q;simp only[reduceCtorEq,decide_false,zg,fg,d,signI,fe,zh,hix];by_cases b:0≤h
      ·simp only[gR b,fg,k c o g,fe,rng2 lf h3 (e n g) (e c g)];refine congrArg (fun s=>some (ac (toA s),())) ?_;simp only[quL,quH,fa j,fa b,xover]
      ·simp only[gP b,ff];cases p with
       | ni=>exact p2.elim
       | pi =>
        simp only[tx,decide_true,zj,ff,im1,rng2 lf h3 (e n g) E,fe];refine congrArg (fun s=>some (ac (toA s),())) ?_;simp only[quL,quH,fa j,gT b,fa (show h < 0 from ω),xover]
       | fin v =>
        have m: -C < v∧v < C:=t.2;have i:1≤v:=p2;simp only[tx,clip,fa m,reduceCtorEq,decide_false,zg,fg,d,k c m i,fe,rng2 lf h3 (e n g) (e c i)];refine congrArg (fun s=>some (ac (toA s),())) ?_;simp only[quL,quH,fa j,gT b,fa (show h < 0 from ω),xover]
    ·simp only[gP j,ff];cases p with
     | ni=>exact p2.elim
     | pi =>
      simp only[tx,decide_true,zj,ff,i0];cases hi with
      | none =>
       simp only[decide_true,zj,ff,hix];rw[rng1 lf h3 D,fe];refine congrArg (fun s=>some (ac (toA s),())) ?_;simp only[quL,quH,gT j,xover]
      | some h =>
       have c: -C < h∧h < C:=q;simp only[reduceCtorEq,decide_false,zg,fg,d,signI,fe,zh,hix];by_cases b:0≤h
       ·simp only[gR b,fg,k c o g,fe,rng2 lf h3 D (e c g)];refine congrArg (fun s=>some (ac (toA s),())) ?_;simp only[quL,quH,gT j,fa b,xover]
       ·simp only[gP b,ff,im1,rng2 lf h3 D E,fe];refine congrArg (fun s=>some (ac (toA s),())) ?_;simp only[quL,quH,gT j,gT b,fa (show h < 0 from ω),xover]
     | fin v =>
      have m: -C < v∧v < C:=t.2;have i:1≤v:=p2;simp only[tx,clip,fa m,reduceCtorEq,decide_false,zg,fg,d,k n m i,fe];cases hi with
      | none =>
       simp only[decide_true,zj,ff,hix];rw[rng1 lf h3 (e n i),fe];refine congrArg (fun s=>some (ac (toA s),())) ?_;simp only[quL,quH,gT j,xover]
      | some h =>
       have c: -C < h∧h < C:=q;simp only[reduceCtorEq,decide_false,zg,fg,d,signI,fe,zh,hix];by_cases b:0≤h
       ·simp only[gR b,fg,k c o g,fe,rng2 lf h3 (e n i) (e c g)];refine congrArg (fun s=>some (ac (toA s),())) ?_;simp only[quL,quH,gT j,fa b,xover]
       ·simp only[gP b,ff,k c m i,fe,rng2 lf h3 (e n i) (e c i)];refine congrArg (fun s=>some (ac (toA s),())) ?_;simp only[quL,quH,gT j,gT b,fa (show h < 0 from ω),xover]
end
def vg(x:Int){c:Int}(h:1≤c):0≤x.fmod c∧x.fmod c < c:=⟨xd x ω,yW x ω⟩
def ad5{l h c:Int}(hc:1≤c)(a:l≤h):(if h-l≥c-1 then allS c else if l.fmod c > h.fmod c then allS c else⟨.fin (l.fmod c),.fin (h.fmod c)⟩)=if l.fdiv c=h.fdiv c then(⟨.fin (l.fmod c),.fin (h.fmod c)⟩:Sp)else allS c:=by
 have b:=wh l c;have g:=wh h c;have d:=vg l hc;have f:=vg h hc;by_cases e:l.fdiv c=h.fdiv c
 ·rw[fa e];rw[e]at b;by_cases c1:h-l≥c-1
  ·rw[fa c1];unfold allS;congr 2<;>omega
  ·rw[gT c1,gT ω]
 ·rw[gT e];by_cases c1:h-l≥c-1
  ·rw[fa c1]
  ·rw[gT c1,fa ?_];have mono:=wY hc a;have:=xF (show 1≤h.fdiv c-l.fdiv c from ω) (show 0≤c from ω);rw[uC]at this;omega
section
variable (lf:Nat)(h3:200000≤lf)
include h3
theorem aai{a:A}(ha:Wf a){u:Sp}(D:oks C u)(V:emp u=false→∃ l,u.lo=.fin l∧1≤l∧Po u.hi):
  jk.f lf (ac a) (ac (toA u))=some (ac (toA (if a.em=true then non else if emp u=true then non else remI (ofA a) u)),()):=by
 have hC:=C_gt;have hK:=fD;have T:=CC_K;have h4:0≤C*C:=yf ω ω;rw[jk.f];cases p:a.em with
 | true=>simp only[ac,p,fg,aA.f,fe,if_true,ug];rfl
 | false=>cases F:emp u with
  | true =>
   rw[zl F];simp only[ac,p,ff,if_false,if_true,ze,E0,fg,aA.f,fe,ug];rfl
  | false =>
   obtain⟨l,L,B,p2⟩:=V F;obtain⟨ul,c⟩:=u;simp only at L p2;subst L;have h: -C < l∧l < C:=D.1;have I:toA ⟨.fin l,c⟩=⟨false,some l,tx c⟩:=by
    unfold toA;rw[F,gT ψ];simp only[tx,clip,fa h]
   have H:((bs (z7 l)).toList==(ob (tx c)).toList)=single ⟨.fin l,c⟩:=by
    cases c with
    | ni=>exact p2.elim
    | pi =>
     simp only[tx,single,ob,kL];exact gP (kX l)
    | fin v =>
     have n: -C < v∧v < C:=D.2;simp only[tx,clip,fa n,single,ob,kL,decide_eq_decide];exact⟨fun e=>nZ e,fun e=>by rw[e]⟩
   have E:ofA a=⟨lox a.lo,hix a.hi⟩:=by unfold ofA;rw[gT (by simp[p])]
   have Q:=ha.lo;have R:=ha.hi;have S:=ha.le;have J:aT.f lf (bs (z7 l)) (bs (z7 1))=some (bs (z7 (l-1)),()):=diffI lf h3 (CK h) ω;have O:ax.f lf (bs (z7 0)) (bs (z7 (l-1)))=some (ac (toA (allS l)),()):=rng2 lf h3 ω ω;have i:∀ z:Int,ob (some z)=bs (z7 z):=fun _=>rfl;have Z:(ac (toA ⟨.fin l,c⟩)).1=false:=by rw[I];rfl
   have x2:(ac (toA ⟨.fin l,c⟩)).2.1=bs (z7 l):=by rw[I];rfl
   have x3:(ac (toA ⟨.fin l,c⟩)).2.2.1=ob (tx c):=by rw[I];rfl
   have y1:(ac a).1=false:=p;have y2:(ac a).2.1=ob a.lo:=rfl;have y3:(ac a).2.2.1=ob a.hi:=rfl;rw[gT ψ,gT ψ];simp only[Z,x2,x3,y1,y2,y3,ff,H];unfold remI;cases es:single ⟨.fin l,c⟩with
   | true =>
    rw[fg,fa rfl];simp only[jh,i1,i0,J,fe,O,valX,E];cases b:a.lo with
    | none=>simp only[decide_true,zj,ff,lox,resS]
    | some z=>cases q:a.hi with
     | none=>simp only[decide_true,zj,ff,reduceCtorEq,decide_false,zg,fg,lox,hix,resS]
     | some w =>
      rw[b]at Q;rw[q]at R;rw[b,q]at S;have N: -C < z∧z < C:=Q;have M: -C < w∧w < C:=R;have zw:z≤w:=S;have b1:=vg z B;have b2:=vg w B;simp only[reduceCtorEq,decide_false,zg,fg,lox,hix,resS,i,floorI lf h3 N h ω,floorI lf h3 M h ω,fe,kL,restI lf h3 N h ω,restI lf h3 M h ω,rng2 lf h3 (x:=z.fmod l) (y:=w.fmod l) ω ω];rw[ad5 B zw];by_cases e:z.fdiv l=w.fdiv l
      ·rw[fa e,gR (by rw[e]),fg]
      ·rw[gT e,gP (fun x=>e (nZ x)),ff]
   | false =>
    rw[ff,gT ψ];have al:Wf (toA (allS l))∧ofA (toA (allS l))=allS l:=by
     have m:=mkA (aaU B h.2) (.inr ⟨by simp[allS],by simp[allS]⟩);rw[show emp (allS l)=false from gP (show ¬((0:Int) > l-1) by omega),gT ψ]at m;exact m
    have ks:=ha.ks.e2 p;have ins:leqA (ofA a) (allS l)=decide (0≤key (ofA a).lo∧key (ofA a).hi < l):=by
     rw[adU,show key (allS l).lo=0 from rfl,show key (allS l).hi=l-1 from rfl];simp only[decide_eq_decide];omega
    have Y:=rF ha.okK.1;simp only[i1,i0,J,fe,O,aey lf h3 ha al.1,al.2,ins];rw[show key (X.fin l)=l from rfl];by_cases c1:0≤key (ofA a).lo∧key (ofA a).hi < l
    ·rw[gR c1,fg,fa c1,aat ha]
    ·rw[gP c1,ff,gT c1];have s:okb C (tx c):=by
      cases c with
      | ni=>trivial
      | pi=>trivial
      | fin v =>
       have n: -C < v∧v < C:=D.2;simp only[tx,clip,fa n];exact n
     have t:okb C (some (-1)):=by simp only[okb];omega
     have P:=rsumO lf h3 s t;rw[show ob (some (-1))=bs (z7 (-1)) from rfl]at P;have G:hix (addO (tx c) (some (-1)))=xsh c (-1):=by
      cases c with
      | ni=>exact p2.elim
      | pi=>rfl
      | fin v =>
       have n: -C < v∧v < C:=D.2;simp only[tx,clip,fa n];rfl
     have g:=xB s t;have j:∀ o:Option Int,okb K o→ax.f lf (bs (z7 0)) (ob o)=some (ac (toA ⟨.fin 0,hix o⟩),()):=fun o U=>kE lf h3 (some 0) o (by simp only[okb];omega) U;simp only[im1,P,fe,jh];by_cases d:0≤key (ofA a).lo
     ·rw[fa d];rw[E]at d⊢;simp only at d⊢;cases b:a.lo with
      | none=>rw[b]at d;simp only[lox,key]at d;omega
      | some z =>
       rw[b]at d;have k:0≤z:=d;have W:=zn lf h3 _ _ g ha.hiK;have r:=yQ g ha.hiK;simp only[reduceCtorEq,decide_false,zg,fg,i,signI,fe,zh,gR k,W,j _ r.2,r.1,G]
     ·rw[gT d];rw[E]at d;cases b:a.lo with
      | none=>simp only[decide_true,zj,ff,j _ g,fe,G]
      | some z =>
       rw[b]at d;have k:¬0≤z:=d;simp only[reduceCtorEq,decide_false,zg,fg,ff,i,signI,fe,zh,gP k,j _ g,G]
end
def ru{s:Sp}(he:emp (posS s)=false)(hs:oks C s)(f:Pr s):∃ l,(posS s).lo=.fin l∧1≤l∧Po (posS s).hi:=by
 obtain⟨l,a,b,g,c,d,e⟩:=aah he hs f;refine⟨l,a,b,?_⟩;cases h:(posS s).hi with
 | ni=>rw[d]at h;exact absurd h e
 | pi=>trivial
 | fin z=>have:=c z h;simp only[Po];omega
def neg_pos{s:Sp}(h:emp s=false):emp (negS s)=emp (posS (turn s))∧(emp (negS s)=false→turn (negS s)=posS (turn s)):=by
 have f:=K_gt;have et:turn s=⟨xneg s.hi,xneg s.lo⟩:=by unfold turn;rw[gT (by simp[h])]
 have a:key (negS s).lo=max (key s.lo) (-K):=by simp only[negS,common,mg];rfl
 have b:key (negS s).hi=min (key s.hi) (-1):=by simp only[negS,common,lM];rfl
 have d:key (posS (turn s)).lo=max (-key s.hi) 1:=by rw[et];simp only[posS,common,mg,mO];rfl
 have e:key (posS (turn s)).hi=min (-key s.lo) K:=by rw[et];simp only[posS,common,lM,mO];rfl
 constructor
 ·unfold emp;rw[a,b,d,e];simp only[decide_eq_decide];omega
 ·intro he;unfold turn;rw[gT (by simp[he]),gT (by simp[h])];unfold posS negS common;simp only;congr 1
  ·unfold xmin xmax;rw[mO,show key (X.fin (-1))= -1 from rfl,show key (X.fin 1)=1 from rfl];by_cases c: -1 < key s.hi
   ·rw[fa c,fa ω];rfl
   ·rw[gT c,gT ω]
  ·unfold xmin xmax;rw[mO,show key X.ni= -K from rfl,show key X.pi=K from rfl];by_cases c: -K > key s.lo
   ·rw[fa c,fa ω];rfl
   ·rw[gT c,gT ω]
def yY{s:Sp}(h:oks C s):oks C (negS s):=uw h ⟨trivial,qC δ δ⟩
def ai2{s:Sp}(h:oks C s):oks C (zerS s):=uw h ⟨qC δ δ,qC δ δ⟩
def ab9{s t:Sp}(hs:Pr s)(ht:Pr t)(ok:oks C s)(g:oks C t):Pr (common s t):=by
 unfold Pr;by_cases e:emp (common s t)=true
 ·exact .inl e
 ·right;have c:=of_decide_eq_false (show emp (common s t)=false by simpa using e);simp only[common,mg,lM]at c;have d:¬emp s=true:=fun h=>by have:=of_decide_eq_true h;omega
  have f:¬emp t=true:=fun h=>by have:=of_decide_eq_true h;omega
  have a:=hs.resolve_left d;have b:=ht.resolve_left f;constructor
  ·simp only[common];unfold xmax;split
   ·exact b.1
   ·exact a.1
  ·simp only[common];unfold xmin;split
   ·exact b.2
   ·exact a.2
def aag{s:Sp}(h:Pr s)(ok:oks C s):Pr (negS s):=ab9 h (.inr ⟨ψ,ψ⟩) ok ⟨trivial,qC δ δ⟩
def aiH{s:Sp}(h:Pr s)(ok:oks C s):Pr (posS s):=ab9 h (.inr ⟨ψ,ψ⟩) ok ⟨qC δ δ,trivial⟩
def abN(lf:Nat)(h3:200000≤lf){a:A}(ha:Wf a):bG.f lf (ac (toA (negS (ofA a))))=some (ac (toA (if a.em=true then non else posS (turn (ofA a)))),()):=by
 have m:=mkA (yY ha.okC) (aag ha.pr ha.okC);rw[oJ lf h3 m.1,m.2];refine congrArg (fun x=>some (ac x,())) ?_;cases c:a.em with
 | true =>
  have b:=jV ha;rw[c]at b;have:emp (negS (ofA a))=true:=by
   have:=of_decide_eq_true b;apply gR;simp only[negS,common,mg,lM];omega
  rw[fa this,fa rfl];exact zl (by rw[oU];exact iM) |>.trans (zl iM).symm
 | false =>
  have b:=jV ha;rw[c]at b;have d:=neg_pos b;cases e:emp (negS (ofA a))with
  | true =>
   simp only[if_true,if_false,ze];rw[zl (by rw[oU];exact iM),zl (by rw[←d.1,e])]
  | false =>
   simp only[if_false,ze];rw[d.2 e]
def aef{x y:X}(h:x≠.pi):xover x y≠.pi:=by
 cases x with
 | pi=>exact absurd rfl h
 | ni=>simp[xover]
 | fin z=>cases y<;>simp only[xover]<;>(try split)<;>simp
def aee{x y:X}(h:x≠.ni):xover x y≠.ni:=by
 cases x with
 | ni=>exact absurd rfl h
 | pi=>simp[xover]
 | fin z=>cases y<;>simp only[xover]<;>(try split)<;>simp
def ahv{s u:Sp}(hs:oks C s)(p1:Po u.lo)(p2:Po u.hi):oks C (quS s u):=by
 have a:∀ {y:X},Po y→∀ b,y=.fin b→1≤b:=fun h b e=>by subst e;exact h
 unfold quS;rw[aeH,aeG];constructor<;>simp only<;>split
 ·exact vZ hs.1 (a p1)
 ·exact vZ hs.1 (a p2)
 ·exact vZ hs.2 (a p1)
 ·exact vZ hs.2 (a p2)
def ahw{s u:Sp}(h:s.lo≠.pi∧s.hi≠.ni):(quS s u).lo≠.pi∧(quS s u).hi≠.ni:=by
 unfold quS;rw[aeH,aeG];constructor<;>simp only<;>split
 ·exact aef h.1
 ·exact aef h.1
 ·exact aee h.2
 ·exact aee h.2
def mk2{s:Sp}{b:Bool}(h:b=false→oks C s∧emp s=false∧s.lo≠.pi∧s.hi≠.ni):Wf (toA (if b=true then non else s))∧ofA (toA (if b=true then non else s))=if b=true then non else s:=by
 cases b with
 | true =>
  simp only[if_true];have m:=mkA (s:=non) jJ (.inl iM);rw[iM,fa rfl]at m;exact m
 | false =>
  obtain⟨a,c,h3⟩:=h rfl;simp only[if_false,ze];have m:=mkA a (.inr h3);rw[c,gT ψ]at m;exact m
def wP(s:Sp):(toA s).em=emp s:=by unfold toA;cases emp s<;>rfl
section
variable (lf:Nat)(h3:200000≤lf)
include h3
theorem ajX{a b:A}(ha:Wf a)(hb:Wf b):nN.f lf (ac a) (ac b)=some (ac (toA (quoS (ofA a) (ofA b))),()):=by
 have hs:=ha.okC;have ht:=hb.okC;have ps:=ha.pr;have pt:=hb.pr;have j:=jV ha;have n:=jV hb;have r:=turnA ha;have i:=gW ht;have w:=aaP lf h3 ha (gB ht) (fun e=>ru e ht pt);have u2:oks C (if b.em=true then non else posS (turn (ofA b))):=by split;exact jJ;exact gB i
 have q:=aaP lf h3 r.1 u2 (fun e=>by
  by_cases c:b.em=true
  ·rw[fa c]at e;rw[iM]at e;cases e
  ·rw[gT c]at e⊢;exact ru e i pt.turn)
 rw[wP,r.2,oU]at q;have v:idxL [ac (toA (negS (ofA b))),ac (toA (zerS (ofA b))),ac (toA (posS (ofA b)))] 2=some (ac (toA (posS (ofA b)))):=rfl;have i0':idxL [ac (toA (negS (ofA b))),ac (toA (zerS (ofA b))),ac (toA (posS (ofA b)))] 0=some (ac (toA (negS (ofA b)))):=rfl;rw[nN.f,abb lf h3 hb,fe];simp only[v,fe,w,oJ lf h3 ha,i0',abN lf h3 hb,q];unfold quoS;rw[j];cases e0:a.em with
 | true =>
  simp only[if_true];have m:=mkA (s:=non) jJ (.inl iM);rw[vV lf h3 m.1 m.1,fe,m.2,iM,fa rfl,tK]
 | false =>
  rw[e0]at j;have es:=j;have pr:=ps.resolve_left (by simp[es]);have et:emp (turn (ofA a))=false:=by rw[oU,es]
  have k:=ps.turn.resolve_left (by simp[et]);simp only[if_false,ze];have o:=mk2 (s:=quS (ofA a) (posS (ofA b))) (b:=emp (posS (ofA b))) (fun e=>by
   obtain⟨l,d,h,g⟩:=ru e ht pt;have p1:Po (posS (ofA b)).lo:=by rw[d];exact h
   refine⟨ahv hs p1 g,?_,ahw pr⟩;rw[←ac7 hs (gB ht) es e p1 g];exact aaV es e)
  have t:emp (posS (ofA b))=false→quS (ofA a) (posS (ofA b))=apS xover (ofA a) (posS (ofA b)):=fun e=>by
   obtain⟨l,d,h,g⟩:=ru e ht pt;exact(ac7 hs (gB ht) es e (by rw[d];exact h) g).symm
  have eq:(if emp (if b.em=true then non else posS (turn (ofA b)))=true then non else quS (turn (ofA a)) (if b.em=true then non else posS (turn (ofA b))))=if emp (posS (turn (ofA b)))=true then non else quS (turn (ofA a)) (posS (turn (ofA b))):=by
   cases c:b.em with
   | false=>simp only[if_false,ze]
   | true =>
    simp only[if_true,iM];rw[c]at n;have:emp (posS (turn (ofA b)))=true:=by
     have d:emp (turn (ofA b))=true:=by rw[oU,n]
     have:=of_decide_eq_true d;apply gR;simp only[posS,common,mg,lM];omega
    rw[this,fa rfl]
  rw[eq];have p:=mk2 (s:=quS (turn (ofA a)) (posS (turn (ofA b)))) (b:=emp (posS (turn (ofA b)))) (fun e=>by
   obtain⟨l,d,h,g⟩:=ru e i pt.turn;have p1:Po (posS (turn (ofA b))).lo:=by rw[d];exact h
   refine⟨ahv (gW hs) p1 g,?_,ahw k⟩;rw[←ac7 (gW hs) (gB i) et e p1 g];exact aaV et e)
  have u:emp (posS (turn (ofA b)))=false→quS (turn (ofA a)) (posS (turn (ofA b)))=apS xover (turn (ofA a)) (posS (turn (ofA b))):=fun e=>by
   obtain⟨l,d,h,g⟩:=ru e i pt.turn;exact(ac7 (gW hs) (gB i) et e (by rw[d];exact h) g).symm
  rw[vV lf h3 o.1 p.1,fe,o.2,p.2];refine congrArg (fun x=>some (ac (toA x),())) ?_;cases c1:emp (posS (ofA b))<;>cases c2:emp (posS (turn (ofA b)))<;>simp only[if_true,if_false,ze]
  ·rw[t c1,u c2]
  ·rw[t c1]
  ·rw[u c2]
theorem ac9{s u:Sp}(h:s.lo≠.pi∧s.hi≠.ni)(g:oks C u)(p1:Po u.lo)(p2:Po u.hi)(hs:oks C s)(es:emp s=false):emp (remI s u)=false∧(remI s u).lo≠.pi∧(remI s u).hi≠.ni:=by
 have f:=fD;have d:=C_gt;have ks:=of_decide_eq_false es;have i:=rF hs.K.2;unfold remI;split
 ·rename_i sg;have a:=xu sg;have b:1≤valX u.lo:=by rw[a]at p1;exact p1
  have e0:emp (allS (valX u.lo))=false:=gP (show ¬((0:Int) > valX u.lo-1) by omega);unfold resS;split
  ·rename_i l h _ _;split
   ·exact⟨e0,by simp[allS],by simp[allS]⟩
   ·split
    ·exact⟨e0,by simp[allS],by simp[allS]⟩
    ·rename_i c;exact⟨gP (show ¬(l.fmod (valX u.lo) > h.fmod (valX u.lo)) by omega),ψ,ψ⟩
  ·exact⟨e0,by simp[allS],by simp[allS]⟩
 ·split
  ·exact⟨es,h⟩
  ·rename_i c1 c2;have kx:0≤key (xsh u.hi (-1))∧xsh u.hi (-1)≠.ni:=by
    cases e:u.hi with
    | ni=>rw[e]at p2;exact p2.elim
    | pi=>simp only[xsh,key];exact⟨ω,ψ⟩
    | fin v=>rw[e]at p2;simp only[xsh,key];exact⟨by have:1≤v:=p2;omega,ψ⟩
   refine⟨?_,ψ,?_⟩
   ·apply gP;simp only;rw[show key (X.fin 0)=0 from rfl];split
    ·rw[lM];omega
    ·omega
   ·simp only;split
    ·unfold xmin;split
     ·exact h.2
     ·exact kx.2
    ·exact kx.2
theorem ahc{a b:A}(ha:Wf a)(hb:Wf b):lT.f lf (ac a) (ac b)=some (ac (toA (remS (ofA a) (ofA b))),()):=by
 have hs:=ha.okC;have ht:=hb.okC;have ps:=ha.pr;have pt:=hb.pr;have m:=jV ha;have u:=jV hb;have x:=turnA ha;have ts:=gW hs;have i:=gW ht;have E:=aai lf h3 ha (gB ht) (fun e=>ru e ht pt);have u2:oks C (if b.em=true then non else posS (turn (ofA b))):=by split;exact jJ;exact gB i
 have w:=aai lf h3 x.1 u2 (fun e=>by
  by_cases c:b.em=true
  ·rw[fa c]at e;rw[iM]at e;cases e
  ·rw[gT c]at e⊢;exact ru e i pt.turn)
 rw[wP,x.2,oU]at w;have D:idxL [ac (toA (negS (ofA b))),ac (toA (zerS (ofA b))),ac (toA (posS (ofA b)))] 2=some (ac (toA (posS (ofA b)))):=rfl;have i0':idxL [ac (toA (negS (ofA b))),ac (toA (zerS (ofA b))),ac (toA (posS (ofA b)))] 0=some (ac (toA (negS (ofA b)))):=rfl;rw[lT.f,abb lf h3 hb,fe];simp only[D,fe,E,oJ lf h3 ha,i0',abN lf h3 hb,w];unfold remS;rw[m];have d:=mkA (s:=non) jJ (.inl iM);rw[iM,fa rfl]at d;have q:turn non=non:=by unfold turn;rw[iM,fa rfl]
 cases e0:a.em with
 | true =>
  simp only[if_true];have t:=oJ lf h3 d.1;rw[d.2,q]at t;rw[t,fe,vV lf h3 d.1 d.1,fe,d.2,tK]
 | false =>
  rw[e0]at m;have es:=m;have pr:=ps.resolve_left (by simp[es]);have et:emp (turn (ofA a))=false:=by rw[oU,es]
  have p:=ps.turn.resolve_left (by simp[et]);simp only[if_false,ze];have n:∀ {s:Sp},(∃ l,s.lo=.fin l∧1≤l∧Po s.hi)→Po s.lo∧Po s.hi∧∀ y,(y=s.lo∨y=s.hi)→∀ b,y=.fin b→1≤b:=fun h=>by
   obtain⟨l,j,z,k⟩:=h;refine⟨by rw[j];exact z,k,fun y B b hb=>?_⟩;rcases B with rfl | rfl
   ·rw[j]at hb;injection hb with hb;omega
   ·rw[hb]at k;exact k
  have v:=mk2 (s:=remI (ofA a) (posS (ofA b))) (b:=emp (posS (ofA b))) (fun e=>by
   have g:=n (ru e ht pt);exact⟨wH hs (gB ht) g.2.2,ac9 lf h3 pr (gB ht) g.1 g.2.1 hs es⟩)
  have eq:(if emp (if b.em=true then non else posS (turn (ofA b)))=true then non else remI (turn (ofA a)) (if b.em=true then non else posS (turn (ofA b))))=if emp (posS (turn (ofA b)))=true then non else remI (turn (ofA a)) (posS (turn (ofA b))):=by
   cases c:b.em with
   | false=>simp only[if_false,ze]
   | true =>
    simp only[if_true,iM];rw[c]at u;have:emp (posS (turn (ofA b)))=true:=by
     have j:emp (turn (ofA b))=true:=by rw[oU,u]
     have:=of_decide_eq_true j;apply gR;simp only[posS,common,mg,lM];omega
    rw[this,fa rfl]
  rw[eq];have o:=mk2 (s:=remI (turn (ofA a)) (posS (turn (ofA b)))) (b:=emp (posS (turn (ofA b)))) (fun e=>by
   have g:=n (ru e i pt.turn);exact⟨wH ts (gB i) g.2.2,ac9 lf h3 p (gB i) g.1 g.2.1 ts et⟩)
  have t2:=turnA o.1;have r:=oJ lf h3 o.1;rw[r,fe,vV lf h3 v.1 t2.1,fe,v.2,t2.2,o.2];cases c1:emp (posS (ofA b))with
  | true =>
   simp only[if_true,tK];cases c2:emp (posS (turn (ofA b)))with
   | true=>simp only[if_true,q]
   | false=>simp only[if_false,ze]
  | false =>
   simp only[if_false,ze];cases c2:emp (posS (turn (ofA b)))with
   | true =>
    simp only[if_true,q];have g:=n (ru c1 ht pt);rw[adK _ (.inl (ac9 lf h3 pr (gB ht) g.1 g.2.1 hs es).1)]
   | false=>simp only[if_false,ze]
end
def aj8(x:X):sg (xneg x)= -sg x:=by
 cases x with
 | ni=>rfl
 | pi=>rfl
 | fin z=>simp only[xneg,sg,sgn];(repeat' split)<;>omega
def sF(x:X):xneg (xneg x)=x:=by cases x<;>simp[xneg]
def mJ(x y:X):xmul x y=xmul y x:=by
 unfold xmul;rw[wk (sg y) (sg x)];split
 ·rfl
 ·cases x<;>cases y<;>simp only[wk]
def xA(x y:X):xmul (xneg x) y=xneg (xmul x y):=by
 unfold xmul;rw[aj8,tQ];have a:=sg3 x;have b:=sg3 y;by_cases h:sg x*sg y=0
 ·rw[h,fa δ,fa rfl];rfl
 ·rw[gT ω,gT h];have one:sg x*sg y=1∨sg x*sg y= -1:=by
   rcases a with a | a | a<;>rcases b with b | b | b<;>rw[a,b]at h⊢<;>simp at h⊢
  cases x<;>cases y<;>simp only[xneg,tQ]<;>rcases one with o | o<;>rw[o]<;>rfl
def vM(x y:X):xmul x (xneg y)=xneg (xmul x y):=by rw[mJ,xA,mJ]
def uD{x y:X}:(key (xmul x y) < 0↔sg x*sg y < 0)∧(key (xmul x y)=0↔sg x*sg y=0):=by
 have f:=K_gt;have a:=sg3 x;have b:=sg3 y;unfold xmul;by_cases h:sg x*sg y=0
 ·rw[fa h,h];simp[key]
 ·rw[gT h];have one:sg x*sg y=1∨sg x*sg y= -1:=by
   rcases a with a | a | a<;>rcases b with b | b | b<;>rw[a,b]at h⊢<;>simp at h⊢
  have c:(key (if sg x*sg y=1 then X.pi else X.ni) < 0↔sg x*sg y < 0)∧(key (if sg x*sg y=1 then X.pi else X.ni)=0↔sg x*sg y=0):=by
   rcases one with o | o<;>rw[o]
   ·rw[fa rfl,show key X.pi=K from rfl];omega
   ·rw[gT δ,show key X.ni= -K from rfl];omega
  cases x with
  | fin u=>cases y with
   | fin v =>
    simp only[key];have d:=qR (.fin u);have e:=qR (.fin v);simp only[key]at d e;rcases a with a | a | a<;>rcases b with b | b | b<;>rw[a,b]at h⊢<;>simp at h⊢
    ·have:=Int.mul_pos_of_neg_of_neg (show u < 0 from ω) (show v < 0 from ω);omega
    ·have:=Int.mul_neg_of_neg_of_pos (show u < 0 from ω) (show 0 < v from ω);omega
    ·have:=Int.mul_neg_of_pos_of_neg (show 0 < u from ω) (show v < 0 from ω);omega
    ·have:=m7 (show 0 < u from ω) (show 0 < v from ω);omega
   | ni=>exact c
   | pi=>exact c
  | ni=>exact c
  | pi=>exact c
def uQ{a b:Int}:xmul (.fin a) (.fin b)=.fin (a*b):=by
 unfold xmul;split
 ·rename_i h;have:=(uD (x:=.fin a) (y:=.fin b)).2;have c:=qR (.fin a);have kb:=qR (.fin b);simp only[key]at c kb;rcases Int.mul_eq_zero.1 h with z | z
  ·rw[c.2.1.1 z,lh]
  ·rw[kb.2.1.1 z,uc]
 ·rfl
def sD{x g y:X}(l:okx Dd x)(i:okx Dd g)(m:okx Dd y)(h:key x≤key g)(k:0≤key y):key (xmul x y)≤key (xmul g y):=by
 have D:=K_gt;have C:=Dd_K;have E:=rF (aed l m);have F:=rF (aed i m);have n:=uD (x:=x) (y:=y);have p:=uD (x:=g) (y:=y);have A:=qR x;have q:=qR g;have B:=qR y;have a:=sg3 x;have s:=sg3 g;have b:=sg3 y;have e:∀ {u v:X},(u=.ni∨u=.pi∨v=.ni∨v=.pi)→key (xmul u v)=sg u*sg v*K:=by
  intro u v r;have c:=sg3 u;have d:=sg3 v;unfold xmul;by_cases hz:sg u*sg v=0
  ·rw[fa hz,hz];simp[key]
  ·rw[gT hz];have one:sg u*sg v=1∨sg u*sg v= -1:=by
    rcases c with c | c | c<;>rcases d with d | d | d<;>rw[c,d]at hz⊢<;>simp at hz⊢
   have f:key (if sg u*sg v=1 then X.pi else X.ni)=sg u*sg v*K:=by
    rcases one with o | o<;>rw[o]
    ·rw[fa rfl,show key X.pi=K from rfl];omega
    ·rw[gT δ,show key X.ni= -K from rfl];omega
   rcases r with rfl | rfl | rfl | rfl
   ·exact f
   ·exact f
   ·cases u<;>exact f
   ·cases u<;>exact f
 by_cases G:key y=0
 ·have:sg y=0:=ω;have t:key (xmul x y)=0:=n.2.2 (by rw[this,uc]);have z:key (xmul g y)=0:=p.2.2 (by rw[this,uc]);omega
 have j:sg y=1:=ω;rw[j,mi]at n p;cases y with
 | ni=>simp only[key]at k;omega
 | pi =>
  rw[e (.inr (.inr (.inr rfl))),e (.inr (.inr (.inr rfl))),j,mi,mi];exact wA ω ω
 | fin v =>
  cases x with
  | ni =>
   rw[e (.inl rfl),j,mi,show sg X.ni= -1 from rfl];omega
  | pi =>
   cases g with
   | pi=>exact xp _
   | ni=>simp only[key]at h;omega
   | fin w=>simp only[key,okx]at h i;omega
  | fin u=>cases g with
   | pi =>
    rw[e (u:=X.pi) (.inr (.inl rfl)),j,mi,show sg X.pi=1 from rfl];omega
   | ni=>simp only[key,okx]at h l;omega
   | fin w =>
    rw[uQ,uQ];simp only[key]at h k⊢;exact wA h k
def uK{x b y:X}(c:okx Dd x)(a:okx Dd b)(d:okx Dd y)(h:key x≤key b)(e:key y≤0):key (xmul b y)≤key (xmul x y):=by
 have:=sD c a (aaw d) h (by rw[mO];omega);rw[vM,vM,mO,mO]at this;omega
def El(s:Sp)(x:X):Prop:=okx Dd x∧key s.lo≤key x∧key x≤key s.hi
def zx{s:Sp}(hs:oks C s)(he:emp s=false):El s s.lo:=⟨hs.1.D,xp _,by have:=of_decide_eq_false he;omega⟩
def zu{s:Sp}(hs:oks C s)(he:emp s=false):El s s.hi:=⟨hs.2.D,by have:=of_decide_eq_false he;omega,xp _⟩
def corner{s t:Sp}(hs:oks C s)(ht:oks C t){x y:X}(d:El s x)(e:El t y):
  (∃ a b,(a=s.lo∨a=s.hi)∧(b=t.lo∨b=t.hi)∧key (xmul a b)≤key (xmul x y))∧(∃ a b,(a=s.lo∨a=s.hi)∧(b=t.lo∨b=t.hi)∧key (xmul x y)≤key (xmul a b)):=by
 have one:∀ {s:Sp} {x y:X},oks C s→El s x→okx Dd y→(∃ a,(a=s.lo∨a=s.hi)∧key (xmul a y)≤key (xmul x y))∧(∃ a,(a=s.lo∨a=s.hi)∧key (xmul x y)≤key (xmul a y)):=by
  intro s x y hs d e;by_cases h:0≤key y
  ·exact⟨⟨_,.inl rfl,sD hs.1.D d.1 e d.2.1 h⟩,⟨_,.inr rfl,sD d.1 hs.2.D e d.2.2 h⟩⟩
  ·exact⟨⟨_,.inr rfl,uK d.1 hs.2.D e d.2.2 ω⟩,⟨_,.inl rfl,uK hs.1.D d.1 e d.2.1 ω⟩⟩
 obtain⟨⟨a,c1,c2⟩,⟨j,g,o⟩⟩:=one hs d e.1;have f:∀ {c:X},(c=s.lo∨c=s.hi)→okx Dd c:=fun h=>by rcases h with rfl | rfl;exact hs.1.D;exact hs.2.D
 obtain⟨⟨b,k,l⟩,_⟩:=one ht e (f c1);obtain⟨_,⟨i,m,n⟩⟩:=one ht e (f g);rw[mJ b,mJ y]at l;rw[mJ i,mJ y]at n;exact⟨⟨a,b,c1,k,ω⟩,⟨j,i,g,m,ω⟩⟩
def aav(x y:X):xmin x y=x∨xmin x y=y:=by unfold xmin;split;exact .inr rfl;exact .inl rfl
def aau(x y:X):xmax x y=x∨xmax x y=y:=by unfold xmax;split;exact .inr rfl;exact .inl rfl
def yc{o:X→X→X}{s t:Sp}(hs:emp s=false)(ht:emp t=false):
  ((∃ x y,(x=s.lo∨x=s.hi)∧(y=t.lo∨y=t.hi)∧(apS o s t).lo=o x y)∧(∀ x y,(x=s.lo∨x=s.hi)→(y=t.lo∨y=t.hi)→key (apS o s t).lo≤key (o x y)))∧
  ((∃ x y,(x=s.lo∨x=s.hi)∧(y=t.lo∨y=t.hi)∧(apS o s t).hi=o x y)∧(∀ x y,(x=s.lo∨x=s.hi)→(y=t.lo∨y=t.hi)→key (o x y)≤key (apS o s t).hi)):=by
 have e:apS o s t=⟨xmin (xmin (xmin (o s.lo t.lo) (o s.lo t.hi)) (o s.hi t.lo)) (o s.hi t.hi),xmax (xmax (xmax (o s.lo t.lo) (o s.lo t.hi)) (o s.hi t.lo)) (o s.hi t.hi)⟩:=by
  unfold apS;rw[gT (by simp[hs]),gT (by simp[ht]),tK,hullNE (oO _) (oO _)];have f:=oO (o s.lo t.lo);have g:=oO (o s.lo t.hi);have b:=oO (o s.hi t.lo);have j:=oO (o s.hi t.hi);have a:=uV f g;rw[hullNE f g]at a;rw[hullNE a b];have i:=uV a b;rw[hullNE a b]at i;rw[hullNE i j];rfl
 rw[e];refine⟨⟨?_,?_⟩,⟨?_,?_⟩⟩
 ·simp only;rcases aav (xmin (xmin (o s.lo t.lo) (o s.lo t.hi)) (o s.hi t.lo)) (o s.hi t.hi)with h | h<;>rw[h]
  ·rcases aav (xmin (o s.lo t.lo) (o s.lo t.hi)) (o s.hi t.lo)with h | h<;>rw[h]
   ·rcases aav (o s.lo t.lo) (o s.lo t.hi)with h | h<;>rw[h]
    ·exact⟨_,_,.inl rfl,.inl rfl,rfl⟩
    ·exact⟨_,_,.inl rfl,.inr rfl,rfl⟩
   ·exact⟨_,_,.inr rfl,.inl rfl,rfl⟩
  ·exact⟨_,_,.inr rfl,.inr rfl,rfl⟩
 ·intro x y c d;simp only[lM];rcases c with rfl | rfl<;>rcases d with rfl | rfl<;>omega
 ·simp only;rcases aau (xmax (xmax (o s.lo t.lo) (o s.lo t.hi)) (o s.hi t.lo)) (o s.hi t.hi)with h | h<;>rw[h]
  ·rcases aau (xmax (o s.lo t.lo) (o s.lo t.hi)) (o s.hi t.lo)with h | h<;>rw[h]
   ·rcases aau (o s.lo t.lo) (o s.lo t.hi)with h | h<;>rw[h]
    ·exact⟨_,_,.inl rfl,.inl rfl,rfl⟩
    ·exact⟨_,_,.inl rfl,.inr rfl,rfl⟩
   ·exact⟨_,_,.inr rfl,.inl rfl,rfl⟩
  ·exact⟨_,_,.inr rfl,.inr rfl,rfl⟩
 ·intro x y c d;simp only[mg];rcases c with rfl | rfl<;>rcases d with rfl | rfl<;>omega
def pt(i:Nat)(s:Sp):Sp:=if i=0 then negS s else if i=1 then zerS s else posS s
def Qp(i k:Nat)(p q:Sp):Sp:=if i=1∨k=1 then⟨.fin 0,.fin 0⟩else if i=0 then(if k=0 then⟨xmul p.hi q.hi,xmul p.lo q.lo⟩else⟨xmul p.lo q.hi,xmul p.hi q.lo⟩)else(if k=0 then⟨xmul p.hi q.lo,xmul p.lo q.hi⟩else⟨xmul p.lo q.lo,xmul p.hi q.hi⟩)
def vF{s:Sp}(h:oks C s)(i:Nat):oks C (pt i s):=by
 unfold pt;split
 ·exact yY h
 ·split
  ·exact ai2 h
  ·exact gB h
def i3{i:Nat}(h:i < 3):i=0∨i=1∨i=2:=ω
def uN{s:Sp}(h:oks C s):(key (negS s).lo=key s.lo∧key (negS s).hi=min (key s.hi) (-1))∧(key (zerS s).lo=max (key s.lo) 0∧key (zerS s).hi=min (key s.hi) 0)∧(key (posS s).lo=max (key s.lo) 1∧key (posS s).hi=key s.hi):=by
 have a:=rF h.K.1;have b:=rF h.K.2;have c:key (negS s).lo=max (key s.lo) (-K):=mg s.lo .ni;have d:key (negS s).hi=min (key s.hi) (-1):=lM s.hi (.fin (-1));have h3:key (zerS s).lo=max (key s.lo) 0:=mg s.lo (.fin 0);have e:key (zerS s).hi=min (key s.hi) 0:=lM s.hi (.fin 0);have f:key (posS s).lo=max (key s.lo) 1:=mg s.lo (.fin 1);have g:key (posS s).hi=min (key s.hi) K:=lM s.hi .pi;omega
def acD{s:Sp}(hs:oks C s){i:Nat}{x:X}(h:El (pt i s) x):El s x:=by
 have k:=uN hs;obtain⟨b,a,h3⟩:=h;refine⟨b,?_,?_⟩<;>unfold pt at a h3<;>split at a<;>(try split at a)<;>simp_all<;>omega
def abY{s:Sp}{x:X}(h:El s x):emp s=false:=gP (by have:=h.2;omega)
def wu{s:Sp}(hs:oks C s){x:X}:(El (pt 0 s) x→key x≤-1)∧(El (pt 1 s) x→key x=0)∧(El (pt 2 s) x→1≤key x):=by
 have k:=uN hs;refine⟨fun h=>?_,fun h=>?_,fun h=>?_⟩
 ·have:=h.2.2;simp only[pt,if_true]at this;omega
 ·have a:=h.2.1;have b:=h.2.2;simp only[pt,qq,if_true,if_false]at a b;omega
 ·have:=h.2.1;simp only[pt,show ¬(2=0) by omega,show ¬(2=1) by omega,if_false]at this;omega
def cls{s:Sp}(hs:oks C s){x:X}(h:El s x):∃ i,i < 3∧El (pt i s) x:=by
 have k:=uN hs;obtain⟨a,b,h3⟩:=h;rcases Int.lt_trichotomy (key x) 0 with z | z | z
 ·exact⟨0,ω,a,by simp only[pt,if_true];omega,by simp only[pt,if_true];omega⟩
 ·exact⟨1,ω,a,by simp only[pt,qq,if_true,if_false];omega,by simp only[pt,qq,if_true,if_false];omega⟩
 ·exact⟨2,ω,a,by simp only[pt,show ¬(2=0) by omega,show ¬(2=1) by omega,if_false];omega,by simp only[pt,show ¬(2=0) by omega,show ¬(2=1) by omega,if_false];omega⟩
def sg0{x:X}(h:key x=0):sg x=0:=(qR x).2.1.2 h
def zZ{x y:X}(h:key x=0∨key y=0):xmul x y=.fin 0:=by
 unfold xmul;rw[fa];rcases h with h | h
 ·rw[sg0 h,lh]
 ·rw[sg0 h,uc]
def upr{x y a:X}(d:okx Dd x)(e:okx Dd y)(b:okx Dd a)(h:key y≤key a)(c:0≤key x):key (xmul x y)≤key (xmul x a):=by rw[mJ x y,mJ x a];exact sD e b d h c
def dnr{x y a:X}(d:okx Dd x)(e:okx Dd y)(b:okx Dd a)(h:key y≤key a)(c:key x≤0):key (xmul x a)≤key (xmul x y):=by rw[mJ x y,mJ x a];exact uK e b d h c
def adz{s t:Sp}(hs:oks C s)(ht:oks C t){i k:Nat}(hi:i < 3)(l:k < 3){x y:X}(f:El (pt i s) x)(e:El (pt k t) y):
  key (Qp i k (pt i s) (pt k t)).lo≤key (xmul x y)∧key (xmul x y)≤key (Qp i k (pt i s) (pt k t)).hi:=by
 have ps:=vF hs i;have o:=vF ht k;have m:=abY f;have n:=abY e;have a:=zx ps m;have b:=zu ps m;have c:=zx o n;have d:=zu o n;have S:=@wu s hs;have T:=@wu t ht;rcases i3 hi with rfl | rfl | rfl
 ·have j:=S.1 f;have p:=S.1 a;have q:=S.1 b;rcases i3 l with rfl | rfl | rfl
  ·have g:=T.1 e;have sc:=T.1 c;have h:=T.1 d;simp only[Qp,ri,or_self,if_false,if_true];exact⟨tU (uK f.1 b.1 d.1 f.2.2 ω) (dnr f.1 e.1 d.1 e.2.2 ω),tU (uK a.1 f.1 e.1 f.2.1 ω) (dnr a.1 c.1 e.1 e.2.1 ω)⟩
  ·have g:=T.2.1 e;simp only[Qp,or_true,if_true];rw[zZ (.inr g)];exact⟨xp _,xp _⟩
  ·have g:=T.2.2 e;have sc:=T.2.2 c;have h:=T.2.2 d;simp only[Qp,ri,show ¬(2=1) by omega,show ¬(2=0) by omega,or_self,if_false,if_true];exact⟨tU (dnr a.1 e.1 d.1 e.2.2 ω) (sD a.1 f.1 e.1 f.2.1 ω),tU (sD f.1 b.1 e.1 f.2.2 ω) (dnr b.1 c.1 e.1 e.2.1 ω)⟩
 ·have j:=S.2.1 f;simp only[Qp,true_or,if_true];rw[zZ (.inl j)];exact⟨xp _,xp _⟩
 ·have j:=S.2.2 f;have p:=S.2.2 a;have q:=S.2.2 b;rcases i3 l with rfl | rfl | rfl
  ·have g:=T.1 e;have sc:=T.1 c;have h:=T.1 d;simp only[Qp,ri,show ¬(2=1) by omega,show ¬(2=0) by omega,or_self,if_false,if_true];exact⟨tU (uK f.1 b.1 c.1 f.2.2 ω) (upr f.1 c.1 e.1 e.2.1 ω),tU (uK a.1 f.1 e.1 f.2.1 ω) (upr a.1 e.1 d.1 e.2.2 ω)⟩
  ·have g:=T.2.1 e;simp only[Qp,or_true,if_true];rw[zZ (.inr g)];exact⟨xp _,xp _⟩
  ·have g:=T.2.2 e;have sc:=T.2.2 c;have h:=T.2.2 d;simp only[Qp,show ¬(2=1) by omega,show ¬(2=0) by omega,or_self,if_false];exact⟨tU (sD a.1 f.1 c.1 f.2.1 ω) (upr f.1 c.1 e.1 e.2.1 ω),tU (sD f.1 b.1 e.1 f.2.2 ω) (upr b.1 e.1 d.1 e.2.2 ω)⟩
def aic{s t:Sp}(hs:oks C s)(ht:oks C t){i k:Nat}(hi:i < 3)(h:k < 3)(f:emp (pt i s)=false)(g:emp (pt k t)=false):
  (∃ x y,El (pt i s) x∧El (pt k t) y∧(Qp i k (pt i s) (pt k t)).lo=xmul x y)∧(∃ x y,El (pt i s) x∧El (pt k t) y∧(Qp i k (pt i s) (pt k t)).hi=xmul x y):=by
 have a:=zx (vF hs i) f;have b:=zu (vF hs i) f;have c:=zx (vF ht k) g;have d:=zu (vF ht k) g;by_cases z:i=1∨k=1
 ·have e:xmul (pt i s).lo (pt k t).lo=.fin 0:=by
   apply zZ;rcases z with rfl | rfl
   ·exact .inl ((wu hs).2.1 a)
   ·exact .inr ((wu ht).2.1 c)
  simp only[Qp,fa z];exact⟨⟨_,_,a,c,e.symm⟩,⟨_,_,a,c,e.symm⟩⟩
 ·unfold Qp;rw[gT z];split<;>split
  ·exact⟨⟨_,_,b,d,rfl⟩,⟨_,_,a,c,rfl⟩⟩
  ·exact⟨⟨_,_,a,d,rfl⟩,⟨_,_,b,c,rfl⟩⟩
  ·exact⟨⟨_,_,b,c,rfl⟩,⟨_,_,a,d,rfl⟩⟩
  ·exact⟨⟨_,_,a,c,rfl⟩,⟨_,_,b,d,rfl⟩⟩
def abh{s t:Sp}(hs:oks C s)(ht:oks C t)(i k:Nat):oks K (Qp i k (pt i s) (pt k t)):=by
 have a:=K_gt;have p:=vF hs i;have q:=vF ht k;have z:okx K (.fin 0):=by simp only[okx];omega
 unfold Qp;split
 ·exact⟨z,z⟩
 ·split<;>split
  ·exact⟨rD p.2 q.2,rD p.1 q.1⟩
  ·exact⟨rD p.1 q.2,rD p.2 q.1⟩
  ·exact⟨rD p.2 q.1,rD p.1 q.2⟩
  ·exact⟨rD p.1 q.1,rD p.2 q.2⟩
def abS(x:X):xmul (.fin 1) x=x:=by
 cases x with
 | fin z=>rw[uQ,oc]
 | ni=>rfl
 | pi=>rfl
def abf(x:X):xmul (.fin (-1)) x=xneg x:=by
 have:=xA (.fin 1) x;rw[abS]at this;exact this
section
variable {s t:Sp}(hs:oks C s)(ht:oks C t)(es:emp s=false)(et:emp t=false)(ps:Pr s)(pt':Pr t)
include hs ht es et
theorem yN{x y:X}(a:x=s.lo∨x=s.hi)(b:y=t.lo∨y=t.hi):El s x∧El t y:=by
 constructor
 ·rcases a with rfl | rfl
  ·exact zx hs es
  ·exact zu hs es
 ·rcases b with rfl | rfl
  ·exact zx ht et
  ·exact zu ht et
theorem F1{i k:Nat}(hi:i < 3)(u:k < 3)(q:emp (pt i s)=false)(r:emp (pt k t)=false):
  key (apS xmul s t).lo≤key (Qp i k (pt i s) (pt k t)).lo∧key (Qp i k (pt i s) (pt k t)).hi≤key (apS xmul s t).hi:=by
 obtain⟨⟨x,y,v,w,e⟩,⟨A,B,c,d,p⟩⟩:=aic hs ht hi u q r;have f:=yc (o:=xmul) es et;obtain⟨⟨g,h,c1,c2,c3⟩,_⟩:=corner hs ht (acD hs v) (acD ht w);obtain⟨_,⟨m,n,j,l,z⟩⟩:=corner hs ht (acD hs c) (acD ht d);have a:=f.1.2 g h c1 c2;have b:=f.2.2 m n j l;rw[e,p];omega
theorem F2:(∃ i k,i < 3∧k < 3∧emp (pt i s)=false∧emp (pt k t)=false∧(Qp i k (pt i s) (pt k t)).lo=(apS xmul s t).lo)∧
  (∃ i k,i < 3∧k < 3∧emp (pt i s)=false∧emp (pt k t)=false∧(Qp i k (pt i s) (pt k t)).hi=(apS xmul s t).hi):=by
 have h:=yc (o:=xmul) es et;have ok:=aa2 hs ht;constructor
 ·obtain⟨j,l,c1,c2,c3⟩:=h.1.1;have b:=yN hs ht es et c1 c2;obtain⟨i,hi,e⟩:=cls hs b.1;obtain⟨k,a,g⟩:=cls ht b.2;have c:=abY e;have d:=abY g;have q:=adz hs ht hi a e g;have f:=F1 hs ht es et hi a c d;refine⟨i,k,hi,a,c,d,key_inj (abh hs ht i k).1 ok.1 ?_⟩;rw[←c3]at q;omega
 ·obtain⟨j,l,c1,c2,c3⟩:=h.2.1;have b:=yN hs ht es et c1 c2;obtain⟨i,hi,e⟩:=cls hs b.1;obtain⟨k,a,g⟩:=cls ht b.2;have c:=abY e;have d:=abY g;have q:=adz hs ht hi a e g;have f:=F1 hs ht es et hi a c d;refine⟨i,k,hi,a,c,d,key_inj (abh hs ht i k).2 ok.2 ?_⟩;rw[←c3]at q;omega
end
def near{s:Sp}(hs:oks C s)(ps:Pr s){x:X}(a:El s x):(emp (posS s)=false→¬El (pt 2 s) x→(posS s).lo=.fin 1)∧(emp (negS s)=false→¬El (pt 0 s) x→(negS s).hi=.fin (-1)):=by
 have k:=uN hs;have b:∀ z,key (X.fin z)=z:=fun _=>rfl;refine⟨fun e h=>?_,fun e h=>?_⟩
 ·apply key_inj (gB hs).K.1 ((qC δ δ).mono (zR fD));rw[b];by_cases c:key x≤0
  ·have:=a.2;omega
  ·exfalso;apply h;refine⟨a.1,?_,?_⟩<;>simp only[pt,show ¬(2=0) by omega,show ¬(2=1) by omega,if_false]<;>have:=a.2<;>omega
 ·apply key_inj (yY hs).K.2 ((qC δ δ).mono (zR fD));rw[b];by_cases c:0≤key x
  ·have:=a.2;omega
  ·exfalso;apply h;refine⟨a.1,?_,?_⟩<;>simp only[pt,if_true]<;>have:=a.2<;>omega
def abG{s:Sp}(hs:oks C s)(ps:Pr s):(emp (posS s)=false→key (posS s).lo < C)∧(emp (negS s)=false→-C < key (negS s).hi):=by
 constructor
 ·intro e;obtain⟨l,a,b,_⟩:=aah e hs ps;have:=(gB hs).1;rw[a]at this⊢;exact this.2
 ·intro e;have p:=(aag ps hs).resolve_left (by simp[e]);have ok:=(yY hs).2;have k:=(uN hs).1.2;have c:=K_gt;cases h:(negS s).hi with
  | ni=>exact absurd h p.2
  | pi=>rw[h]at k;simp only[key]at k;omega
  | fin z=>rw[h]at ok;exact ok.1
section
variable {s t:Sp}(hs:oks C s)(ht:oks C t)(es:emp s=false)(et:emp t=false)(ps:Pr s)(pt':Pr t)
include hs ht es et ps pt'
theorem F3{i k:Nat}(hi:i < 3)(B:k < 3)(g:emp (pt i s)=false)(j:emp (pt k t)=false):
  (C≤key (Qp i k (pt i s) (pt k t)).lo→(Qp i k (pt i s) (pt k t)).lo=(apS xmul s t).lo)∧(key (Qp i k (pt i s) (pt k t)).hi≤-C→(Qp i k (pt i s) (pt k t)).hi=(apS xmul s t).hi):=by
 have N:=C_gt;have I:=yc (o:=xmul) es et;have ok:=aa2 hs ht;have D:=abh hs ht i k;have f:=F1 hs ht es et hi B g j;have S:=@wu s hs;have T:=@wu t ht;have a:=zx (vF hs i) g;have b:=zu (vF hs i) g;have c:=zx (vF ht k) j;have d:=zu (vF ht k) j;have sgn:∀ {x y:X},(1≤key x∧1≤key y)∨(key x≤-1∧key y≤-1)→0 < key (xmul x y):=by
  intro x y h;have m:=uD (x:=x) (y:=y);have J:=qR x;have K:=qR y;have L:=sg3 x;have M:=sg3 y;rcases h with h | h
  ·have z:sg x=1:=ω;have A:sg y=1:=ω;rw[z,A]at m;omega
  ·have z:sg x= -1:=ω;have A:sg y= -1:=ω;rw[z,A]at m;omega
 have p:∀ {x y:X},(1≤key x∧key y≤-1)∨(key x≤-1∧1≤key y)→key (xmul x y) < 0:=by
  intro x y h;have m:=uD (x:=x) (y:=y);have J:=qR x;have K:=qR y;have L:=sg3 x;have M:=sg3 y;rcases h with h | h
  ·have z:sg x=1:=ω;have A:sg y= -1:=ω;rw[z,A]at m;omega
  ·have z:sg x= -1:=ω;have A:sg y=1:=ω;rw[z,A]at m;omega
 have u:pt 0 s=negS s:=rfl;have p2:pt 2 s=posS s:=rfl;have v:pt 0 t=negS t:=rfl;have w:pt 2 t=posS t:=rfl;have E:=abG hs ps;have F:=abG ht pt';constructor
 ·intro e;apply key_inj D.1 ok.1;obtain⟨G,H,c1,c2,c3⟩:=I.1.1;have r:=yN hs ht es et c1 c2;by_cases l:El (pt i s) G
  ·by_cases n:El (pt k t) H
   ·have q:=adz hs ht hi B l n;rw[←c3]at q;omega
   ·exfalso;rcases i3 hi with rfl | rfl | rfl<;>rcases i3 B with rfl | rfl | rfl<;>simp only[Qp,ri,qq,show ¬(2=1) by omega,show ¬(2=0) by omega,or_self,or_true,true_or,if_false,if_true]at e<;>(try simp only[show key (X.fin 0)=0 from rfl]at e)<;>(try omega)
    ·rw[u,v]at e;rw[v]at j;rw[(near ht pt' r.2).2 j n,mJ,abf,mO]at e;rw[u]at g;have:=E.2 g;omega
    ·have:=p (x:=(pt 0 s).lo) (y:=(pt 2 t).hi) (.inr ⟨S.1 a,T.2.2 d⟩);omega
    ·have:=p (x:=(pt 2 s).hi) (y:=(pt 0 t).lo) (.inl ⟨S.2.2 b,T.1 c⟩);omega
    ·rw[p2,w]at e;rw[w]at j;rw[(near ht pt' r.2).1 j n,mJ,abS]at e;rw[p2]at g;have:=E.1 g;omega
  ·exfalso;rcases i3 hi with rfl | rfl | rfl<;>rcases i3 B with rfl | rfl | rfl<;>simp only[Qp,ri,qq,show ¬(2=1) by omega,show ¬(2=0) by omega,or_self,or_true,true_or,if_false,if_true]at e<;>(try simp only[show key (X.fin 0)=0 from rfl]at e)<;>(try omega)
   ·rw[u,v]at e;rw[u]at g;rw[(near hs ps r.1).2 g l,abf,mO]at e;rw[v]at j;have:=F.2 j;omega
   ·have:=p (x:=(pt 0 s).lo) (y:=(pt 2 t).hi) (.inr ⟨S.1 a,T.2.2 d⟩);omega
   ·have:=p (x:=(pt 2 s).hi) (y:=(pt 0 t).lo) (.inl ⟨S.2.2 b,T.1 c⟩);omega
   ·rw[p2,w]at e;rw[p2]at g;rw[(near hs ps r.1).1 g l,abS]at e;rw[w]at j;have:=F.1 j;omega
 ·intro e;apply key_inj D.2 ok.2;obtain⟨G,H,c1,c2,c3⟩:=I.2.1;have r:=yN hs ht es et c1 c2;by_cases l:El (pt i s) G
  ·by_cases n:El (pt k t) H
   ·have q:=adz hs ht hi B l n;rw[←c3]at q;omega
   ·exfalso;rcases i3 hi with rfl | rfl | rfl<;>rcases i3 B with rfl | rfl | rfl<;>simp only[Qp,ri,qq,show ¬(2=1) by omega,show ¬(2=0) by omega,or_self,or_true,true_or,if_false,if_true]at e<;>(try simp only[show key (X.fin 0)=0 from rfl]at e)<;>(try omega)
    ·have:=sgn (x:=(pt 0 s).lo) (y:=(pt 0 t).lo) (.inr ⟨S.1 a,T.1 c⟩);omega
    ·rw[u,w]at e;rw[w]at j;rw[(near ht pt' r.2).1 j n,mJ,abS]at e;rw[u]at g;have:=E.2 g;omega
    ·rw[p2,v]at e;rw[v]at j;rw[(near ht pt' r.2).2 j n,mJ,abf,mO]at e;rw[p2]at g;have:=E.1 g;omega
    ·have:=sgn (x:=(pt 2 s).hi) (y:=(pt 2 t).hi) (.inl ⟨S.2.2 b,T.2.2 d⟩);omega
  ·exfalso;rcases i3 hi with rfl | rfl | rfl<;>rcases i3 B with rfl | rfl | rfl<;>simp only[Qp,ri,qq,show ¬(2=1) by omega,show ¬(2=0) by omega,or_self,or_true,true_or,if_false,if_true]at e<;>(try simp only[show key (X.fin 0)=0 from rfl]at e)<;>(try omega)
   ·have:=sgn (x:=(pt 0 s).lo) (y:=(pt 0 t).lo) (.inr ⟨S.1 a,T.1 c⟩);omega
   ·rw[u,w]at e;rw[u]at g;rw[(near hs ps r.1).2 g l,abf,mO]at e;rw[w]at j;have:=F.1 j;omega
   ·rw[p2,v]at e;rw[p2]at g;rw[(near hs ps r.1).1 g l,abS]at e;rw[v]at j;have:=F.2 j;omega
   ·have:=sgn (x:=(pt 2 s).hi) (y:=(pt 2 t).hi) (.inl ⟨S.2.2 b,T.2.2 d⟩);omega
theorem agv{i k:Nat}(hi:i < 3)(G:k < 3)(o:emp (pt i s)=false)(r:emp (pt k t)=false):emp (Qp i k (pt i s) (pt k t))=false∧(Qp i k (pt i s) (pt k t)).lo≠.pi∧(Qp i k (pt i s) (pt k t)).hi≠.ni:=by
 have I:=K_gt;have a:=zx (vF hs i) o;have b:=zu (vF hs i) o;have c:=zx (vF ht k) r;have d:=zu (vF ht k) r;have q:=adz hs ht hi G a c;refine⟨gP ω,?_⟩;have A:∀ {s:Sp},oks C s→Pr s→emp (pt 2 s)=false→∃ z,(pt 2 s).lo=.fin z:=fun h p e=>by
  obtain⟨l,H,_⟩:=aah (s:=_) e h p;exact⟨l,H⟩
 have w:∀ {s:Sp},oks C s→Pr s→emp (pt 0 s)=false→∃ z,(pt 0 s).hi=.fin z:=fun {s} h p e=>by
  have p':=(aag p h).resolve_left (by rw[show negS s=pt 0 s from rfl,e];simp);have k:=(uN h).1.2;cases F:(negS s).hi with
  | ni=>exact absurd F p'.2
  | pi=>rw[F]at k;simp only[key]at k;omega
  | fin z=>exact⟨z,F⟩
 have f:∀ {x y:X} {g:Int},sg x*sg y=g→(g= -1→xmul x y≠.pi)∧(g=1→xmul x y≠.ni):=fun {x y g} h=>by
  have m:=uD (x:=x) (y:=y);rw[h]at m;constructor
  ·rintro rfl e;rw[e]at m;simp only[key]at m;omega
  ·rintro rfl e;rw[e]at m;simp only[key]at m;omega
 have E:=@wu s hs;have sc:=@wu t ht;have D:∀ {x:X},1≤key x→sg x=1:=fun {x} h=>by have:=qR x;have:=sg3 x;omega
 have B:∀ {x:X},key x≤-1→sg x= -1:=fun {x} h=>by have:=qR x;have:=sg3 x;omega
 rcases i3 hi with rfl | rfl | rfl<;>rcases i3 G with rfl | rfl | rfl<;>simp only[Qp,ri,qq,show ¬(2=1) by omega,show ¬(2=0) by omega,or_self,or_true,true_or,if_false,if_true]
 ·obtain⟨u,j⟩:=w hs ps o;obtain⟨v,n⟩:=w ht pt' r;refine⟨by rw[j,n,uQ];simp,(f (g:=1) ?_).2 rfl⟩;rw[B (E.1 a),B (sc.1 c)];rfl
 ·simp
 ·obtain⟨u,j⟩:=w hs ps o;obtain⟨v,n⟩:=A ht pt' r;refine⟨(f (g:= -1) ?_).1 rfl,by rw[j,n,uQ];simp⟩;rw[B (E.1 a),D (sc.2.2 d)];rfl
 ·simp
 ·simp
 ·simp
 ·obtain⟨u,j⟩:=A hs ps o;obtain⟨v,n⟩:=w ht pt' r;refine⟨(f (g:= -1) ?_).1 rfl,by rw[j,n,uQ];simp⟩;rw[D (E.2.2 b),B (sc.1 c)];rfl
 ·simp
 ·obtain⟨u,j⟩:=A hs ps o;obtain⟨v,n⟩:=A ht pt' r;refine⟨by rw[j,n,uQ];simp,(f (g:=1) ?_).2 rfl⟩;rw[D (E.2.2 b),D (sc.2.2 d)];rfl
end
def joinA{a b:A}(ha:Wf a)(hb:Wf b)(g:a.em=false)(h:b.em=false):toA (hull (ofA a) (ofA b))=⟨false,leastO a.lo b.lo,lY a.hi b.hi⟩:=by
 have c:=jV ha;have d:=jV hb;rw[g]at c;rw[h]at d;have ne:=uV c d;rw[hullNE c d]at ne⊢;have i:ofA a=⟨lox a.lo,hix a.hi⟩:=by unfold ofA;rw[gT (by simp[g])]
 have j:ofA b=⟨lox b.lo,hix b.hi⟩:=by unfold ofA;rw[gT (by simp[h])]
 unfold toA;rw[ne,gT ψ,i,j];simp only;rw[←(ach ha.loK hb.loK).1,←(zY ha.hiK hb.hiK).1,adq,adp];have l1:=ha.lo;have l2:=hb.lo;have l3:=ha.hi;have l4:=hb.hi;congr 1
 ·cases e:a.lo<;>cases f:b.lo<;>simp only[leastO,gF,wT,clip];rw[e]at l1;rw[f]at l2;simp only[okb]at l1 l2;rw[fa (by split<;>omega)]
 ·cases e:a.hi<;>cases f:b.hi<;>simp only[lY,gF,wT,clip];rw[e]at l3;rw[f]at l4;simp only[okb]at l3 l4;rw[fa (by split<;>omega)]
def LoI(S:List Sp):Option Int→Prop
 | none=>∃ q∈S,tx q.lo=none
 | some m=>(∃ q∈S,tx q.lo=some m)∧∀ q∈S,∃ z,tx q.lo=some z∧m≤z
def HiI(S:List Sp):Option Int→Prop
 | none=>∃ q∈S,tx q.hi=none
 | some m=>(∃ q∈S,tx q.hi=some m)∧∀ q∈S,∃ z,tx q.hi=some z∧z≤m
structure Inv(S:List Sp)(out:A):Prop where
 wf:Wf out
 nil:S=[]→out=E0
 some:S≠[]→out.em=false∧LoI S out.lo∧HiI S out.hi
def ag3{S:List Sp}{out:A}(h:Inv S out){q:Sp}(E:oks K q)(eq:emp q=false)(p1:q.lo≠.pi)(p2:q.hi≠.ni):Inv (q::S) (toA (hull (ofA out) (ofA (toA q)))):=by
 have d:Wf (toA q):=nT E (.inr ⟨p1,p2⟩);have s:toA q=⟨false,tx q.lo,tx q.hi⟩:=by unfold toA;rw[eq,gT ψ]
 by_cases B:S=[]
 ·subst B;have e:=h.nil rfl;subst e;have e0:ofA E0=non:=rfl;rw[e0,tK,aat d];refine⟨d,(fun h=>by simp at h),fun _=>?_⟩;rw[s];refine⟨rfl,?_,?_⟩
  ·simp only;cases a:tx q.lo with
   | none=>exact⟨q,ψ,a⟩
   | some m=>exact⟨⟨q,ψ,a⟩,fun r i=>by simp only[sj]at i;subst i;exact⟨m,a,xp _⟩⟩
  ·simp only;cases a:tx q.hi with
   | none=>exact⟨q,ψ,a⟩
   | some m=>exact⟨⟨q,ψ,a⟩,fun r i=>by simp only[sj]at i;subst i;exact⟨m,a,xp _⟩⟩
 ·obtain⟨u,k,l⟩:=h.some B;have em:(toA q).em=false:=by rw[s]
  have j:=joinA h.wf d u em;have w:Wf (toA (hull (ofA out) (ofA (toA q)))):=by
   refine nT (jO h.wf.okK d.okK) ?_;have x:=h.wf.pr;have y:=d.pr;have n:=jV h.wf;have o:=jV d;rw[u]at n;rw[em]at o;right;rw[hullNE n o];have C:=x.resolve_left (by simp[n]);have D:=y.resolve_left (by simp[o]);constructor
   ·simp only;rcases aav (ofA out).lo (ofA (toA q)).lo with g | g<;>rw[g]
    ·exact C.1
    ·exact D.1
   ·simp only;rcases aau (ofA out).hi (ofA (toA q)).hi with g | g<;>rw[g]
    ·exact C.2
    ·exact D.2
  refine⟨w,(fun h=>by simp at h),fun _=>?_⟩;rw[j,s];refine⟨rfl,?_,?_⟩
  ·simp only;cases f:out.lo with
   | none =>
    rw[f]at k;obtain⟨r,r1,r2⟩:=k;exact⟨r,by simp[r1],r2⟩
   | some m =>
    rw[f]at k;obtain⟨⟨r,r1,r2⟩,r3⟩:=k;cases a:tx q.lo with
    | none=>exact⟨q,ψ,a⟩
    | some z =>
     simp only[leastO];by_cases c:z < m
     ·rw[fa c];refine⟨⟨q,ψ,a⟩,fun p b=>?_⟩;rcases ww.1 b with rfl | b
      ·exact⟨z,a,xp _⟩
      ·obtain⟨v,t,F⟩:=r3 p b;exact⟨v,t,ω⟩
     ·rw[gT c];refine⟨⟨r,by simp[r1],r2⟩,fun p b=>?_⟩;rcases ww.1 b with rfl | b
      ·exact⟨z,a,ω⟩
      ·exact r3 p b
  ·simp only;cases f:out.hi with
   | none =>
    rw[f]at l;obtain⟨r,r1,r2⟩:=l;exact⟨r,by simp[r1],r2⟩
   | some m =>
    rw[f]at l;obtain⟨⟨r,r1,r2⟩,r3⟩:=l;cases a:tx q.hi with
    | none=>exact⟨q,ψ,a⟩
    | some z =>
     simp only[lY];by_cases c:m < z
     ·rw[fa c];refine⟨⟨q,ψ,a⟩,fun p b=>?_⟩;rcases ww.1 b with rfl | b
      ·exact⟨z,a,xp _⟩
      ·obtain⟨v,t,F⟩:=r3 p b;exact⟨v,t,ω⟩
     ·rw[gT c];refine⟨⟨r,by simp[r1],r2⟩,fun p b=>?_⟩;rcases ww.1 b with rfl | b
      ·exact⟨z,a,ω⟩
      ·exact r3 p b
def prs:List (Nat×Nat):=[(0,0),(0,1),(0,2),(1,0),(1,1),(1,2),(2,0),(2,1),(2,2)]
def stA(s t:Sp)(out:A)(p:Nat×Nat):A:=if emp (pt p.1 s)=true then out else if emp (pt p.2 t)=true then out else toA (hull (ofA out) (ofA (toA (Qp p.1 p.2 (pt p.1 s) (pt p.2 t)))))
def stL(s t:Sp)(S:List Sp)(p:Nat×Nat):List Sp:=if emp (pt p.1 s)=true then S else if emp (pt p.2 t)=true then S else Qp p.1 p.2 (pt p.1 s) (pt p.2 t)::S
section
variable {s t:Sp}(hs:oks C s)(ht:oks C t)(es:emp s=false)(et:emp t=false)(ps:Pr s)(pt':Pr t)
include hs ht es et ps pt'
theorem inv_one{S:List Sp}{out:A}(h:Inv S out){p:Nat×Nat}(a:p.1 < 3)(b:p.2 < 3):Inv (stL s t S p) (stA s t out p):=by
 unfold stL stA;by_cases c1:emp (pt p.1 s)=true
 ·rw[fa c1,fa c1];exact h
 ·rw[gT c1,gT c1];by_cases c2:emp (pt p.2 t)=true
  ·rw[fa c2,fa c2];exact h
  ·rw[gT c2,gT c2];have q:=agv hs ht es et ps pt' a b (by simpa using c1) (by simpa using c2);exact ag3 h (abh hs ht _ _) q.1 q.2.1 q.2.2
theorem afl:∀ (l:List (Nat×Nat)) (S:List Sp) (out:A),(∀ p∈l,p.1 < 3∧p.2 < 3)→Inv S out→Inv (l.foldl (stL s t) S) (l.foldl (stA s t) out)
 | [],S,out,_,h=>h
 | p::l,S,out,hl,h=>by
  have a:=hl p ψ;exact afl l _ _ (fun q b=>hl q (by simp[b])) (inv_one hs ht es et ps pt' h a.1 a.2)
omit hs ht es et ps pt' in
theorem afp(q:Sp):∀ (l:List (Nat×Nat)) (S:List Sp),q∈l.foldl (stL s t) S↔q∈S∨∃ p∈l,emp (pt p.1 s)=false∧emp (pt p.2 t)=false∧q=Qp p.1 p.2 (pt p.1 s) (pt p.2 t)
 | [],S=>ψ
 | p::l,S=>by
  rw[tf,afp q l];unfold stL;by_cases c1:emp (pt p.1 s)=true
  ·rw[fa c1];simp[c1]
  ·rw[gT c1];by_cases c2:emp (pt p.2 t)=true
   ·rw[fa c2];simp[c2]
   ·rw[gT c2];simp only[ww,Bool.not_eq_true]at c1 c2⊢;constructor
    ·rintro ((h | h) | ⟨r,r1,r2⟩)
     ·exact .inr ⟨p,.inl rfl,c1,c2,h⟩
     ·exact .inl h
     ·exact .inr ⟨r,.inr r1,r2⟩
    ·rintro (h | ⟨r,rfl | r1,r2⟩)
     ·exact .inl (.inr h)
     ·exact .inl (.inl r2.2.2)
     ·exact .inr ⟨r,r1,r2⟩
theorem agR:prs.foldl (stA s t) E0=toA (apS xmul s t):=by
 have hC:=C_gt;have hK:=fD;have v:=afl hs ht es et ps pt' prs [] E0 δ ⟨ug▸nT jJ (.inl iM),fun _=>rfl,fun h=>absurd rfl h⟩;have mem:=fun q=>afp (s:=s) (t:=t) q prs [];have V:=F2 hs ht es et;have y:∀ p∈prs,p.1 < 3∧p.2 < 3:=δ;have u:∀ i k,i < 3→k < 3→(i,k)∈prs:=by
  intro i k hi l;rcases i3 hi with rfl | rfl | rfl<;>rcases i3 l with rfl | rfl | rfl<;>decide
 have ok:=aa2 hs ht;have ne:=aaV (o:=xmul) es et;generalize hS:prs.foldl (stL s t) []=S at v mem;have W:∀ q,q∈S→∃ i k,i < 3∧k < 3∧emp (pt i s)=false∧emp (pt k t)=false∧q=Qp i k (pt i s) (pt k t):=fun q N=>by
  rcases (mem q).1 N with h | ⟨p,p1,p2,Y,Z⟩
  ·simp at h
  ·exact⟨p.1,p.2,(y p p1).1,(y p p1).2,p2,Y,Z⟩
 have f:∀ q∈S,key (apS xmul s t).lo≤key q.lo∧key q.hi≤key (apS xmul s t).hi∧(C≤key q.lo→q.lo=(apS xmul s t).lo)∧(key q.hi≤-C→q.hi=(apS xmul s t).hi)∧oks K q:=fun q N=>by
  obtain⟨i,k,hi,l,A,B,rfl⟩:=W q N;have a:=F1 hs ht es et hi l A B;have b:=F3 hs ht es et ps pt' hi l A B;exact⟨a.1,a.2,b.1,b.2,abh hs ht i k⟩
 obtain⟨⟨i,k,hi,l,A,B,U⟩,⟨F,G,J,L,H,I,T⟩⟩:=V;have Q:Qp i k (pt i s) (pt k t)∈S:=(mem _).2 (.inr ⟨(i,k),u i k hi l,A,B,rfl⟩);have qH:Qp F G (pt F s) (pt G t)∈S:=(mem _).2 (.inr ⟨(F,G),u F G J L,H,I,rfl⟩);have M:S≠[]:=List.ne_nil_of_mem Q;obtain⟨P,D,E⟩:=v.some M;generalize hO:prs.foldl (stA s t) E0=out at *
 have tl:∀ x:X,∀ z,tx x=some z→x=.fin z∧-C < z∧z < C:=fun x z h=>by
  cases x with
  | ni=>simp[tx]at h
  | pi=>simp[tx]at h
  | fin w =>
   simp only[tx,clip]at h;split at h
   ·rename_i c;injection h with h;subst h;exact⟨rfl,c⟩
   ·simp at h
 have R:∀ x:X,okx K x→tx x=none→key x≤-C∨C≤key x:=fun x n h=>by
  cases x with
  | ni=>left;simp only[key];omega
  | pi=>right;simp only[key];omega
  | fin w =>
   simp only[tx,clip]at h;split at h
   ·simp at h
   ·simp only[key];omega
 have r1:out.lo=tx (apS xmul s t).lo:=by
  cases r:out.lo with
  | none =>
   rw[r]at D;obtain⟨q,g,d⟩:=D;obtain⟨l1,l2,l3,l4,l5⟩:=f q g;cases n:tx (apS xmul s t).lo with
   | none=>rfl
   | some z =>
    exfalso;have t1:=tl _ _ n;rcases R _ l5.1 d with c | c
    ·rw[t1.1,show key (X.fin z)=z from rfl]at l1;omega
    ·have e:=l3 c;rw[e,n]at d;cases d
  | some m =>
   rw[r]at D;obtain⟨⟨q,g,d⟩,O⟩:=D;obtain⟨l1,l2,l3,l4,l5⟩:=f q g;obtain⟨z,j,z2⟩:=O _ Q;rw[U]at j;have t1:=tl _ _ j;have t2:=tl _ _ d;rw[t1.1,t2.1]at l1;simp only[key]at l1;rw[j];congr 1;omega
 have r2:out.hi=tx (apS xmul s t).hi:=by
  cases r:out.hi with
  | none =>
   rw[r]at E;obtain⟨q,g,d⟩:=E;obtain⟨l1,l2,l3,l4,l5⟩:=f q g;cases n:tx (apS xmul s t).hi with
   | none=>rfl
   | some z =>
    exfalso;have t1:=tl _ _ n;rcases R _ l5.2 d with c | c
    ·have e:=l4 c;rw[e,n]at d;cases d
    ·rw[t1.1,show key (X.fin z)=z from rfl]at l2;omega
  | some m =>
   rw[r]at E;obtain⟨⟨q,g,d⟩,O⟩:=E;obtain⟨l1,l2,l3,l4,l5⟩:=f q g;obtain⟨z,j,z2⟩:=O _ qH;rw[T]at j;have t1:=tl _ _ j;have t2:=tl _ _ d;rw[t1.1,t2.1]at l2;simp only[key]at l2;rw[j];congr 1;omega
 unfold toA;rw[ne,gT ψ,←r1,←r2];obtain⟨oe,ol,oh⟩:=out;simp only at P;rw[P]
end
def afv{s:Sp}(hs:oks C s){i:Nat}(h:emp (pt i s)=false):emp s=false:=by
 have k:=uN hs;have:=of_decide_eq_false h;apply gP;unfold pt at this;split at this
 ·omega
 ·split at this<;>omega
def adJ{s t:Sp}(h:emp s=true∨emp t=true)(hs:oks C s)(ht:oks C t):prs.foldl (stA s t) E0=toA (apS xmul s t):=by
 have b:∀ {s:Sp},oks C s→emp s=true→∀ i,emp (pt i s)=true:=fun {s} h e i=>by
  have k:=uN h;have:=of_decide_eq_true e;apply gR;unfold pt;split
  ·omega
  ·split<;>omega
 have d:∀ out p,stA s t out p=out:=fun out p=>by
  unfold stA;rcases h with h | h
  ·rw[fa (b hs h _)]
  ·split
   ·rfl
   ·rw[fa (b ht h _)]
 have a:∀ l:List (Nat×Nat),l.foldl (stA s t) E0=E0:=fun l=>by
  induction l with
  | nil=>rfl
  | cons p l c=>rw[tf,d];exact c
 rw[a];unfold apS;rcases h with h | h
 ·rw[fa h,ug]
 ·rw[fa h,ite_self,ug]
def PosA(a:A):Prop:=Wf a∧a.em=false∧∃ l,a.lo=some l∧1≤l
def afX{x y:X}(a:sg x=1)(b:sg y=1)(h:x=.pi∨y=.pi):xmul x y=.pi:=by
 unfold xmul;rw[a,b];rcases h with rfl | rfl
 ·cases y<;>rfl
 ·cases x<;>rfl
def prS(s t:Sp):Sp:=⟨xmul s.lo t.lo,xmul s.hi t.hi⟩
def agh(lf:Nat)(h3:200000≤lf){a b:A}(ha:PosA a)(hb:PosA b):jY.f lf (ac a) (ac b)=some (ac (toA (prS (ofA a) (ofA b))),()):=by
 have G:=CC_K;have F:=C_gt;obtain⟨e,i,l,k,l1⟩:=ha;obtain⟨wb,j,m,em,K⟩:=hb;obtain⟨L,I,D⟩:=a;obtain⟨w,J,g⟩:=b;simp only at i j k em;subst i j k em;have n: -C < l∧l < C:=e.lo;have o: -C < m∧m < C:=wb.lo;have M:=rY n o;have E:0≤C*C:=yf ω ω;have d:=qm lf h3 (CK n) (CK o);have c:∀ z:Int,ob (some z)=bs (z7 z):=fun _=>rfl;have e0:(⟨#[]⟩:ByteArray)=ob none:=rfl;have x:=e.hi;have y:=wb.hi;have B:=e.le;have s:=wb.le;have r:∀ {z:Int},1≤z→sg (.fin z)=1:=fun {z} h=>by simp only[sg,sgn];rw[gT ω,gT ω]
 rw[jY.f];simp only[ac,jh,c,prS,ofA,ze,if_false,lox,uQ];cases D with
 | none =>
  simp only[decide_true,zj,ff,d,fe];rw[e0,rng1 lf h3 ω,fe];have:xmul (hix none) (hix g)=.pi:=by
   cases g with
   | none=>rfl
   | some v =>
    have t:m≤v:=s;exact afX rfl (r ω) (.inl rfl)
  rw[this];rfl
 | some u =>
  have H:l≤u:=B;have p: -C < u∧u < C:=x;simp only[reduceCtorEq,decide_false,zg,fg];cases g with
  | none =>
   simp only[decide_true,zj,ff,d,fe];rw[e0,rng1 lf h3 ω,fe];have:xmul (hix (some u)) (hix none)=.pi:=by
    exact afX (r ω) rfl (.inr rfl)
   rw[this];rfl
  | some v =>
   have t:m≤v:=s;have q: -C < v∧v < C:=y;have N:=rY p q;simp only[reduceCtorEq,decide_false,zg,fg,c,qm lf h3 (CK p) (CK q),d,fe];rw[rng2 lf h3 ω ω,fe];simp only[hix,uQ];rfl
def ae1(x:X)(a:okx K x):tx (xneg x)=(tx x).map fun z=> -z:=by
 cases x with
 | ni=>rfl
 | pi=>rfl
 | fin z =>
  simp only[xneg,tx,clip];by_cases c: -C < z∧z < C
  ·rw[fa c,fa ω];rfl
  ·rw[gT c,gT ω];rfl
def toAf{s:Sp}(e:emp s=false):toA s=⟨false,tx s.lo,tx s.hi⟩:=by unfold toA;rw[e,gT ψ]
def ah1{s:Sp}(hs:oks K s)(es:emp s=false)(p1:s.lo≠.pi)(p2:s.hi≠.ni):toA (turn (ofA (toA s)))=toA ⟨xneg s.hi,xneg s.lo⟩:=by
 have w:Wf (toA s):=nT hs (.inr ⟨p1,p2⟩);have e:(toA s).em=false:=by rw[wP,es]
 have d:toA s=⟨false,tx s.lo,tx s.hi⟩:=by unfold toA;rw[es,gT ψ]
 have c:=jV w;rw[e]at c;have et:emp (turn (ofA (toA s)))=false:=by rw[oU,c]
 have f:emp ⟨xneg s.hi,xneg s.lo⟩=false:=by
  have:=of_decide_eq_false es;apply gP;simp only[mO];omega
 have g:turn (ofA (toA s))=⟨xneg (hix (tx s.hi)),xneg (lox (tx s.lo))⟩:=by
  unfold turn;rw[gT (by simp[c]),d];simp only[ofA,ze,if_false]
 have a:=w.hi;have b:=w.lo;rw[d]at a b;simp only at a b;rw[toAf et,toAf f,g];simp only;rw[ae1 s.hi hs.2,ae1 s.lo hs.1];congr 1
 ·cases h:tx s.hi with
  | none=>rfl
  | some z =>
   rw[h]at a;simp only[okb]at a;simp only[hix,xneg,tx,clip,wj];rw[fa ω]
 ·cases h:tx s.lo with
  | none=>rfl
  | some z =>
   rw[h]at b;simp only[okb]at b;simp only[lox,xneg,tx,clip,wj];rw[fa ω]
def aeO{s:Sp}(hs:oks C s)(e:emp (negS s)=false)(p:Pr s):PosA (toA (turn (negS s)))∧ofA (toA (turn (negS s)))=⟨xneg (negS s).hi,xneg (negS s).lo⟩:=by
 have k:=(uN hs).1;have ok:=yY hs;have pr:=aag p hs;have m:=mkA (gW ok) pr.turn;have et:emp (turn (negS s))=false:=by rw[oU,e]
 rw[et,gT ψ]at m;have f:turn (negS s)=⟨xneg (negS s).hi,xneg (negS s).lo⟩:=by unfold turn;rw[gT (by simp[e])]
 refine⟨⟨m.1,by rw[wP,et],?_⟩,by rw[m.2,f]⟩;have b:=K_gt;have a:=(abG hs p).2 e;cases h:(negS s).hi with
 | ni=>rw[h]at a;have:=fD;simp only[key]at a;omega
 | pi=>rw[h]at k;simp only[key]at k;omega
 | fin z =>
  rw[h]at k a;simp only[key]at k a;refine⟨-z,?_,ω⟩;unfold toA;rw[et,gT ψ,f,h];simp only[xneg,tx,clip];rw[fa ω]
def aiI{s:Sp}(hs:oks C s)(e:emp (posS s)=false)(p:Pr s):PosA (toA (posS s))∧ofA (toA (posS s))=posS s:=by
 have m:=mkA (gB hs) (aiH p hs);rw[e,gT ψ]at m;obtain⟨l,a,b,_⟩:=aah e hs p;refine⟨⟨m.1,by rw[wP,e],l,?_,b⟩,m.2⟩;have ok:=(gB hs).1;rw[a]at ok;simp only[okx]at ok;unfold toA;rw[e,gT ψ,a];simp only[tx,clip];rw[fa ok]
def pp(i:Nat)(s:Sp):Sp:=if i=0 then⟨xneg (negS s).hi,xneg (negS s).lo⟩else posS s
def ad2(lf:Nat)(h3:200000≤lf){s:Sp}(hs:oks C s)(p:Pr s){i:Nat}(d:i=0∨i=2)(e:emp (pt i s)=false):
  ∃ a:A,iw.f lf (ac (toA (pt i s))) ((i:Nat):Int)=some (ac a,())∧PosA a∧ofA a=pp i s:=by
 rcases d with rfl | rfl
 ·have m:=mkA (yY hs) (aag p hs);have c:emp (negS s)=false:=e;rw[c,gT ψ]at m;have t:=aeO hs c p;refine⟨_,?_,t.1,t.2⟩;rw[iw.f];have tr:=oJ lf h3 m.1;rw[m.2]at tr;have b:bG.f lf (ac (toA (pt 0 s)))=some (ac (toA (turn (negS s))),()):=tr;exact(fg _ _).trans (by rw[b,fe])
 ·have t:=aiI hs e p;refine⟨_,?_,t.1,t.2⟩;rw[iw.f];exact ff _ _
def akl{s t:Sp}{i k:Nat}(hi:i=0∨i=2)(a:k=0∨k=2):Qp i k (pt i s) (pt k t)=if i=k then prS (pp i s) (pp k t)else⟨xneg (prS (pp i s) (pp k t)).hi,xneg (prS (pp i s) (pp k t)).lo⟩:=by
 rcases hi with rfl | rfl<;>rcases a with rfl | rfl<;>simp only[Qp,pt,pp,prS,ri,show ¬(2=1) by omega,show ¬(2=0) by omega,show ¬(0=2) by omega,or_self,if_false,if_true]
 ·rw[xA,vM,sF,xA,vM,sF]
 ·rw[xA,xA,sF,sF]
 ·rw[vM,vM,sF,sF]
section
variable (lf:Nat)(h3:200000≤lf){s t:Sp}(hs:oks C s)(ht:oks C t)(ps:Pr s)(pt':Pr t)
include h3 hs ht ps pt'
theorem ahZ{ρ:Type}(v w:List IV)(I:Bool)(L M:ByteArray){i k:Nat}(hi:i < 3)(P:k < 3)(T:idxL v ((i:Nat):Int)=some (ac (toA (pt i s))))(U:idxL w ((k:Nat):Int)=some (ac (toA (pt k t))))(out:A)(R:Wf out)
  (q:Int→Bool→ByteArray→ByteArray→Option ρ) (E0:Bool→ByteArray→ByteArray→Option ρ) :
  dw.r1 lf v w ((i:Nat):Int) I L M ((k:Nat):Int) out.em (ob out.lo) (ob out.hi) q E0=q ((k+1:Nat):Int) (stA s t out (i,k)).em (ob (stA s t out (i,k)).lo) (ob (stA s t out (i,k)).hi):=by
 have W:=C_gt;have Y:=fD;have N:i64.wrap (((k:Nat):Int)+1)=((k+1:Nat):Int):=by rw[w64 ω ω];omega
 have l:(ac (toA (pt i s))).1=emp (pt i s):=wP _;have m:(ac (toA (pt k t))).1=emp (pt k t):=wP _;have E:((out.em,ob out.lo,ob out.hi,()):IV)=ac out:=rfl;rw[dw.r1,gR ω,fg];simp only[T,U,fe,N,l,m,E];unfold stA;cases c1:emp (pt i s)with
 | true=>rw[fg,fa rfl]
 | false=>cases c2:emp (pt k t)with
  | true=>rw[ff,fg,gT ψ,fa rfl]
  | false =>
   have es:=afv hs c1;have et:=afv ht c2;have c:=agv hs ht es et ps pt' hi P c1 c2;have d:=abh hs ht i k;have S:Wf (toA (Qp i k (pt i s) (pt k t))):=nT d (.inr c.2);have u: -K < (0:Int)∧(0:Int) < K:=ω;have r0:=rng2 lf h3 u u;have J:=vV lf h3 R S;rw[ff,ff,gT ψ,gT ψ,jW.f,i0,r0,fe,fe];by_cases z:i=1∨k=1
   ·have eq:Qp i k (pt i s) (pt k t)=⟨.fin 0,.fin 0⟩:=by unfold Qp;rw[fa z]
    rw[eq]at J⊢;by_cases y:i=1
    ·subst y;rw[show((((1:Nat):Int)) != 1)=false from rfl,ff,J,fe];rfl
    ·have V:=z.resolve_left y;subst V;rw[show(((i:Nat):Int) != 1)=true by simp only[bne_iff_ne,ne_eq];omega,fg,show((((1:Nat):Int)) != 1)=false from rfl,ff,J,fe];rfl
   ·have g:i=0∨i=2:=ω;have j:k=0∨k=2:=ω;obtain⟨a,B,C,D⟩:=ad2 lf h3 hs ps g c1;obtain⟨b,F,G,H⟩:=ad2 lf h3 ht pt' j c2;have pr:=agh lf h3 C G;rw[D,H]at pr;have eq:=akl (s:=s) (t:=t) g j;rw[show(((i:Nat):Int) != 1)=true by simp only[bne_iff_ne,ne_eq];omega,fg,show(((k:Nat):Int) != 1)=true by simp only[bne_iff_ne,ne_eq];omega,fg,B,fe,F,fe,pr,fe];by_cases r:i=k
    ·rw[fa r]at eq;rw[show(((i:Nat):Int) !=((k:Nat):Int))=false by simp only[bne_eq_false_iff_eq];omega,ff];rw[eq]at J⊢;rw[J,fe];rfl
    ·rw[gT r]at eq;have Q:toA (turn (ofA (toA (prS (pp i s) (pp k t)))))=toA (Qp i k (pt i s) (pt k t)):=by
      have O:emp (prS (pp i s) (pp k t))=false:=by
       have:=of_decide_eq_false c.1;rw[eq]at this;simp only[mO]at this;exact gP ω
      rw[eq]at d c;have o1:∀ {x:X},okx K (xneg x)→okx K x:=fun {x} h=>by have:=aaw h;rwa [sF]at this
      have n:(prS (pp i s) (pp k t)).lo≠.pi:=fun e=>by
       apply c.2.2;simp only;rw[e];rfl
      have o:(prS (pp i s) (pp k t)).hi≠.ni:=fun e=>by
       apply c.2.1;simp only;rw[e];rfl
      rw[ah1 ⟨o1 d.2,o1 d.1⟩ O n o,eq]
     have p:Wf (toA (prS (pp i s) (pp k t))):=by
      rw[eq]at d c;have o1:∀ {x:X},okx K (xneg x)→okx K x:=fun {x} h=>by have:=aaw h;rwa [sF]at this
      have n:(prS (pp i s) (pp k t)).lo≠.pi:=fun e=>by
       apply c.2.2;simp only;rw[e];rfl
      have o:(prS (pp i s) (pp k t)).hi≠.ni:=fun e=>by
       apply c.2.1;simp only;rw[e];rfl
      exact nT ⟨o1 d.2,o1 d.1⟩ (.inr ⟨n,o⟩)
     have tr:=oJ lf h3 p;rw[Q]at tr;rw[show(((i:Nat):Int) !=((k:Nat):Int))=true by simp only[bne_iff_ne,ne_eq];omega,fg,tr,fe,J,fe];rfl
theorem akd{out:A}(b:Wf out){p:Nat×Nat}(i:p.1 < 3)(j:p.2 < 3):Wf (stA s t out p):=by
 unfold stA;split
 ·exact b
 ·split
  ·exact b
  ·rename_i c1 c2;have es:=afv hs (by simpa using c1);have et:=afv ht (by simpa using c2);have l:=agv hs ht es et ps pt' i j (by simpa using c1) (by simpa using c2);have k:=abh hs ht p.1 p.2;have d:Wf (toA (Qp p.1 p.2 (pt p.1 s) (pt p.2 t))):=nT k (.inr l.2);refine nT (jO b.okK d.okK) ?_;by_cases a:emp (ofA out)=true
   ·rcases d.pr with h | h
    ·left;unfold hull;rw[fa a];exact h
    ·right;unfold hull;rw[fa a];exact h
   ·by_cases c:emp (ofA (toA (Qp p.1 p.2 (pt p.1 s) (pt p.2 t))))=true
    ·rcases b.pr with h | h
     ·exact absurd h a
     ·right;unfold hull;rw[gT a,fa c];exact h
    ·right;have e:=b.pr.resolve_left a;have f:=d.pr.resolve_left c;rw[hullNE (by simpa using a) (by simpa using c)];constructor
     ·simp only;rcases aav (ofA out).lo (ofA (toA (Qp p.1 p.2 (pt p.1 s) (pt p.2 t)))).lo with g | g<;>rw[g]
      ·exact e.1
      ·exact f.1
     ·simp only;rcases aau (ofA out).hi (ofA (toA (Qp p.1 p.2 (pt p.1 s) (pt p.2 t)))).hi with g | g<;>rw[g]
      ·exact e.2
      ·exact f.2
def sv(s:Sp):List IV:=[ac (toA (negS s)),ac (toA (zerS s)),ac (toA (posS s))]
omit h3 hs ht ps pt' in
theorem ajk(s:Sp){i:Nat}(a:i < 3):idxL (sv s) ((i:Nat):Int)=some (ac (toA (pt i s))):=by
 rcases i3 a with rfl | rfl | rfl<;>rfl
theorem aki(b:Bool)(c e:ByteArray){i:Nat}(hi:i < 3):∀ (d n k:Nat) (out:A),k+d=3→d < n→Wf out→
  ∃ o,dw.l1 lf (sv s) (sv t) ((i:Nat):Int) b c e n ((k:Nat):Int) out.em (ob out.lo) (ob out.hi)=some ((o.em,ob o.lo,ob o.hi,()),())∧Wf o∧o=((uB k d).map fun k=>(i,k)).foldl (stA s t) out:=by
 intro d
 induction d with
 | zero =>
  intro n k out f g a;obtain⟨m,rfl⟩:=zv (show n≠0 from ω);refine⟨out,?_,a,rfl⟩;rw[dw.l1,dw.r1,gP ω,ff]
 | succ d h =>
  intro n k out f g a;obtain⟨m,rfl⟩:=zv (show n≠0 from ω);obtain⟨o,o1,o2,o3⟩:=h m (k+1) (stA s t out (i,k)) ω ω (akd lf h3 hs ht ps pt' a hi (show k < 3 from ω));refine⟨o,?_,o2,?_⟩
  ·rw[dw.l1,ahZ lf h3 hs ht ps pt' (sv s) (sv t) b c e hi (show k < 3 from ω) (ajk s hi) (ajk t (show k < 3 from ω)) out a];exact o1
  ·rw[o3,mE,List.map_cons,tf]
theorem akh(a:Bool)(b c:ByteArray):∀ (d n i:Nat) (out:A),i+d=3→d < n→Wf out→
  ∃ o,dw.l0 lf (sv s) (sv t) a b c n ((i:Nat):Int) out.em (ob out.lo) (ob out.hi)=some ((o.em,ob o.lo,ob o.hi,()),())∧o=((uB i d).flatMap fun i=>(uB 0 3).map fun k=>(i,k)).foldl (stA s t) out:=by
 intro d
 induction d with
 | zero =>
  intro n i out g h e;obtain⟨m,rfl⟩:=zv (show n≠0 from ω);refine⟨out,?_,rfl⟩;rw[dw.l0,dw.r0,gP ω,ff]
 | succ d j =>
  intro n i out g h e;obtain⟨m,rfl⟩:=zv (show n≠0 from ω);obtain⟨p,p1,p2,l⟩:=aki lf h3 hs ht ps pt' a b c (show i < 3 from ω) 3 (lf+40) 0 out ω ω e;obtain⟨o,o1,o3⟩:=j m (i+1) p ω ω p2;have f:i64.wrap (((i:Nat):Int)+1)=((i+1:Nat):Int):=by rw[w64 ω ω];omega
  refine⟨o,?_,?_⟩
  ·rw[show((0:Nat):Int)=0 from rfl]at p1;rw[dw.l0,dw.r0,gR ω,fg,p1,fe,f];exact o1
  ·rw[o3,l,mE (s:=i) (n:=d),List.flatMap_cons,List.foldl_append]
end
def akk:Wf E0:=ug▸nT jJ (.inl iM)
def aiW(lf:Nat)(h3:200000≤lf){a b:A}(ha:Wf a)(hb:Wf b):dw.f lf (ac a) (ac b)=some (ac (toA (apS xmul (ofA a) (ofA b))),()):=by
 have hs:=ha.okC;have ht:=hb.okC;obtain⟨o,o1,o2⟩:=akh lf h3 hs ht ha.pr hb.pr false (⟨#[]⟩:ByteArray) (⟨#[]⟩:ByteArray) 3 (lf+40) 0 E0 ω ω akk;have e:((uB 0 3).flatMap fun i=>(uB 0 3).map fun k=>(i,k))=prs:=δ;rw[e]at o2;have fin:prs.foldl (stA (ofA a) (ofA b)) E0=toA (apS xmul (ofA a) (ofA b)):=by
  cases es:emp (ofA a)with
  | true=>exact adJ (.inl es) hs ht
  | false=>cases et:emp (ofA b)with
   | true=>exact adJ (.inr et) hs ht
   | false=>exact agR hs ht es et ha.pr hb.pr
 rw[fin]at o2;rw[dw.f,aA.f,fe,abb lf h3 ha,fe,abb lf h3 hb,fe];have c:dw.l0 lf (sv (ofA a)) (sv (ofA b)) false (⟨#[]⟩:ByteArray) (⟨#[]⟩:ByteArray) (lf+40) 0 true (⟨#[]⟩:ByteArray) (⟨#[]⟩:ByteArray)=some ((o.em,ob o.lo,ob o.hi,()),()):=o1;rw[show([ac (toA (negS (ofA a))),ac (toA (zerS (ofA a))),ac (toA (posS (ofA a)))]:List IV)=sv (ofA a) from rfl,show([ac (toA (negS (ofA b))),ac (toA (zerS (ofA b))),ac (toA (posS (ofA b)))]:List IV)=sv (ofA b) from rfl];simp only[c,fe];rw[o2];rfl
def opS(op:Int)(s t:Sp):Sp:=if op=3 then addS s t else if op=4 then addS s (turn t)else if op=5 then apS xmul s t else if op=6 then quoS s t else remS s t
def op3{op:Int}(h:3≤op∧op≤7):op=3∨op=4∨op=5∨op=6∨op=7:=ω
def vS{x y q r:Int}(h:x=y*q+r)(i:0 < y)(d:0≤r)(f:r < y)(g:0≤x):z8 y r=z8 x y:=by
 have e:r=x % y:=by rw[h,Int.mul_add_emod_self_left];exact(pg d f).symm
 obtain⟨a,rfl⟩:=ko g;obtain⟨b,rfl⟩:=ko (zR i);have c:r=((a % b:Nat):Int):=by rw[e];rfl
 rw[c,lz,lz,Nat.gcd_comm a b,Nat.gcd_rec b a,Nat.gcd_comm]
def ab8(lf:Nat)(hlf:2000000000≤lf):∀ (k n:Nat) (xs a:List Int),lv G a≤k→k < n→Dg G xs→Dg G a→Tr xs→Tr a→xs.length≤40000→a.length≤40000→
  ∃ r,iL.l0 lf n xs a=some ((r,()),())∧Dg G r∧Tr r∧r.length≤max xs.length a.length∧lv G r=(z8 (lv G xs) (lv G a):Int):=by
 intro k
 induction k with
 | zero =>
  intro n xs a o p c b tx f s i;obtain⟨m,rfl⟩:=zv (show n≠0 from ω);have x:=dF (B:=G) δ b;have j:=dF (B:=G) δ c;have:a=[]:=(zI (B:=G) δ b f).1 ω;subst this;refine⟨xs,?_,c,tx,ω,?_⟩
  ·rw[iL.l0,iL.r0,gP ψ,ff]
  ·rw[show lv G []=0 from rfl,rj];omega
 | succ k q =>
  intro n xs a o p c b tx f s i;obtain⟨m,rfl⟩:=zv (show n≠0 from ω);have j:=dF (B:=G) δ c;by_cases h:a=[]
  ·subst h;refine⟨xs,?_,c,tx,ω,?_⟩
   ·rw[iL.l0,iL.r0,gP ψ,ff]
   ·rw[show lv G []=0 from rfl,rj];omega
  ·obtain⟨Q,R,e,u,w,g,d,val,lt⟩:=zU lf xs a c b tx f h ω ω hlf;have t:=vW (B:=G) δ b f h;have l:=dF (B:=G) δ g;have v:R.length≤a.length:=by
    by_cases z:R.length≤a.length
    ·exact z
    ·have:=oZ (B:=G) δ b g d ω;omega
   obtain⟨r,r1,r2,r3,r4,r5⟩:=q m a R ω ω b g f d i ω;refine⟨r,?_,r2,r3,ω,?_⟩
   ·have:0 < a.length:=vj.2 h;rw[iL.l0,iL.r0,gR ω,fg,e,fe];exact r1
   ·rw[r5,vS val t l lt j]
def Big(lf:Nat):Prop:=2000000000≤lf∧K < (lf:Int)
def akv(lf:Nat)(hb:Big lf){x y:Int}(c: -K < x∧x < K)(d: -K < y∧y < K):vO.f lf (bs (z7 x)) (bs (z7 y))=some (bs (z7 (z8 x y)),0,()):=by
 obtain⟨hlf,k⟩:=hb;obtain⟨p,q,e,a,b,_⟩:=xP lf _ _ (chkK c) (chkK d) ω;rw[dW]at a b;have i:lv G p.2.1=(x.natAbs:Int):=by
  have:=a.val;have:=dF (B:=G) δ a.dg;split at*<;> omega
 have j:lv G q.2.1=(y.natAbs:Int):=by
  have:=b.val;have:=dF (B:=G) δ b.dg;split at*<;> omega
 obtain⟨r,r1,r2,r3,r4,r5⟩:=ab8 lf hlf (lf+39) (lf+40) p.2.1 q.2.1 ω ω a.dg b.dg a.tr b.tr (by have:=a.len;omega) (by have:=b.len;omega);rw[i,j]at r5;have g:(z8 (x.natAbs:Int) (y.natAbs:Int):Int)=(z8 x y:Int):=by
  rw[lz];rfl
 have h:RN (false,r,()) (z8 x y) 4096:=⟨r2,r3,by have:=a.len;have:=b.len;simp only;omega,by simp only[ze,if_false];rw[r5,g]⟩
 rw[vO.f,e,fe];simp only[bne_self_eq_false,ff];rw[iL.f,r1,fe,fe,xN lf h ω ω,fe]
def rO(lf:Nat)(z:Int):dh.f lf (bs (z7 z))=some (bs (z7 (z.natAbs:Int)),()):=by
 rw[dh.f,lI lf _ (kX z),fe];simp only;rw[xg];have b:z7 (z.natAbs:Int)=D z.natAbs:=by unfold z7;rw[gT ω];rfl
 rw[b];by_cases a:z < 0
 ·have e:z7 z=45::D z.natAbs:=by unfold z7;rw[fa a]
  rw[gR a,fg,e,xk (45::D z.natAbs) 1 1 rfl ψ,fe];rfl
 ·have e:z7 z=D z.natAbs:=by unfold z7;rw[gT a];congr 1;omega
  rw[gP a,ff,e]
def i0':z7 0=[48]:=by unfold z7;rw[gT ω];exact qN
def beq0(z:Int):((bs (z7 z)).toList==(⟨#[48]⟩:ByteArray).toList)=decide (z=0):=by
 rw[show(⟨#[48]⟩:ByteArray)=bs [48] from rfl,kL,←i0'];simp only[decide_eq_decide];exact⟨fun e=>nZ e,fun e=>by rw[e]⟩
def aeI(lf:Nat)(h3:200000≤lf):∀ (k n:Nat) (x y:Int),0≤x→0≤y→y≤k→k < n→sz x≤20000→sz y≤20000→
  bH.l0 lf n (bs (z7 x)) (bs (z7 y))=some ((bs (z7 (z8 x y)),()),()):=by
 intro k
 induction k with
 | zero =>
  intro n x y e o f g d c;obtain⟨m,rfl⟩:=zv (show n≠0 from ω);obtain rfl:y=0:=ω;rw[bH.l0,bH.r0,beq0,gR rfl,zj,ff,rj,show((x.natAbs:Nat):Int)=x by omega]
 | succ k i =>
  intro n x y e o f g d c;obtain⟨m,rfl⟩:=zv (show n≠0 from ω);rw[bH.l0,bH.r0,beq0];by_cases h:y=0
  ·subst h;rw[gR rfl,zj,ff,rj,show((x.natAbs:Nat):Int)=x by omega]
  ·have j:=wh x y;have a:=xd x (show 0 < y from ω);have b:=yW x (show 0 < y from ω);have l:sz (x.fmod y)≤20000:=by
    have:=wQ c ω;exact aas ω ω
   rw[gP h,zg,fg,vk lf h3 d c h,fe];have:=i m y (x.fmod y) ω a ω ω c l;rw[vS j.symm ω a b e]at this;exact this
def rW(lf:Nat)(hb:Big lf){x y:Int}(b: -K < x∧x < K)(c: -K < y∧y < K):bH.f lf (bs (z7 x)) (bs (z7 y))=some (bs (z7 (z8 x y)),()):=by
 obtain⟨hlf,a⟩:=hb;have d:=(sz_K (x.natAbs:Int)).2 ω;have e:=(sz_K (y.natAbs:Int)).2 ω;rw[bH.f,rO,fe,rO,fe,aeI lf ω (lf+39) (lf+40) _ _ ω ω ω ω ω ω,fe];have g:(z8 (x.natAbs:Int) (y.natAbs:Int))=z8 x y:=by rw[lz];rfl
 rw[g]
def ckc(em:Bool)(l h:List UInt8):Int :=
 if em=true then(if l≠[]∨h≠[]then 3 else 0)else if num l≠0 then num l else if num h≠0 then num h else if iv l < 0∨(iv l≠0∧(iv h < 0∨¬iv h < iv l))then 2 else 0
def ajd(lf:Nat)(l:List UInt8)(b:l.length≤9223372036854775807)(c:l.length≤lf):kK.f lf (bs l)=some (num l,()):=by
 rw[kK.f,agS lf l b c,fe];unfold num chk;cases hc:can l with
 | false=>simp[fg]
 | true =>
  simp only[zj,ff,if_true];rw[rZ lf l (nD hc).2.2 b,fe];by_cases h:nlen l > 100
  ·rw[gR ω,fg];by_cases a:nlen l > 4096
   ·rw[fa a];rfl
   ·rw[gT a,gT ψ,fa h]
  ·rw[gP ω,ff,gT (show ¬nlen l > 4096 from ω),gT ψ,gT h]
def ag9(lf:Nat)(l:List UInt8)(a:l.length≤9223372036854775807):jg.f lf (bs l)=some (decide (nlen l > 100),()):=by
 have:=aa3 l;rw[jg.f,rC,fe,jU];congr 2;simp only[decide_eq_decide];unfold nlen;omega
def numC(lf:Nat)(l:List UInt8)(b:l.length≤9223372036854775807):lX.f lf (bs l)=some (num l,()):=by
 rw[lX.f,sH lf l b,fe];simp only[ag9 lf l b,fe];unfold num;by_cases h:chk l=0
 ·rw[h];simp only[show((0:Int)==10)=false from rfl,ff,BEq.rfl,fg,bne_self_eq_false,ne_eq,not_true,if_false];by_cases a:nlen l > 100
  ·rw[gR a,fg,fa a]
  ·rw[gP a,ff,gT a]
 ·rw[fa h,show(chk l==0)=false from beq_eq_false_iff_ne.2 h,ff,bneT h,fg];by_cases a:chk l=10
  ·rw[a,BEq.rfl,fg]
  ·rw[show(chk l==10)=false from beq_eq_false_iff_ne.2 a,ff]
def abB(lf:Nat)(l m:List UInt8)(a:chk l=0)(b:chk m=0)(h3:200000≤lf):jf.f lf (bs l) (bs m)=some (decide (iv l < iv m),()):=by
 rw[jf.f,aaz lf l m a b h3,fe];simp only;rw[oN.f,fe];congr 2;simp only[decide_eq_decide];unfold sgn;(repeat' split)<;>omega
def ai7(lf:Nat)(h3:200000≤lf)(em:Bool)(l h:List UInt8)(k:l.length≤9223372036854775807)(j:h.length≤9223372036854775807):gu.f lf (em,bs l,bs h,())=some (ckc em l h,()):=by
 rw[gu.f];simp only[e0,kL,numC lf l k,numC lf h j,fe];unfold ckc;cases em with
 | true =>
  rw[fg,fa rfl];by_cases c1:l=[]<;>by_cases c2:h=[]<;>simp[c1,c2,fg,ff]
 | false =>
  rw[ff,gT ψ];by_cases c1:num l=0
  ·rw[c1,bne_self_eq_false,ff,gT ψ];by_cases c2:num h=0
   ·rw[c2,bne_self_eq_false,ff,gT ψ];have g:=zf c1;have i:=zf c2;have z:(⟨#[48]⟩:ByteArray)=bs [48]:=rfl;rw[z,abB lf l [48] g aeZ h3,fe,abB lf h [48] i aeZ h3,abB lf h l i g h3,iv48];simp only[fe];have e:l=[48]↔iv l=0:=(aa0 (nX.1 g).1).symm;by_cases a:iv l < 0
    ·rw[gR a,fg,fa (.inl a)]
    ·rw[gP a,ff];by_cases b:iv l=0
     ·rw[gR (e.2 b),zj,ff,gT ω]
     ·rw[gP (fun x=>b (e.1 x)),zg,fg];by_cases c:iv h < 0
      ·rw[gR c,fg,fa (.inr ⟨b,.inl c⟩)]
      ·rw[gP c,ff];by_cases d:iv h < iv l
       ·rw[gR d,zj,ff,gT ω]
       ·rw[gP d,zg,fg,fa (.inr ⟨b,.inr d⟩)]
   ·rw[bneT c2,fg,fa c2]
  ·rw[bneT c1,fg,fa c1]
def ae0(lf:Nat)(h3:200000≤lf)(em:Bool)(l h:List UInt8)(n:l.length≤9223372036854775807)(m:h.length≤9223372036854775807)(k:l.length≤lf)(j:h.length≤lf):kV.f lf (em,bs l,bs h,())=some (ckc em l h,()):=by
 rw[kV.f];simp only[e0,kL,ajd lf l n k,ajd lf h m j,fe];unfold ckc;cases em with
 | true =>
  rw[fg,fa rfl];by_cases c1:l=[]<;>by_cases c2:h=[]<;>simp[c1,c2,fg,ff]
 | false =>
  rw[ff,gT ψ];by_cases c1:num l=0
  ·rw[c1,bne_self_eq_false,ff,gT ψ];by_cases c2:num h=0
   ·rw[c2,bne_self_eq_false,ff,gT ψ];have g:=zf c1;have i:=zf c2;have l1:=xO c1;have l2:=xO c2;have z:(⟨#[48]⟩:ByteArray)=bs [48]:=rfl;rw[yF lf l (nX.1 g).1,fe,yF lf h (nX.1 i).1,aeA lf h l (nX.1 i).1 (nX.1 g).1 ω ω h3];simp only[fe,afN];have e:l=[48]↔iv l=0:=(aa0 (nX.1 g).1).symm;by_cases a:iv l < 0
    ·rw[gR a,fg,fa (.inl a)]
    ·rw[gP a,ff];by_cases b:iv l=0
     ·rw[gR (e.2 b),zj,ff,gT ω]
     ·rw[gP (fun x=>b (e.1 x)),zg,fg];by_cases c:iv h < 0
      ·rw[gR c,fg,fa (.inr ⟨b,.inl c⟩)]
      ·rw[gP c,ff];by_cases d:iv h < iv l
       ·rw[gR d,zj,ff,gT ω]
       ·rw[gP d,zg,fg,fa (.inr ⟨b,.inr d⟩)]
   ·rw[bneT c2,fg,fa c2]
  ·rw[bneT c1,fg,fa c1]
structure Cg where
 em:Bool
 m:Int
 r:Int
deriving DecidableEq
def cc(c:Cg):IV:=if c.em=true then(true,bs [],bs [],())else(false,bs (z7 c.m),bs (z7 c.r),())
structure WfC(c:Cg):Prop where
 m: -C < c.m∧c.m < C
 r: -C < c.r∧c.r < C
 pos:0≤c.m
 rng:c.m≠0→0≤c.r∧c.r < c.m
def Ec:Cg:=⟨true,0,0⟩
def topC:Cg:=⟨false,1,0⟩
def ajw{em:Bool}{l h:List UInt8}(hc:ckc em l h=0):∃ c:Cg,((em,bs l,bs h,()):IV)=cc c∧WfC c:=by
 have d:=C_gt;unfold ckc at hc;cases em with
 | true =>
  rw[fa rfl]at hc;have:¬(l≠[]∨h≠[]):=fun x=>by rw[fa x]at hc;cases hc
  have l0:l=[]:=by simpa using fun x=>this (.inl x)
  have b:h=[]:=by simpa using fun x=>this (.inr x)
  subst l0 b;exact⟨Ec,rfl,⟨by simp only[Ec];omega,by simp only[Ec];omega,by simp[Ec],fun x=>absurd rfl x⟩⟩
 | false =>
  rw[gT ψ]at hc;by_cases c1:num l=0
  ·rw[gT (by simp[c1])]at hc;by_cases c2:num h=0
   ·rw[gT (by simp[c2])]at hc;have n:¬(iv l < 0∨(iv l≠0∧(iv h < 0∨¬iv h < iv l))):=fun x=>by rw[fa x]at hc;cases hc
    have i1:=yT (tV.1 c1).1;have a:=yT (tV.1 c2).1;refine⟨⟨false,iv l,iv h⟩,by unfold cc;rw[gT ψ];simp only;rw[←i1,←a],?_⟩;rw[i1,vY]at c1;rw[a,vY]at c2;exact⟨c1,c2,by simp only;omega,fun x=>by simp only at x⊢;omega⟩
   ·rw[fa c2]at hc;exact absurd hc c2
  ·rw[fa c1]at hc;exact absurd hc c1
def clsF(m r:Int):Cg :=
 if sz (m.natAbs:Int) > 100∨sz (if m=0 then r else r.fmod (m.natAbs:Int)) > 100 then topC else⟨false,(m.natAbs:Int),if m=0 then r else r.fmod (m.natAbs:Int)⟩
def longI(lf:Nat){z:Int}(hz: -K < z∧z < K):jg.f lf (bs (z7 z))=some (decide (sz z > 100),()):=by
 have:=rq hz;rw[ag9 lf _ ω];rfl
def akm(lf:Nat){z:Int}(hz: -K < z∧z < K):vN.f lf (bs (z7 z))=some (bs (z7 (z.natAbs:Int)),0,()):=by
 have:=rq hz;rw[vN.f,sH lf _ ω,fe];simp only[chkK hz,bne_self_eq_false,ff];rw[rC,fe,aax];have a:z7 (z.natAbs:Int)=D z.natAbs:=by unfold z7;rw[gT ω];rfl
 rw[a]
def acz:((false,(⟨#[49]⟩:ByteArray),(⟨#[48]⟩:ByteArray),()):IV)=cc topC:=by
 unfold cc topC;rw[gT ψ];simp only;rw[i1,i0]
def yD{x m:Int}(c: -K < x∧x < K)(b: -K < m∧m < K)(a:m≠0): -K < x.fmod m∧x.fmod m < K:=by
 have:=abw (x:=x) a;omega
def xE(lf:Nat)(hlf:2000000000≤lf){m r:Int}(c: -K < m∧m < K)(b: -K < r∧r < K):dL.f lf (bs (z7 m)) (bs (z7 r))=some (cc (clsF m r),()):=by
 have ha: -K < (m.natAbs:Int)∧(m.natAbs:Int) < K:=ω;rw[dL.f,akm lf c,fe];simp only[iU.f,fe,beq0,longI lf ha,gZ.f,acz];unfold clsF;by_cases h:m=0
 ·subst h;simp only[longI lf b,fe];rw[gR (by trivial),zj,ff];by_cases c1:sz ((0:Int).natAbs:Int) > 100
  ·rw[gR c1,fg,fa (.inl c1)]
  ·rw[gP c1,ff];by_cases c2:sz r > 100
   ·rw[gR c2,fg,fa (.inr (by rw[fa trivial];exact c2))]
   ·rw[gP c2,ff,gT (by rw[fa trivial];exact fun x=>x.elim c1 c2),fa trivial];unfold cc;rw[gT ψ]
 ·have a:(m.natAbs:Int)≠0:=ω;have d:=yD b ha a;simp only[pz lf hlf b ha a,fe,longI lf d];rw[gP a,zg,fg];by_cases c1:sz (m.natAbs:Int) > 100
  ·rw[gR c1,fg,fa (.inl c1)]
  ·rw[gP c1,ff];by_cases c2:sz (r.fmod (m.natAbs:Int)) > 100
   ·rw[gR c2,fg,fa (.inr (by rw[gT h];exact c2))]
   ·rw[gP c2,ff,gT (by rw[gT h];exact fun x=>x.elim c1 c2),gT h];unfold cc;rw[gT ψ]
def acL(lf:Nat){z:Int}(hz: -K < z∧z < K):bI.f lf (bs (z7 z))=some ((sz z:Int),()):=by
 have:=rq hz;exact rZ lf _ (kX z) ω
def agW(n:Nat):decide (((n:Nat):Int) > 100)=decide (n > 100):=by simp only[decide_eq_decide];omega
def qx(lf:Nat)(h3:200000≤lf){m r:Int}(d: -K < m∧m < K)(a: -K < r∧r < K):bV.f lf (bs (z7 m)) (bs (z7 r))=some (cc (clsF m r),()):=by
 have ha: -K < (m.natAbs:Int)∧(m.natAbs:Int) < K:=ω;rw[bV.f,rO,fe];simp only[beq0,acL lf ha,fe,dB.f,acz,agW];unfold clsF;by_cases h:m=0
 ·subst h;simp only[acL lf a,fe,agW];rw[gR (by trivial),zj,ff];by_cases c1:sz ((0:Int).natAbs:Int) > 100
  ·rw[gR c1,fg,fa (.inl c1)]
  ·rw[gP c1,ff];by_cases c2:sz r > 100
   ·rw[gR c2,fg,fa (.inr (by rw[fa trivial];exact c2))]
   ·rw[gP c2,ff,gT (by rw[fa trivial];exact fun x=>x.elim c1 c2),fa trivial];unfold cc;rw[gT ψ]
 ·have b:(m.natAbs:Int)≠0:=ω;have c:=yD a ha b;have e:=szK a;have g:=szK ha;simp only[vk lf h3 (x:=r) (y:=(m.natAbs:Int)) ω ω b,fe,acL lf c,agW];rw[gP h,zg,fg];by_cases c1:sz (m.natAbs:Int) > 100
  ·rw[gR c1,fg,fa (.inl c1)]
  ·rw[gP c1,ff];by_cases c2:sz (r.fmod (m.natAbs:Int)) > 100
   ·rw[gR c2,fg,fa (.inr (by rw[gT h];exact c2))]
   ·rw[gP c2,ff,gT (by rw[gT h];exact fun x=>x.elim c1 c2),gT h];unfold cc;rw[gT ψ]
def dvd'(m a:Int):Bool:=if m=0 then decide (a=0)else decide (a.fmod m=0)
def wX(lf:Nat)(hlf:2000000000≤lf){m a:Int}(b: -K < m∧m < K)(ha: -K < a∧a < K):fM.f lf (bs (z7 m)) (bs (z7 a))=some (dvd' m a,()):=by
 rw[fM.f,beq0];unfold dvd';by_cases h:m=0
 ·rw[gR h,fg,fa h,beq0]
 ·rw[gP h,ff,gT h,pz lf hlf ha b h,fe,iU.f,fe,beq0]
def wE(lf:Nat)(h3:200000≤lf){m a:Int}(b:sz m≤20000)(ha:sz a≤20000):eX.f lf (bs (z7 m)) (bs (z7 a))=some (dvd' m a,()):=by
 rw[eX.f,beq0];unfold dvd';by_cases h:m=0
 ·rw[gR h,fg,fa h,beq0]
 ·rw[gP h,ff,gT h,vk lf h3 ha b h,fe,beq0]
def rE{k x y:Int}(a: -k < x∧x < k)(b: -k < y∧y < k): -k < (z8 x y:Int)∧(z8 x y:Int) < k:=by
 by_cases h:x=0
 ·subst h;rw[gH];omega
 ·have:=Nat.gcd_le_left y.natAbs (show 0 < x.natAbs from ω);have e:z8 x y=Nat.gcd x.natAbs y.natAbs:=rfl;omega
section
variable (lf:Nat)(hb:Big lf)
include hb
theorem zF{x y:Int}(a: -K < x∧x < K)(b: -K < y∧y < K):dZ.f lf (bs (z7 x)) (bs (z7 y))=some (bs (z7 (z8 x y)),()):=by
 rw[dZ.f,akv lf hb a b,fe,iU.f,fe]
theorem abp{x y:Int}(a: -K < x∧x < K)(b: -K < y∧y < K)(h: -K < x-y∧x-y < K):iJ.f lf (bs (z7 x)) (bs (z7 y))=some (bs (z7 (x-y)),()):=by
 have:=(sz_K (x-y)).2 h;rw[iJ.f,afR lf _ _ (chkK a) (chkK b) (by have:=hb.1;omega),dW,dW,rU,gT ω,fe,iU.f,fe]
theorem agD{x y:Int}(a: -K < x∧x < K)(b: -K < y∧y < K)(h: -K < x+y∧x+y < K):nK.f lf (bs (z7 x)) (bs (z7 y))=some (bs (z7 (x+y)),()):=by
 rw[nK.f,yK lf (by have:=hb.1;omega) a b h,fe,iU.f,fe]
theorem aay{x y:Int}(a: -K < x∧x < K)(b: -K < y∧y < K)(h: -K < x*y∧x*y < K):jG.f lf (bs (z7 x)) (bs (z7 y))=some (bs (z7 (x*y)),()):=by
 rw[jG.f,ack lf (by have:=hb.1;omega) a b h,fe,iU.f,fe]
end
def plusC(c d:Cg):Cg:=if c.em=true then Ec else if d.em=true then Ec else clsF (z8 c.m d.m) (c.r+d.r)
def minusC(c d:Cg):Cg:=if c.em=true then Ec else if d.em=true then Ec else clsF (z8 c.m d.m) (c.r-d.r)
def timesC(c d:Cg):Cg:=if c.em=true then Ec else if d.em=true then Ec else clsF (z8 (c.m*d.m) (z8 (c.m*d.r) (d.m*c.r))) (c.r*d.r)
def dP{c:Cg}(h:c.em=false):cc c=(false,bs (z7 c.m),bs (z7 c.r),()):=by unfold cc;rw[gT (by simp[h])]
def nC{c:Cg}(h:c.em=true):cc c=(true,bs [],bs [],()):=by unfold cc;rw[fa h]
def ah7{c:Cg}(h:WfC c):∃ (l m:List UInt8),cc c=(c.em,bs l,bs m,())∧ckc c.em l m=0∧l.length≤101∧m.length≤101:=by
 have g:=fD;cases e:c.em with
 | true=>exact⟨[],[],nC e,by simp[ckc],ψ,ψ⟩
 | false =>
  have d:=(vY c.m).2 h.m;have f:=(vY c.r).2 h.r;refine⟨z7 c.m,z7 c.r,dP e,?_,xO d,xO f⟩;unfold ckc;rw[gT ψ,d,f,dW,dW,gT ψ,gT ψ,gT];have a:=h.pos;have b:=h.rng;intro x;rcases x with x | ⟨x,y⟩
  ·omega
  ·have:=b x;omega
section
variable (lf:Nat)(hb:Big lf){c d:Cg}(hc:WfC c)(hd:WfC d)
include hb hc
theorem ccheck:gu.f lf (cc c)=some (0,()):=by
 obtain⟨l,m,e,h,a,b⟩:=ah7 hc;rw[e,ai7 lf (by have:=hb.1;omega) _ _ _ ω ω,h]
theorem rcheck:kV.f lf (cc c)=some (0,()):=by
 obtain⟨l,m,e,h,a,b⟩:=ah7 hc;have:=hb.1;rw[e,ae0 lf ω _ _ _ ω ω ω ω,h]
include hd
theorem cboth:eP.f lf (cc c) (cc d)=some (0,()):=by
 rw[eP.f,ccheck lf hb hc,fe];simp only[bne_self_eq_false,ff];rw[ccheck lf hb hd,fe]
theorem bounds:(-K < c.m∧c.m < K)∧(-K < c.r∧c.r < K)∧(-K < d.m∧d.m < K)∧(-K < d.r∧d.r < K)∧(-K < c.r-d.r∧c.r-d.r < K)∧(-K < c.r+d.r∧c.r+d.r < K)∧(-K < c.m*d.m∧c.m*d.m < K)∧(-K < c.m*d.r∧c.m*d.r < K)∧(-K < d.m*c.r∧d.m*c.r < K)∧(-K < c.r*d.r∧c.r*d.r < K):=by
 have j:=CC_K;have i:=C_gt;have g:=fD;have h:0≤C*C:=yf ω ω;have a:=hc.m;have b:=hc.r;have e:=hd.m;have f:=hd.r;have k:=rY a e;have l:=rY a f;have n:=rY e b;have o:=rY b f;refine⟨ω,ω,ω,ω,ω,ω,ω,ω,ω,ω⟩
theorem akn:qG.f lf (cc c) (cc d)=some (cc (plusC c d),0,()):=by
 obtain⟨a,h,b,i,j,e,k,l,m,g⟩:=bounds lf hb hc hd;rw[qG.f,cboth lf hb hc hd,fe];unfold plusC;cases ec:c.em with
 | true=>rw[nC ec];simp only[bne_self_eq_false,ff,fg,if_true,aW.f,fe];rfl
 | false=>cases ed:d.em with
  | true=>rw[dP ec,nC ed];simp only[bne_self_eq_false,ff,fg,if_true,if_false,ze,aW.f,fe];rfl
  | false =>
   rw[dP ec,dP ed];simp only[bne_self_eq_false,ff,if_false,ze,qV.f,zF lf hb a b,agD lf hb h i e,fe,xE lf hb.1 (rE a b) e]
theorem aj0:nP.f lf (cc c) (cc d)=some (cc (plusC c d),()):=by
 obtain⟨a,g,b,h,j,i,k,l,m,e⟩:=bounds lf hb hc hd;have h3:200000≤lf:=by have:=hb.1;omega
 rw[nP.f];unfold plusC;cases ec:c.em with
 | true=>rw[nC ec];simp only[fg,if_true,aI.f,fe];rfl
 | false=>cases ed:d.em with
  | true=>rw[dP ec,nC ed];simp only[ff,fg,if_true,if_false,ze,aI.f,fe];rfl
  | false =>
   rw[dP ec,dP ed];simp only[ff,if_false,ze,rW lf hb a b,sumI lf h3 g h,fe,qx lf h3 (rE a b) i]
theorem ajj:nJ.f lf (cc c) (cc d)=some (cc (minusC c d),0,()):=by
 obtain⟨a,h,b,i,e,j,k,l,m,g⟩:=bounds lf hb hc hd;rw[nJ.f,cboth lf hb hc hd,fe];unfold minusC;cases ec:c.em with
 | true=>rw[nC ec];simp only[bne_self_eq_false,ff,fg,if_true,aW.f,fe];rfl
 | false=>cases ed:d.em with
  | true=>rw[dP ec,nC ed];simp only[bne_self_eq_false,ff,fg,if_true,if_false,ze,aW.f,fe];rfl
  | false =>
   rw[dP ec,dP ed];simp only[bne_self_eq_false,ff,if_false,ze,qX.f,zF lf hb a b,abp lf hb h i e,fe,xE lf hb.1 (rE a b) e]
theorem aiB:mX.f lf (cc c) (cc d)=some (cc (minusC c d),()):=by
 obtain⟨a,g,b,h,i,j,k,l,m,e⟩:=bounds lf hb hc hd;have h3:200000≤lf:=by have:=hb.1;omega
 rw[mX.f];unfold minusC;cases ec:c.em with
 | true=>rw[nC ec];simp only[fg,if_true,aI.f,fe];rfl
 | false=>cases ed:d.em with
  | true=>rw[dP ec,nC ed];simp only[ff,fg,if_true,if_false,ze,aI.f,fe];rfl
  | false =>
   rw[dP ec,dP ed];simp only[ff,if_false,ze,rW lf hb a b,diffI lf h3 g h,fe,qx lf h3 (rE a b) i]
theorem akE:qI.f lf (cc c) (cc d)=some (cc (timesC c d),0,()):=by
 obtain⟨h,i,j,k,m,n,b,e,g,a⟩:=bounds lf hb hc hd;rw[qI.f,cboth lf hb hc hd,fe];unfold timesC;cases ec:c.em with
 | true=>rw[nC ec];simp only[bne_self_eq_false,ff,fg,if_true,aW.f,fe];rfl
 | false=>cases ed:d.em with
  | true=>rw[dP ec,nC ed];simp only[bne_self_eq_false,ff,fg,if_true,if_false,ze,aW.f,fe];rfl
  | false =>
   rw[dP ec,dP ed];have l:=rE e g;simp only[bne_self_eq_false,ff,if_false,ze,qW.f,aay lf hb h j b,aay lf hb h k e,aay lf hb j i g,aay lf hb i k a,fe,zF lf hb e g,zF lf hb b l,xE lf hb.1 (rE b l) a]
theorem aiX:mY.f lf (cc c) (cc d)=some (cc (timesC c d),()):=by
 obtain⟨b,e,g,h,n,o,i,j,k,a⟩:=bounds lf hb hc hd;have h3:200000≤lf:=by have:=hb.1;omega
 rw[mY.f];unfold timesC;cases ec:c.em with
 | true=>rw[nC ec];simp only[fg,if_true,aI.f,fe];rfl
 | false=>cases ed:d.em with
  | true=>rw[dP ec,nC ed];simp only[ff,fg,if_true,if_false,ze,aI.f,fe];rfl
  | false =>
   rw[dP ec,dP ed];have l:=rE i j;have ga:z8 (z8 (c.m*d.m) (c.m*d.r)) (d.m*c.r)=z8 (c.m*d.m) (z8 (c.m*d.r) (d.m*c.r)):=Int.gcd_assoc _ _ _;simp only[ff,if_false,ze,qm lf h3 b g,qm lf h3 b h,qm lf h3 g e,qm lf h3 e h,fe,rW lf hb i j,rW lf hb l k,qx lf h3 (rE l k) a];rw[ga]
end
def zeroC(c:Cg):Bool:=decide (c.m=0∧c.r=0)
def zero_eq{c:Cg}(h:c.em=false):(((cc c).1==false)&&(((cc c).2.1==(⟨#[48]⟩:ByteArray))&&(((cc c).2.2.1==(⟨#[48]⟩:ByteArray))&&true)))=zeroC c:=by
 rw[dP h];simp only[agz,i0,BEq.rfl,tj,Bool.and_true,zeroC];have e:∀ z:Int,decide (bs (z7 z)=bs (z7 0))=decide (z=0):=fun z=>by
  simp only[decide_eq_decide];exact⟨fun x=>nZ (zD x),fun x=>by rw[x]⟩
 rw[e,e];by_cases a:c.m=0<;>by_cases b:c.r=0<;>simp[a,b]
def quoC(c d:Cg):Cg:=if c.em=true then Ec else if d.em=true then Ec else if zeroC d=true then Ec else if d.m≠0 then(if zeroC c=true then c else topC)else if dvd' d.r c.m=true then clsF (c.m.fdiv d.r) (c.r.fdiv d.r)else topC
def abT(lf:Nat){c:Cg}(h:c.em=false):jc.f lf (cc c)=some (zeroC c,()):=by
 rw[jc.f,dP h];simp only[beq0,zeroC];by_cases a:c.m=0
 ·rw[gR a,fg];simp[a]
 ·rw[gP a,ff];simp[a]
section
variable (lf:Nat)(hb:Big lf){c d:Cg}(hc:WfC c)(hd:WfC d)
include hb hc hd
theorem akJ:qK.f lf (cc c) (cc d)=some (cc (quoC c d),0,()):=by
 obtain⟨b,i,v,a,w,y,z,A,B,g⟩:=bounds lf hb hc hd;have hlf:=hb.1;rw[qK.f,cboth lf hb hc hd,fe];unfold quoC;cases ec:c.em with
 | true=>rw[nC ec];simp only[bne_self_eq_false,ff,fg,if_true,aW.f,fe];rfl
 | false=>cases ed:d.em with
  | true=>rw[dP ec,nC ed];simp only[bne_self_eq_false,ff,fg,if_true,if_false,ze,aW.f,fe];rfl
  | false =>
   have t:=zero_eq ec;have u:=zero_eq ed;have j:(cc c).1=false:=by rw[dP ec]
   have k:(cc d).1=false:=by rw[dP ed]
   simp only[bne_self_eq_false,ff,j,k,if_false,ze];rw[sJ.f,ig.f];simp only[fe,t,u,aW.f,gZ.f,acz];cases e:zeroC d with
   | true=>simp only[fg,if_true,fe];rfl
   | false =>
    have l:(cc d).2.1=bs (z7 d.m):=by rw[dP ed]
    have n:(cc d).2.2.1=bs (z7 d.r):=by rw[dP ed]
    have o:(cc c).2.1=bs (z7 c.m):=by rw[dP ec]
    have p:(cc c).2.2.1=bs (z7 c.r):=by rw[dP ec]
    simp only[ff,if_false,ze,l,n,o,p,beq0];by_cases h:d.m=0
    ·rw[gR h,zj,ff,gT (by simpa using h),wX lf hlf a b,fe];have r0:d.r≠0:=fun x=>by unfold zeroC at e;simp[h,x]at e
     simp only;cases dv:dvd' d.r c.m with
     | true =>
      have q: -K < c.m.fdiv d.r∧c.m.fdiv d.r < K:=by have:=uU (x:=c.m) r0;have:=hc.m;have:=CC_K;have:=C_gt;have:=yf (show 0≤C from ω) (show 0≤C from ω);omega
      have s: -K < c.r.fdiv d.r∧c.r.fdiv d.r < K:=by have:=uU (x:=c.r) r0;have:=hc.r;have:=CC_K;have:=C_gt;have:=yf (show 0≤C from ω) (show 0≤C from ω);omega
      simp only[fg,if_true,uG lf hlf b a r0,uG lf hlf i a r0,fe,iU.f,xE lf hlf q s]
     | false=>simp only[ff,if_false,ze,fe]
    ·rw[gP h,zg,fg,fa h];cases D:zeroC c with
     | true=>simp only[fg,if_true,fe]
     | false=>simp only[ff,if_false,ze,fe]
theorem ajY:nO.f lf (cc c) (cc d)=some (cc (quoC c d),()):=by
 obtain⟨b,g,t,i,u,v,w,z,A,e⟩:=bounds lf hb hc hd;have h3:200000≤lf:=by have:=hb.1;omega
 rw[nO.f];unfold quoC;cases ec:c.em with
 | true=>rw[nC ec];simp only[fg,if_true,aI.f,fe];rfl
 | false=>cases ed:d.em with
  | true=>rw[dP ec,nC ed];simp only[ff,fg,if_true,if_false,ze,aI.f,fe];rfl
  | false =>
   have j:(cc c).1=false:=by rw[dP ec]
   have k:(cc d).1=false:=by rw[dP ed]
   have l:(cc d).2.1=bs (z7 d.m):=by rw[dP ed]
   have n:(cc d).2.2.1=bs (z7 d.r):=by rw[dP ed]
   have o:(cc c).2.1=bs (z7 c.m):=by rw[dP ec]
   have p:(cc c).2.2.1=bs (z7 c.r):=by rw[dP ec]
   simp only[ff,j,k,if_false,ze,abT lf ed,abT lf ec,fe,aI.f,dB.f,acz,l,n,o,p,beq0];cases a:zeroC d with
   | true=>simp only[fg,if_true];rfl
   | false =>
    simp only[ff,if_false,ze];by_cases h:d.m=0
    ·have B:=szK b;have D:=szK g;have E:=szK i;rw[gR h,fg,gT (by simpa using h),wE lf h3 ω ω,fe];have r0:d.r≠0:=fun x=>by unfold zeroC at a;simp[h,x]at a
     simp only;cases dv:dvd' d.r c.m with
     | true =>
      have q: -K < c.m.fdiv d.r∧c.m.fdiv d.r < K:=by have:=uU (x:=c.m) r0;have:=hc.m;have:=CC_K;have:=C_gt;have:=yf (show 0≤C from ω) (show 0≤C from ω);omega
      have s: -K < c.r.fdiv d.r∧c.r.fdiv d.r < K:=by have:=uU (x:=c.r) r0;have:=hc.r;have:=CC_K;have:=C_gt;have:=yf (show 0≤C from ω) (show 0≤C from ω);omega
      simp only[fg,if_true,qw lf h3 (x:=c.m) (y:=d.r) ω ω r0,qw lf h3 (x:=c.r) (y:=d.r) ω ω r0,fe,qx lf h3 q s]
     | false=>simp only[ff,zj,if_false,ze]
    ·rw[gP h,ff,zg,fg,fa h];cases F:zeroC c with
     | true=>simp only[fg,if_true]
     | false=>simp only[ff,if_false,ze]
end
def restC(c d:Cg):Cg:=if c.em=true then Ec else if d.em=true then Ec else if zeroC d=true then Ec else if d.m=0∧dvd' d.r c.m=true then clsF 0 (c.r.fmod d.r)else clsF (z8 c.m (z8 d.m d.r)) c.r
section
variable (lf:Nat)(hb:Big lf){c d:Cg}(hc:WfC c)(hd:WfC d)
include hb hc hd
theorem akM:qM.f lf (cc c) (cc d)=some (cc (restC c d),0,()):=by
 obtain⟨b,e,g,a,w,y,z,A,B,k⟩:=bounds lf hb hc hd;have hlf:=hb.1;have i:=rE g a;have o:=rE b i;rw[qM.f,cboth lf hb hc hd,fe];unfold restC;cases ec:c.em with
 | true=>rw[nC ec];simp only[bne_self_eq_false,ff,fg,if_true,aW.f,fe];rfl
 | false=>cases ed:d.em with
  | true=>rw[dP ec,nC ed];simp only[bne_self_eq_false,ff,fg,if_true,if_false,ze,aW.f,fe];rfl
  | false =>
   have v:=zero_eq ed;have l:(cc c).1=false:=by rw[dP ec]
   have n:(cc d).1=false:=by rw[dP ed]
   simp only[bne_self_eq_false,ff,l,n,if_false,ze];rw[rQ.f,ig.f];simp only[fe,v,aW.f];cases j:zeroC d with
   | true=>simp only[fg,if_true,fe];rfl
   | false =>
    have q:(cc d).2.1=bs (z7 d.m):=by rw[dP ed]
    have s:(cc d).2.2.1=bs (z7 d.r):=by rw[dP ed]
    have t:(cc c).2.1=bs (z7 c.m):=by rw[dP ec]
    have u:(cc c).2.2.1=bs (z7 c.r):=by rw[dP ec]
    simp only[ff,if_false,ze,q,s,t,u,beq0,zF lf hb g a,zF lf hb b i,fe,xE lf hlf o e];by_cases h:d.m=0
    ·rw[gR h,fg,wX lf hlf a b,fe];have r0:d.r≠0:=fun x=>by unfold zeroC at j;simp[h,x]at j
     have p: -K < (0:Int)∧(0:Int) < K:=by have:=K_gt;omega
     simp only;cases dv:dvd' d.r c.m with
     | true =>
      rw[fa ⟨h,rfl⟩];simp only[fg,pz lf hlf e a r0,fe,iU.f,i0,xE lf hlf p (yD e a r0)]
     | false=>rw[gT ψ];simp only[ff,fe]
    ·rw[gP h,ff,gT (fun x=>h x.1),fe]
theorem ahd:lU.f lf (cc c) (cc d)=some (cc (restC c d),()):=by
 obtain⟨b,e,g,a,v,w,z,A,B,k⟩:=bounds lf hb hc hd;have h3:200000≤lf:=by have:=hb.1;omega
 have i:=rE g a;have o:=rE b i;rw[lU.f];unfold restC;cases ec:c.em with
 | true=>rw[nC ec];simp only[fg,if_true,aI.f,fe];rfl
 | false=>cases ed:d.em with
  | true=>rw[dP ec,nC ed];simp only[ff,fg,if_true,if_false,ze,aI.f,fe];rfl
  | false =>
   have l:(cc c).1=false:=by rw[dP ec]
   have n:(cc d).1=false:=by rw[dP ed]
   have q:(cc d).2.1=bs (z7 d.m):=by rw[dP ed]
   have s:(cc d).2.2.1=bs (z7 d.r):=by rw[dP ed]
   have t:(cc c).2.1=bs (z7 c.m):=by rw[dP ec]
   have u:(cc c).2.2.1=bs (z7 c.r):=by rw[dP ec]
   simp only[ff,l,n,if_false,ze,abT lf ed,fe,aI.f,q,s,t,u,beq0,rW lf hb g a,rW lf hb b i,qx lf h3 o e];cases j:zeroC d with
   | true=>simp only[fg,if_true];rfl
   | false =>
    simp only[ff,if_false,ze];by_cases h:d.m=0
    ·have C:=szK b;have D:=szK e;have E:=szK a;rw[gR h,fg,wE lf h3 ω ω,fe];have r0:d.r≠0:=fun x=>by unfold zeroC at j;simp[h,x]at j
     have p: -K < (0:Int)∧(0:Int) < K:=by have:=K_gt;omega
     simp only;cases dv:dvd' d.r c.m with
     | true =>
      rw[fa ⟨h,rfl⟩];simp only[fg,vk lf h3 (x:=c.r) (y:=d.r) ω ω r0,fe,iQ.f,i0,qx lf h3 p (yD e a r0)]
     | false=>rw[gT ψ];simp only[ff]
    ·rw[gP h,ff,gT (fun x=>h x.1)]
end
def wz{m r:Int}:WfC (clsF m r):=by
 have d:=C_gt;unfold clsF;by_cases h:sz (m.natAbs:Int) > 100∨sz (if m=0 then r else r.fmod (m.natAbs:Int)) > 100
 ·rw[fa h];exact⟨by simp only[topC];omega,by simp only[topC];omega,by simp[topC],fun _=>by simp[topC]⟩
 ·rw[gT h];have b:=(sz_C (m.natAbs:Int)).1 ω;have c:=(sz_C (if m=0 then r else r.fmod (m.natAbs:Int))).1 ω;refine⟨b,c,by simp only;omega,fun x=>?_⟩;simp only at x⊢;have a:m≠0:=ω;rw[gT a];exact⟨xd r ω,yW r ω⟩
def sG:WfC Ec:=by
 have a:=C_gt;exact⟨by simp only[Ec];omega,by simp only[Ec];omega,by simp[Ec],fun x=>absurd rfl x⟩
def xW:WfC topC:=by
 have a:=C_gt;exact⟨by simp only[topC];omega,by simp only[topC];omega,by simp[topC],fun _=>by simp[topC]⟩
def ahq{c d:Cg}:WfC (plusC c d):=by unfold plusC;split;exact sG;split;exact sG;exact wz
def agb{c d:Cg}:WfC (minusC c d):=by unfold minusC;split;exact sG;split;exact sG;exact wz
def ags{c d:Cg}:WfC (timesC c d):=by unfold timesC;split;exact sG;split;exact sG;exact wz
def aiJ{c d:Cg}(hc:WfC c):WfC (quoC c d):=by
 unfold quoC;split;exact sG;split;exact sG;split;exact sG;split
 ·split;exact hc;exact xW
 ·split;exact wz;exact xW
def ahB{c d:Cg}:WfC (restC c d):=by unfold restC;split;exact sG;split;exact sG;split;exact sG;split;exact wz;exact wz
def inC(c:Cg)(a:Int):Bool:=!c.em&&dvd' c.m (a-c.r)
def rV(c d:Cg):Bool:=if c.em=true then true else if d.em=true then false else dvd' d.m c.m&&dvd' d.m (c.r-d.r)
section
variable (lf:Nat)(hb:Big lf){c d:Cg}(hc:WfC c)(hd:WfC d)
include hb hc hd
theorem adO:lW.f lf (cc c) (cc d)=some (rV c d,()):=by
 obtain⟨e,h,a,i,b,j,k,l,n,g⟩:=bounds lf hb hc hd;have hlf:=hb.1;rw[lW.f];unfold rV;cases ec:c.em with
 | true=>rw[nC ec];simp only[fg,if_true]
 | false=>cases ed:d.em with
  | true=>rw[dP ec,nC ed];simp only[ff,fg,if_true,if_false,ze]
  | false =>
   rw[dP ec,dP ed];simp only[ff,if_false,ze,wX lf hlf a e,abp lf hb h i b,wX lf hlf a b,fe];cases dvd' d.m c.m with
   | true=>simp only[fg,tj]
   | false=>simp only[ff,nt]
end
section
variable (lf:Nat)(hb:Big lf){c:Cg}(hc:WfC c)
include hb hc
theorem in_r{a:Int}(ha: -Dd < a∧a < Dd):kJ.f lf (cc c) (bs (z7 a))=some (inC c a,()):=by
 have h3:200000≤lf:=by have:=hb.1;omega
 have i:=DD_K;have h:=C_gt;have e:=kW;have g:0≤Dd*Dd:=yf ω ω;have b:=hc.m;have d:=hc.r;rw[kJ.f];unfold inC;cases ec:c.em with
 | true=>rw[nC ec];simp only[zj,ff,nt]
 | false =>
  rw[dP ec];have j:=szK (CK b);have k:=szK (z:=a-c.r) ω;simp only[zg,fg,tj,diffI lf h3 (x:=a) (y:=c.r) ω ω,fe,wE lf h3 (m:=c.m) (a:=a-c.r) ω ω]
end
def negC(c:Cg):Cg:=if c.em=true then Ec else clsF c.m (-c.r)
def agG(m r:Int):clsF (m.natAbs:Int) r=clsF m r:=by
 unfold clsF;have e:((m.natAbs:Int)).natAbs=m.natAbs:=ω;have z:((m.natAbs:Int)=0)=(m=0):=ψ;simp only[e,z]
def aiQ:WfC ⟨false,0,0⟩:=by
 have a:=C_gt;exact⟨by simp only;omega,by simp only;omega,ψ,fun x=>absurd rfl x⟩
def agc(c:Cg):minusC ⟨false,0,0⟩ c=negC c:=by
 unfold minusC negC;rw[gT ψ];split
 ·rfl
 ·simp only[gH,mU,agG]
def aaf{c:Cg}:WfC (negC c):=by unfold negC;split;exact sG;exact wz
section
variable (lf:Nat)(hb:Big lf){c:Cg}(hc:WfC c)
include hb hc
theorem akF:qJ.f lf (cc c)=some (cc (negC c),0,()):=by
 have s:=ajj lf hb aiQ hc;rw[agc]at s;have e:((false,(⟨#[48]⟩:ByteArray),(⟨#[48]⟩:ByteArray),()):IV)=cc ⟨false,0,0⟩:=by rw[dP rfl,i0]
 rw[qJ.f,ig.f,fe];simp only[e,s,fe]
theorem abH:jb.f lf (cc c)=some (cc (negC c),()):=by
 have h3:200000≤lf:=by have:=hb.1;omega
 have b:=CK hc.m;have a:=CK hc.r;rw[jb.f];unfold negC;cases ec:c.em with
 | true=>rw[nC ec];simp only[fg,if_true];rfl
 | false =>
  rw[dP ec];simp only[ff,if_false,ze,ve lf a,fe,qx lf h3 b (r:= -c.r) ω]
end
def aboveC(c:Cg)(a:Int):Option Int:=if c.m=0 then(if c.r < a then none else some c.r)else some (a+(c.r-a).fmod c.m)
def zW{x y m:Int}(h:0 < m):(x.fmod m-y.fmod m).fmod m=(x-y).fmod m:=by
 rw[sB _ (zR h),sB _ (zR h),sB _ (zR h),sB _ (zR h),←Int.sub_emod]
section
variable (lf:Nat)(hb:Big lf){c:Cg}(hc:WfC c)(he:c.em=false){a:Int}(ha: -Dd < a∧a < Dd)
include hb hc he ha
theorem aiv:oQ.f lf (cc c) (bs (z7 a))=some (match aboveC c a with
  | none=>(bs [],6,())
  | some v=>(bs (z7 v),0,())):=by
 have hlf:=hb.1;have x:=DD_K;have w:=C_gt;have i:=kW;have u:0≤Dd*Dd:=yf ω ω;have d: -K < a∧a < K:=ω;have A:=rq d;have B:=hc.m;have r1:=hc.r;have e:=CK hc.m;have b:=CK hc.r;rw[oQ.f,ccheck lf hb hc,fe];simp only[bne_self_eq_false,ff,sH lf (z7 a) ω,chkK d,fe];rw[dP he];simp only[ff,beq0];unfold aboveC;by_cases z:c.m=0
 ·rw[gR z,zj,ff,fa z,abB lf _ _ (chkK b) (chkK d) ω,dW,dW,fe];simp only;by_cases h:c.r < a
  ·rw[gR h,fg,fa h]
  ·rw[gP h,ff,gT h]
 ·have p:0 < c.m:=by have:=hc.pos;omega
  have j:=yD b e z;have k:=yD d e z;have l:=xd c.r p;have n:=yW c.r p;have o:=xd a p;have q:=yW a p;have g: -K < c.r.fmod c.m-a.fmod c.m∧c.r.fmod c.m-a.fmod c.m < K:=ω;have s:=xd (c.r-a) p;have t:=yW (c.r-a) p;rw[gP z,zg,fg,gT z,kN.f,pz lf hlf b e z,fe];simp only[bne_self_eq_false,ff,pz lf hlf d e z,fe,abp lf hb j k g,pz lf hlf g e z,zW p,yK lf ω d (y:=(c.r-a).fmod c.m) ω ω]
theorem aeS:jS.f lf (cc c) (bs (z7 a))=some (match aboveC c a with
  | none=>(bs [],false,())
  | some v=>(bs (z7 v),true,())):=by
 have h3:200000≤lf:=by have:=hb.1;omega
 have n:=DD_K;have l:=C_gt;have g:=kW;have k:0≤Dd*Dd:=yf ω ω;have d: -K < a∧a < K:=ω;have o:=hc.m;have r1:=hc.r;have e:=CK hc.m;have b:=CK hc.r;rw[jS.f,dP he];simp only[beq0];unfold aboveC;by_cases z:c.m=0
 ·rw[gR z,fg,fa z,lessI lf h3 b d,fe];simp only;by_cases h:c.r < a
  ·rw[gR h,fg,fa h]
  ·rw[gP h,ff,gT h]
 ·have p:0 < c.m:=by have:=hc.pos;omega
  have i:=xd (c.r-a) p;have j:=yW (c.r-a) p;have kd: -K < c.r-a∧c.r-a < K:=ω;have q:=szK kd;have s:=szK e;simp only[gP z,ff,gT z,diffI lf h3 b d,fe,vk lf h3 (x:=c.r-a) (y:=c.m) ω ω z,sumI lf h3 d (y:=(c.r-a).fmod c.m) ω]
end
def belowC(c:Cg)(a:Int):Option Int:=if c.m=0 then(if a < c.r then none else some c.r)else some (a-(a-c.r).fmod c.m)
def zO{m r:Int}(f:0≤m)(c: -C < m∧m < C)(d: -C < r∧r < C):clsF m r=⟨false,m,if m=0 then r else r.fmod m⟩:=by
 have e:(m.natAbs:Int)=m:=ω;unfold clsF;rw[e];have g:=(sz_C m).2 c;have h:sz (if m=0 then r else r.fmod m)≤100:=by
  apply (sz_C _).2;split
  ·exact d
  ·have a:=xd r (show 0 < m from ω);have b:=yW r (show 0 < m from ω);omega
 rw[gT ω]
def afZ{c:Cg}(hc:WfC c)(he:c.em=false)(a:Int):belowC c a=(aboveC (negC c) (-a)).map fun v=> -v:=by
 have e:negC c=⟨false,c.m,if c.m=0 then -c.r else(-c.r).fmod c.m⟩:=by
  unfold negC;rw[gT (by simp[he])];exact zO hc.pos hc.m (by have:=hc.r;omega)
 rw[e];unfold belowC aboveC;simp only;by_cases z:c.m=0
 ·simp only[z,if_true];by_cases h:a < c.r
  ·rw[fa h,fa ω];rfl
  ·rw[gT h,gT ω];simp
 ·have p:0 < c.m:=by have:=hc.pos;omega
  simp only[gT z,wj];have k:((-c.r).fmod c.m - -a).fmod c.m=(a-c.r).fmod c.m:=by
   have b:=zW (x:=(-c.r).fmod c.m) (y:= -a) p;have d:=zW (x:= -c.r) (y:= -a) p;have h3:((-c.r).fmod c.m).fmod c.m=(-c.r).fmod c.m:=by
    rw[sB _ (zR p),sB _ (zR p),Int.emod_emod]
   rw[←b,h3,d];congr 1;omega
  rw[k];congr 1;omega
section
variable (lf:Nat)(hb:Big lf){c:Cg}(hc:WfC c)(he:c.em=false){a:Int}(ha: -Dd < a∧a < Dd)
include hb hc he ha
theorem aif:kU.f lf (cc c) (bs (z7 a))=some (match belowC c a with
  | none=>(bs [],false,())
  | some v=>(bs (z7 v),true,())):=by
 have l:=DD_K;have k:=C_gt;have d:=kW;have j:0≤Dd*Dd:=yf ω ω;have ne:(negC c).em=false:=by
  have:negC c=⟨false,c.m,if c.m=0 then -c.r else(-c.r).fmod c.m⟩:=by
   unfold negC;rw[gT (by simp[he])];exact zO hc.pos hc.m (by have:=hc.r;omega)
  rw[this]
 have b:=aeS lf hb aaf ne (a:= -a) ω;rw[kU.f,abH lf hb hc,fe,ve lf (z:=a) ω,fe,b,fe,afZ hc he];cases h:aboveC (negC c) (-a)with
 | none=>simp only[zg,fg,mw]
 | some v =>
  have e: -K < v∧v < K:=by
   unfold aboveC at h;have w:=aaf (c:=c);have n:=w.m;have r1:=w.r;split at h
   ·split at h
    ·cases h
    ·injection h with h;omega
   ·rename_i z;have p:0 < (negC c).m:=by have:=w.pos;omega
    have g:=xd ((negC c).r - -a) p;have i:=yW ((negC c).r - -a) p;injection h with h
    omega
  simp only[zj,ff,wj,ve lf e,fe]
theorem aex:kR.f lf (cc c) (bs (z7 a))=some (match belowC c a with
  | none=>(bs [],6,())
  | some v=>(bs (z7 v),0,())):=by
 have hlf:=hb.1;have A:=DD_K;have y:=C_gt;have j:=kW;have x:0≤Dd*Dd:=yf ω ω;have d: -K < a∧a < K:=ω;have B:=rq d;have C:=hc.m;have r1:=hc.r;have e:=CK hc.m;have b:=CK hc.r;rw[kR.f,ccheck lf hb hc,fe];simp only[bne_self_eq_false,ff,sH lf (z7 a) ω,chkK d,fe];rw[dP he];simp only[ff,beq0];unfold belowC;by_cases z:c.m=0
 ·rw[gR z,zj,ff,fa z,abB lf _ _ (chkK d) (chkK b) ω,dW,dW,fe];simp only;by_cases h:a < c.r
  ·rw[gR h,fg,fa h]
  ·rw[gP h,ff,gT h]
 ·have p:0 < c.m:=by have:=hc.pos;omega
  have k:=yD b e z;have l:=yD d e z;have o:=xd c.r p;have q:=yW c.r p;have s:=xd a p;have t:=yW a p;have g: -K < a.fmod c.m-c.r.fmod c.m∧a.fmod c.m-c.r.fmod c.m < K:=ω;have u:=xd (a-c.r) p;have w:=yW (a-c.r) p;have n: -K < (a-c.r).fmod c.m∧(a-c.r).fmod c.m < K:=ω;have kd: -K < a-(a-c.r).fmod c.m∧a-(a-c.r).fmod c.m < K:=ω;have D:=(sz_K _).2 kd;have i:=afR lf _ _ (chkK d) (chkK n) ω;rw[dW,dW,rU,gT ω]at i;rw[gP z,zg,fg,gT z,kN.f,pz lf hlf d e z,fe];simp only[bne_self_eq_false,ff,pz lf hlf b e z,fe,abp lf hb l k g,pz lf hlf g e z,zW p,i]
end
def akB(lf:Nat)(hb:Big lf){x y:Int}(hx:0 < x∧x < C)(hy:0 < y∧y < C):vP.f lf (bs (z7 x)) (bs (z7 y))=some (bs (z7 (x / (z8 x y:Int)*y)),0,()):=by
 have hlf:=hb.1;have hK:=hb.2;have L:=fD;have J:=CC_K;have Z:=C_gt;have kx: -K < x∧x < K:=ω;have O: -K < y∧y < K:=ω;obtain⟨p,q,e,c,i,_⟩:=xP lf _ _ (chkK kx) (chkK O) ω;rw[dW]at c i;have n1:=dF (B:=G) δ c.dg;have n2:=dF (B:=G) δ i.dg;have l:lv G p.2.1=x:=by have:=c.val;split at this<;>omega
 have m:lv G q.2.1=y:=by have:=i.val;split at this<;>omega
 have P:p.2.1≠[]:=fun h=>by rw[h]at l;simp only[lv]at l;omega
 have S:q.2.1≠[]:=fun h=>by rw[h]at m;simp only[lv]at m;omega
 have pl:0 < p.2.1.length:=vj.2 P;have ql:0 < q.2.1.length:=vj.2 S;have l1:=c.len;have l2:=i.len;obtain⟨g,F,H,I,Y,j⟩:=ab8 lf hlf (lf+39) (lf+40) p.2.1 q.2.1 ω ω c.dg i.dg c.tr i.tr ω ω;rw[l,m]at j;have o:0 < (z8 x y:Int):=by
  have:=lA y (show x≠0 from ω);omega
 have g0:g≠[]:=fun h=>by rw[h]at j;simp only[lv]at j;omega
 obtain⟨Q,R,v,n,A,D,X,E,s⟩:=zU lf p.2.1 g c.dg H c.tr I g0 ω ω hlf;have W:=dF (B:=G) δ n;have u:=dF (B:=G) δ D;rw[l,j]at E;rw[j]at s;have dv:(z8 x y:Int)∣x:=qu x y;have T:lv G Q=x / (z8 x y:Int):=by
  obtain⟨k,N⟩:=dv;have w:=adv (M:=(z8 x y:Int)) (a:=lv G R) (d:=lv G Q-k) (b:=0) o (by rw[uC];omega) u s ω o;have:lv G Q=k:=ω;rw[this];exact(Int.ediv_eq_of_eq_mul_right (show(z8 x y:Int)≠0 by omega) N).symm
 have t:Q.length≤p.2.1.length:=by
  by_cases z:Q.length≤p.2.1.length
  ·exact z
  ·have:=oZ (B:=G) δ c.dg n A ω;have:=pf (z8 x y:Int) (show 0≤x from ω);omega
 obtain⟨r,r1,r2,r3,r4,r5⟩:=adn lf Q q.2.1 n i.dg ω ω ω;rw[T,m]at r5;have U:RN (false,r,()) (x / (z8 x y:Int)*y) 8192:=⟨r2,r3,by simp only;omega,by simp only[ze,if_false];rw[r5]⟩
 have lt: -K < x / (z8 x y:Int)*y∧x / (z8 x y:Int)*y < K:=by
  have a:=pf (z8 x y:Int) (show 0≤x from ω);have b:=vR (show 0≤x from ω) (zR o);have:=rY (a:=x / (z8 x y:Int)) (b:=y) ω ω;omega
 have V:=(sz_K _).2 lt;rw[vP.f,e,fe];simp only[bne_self_eq_false,ff];rw[show((p.2.1.length:Int)==0)=false from beq_eq_false_iff_ne.2 ω,ff,show((q.2.1.length:Int)==0)=false from beq_eq_false_iff_ne.2 ω,ff,iL.f,F,fe,fe,v,fe,r1,fe,zq lf U ω ω,rU,gT ω,fe]
structure Bz(a b r s x z:Int):Prop where
 b0:0 < b
 r0:0 < r
 s0:0≤s
 xr:b∣x*a-r
 zs:b∣z*a-s
 sg:(0≤z∧x≤0∧z*r-x*s=b)∨(z≤0∧0≤x∧z*r-x*s= -b)
 xb: -b≤x∧x≤b
def Bz.zb{a b r s x z:Int}(h:Bz a b r s x z): -b≤z∧z≤b:=by
 have r0:=h.r0;have s0:=h.s0;have b0:=h.b0;rcases h.sg with⟨h1,h2,h3⟩ | ⟨h1,h2,h3⟩
 ·have c:z*1≤z*r:=xF ω h1;have d:0≤-x*s:=yf ω s0;rw[tQ]at d;omega
 ·have c: -z*1≤-z*r:=xF ω ω;have d:0≤x*s:=yf h2 s0;rw[tQ,tQ]at c;omega
def Bz.next{a b r s x z q t:Int}(h:Bz a b r s x z)(hs:0 < s)(c:r=s*q+t)(t0:0≤t)(d:0≤q):Bz a b s t z (x-q*z):=by
 have zb:=h.zb;refine⟨h.b0,hs,t0,h.zs,?_,?_,zb⟩
 ·have e:(x-q*z)*a-t=(x*a-r)-q*(z*a-s):=by
   subst c;rw[om,uC,nA,wk q s];omega
  rw[e];exact oo h.xr (lB h.zs (jz _ _))
 ·have e:(x-q*z)*s-z*t= -(z*r-x*s):=by
   subst c;rw[om,vL,wk q z,nA z q s,wk q s];omega
  rw[e];rcases h.sg with⟨h1,h2,h3⟩ | ⟨h1,h2,h3⟩
  ·refine .inr ⟨?_,h1,by rw[h3]⟩;have:=yf d h1;omega
  ·refine .inl ⟨?_,h1,by rw[h3];omega⟩;have:=yf d (show 0≤-z from ω);rw[rh]at this;omega
def crt{a b g r1 r2 x k:Int}(g0:0 < g)(i:0 < a)(j:0 < b)(f:g∣a)(h:g∣b)(d:b∣x*a-g)(c:r2-r1=g*k):b∣(r1+x*k*a)-r2:=by
 have e:(r1+x*k*a)-r2=k*(x*a-g):=by
  rw[uC,wk k g,←c,wk x k,nA];omega
 rw[e];exact lB d (jz _ _)
def lcm_dvd{c m2 v:Int}(d:0 < c)(f:0 < m2)(a:c∣v)(b:m2∣v):c / (z8 c m2:Int)*m2∣v:=by
 have l:(Int.lcm c m2:Int)∣v:=Int.coe_lcm_dvd a b;have e:(Int.lcm c m2:Int)=c / (z8 c m2:Int)*m2:=by
  rw[Int.lcm_eq_mul_div,Int.natCast_ediv,sP,jN (zR d),jN (zR f),wk c m2,i6 _ (qu c m2),wk]
 rw[←e];exact l
def afm{b a:Int}(e:0 < b)(f:0 < a):b / (z8 b a:Int)*a=b*(a / (z8 b a:Int)):=by
 have c:=qu b a;have d:=ot b a;rw[←i6 _ d,wk _ a,←i6 _ c,wk]
def lcm_pos{a m2:Int}(b:0 < a)(c:0 < m2):0 < a / (z8 a m2:Int)*m2:=by
 have d:0 < (z8 a m2:Int):=by
  have:=lA m2 (show a≠0 from ω);omega
 have:0 < a / (z8 a m2:Int):=Int.ediv_pos_of_pos_of_dvd b ω (qu _ _);exact m7 this c
def af9{L u v:Int}(h:0 < L)(d:L∣u-v):u.fmod L=v.fmod L:=by
 rw[sB _ (zR h),sB _ (zR h)];exact Int.emod_eq_emod_iff_emod_sub_eq_zero.2 (gL d)
abbrev Nb:Type:=Bool×(List Int×Unit)
def RN.natAbs{p:Nb}{z:Int}{k:Nat}(h:RN p z k):lv G p.2.1=(z.natAbs:Int):=by
 have:=h.val;have:=dF (B:=G) δ h.dg;split at*<;> omega
def RN.small(lf:Nat)(h3:200000≤lf){p:Nb}{z:Int}{k:Nat}(h:RN p z k)(hz: -K < z∧z < K):RN p z 4096:=by
 obtain⟨q,_,_,a,_⟩:=xP lf _ _ (chkK hz) (chkK hz) h3;rw[dW]at a;refine⟨h.dg,h.tr,?_,h.val⟩;by_cases l:p.2.1.length≤4096
 ·exact l
 ·have:=oZ (B:=G) δ a.dg h.dg h.tr (by have:=a.len;omega);rw[h.natAbs,a.natAbs]at this;omega
def RN.nil{p:Nb}{k:Nat}(h:RN p 0 k):p.2.1=[]:=(zI (B:=G) δ h.dg h.tr).1 (by rw[h.natAbs];rfl)
def RN.ne{p:Nb}{z:Int}{k:Nat}(h:RN p z k)(a:z≠0):0 < p.2.1.length:=by
 refine vj.2 fun e=>a ?_;have:=h.natAbs;rw[e]at this;simp only[lv]at this;omega
def ahu(lf:Nat)(h3:200000≤lf){p q:Nb}{x y:Int}{k:Nat}(a:RN p x k)(b:RN q y k)(c:k≤50000):∃ s,dY.f lf p q=some (s,())∧RN s (x*y) (k+k):=by
 obtain⟨r,r1,r2,r3,r4,r5⟩:=adn lf p.2.1 q.2.1 a.dg b.dg (by have:=a.len;omega) (by have:=b.len;omega) h3;rw[dY.f,r1,fe];refine⟨_,rfl,r2,r3,by have:=a.len;have:=b.len;simp only;omega,?_⟩;simp only;rw[r5,a.val,b.val];cases p.1<;>cases q.1<;>simp[tQ,rh]
section
variable (lf:Nat)(hlf:2000000000≤lf){a b:Int}(hb:b < C)
include hlf hb
theorem acE{r s c e:Nb}{R S X Z:Int}(l:RN r R 4096)(o:RN s S 4096)(h3:RN c X 4096)(p:RN e Z 4096)(h:Bz a b R S X Z)(hs:S≠0):
  ∃ q t u v w,cu.f lf r s=some (q,t,())∧dY.f lf q e=some (u,())∧dM.f lf u=some (v,())∧gX.f lf c v=some (w,())∧
   RN t (R.fmod S) 4096∧RN w (X-R.fdiv S*Z) 4096∧Bz a b S (R.fmod S) Z (X-R.fdiv S*Z):=by
 have B:=fD;have sp:0 < S:=by have:=h.s0;omega
 obtain⟨q,t,g,x,y⟩:=xR lf hlf l o ω hs;obtain⟨u,i,z⟩:=ahu lf ω x (p.mono ω) ω;obtain⟨v,j,A⟩:=yZ lf z;obtain⟨w,k,d⟩:=ad9 lf (h3.mono (show 4096≤4096+1+(4096+1) by omega)) A ω ω;rw[←Int.sub_eq_add_neg]at d;have m:=wh R S;have n:=h.next sp m.symm (xd R sp) (by
  rw[pB _ (zR sp)];exact vR (zR h.r0) (zR sp))
 have zb:=n.zb;exact⟨q,t,u,v,w,g,i,j,k,y,d.small lf ω ω,n⟩
theorem ako(z:Bool)(A:List Int)(B:Bool)(C D:List Int):∀ (k n:Nat) (r s bf nw:Nb) (R S X Z:Int),S≤k→k < n→RN r R 4096→RN s S 4096→RN bf X 4096→RN nw Z 4096→Bz a b R S X Z→
  ∃ (g c d:Nb) (e:Bool) (f:Int),dX.l2 lf z A B C D n r.1 r.2.1 s.1 s.2.1 bf.1 bf.2.1 nw.1 nw.2.1=some ((z,A,B,C,g.1,g.2.1,e,[],D,c.1,c.2.1,d.1,d.2.1,()),())∧
   RN g (z8 R S) 4096∧RN c f 4096∧b∣f*a-(z8 R S:Int)∧-b≤f∧f≤b:=by
 intro k
 induction k with
 | zero =>
  intro n r s bf nw R S X Z K L j i h3 l h;obtain⟨m,rfl⟩:=zv (show n≠0 from ω);have s0:=h.s0;obtain rfl:S=0:=ω;have e:=i.nil;have r0:=h.r0;have g:(z8 R 0:Int)=R:=by rw[rj];omega
  refine⟨r,bf,nw,s.1,X,?_,by rw[g];exact j,h3,by rw[g];exact h.xr,h.xb⟩;rw[dX.l2,dX.r2,e,gP ψ,ff]
 | succ k N =>
  intro n r s bf nw R S X Z K L j i h3 l h;obtain⟨m,rfl⟩:=zv (show n≠0 from ω);have s0:=h.s0;have r0:=h.r0;by_cases hs:S=0
  ·subst hs;have e:=i.nil;have g:(z8 R 0:Int)=R:=by rw[rj];omega
   refine⟨r,bf,nw,s.1,X,?_,by rw[g];exact j,h3,by rw[g];exact h.xr,h.xb⟩;rw[dX.l2,dX.r2,e,gP ψ,ff]
  ·obtain⟨q,t,u,v,w,E,F,G,H,O,P,x⟩:=acE lf hlf hb j i h3 l h hs;have y:0 < S:=ω;have I:=yW R y;have J:(z8 S (R.fmod S))=z8 R S:=vS (wh R S).symm y x.s0 I ω;obtain⟨g,c,d,e,f,i1,o,i3,p,M⟩:=N m s t nw w S (R.fmod S) Z _ ω ω i O l P x;rw[J]at o p;refine⟨g,c,d,e,f,?_,o,i3,p,M⟩;rw[dX.l2,dX.r2,gR (by have:=i.ne hs;omega),fg];have Q:((r.1,r.2.1,()):Nb)=r:=rfl;have T:((s.1,s.2.1,()):Nb)=s:=rfl;have U:((nw.1,nw.2.1,()):Nb)=nw:=rfl;have V:((bf.1,bf.2.1,()):Nb)=bf:=rfl;rw[Q,T,U,V,E,fe,F,fe,G,fe,H,fe];exact i1
end
def aeX(lf:Nat)(hlf:2000000000≤lf){a b:Int}(ha:0 < a∧a < C)(hb:0 < b∧b < C){x y g n:Nb}{X:Int}(hx:RN x a 4096)(h:RN y b 4096)(c:RN g (z8 a b) 4096)(hf:RN n X 4096)(Z:b∣X*a-(z8 a b:Int)):
  ∃ (Q R:List Int) (q u p m s t:Nb) (o:Nb),aB.f lf y.2.1 g.2.1=some (Q,R,())∧cu.f lf n (false,Q,())=some (q,u,())∧dY.f lf x u=some (p,())∧dM.f lf p=some (m,())∧
   gX.f lf g m=some (s,())∧cu.f lf s y=some (t,o,())∧(∃ c1,aH.f lf g=some (c1,()))∧(∃ c2,aH.f lf t=some (c2,()))∧
   ∃ U:Int,aH.f lf u=some (bs (z7 U),())∧0≤U∧U < C∧b∣U*a-(z8 a b:Int):=by
 have W:=fD;have A:0 < (z8 a b:Int):=by
  have:=lA b (show a≠0 from ω);omega
 have g0:g.2.1≠[]:=fun e=>by have:=c.ne ω;rw[e]at this;simp at this
 obtain⟨Q,R,K,r,L,N,d5,O,v⟩:=zU lf y.2.1 g.2.1 h.dg c.dg h.tr c.tr g0 (by have:=h.len;omega) (by have:=c.len;omega) hlf;have yv:lv G y.2.1=b:=by rw[h.natAbs];omega
 have D:lv G g.2.1=(z8 a b:Int):=by rw[c.natAbs];omega
 rw[yv,D]at O;rw[D]at v;have I:=dF (B:=G) δ r;have J:=dF (B:=G) δ N;have dv:(z8 a b:Int)∣b:=ot a b;have H:(z8 a b:Int)*lv G Q=b:=by
  obtain⟨k,l⟩:=dv;have w:=adv (M:=(z8 a b:Int)) (a:=lv G R) (d:=lv G Q-k) (b:=0) A (by rw[uC];omega) J v ω A;have:lv G Q=k:=ω;rw[this];exact l.symm
 have F:0 < lv G Q:=by
  by_cases z:lv G Q=0
  ·rw[z,uc]at H;omega
  ·omega
 have qb:lv G Q≤b:=by
  have:=wA (show 1≤(z8 a b:Int) by omega) I;omega
 have Y:RN (false,Q,()) (lv G Q) 4096:=(show RN (false,Q,()) (lv G Q) Q.length from⟨r,L,Nat.le_refl _,rfl⟩).small lf ω ω;obtain⟨q,u,i,k1,E⟩:=xR lf hlf hf Y ω ω;have V:=xd X F;have f1:=yW X F;obtain⟨p,j,k3⟩:=ahu lf ω hx E ω;obtain⟨m,P,k4⟩:=yZ lf k3;obtain⟨s,S,k5⟩:=ad9 lf (c.mono (show 4096≤4096+4096 from ω)) k4 ω ω;obtain⟨t,o,T,k6,k7⟩:=xR lf hlf k5 (h.mono ω) ω ω;refine⟨Q,R,q,u,p,m,s,t,o,K,i,j,P,S,T,⟨_,xN lf c ω ω⟩,⟨_,xN lf k6 ω ω⟩,X.fmod (lv G Q),xN lf E ω ω,V,ω,?_⟩;have mm:=wh X (lv G Q);obtain⟨k,l⟩:=qu a b;have e:X.fmod (lv G Q)*a-(z8 a b:Int)=(X*a-(z8 a b:Int))-b*(X.fdiv (lv G Q)*k):=by
  have i:X.fmod (lv G Q)=X-lv G Q*X.fdiv (lv G Q):=ω;have j:b*(X.fdiv (lv G Q)*k)=lv G Q*X.fdiv (lv G Q)*a:=by
   rw[←H];generalize X.fdiv (lv G Q)=w at *
   generalize lv G Q=z at *
   generalize (z8 a b:Int)=g at *
   rw[l];grind
  rw[i,j,om];omega
 rw[e];exact oo Z (gM _ _)
def agA(lf:Nat)(hb:Big lf){a b:Int}(ha:0 < a∧a < C)(hbb:0 < b∧b < C):
  ∃ (t1 t3:ByteArray) (U:Int),dX.f lf (bs (z7 a)) (bs (z7 b))=some (t1,bs (z7 U),t3,0,())∧0≤U∧U < C∧b∣U*a-(z8 a b:Int):=by
 have hlf:=hb.1;have hK:=hb.2;have hCK:=fD;have ka: -K < a∧a < K:=ω;have kb: -K < b∧b < K:=ω;obtain⟨x,y,e,j,c,n1,n2⟩:=xP lf _ _ (chkK ka) (chkK kb) ω;rw[dW]at j c;have o:x.1=false:=by
  cases O:x.1 with
  | false=>rfl
  | true =>
   have:=j.val;have:=dF (B:=G) δ j.dg;rw[O,fa rfl]at *;omega
 have P:y.1=false:=by
  cases O:y.1 with
  | false=>rfl
  | true =>
   have:=c.val;have:=dF (B:=G) δ c.dg;rw[O,fa rfl]at *;omega
 have y0:=c.ne ω;have B0:Bz a b a b 1 0:=⟨hbb.1,ha.1,ω,ψ,ψ,.inr ⟨ω,ω,ψ⟩,ω⟩
 have one:RN (false,[1],()) 1 4096:=⟨by intro d hd;simp at hd;subst hd;decide,by unfold Tr;simp,ψ,δ⟩
 have i:RN (false,[],()) 0 4096:=⟨nofun,by unfold Tr;simp,ψ,δ⟩
 have x1:RN (false,x.2.1,()) a 4096:=by have h:=j;obtain⟨xn,xl,⟨⟩⟩:=x;simp only at o;subst o;exact h
 have T:RN (false,y.2.1,()) b 4096:=by have h:=c;obtain⟨xn,xl,⟨⟩⟩:=y;simp only at P;subst P;exact h
 obtain⟨q,t,u,v,w,Y,Z,s3,s4,l,s6,p⟩:=acE lf hlf hbb.2 x1 T one i B0 ω;have k:(z8 b (a.fmod b))=z8 a b:=vS (wh a b).symm hbb.1 p.s0 (yW a hbb.1) ω;have V:(decide ((y.2.1.length:Int) > 0))=true:=gR ω;have e0:((y.2.1.length:Int)==0)=false:=beq_eq_false_iff_ne.2 ω;by_cases z:a.fmod b=0
 ·rw[z]at l p k;have tn:=l.nil;rw[rj,show b.natAbs=b.toNat by omega]at k;have hg:RN (false,y.2.1,()) (z8 a b) 4096:=by rw[←k,show((b.toNat:Nat):Int)=b by omega];exact T
  have hX:b∣0*a-(z8 a b:Int):=by
   rw[←k,show((b.toNat:Nat):Int)=b by omega,lh,mU];exact i7.2 (i8 _)
  obtain⟨Q,R,q',u',p',m',s',t',o',E,F,H,I,m,J,⟨c1,n⟩,⟨c2,L⟩,U,M,s,A,D⟩:=aeX lf hlf ha hbb j c hg i hX;refine⟨c1,c2,U,?_,s,A,D⟩;rw[dX.f,e,fe];simp only[bne_self_eq_false,ff,e0];rw[show lf+40=lf+38+1+1 from rfl,dX.l0,dX.r0,V,fg,Y,fe,Z,fe,s3,fe,s4,fe];simp only;rw[dX.l1,dX.r1,tn,gP ψ,ff];have S:((x.1,x.2.1,()):Nb)=x:=rfl;have r:((y.1,y.2.1,()):Nb)=y:=rfl;simp only[fe,fg,ff,o,P,ze]at *
  rw[r]at m n;simp only[S,r,E,F,H,I,m,J,n,L,M,fe]
 ·obtain⟨q2,t2,u2,v2,w2,r1,r2,r3,r4,r5,r6,W⟩:=acE lf hlf hbb.2 T l i s6 p z;have nx0:=p.s0;have sp:0 < a.fmod b:=ω;have fl:=yW b sp;have N:(z8 (a.fmod b) (b.fmod (a.fmod b)))=z8 b (a.fmod b):=vS (wh b (a.fmod b)).symm sp W.s0 fl ω;obtain⟨g,bf,nw,ee,X,l1,l2,l3,l4,l5,l6⟩:=ako lf hlf hbb.2 x.1 x.2.1 y.1 y.2.1 [1] (lf+37) (lf+38) t t2 w w2 _ _ _ _ (by have:=yW a hbb.1;omega) ω l r5 s6 r6 W;rw[N,k]at l2 l4;obtain⟨Q,R,q',u',p',m',s',t',o',E,F,H,I,m,J,⟨c1,n⟩,⟨c2,L⟩,U,M,s,A,D⟩:=aeX lf hlf ha hbb j c l2 l3 l4;refine⟨c1,c2,U,?_,s,A,D⟩;rw[dX.f,e,fe];simp only[bne_self_eq_false,ff,e0];rw[show lf+40=lf+38+1+1 from rfl,dX.l0,dX.r0,V,fg,Y,fe,Z,fe,s3,fe,s4,fe];simp only;have te:((t.1,t.2.1,()):Nb)=t:=rfl;have we:((w.1,w.2.1,()):Nb)=w:=rfl;rw[dX.l1,dX.r1,gR (by have:=l.ne z;omega),fg,te,we,r1,fe,r2,fe,r3,fe,r4,fe];simp only;rw[l1];have S:((x.1,x.2.1,()):Nb)=x:=rfl;have r:((y.1,y.2.1,()):Nb)=y:=rfl;have ge:((g.1,g.2.1,()):Nb)=g:=rfl;have be:((bf.1,bf.2.1,()):Nb)=bf:=rfl;simp only[fe,fg,ff,S,r,ge,be,E,F,H,I,m,J,n,L,M];rw[o,ff]
structure Vl where
 a:A
 c:Cg
deriving DecidableEq
abbrev VV:Type:=IV×(IV×Unit)
def vc(v:Vl):VV:=(ac v.a,cc v.c,())
def Ev:Vl:=⟨E0,Ec⟩
def onev(z:Int):Vl:=⟨⟨false,some z,some z⟩,⟨false,0,z⟩⟩
def loC(c:Cg)(a:Int):Int:=a+(c.r-a).fmod c.m
def hiC(c:Cg)(a:Int):Int:=a-(a-c.r).fmod c.m
def fin3(x y:Option Int)(c:Cg):Vl:=match x,y with
 | some x,some y=>if y < x then Ev else if x=y then onev x else⟨⟨false,clip x,clip y⟩,c⟩
 | x,y=>⟨⟨false,x.bind clip,y.bind clip⟩,c⟩
def red(a:A)(c:Cg):Vl:=if a.em=true then Ev else if c.em=true then Ev else if c.m=0 then(if inS (ofA a) c.r=true then onev c.r else Ev)else fin3 (a.lo.map (loC c)) (a.hi.map (hiC c)) c
structure WfV(v:Vl):Prop where
 a:Wf v.a
 c:WfC v.c
 red:red v.a v.c=v
def lo_m{c:Cg}(p:0 < c.m)(a:Int):a≤loC c a∧loC c a < a+c.m:=by
 have:=xd (c.r-a) p;have:=yW (c.r-a) p;unfold loC;omega
def hi_m{c:Cg}(p:0 < c.m)(a:Int):hiC c a≤a∧a-c.m < hiC c a:=by
 have:=xd (a-c.r) p;have:=yW (a-c.r) p;unfold hiC;omega
def afd{m a:Int}(p:0 < m):a.fmod m=0↔m∣a:=by
 rw[sB _ (zR p)];exact⟨Int.dvd_of_emod_eq_zero,gL⟩
def abx{m:Int}(p:0 < m)(a:Int):m∣a-a.fmod m:=by
 rw[sB _ (zR p)];exact Int.dvd_self_sub_emod
def xK{c:Cg}(he:c.em=false)(a:0≤c.m){z:Int}:inC c z=true↔c.m∣z-c.r:=by
 unfold inC dvd';rw[he];by_cases h:c.m=0
 ·rw[fa h,h];simp
 ·rw[gT h];simp only[zg,tj,decide_eq_true_eq];exact afd ω
def ag8{c:Cg}(p:0 < c.m)(a:Int):c.m∣loC c a-c.r:=by
 obtain⟨k,b⟩:=abx p (c.r-a);exact⟨-k,by unfold loC;rw[rh,←b];omega⟩
def agY{c:Cg}(p:0 < c.m)(a:Int):c.m∣hiC c a-c.r:=by
 obtain⟨k,b⟩:=abx p (a-c.r);exact⟨k,by unfold hiC;rw[←b];omega⟩
def ag7{c:Cg}(p:0 < c.m){a:Int}(h:c.m∣a-c.r):loC c a=a:=by
 have:(c.r-a).fmod c.m=0:=(afd p).2 (by have:=i7.2 h;rwa [Int.neg_sub]at this);unfold loC;omega
def agX{c:Cg}(p:0 < c.m){a:Int}(h:c.m∣a-c.r):hiC c a=a:=by
 have:(a-c.r).fmod c.m=0:=(afd p).2 h;unfold hiC;omega
def vJ{z:Int}(h: -C < z∧z < C):clip z=some z:=fa h
def ab3{z:Int}(h:¬(-C < z∧z < C)):clip z=none:=gT h
def Wf.inS{a:A}(h:Wf a)(he:a.em=false){z:Int}(hz: -K < z∧z < K):inS (ofA a) z=true↔(∀ l,a.lo=some l→l≤z)∧∀ u,a.hi=some u→z≤u:=by
 unfold Go.N.inS ofA;rw[he,gT ψ];simp only[zm,decide_eq_true_eq];cases a.lo with
 | none=>cases a.hi with
  | none=>simp[lox,hix,key];omega
  | some u=>simp[lox,hix,key];omega
 | some l=>cases a.hi with
  | none=>simp[lox,hix,key];omega
  | some u=>simp[lox,hix,key]
def afs{z:Int}(hz: -C < z∧z < C):Wf (onev z).a∧WfC (onev z).c:=by
 have b:=C_gt;exact⟨⟨fun h=>by simp[onev]at h,hz,hz,xp _⟩,⟨by simp only[onev];omega,hz,by simp[onev],fun h=>absurd rfl h⟩⟩
def ai4:Wf Ev.a∧WfC Ev.c:=⟨aec,sG⟩
def ahm{z:Int}(hz: -C < z∧z < C):red (onev z).a (onev z).c=onev z:=by
 have h:inS (ofA (onev z).a) z=true:=by
  unfold inS ofA onev;simp[lox,hix,key]
 unfold red;rw[gT (by simp[onev]),gT (by simp[onev]),fa (by rfl)];exact fa h
def ajp:red Ev.a Ev.c=Ev:=fa rfl
def aeE{z:Int}(hz: -C < z∧z < C):WfV (onev z):=⟨(afs hz).1,(afs hz).2,ahm hz⟩
def Ev_V:WfV Ev:=⟨ai4.1,ai4.2,ajp⟩
def ajI{c:Cg}(hc:WfC c)(he:c.em=false)(l:c.m≠0){x y:Option Int}(j:∀ v,x=some v→c.m∣v-c.r)(k:∀ v,y=some v→c.m∣v-c.r)(bd:∀ v u,x=some v→y=some u→v=u→-C < v∧v < C):WfV (fin3 x y c):=by
 have p:0 < c.m:=by have:=hc.pos;omega
 have a:∀ u v:Option Int,(∀ z,u=some z→(-C < z∧z < C)∧c.m∣z-c.r)→(∀ z,v=some z→(-C < z∧z < C)∧c.m∣z-c.r)→(∀ z w,u=some z→v=some w→z < w)→WfV ⟨⟨false,u,v⟩,c⟩:=by
  intro u v b d f;refine⟨⟨fun h=>by simp at h,?_,?_,?_⟩,hc,?_⟩
  ·cases u with
   | none=>trivial
   | some z=>exact(b z rfl).1
  ·cases v with
   | none=>trivial
   | some z=>exact(d z rfl).1
  ·cases u with
   | none=>trivial
   | some z=>cases v with
    | none=>trivial
    | some w=>exact zR (f z w rfl rfl)
  ·unfold red;rw[gT ψ,gT (by simp[he]),gT l];cases u with
   | none=>cases v with
    | none=>rfl
    | some w =>
     simp only[xf,agX p (d w rfl).2,fin3,ow,vJ (d w rfl).1]
   | some z=>cases v with
    | none=>simp only[xf,ag7 p (b z rfl).2,fin3,ow,vJ (b z rfl).1]
    | some w =>
     have:=f z w rfl rfl;simp only[xf,ag7 p (b z rfl).2,agX p (d w rfl).2,fin3,vJ (b z rfl).1,vJ (d w rfl).1];rw[gT ω,gT ω]
 have e:∀ z w,clip z=some w→w=z∧-C < z∧z < C:=by
  intro z w h;unfold clip at h;split at h
  ·cases h;exact⟨rfl,by assumption⟩
  ·cases h
 cases x with
 | none=>cases y with
  | none=>exact a none none (fun z h=>by cases h) (fun z h=>by cases h) (fun z w h=>by cases h)
  | some w=>exact a none (clip w) (fun z h=>by cases h) (fun z h=>by obtain⟨rfl,h⟩:=e _ _ h;exact⟨h,k _ rfl⟩) (fun z w h=>by cases h)
 | some z=>cases y with
  | none=>exact a (clip z) none (fun z h=>by obtain⟨rfl,h⟩:=e _ _ h;exact⟨h,j _ rfl⟩) (fun z h=>by cases h) (fun z w _ h=>by cases h)
  | some w =>
   unfold fin3;simp only;by_cases i:w < z
   ·rw[fa i];exact Ev_V
   ·rw[gT i];by_cases g:z=w
    ·rw[fa g];exact aeE (bd z w rfl rfl g)
    ·rw[gT g];exact a (clip z) (clip w) (fun z h=>by obtain⟨rfl,h⟩:=e _ _ h;exact⟨h,j _ rfl⟩) (fun z h=>by obtain⟨rfl,h⟩:=e _ _ h;exact⟨h,k _ rfl⟩) (fun u v b d=>by obtain⟨rfl,_⟩:=e _ _ b;obtain⟨rfl,_⟩:=e _ _ d;omega)
def acu{a:A}{c:Cg}(ha:Wf a)(hc:WfC c):WfV (red a c):=by
 unfold red;by_cases g:a.em=true
 ·rw[fa g];exact Ev_V
 ·by_cases d:c.em=true
  ·rw[gT g,fa d];exact Ev_V
  ·rw[gT g,gT d];by_cases z:c.m=0
   ·rw[fa z];split
    ·exact aeE hc.r
    ·exact Ev_V
   ·rw[gT z];have p:0 < c.m:=by have:=hc.pos;omega
    have d:c.em=false:=by simpa using d
    refine ajI hc d z ?_ ?_ ?_
    ·intro v h;cases b:a.lo with
     | none=>rw[b]at h;cases h
     | some l=>rw[b]at h;cases h;exact ag8 p l
    ·intro v h;cases b:a.hi with
     | none=>rw[b]at h;cases h
     | some l=>rw[b]at h;cases h;exact agY p l
    ·intro v u e f h3;have n:=ha.lo;have j:=ha.hi;cases b:a.lo with
     | none=>rw[b]at e;cases e
     | some l =>
      cases i:a.hi with
      | none=>rw[i]at f;cases f
      | some k =>
       rw[b]at e n;rw[i]at f j;cases e;cases f;have:=lo_m p l;have:=hi_m p k;simp only[okb]at n j;omega
section
variable {c d:Cg}(hc:WfC c)(hd:WfC d){z w:Int}(hz:inC c z=true)(hw:inC d w=true)
include hc hd hz hw
end
def aaY(m a:Int)(h:0≤m):dvd' m a=true↔m∣a:=by
 unfold dvd';by_cases b:m=0
 ·rw[fa b,b];simp
 ·rw[gT b,decide_eq_true_eq];exact afd ω
def vU{c d:Cg}(hd:WfC d)(a:c.em=false)(b:d.em=false):rV c d=true↔d.m∣c.m∧d.m∣c.r-d.r:=by
 unfold rV;rw[gT (by simp[a]),gT (by simp[b]),zm,aaY _ _ hd.pos,aaY _ _ hd.pos]
def adP{c:Cg}(hc:WfC c):rV c c=true:=by
 cases e:c.em with
 | true=>unfold rV;rw[fa e]
 | false=>exact(vU hc e e).2 ⟨i8 _,ψ⟩
def ajv{c d:Cg}(h:cc c=cc d):c.em=d.em∧(c.em=false→c=d):=by
 unfold cc at h;cases b:c.em with
 | true=>cases a:d.em with
  | true=>exact⟨rfl,nofun⟩
  | false=>rw[fa b,gT (by simp[a])]at h;have:=congrArg Prod.fst h;simp at this
 | false=>cases a:d.em with
  | true=>rw[gT (by simp[b]),fa a]at h;have:=congrArg Prod.fst h;simp at this
  | false =>
   rw[gT (by simp[b]),gT (by simp[a])]at h;simp only[Prod.mk.injEq]at h;refine⟨rfl,fun _=>?_⟩;have e:=nZ (zD h.2.1);have f:=nZ (zD h.2.2.1);cases c;cases d;simp_all
noncomputable def metC (c d:Cg):Cg :=
 if c.em=true then Ec else if d.em=true then Ec
 else if c.m=0 then(if inC d c.r=true then c else Ec)
 else if d.m=0 then(if inC c d.r=true then d else Ec)
 else if dvd' (z8 c.m d.m) (d.r-c.r)=true then clsF (c.m / (z8 c.m d.m:Int)*d.m) (Classical.epsilon fun z=>c.m∣z-c.r∧d.m∣z-d.r)else Ec
def Cg.eta{c:Cg}(h:c.em=false):c=⟨false,c.m,c.r⟩:=by cases c;simp_all
def ab4{L u v:Int}(h:0 < L)(d:L∣u-v):clsF L u=clsF L v:=by
 have e:(L.natAbs:Int)=L:=ω;unfold clsF;rw[gT (show L≠0 from ω),gT (show L≠0 from ω),e,af9 h d]
def ab5{c:Cg}(hc:WfC c)(he:c.em=false){v:Int}(h:c.m≠0)(d:c.m∣v-c.r):clsF c.m v=c:=by
 have p:0 < c.m:=by have:=hc.pos;omega
 obtain⟨r0,r1⟩:=hc.rng h;rw[ab4 p d,zO hc.pos hc.m hc.r,gT h,sB _ hc.pos,pg r0 r1];exact(Cg.eta he).symm
def aeC{c d:Cg}(ec:c.em=false)(ed:d.em=false)(e:0 < c.m)(f:0 < d.m){v:Int}(a:c.m∣v-c.r)(b:d.m∣v-d.r):metC c d=clsF (c.m / (z8 c.m d.m:Int)*d.m) v:=by
 have g:dvd' (z8 c.m d.m) (d.r-c.r)=true:=by
  refine(aaY _ _ (gN _)).2 ?_;have:=oo (lB (qu c.m d.m) a) (lB (ot c.m d.m) b)
  rwa [show v-c.r-(v-d.r)=d.r-c.r by omega]at this
 unfold metC;rw[gT (by simp[ec]),gT (by simp[ed]),gT ω,gT ω,fa g];obtain⟨h,i⟩:=Classical.epsilon_spec (p:=fun z=>c.m∣z-c.r∧d.m∣z-d.r) ⟨v,a,b⟩;refine ab4 (lcm_pos e f) (lcm_dvd e f ?_ ?_)
 ·have:=oo h a
  rwa [show ∀ x:Int,x-c.r-(v-c.r)=x-v from fun x=>ω]at this
 ·have:=oo i b
  rwa [show ∀ x:Int,x-d.r-(v-d.r)=x-v from fun x=>ω]at this
def aby{a b:Int}(hb:0 < b)(h:b∣a):(z8 a b:Int)=b:=by
 have:z8 a b=b.natAbs:=by
  have:=Int.gcd_eq_right_iff_dvd (zR hb) (a:=a)
  first
   | exact Int.ofNat.inj (by have:=this.2 h;rw[←jN (zR hb)]at this;exact this)
   | omega
 omega
section
variable {c d:Cg}(hc:WfC c)(hd:WfC d)(ec:c.em=false)(ed:d.em=false)
include hc hd ec ed
theorem aaN(h:rV c d=true):metC c d=c:=by
 obtain⟨a,b⟩:=(vU hd ec ed).1 h;by_cases z:c.m=0
 ·unfold metC;rw[gT (by simp[ec]),gT (by simp[ed]),fa z,fa ((xK ed hd.pos).2 b)]
 ·have g:0 < c.m:=by have:=hc.pos;omega
  have f:0 < d.m:=by
   have:=hd.pos;by_cases e:d.m=0
   ·rw[e]at a;have:=ia.1 a;omega
   ·omega
  rw[aeC ec ed g f (v:=c.r) ψ b,aby f a,Int.ediv_mul_cancel a];exact ab5 hc ec z ψ
theorem adX(h:rV d c=true):metC c d=d:=by
 obtain⟨a,b⟩:=(vU hc ed ec).1 h;by_cases z:c.m=0
 ·rw[z]at a b;have j:d.m=0:=ia.1 a;have k:d.r=c.r:=by have:=ia.1 b;omega
  have e:c=d:=by rw[Cg.eta ec,Cg.eta ed,z,j,k]
  subst e;exact aaN hc hd ec ed (adP hc)
 ·by_cases i:d.m=0
  ·unfold metC;rw[gT (by simp[ec]),gT (by simp[ed]),gT z,fa i,fa ((xK ec hc.pos).2 b)]
  ·have f:0 < c.m:=by have:=hc.pos;omega
   have l:0 < d.m:=by have:=hd.pos;omega
   have g:(z8 c.m d.m:Int)=c.m:=by rw[Int.gcd_comm];exact aby f a
   rw[aeC ec ed f l (v:=d.r) b ψ,g,Int.ediv_self ω,oc];exact ab5 hd ed i ψ
theorem aha(b:¬rV c d=true)(e:¬rV d c=true)(h:c.m=0∨d.m=0∨dvd' (z8 c.m d.m) (d.r-c.r)=false):metC c d=Ec:=by
 unfold metC;rw[gT (by simp[ec]),gT (by simp[ed])];by_cases z:c.m=0
 ·rw[fa z,gT];intro x;exact b ((vU hd ec ed).2 ⟨by rw[z];exact Int.dvd_zero _,(xK ed hd.pos).1 x⟩)
 ·rw[gT z];by_cases a:d.m=0
  ·rw[fa a,gT];intro x;exact e ((vU hc ed ec).2 ⟨by rw[a];exact Int.dvd_zero _,(xK ec hc.pos).1 x⟩)
  ·rw[gT a];rcases h with h | h | h
   ·exact absurd h z
   ·exact absurd h a
   ·rw[h,gT ψ]
end
def ac2{c d:Cg}(hc:WfC c)(hd:WfC d):WfC (metC c d):=by
 unfold metC;split;exact sG;split;exact sG;split
 ·split;exact hc;exact sG
 ·split
  ·split;exact hd;exact sG
  ·split;exact wz;exact sG
def szKK{z:Int}(h: -K < z∧z < K):sz z≤20000:=by have:=szK h;omega
def ahA{a b g Q X:Int}(f:g∣a)(j:g*Q=b)(h:b∣X*a-g):b∣X.fmod Q*a-g:=by
 have l:=wh X Q;obtain⟨k,i⟩:=f;have e:X.fmod Q*a-g=(X*a-g)-b*(X.fdiv Q*k):=by
  have c:X.fmod Q=X-Q*X.fdiv Q:=ω;have d:b*(X.fdiv Q*k)=Q*X.fdiv Q*a:=by
   rw[←j];generalize X.fdiv Q=w at *
   rw[i];grind
  rw[c,d,om];omega
 rw[e];exact oo h (gM _ _)
def afq{a b A B:Int}(ha: -A≤a∧a≤A)(hb: -B≤b∧b≤B): -(A*B)≤a*b∧a*b≤A*B:=by
 have c:=yf (show 0≤A-a from ω) (show 0≤B+b from ω);have d:=yf (show 0≤A+a from ω) (show 0≤B-b from ω);have h3:=yf (show 0≤A-a from ω) (show 0≤B-b from ω);have e:=yf (show 0≤A+a from ω) (show 0≤B+b from ω);rw[om,vL,vL]at c;rw[m9,uC,uC]at d;rw[om,uC,uC]at h3;rw[m9,vL,vL]at e;omega
set_option exponentiation.threshold 5000 in
def C4_K:C*(C+C)*C+C+10 < K∧C*(C+C)+10 < K:=by unfold C K;decide
def yh{a b:Int}(ha:0 < a):(z8 a b:Int)*b.fdiv (z8 a b:Int)=b∧b.fdiv (z8 a b:Int)=b / (z8 a b:Int)∧0 < (z8 a b:Int):=by
 have c:0 < (z8 a b:Int):=by
  have:=lA b (show a≠0 from ω);omega
 have e:b.fdiv (z8 a b:Int)=b / (z8 a b:Int):=pB _ (zR c);exact⟨by rw[e];exact gO (ot _ _),e,c⟩
section
variable (lf:Nat)(hb:Big lf){a b:Int}(ha:0 < a∧a < C)(hbb:0 < b∧b < C)
include hb ha hbb
theorem aik(H I:ByteArray):∀ (k n:Nat) (r s x z:Int),s≤k→k < n→r < C→s < C→Bz a b r s x z→
  ∃ X:Int,di.l0 lf H I n (bs (z7 r)) (bs (z7 s)) (bs (z7 x)) (bs (z7 z))=some ((bs (z7 (z8 r s)),bs (z7 X),()),())∧
   b∣X*a-(z8 r s:Int)∧-b≤X∧X≤b:=by
 have h3:200000≤lf:=by have:=hb.1;omega
 have w:=fD;have v:=CC_K;have L:=C_gt;have J:0≤C*C:=yf ω ω;intro k
 induction k with
 | zero =>
  intro n r s x z A B D c h;obtain⟨m,rfl⟩:=zv (show n≠0 from ω);have s0:=h.s0;have r0:=h.r0;obtain rfl:s=0:=ω;have g:(z8 r 0:Int)=r:=by rw[rj];omega
  rw[g];refine⟨x,?_,h.xr,h.xb⟩;rw[di.l0,di.r0,beq0,gR rfl,zj,ff]
 | succ k E =>
  intro n r s x z A B D c h;obtain⟨m,rfl⟩:=zv (show n≠0 from ω);have s0:=h.s0;have r0:=h.r0;have b0:=h.b0;by_cases hs:s=0
  ·subst hs;have g:(z8 r 0:Int)=r:=by rw[rj];omega
   rw[g];refine⟨x,?_,h.xr,h.xb⟩;rw[di.l0,di.r0,beq0,gR rfl,zj,ff]
  ·have sp:0 < s:=ω;have j:=wh r s;have i:=xd r sp;have t:=yW r sp;have l:0≤r.fdiv s:=by rw[pB _ s0];exact vR (zR r0) s0
   have d:=h.next sp j.symm i l
   have zb:=h.zb;have xb:=h.xb;have M:=d.zb;have F:=d.xb;have N:r.fdiv s≤r:=by rw[pB _ s0];exact pf s (zR r0)
   have P:s*r.fdiv s≤r:=ω;have O: -(C*C) < r.fdiv s*z∧r.fdiv s*z < C*C:=rY ω ω;have u:(z8 s (r.fmod s))=z8 r s:=vS j.symm sp i t ω;have o: -K < s∧s < K:=ω;obtain⟨X,e,f,q⟩:=E m s (r.fmod s) z (x-r.fdiv s*z) ω ω c ω d;rw[u]at e f;refine⟨X,?_,f,q⟩;have G: -K < r.fdiv s*s∧r.fdiv s*s < K:=by rw[wk];have:=yf s0 l;omega
   have p:r-r.fdiv s*s=r.fmod s:=by rw[wk];omega
   rw[di.l0,di.r0,beq0,gP hs,zg,fg,qw lf h3 (x:=r) (y:=s) (by have:=szKK (z:=r) ω;omega) (by have:=szKK o;omega) hs,fe];simp only[qm lf h3 (x:=r.fdiv s) (y:=s) ω o,fe,diffI lf h3 (x:=r) (y:=r.fdiv s*s) ω G,p,qm lf h3 (x:=r.fdiv s) (y:=z) ω ω,diffI lf h3 (x:=x) (y:=r.fdiv s*z) ω ω];exact e
theorem ajy:∃ (U:Int) (t:ByteArray),di.f lf (bs (z7 a)) (bs (z7 b))=some (bs (z7 U),t,())∧0≤U∧U < C∧b∣U*a-(z8 a b:Int):=by
 have h3:200000≤lf:=by have:=hb.1;omega
 have k:=fD;have j:=CC_K;have r:=C_gt;have q:0≤C*C:=yf ω ω;have e:=xd a hbb.1;have g:=yW a hbb.1;have B0:Bz a b b (a.fmod b) 0 1:=by
  refine⟨hbb.1,hbb.1,e,?_,?_,.inl ⟨ω,ω,ω⟩,ω⟩
  ·rw[lh,mU];exact i7.2 (i8 _)
  ·rw[oc];exact abx hbb.1 a
 obtain⟨X,c,d,o⟩:=aik lf hb ha hbb (bs (z7 a)) (bs (z7 b)) (lf+39) (lf+40) b (a.fmod b) 0 1 (by have:=hb.2;omega) ω hbb.2 ω B0;have i:(z8 b (a.fmod b))=z8 a b:=vS (wh a b).symm hbb.1 e g ω;rw[i]at c d;obtain⟨m,s,h⟩:=yh (b:=b) ha.1;have Qp:0 < b.fdiv (z8 a b:Int):=by
  by_cases z:0 < b.fdiv (z8 a b:Int)
  ·exact z
  ·have:=yf (zR h) (show 0≤-b.fdiv (z8 a b:Int) by omega);rw[rh]at this;omega
 have n:b.fdiv (z8 a b:Int)≤b:=by
  have:=wA (show 1≤(z8 a b:Int) by omega) (zR Qp);omega
 have p:(z8 a b:Int)≤b:=Int.le_of_dvd hbb.1 (ot _ _);have u0:=xd X Qp;have u1:=yW X Qp;have pr:=rY (a:=a) (b:=X.fmod (b.fdiv (z8 a b:Int))) ω ω;have i1:(⟨#[49]⟩:ByteArray)=bs (z7 1):=i1;have i0:(⟨#[48]⟩:ByteArray)=bs (z7 0):=i0;have l:((b.natAbs:Nat):Int)=b:=ω;refine⟨X.fmod (b.fdiv (z8 a b:Int)),?_⟩;rw[di.f,beq0,gP (show ¬b=0 from ω),ff,rO,fe];simp only[l,rO,fe,vk lf h3 (x:=a) (y:=b) (szKK ω) (szKK ω) ω,i0,i1,c,qw lf h3 (x:=b) (y:=(z8 a b:Int)) (by have:=szKK (z:=b) ω;omega) (by have:=szKK (z:=(z8 a b:Int)) ω;omega) ω,
  vk lf h3 (x:=X) (y:=b.fdiv (z8 a b:Int)) (szKK ω) (szKK ω) ω,qm lf h3 (x:=a) (y:=X.fmod (b.fdiv (z8 a b:Int))) ω ω,diffI lf h3 (x:=(z8 a b:Int)) (y:=a*X.fmod (b.fdiv (z8 a b:Int))) ω ω,
  qw lf h3 (x:=(z8 a b:Int)-a*X.fmod (b.fdiv (z8 a b:Int))) (y:=b) (by have:=szKK (z:=(z8 a b:Int)-a*X.fmod (b.fdiv (z8 a b:Int))) ω;omega) (by have:=szKK (z:=b) ω;omega) ω]
 exact⟨_,rfl,u0,ω,ahA (qu _ _) m d⟩
end
section
variable (lf:Nat)(hb:Big lf){c d:Cg}(hc:WfC c)(hd:WfC d)
include hb hc hd
theorem adW(ec:c.em=false)(ed:d.em=false)(a:0 < c.m)(f:0 < d.m)(dv:dvd' (z8 c.m d.m) (d.r-c.r)=true){U:Int}(h:d.m∣U*c.m-(z8 c.m d.m:Int)):
  metC c d=clsF (c.m / (z8 c.m d.m:Int)*d.m) (c.r+U*(d.r-c.r).fdiv (z8 c.m d.m:Int)*c.m):=by
 obtain⟨_,_,e⟩:=yh (b:=d.m) a;have g:=(aaY _ _ (gN _)).1 dv;have q:(d.r-c.r)=(z8 c.m d.m:Int)*(d.r-c.r).fdiv (z8 c.m d.m:Int):=by
  rw[pB _ (zR e)];exact(gO g).symm
 refine aeC ec ed a f ?_ (crt e a f (qu _ _) (ot _ _) h q);rw[show ∀ t:Int,c.r+t-c.r=t from fun t=>ω];exact jz _ _
theorem aci{U:Int}(u0:0≤U)(u1:U < C)(h:0 < c.m)(s:0 < d.m):
  (-K < (d.r-c.r).fdiv (z8 c.m d.m:Int)∧(d.r-c.r).fdiv (z8 c.m d.m:Int) < K)∧(-K < U*(d.r-c.r).fdiv (z8 c.m d.m:Int)∧U*(d.r-c.r).fdiv (z8 c.m d.m:Int) < K)∧
  (-K < U*(d.r-c.r).fdiv (z8 c.m d.m:Int)*c.m∧U*(d.r-c.r).fdiv (z8 c.m d.m:Int)*c.m < K)∧(-K < c.r+U*(d.r-c.r).fdiv (z8 c.m d.m:Int)*c.m∧c.r+U*(d.r-c.r).fdiv (z8 c.m d.m:Int)*c.m < K):=by
 obtain⟨o,p⟩:=C4_K;have n:=C_gt;have g:=fD;have f:=CC_K;have l:0≤C*C:=yf ω ω;obtain⟨_,_,k⟩:=yh (b:=d.m) h;have r1:=hc.r;have r2:=hd.r;have q:=hc.m;have i:=uU (x:=d.r-c.r) (y:=(z8 c.m d.m:Int)) ω;have e:=afq (a:=U) (b:=(d.r-c.r).fdiv (z8 c.m d.m:Int)) (A:=C) (B:=C+C) ω ω;have j:=afq (b:=c.m) (B:=C) e ω;refine⟨?_,?_,?_,?_⟩<;>omega
theorem ajR:qi.f lf (cc c) (cc d)=some (cc (metC c d),0,()):=by
 obtain⟨h,l,i,u,G,H,I,J,L,t⟩:=bounds lf hb hc hd;have hlf:=hb.1;rw[qi.f,cboth lf hb hc hd,fe];cases ec:c.em with
 | true =>
  have:metC c d=Ec:=by unfold metC;rw[fa ec]
  rw[this,nC ec];simp only[bne_self_eq_false,ff,fg,aW.f,fe];rfl
 | false=>cases ed:d.em with
  | true =>
   have:metC c d=Ec:=by unfold metC;rw[gT (by simp[ec]),fa ed]
   rw[this,dP ec,nC ed];simp only[bne_self_eq_false,ff,fg,aW.f,fe];rfl
  | false =>
   have v:(cc c).1=false:=by rw[dP ec]
   have w:(cc d).1=false:=by rw[dP ed]
   simp only[bne_self_eq_false,ff,v,w];rw[rP.f,adO lf hb hc hd,fe];cases i1:rV c d with
   | true=>simp only[fg,fe];rw[aaN hc hd ec ed i1]
   | false =>
    simp only[ff,adO lf hb hd hc,fe];cases o:rV d c with
    | true=>simp only[fg,fe];rw[adX hc hd ec ed o]
    | false =>
     have A:(cc d).2.1=bs (z7 d.m):=by rw[dP ed]
     have B:(cc d).2.2.1=bs (z7 d.r):=by rw[dP ed]
     have C:(cc c).2.1=bs (z7 c.m):=by rw[dP ec]
     have D:(cc c).2.2.1=bs (z7 c.r):=by rw[dP ec]
     have r1:=hc.r;have r2:=hd.r;have O:=C_gt;have z:=fD;have a: -K < d.r-c.r∧d.r-c.r < K:=ω;have n:=aha hc hd ec ed (by simp[i1]) (by simp[o]);simp only[ff,A,B,C,D,zF lf hb h i,abp lf hb u l a,fe,beq0,aW.f];by_cases j:c.m=0
     ·rw[n (.inl j),gR j,fg,fe];rfl
     ·rw[gP j,ff];by_cases k:d.m=0
      ·rw[n (.inr (.inl k)),gR k,fg,fe];rfl
      ·rw[gP k,ff,wX lf hlf (rE h i) a,fe];simp only;cases dv:dvd' (z8 c.m d.m) (d.r-c.r)with
       | false=>rw[n (.inr (.inr dv))];simp only[zg,fg,fe];rfl
       | true =>
        have e:0 < c.m:=by have:=hc.pos;omega
        have g:0 < d.m:=by have:=hd.pos;omega
        obtain⟨_,_,M⟩:=yh (b:=d.m) e;obtain⟨t1,t3,U,u1,u2,u3,u4⟩:=agA lf hb ⟨e,hc.m.2⟩ ⟨g,hd.m.2⟩;obtain⟨F,p,q,s⟩:=aci lf hb hc hd u2 u3 e g;have E: -K < c.m / (z8 c.m d.m:Int)*d.m∧c.m / (z8 c.m d.m:Int)*d.m < K:=by
         have N:=lcm_pos e g;have x:=pf (z8 c.m d.m:Int) (zR e);have:=wA x (zR g);omega
        simp only[zj,ff,u1,fe,uG lf hlf a (rE h i) ω,iU.f,aay lf hb (x:=U) (y:=(d.r-c.r).fdiv (z8 c.m d.m:Int)) ω F p,akB lf hb ⟨e,hc.m.2⟩ ⟨g,hd.m.2⟩,
         aay lf hb p h q,agD lf hb l q s,xE lf hlf E s]
        rw[adW lf hb hc hd ec ed e g dv u4]
theorem akD:oG.f lf (cc c) (cc d)=some (cc (metC c d),()):=by
 obtain⟨h,o,j,v,O,P,Q,R,S,u⟩:=bounds lf hb hc hd;have hlf:=hb.1;have h3:200000≤lf:=ω;have r1:=hc.r;have r2:=hd.r;have T:=C_gt;have D:=fD;have C:=kW;rw[oG.f];cases ec:c.em with
 | true =>
  have:metC c d=Ec:=by unfold metC;rw[fa ec]
  rw[this,nC ec];simp only[fg,aI.f,fe];rfl
 | false=>cases ed:d.em with
  | true =>
   have:metC c d=Ec:=by unfold metC;rw[gT (by simp[ec]),fa ed]
   rw[this,dP ec,nC ed];simp only[ff,fg,aI.f,fe];rfl
  | false =>
   have w:(cc c).1=false:=by rw[dP ec]
   have z:(cc d).1=false:=by rw[dP ed]
   have E:(cc d).2.1=bs (z7 d.m):=by rw[dP ed]
   have F:(cc d).2.2.1=bs (z7 d.r):=by rw[dP ed]
   have G:(cc c).2.1=bs (z7 c.m):=by rw[dP ec]
   have H:(cc c).2.2.1=bs (z7 c.r):=by rw[dP ec]
   have i: -K < d.r-c.r∧d.r-c.r < K:=ω;simp only[ff,w,z,E,F,G,H,beq0,aI.f,fe,in_r lf hb hd (a:=c.r) ω,in_r lf hb hc (a:=d.r) ω];have M:metC c d=if c.m=0 then(if inC d c.r=true then c else Ec)else if d.m=0 then(if inC c d.r=true then d else Ec)else if dvd' (z8 c.m d.m) (d.r-c.r)=true then metC c d else Ec:=by
    unfold metC;rw[gT (by simp[ec]),gT (by simp[ed])];split
    ·rfl
    ·split
     ·rfl
     ·split<;>rfl
   by_cases l:c.m=0
   ·rw[fa l]at M;rw[M,gR l,fg,zj,ff];cases inC d c.r<;>simp only[fg,ff,if_true,if_false,ze]<;>rfl
   ·rw[gT l]at M;rw[gP l,ff];by_cases n:d.m=0
    ·rw[fa n]at M;rw[M,gR n,fg,zg,fg];cases inC c d.r<;>simp only[fg,ff,if_true,if_false,ze]<;>rfl
    ·rw[gT n]at M;rw[gP n,ff,rW lf hb h j,fe,diffI lf h3 v o,fe];simp only;rw[wE lf h3 (szKK (rE h j)) (szKK i),fe];simp only;cases dv:dvd' (z8 c.m d.m) (d.r-c.r)with
     | false=>rw[dv,gT ψ]at M;rw[M];simp only[zg,fg];rfl
     | true =>
      have g:0 < c.m:=by have:=hc.pos;omega
      have e:0 < d.m:=by have:=hd.pos;omega
      obtain⟨V,k,A⟩:=yh (b:=d.m) g;obtain⟨U,t,u1,u2,u3,u4⟩:=ajy lf hb ⟨g,hc.m.2⟩ ⟨e,hd.m.2⟩;obtain⟨L,N,q,s⟩:=aci lf hb hc hd u2 u3 g e;have I: -K < c.m*d.m.fdiv (z8 c.m d.m:Int)∧c.m*d.m.fdiv (z8 c.m d.m:Int) < K:=by
       have B:=lcm_pos g e;rw[afm g e,←k]at B;have x:=pf (z8 c.m d.m:Int) (zR e);rw[←k]at x;have:=xF x (zR g);omega
      have J: -K < d.m.fdiv (z8 c.m d.m:Int)∧d.m.fdiv (z8 c.m d.m:Int) < K:=by
       have x:=pf (z8 c.m d.m:Int) (zR e);have y:=vR (zR e) (zR A);rw[←k]at x y;omega
      have p:=rE h j;rw[wk (U*(d.r-c.r).fdiv (z8 c.m d.m:Int)) c.m]at q s;simp only[zj,ff,u1,fe,qw lf h3 (x:=d.r-c.r) (y:=(z8 c.m d.m:Int)) (by have:=szKK i;omega) (by have:=szKK p;omega) ω,qm lf h3 (x:=U) (y:=(d.r-c.r).fdiv (z8 c.m d.m:Int)) ω L,
       qw lf h3 (x:=d.m) (y:=(z8 c.m d.m:Int)) (by have:=szKK j;omega) (by have:=szKK p;omega) ω,qm lf h3 (x:=c.m) (y:=d.m.fdiv (z8 c.m d.m:Int)) h J,qm lf h3 (x:=c.m) h N,sumI lf h3 (x:=c.r) o q,qx lf h3 I s]
      rw[adW lf hb hc hd ec ed g e dv u4,afm g e,←k,wk c.m (U*_)]
end
def clipV(lf:Nat){o:Option Int}(h:okb K o):dV.f lf (ob o)=some (ob (o.bind clip),()):=by
 rw[dV.f];cases o with
 | none=>rw[show ob none=bs [] from rfl,rC,fe,jU,show body []=[] from rfl,gP ψ,ff];rfl
 | some z =>
  have a:=rq h;rw[show ob (some z)=bs (z7 z) from rfl,rC,fe,jU];have e:(((body (z7 z)).length:Nat):Int)=(sz z:Int):=rfl;simp only[e,ow];by_cases c: -C < z∧z < C
  ·have:=(sz_C z).2 c;rw[gP ω,ff,vJ c];rfl
  ·have:¬sz z≤100:=fun x=>c ((sz_C z).1 x);rw[gR ω,fg,ab3 c];rfl
set_option exponentiation.threshold 5000 in
def ai3:C+C < Dd:=by
 have e:(10 ^ 100+10 ^ 100:Nat) < 10 ^ 1000:=by
  have:(10:Nat) ^ 1000=10 ^ 100*10 ^ 900:=by rw[←jx]
  rw[this];have:(2:Nat) < 10 ^ 900:=Nat.lt_of_lt_of_le (show(2:Nat) < 10 ^ 1 by decide) (q9 δ δ);have h:=Nat.mul_lt_mul_of_pos_left this (show 0 < 10 ^ 100 by exact Nat.pow_pos δ);omega
 unfold C Dd;exact mR.2 e
def evV:((((true,(⟨#[]⟩:ByteArray),(⟨#[]⟩:ByteArray),()),(true,(⟨#[]⟩:ByteArray),(⟨#[]⟩:ByteArray),()),()):VV))=vc Ev:=rfl
def onV(z:Int):(((false,bs (z7 z),bs (z7 z),()),(false,(⟨#[48]⟩:ByteArray),bs (z7 z),()),()):VV)=vc (onev z):=by
 rw[i0];unfold vc onev;rw[dP rfl];rfl
def aco(x:Int):((bs (z7 x)).toList==(⟨#[]⟩:ByteArray).toList)=false:=by
 have:=jh (some x);rw[show ob (some x)=bs (z7 x) from rfl]at this;rw[this];exact gP nofun
def ob_e:((ob none).toList==(⟨#[]⟩:ByteArray).toList)=true:=by rw[jh];rfl
def aiP(x y:Int):decide (sgn (x-y) > 0)=decide (y < x):=aeK x y
def akO(x y:Int):(sgn (x-y)==0)=decide (x=y):=by
 rw[Bool.eq_iff_iff,beq_iff_eq,decide_eq_true_eq];unfold sgn;(repeat' split)<;>omega
section
variable (lf:Nat)(hb:Big lf){a:A}{c:Cg}(ha:Wf a)(hc:WfC c)
include hb ha hc
theorem lo_K{l:Int}(h: -C < l∧l < C)(p:0 < c.m): -K < loC c l∧loC c l < K∧-Dd < loC c l∧loC c l < Dd:=by
 have:=lo_m p l;have:=hc.m;have:=C_gt;have:=CC_K;have f:=DD_K;have a:=kW;have b:C*2≤C*C:=xF ω ω;have d:=ai3;have e:=Dd_K;omega
theorem hi_K{l:Int}(h: -C < l∧l < C)(p:0 < c.m): -K < hiC c l∧hiC c l < K∧-Dd < hiC c l∧hiC c l < Dd:=by
 have:=hi_m p l;have:=hc.m;have:=C_gt;have a:=ai3;have b:=Dd_K;omega
theorem yJ:dR.f lf (ac a) (cc c)=some (vc (red a c),()):=by
 have hlf:=hb.1;have h3:200000≤lf:=ω;have E:=kW;rw[dR.f];simp only[show(ac a).1=a.em from rfl,show(ac a).2.1=ob a.lo from rfl,show(ac a).2.2.1=ob a.hi from rfl,jq.f,fe,evV,pG.f];unfold red;cases G:a.em with
 | true=>simp only[fg,if_true]
 | false =>
  cases ec:c.em with
  | true=>rw[nC ec];simp only[fg,ff,if_true,if_false,ze]
  | false =>
   have A:(cc c).1=false:=by rw[dP ec]
   have B:(cc c).2.1=bs (z7 c.m):=by rw[dP ec]
   have D:(cc c).2.2.1=bs (z7 c.r):=by rw[dP ec]
   simp only[ff,if_false,ze,A,B,D,beq0];by_cases m:c.m=0
   ·rw[gR m,fg,fa m,agZ lf h3 ha (CK hc.r),fe];simp only;cases hi:inS (ofA a) c.r with
    | true=>simp only[zj,ff,if_true,onV]
    | false=>simp only[zg,fg,if_false,ze]
   ·have p:0 < c.m:=by have:=hc.pos;omega
    rw[gP m,ff,gT m];have s:=ha.lo;have e:=ha.hi;have L:=fun {l:Int} (h: -C < l∧l < C)=>aiv lf hb hc ec (a:=l) ω;have t:=fun {l:Int} (h: -C < l∧l < C)=>aex lf hb hc ec (a:=l) ω;have z:∀ l,aboveC c l=some (loC c l):=fun l=>gT m;have v:∀ l,belowC c l=some (hiC c l):=fun l=>gT m;have k:=clipV lf (o:=none) trivial;cases F:a.lo with
    | none=>cases q:a.hi with
     | none=>simp only[ob_e,zj,ff,k,fe,xf,fin3];rfl
     | some u =>
      rw[q]at e;have g:=t e;rw[v]at g;have d:=hi_K lf hb ha hc e p;have n:=clipV lf (o:=some (hiC c u)) ⟨d.1,d.2.1⟩;simp only[show ob (some u)=bs (z7 u) from rfl,show ob (some (hiC c u))=bs (z7 (hiC c u)) from rfl]at *
      simp only[ob_e,aco,zj,zg,ff,fg,g,k,n,fe,xf,fin3];rfl
    | some l =>
     rw[F]at s;have g:=L s;rw[z]at g;have d:=lo_K lf hb ha hc s p;have w:=clipV lf (o:=some (loC c l)) ⟨d.1,d.2.1⟩;cases q:a.hi with
     | none =>
      simp only[show ob (some l)=bs (z7 l) from rfl,show ob (some (loC c l))=bs (z7 (loC c l)) from rfl]at *
      simp only[ob_e,aco,zj,zg,ff,fg,g,k,w,fe,xf,fin3];rfl
     | some u =>
      rw[q]at e;have y:=t e;rw[v]at y;have b:=hi_K lf hb ha hc e p;have n:=clipV lf (o:=some (hiC c u)) ⟨b.1,b.2.1⟩;have x:=aaz lf _ _ (chkK ⟨d.1,d.2.1⟩) (chkK ⟨b.1,b.2.1⟩) h3;rw[dW,dW]at x;simp only[show ob (some l)=bs (z7 l) from rfl,show ob (some (loC c l))=bs (z7 (loC c l)) from rfl,show ob (some u)=bs (z7 u) from rfl,show ob (some (hiC c u))=bs (z7 (hiC c u)) from rfl]at *
      simp only[ob_e,aco,zj,zg,ff,fg,g,y,x,fe,aiP,akO,xf,fin3];by_cases i:hiC c u < loC c l
      ·rw[gR i,fg,fa i]
      ·rw[gP i,ff,gT i];by_cases j:loC c l=hiC c u
       ·rw[gR j,fg,fa j,onV]
       ·rw[gP j,ff,gT j,w,fe,n,fe];rfl
theorem yE:bK.f lf (ac a) (cc c)=some (vc (red a c),()):=by
 have hlf:=hb.1;have h3:200000≤lf:=ω;have G:=kW;rw[bK.f];simp only[show(ac a).1=a.em from rfl,show(ac a).2.1=ob a.lo from rfl,show(ac a).2.2.1=ob a.hi from rfl,dH.f,aA.f,aI.f,fe,evV];unfold red;cases N:a.em with
 | true=>simp only[fg,if_true]
 | false =>
  cases ec:c.em with
  | true=>rw[nC ec];simp only[fg,ff,if_true,if_false,ze]
  | false =>
   have D:(cc c).1=false:=by rw[dP ec]
   have E:(cc c).2.1=bs (z7 c.m):=by rw[dP ec]
   have F:(cc c).2.2.1=bs (z7 c.r):=by rw[dP ec]
   simp only[ff,if_false,ze,D,E,F,beq0];by_cases m:c.m=0
   ·rw[gR m,fg,fa m,ajP lf h3 ha (CK hc.r),fe];simp only;cases hi:inS (ofA a) c.r with
    | true =>
     simp only[zj,ff,if_true,←onV];rw[dP ec,m,i0]
    | false=>simp only[zg,fg,if_false,ze]
   ·have p:0 < c.m:=by have:=hc.pos;omega
    rw[gP m,ff,gT m];have q:=ha.lo;have j:=ha.hi;have L:=fun {l:Int} (h: -C < l∧l < C)=>aeS lf hb hc ec (a:=l) ω;have v:=fun {l:Int} (h: -C < l∧l < C)=>aif lf hb hc ec (a:=l) ω;have B:∀ l,aboveC c l=some (loC c l):=fun l=>gT m;have w:∀ l,belowC c l=some (hiC c l):=fun l=>gT m;have i:∀ x y:Option Int,okb K x→okb K y→gt? x y=false→toA ⟨lox x,hix y⟩=⟨false,x.bind clip,y.bind clip⟩:=by
     intro x y J M h;unfold toA;rw[agP J M,h,gT ψ,adq,adp]
    cases I:a.lo with
    | none=>cases t:a.hi with
     | none =>
      simp only[ob_e,zj,ff,kE lf h3 none none trivial trivial,i none none trivial trivial rfl,fe,xf,fin3];rfl
     | some u =>
      rw[t]at j;have g:=v j;rw[w]at g;have b:=hi_K lf hb ha hc j p;have k:=kE lf h3 none (some (hiC c u)) trivial ⟨b.1,b.2.1⟩;rw[i none (some (hiC c u)) trivial ⟨b.1,b.2.1⟩ rfl]at k;simp only[show ob (some u)=bs (z7 u) from rfl,show ob (some (hiC c u))=bs (z7 (hiC c u)) from rfl]at *
      simp only[ob_e,aco,zj,zg,ff,fg,g,k,fe,xf,fin3];rfl
    | some l =>
     rw[I]at q;have g:=L q;rw[B]at g;have b:=lo_K lf hb ha hc q p;cases t:a.hi with
     | none =>
      have k:=kE lf h3 (some (loC c l)) none ⟨b.1,b.2.1⟩ trivial;rw[i (some (loC c l)) none ⟨b.1,b.2.1⟩ trivial rfl]at k;simp only[show ob (some l)=bs (z7 l) from rfl,show ob (some (loC c l))=bs (z7 (loC c l)) from rfl]at *
      simp only[ob_e,aco,zj,zg,ff,fg,g,k,fe,xf,fin3];rfl
     | some u =>
      rw[t]at j;have z:=v j;rw[w]at z;have d:=hi_K lf hb ha hc j p;have ls:=lessI lf h3 (x:=hiC c u) (y:=loC c l) ⟨d.1,d.2.1⟩ ⟨b.1,b.2.1⟩;have k:=kE lf h3 (some (loC c l)) (some (hiC c u)) ⟨b.1,b.2.1⟩ ⟨d.1,d.2.1⟩;have T:=i (some (loC c l)) (some (hiC c u)) ⟨b.1,b.2.1⟩ ⟨d.1,d.2.1⟩;simp only[show ob (some l)=bs (z7 l) from rfl,show ob (some (loC c l))=bs (z7 (loC c l)) from rfl,show ob (some u)=bs (z7 u) from rfl,show ob (some (hiC c u))=bs (z7 (hiC c u)) from rfl]at *
      have s:((bs (z7 (loC c l))).toList==(bs (z7 (hiC c u))).toList)=decide (loC c l=hiC c u):=by
       rw[kL];simp only[decide_eq_decide];exact⟨nZ,fun e=>by rw[e]⟩
      simp only[ob_e,aco,zj,zg,ff,fg,g,z,ls,fe,s,xf,fin3];by_cases n:hiC c u < loC c l
      ·rw[gR n,fg,fa n]
      ·rw[gP n,ff,gT n];by_cases o:loC c l=hiC c u
       ·have A: -C < loC c l∧loC c l < C:=by
         have:=lo_m p l;have:=hi_m p u;simp only[okb]at q j;omega
        have O:=C_gt;have H:=fD;rw[gR o,fg,fa o,gJ.f,iQ.f,i0,qx lf h3 (m:=0) ω (CK A),fe,fe];simp only;rw[zO (xp 0) ω A,fa rfl,dP rfl];simp only[←i0,BEq.rfl,zj,ff,fe];rw[onV]
       ·rw[gP o,ff,gT o,k,T (by unfold gt?;simp;omega),fe];rfl
end
end Go.N
