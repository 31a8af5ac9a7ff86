import Derived.Test.YtfogkflaijhfoaaGreatDoorVAG10
import Derived.Test.YtfogkflaijhfoaaGreatDoorVAG9
import Derived.Test.YtfogkflaijhfoaaGreatDoorVAN1
set_option linter.unusedVariables false
set_option linter.unusedSimpArgs false
set_option linter.unusedSectionVars false
namespace Go.N
open Go Go.Q Go.Rx
def valX:X→Int
 | .fin z=>z
 | _=>0
def cmpS(op:Int)(s t:Sp):Sp×Sp :=
 if op=2 then(common s t,common s t)else if op=4 then(⟨s.lo,xmin s.hi (xsh t.hi (-1))⟩,⟨xmax t.lo (xsh s.lo 1),t.hi⟩)
 else if op=5 then(⟨s.lo,xmin s.hi (xsh t.hi 0)⟩,⟨xmax t.lo (xsh s.lo 0),t.hi⟩)
 else(if single t=true then without s (valX t.lo)else s,if single s=true then without t (valX s.lo)else t)
def E0:A:=⟨true,none,none⟩
def refA(op:Int)(a b:A):A×A :=
 if(emp (ofA a)||emp (ofA b))=true then(E0,E0)else if(emp (cmpS op (ofA a) (ofA b)).1||emp (cmpS op (ofA a) (ofA b)).2)=true then(E0,E0)
 else(toA (cmpS op (ofA a) (ofA b)).1,toA (cmpS op (ofA a) (ofA b)).2)
theorem rW:toA non=E0:=by unfold toA;rw[if_pos gU];rfl
theorem wH{s:Sp}(h:single s=true):s.lo=.fin (valX s.lo):=by
 obtain⟨lo,hi⟩:=s
 cases lo<;>cases hi<;>simp[single,valX]at *
theorem acZ{s:Sp}(hs:oks C s)(v:Int):oks K (without s v):=by
 have hK:=fO
 unfold without
 constructor
 ·simp only;split
  ·exact vO hs.1 (by omega) (by omega)
  ·exact hs.1.mono (by omega)
 ·simp only;split
  ·exact vO hs.2 (by omega) (by omega)
  ·exact hs.2.mono (by omega)
theorem agY{s t:Sp}(hs:oks C s)(ht:oks C t)(op:Int):oks K (cmpS op s t).1∧oks K (cmpS op s t).2:=by
 have hK:=fO
 have hs':=hs.mono (Int.le_of_lt hK)
 have ht':=ht.mono (Int.le_of_lt hK)
 unfold cmpS
 split
 ·exact⟨sG hs' ht',sG hs' ht'⟩
 ·split
  ·exact⟨⟨hs'.1,vJ hs'.2 (vO ht.2 (by omega) (by omega))⟩,⟨xN ht'.1 (vO hs.1 (by omega) (by omega)),ht'.2⟩⟩
  ·split
   ·exact⟨⟨hs'.1,vJ hs'.2 (vO ht.2 (by omega) (by omega))⟩,⟨xN ht'.1 (vO hs.1 (by omega) (by omega)),ht'.2⟩⟩
   ·constructor
    ·simp only;split
     ·exact acZ hs _
     ·exact hs'
    ·simp only;split
     ·exact acZ ht _
     ·exact ht'
theorem alJ(lf:Nat)(h3:200000≤lf){s t:Sp}(hs:oks C s)(ht:oks C t):ig.f lf (sc s) (sc t)=some (sc (cmpS 3 s t).1,sc (cmpS 3 s t).2,()):=by
 rw[ig.f,acO,bdS,acO]
 have e1:single t=true→(sc t).1.2.1=bs (Lib.itoa (valX t.lo)):=fun h=>by
  have:=wH h
  simp only[sc];rw[this];rfl
 have e2:single s=true→(sc s).1.2.1=bs (Lib.itoa (valX s.lo)):=fun h=>by
  have:=wH h
  simp only[sc];rw[this];rfl
 have d:cmpS 3 s t=(if single t=true then without s (valX t.lo)else s,if single s=true then without t (valX s.lo)else t):=rfl
 rw[d]
 cases h1:single t<;>cases h2:single s
 ·simp[brF,bdS]
 ·simp[brF,brT,bdS,e2 h2,zu lf h3 ht]
 ·simp[brF,brT,bdS,e1 h1,zu lf h3 hs]
 ·simp[brF,brT,bdS,e1 h1,e2 h2,zu lf h3 hs,zu lf h3 ht]
theorem ajF(lf:Nat)(h3:200000≤lf){a b:A}(ha:Wf a)(hb:Wf b)(op:Int)(ho:op=2∨op=3∨op=4∨op=5):
  oM.f lf op (ac a) (ac b)=some (ac (refA op a b).1,ac (refA op a b).2,0,()):=by
 have hK:=fO
 have hC:=C_gt
 have hc:=agY ha.okC hb.okC op
 have n0:=jf lf h3 (s:=non) iY
 rw[rW]at n0
 have g1:=aef lf h3 (z:=1) (by omega)
 have g0:=aef lf h3 (z:=0) (by omega)
 have f1:=jC lf h3 hc.1
 have f2:=jC lf h3 hc.2
 have f3:=jf lf h3 hc.1
 have f4:=jf lf h3 hc.2
 have q1:=sQ lf h3 (x:=(ofA b).hi) hb.okC.2 (d:= -1) (by omega) (by omega)
 have q2:=sQ lf h3 (x:=(ofA a).lo) ha.okC.1 (d:=1) (by omega) (by omega)
 have q3:=sQ lf h3 (x:=(ofA b).hi) hb.okC.2 (d:=0) (by omega) (by omega)
 have q4:=sQ lf h3 (x:=(ofA a).lo) ha.okC.1 (d:=0) (by omega) (by omega)
 have p1:=aao lf h3 ha.okK.2 (vO (d:= -1) hb.okC.2 (by omega) (by omega))
 have p2:=aes lf h3 hb.okK.1 (vO (d:=1) ha.okC.1 (by omega) (by omega))
 have p3:=aao lf h3 ha.okK.2 (vO (d:=0) hb.okC.2 (by omega) (by omega))
 have p4:=aes lf h3 hb.okK.1 (vO (d:=0) ha.okC.1 (by omega) (by omega))
 have z0: -(0:Int)=0:=by omega
 rw[oM.f]
 unfold refA
 rcases ho with rfl | rfl | rfl | rfl
 ·have d:cmpS 2 (ofA a) (ofA b)=(common (ofA a) (ofA b),common (ofA a) (ofA b)):=rfl
  rw[d]at f1 f2 f3 f4⊢
  rw[show((2:Int)==2)=true from rfl,brT]
  simp only[je lf h3 ha,je lf h3 hb,bdS,bne_self_eq_false,brF,of_f,jC lf h3 ha.okK,jC lf h3 hb.okK,uQ,n0,jd.f,ace lf h3 ha.okK hb.okK,f1,f2,f3,f4]
  cases emp (ofA a)<;>cases emp (ofA b)<;>cases emp (common (ofA a) (ofA b))<;>simp[brT,brF]
 ·have d:=alJ lf h3 ha.okC hb.okC
  rw[show((3:Int)==2)=false from rfl,brF,show((3:Int)==4)=false from rfl,brF,show((3:Int)==5)=false from rfl,brF,show((3:Int)==3)=true from rfl,brT]
  simp only[je lf h3 ha,je lf h3 hb,bdS,bne_self_eq_false,brF,of_f,jC lf h3 ha.okK,jC lf h3 hb.okK,uQ,n0,d,f1,f2,f3,f4]
  cases emp (ofA a)<;>cases emp (ofA b)<;>cases emp (cmpS 3 (ofA a) (ofA b)).1<;>cases emp (cmpS 3 (ofA a) (ofA b)).2<;>simp[brT,brF]
 ·have d:cmpS 4 (ofA a) (ofA b)=(⟨(ofA a).lo,xmin (ofA a).hi (xsh (ofA b).hi (-1))⟩,⟨xmax (ofA b).lo (xsh (ofA a).lo 1),(ofA b).hi⟩):=rfl
  rw[d]at f1 f2 f3 f4⊢
  simp only[sc]at f1 f2 f3 f4
  rw[show((4:Int)==2)=false from rfl,brF,show((4:Int)==4)=true from rfl,brT]
  simp only[je lf h3 ha,je lf h3 hb,bdS,bne_self_eq_false,brF,of_f,jC lf h3 ha.okK,jC lf h3 hb.okK,uQ,n0,i1,g1]
  simp only[sc,q1,q2,bdS,p1,p2,f1,f2,f3,f4]
  cases emp (ofA a)<;>cases emp (ofA b)<;>cases emp (⟨(ofA a).lo,xmin (ofA a).hi (xsh (ofA b).hi (-1))⟩:Sp)<;>cases emp (⟨xmax (ofA b).lo (xsh (ofA a).lo 1),(ofA b).hi⟩:Sp)<;>simp[brT,brF]
 ·have d:cmpS 5 (ofA a) (ofA b)=(⟨(ofA a).lo,xmin (ofA a).hi (xsh (ofA b).hi 0)⟩,⟨xmax (ofA b).lo (xsh (ofA a).lo 0),(ofA b).hi⟩):=rfl
  rw[d]at f1 f2 f3 f4⊢
  simp only[sc]at f1 f2 f3 f4
  rw[show((5:Int)==2)=false from rfl,brF,show((5:Int)==4)=false from rfl,brF,show((5:Int)==5)=true from rfl,brT]
  simp only[je lf h3 ha,je lf h3 hb,bdS,bne_self_eq_false,brF,of_f,jC lf h3 ha.okK,jC lf h3 hb.okK,uQ,n0,i0,g0,z0]
  simp only[sc,q3,q4,bdS,p3,p4,f1,f2,f3,f4]
  cases emp (ofA a)<;>cases emp (ofA b)<;>cases emp (⟨(ofA a).lo,xmin (ofA a).hi (xsh (ofA b).hi 0)⟩:Sp)<;>cases emp (⟨xmax (ofA b).lo (xsh (ofA a).lo 0),(ofA b).hi⟩:Sp)<;>simp[brT,brF]
theorem ah8{s:Sp}{z:Int}(h:inS s z=true):emp s=false:=by
 unfold inS at h
 simp only[Bool.and_eq_true,decide_eq_true_eq]at h
 exact decide_eq_false (by omega)
theorem ako{a b:A}(ha:Wf a)(hb:Wf b){op:Int}(ho:op=2∨op=3∨op=4∨op=5)(h1:emp (ofA a)=false)(h2:emp (ofA b)=false):Wf (toA (cmpS op (ofA a) (ofA b)).1)∧Wf (toA (cmpS op (ofA a) (ofA b)).2):=by
 have hK:=K_gt
 have hKC:=K_C
 have ea:=ha.ks
 have eb:=hb.ks
 rw[←jm ha]at ea
 rw[←jm hb]at eb
 have ka:=ea.e2 h1
 have kb:=eb.e2 h2
 have hc:=agY ha.okC hb.okC op
 have nlo:∀ {x:X} {d:Int},okx C x→x≠.pi→xsh x d≠.pi:=fun {x d} _ h e=>by cases x<;>simp[xsh]at e h
 have nhi:∀ {x:X} {d:Int},okx C x→x≠.ni→xsh x d≠.ni:=fun {x d} _ h e=>by cases x<;>simp[xsh]at e h
 have a1:=acB ka.2.1
 have a2:=acw ka.2.2
 have b1:=acB kb.2.1
 have b2:=acw kb.2.2
 have mx:∀ {x y:X},x≠.pi→y≠.pi→xmax x y≠.pi:=fun {x y} h k=>by unfold xmax;split<;>assumption
 have mn:∀ {x y:X},x≠.ni→y≠.ni→xmin x y≠.ni:=fun {x y} h k=>by unfold xmin;split<;>assumption
 have wo:∀ {s:Sp} {v:Int},oks C s→s.lo≠.pi→s.hi≠.ni→(without s v).lo≠.pi∧(without s v).hi≠.ni:=by
  intro s v hs p1 p2
  unfold without
  constructor
  ·simp only;split
   ·exact nlo hs.1 p1
   ·exact p1
  ·simp only;split
   ·exact nhi hs.2 p2
   ·exact p2
 rcases ho with rfl | rfl | rfl | rfl
 ·exact⟨nD hc.1 (.inr ⟨mx a1 b1,mn a2 b2⟩),nD hc.2 (.inr ⟨mx a1 b1,mn a2 b2⟩)⟩
 ·refine⟨nD hc.1 (.inr ?_),nD hc.2 (.inr ?_)⟩
  ·have d:(cmpS 3 (ofA a) (ofA b)).1=(if single (ofA b)=true then without (ofA a) (valX (ofA b).lo)else ofA a):=rfl
   rw[d];split
   ·exact wo ha.okC a1 a2
   ·exact⟨a1,a2⟩
  ·have d:(cmpS 3 (ofA a) (ofA b)).2=(if single (ofA a)=true then without (ofA b) (valX (ofA a).lo)else ofA b):=rfl
   rw[d];split
   ·exact wo hb.okC b1 b2
   ·exact⟨b1,b2⟩
 ·exact⟨nD hc.1 (.inr ⟨a1,mn a2 (nhi hb.okC.2 b2)⟩),nD hc.2 (.inr ⟨mx b1 (nlo ha.okC.1 a1),b2⟩)⟩
 ·exact⟨nD hc.1 (.inr ⟨a1,mn a2 (nhi hb.okC.2 b2)⟩),nD hc.2 (.inr ⟨mx b1 (nlo ha.okC.1 a1),b2⟩)⟩
theorem afX:Wf E0:=⟨fun _=>⟨rfl,rfl⟩,trivial,trivial,trivial⟩
theorem ahr{a b:A}(ha:Wf a)(hb:Wf b){op:Int}(ho:op=2∨op=3∨op=4∨op=5):Wf (refA op a b).1∧Wf (refA op a b).2:=by
 unfold refA
 cases h1:emp (ofA a)<;>cases h2:emp (ofA b)<;>simp only[Bool.or_true,Bool.true_or,if_true,Bool.or_self,Bool.false_eq_true,if_false]
 ·split
  ·exact⟨afX,afX⟩
  ·exact ako ha hb ho h1 h2
 all_goals exact⟨afX,afX⟩
end Go.N
namespace Go.N
open Go.IntKind (i64)
open Go Go.Q Go.Rx
set_option exponentiation.threshold 5000
theorem CC_K:C*C+C+C+10 < K:=by
 have h1:C*C=((10 ^ 200:Nat):Int):=by
  unfold C
  rw[←Int.natCast_mul,←Nat.pow_add]
 have h2:((10 ^ 200:Nat):Int)*10≤K:=by
  unfold K
  have:(10:Nat) ^ 200*10≤10 ^ 4096:=by rw[←Nat.pow_succ];exact Nat.pow_le_pow_right (by omega) (by omega)
  have h:(((10 ^ 200*10:Nat):Int))≤((10 ^ 4096:Nat):Int):=Int.ofNat_le.2 this
  rw[Int.natCast_mul]at h
  exact h
 have h3:=C_gt
 have h4:C*1000000≤C*C:=Int.mul_le_mul_of_nonneg_left (by omega) (by omega)
 omega
@[irreducible] def Dd : Int := ((10 ^ 1000 : Nat) : Int)
theorem jV:C < Dd:=by
 unfold C Dd
 have:(10:Nat) ^ 100 < 10 ^ 1000:=Nat.pow_lt_pow_right (by omega) (by omega)
 exact Int.ofNat_lt.2 this
theorem DD_K:Dd*Dd+Dd+Dd+10 < K:=by
 have h1:Dd*Dd=((10 ^ 2000:Nat):Int):=by
  unfold Dd
  rw[←Int.natCast_mul,←Nat.pow_add]
 have h2:((10 ^ 2000:Nat):Int)*10≤K:=by
  unfold K
  have:(10:Nat) ^ 2000*10≤10 ^ 4096:=by rw[←Nat.pow_succ];exact Nat.pow_le_pow_right (by omega) (by omega)
  have h:(((10 ^ 2000*10:Nat):Int))≤((10 ^ 4096:Nat):Int):=Int.ofNat_le.2 this
  rw[Int.natCast_mul]at h
  exact h
 have h3:=C_gt
 have h5:=jV
 have h4:Dd*1000000≤Dd*Dd:=Int.mul_le_mul_of_nonneg_left (by omega) (by omega)
 omega
theorem Dd_K:Dd < K:=by
 have h:=DD_K
 have h3:=C_gt
 have h5:=jV
 have h4:0≤Dd*Dd:=Int.mul_nonneg (by omega) (by omega)
 omega
theorem aji{a b:Int}(ha: -Dd < a∧a < Dd)(hb: -Dd < b∧b < Dd): -(Dd*Dd) < a*b∧a*b < Dd*Dd:=by
 have hC:=C_gt
 have hD:=jV
 have h1:(a*b).natAbs=a.natAbs*b.natAbs:=Int.natAbs_mul a b
 have h2:((a*b).natAbs:Int)=(a.natAbs:Int)*(b.natAbs:Int):=by rw[h1,Int.natCast_mul]
 have h3:(a.natAbs:Int)*(b.natAbs:Int)≤(Dd-1)*(Dd-1):=Int.mul_le_mul (by omega) (by omega) (by omega) (by omega)
 have h4:(Dd-1)*(Dd-1)=Dd*Dd-Dd-Dd+1:=by grind
 omega
theorem yA{a b:Int}(ha: -C < a∧a < C)(hb: -C < b∧b < C): -(C*C) < a*b∧a*b < C*C:=by
 have hC:=C_gt
 have h1:(a*b).natAbs=a.natAbs*b.natAbs:=Int.natAbs_mul a b
 have h2:((a*b).natAbs:Int)=(a.natAbs:Int)*(b.natAbs:Int):=by rw[h1,Int.natCast_mul]
 have h3:(a.natAbs:Int)*(b.natAbs:Int)≤(C-1)*(C-1):=Int.mul_le_mul (by omega) (by omega) (by omega) (by omega)
 have h4:(C-1)*(C-1)=C*C-C-C+1:=by grind
 omega
theorem aln(lf:Nat)(i:Int):bD.f lf i=some ((i,bs [],()),()):=rfl
theorem rC(lf:Nat){e v:Int}(h:e=v):(bd (bD.f lf e) fun r=>some (r.1,()))=some (((v,bs [],()):EB),()):=by subst h;rw[aln,bdS]
theorem rZ(lf:Nat)(z:Int):aW.f lf (bs (Lib.itoa z))=some (xc (.fin z),()):=rfl
theorem chkK{z:Int}(h: -K < z∧z < K):chk (Lib.itoa z)=0:=(qE z).2 h
theorem agn(lf:Nat)(h3:200000≤lf){x y:Int}(hx: -K < x∧x < K)(hy: -K < y∧y < K)(hs: -K < x+y∧x+y < K):jL.f lf (bs (Lib.itoa x)) (bs (Lib.itoa y))=some (bs (Lib.itoa (x+y)),()):=by
 rw[jL.f,yG lf h3 hx hy hs,bdS]
def xadd:X→X→X
 | .fin a,.fin b=>.fin (a+b)
 | .fin _,y=>y
 | x,_=>x
theorem aeY(lf:Nat)(h3:200000≤lf){x y:X}(hx:okx C x)(hy:okx C y)(h:¬(x=.ni∧y=.pi)∧¬(x=.pi∧y=.ni)):lT.f lf (xc x) (xc y)=some (xc (xadd x y),()):=by
 have hK:=CC_K
 have hC:=C_gt
 have h4:0≤C*C:=Int.mul_nonneg (by omega) (by omega)
 rw[lT.f]
 cases x with
 | fin a=>cases y with
  | fin b =>
   simp only[okx]at hx hy
   simp only[xc,bne_self_eq_false,brF]
   rw[agn lf h3 (by omega) (by omega) (by omega),bdS,rZ,bdS];rfl
  | ni=>exact(brF _ _).trans ((brT _ _).trans (rC lf rfl))
  | pi=>exact(brF _ _).trans ((brT _ _).trans (rC lf rfl))
 | ni=>cases y with
  | pi=>exact absurd ⟨rfl,rfl⟩ h.1
  | ni=>exact(brT _ _).trans (rC lf rfl)
  | fin b=>exact(brT _ _).trans (rC lf rfl)
 | pi=>cases y with
  | ni=>exact absurd ⟨rfl,rfl⟩ h.2
  | pi=>exact(brT _ _).trans (rC lf rfl)
  | fin b=>exact(brT _ _).trans (rC lf rfl)
def Pr(s:Sp):Prop:=emp s=true∨(s.lo≠.pi∧s.hi≠.ni)
theorem Wf.pr{a:A}(h:Wf a):Pr (ofA a):=by
 unfold Pr ofA
 cases ea:a.em with
 | true=>left;rw[if_pos rfl];exact gU
 | false =>
  right
  rw[if_neg (by simp)]
  constructor
  ·cases a.lo<;>simp[lox]
  ·cases a.hi<;>simp[hix]
theorem lm(x:X):key (xneg x)= -key x:=by cases x<;>simp[key,xneg]
theorem nT{s:Sp}:emp (turn s)=emp s:=by
 unfold turn
 cases h:emp s with
 | true=>rw[if_pos rfl];exact gU
 | false =>
  rw[if_neg (by simp)]
  unfold emp at h⊢
  rw[lm,lm]
  rw[decide_eq_false_iff_not]at h⊢
  omega
theorem Pr.turn{s:Sp}(h:Pr s):Pr (turn s):=by
 unfold Pr
 rw[nT]
 rcases h with h | h
 ·exact .inl h
 ·by_cases he:emp s=true
  ·exact .inl he
  ·right
   unfold Go.N.turn
   rw[if_neg he]
   obtain⟨lo,hi⟩:=s
   cases lo<;>cases hi<;>simp_all [xneg]
def addS(s t:Sp):Sp:=if emp s=true then non else if emp t=true then non else⟨xadd s.lo t.lo,xadd s.hi t.hi⟩
theorem ahS{x y:X}(hx:okx C x)(hy:okx C y):okx K (xadd x y):=by
 have hK:=CC_K
 have hC:=C_gt
 have h4:0≤C*C:=Int.mul_nonneg (by omega) (by omega)
 cases x<;>cases y<;>simp only[xadd,okx]at*<;> omega
theorem abE{s t:Sp}(hs:oks C s)(ht:oks C t):oks K (addS s t):=by
 unfold addS;split
 ·exact iY
 ·split
  ·exact iY
  ·exact⟨ahS hs.1 ht.1,ahS hs.2 ht.2⟩
theorem oks.K{s:Sp}(h:oks C s):oks K s:=h.mono (Int.le_of_lt fO)
theorem agQ(lf:Nat)(h3:200000≤lf){s t:Sp}(hs:oks C s)(ht:oks C t)(ps:Pr s)(pt:Pr t):jK.f lf (sc s) (sc t)=some (sc (addS s t),()):=by
 rw[jK.f,jC lf h3 hs.K,bdS,jC lf h3 ht.K]
 unfold addS
 cases e1:emp s with
 | true=>rw[brT,uQ,bdS,if_pos rfl]
 | false =>
  rw[brF,bdS,if_neg (by simp)]
  cases e2:emp t with
  | true=>rw[brT,uQ,bdS,if_pos rfl]
  | false =>
   rw[brF,if_neg (by simp)]
   have p1:=ps.resolve_left (by simp[e1])
   have p2:=pt.resolve_left (by simp[e2])
   simp only[sc]
   rw[aeY lf h3 hs.1 ht.1 ⟨fun h=>p2.1 h.2,fun h=>p1.1 h.1⟩,bdS,aeY lf h3 hs.2 ht.2 ⟨fun h=>p1.2 h.1,fun h=>p2.2 h.2⟩,bdS]
theorem alU(lf:Nat)(h3:200000≤lf){a b:A}(ha:Wf a)(hb:Wf b):rD.f lf (ac a) (ac b)=some (ac (toA (addS (ofA a) (ofA b))),0,()):=by
 rw[rD.f]
 simp only[je lf h3 ha,je lf h3 hb,bdS,bne_self_eq_false,brF,of_f,agQ lf h3 ha.okC hb.okC ha.pr hb.pr,jf lf h3 (abE ha.okC hb.okC)]
theorem alY(lf:Nat)(h3:200000≤lf){a b:A}(ha:Wf a)(hb:Wf b):rH.f lf (ac a) (ac b)=some (ac (toA (addS (ofA a) (turn (ofA b)))),0,()):=by
 rw[rH.f]
 simp only[je lf h3 ha,je lf h3 hb,bdS,bne_self_eq_false,brF,of_f,nV.f,uS lf h3 hb.okK,agQ lf h3 ha.okC (fV hb.okC) ha.pr hb.pr.turn,jf lf h3 (abE ha.okC (fV hb.okC))]
def sg:X→Int
 | .ni=> -1
 | .fin z=>sgn z
 | .pi=>1
theorem sg_f(lf:Nat)(h3:200000≤lf){x:X}(hx:okx K x):ja.f lf (xc x)=some (sg x,()):=by
 rw[ja.f]
 cases x with
 | ni=>exact(brT _ _).trans rfl
 | pi=>exact(brT _ _).trans rfl
 | fin z =>
  simp only[xc,bne_self_eq_false,brF]
  rw[show(⟨#[48]⟩:ByteArray)=bs [48] from rfl,yh lf _ _ ((qE z).2 hx) agU h3,bdS,dX,iv48,Int.sub_zero];rfl
theorem sg3(x:X):sg x= -1∨sg x=0∨sg x=1:=by
 cases x with
 | ni=>exact .inl rfl
 | pi=>exact .inr (.inr rfl)
 | fin z=>simp only[sg,sgn];(repeat' split)<;>omega
def xmul(x y:X):X:=if sg x*sg y=0 then .fin 0 else match x,y with
 | .fin a,.fin b=>.fin (a*b)
 | _,_=>if sg x*sg y=1 then .pi else .ni
theorem ady(lf:Nat)(h3:200000≤lf){x y:Int}(hx: -K < x∧x < K)(hy: -K < y∧y < K)(hs: -K < x*y∧x*y < K):oV.f lf (bs (Lib.itoa x)) (bs (Lib.itoa y))=some (bs (Lib.itoa (x*y)),0,()):=by
 have h:=(sz_K (x*y)).2 hs
 rw[amN lf _ _ ((qE x).2 hx) ((qE y).2 hy) h3,dX,dX,uj,if_neg (by omega)]
theorem abY(lf:Nat)(h3:200000≤lf){x y:X}(hx:okx C x)(hy:okx C y):fB.f lf (xc x) (xc y)=some (xc (xmul x y),()):=by
 have hCK:=fO
 have hK:=CC_K
 have hC:=C_gt
 have kx:=hx.mono (Int.le_of_lt hCK)
 have ky:=hy.mono (Int.le_of_lt hCK)
 rw[fB.f,sg_f lf h3 kx,bdS,sg_f lf h3 ky,bdS]
 have a:=sg3 x
 have b:=sg3 y
 have w:i64.wrap (sg x*sg y)=sg x*sg y:=by
  apply w64<;>rcases a with a | a | a<;>rcases b with b | b | b<;>rw[a,b]<;>decide
 simp only[w]
 unfold xmul
 by_cases h0:sg x*sg y=0
 ·rw[h0,BEq.rfl,brT,if_pos rfl,i0,rZ,bdS]
 ·rw[show(sg x*sg y==0)=false from beq_eq_false_iff_ne.2 h0,brF,if_neg h0]
  have one:sg x*sg y=1∨sg x*sg y= -1:=by
   rcases a with a | a | a<;>rcases b with b | b | b<;>rw[a,b]at h0⊢<;>simp at h0⊢
  cases x with
  | fin u=>cases y with
   | fin v =>
    have m:=yA hx hy
    simp only[okx]at kx ky
    simp only[xc,bne_self_eq_false,brF]
    rw[ady lf h3 kx ky (by omega),bdS,rZ,bdS];rfl
   | ni => 
    refine(brF _ _).trans ((brT _ _).trans ?_)
    rcases one with o | o
    ·rw[o,if_pos rfl];exact rC lf rfl
    ·rw[o,if_neg (by decide)];exact rC lf rfl
   | pi =>
    refine(brF _ _).trans ((brT _ _).trans ?_)
    rcases one with o | o
    ·rw[o,if_pos rfl];exact rC lf rfl
    ·rw[o,if_neg (by decide)];exact rC lf rfl
  | ni =>
   refine(brT _ _).trans ?_
   rcases one with o | o
   ·rw[o];cases y<;>exact rC lf rfl
   ·rw[o];cases y<;>exact rC lf rfl
  | pi =>
   refine(brT _ _).trans ?_
   rcases one with o | o
   ·rw[o];cases y<;>exact rC lf rfl
   ·rw[o];cases y<;>exact rC lf rfl
theorem qw{x y:X}(hx:okx C x)(hy:okx C y):okx K (xmul x y):=by
 have hK:=CC_K
 have hC:=C_gt
 have h4:0≤C*C:=Int.mul_nonneg (by omega) (by omega)
 unfold xmul
 split
 ·simp only[okx];omega
 ·cases x with
  | fin u=>cases y with
   | fin v =>
    have m:=yA hx hy
    simp only[okx];omega
   | ni=>simp only;split<;>trivial
   | pi=>simp only;split<;>trivial
  | ni=>simp only;split<;>trivial
  | pi=>simp only;split<;>trivial
theorem afY{x y:X}(hx:okx Dd x)(hy:okx Dd y):okx K (xmul x y):=by
 have hK:=DD_K
 have hC:=C_gt
 have hD:=jV
 have h4:0≤Dd*Dd:=Int.mul_nonneg (by omega) (by omega)
 unfold xmul
 split
 ·simp only[okx];omega
 ·cases x with
  | fin u=>cases y with
   | fin v =>
    have m:=aji hx hy
    simp only[okx];omega
   | ni=>simp only;split<;>trivial
   | pi=>simp only;split<;>trivial
  | ni=>simp only;split<;>trivial
  | pi=>simp only;split<;>trivial
theorem okx.D{x:X}(h:okx C x):okx Dd x:=h.mono (Int.le_of_lt jV)
def one(v:X):Sp:=⟨v,v⟩
def apS(o:X→X→X)(s t:Sp):Sp:=if emp s=true then non else if emp t=true then non else
 hull (hull (hull (hull non (one (o s.lo t.lo))) (one (o s.lo t.hi))) (one (o s.hi t.lo))) (one (o s.hi t.hi))
theorem iP{k:Int}{v:X}(h:okx k v):oks k (one v):=⟨h,h⟩
theorem aiK{o:X→X→X}{s t:Sp}(h:∀ x y,(x=s.lo∨x=s.hi)→(y=t.lo∨y=t.hi)→okx K (o x y)):oks K (apS o s t):=by
 unfold apS;split
 ·exact iY
 ·split
  ·exact iY
  ·exact jc (jc (jc (jc iY (iP (h _ _ (.inl rfl) (.inl rfl)))) (iP (h _ _ (.inl rfl) (.inr rfl)))) (iP (h _ _ (.inr rfl) (.inl rfl)))) (iP (h _ _ (.inr rfl) (.inr rfl)))
theorem abP{s t:Sp}(hs:oks C s)(ht:oks C t):oks K (apS xmul s t):=aiK fun x y hx hy=>by
 rcases hx with rfl | rfl<;>rcases hy with rfl | rfl<;>exact qw (by first | exact hs.1 | exact hs.2) (by first | exact ht.1 | exact ht.2)
theorem alV(lf:Nat)(h3:200000≤lf){a b:A}(ha:Wf a)(hb:Wf b):rE.f lf (ac a) (ac b)=some (ac (toA (apS xmul (ofA a) (ofA b))),0,()):=by
 rw[rE.f]
 have hs:=ha.okC
 have ht:=hb.okC
 have c1:=qw hs.1 ht.1
 have c2:=qw hs.1 ht.2
 have c3:=qw hs.2 ht.1
 have c4:=qw hs.2 ht.2
 have g1:=jc iY (iP c1)
 have g2:=jc g1 (iP c2)
 have g3:=jc g2 (iP c3)
 have g4:=jc g3 (iP c4)
 have so:∀ v:X,((xc v,xc v,()):EB×(EB×Unit))=sc (one v):=fun _=>rfl
 simp only[je lf h3 ha,je lf h3 hb,bdS,bne_self_eq_false,brF,of_f,jC lf h3 hs.K,jC lf h3 ht.K,uQ,jf lf h3 iY]
 unfold apS
 cases emp (ofA a)with
 | true=>simp only[brT,if_true]
 | false =>
  cases emp (ofA b)with
  | true=>simp only[brT,brF,Bool.false_eq_true,if_true,if_false]
  | false =>
   simp only[brF,Bool.false_eq_true,if_false]
   have x1:(sc (ofA a)).1=xc (ofA a).lo:=rfl
   have x2:(sc (ofA a)).2.1=xc (ofA a).hi:=rfl
   have x3:(sc (ofA b)).1=xc (ofA b).lo:=rfl
   have x4:(sc (ofA b)).2.1=xc (ofA b).hi:=rfl
   simp only[x1,x2,x3,x4,abY lf h3 hs.1 ht.1,abY lf h3 hs.1 ht.2,abY lf h3 hs.2 ht.1,abY lf h3 hs.2 ht.2,bdS,so,nU lf h3 iY (iP c1),nU lf h3 g1 (iP c2),nU lf h3 g2 (iP c3),nU lf h3 g3 (iP c4),jf lf h3 g4]
end Go.N
namespace Go.N
open Go Go.Q Go.Rx
def xover:X→X→X
 | .fin a,.fin b=>.fin (a.fdiv b)
 | .fin a,_=>if a < 0 then .fin (-1)else .fin 0
 | x,_=>x
theorem zh(lf:Nat)(hlf:2000000000≤lf){x y:Int}(hx: -K < x∧x < K)(hy: -K < y∧y < K)(h0:y≠0):lU.f lf (bs (Lib.itoa x)) (bs (Lib.itoa y))=some (bs (Lib.itoa (x.fdiv y)),0,()):=by
 rw[amR lf hlf _ _ (chkK hx) (chkK hy),dX,dX,if_neg h0]
theorem oq(lf:Nat)(hlf:2000000000≤lf){x y:Int}(hx: -K < x∧x < K)(hy: -K < y∧y < K)(h0:y≠0):iR.f lf (bs (Lib.itoa x)) (bs (Lib.itoa y))=some (bs (Lib.itoa (x.fmod y)),0,()):=by
 rw[amU lf hlf _ _ (chkK hx) (chkK hy),dX,dX,if_neg h0]
theorem pM(x:X):(sg x < 0↔key x < 0)∧(sg x=0↔key x=0)∧(0 < sg x↔0 < key x):=by
 have:=K_gt
 cases x with
 | ni=>simp only[sg,key];omega
 | pi=>simp only[sg,key];omega
 | fin z=>simp only[sg,key,sgn];(repeat' split)<;>omega
theorem uf(lf:Nat)(hlf:2000000000≤lf){x y:X}(hx:okx C x)(hy:okx C y)(h0:y≠.fin 0):aF.f lf (xc x) (xc y)=some (xc (xover x y),()):=by
 have hK:=fO
 rw[aF.f]
 cases x with
 | ni=>exact(brT _ _).trans rfl
 | pi=>exact(brT _ _).trans rfl
 | fin a =>
  have s:=sg_f lf (by omega) (x:=.fin a) (hx.mono (Int.le_of_lt hK))
  simp only[okx]at hx
  rw[s]
  cases y with
  | fin b =>
   simp only[okx]at hy
   simp only[xc,bne_self_eq_false,brF,BEq.rfl,brT]
   rw[zh lf hlf (by omega) (by omega) (by intro e;exact h0 (by rw[e])),bdS,rZ,bdS];rfl
  | ni =>
   simp only[xc,bne_self_eq_false,brF,bdS,show((-1:Int)==0)=false from rfl,show decide (sg (.fin a) < 0)=decide (a < 0) from by have:=(pM (.fin a)).1;simp only[decide_eq_decide];exact this,xover]
   by_cases h:a < 0
   ·rw[decide_eq_true h,brT,if_pos h,im1,rZ,bdS];rfl
   ·rw[decide_eq_false h,brF,if_neg h,i0,rZ,bdS];rfl
  | pi =>
   simp only[xc,bne_self_eq_false,brF,bdS,show((1:Int)==0)=false from rfl,show decide (sg (.fin a) < 0)=decide (a < 0) from by have:=(pM (.fin a)).1;simp only[decide_eq_decide];exact this,xover]
   by_cases h:a < 0
   ·rw[decide_eq_true h,brT,if_pos h,im1,rZ,bdS];rfl
   ·rw[decide_eq_false h,brF,if_neg h,i0,rZ,bdS];rfl
theorem agh{a b k:Int}(hk:1 < k)(ha: -k < a∧a < k)(hb:1≤b): -k < a.fdiv b∧a.fdiv b < k:=by
 have m:=Int.mul_fdiv_add_fmod a b
 have r0:=Int.fmod_nonneg_of_pos a (show 0 < b by omega)
 have r1:=Int.fmod_lt_of_pos a (show 0 < b by omega)
 rcases Int.lt_or_le (a.fdiv b) 0 with z | z
 ·have:=Int.mul_le_mul_of_nonneg_right hb (show 0≤-a.fdiv b-1 by omega)
  have e:b*(-a.fdiv b-1)= -(b*a.fdiv b)-b:=by grind
  omega
 ·have:=Int.mul_le_mul_of_nonneg_right hb z
  omega
theorem uV{x y:X}(hx:okx C x)(hy:∀ b,y=.fin b→1≤b):okx C (xover x y):=by
 have hC:=C_gt
 cases x with
 | ni=>trivial
 | pi=>trivial
 | fin a=>cases y with
  | fin b=>exact agh (by omega) hx (hy b rfl)
  | ni=>simp only[xover];split<;>simp only[okx]<;>omega
  | pi=>simp only[xover];split<;>simp only[okx]<;>omega
theorem adT{x y:X}(hx:okx Dd x)(hy:∀ b,y=.fin b→1≤b):okx Dd (xover x y):=by
 have hC:=C_gt
 have hD:=jV
 cases x with
 | ni=>trivial
 | pi=>trivial
 | fin a=>cases y with
  | fin b=>exact agh (by omega) hx (hy b rfl)
  | ni=>simp only[xover];split<;>simp only[okx]<;>omega
  | pi=>simp only[xover];split<;>simp only[okx]<;>omega
def posS(s:Sp):Sp:=common s ⟨.fin 1,.pi⟩
theorem oU{z:Int}(h1: -10≤z)(h2:z≤10):okx C (.fin z):=by have:=C_gt;simp only[okx];omega
theorem fE{s:Sp}(h:oks C s):oks C (posS s):=sG h ⟨oU (by decide) (by decide),trivial⟩
theorem xB(lf:Nat)(h3:200000≤lf){s:Sp}(hs:oks C s):aI.f lf (sc s)=some (sc (posS s),()):=by
 rw[aI.f,i1,rZ,bdS,aln,bdS]
 have:=ace lf h3 hs.K (t:=⟨.fin 1,.pi⟩) ⟨(oU (by decide) (by decide)).mono (Int.le_of_lt fO),trivial⟩
 rw[show((xc (X.fin 1),(1,bs [],()),()):EB×(EB×Unit))=sc ⟨.fin 1,.pi⟩ from rfl,this,bdS];rfl
theorem aas{s:Sp}(he:emp (posS s)=false)(hs:oks C s)(hp:Pr s):∃ l,(posS s).lo=.fin l∧1≤l∧key s.lo≤l∧(∀ h,(posS s).hi=.fin h→l≤h)∧(posS s).hi=s.hi∧s.hi≠.ni:=by
 have hK:=fO
 have hC:=C_gt
 have kl:=qA (hs.K.1)
 have kh:=qA (hs.K.2)
 obtain⟨lo,hi⟩:=s
 unfold emp at he
 have he:=of_decide_eq_false he
 simp only[posS,common]at he⊢
 have k2:xmin hi .pi=hi:=by
  unfold xmin
  rw[show key .pi=K from rfl]
  split
  ·simp only at kh;omega
  ·rfl
 rw[k2]at he⊢
 rw[kT]at he
 have e1:key (.fin 1)=1:=rfl
 rw[e1]at he
 simp only at kl kh
 have hl:lo≠.pi:=by
  rintro rfl
  rcases hp with h | h
  ·unfold emp at h
   simp only[decide_eq_true_eq]at h
   omega
  ·exact h.1 rfl
 have hn:hi≠.ni:=by
  rintro rfl
  simp only[key]at he
  omega
 refine⟨max (key lo) 1,?_,by omega,by omega,?_,rfl,hn⟩
 ·by_cases h:key lo < 1
  ·rw[ac0 (show key lo < key (.fin 1) from h)];congr 1;omega
  ·rw[zW (show ¬key lo < key (.fin 1) from h)]
   cases lo with
   | pi=>exact absurd rfl hl
   | ni=>exfalso;simp only[key]at h;omega
   | fin z=>simp only[key]at h⊢;congr 1;omega
 ·intro h e
  have:key hi=h:=by rw[e];rfl
  omega
theorem ab6{s t:Sp}(hs:oks C s)(ht:∀ y,(y=t.lo∨y=t.hi)→∀ b,y=.fin b→1≤b):oks K (apS xover s t):=aiK fun x y hx hy=>by
 refine(uV ?_ (ht y hy)).mono (Int.le_of_lt fO)
 rcases hx with rfl | rfl
 ·exact hs.1
 ·exact hs.2
theorem nZ{s:Sp}(he:emp (posS s)=false)(hs:oks C s)(hp:Pr s):∀ y,(y=(posS s).lo∨y=(posS s).hi)→∀ b,y=.fin b→1≤b:=by
 obtain⟨l,e1,e2,e3,e4,e5,e6⟩:=aas he hs hp
 intro y hy b hb
 rcases hy with rfl | rfl
 ·rw[e1]at hb
  injection hb with hb
  omega
 ·have:=e4 b hb;omega
def quoS(s t:Sp):Sp :=
 if emp s=true then non else
 hull (if emp (posS t)=true then non else apS xover s (posS t)) (if emp (posS (turn t))=true then non else apS xover (turn s) (posS (turn t)))
theorem afl(s:Sp)(h:emp s=false∨s=non):hull s non=s:=by
 unfold hull
 rcases h with h | rfl
 ·rw[if_neg (by simp[h]),if_pos gU]
 ·rw[if_pos gU]
theorem nM(v:X):emp (one v)=false:=by unfold emp one;simp
theorem tH{s t:Sp}(hs:emp s=false)(ht:emp t=false):emp (hull s t)=false:=by
 unfold hull
 rw[if_neg (by simp[hs]),if_neg (by simp[ht])]
 unfold emp at hs ht⊢
 simp only[decide_eq_false_iff_not,kF,kT]at hs ht⊢
 omega
theorem rM(s:Sp):hull non s=s:=by unfold hull;rw[if_pos gU]
theorem abH{o:X→X→X}{s t:Sp}(h1:emp s=false)(h2:emp t=false):emp (apS o s t)=false:=by
 unfold apS
 rw[if_neg (by simp[h1]),if_neg (by simp[h2]),rM]
 exact tH (tH (tH (nM _) (nM _)) (nM _)) (nM _)
set_option maxHeartbeats 4000000 in
theorem alW(lf:Nat)(hlf:2000000000≤lf){a b:A}(ha:Wf a)(hb:Wf b):rF.f lf (ac a) (ac b)=some (ac (toA (quoS (ofA a) (ofA b))),0,()):=by
 have h3:200000≤lf:=by omega
 rw[rF.f]
 have hs:=ha.okC
 have ht:=hb.okC
 have pt:=hb.pr
 have ts:=fV hs
 have tt:=fV ht
 have et:emp (turn (ofA a))=emp (ofA a):=nT
 have so:∀ v:X,((xc v,xc v,()):EB×(EB×Unit))=sc (one v):=fun _=>rfl
 simp only[je lf h3 ha,je lf h3 hb,bdS,bne_self_eq_false,brF,of_f,jC lf h3 hs.K,xB lf h3 ht,uS lf h3 ht.K,xB lf h3 tt,jC lf h3 (fE ht).K,jC lf h3 (fE tt).K,uS lf h3 hs.K,jC lf h3 ts.K,et,uQ,jf lf h3 iY,aO.f]
 unfold quoS
 generalize hS:ofA a=s at *
 generalize hT:ofA b=t at *
 have x1:(sc s).1=xc s.lo:=rfl
 have x2:(sc s).2.1=xc s.hi:=rfl
 have x3:(sc (posS t)).1=xc (posS t).lo:=rfl
 have x4:(sc (posS t)).2.1=xc (posS t).hi:=rfl
 have x5:(sc (turn s)).1=xc (turn s).lo:=rfl
 have x6:(sc (turn s)).2.1=xc (turn s).hi:=rfl
 have x7:(sc (posS (turn t))).1=xc (posS (turn t)).lo:=rfl
 have x8:(sc (posS (turn t))).2.1=xc (posS (turn t)).hi:=rfl
 have nz:∀ {u:Sp} (h:∀ y,(y=u.lo∨y=u.hi)→∀ b,y=.fin b→1≤b),u.lo≠.fin 0∧u.hi≠.fin 0:=fun h=>⟨fun e=>by have:=h _ (.inl rfl) 0 e;omega,fun e=>by have:=h _ (.inr rfl) 0 e;omega⟩
 have ov:∀ {x y:X},okx C x→(∀ b,y=.fin b→1≤b)→okx K (xover x y):=fun hx hy=>(uV hx hy).mono (Int.le_of_lt fO)
 cases e1:emp s with
 | true=>simp only[brF,brT,Bool.not_true,Bool.not_false,if_true];cases emp (posS t)<;>simp only[brF,brT,Bool.not_true,Bool.not_false]<;>cases emp (posS (turn t))<;>simp only[brF,brT,Bool.not_true,Bool.not_false]
 | false =>
  cases e2:emp (posS t)with
  | true =>
   simp only[brF,brT,Bool.not_true,Bool.not_false,if_true,if_false,Bool.false_eq_true]
   cases e3:emp (posS (turn t))with
   | true =>
    simp only[brF,brT,Bool.not_true,Bool.not_false,if_true,if_false,Bool.false_eq_true]
    rw[rM]
   | false =>
    have en:=nZ e3 tt pt.turn
    have n:=nz en
    have c1:=ov ts.1 (en _ (.inl rfl))
    have c2:=ov ts.1 (en _ (.inr rfl))
    have c3:=ov ts.2 (en _ (.inl rfl))
    have c4:=ov ts.2 (en _ (.inr rfl))
    have g1:=jc iY (iP c1)
    have g2:=jc g1 (iP c2)
    have g3:=jc g2 (iP c3)
    have g4:=jc g3 (iP c4)
    have pk:=fE tt
    simp only[brF,brT,Bool.not_true,Bool.not_false,if_true,if_false,Bool.false_eq_true,x5,x6,x7,x8,uf lf hlf ts.1 pk.1 n.1,uf lf hlf ts.1 pk.2 n.2,uf lf hlf ts.2 pk.1 n.1,uf lf hlf ts.2 pk.2 n.2,bdS,so,nU lf h3 iY (iP c1),nU lf h3 g1 (iP c2),nU lf h3 g2 (iP c3),nU lf h3 g3 (iP c4)]
    have ea':apS xover (turn s) (posS (turn t))=hull (hull (hull (hull non (one (xover (turn s).lo (posS (turn t)).lo))) (one (xover (turn s).lo (posS (turn t)).hi))) (one (xover (turn s).hi (posS (turn t)).lo))) (one (xover (turn s).hi (posS (turn t)).hi)):=by
     unfold apS;rw[if_neg (by simp[et,e1]),if_neg (by simp[e3])]
    rw[←ea']at g4⊢
    rw[nU lf h3 iY g4,bdS,jf lf h3 (jc iY g4),bdS]
  | false =>
   have en:=nZ e2 ht pt
   have n:=nz en
   have c1:=ov hs.1 (en _ (.inl rfl))
   have c2:=ov hs.1 (en _ (.inr rfl))
   have c3:=ov hs.2 (en _ (.inl rfl))
   have c4:=ov hs.2 (en _ (.inr rfl))
   have g1:=jc iY (iP c1)
   have g2:=jc g1 (iP c2)
   have g3:=jc g2 (iP c3)
   have g4:=jc g3 (iP c4)
   have pk:=fE ht
   simp only[brF,brT,Bool.not_true,Bool.not_false,if_true,if_false,Bool.false_eq_true,x1,x2,x3,x4,uf lf hlf hs.1 pk.1 n.1,uf lf hlf hs.1 pk.2 n.2,uf lf hlf hs.2 pk.1 n.1,uf lf hlf hs.2 pk.2 n.2,bdS,so,nU lf h3 iY (iP c1),nU lf h3 g1 (iP c2),nU lf h3 g2 (iP c3),nU lf h3 g3 (iP c4),jf lf h3 g4]
   have ea:apS xover s (posS t)=hull (hull (hull (hull non (one (xover s.lo (posS t).lo))) (one (xover s.lo (posS t).hi))) (one (xover s.hi (posS t).lo))) (one (xover s.hi (posS t).hi)):=by
    unfold apS;rw[if_neg (by simp[e1]),if_neg (by simp[e2])]
   rw[←ea]at g4⊢
   have ne:=abH (o:=xover) e1 e2
   cases e3:emp (posS (turn t))with
   | true =>
    simp only[brF,brT,Bool.not_true,Bool.not_false,if_true,if_false,Bool.false_eq_true]
    rw[afl _ (.inl ne)]
   | false =>
    have en':=nZ e3 tt pt.turn
    have n':=nz en'
    have c1':=ov ts.1 (en' _ (.inl rfl))
    have c2':=ov ts.1 (en' _ (.inr rfl))
    have c3':=ov ts.2 (en' _ (.inl rfl))
    have c4':=ov ts.2 (en' _ (.inr rfl))
    have g1':=jc iY (iP c1')
    have g2':=jc g1' (iP c2')
    have g3':=jc g2' (iP c3')
    have g4':=jc g3' (iP c4')
    have pk':=fE tt
    simp only[brF,brT,Bool.not_true,Bool.not_false,if_true,if_false,Bool.false_eq_true,x5,x6,x7,x8,uf lf hlf ts.1 pk'.1 n'.1,uf lf hlf ts.1 pk'.2 n'.2,uf lf hlf ts.2 pk'.1 n'.1,uf lf hlf ts.2 pk'.2 n'.2,bdS,so,nU lf h3 iY (iP c1'),nU lf h3 g1' (iP c2'),nU lf h3 g2' (iP c3'),nU lf h3 g3' (iP c4')]
    have ea':apS xover (turn s) (posS (turn t))=hull (hull (hull (hull non (one (xover (turn s).lo (posS (turn t)).lo))) (one (xover (turn s).lo (posS (turn t)).hi))) (one (xover (turn s).hi (posS (turn t)).lo))) (one (xover (turn s).hi (posS (turn t)).hi)):=by
     unfold apS;rw[if_neg (by simp[et,e1]),if_neg (by simp[e3])]
    rw[←ea']at g4'⊢
    rw[nU lf h3 g4 g4',bdS,jf lf h3 (jc g4 g4'),bdS]
def allS(c:Int):Sp:=⟨.fin 0,.fin (c-1)⟩
def resS(s:Sp)(c:Int):Sp:=match s.lo,s.hi with
 | .fin l,.fin h=>if h-l≥c-1 then allS c else if l.fmod c > h.fmod c then allS c else⟨.fin (l.fmod c),.fin (h.fmod c)⟩
 | _,_=>allS c
theorem amf(a b:Int):decide (sgn (a-b)≥0)=decide (b≤a):=by
 simp only[decide_eq_decide];unfold sgn;(repeat' split)<;>omega
theorem abG{c:Int}(h1:1≤c)(h2:c < C):oks C (allS c):=by
 have:=C_gt
 constructor<;>simp only[allS,okx]<;>omega
theorem akV{s:Sp}{c:Int}(h1:1≤c)(h2:c < C):oks C (resS s c):=by
 have hC:=C_gt
 unfold resS
 split
 ·rename_i l h _ _
  have a0:=Int.fmod_nonneg_of_pos l (show 0 < c by omega)
  have a1:=Int.fmod_lt_of_pos l (show 0 < c by omega)
  have b0:=Int.fmod_nonneg_of_pos h (show 0 < c by omega)
  have b1:=Int.fmod_lt_of_pos h (show 0 < c by omega)
  split
  ·exact abG h1 h2
  ·split
   ·exact abG h1 h2
   ·constructor<;>simp only[okx]<;>omega
 ·exact abG h1 h2
theorem agC(lf:Nat)(hlf:2000000000≤lf){s:Sp}(hs:oks C s){c:Int}(h1:1≤c)(h2:c < C):mO.f lf (sc s) (bs (Lib.itoa c))=some (sc (resS s c),()):=by
 have h3:200000≤lf:=by omega
 have hC:=C_gt
 have hK:=CC_K
 have h4:0≤C*C:=Int.mul_nonneg (by omega) (by omega)
 have e1:=agn lf h3 (x:=c) (y:= -1) (by omega) (by omega) (by omega)
 rw[mO.f,i0,im1,e1,rZ,bdS,bdS,rZ,bdS]
 have al:(((xc (.fin 0),xc (.fin (c+ -1)),()):EB×(EB×Unit)))=sc (allS c):=by
  rw[show c+ -1=c-1 by omega];rfl
 obtain⟨lo,hi⟩:=s
 cases lo with
 | ni=>exact(brT _ _).trans (by simp only[resS];rw[al])
 | pi=>exact(brT _ _).trans (by simp only[resS];rw[al])
 | fin l=>cases hi with
  | ni=>exact(brF _ _).trans ((brT _ _).trans (by simp only[resS];rw[al]))
  | pi=>exact(brF _ _).trans ((brT _ _).trans (by simp only[resS];rw[al]))
  | fin h =>
   have kl: -C < l∧l < C:=hs.1
   have kh: -C < h∧h < C:=hs.2
   refine(brF _ _).trans ((brF _ _).trans ?_)
   simp only[sc,xc]
   have n1:=aef lf h3 (z:=l) (by omega)
   have s1:=agn lf h3 (x:=h) (y:= -l) (by omega) (by omega) (by omega)
   rw[n1,bdS,s1,bdS,yh lf _ _ (chkK (by omega)) (chkK (by omega)) h3,bdS,dX,dX]
   simp only[resS,amf]
   by_cases c1:h-l≥c-1
   ·rw[decide_eq_true (by omega),brT,if_pos c1]
    exact congrArg (fun x=>some (x,())) al
   ·rw[decide_eq_false (by omega),brF,if_neg c1]
    have a0:=Int.fmod_nonneg_of_pos l (show 0 < c by omega)
    have a1:=Int.fmod_lt_of_pos l (show 0 < c by omega)
    have b0:=Int.fmod_nonneg_of_pos h (show 0 < c by omega)
    have b1:=Int.fmod_lt_of_pos h (show 0 < c by omega)
    rw[oq lf hlf (by omega) (by omega) (by omega),bdS,oq lf hlf (by omega) (by omega) (by omega),bdS,yh lf _ _ (chkK (by omega)) (chkK (by omega)) h3,bdS,dX,dX]
    simp only[agE]
    by_cases c2:l.fmod c > h.fmod c
    ·rw[decide_eq_true (by omega),brT,if_pos c2]
     exact congrArg (fun x=>some (x,())) al
    ·rw[decide_eq_false (by omega),brF,if_neg c2,rZ,bdS,rZ,bdS]
     rfl
def remI(s t:Sp):Sp:=if single t=true then resS s (valX t.lo)else if 0≤key s.lo∧key s.hi < key t.lo then s else
 ⟨.fin 0,if 0≤key s.lo then xmin (xsh t.hi (-1)) s.hi else xsh t.hi (-1)⟩
theorem aj7{x:X}(h:okx C x):valX x < C:=by have:=C_gt;cases x<;>simp only[valX,okx]at*<;> omega
theorem aly{x:X}(hx:okx C x)(h:∀ z,x=.fin z→1≤z):okx C (xsh x (-1)):=by
 have:=C_gt
 cases x with
 | fin z=>have:=h z rfl;simp only[xsh,okx]at *;omega
 | ni=>trivial
 | pi=>trivial
theorem vC{s t:Sp}(hs:oks C s)(ht:oks C t)(hp:∀ y,(y=t.lo∨y=t.hi)→∀ b,y=.fin b→1≤b):oks C (remI s t):=by
 have h0:okx C (.fin 0):=oU (by decide) (by decide)
 unfold remI
 split
 ·rename_i e
  have:=wH e
  exact akV (hp _ (.inl rfl) _ this) (aj7 ht.1)
 ·split
  ·exact hs
  ·refine⟨h0,?_⟩
   have:=aly ht.2 (hp _ (.inr rfl))
   simp only
   split
   ·exact vJ this hs.2
   ·exact this
theorem xG(lf:Nat)(hlf:2000000000≤lf){s t:Sp}(hs:oks C s)(ht:oks C t)(hp:∀ y,(y=t.lo∨y=t.hi)→∀ b,y=.fin b→1≤b):dh.f lf (sc s) (sc t)=some (sc (remI s t),()):=by
 have h3:200000≤lf:=by omega
 have x1:(sc s).1=xc s.lo:=rfl
 have x2:(sc s).2.1=xc s.hi:=rfl
 have x3:(sc t).1=xc t.lo:=rfl
 have x4:(sc t).2.1=xc t.hi:=rfl
 rw[dh.f,acO,bdS]
 unfold remI
 cases e:single t with
 | true =>
  have el:=wH e
  have h1:=hp _ (.inl rfl) _ el
  rw[brT,if_pos rfl]
  have ex:(sc t).1.2.1=bs (Lib.itoa (valX t.lo)):=by rw[x3,el];rfl
  rw[ex,agC lf hlf hs h1 (aj7 ht.1),bdS]
 | false =>
  rw[brF,if_neg (by simp)]
  obtain⟨cc,c1,c2,c3⟩:=adi lf h3 hs.K.2 ht.K.1
  have sh:=sQ lf h3 ht.2 (d:= -1) (by decide) (by decide)
  have hx:=aly ht.2 (hp _ (.inr rfl))
  have g:=pM s.lo
  have ge:decide (sg s.lo≥0)=decide (0≤key s.lo):=by simp only[decide_eq_decide];omega
  have cg:decide (cc < 0)=decide (key s.hi < key t.lo):=by simp only[decide_eq_decide];omega
  simp only[x1,x2,x3,x4,sg_f lf h3 hs.K.1,bdS,ge,c1,im1,sh,aao lf h3 (hx.mono (Int.le_of_lt fO)) hs.K.2,i0,rZ,cg]
  by_cases h0:0≤key s.lo<;>by_cases hlt:key s.hi < key t.lo<;>simp only[h0,hlt,decide_true,decide_false,brT,brF,if_true,if_false,and_self,and_true,and_false,false_and]<;>rfl
def remS(s t:Sp):Sp :=
 if emp s=true then non else
 if emp (posS t)=true then(if emp (posS (turn t))=true then non else turn (remI (turn s) (posS (turn t))))else
 if emp (posS (turn t))=true then remI s (posS t)else hull (remI s (posS t)) (turn (remI (turn s) (posS (turn t))))
theorem alX(lf:Nat)(hlf:2000000000≤lf){a b:A}(ha:Wf a)(hb:Wf b):rG.f lf (ac a) (ac b)=some (ac (toA (remS (ofA a) (ofA b))),0,()):=by
 have h3:200000≤lf:=by omega
 rw[rG.f]
 have hs:=ha.okC
 have ht:=hb.okC
 have pt:=hb.pr
 have ts:=fV hs
 have tt:=fV ht
 simp only[je lf h3 ha,je lf h3 hb,bdS,bne_self_eq_false,brF,of_f,jC lf h3 hs.K,xB lf h3 ht,uS lf h3 ht.K,xB lf h3 tt,jC lf h3 (fE ht).K,jC lf h3 (fE tt).K,uS lf h3 hs.K,uQ,jf lf h3 iY]
 unfold remS
 generalize ofA a=s at *
 generalize ofA b=t at *
 cases e1:emp s with
 | true=>simp only[brF,brT,Bool.not_true,Bool.not_false,if_true];cases emp (posS t)<;>simp only[brF,brT,Bool.not_true,Bool.not_false]<;>cases emp (posS (turn t))<;>simp only[brF,brT,Bool.not_true,Bool.not_false]
 | false =>
  cases e2:emp (posS t)with
  | true =>
   simp only[brF,brT,Bool.not_true,Bool.not_false,if_true,if_false,Bool.false_eq_true]
   cases e3:emp (posS (turn t))with
   | true=>simp only[brF,brT,Bool.not_true,Bool.not_false,if_true,if_false,Bool.false_eq_true]
   | false =>
    have en:=nZ e3 tt pt.turn
    have k1:=vC ts (fE tt) en
    have k2:=fV k1
    simp only[brF,brT,Bool.not_true,Bool.not_false,if_true,if_false,Bool.false_eq_true,xG lf hlf ts (fE tt) en,bdS,uS lf h3 k1.K,nU lf h3 iY k2.K,rM,jf lf h3 k2.K]
  | false =>
   have en:=nZ e2 ht pt
   have k3:=vC hs (fE ht) en
   simp only[brF,brT,Bool.not_true,Bool.not_false,if_true,if_false,Bool.false_eq_true,xG lf hlf hs (fE ht) en,bdS]
   cases e3:emp (posS (turn t))with
   | true=>simp only[brF,brT,Bool.not_true,Bool.not_false,if_true,if_false,Bool.false_eq_true,jf lf h3 k3.K,bdS]
   | false =>
    have en':=nZ e3 tt pt.turn
    have k1:=vC ts (fE tt) en'
    have k2:=fV k1
    simp only[brF,brT,Bool.not_true,Bool.not_false,if_true,if_false,Bool.false_eq_true,xG lf hlf ts (fE tt) en',bdS,uS lf h3 k1.K,nU lf h3 k3.K k2.K,jf lf h3 (jc k3.K k2.K)]
end Go.N
namespace Go.N
open Go Go.Q Go.Rx
theorem szC{z:Int}(h: -C < z∧z < C):sz z≤100:=(sz_C z).2 h
theorem signI(lf:Nat)(z:Int):bK.f lf (bs (Lib.itoa z))=some (sgn z,()):=by rw[yE lf _ (jW z),dX]
theorem floorI(lf:Nat)(h3:200000≤lf){x y:Int}(hx: -C < x∧x < C)(hy: -C < y∧y < C)(h0:y≠0):aP.f lf (bs (Lib.itoa x)) (bs (Lib.itoa y))=some (bs (Lib.itoa (x.fdiv y)),()):=by
 have:=szC hx
 have:=szC hy
 exact pV lf h3 (by omega) (by omega) h0
theorem restI(lf:Nat)(h3:200000≤lf){x y:Int}(hx: -C < x∧x < C)(hy: -C < y∧y < C)(h0:y≠0):bH.f lf (bs (Lib.itoa x)) (bs (Lib.itoa y))=some (bs (Lib.itoa (x.fmod y)),()):=by
 have:=szC hx
 have:=szC hy
 exact tZ lf h3 (by omega) (by omega) h0
theorem szK{z:Int}(h: -K < z∧z < K):sz z≤4096:=(sz_K z).2 h
theorem sumI(lf:Nat)(h3:200000≤lf){x y:Int}(hx: -K < x∧x < K)(hy: -K < y∧y < K):dB.f lf (bs (Lib.itoa x)) (bs (Lib.itoa y))=some (bs (Lib.itoa (x+y)),()):=by
 have:=szK hx
 have:=szK hy
 exact ahM lf h3 (by omega) (by omega)
theorem diffI(lf:Nat)(h3:200000≤lf){x y:Int}(hx: -K < x∧x < K)(hy: -K < y∧y < K):aQ.f lf (bs (Lib.itoa x)) (bs (Lib.itoa y))=some (bs (Lib.itoa (x-y)),()):=by
 have:=szK hx
 have:=szK hy
 exact aci lf h3 (by omega) (by omega)
theorem oN(lf:Nat)(h3:200000≤lf){x y:Int}(hx: -K < x∧x < K)(hy: -K < y∧y < K):aX.f lf (bs (Lib.itoa x)) (bs (Lib.itoa y))=some (bs (Lib.itoa (x*y)),()):=by
 have:=szK hx
 have:=szK hy
 exact aby lf h3 (by omega) (by omega)
theorem CK{z:Int}(h: -C < z∧z < C): -K < z∧z < K:=by have:=fO;omega
theorem mkA{s:Sp}(h:oks C s)(p:Pr s):Wf (toA s)∧ofA (toA s)=if emp s=true then non else s:=by
 refine⟨nD h.K p,?_⟩
 by_cases e:emp s=true
 ·rw[if_pos e]
  have:toA s=E0:=by unfold toA;rw[if_pos e];rfl
  rw[this];rfl
 ·rw[if_neg e]
  have p':=p.resolve_left e
  exact akI h (by simpa using e) p'.1 p'.2
theorem zo{s:Sp}(h:emp s=true):toA s=E0:=by unfold toA;rw[if_pos h];rfl
def addO:Option Int→Option Int→Option Int
 | some a,some b=>some (a+b)
 | _,_=>none
theorem rsumO(lf:Nat)(h3:200000≤lf){x y:Option Int}(hx:okb C x)(hy:okb C y):eU.f lf (ob x) (ob y)=some (ob (addO x y),()):=by
 rw[eU.f,lZ,lZ]
 cases x with
 | none=>simp only[decide_true,brT];rfl
 | some a=>cases y with
  | none=>simp only[decide_true,brT,reduceCtorEq,decide_false,brF];rfl
  | some b =>
   simp only[reduceCtorEq,decide_false,brF]
   have e:=sumI lf h3 (CK hx) (CK hy)
   rw[show ob (some a)=bs (Lib.itoa a) from rfl,show ob (some b)=bs (Lib.itoa b) from rfl,e,bdS];rfl
theorem wK{x y:Option Int}(hx:okb C x)(hy:okb C y):okb K (addO x y):=by
 have hK:=CC_K
 have hC:=C_gt
 have h4:0≤C*C:=Int.mul_nonneg (by omega) (by omega)
 cases x<;>cases y<;>simp only[addO,okb]at*<;> omega
theorem ajv(lf:Nat)(h3:200000≤lf){a b:A}(ha:Wf a)(hb:Wf b):jD.f lf (ac a) (ac b)=some (ac (toA (addS (ofA a) (ofA b))),()):=by
 rw[jD.f]
 unfold addS
 rw[jm ha,jm hb]
 cases ea:a.em with
 | true=>simp only[ac,ea,brT,aA.f,bdS,if_true,rW];rfl
 | false=>cases eb:b.em with
  | true=>simp only[ac,ea,eb,brT,brF,aA.f,bdS,if_true,if_false,Bool.false_eq_true,rW];rfl
  | false =>
   simp only[ac,ea,eb,brF,if_false,Bool.false_eq_true]
   rw[rsumO lf h3 ha.lo hb.lo,bdS,rsumO lf h3 ha.hi hb.hi,bdS,jI lf h3 _ _ (wK ha.lo hb.lo) (wK ha.hi hb.hi),bdS]
   have e1:lox (addO a.lo b.lo)=xadd (ofA a).lo (ofA b).lo:=by
    unfold ofA;rw[if_neg (by simp[ea]),if_neg (by simp[eb])]
    cases a.lo<;>cases b.lo<;>rfl
   have e2:hix (addO a.hi b.hi)=xadd (ofA a).hi (ofA b).hi:=by
    unfold ofA;rw[if_neg (by simp[ea]),if_neg (by simp[eb])]
    cases a.hi<;>cases b.hi<;>rfl
   rw[e1,e2];rfl
theorem turnA{a:A}(h:Wf a):Wf (toA (turn (ofA a)))∧ofA (toA (turn (ofA a)))=turn (ofA a):=by
 have m:=mkA (fV h.okC) h.pr.turn
 refine⟨m.1,?_⟩
 rw[m.2]
 split
 ·rename_i e
  rw[nT]at e
  unfold turn;rw[if_pos e]
 ·rfl
theorem akG(lf:Nat)(h3:200000≤lf){a b:A}(ha:Wf a)(hb:Wf b):lH.f lf (ac a) (ac b)=some (ac (toA (addS (ofA a) (turn (ofA b)))),()):=by
 have t:=turnA hb
 rw[lH.f,pO lf h3 hb,bdS,ajv lf h3 ha t.1,bdS,t.2]
def negS(s:Sp):Sp:=common s ⟨.ni,.fin (-1)⟩
def zerS(s:Sp):Sp:=common s ⟨.fin 0,.fin 0⟩
theorem abW(lf:Nat)(h3:200000≤lf){a:A}(ha:Wf a):fC.f lf (ac a)=some ([ac (toA (negS (ofA a))),ac (toA (zerS (ofA a))),ac (toA (posS (ofA a)))],()):=by
 have hC:=C_gt
 have hK:=fO
 have okm:okb K (some (-1)):=by simp only[okb];omega
 have ok0:okb K (some 0):=by simp only[okb];omega
 have ok1:okb K (some 1):=by simp only[okb];omega
 have r1:=jI lf h3 none (some (-1)) trivial okm
 have r2:=jI lf h3 (some 0) (some 0) ok0 ok0
 have r3:=jI lf h3 (some 1) none ok1 trivial
 have mk:∀ s:Sp,oks C s→emp s=false→s.lo≠.pi→s.hi≠.ni→Wf (toA s)∧ofA (toA s)=s:=fun s h e p q=>by
  have m:=mkA h (.inr ⟨p,q⟩)
  rw[e,if_neg (by simp)]at m
  exact m
 have m1:=mk ⟨.ni,.fin (-1)⟩ ⟨trivial,oU (by decide) (by decide)⟩ (decide_eq_false (show ¬(-K > -1) by omega)) (by simp) (by simp)
 have m2:=mk ⟨.fin 0,.fin 0⟩ ⟨oU (by decide) (by decide),oU (by decide) (by decide)⟩ (by unfold emp;simp[key]) (by simp) (by simp)
 have m3:=mk ⟨.fin 1,.pi⟩ ⟨oU (by decide) (by decide),trivial⟩ (decide_eq_false (show ¬((1:Int) > K) by omega)) (by simp) (by simp)
 have q1:ax.f lf (⟨#[]⟩:ByteArray) (bs (Lib.itoa (-1)))=some (ac (toA ⟨.ni,.fin (-1)⟩),()):=r1
 have q2:ax.f lf (bs (Lib.itoa 0)) (bs (Lib.itoa 0))=some (ac (toA ⟨.fin 0,.fin 0⟩),()):=r2
 have q3:ax.f lf (bs (Lib.itoa 1)) (⟨#[]⟩:ByteArray)=some (ac (toA ⟨.fin 1,.pi⟩),()):=r3
 rw[fC.f,im1,q1,bdS,aap lf h3 ha m1.1,bdS,jo.f,i0,q2,bdS,bdS,aap lf h3 ha m2.1,bdS,i1,q3,bdS,aap lf h3 ha m3.1,bdS,m1.2,m2.2,m3.2]
 rfl
theorem hullNE{s t:Sp}(hs:emp s=false)(ht:emp t=false):hull s t=⟨xmin s.lo t.lo,xmax s.hi t.hi⟩:=by
 unfold hull;rw[if_neg (by simp[hs]),if_neg (by simp[ht])]
theorem aiJ{o:X→X→X}{s t:Sp}(hs:emp s=false)(ht:emp t=false)(ok:∀ x y,(x=s.lo∨x=s.hi)→(y=t.lo∨y=t.hi)→okx K (o x y))
  {L H:X} (l1:∃ x y,(x=s.lo∨x=s.hi)∧(y=t.lo∨y=t.hi)∧L=o x y) (l2:∀ x y,(x=s.lo∨x=s.hi)→(y=t.lo∨y=t.hi)→key L≤key (o x y))
  (g1:∃ x y,(x=s.lo∨x=s.hi)∧(y=t.lo∨y=t.hi)∧H=o x y) (g2:∀ x y,(x=s.lo∨x=s.hi)→(y=t.lo∨y=t.hi)→key (o x y)≤key H):apS o s t=⟨L,H⟩:=by
 unfold apS
 rw[if_neg (by simp[hs]),if_neg (by simp[ht]),rM,hullNE (nM _) (nM _)]
 have e1:=nM (o s.lo t.lo)
 have e2:=nM (o s.lo t.hi)
 have e3:=nM (o s.hi t.lo)
 have e4:=nM (o s.hi t.hi)
 have n1:=tH e1 e2
 rw[hullNE e1 e2]at n1
 rw[hullNE n1 e3]
 have n2:=tH n1 e3
 rw[hullNE n1 e3]at n2
 rw[hullNE n2 e4]
 have a1:=ok _ _ (.inl rfl) (.inl rfl)
 have a2:=ok _ _ (.inl rfl) (.inr rfl)
 have a3:=ok _ _ (.inr rfl) (.inl rfl)
 have a4:=ok _ _ (.inr rfl) (.inr rfl)
 have b1:=l2 _ _ (.inl rfl) (.inl rfl)
 have b2:=l2 _ _ (.inl rfl) (.inr rfl)
 have b3:=l2 _ _ (.inr rfl) (.inl rfl)
 have b4:=l2 _ _ (.inr rfl) (.inr rfl)
 have c1:=g2 _ _ (.inl rfl) (.inl rfl)
 have c2:=g2 _ _ (.inl rfl) (.inr rfl)
 have c3:=g2 _ _ (.inr rfl) (.inl rfl)
 have c4:=g2 _ _ (.inr rfl) (.inr rfl)
 have okL:okx K L:=by obtain⟨x,y,hx,hy,rfl⟩:=l1;exact ok x y hx hy
 have okH:okx K H:=by obtain⟨x,y,hx,hy,rfl⟩:=g1;exact ok x y hx hy
 have m1:key L=min (min (min (key (o s.lo t.lo)) (key (o s.lo t.hi))) (key (o s.hi t.lo))) (key (o s.hi t.hi)):=by
  obtain⟨x,y,hx,hy,rfl⟩:=l1
  rcases hx with rfl | rfl<;>rcases hy with rfl | rfl<;>omega
 have m2:key H=max (max (max (key (o s.lo t.lo)) (key (o s.lo t.hi))) (key (o s.hi t.lo))) (key (o s.hi t.hi)):=by
  obtain⟨x,y,hx,hy,rfl⟩:=g1
  rcases hx with rfl | rfl<;>rcases hy with rfl | rfl<;>omega
 congr 1
 ·apply key_inj (vJ (vJ (vJ a1 a2) a3) a4) okL
  simp only[one,kF];omega
 ·apply key_inj (xN (xN (xN a1 a2) a3) a4) okH
  simp only[one,kT];omega
def Po:X→Prop
 | .fin b=>1≤b
 | .pi=>True
 | .ni=>False
theorem vV{a a' b:Int}(hb:1≤b)(h:a≤a'):a.fdiv b≤a'.fdiv b:=by
 rw[Int.fdiv_eq_ediv_of_nonneg _ (by omega),Int.fdiv_eq_ediv_of_nonneg _ (by omega)]
 exact Int.ediv_le_ediv (by omega) h
theorem aeb{a b:Int}(hb:1≤b)(h:0≤a):0≤a.fdiv b:=by
 have:=vV (a:=0) hb h
 rwa [Int.zero_fdiv]at this
theorem ag5{a b:Int}(hb:1≤b)(h:a < 0):a.fdiv b≤-1:=by
 have m:=Int.mul_fdiv_add_fmod a b
 have r0:=Int.fmod_nonneg_of_pos a (show 0 < b by omega)
 by_cases z:a.fdiv b≤-1
 ·exact z
 ·have:=Int.mul_nonneg (show 0≤b by omega) (show 0≤a.fdiv b by omega);omega
theorem ab3{x x' y:X}(hx:okx Dd x)(hx':okx Dd x')(hy:Po y)(h:key x≤key x'):key (xover x y)≤key (xover x' y):=by
 have hK:=Dd_K
 have hC:=Int.lt_trans C_gt jV
 have po:∀ b,y=.fin b→1≤b:=fun b e=>by subst e;exact hy
 have k1:=qA ((adT hx po).mono (Int.le_of_lt hK))
 have k2:=qA ((adT hx' po).mono (Int.le_of_lt hK))
 cases x with
 | ni=>exact k2.1
 | pi=>cases x' with
  | pi=>exact Int.le_refl _
  | ni=>simp only[key]at h;omega
  | fin z=>simp only[key,okx]at h hx';omega
 | fin z=>cases x' with
  | pi=>exact k1.2
  | ni=>simp only[key,okx]at h hx;omega
  | fin w =>
   simp only[key]at h
   cases y with
   | ni=>exact hy.elim
   | fin b=>exact vV hy h
   | pi=>simp only[xover];split<;>split<;>simp only[key]<;>omega
theorem aeU{x y y':X}(hx:okx Dd x)(hy:Po y)(hy':Po y')(oy:okx Dd y)(oy':okx Dd y')(h:key y≤key y')(hn:key x < 0):key (xover x y)≤key (xover x y'):=by
 have hK:=Dd_K
 have hC:=Int.lt_trans C_gt jV
 cases x with
 | ni=>exact Int.le_refl _
 | pi=>simp only[key]at hn;omega
 | fin z =>
  simp only[key]at hn
  cases y with
  | ni=>exact hy.elim
  | pi=>cases y' with
   | ni=>exact hy'.elim
   | pi=>exact Int.le_refl _
   | fin b=>simp only[key,okx]at h oy';omega
  | fin b=>cases y' with
   | ni=>exact hy'.elim
   | pi =>
    simp only[xover];rw[if_pos hn];exact ag5 hy hn
   | fin c =>
    simp only[key]at h
    simp only[xover,key]
    have m:=Int.mul_fdiv_add_fmod z b
    have m':=Int.mul_fdiv_add_fmod z c
    have r0:=Int.fmod_nonneg_of_pos z (show 0 < b by have:1≤b:=hy;omega)
    have r1:=Int.fmod_lt_of_pos z (show 0 < c by have:1≤c:=hy';omega)
    have q:=ag5 (b:=b) hy hn
    by_cases g:z.fdiv b≤z.fdiv c
    ·exact g
    ·have hb:1≤b:=hy
     have e1:=Int.mul_le_mul_of_nonneg_left (show z.fdiv c+1≤z.fdiv b by omega) (show 0≤c by have:1≤c:=hy';omega)
     have e2:=Int.mul_le_mul_of_nonneg_right h (show 0≤-z.fdiv b by omega)
     rw[Int.mul_add]at e1
     rw[Int.mul_neg,Int.mul_neg]at e2
     omega
theorem aeV{x y y':X}(hx:okx Dd x)(hy:Po y)(hy':Po y')(oy:okx Dd y)(oy':okx Dd y')(h:key y≤key y')(hn:0≤key x):key (xover x y')≤key (xover x y):=by
 have hK:=Dd_K
 have hC:=Int.lt_trans C_gt jV
 cases x with
 | pi=>exact Int.le_refl _
 | ni=>simp only[key]at hn;omega
 | fin z =>
  simp only[key]at hn
  cases y with
  | ni=>exact hy.elim
  | pi=>cases y' with
   | ni=>exact hy'.elim
   | pi=>exact Int.le_refl _
   | fin b=>simp only[key,okx]at h oy';omega
  | fin b=>cases y' with
   | ni=>exact hy'.elim
   | pi =>
    simp only[xover];rw[if_neg (by omega)];exact aeb hy hn
   | fin c =>
    simp only[key]at h
    simp only[xover,key]
    have m:=Int.mul_fdiv_add_fmod z b
    have m':=Int.mul_fdiv_add_fmod z c
    have r0:=Int.fmod_nonneg_of_pos z (show 0 < c by have:1≤c:=hy';omega)
    have r1:=Int.fmod_lt_of_pos z (show 0 < b by have:1≤b:=hy;omega)
    have q:=aeb (b:=c) hy' hn
    by_cases g:z.fdiv c≤z.fdiv b
    ·exact g
    ·have e1:=Int.mul_le_mul_of_nonneg_left (show z.fdiv b+1≤z.fdiv c by omega) (show 0≤b by have:1≤b:=hy;omega)
     have e2:=Int.mul_le_mul_of_nonneg_right h q
     rw[Int.mul_add]at e1
     omega
def quL:X→X→X→X
 | .fin z,a,b=>if z < 0 then xover (.fin z) a else xover (.fin z) b
 | x,_,_=>x
def quH:X→X→X→X
 | .fin z,a,b=>if 0≤z then xover (.fin z) a else xover (.fin z) b
 | x,_,_=>x
theorem agz(x a b:X):quL x a b=if key x < 0 then xover x a else xover x b:=by
 cases x with
 | fin z=>rfl
 | ni=>simp only[quL,xover,ite_self]
 | pi=>simp only[quL,xover,ite_self]
theorem agy(x a b:X):quH x a b=if 0≤key x then xover x a else xover x b:=by
 cases x with
 | fin z=>rfl
 | ni=>simp only[quH,xover,ite_self]
 | pi=>simp only[quH,xover,ite_self]
def quS(s u:Sp):Sp:=⟨quL s.lo u.lo u.hi,quH s.hi u.lo u.hi⟩
theorem aew{s u:Sp}(hs:oks C s)(hu:oks C u)(es:emp s=false)(eu:emp u=false)(p1:Po u.lo)(p2:Po u.hi):apS xover s u=quS s u:=by
 have ls:=of_decide_eq_false es
 have lu:=of_decide_eq_false eu
 have po:∀ {y:X},Po y→∀ b,y=.fin b→1≤b:=fun h b e=>by subst e;exact h
 have ok:∀ x y,(x=s.lo∨x=s.hi)→(y=u.lo∨y=u.hi)→okx K (xover x y):=fun x y hx hy=>by
  refine(uV ?_ (po ?_)).mono (Int.le_of_lt fO)
  ·rcases hx with rfl | rfl
   ·exact hs.1
   ·exact hs.2
  ·rcases hy with rfl | rfl
   ·exact p1
   ·exact p2
 unfold quS
 rw[agz,agy]
 refine aiJ es eu ok ?_ ?_ ?_ ?_
 ·split
  ·exact⟨_,_,.inl rfl,.inl rfl,rfl⟩
  ·exact⟨_,_,.inl rfl,.inr rfl,rfl⟩
 ·intro x y hx hy
  have m:key (xover s.lo y)≤key (xover x y):=by
   have hp:Po y:=by
    rcases hy with rfl | rfl
    ·exact p1
    ·exact p2
   rcases hx with rfl | rfl
   ·exact Int.le_refl _
   ·exact ab3 hs.1.D hs.2.D hp (by omega)
  split
  ·rename_i hn
   rcases hy with rfl | rfl
   ·exact m
   ·exact Int.le_trans (aeU hs.1.D p1 p2 hu.1.D hu.2.D (by omega) hn) m
  ·rename_i hn
   rcases hy with rfl | rfl
   ·exact Int.le_trans (aeV hs.1.D p1 p2 hu.1.D hu.2.D (by omega) (by omega)) m
   ·exact m
 ·split
  ·exact⟨_,_,.inr rfl,.inl rfl,rfl⟩
  ·exact⟨_,_,.inr rfl,.inr rfl,rfl⟩
 ·intro x y hx hy
  have m:key (xover x y)≤key (xover s.hi y):=by
   have hp:Po y:=by
    rcases hy with rfl | rfl
    ·exact p1
    ·exact p2
   rcases hx with rfl | rfl
   ·exact ab3 hs.1.D hs.2.D hp (by omega)
   ·exact Int.le_refl _
  split
  ·rename_i hn
   rcases hy with rfl | rfl
   ·exact m
   ·exact Int.le_trans m (aeV hs.2.D p1 p2 hu.1.D hu.2.D (by omega) hn)
  ·rename_i hn
   rcases hy with rfl | rfl
   ·exact Int.le_trans m (aeU hs.2.D p1 p2 hu.1.D hu.2.D (by omega) (by omega))
   ·exact m
theorem ahJ(z:Int):decide (sgn z < 0)=decide (z < 0):=by simp only[decide_eq_decide];unfold sgn;(repeat' split)<;>omega
theorem zk(z:Int):decide (sgn z≥0)=decide (0≤z):=by simp only[decide_eq_decide];unfold sgn;(repeat' split)<;>omega
section
variable (lf:Nat)(h3:200000≤lf)
include h3
theorem rng2{x y:Int}(hx: -K < x∧x < K)(hy: -K < y∧y < K):ax.f lf (bs (Lib.itoa x)) (bs (Lib.itoa y))=some (ac (toA ⟨.fin x,.fin y⟩),()):=jI lf h3 (some x) (some y) hx hy
theorem rng1{x:Int}(hx: -K < x∧x < K):ax.f lf (bs (Lib.itoa x)) (ob none)=some (ac (toA ⟨.fin x,.pi⟩),()):=jI lf h3 (some x) none hx trivial
theorem rng0{y:Int}(hy: -K < y∧y < K):ax.f lf (ob none) (bs (Lib.itoa y))=some (ac (toA ⟨.ni,.fin y⟩),()):=jI lf h3 none (some y) trivial hy
theorem rng:ax.f lf (ob none) (ob none)=some (ac (toA ⟨.ni,.pi⟩),()):=jI lf h3 none none trivial trivial
theorem abz{a:A}(ha:Wf a){u:Sp}(hu:oks C u)(pu:emp u=false→∃ l,u.lo=.fin l∧1≤l∧Po u.hi):
  iQ.f lf (ac a) (ac (toA u))=some (ac (toA (if a.em=true then non else if emp u=true then non else quS (ofA a) u)),()):=by
 have hC:=C_gt
 have hK:=fO
 rw[iQ.f]
 cases ea:a.em with
 | true=>simp only[ac,ea,brT,aA.f,bdS,if_true,rW];rfl
 | false=>cases eu:emp u with
  | true =>
   rw[zo eu]
   simp only[ac,ea,brF,if_false,if_true,Bool.false_eq_true,E0,brT,aA.f,bdS,rW]
   rfl
  | false =>
   obtain⟨l,el,h1,p2⟩:=pu eu
   obtain⟨ul,uh⟩:=u
   simp only at el p2
   subst el
   have kl: -C < l∧l < C:=hu.1
   obtain⟨em,lo,hi⟩:=a
   simp only at ea
   subst ea
   have tu:toA ⟨.fin l,uh⟩=⟨false,some l,tx uh⟩:=by
    unfold toA;rw[eu,if_neg (by simp)]
    simp only[tx,clip,if_pos kl]
   rw[tu,if_neg (by simp),if_neg (by simp)]
   have w1:=ha.lo
   have w2:=ha.hi
   simp only at w1 w2
   simp only[ac,brF,ofA,Bool.false_eq_true,if_false,lZ,quS]
   have fl:∀ {x y:Int},(-C < x∧x < C)→(-C < y∧y < C)→1≤y→aP.f lf (bs (Lib.itoa x)) (bs (Lib.itoa y))=some (bs (Lib.itoa (x.fdiv y)),()):=fun hx hy h=>floorI lf h3 hx hy (by omega)
   have fk:∀ {x y:Int},(-C < x∧x < C)→1≤y→-K < x.fdiv y∧x.fdiv y < K:=fun hx h=>CK (agh (by omega) hx h)
   have k0: -K < (0:Int)∧(0:Int) < K:=by omega
   have km: -K < (-1:Int)∧(-1:Int) < K:=by omega
   have obs:∀ z:Int,ob (some z)=bs (Lib.itoa z):=fun _=>rfl
   cases lo with
   | none =>
    simp only[decide_true,Bool.not_true,brF,lox]
    cases hi with
    | none =>
     simp only[decide_true,Bool.not_true,brF,hix,xover]
     rw[rng lf h3,bdS]
     refine congrArg (fun s=>some (ac (toA s),())) ?_
     simp only[quL,quH,xover]
    | some h =>
     have kh: -C < h∧h < C:=w2
     simp only[reduceCtorEq,decide_false,Bool.not_false,brT,obs,signI,bdS,zk,hix]
     by_cases n1:0≤h
     ·simp only[decide_eq_true n1,brT,fl kh kl h1,bdS,rng0 lf h3 (fk kh h1)]
      refine congrArg (fun s=>some (ac (toA s),())) ?_
      simp only[quL,quH,if_pos n1,xover]
     ·simp only[decide_eq_false n1,brF]
      cases uh with
      | ni=>exact p2.elim
      | pi =>
       simp only[tx,decide_true,Bool.not_true,brF,im1,rng0 lf h3 km,bdS]
       refine congrArg (fun s=>some (ac (toA s),())) ?_
       simp only[quL,quH,if_neg n1,if_pos (show h < 0 by omega),xover]
      | fin v =>
       have kv: -C < v∧v < C:=hu.2
       have hv:1≤v:=p2
       simp only[tx,clip,if_pos kv,reduceCtorEq,decide_false,Bool.not_false,brT,obs,fl kh kv hv,bdS,rng0 lf h3 (fk kh hv)]
       refine congrArg (fun s=>some (ac (toA s),())) ?_
       simp only[quL,quH,if_neg n1,if_pos (show h < 0 by omega),xover]
   | some z =>
    have kz: -C < z∧z < C:=w1
    simp only[reduceCtorEq,decide_false,Bool.not_false,brT,obs,signI,bdS,ahJ,lox]
    by_cases n0:z < 0
    ·simp only[decide_eq_true n0,brT,fl kz kl h1,bdS]
     cases hi with
     | none =>
      simp only[decide_true,Bool.not_true,brF,hix]
      rw[rng1 lf h3 (fk kz h1),bdS]
      refine congrArg (fun s=>some (ac (toA s),())) ?_
      simp only[quL,quH,if_pos n0,xover]
     | some h =>
      have kh: -C < h∧h < C:=w2
      simp only[reduceCtorEq,decide_false,Bool.not_false,brT,obs,signI,bdS,zk,hix]
      by_cases n1:0≤h
      ·simp only[decide_eq_true n1,brT,fl kh kl h1,bdS,rng2 lf h3 (fk kz h1) (fk kh h1)]
       refine congrArg (fun s=>some (ac (toA s),())) ?_
       simp only[quL,quH,if_pos n0,if_pos n1,xover]
      ·simp only[decide_eq_false n1,brF]
       cases uh with
       | ni=>exact p2.elim
       | pi =>
        simp only[tx,decide_true,Bool.not_true,brF,im1,rng2 lf h3 (fk kz h1) km,bdS]
        refine congrArg (fun s=>some (ac (toA s),())) ?_
        simp only[quL,quH,if_pos n0,if_neg n1,if_pos (show h < 0 by omega),xover]
       | fin v =>
        have kv: -C < v∧v < C:=hu.2
        have hv:1≤v:=p2
        simp only[tx,clip,if_pos kv,reduceCtorEq,decide_false,Bool.not_false,brT,obs,fl kh kv hv,bdS,rng2 lf h3 (fk kz h1) (fk kh hv)]
        refine congrArg (fun s=>some (ac (toA s),())) ?_
        simp only[quL,quH,if_pos n0,if_neg n1,if_pos (show h < 0 by omega),xover]
    ·simp only[decide_eq_false n0,brF]
     cases uh with
     | ni=>exact p2.elim
     | pi =>
      simp only[tx,decide_true,Bool.not_true,brF,i0]
      cases hi with
      | none =>
       simp only[decide_true,Bool.not_true,brF,hix]
       rw[rng1 lf h3 k0,bdS]
       refine congrArg (fun s=>some (ac (toA s),())) ?_
       simp only[quL,quH,if_neg n0,xover]
      | some h =>
       have kh: -C < h∧h < C:=w2
       simp only[reduceCtorEq,decide_false,Bool.not_false,brT,obs,signI,bdS,zk,hix]
       by_cases n1:0≤h
       ·simp only[decide_eq_true n1,brT,fl kh kl h1,bdS,rng2 lf h3 k0 (fk kh h1)]
        refine congrArg (fun s=>some (ac (toA s),())) ?_
        simp only[quL,quH,if_neg n0,if_pos n1,xover]
       ·simp only[decide_eq_false n1,brF,im1,rng2 lf h3 k0 km,bdS]
        refine congrArg (fun s=>some (ac (toA s),())) ?_
        simp only[quL,quH,if_neg n0,if_neg n1,if_pos (show h < 0 by omega),xover]
     | fin v =>
      have kv: -C < v∧v < C:=hu.2
      have hv:1≤v:=p2
      simp only[tx,clip,if_pos kv,reduceCtorEq,decide_false,Bool.not_false,brT,obs,fl kz kv hv,bdS]
      cases hi with
      | none =>
       simp only[decide_true,Bool.not_true,brF,hix]
       rw[rng1 lf h3 (fk kz hv),bdS]
       refine congrArg (fun s=>some (ac (toA s),())) ?_
       simp only[quL,quH,if_neg n0,xover]
      | some h =>
       have kh: -C < h∧h < C:=w2
       simp only[reduceCtorEq,decide_false,Bool.not_false,brT,obs,signI,bdS,zk,hix]
       by_cases n1:0≤h
       ·simp only[decide_eq_true n1,brT,fl kh kl h1,bdS,rng2 lf h3 (fk kz hv) (fk kh h1)]
        refine congrArg (fun s=>some (ac (toA s),())) ?_
        simp only[quL,quH,if_neg n0,if_pos n1,xover]
       ·simp only[decide_eq_false n1,brF,fl kh kv hv,bdS,rng2 lf h3 (fk kz hv) (fk kh hv)]
        refine congrArg (fun s=>some (ac (toA s),())) ?_
        simp only[quL,quH,if_neg n0,if_neg n1,if_pos (show h < 0 by omega),xover]
end
end Go.N
namespace Go.N
open Go Go.Q Go.Rx
theorem tY(x:Int){c:Int}(h:1≤c):0≤x.fmod c∧x.fmod c < c:=⟨Int.fmod_nonneg_of_pos x (by omega),Int.fmod_lt_of_pos x (by omega)⟩
theorem afL{l h c:Int}(hc:1≤c)(hl:l≤h):(if h-l≥c-1 then allS c else if l.fmod c > h.fmod c then allS c else⟨.fin (l.fmod c),.fin (h.fmod c)⟩)=if l.fdiv c=h.fdiv c then(⟨.fin (l.fmod c),.fin (h.fmod c)⟩:Sp)else allS c:=by
 have m1:=Int.mul_fdiv_add_fmod l c
 have m2:=Int.mul_fdiv_add_fmod h c
 have b1:=tY l hc
 have b2:=tY h hc
 by_cases e:l.fdiv c=h.fdiv c
 ·rw[if_pos e]
  rw[e]at m1
  by_cases c1:h-l≥c-1
  ·rw[if_pos c1]
   unfold allS
   congr 2<;>omega
  ·rw[if_neg c1,if_neg (by omega)]
 ·rw[if_neg e]
  by_cases c1:h-l≥c-1
  ·rw[if_pos c1]
  ·rw[if_neg c1,if_pos ?_]
   have mono:=vV hc hl
   have:=Int.mul_le_mul_of_nonneg_left (show 1≤h.fdiv c-l.fdiv c by omega) (show 0≤c by omega)
   rw[Int.mul_sub]at this
   omega
section
variable (lf:Nat)(h3:200000≤lf)
include h3
theorem aau{a:A}(ha:Wf a){u:Sp}(hu:oks C u)(pu:emp u=false→∃ l,u.lo=.fin l∧1≤l∧Po u.hi):
  iI.f lf (ac a) (ac (toA u))=some (ac (toA (if a.em=true then non else if emp u=true then non else remI (ofA a) u)),()):=by
 have hC:=C_gt
 have hK:=fO
 have hCC:=CC_K
 have h4:0≤C*C:=Int.mul_nonneg (by omega) (by omega)
 rw[iI.f]
 cases ea:a.em with
 | true=>simp only[ac,ea,brT,aA.f,bdS,if_true,rW];rfl
 | false=>cases eu:emp u with
  | true =>
   rw[zo eu]
   simp only[ac,ea,brF,if_false,if_true,Bool.false_eq_true,E0,brT,aA.f,bdS,rW]
   rfl
  | false =>
   obtain⟨l,el,h1,p2⟩:=pu eu
   obtain⟨ul,uh⟩:=u
   simp only at el p2
   subst el
   have kl: -C < l∧l < C:=hu.1
   have tu:toA ⟨.fin l,uh⟩=⟨false,some l,tx uh⟩:=by
    unfold toA;rw[eu,if_neg (by simp)]
    simp only[tx,clip,if_pos kl]
   have sga:((bs (Lib.itoa l)).toList==(ob (tx uh)).toList)=single ⟨.fin l,uh⟩:=by
    cases uh with
    | ni=>exact p2.elim
    | pi =>
     simp only[tx,single,ob,kG]
     exact decide_eq_false (kE l)
    | fin v =>
     have kv: -C < v∧v < C:=hu.2
     simp only[tx,clip,if_pos kv,single,ob,kG,decide_eq_decide]
     exact⟨fun e=>nX e,fun e=>by rw[e]⟩
   have aS:ofA a=⟨lox a.lo,hix a.hi⟩:=by unfold ofA;rw[if_neg (by simp[ea])]
   have w1:=ha.lo
   have w2:=ha.hi
   have w3:=ha.le
   have dI:aQ.f lf (bs (Lib.itoa l)) (bs (Lib.itoa 1))=some (bs (Lib.itoa (l-1)),()):=diffI lf h3 (CK kl) (by omega)
   have rg:ax.f lf (bs (Lib.itoa 0)) (bs (Lib.itoa (l-1)))=some (ac (toA (allS l)),()):=rng2 lf h3 (by omega) (by omega)
   have obs:∀ z:Int,ob (some z)=bs (Lib.itoa z):=fun _=>rfl
   have x1:(ac (toA ⟨.fin l,uh⟩)).1=false:=by rw[tu];rfl
   have x2:(ac (toA ⟨.fin l,uh⟩)).2.1=bs (Lib.itoa l):=by rw[tu];rfl
   have x3:(ac (toA ⟨.fin l,uh⟩)).2.2.1=ob (tx uh):=by rw[tu];rfl
   have y1:(ac a).1=false:=ea
   have y2:(ac a).2.1=ob a.lo:=rfl
   have y3:(ac a).2.2.1=ob a.hi:=rfl
   rw[if_neg (by simp),if_neg (by simp)]
   simp only[x1,x2,x3,y1,y2,y3,brF,sga]
   unfold remI
   cases es:single ⟨.fin l,uh⟩with
   | true =>
    rw[brT,if_pos rfl]
    simp only[lZ,i1,i0,dI,bdS,rg,valX,aS]
    cases hlo:a.lo with
    | none=>simp only[decide_true,Bool.not_true,brF,lox,resS]
    | some z=>cases hhi:a.hi with
     | none=>simp only[decide_true,Bool.not_true,brF,reduceCtorEq,decide_false,Bool.not_false,brT,lox,hix,resS]
     | some w =>
      rw[hlo]at w1
      rw[hhi]at w2
      rw[hlo,hhi]at w3
      have kz: -C < z∧z < C:=w1
      have kw: -C < w∧w < C:=w2
      have zw:z≤w:=w3
      have b1:=tY z h1
      have b2:=tY w h1
      simp only[reduceCtorEq,decide_false,Bool.not_false,brT,lox,hix,resS,obs,floorI lf h3 kz kl (by omega),floorI lf h3 kw kl (by omega),bdS,kG,restI lf h3 kz kl (by omega),restI lf h3 kw kl (by omega),rng2 lf h3 (x:=z.fmod l) (y:=w.fmod l) (by omega) (by omega)]
      rw[afL h1 zw]
      by_cases e:z.fdiv l=w.fdiv l
      ·rw[if_pos e,decide_eq_true (by rw[e]),brT]
      ·rw[if_neg e,decide_eq_false (fun x=>e (nX x)),brF]
   | false =>
    rw[brF,if_neg (by simp)]
    have al:Wf (toA (allS l))∧ofA (toA (allS l))=allS l:=by
     have m:=mkA (abG h1 kl.2) (.inr ⟨by simp[allS],by simp[allS]⟩)
     rw[show emp (allS l)=false from decide_eq_false (show ¬((0:Int) > l-1) by omega),if_neg (by simp)]at m
     exact m
    have ks:=ha.ks.e2 ea
    have ins:leqA (ofA a) (allS l)=decide (0≤key (ofA a).lo∧key (ofA a).hi < l):=by
     rw[aft,show key (allS l).lo=0 from rfl,show key (allS l).hi=l-1 from rfl]
     simp only[decide_eq_decide]
     omega
    have wlo:=qA ha.okK.1
    simp only[i1,i0,dI,bdS,rg,agm lf h3 ha al.1,al.2,ins]
    rw[show key (X.fin l)=l from rfl]
    by_cases c1:0≤key (ofA a).lo∧key (ofA a).hi < l
    ·rw[decide_eq_true c1,brT,if_pos c1,aaE ha]
    ·rw[decide_eq_false c1,brF,if_neg c1]
     have ok1:okb C (tx uh):=by
      cases uh with
      | ni=>trivial
      | pi=>trivial
      | fin v =>
       have kv: -C < v∧v < C:=hu.2
       simp only[tx,clip,if_pos kv];exact kv
     have okm:okb C (some (-1)):=by simp only[okb];omega
     have su:=rsumO lf h3 ok1 okm
     rw[show ob (some (-1))=bs (Lib.itoa (-1)) from rfl]at su
     have hh:hix (addO (tx uh) (some (-1)))=xsh uh (-1):=by
      cases uh with
      | ni=>exact p2.elim
      | pi=>rfl
      | fin v =>
       have kv: -C < v∧v < C:=hu.2
       simp only[tx,clip,if_pos kv];rfl
     have okh:=wK ok1 okm
     have rg0:∀ o:Option Int,okb K o→ax.f lf (bs (Lib.itoa 0)) (ob o)=some (ac (toA ⟨.fin 0,hix o⟩),()):=fun o ho=>jI lf h3 (some 0) o (by simp only[okb];omega) ho
     simp only[im1,su,bdS,lZ]
     by_cases z0:0≤key (ofA a).lo
     ·rw[if_pos z0]
      rw[aS]at z0⊢
      simp only at z0⊢
      cases hlo:a.lo with
      | none=>rw[hlo]at z0;simp only[lox,key]at z0;omega
      | some z =>
       rw[hlo]at z0
       have z0':0≤z:=z0
       have up:=zq lf h3 _ _ okh ha.hiK
       have hu2:=yQ okh ha.hiK
       simp only[reduceCtorEq,decide_false,Bool.not_false,brT,obs,signI,bdS,zk,decide_eq_true z0',up,rg0 _ hu2.2,hu2.1,hh]
     ·rw[if_neg z0]
      rw[aS]at z0
      cases hlo:a.lo with
      | none=>simp only[decide_true,Bool.not_true,brF,rg0 _ okh,bdS,hh]
      | some z =>
       rw[hlo]at z0
       have z0':¬0≤z:=z0
       simp only[reduceCtorEq,decide_false,Bool.not_false,brT,brF,obs,signI,bdS,zk,decide_eq_false z0',rg0 _ okh,hh]
end
theorem qm{s:Sp}(he:emp (posS s)=false)(hs:oks C s)(hp:Pr s):∃ l,(posS s).lo=.fin l∧1≤l∧Po (posS s).hi:=by
 obtain⟨l,e1,e2,e3,e4,e5,e6⟩:=aas he hs hp
 refine⟨l,e1,e2,?_⟩
 cases h:(posS s).hi with
 | ni=>rw[e5]at h;exact absurd h e6
 | pi=>trivial
 | fin z=>have:=e4 z h;simp only[Po];omega
theorem neg_pos{s:Sp}(h:emp s=false):emp (negS s)=emp (posS (turn s))∧(emp (negS s)=false→turn (negS s)=posS (turn s)):=by
 have hK:=K_gt
 have et:turn s=⟨xneg s.hi,xneg s.lo⟩:=by unfold turn;rw[if_neg (by simp[h])]
 have e1:key (negS s).lo=max (key s.lo) (-K):=by simp only[negS,common,kT];rfl
 have e2:key (negS s).hi=min (key s.hi) (-1):=by simp only[negS,common,kF];rfl
 have e3:key (posS (turn s)).lo=max (-key s.hi) 1:=by rw[et];simp only[posS,common,kT,lm];rfl
 have e4:key (posS (turn s)).hi=min (-key s.lo) K:=by rw[et];simp only[posS,common,kF,lm];rfl
 constructor
 ·unfold emp
  rw[e1,e2,e3,e4]
  simp only[decide_eq_decide]
  omega
 ·intro he
  unfold turn
  rw[if_neg (by simp[he]),if_neg (by simp[h])]
  unfold posS negS common
  simp only
  congr 1
  ·unfold xmin xmax
   rw[lm,show key (X.fin (-1))= -1 from rfl,show key (X.fin 1)=1 from rfl]
   by_cases c: -1 < key s.hi
   ·rw[if_pos c,if_pos (by omega)];rfl
   ·rw[if_neg c,if_neg (by omega)]
  ·unfold xmin xmax
   rw[lm,show key X.ni= -K from rfl,show key X.pi=K from rfl]
   by_cases c: -K > key s.lo
   ·rw[if_pos c,if_pos (by omega)];rfl
   ·rw[if_neg c,if_neg (by omega)]
theorem yY{s:Sp}(h:oks C s):oks C (negS s):=sG h ⟨trivial,oU (by decide) (by decide)⟩
theorem alb{s:Sp}(h:oks C s):oks C (zerS s):=sG h ⟨oU (by decide) (by decide),oU (by decide) (by decide)⟩
theorem adl{s t:Sp}(hs:Pr s)(ht:Pr t)(ok:oks C s)(ok':oks C t):Pr (common s t):=by
 unfold Pr
 by_cases e:emp (common s t)=true
 ·exact .inl e
 ·right
  have e':=of_decide_eq_false (show emp (common s t)=false by simpa using e)
  simp only[common,kT,kF]at e'
  have n1:¬emp s=true:=fun h=>by have:=of_decide_eq_true h;omega
  have n2:¬emp t=true:=fun h=>by have:=of_decide_eq_true h;omega
  have q1:=hs.resolve_left n1
  have q2:=ht.resolve_left n2
  constructor
  ·simp only[common];unfold xmax;split
   ·exact q2.1
   ·exact q1.1
  ·simp only[common];unfold xmin;split
   ·exact q2.2
   ·exact q1.2
theorem aaq{s:Sp}(h:Pr s)(ok:oks C s):Pr (negS s):=adl h (.inr ⟨by simp,by simp⟩) ok ⟨trivial,oU (by decide) (by decide)⟩
theorem akO{s:Sp}(h:Pr s)(ok:oks C s):Pr (posS s):=adl h (.inr ⟨by simp,by simp⟩) ok ⟨oU (by decide) (by decide),trivial⟩
theorem acT(lf:Nat)(h3:200000≤lf){a:A}(ha:Wf a):bI.f lf (ac (toA (negS (ofA a))))=some (ac (toA (if a.em=true then non else posS (turn (ofA a)))),()):=by
 have m:=mkA (yY ha.okC) (aaq ha.pr ha.okC)
 rw[pO lf h3 m.1,m.2]
 refine congrArg (fun x=>some (ac x,())) ?_
 cases ea:a.em with
 | true =>
  have ee:=jm ha
  rw[ea]at ee
  have:emp (negS (ofA a))=true:=by
   have:=of_decide_eq_true ee
   apply decide_eq_true
   simp only[negS,common,kT,kF];omega
  rw[if_pos this,if_pos rfl]
  exact zo (by rw[nT];exact gU) |>.trans (zo gU).symm
 | false =>
  have ee:=jm ha
  rw[ea]at ee
  have np:=neg_pos ee
  cases e:emp (negS (ofA a))with
  | true =>
   simp only[if_true,if_false,Bool.false_eq_true]
   rw[zo (by rw[nT];exact gU),zo (by rw[←np.1,e])]
  | false =>
   simp only[if_false,Bool.false_eq_true]
   rw[np.2 e]
theorem af0{x y:X}(h:x≠.pi):xover x y≠.pi:=by
 cases x with
 | pi=>exact absurd rfl h
 | ni=>simp[xover]
 | fin z=>cases y<;>simp only[xover]<;>(try split)<;>simp
theorem afZ{x y:X}(h:x≠.ni):xover x y≠.ni:=by
 cases x with
 | ni=>exact absurd rfl h
 | pi=>simp[xover]
 | fin z=>cases y<;>simp only[xover]<;>(try split)<;>simp
theorem ajB{s u:Sp}(hs:oks C s)(p1:Po u.lo)(p2:Po u.hi):oks C (quS s u):=by
 have po:∀ {y:X},Po y→∀ b,y=.fin b→1≤b:=fun h b e=>by subst e;exact h
 unfold quS
 rw[agz,agy]
 constructor<;>simp only<;>split
 ·exact uV hs.1 (po p1)
 ·exact uV hs.1 (po p2)
 ·exact uV hs.2 (po p1)
 ·exact uV hs.2 (po p2)
theorem ajC{s u:Sp}(h:s.lo≠.pi∧s.hi≠.ni):(quS s u).lo≠.pi∧(quS s u).hi≠.ni:=by
 unfold quS
 rw[agz,agy]
 constructor<;>simp only<;>split
 ·exact af0 h.1
 ·exact af0 h.1
 ·exact afZ h.2
 ·exact afZ h.2
theorem mk2{s:Sp}{b:Bool}(h:b=false→oks C s∧emp s=false∧s.lo≠.pi∧s.hi≠.ni):Wf (toA (if b=true then non else s))∧ofA (toA (if b=true then non else s))=if b=true then non else s:=by
 cases b with
 | true =>
  simp only[if_true]
  have m:=mkA (s:=non) iY (.inl gU)
  rw[gU,if_pos rfl]at m
  exact m
 | false =>
  obtain⟨h1,h2,h3⟩:=h rfl
  simp only[if_false,Bool.false_eq_true]
  have m:=mkA h1 (.inr h3)
  rw[h2,if_neg (by simp)]at m
  exact m
theorem vK(s:Sp):(toA s).em=emp s:=by unfold toA;cases emp s<;>rfl
section
variable (lf:Nat)(h3:200000≤lf)
include h3
theorem al8{a b:A}(ha:Wf a)(hb:Wf b):mr.f lf (ac a) (ac b)=some (ac (toA (quoS (ofA a) (ofA b))),()):=by
 have hs:=ha.okC
 have ht:=hb.okC
 have ps:=ha.pr
 have pt:=hb.pr
 have ea:=jm ha
 have eb:=jm hb
 have ta:=turnA ha
 have tt:=fV ht
 have q1:=abz lf h3 ha (fE ht) (fun e=>qm e ht pt)
 have u2:oks C (if b.em=true then non else posS (turn (ofA b))):=by split;exact iY;exact fE tt
 have q2:=abz lf h3 ta.1 u2 (fun e=>by
  by_cases c:b.em=true
  ·rw[if_pos c]at e;rw[gU]at e;cases e
  ·rw[if_neg c]at e⊢;exact qm e tt pt.turn)
 rw[vK,ta.2,nT]at q2
 have i2:idxL [ac (toA (negS (ofA b))),ac (toA (zerS (ofA b))),ac (toA (posS (ofA b)))] 2=some (ac (toA (posS (ofA b)))):=rfl
 have i0':idxL [ac (toA (negS (ofA b))),ac (toA (zerS (ofA b))),ac (toA (posS (ofA b)))] 0=some (ac (toA (negS (ofA b)))):=rfl
 rw[mr.f,abW lf h3 hb,bdS]
 simp only[i2,bdS,q1,pO lf h3 ha,i0',acT lf h3 hb,q2]
 unfold quoS
 rw[ea]
 cases e0:a.em with
 | true =>
  simp only[if_true]
  have m:=mkA (s:=non) iY (.inl gU)
  rw[uO lf h3 m.1 m.1,bdS,m.2,gU,if_pos rfl,rM]
 | false =>
  rw[e0]at ea
  have es:=ea
  have pr:=ps.resolve_left (by simp[es])
  have et:emp (turn (ofA a))=false:=by rw[nT,es]
  have prt:=ps.turn.resolve_left (by simp[et])
  simp only[if_false,Bool.false_eq_true]
  have m1:=mk2 (s:=quS (ofA a) (posS (ofA b))) (b:=emp (posS (ofA b))) (fun e=>by
   obtain⟨l,e1,e2,e3⟩:=qm e ht pt
   have p1:Po (posS (ofA b)).lo:=by rw[e1];exact e2
   refine⟨ajB hs p1 e3,?_,ajC pr⟩
   rw[←aew hs (fE ht) es e p1 e3]
   exact abH es e)
  have z1:emp (posS (ofA b))=false→quS (ofA a) (posS (ofA b))=apS xover (ofA a) (posS (ofA b)):=fun e=>by
   obtain⟨l,e1,e2,e3⟩:=qm e ht pt
   exact(aew hs (fE ht) es e (by rw[e1];exact e2) e3).symm
  have eq:(if emp (if b.em=true then non else posS (turn (ofA b)))=true then non else quS (turn (ofA a)) (if b.em=true then non else posS (turn (ofA b))))=if emp (posS (turn (ofA b)))=true then non else quS (turn (ofA a)) (posS (turn (ofA b))):=by
   cases c:b.em with
   | false=>simp only[if_false,Bool.false_eq_true]
   | true =>
    simp only[if_true,gU]
    rw[c]at eb
    have:emp (posS (turn (ofA b)))=true:=by
     have e1:emp (turn (ofA b))=true:=by rw[nT,eb]
     have:=of_decide_eq_true e1
     apply decide_eq_true
     simp only[posS,common,kT,kF];omega
    rw[this,if_pos rfl]
  rw[eq]
  have m2:=mk2 (s:=quS (turn (ofA a)) (posS (turn (ofA b)))) (b:=emp (posS (turn (ofA b)))) (fun e=>by
   obtain⟨l,e1,e2,e3⟩:=qm e tt pt.turn
   have p1:Po (posS (turn (ofA b))).lo:=by rw[e1];exact e2
   refine⟨ajB (fV hs) p1 e3,?_,ajC prt⟩
   rw[←aew (fV hs) (fE tt) et e p1 e3]
   exact abH et e)
  have z2:emp (posS (turn (ofA b)))=false→quS (turn (ofA a)) (posS (turn (ofA b)))=apS xover (turn (ofA a)) (posS (turn (ofA b))):=fun e=>by
   obtain⟨l,e1,e2,e3⟩:=qm e tt pt.turn
   exact(aew (fV hs) (fE tt) et e (by rw[e1];exact e2) e3).symm
  rw[uO lf h3 m1.1 m2.1,bdS,m1.2,m2.2]
  refine congrArg (fun x=>some (ac (toA x),())) ?_
  cases c1:emp (posS (ofA b))<;>cases c2:emp (posS (turn (ofA b)))<;>simp only[if_true,if_false,Bool.false_eq_true]
  ·rw[z1 c1,z2 c2]
  ·rw[z1 c1]
  ·rw[z2 c2]
theorem aey{s u:Sp}(h:s.lo≠.pi∧s.hi≠.ni)(hu:oks C u)(p1:Po u.lo)(p2:Po u.hi)(hs:oks C s)(es:emp s=false):emp (remI s u)=false∧(remI s u).lo≠.pi∧(remI s u).hi≠.ni:=by
 have hK:=fO
 have hC:=C_gt
 have ks:=of_decide_eq_false es
 have kh:=qA hs.K.2
 unfold remI
 split
 ·rename_i sg
  have el:=wH sg
  have h1:1≤valX u.lo:=by rw[el]at p1;exact p1
  have e0:emp (allS (valX u.lo))=false:=decide_eq_false (show ¬((0:Int) > valX u.lo-1) by omega)
  unfold resS
  split
  ·rename_i l h _ _
   split
   ·exact⟨e0,by simp[allS],by simp[allS]⟩
   ·split
    ·exact⟨e0,by simp[allS],by simp[allS]⟩
    ·rename_i c
     exact⟨decide_eq_false (show ¬(l.fmod (valX u.lo) > h.fmod (valX u.lo)) by omega),by simp,by simp⟩
  ·exact⟨e0,by simp[allS],by simp[allS]⟩
 ·split
  ·exact⟨es,h⟩
  ·rename_i c1 c2
   have kx:0≤key (xsh u.hi (-1))∧xsh u.hi (-1)≠.ni:=by
    cases e:u.hi with
    | ni=>rw[e]at p2;exact p2.elim
    | pi=>simp only[xsh,key];exact⟨by omega,by simp⟩
    | fin v=>rw[e]at p2;simp only[xsh,key];exact⟨by have:1≤v:=p2;omega,by simp⟩
   refine⟨?_,by simp,?_⟩
   ·apply decide_eq_false
    simp only
    rw[show key (X.fin 0)=0 from rfl]
    split
    ·rw[kF];omega
    ·omega
   ·simp only
    split
    ·unfold xmin;split
     ·exact h.2
     ·exact kx.2
    ·exact kx.2
theorem ajg{a b:A}(ha:Wf a)(hb:Wf b):kM.f lf (ac a) (ac b)=some (ac (toA (remS (ofA a) (ofA b))),()):=by
 have hs:=ha.okC
 have ht:=hb.okC
 have ps:=ha.pr
 have pt:=hb.pr
 have ea:=jm ha
 have eb:=jm hb
 have ta:=turnA ha
 have ts:=fV hs
 have tt:=fV ht
 have q1:=aau lf h3 ha (fE ht) (fun e=>qm e ht pt)
 have u2:oks C (if b.em=true then non else posS (turn (ofA b))):=by split;exact iY;exact fE tt
 have q2:=aau lf h3 ta.1 u2 (fun e=>by
  by_cases c:b.em=true
  ·rw[if_pos c]at e;rw[gU]at e;cases e
  ·rw[if_neg c]at e⊢;exact qm e tt pt.turn)
 rw[vK,ta.2,nT]at q2
 have i2:idxL [ac (toA (negS (ofA b))),ac (toA (zerS (ofA b))),ac (toA (posS (ofA b)))] 2=some (ac (toA (posS (ofA b)))):=rfl
 have i0':idxL [ac (toA (negS (ofA b))),ac (toA (zerS (ofA b))),ac (toA (posS (ofA b)))] 0=some (ac (toA (negS (ofA b)))):=rfl
 rw[kM.f,abW lf h3 hb,bdS]
 simp only[i2,bdS,q1,pO lf h3 ha,i0',acT lf h3 hb,q2]
 unfold remS
 rw[ea]
 have mn:=mkA (s:=non) iY (.inl gU)
 rw[gU,if_pos rfl]at mn
 have tn:turn non=non:=by unfold turn;rw[gU,if_pos rfl]
 cases e0:a.em with
 | true =>
  simp only[if_true]
  have t:=pO lf h3 mn.1
  rw[mn.2,tn]at t
  rw[t,bdS,uO lf h3 mn.1 mn.1,bdS,mn.2,rM]
 | false =>
  rw[e0]at ea
  have es:=ea
  have pr:=ps.resolve_left (by simp[es])
  have et:emp (turn (ofA a))=false:=by rw[nT,es]
  have prt:=ps.turn.resolve_left (by simp[et])
  simp only[if_false,Bool.false_eq_true]
  have en:∀ {s:Sp},(∃ l,s.lo=.fin l∧1≤l∧Po s.hi)→Po s.lo∧Po s.hi∧∀ y,(y=s.lo∨y=s.hi)→∀ b,y=.fin b→1≤b:=fun h=>by
   obtain⟨l,e1,e2,e3⟩:=h
   refine⟨by rw[e1];exact e2,e3,fun y hy b hb=>?_⟩
   rcases hy with rfl | rfl
   ·rw[e1]at hb;injection hb with hb;omega
   ·rw[hb]at e3;exact e3
  have m1:=mk2 (s:=remI (ofA a) (posS (ofA b))) (b:=emp (posS (ofA b))) (fun e=>by
   have g:=en (qm e ht pt)
   exact⟨vC hs (fE ht) g.2.2,aey lf h3 pr (fE ht) g.1 g.2.1 hs es⟩)
  have eq:(if emp (if b.em=true then non else posS (turn (ofA b)))=true then non else remI (turn (ofA a)) (if b.em=true then non else posS (turn (ofA b))))=if emp (posS (turn (ofA b)))=true then non else remI (turn (ofA a)) (posS (turn (ofA b))):=by
   cases c:b.em with
   | false=>simp only[if_false,Bool.false_eq_true]
   | true =>
    simp only[if_true,gU]
    rw[c]at eb
    have:emp (posS (turn (ofA b)))=true:=by
     have e1:emp (turn (ofA b))=true:=by rw[nT,eb]
     have:=of_decide_eq_true e1
     apply decide_eq_true
     simp only[posS,common,kT,kF];omega
    rw[this,if_pos rfl]
  rw[eq]
  have m2:=mk2 (s:=remI (turn (ofA a)) (posS (turn (ofA b)))) (b:=emp (posS (turn (ofA b)))) (fun e=>by
   have g:=en (qm e tt pt.turn)
   exact⟨vC ts (fE tt) g.2.2,aey lf h3 prt (fE tt) g.1 g.2.1 ts et⟩)
  have t2:=turnA m2.1
  have tr2:=pO lf h3 m2.1
  rw[tr2,bdS,uO lf h3 m1.1 t2.1,bdS,m1.2,t2.2,m2.2]
  cases c1:emp (posS (ofA b))with
  | true =>
   simp only[if_true,rM]
   cases c2:emp (posS (turn (ofA b)))with
   | true=>simp only[if_true,tn]
   | false=>simp only[if_false,Bool.false_eq_true]
  | false =>
   simp only[if_false,Bool.false_eq_true]
   cases c2:emp (posS (turn (ofA b)))with
   | true =>
    simp only[if_true,tn]
    have g:=en (qm c1 ht pt)
    rw[afl _ (.inl (aey lf h3 pr (fE ht) g.1 g.2.1 hs es).1)]
   | false=>simp only[if_false,Bool.false_eq_true]
end
end Go.N
namespace Go.N
open Go Go.Q Go.Rx
theorem ame(x:X):sg (xneg x)= -sg x:=by
 cases x with
 | ni=>rfl
 | pi=>rfl
 | fin z=>simp only[xneg,sg,sgn];(repeat' split)<;>omega
theorem qX(x:X):xneg (xneg x)=x:=by cases x<;>simp[xneg]
theorem kX(x y:X):xmul x y=xmul y x:=by
 unfold xmul
 rw[Int.mul_comm (sg y) (sg x)]
 split
 ·rfl
 ·cases x<;>cases y<;>simp only[Int.mul_comm]
theorem wJ(x y:X):xmul (xneg x) y=xneg (xmul x y):=by
 unfold xmul
 rw[ame,Int.neg_mul]
 have a:=sg3 x
 have b:=sg3 y
 by_cases h:sg x*sg y=0
 ·rw[h,if_pos (by decide),if_pos rfl];rfl
 ·rw[if_neg (by omega),if_neg h]
  have one:sg x*sg y=1∨sg x*sg y= -1:=by
   rcases a with a | a | a<;>rcases b with b | b | b<;>rw[a,b]at h⊢<;>simp at h⊢
  cases x<;>cases y<;>simp only[xneg,Int.neg_mul]<;>rcases one with o | o<;>rw[o]<;>rfl
theorem uD(x y:X):xmul x (xneg y)=xneg (xmul x y):=by rw[kX,wJ,kX]
theorem sK{x y:X}:(key (xmul x y) < 0↔sg x*sg y < 0)∧(key (xmul x y)=0↔sg x*sg y=0):=by
 have hK:=K_gt
 have a:=sg3 x
 have b:=sg3 y
 unfold xmul
 by_cases h:sg x*sg y=0
 ·rw[if_pos h,h];simp[key]
 ·rw[if_neg h]
  have one:sg x*sg y=1∨sg x*sg y= -1:=by
   rcases a with a | a | a<;>rcases b with b | b | b<;>rw[a,b]at h⊢<;>simp at h⊢
  have inf:(key (if sg x*sg y=1 then X.pi else X.ni) < 0↔sg x*sg y < 0)∧(key (if sg x*sg y=1 then X.pi else X.ni)=0↔sg x*sg y=0):=by
   rcases one with o | o<;>rw[o]
   ·rw[if_pos rfl,show key X.pi=K from rfl];omega
   ·rw[if_neg (by decide),show key X.ni= -K from rfl];omega
  cases x with
  | fin u=>cases y with
   | fin v =>
    simp only[key]
    have ku:=pM (.fin u)
    have kv:=pM (.fin v)
    simp only[key]at ku kv
    rcases a with a | a | a<;>rcases b with b | b | b<;>rw[a,b]at h⊢<;>simp at h⊢
    ·have:=Int.mul_pos_of_neg_of_neg (show u < 0 by omega) (show v < 0 by omega);omega
    ·have:=Int.mul_neg_of_neg_of_pos (show u < 0 by omega) (show 0 < v by omega);omega
    ·have:=Int.mul_neg_of_pos_of_neg (show 0 < u by omega) (show v < 0 by omega);omega
    ·have:=Int.mul_pos (show 0 < u by omega) (show 0 < v by omega);omega
   | ni=>exact inf
   | pi=>exact inf
  | ni=>exact inf
  | pi=>exact inf
theorem sW{a b:Int}:xmul (.fin a) (.fin b)=.fin (a*b):=by
 unfold xmul
 split
 ·rename_i h
  have:=(sK (x:=.fin a) (y:=.fin b)).2
  have ka:=pM (.fin a)
  have kb:=pM (.fin b)
  simp only[key]at ka kb
  rcases Int.mul_eq_zero.1 h with z | z
  ·rw[ka.2.1.1 z,Int.zero_mul]
  ·rw[kb.2.1.1 z,Int.mul_zero]
 ·rfl
theorem qW{x x' y:X}(hx:okx Dd x)(hx':okx Dd x')(hy:okx Dd y)(h:key x≤key x')(h0:0≤key y):key (xmul x y)≤key (xmul x' y):=by
 have hK:=K_gt
 have hC:=Dd_K
 have k1:=qA (afY hx hy)
 have k2:=qA (afY hx' hy)
 have s1:=sK (x:=x) (y:=y)
 have s2:=sK (x:=x') (y:=y)
 have gx:=pM x
 have gx':=pM x'
 have gy:=pM y
 have a:=sg3 x
 have a':=sg3 x'
 have b:=sg3 y
 have inf:∀ {u v:X},(u=.ni∨u=.pi∨v=.ni∨v=.pi)→key (xmul u v)=sg u*sg v*K:=by
  intro u v hu
  have c:=sg3 u
  have d:=sg3 v
  unfold xmul
  by_cases hz:sg u*sg v=0
  ·rw[if_pos hz,hz];simp[key]
  ·rw[if_neg hz]
   have one:sg u*sg v=1∨sg u*sg v= -1:=by
    rcases c with c | c | c<;>rcases d with d | d | d<;>rw[c,d]at hz⊢<;>simp at hz⊢
   have f:key (if sg u*sg v=1 then X.pi else X.ni)=sg u*sg v*K:=by
    rcases one with o | o<;>rw[o]
    ·rw[if_pos rfl,show key X.pi=K from rfl];omega
    ·rw[if_neg (by decide),show key X.ni= -K from rfl];omega
   rcases hu with rfl | rfl | rfl | rfl
   ·exact f
   ·exact f
   ·cases u<;>exact f
   ·cases u<;>exact f
 by_cases y0:key y=0
 ·have:sg y=0:=by omega
  have e1:key (xmul x y)=0:=s1.2.2 (by rw[this,Int.mul_zero])
  have e2:key (xmul x' y)=0:=s2.2.2 (by rw[this,Int.mul_zero])
  omega
 have y1:sg y=1:=by omega
 rw[y1,Int.mul_one]at s1 s2
 cases y with
 | ni=>simp only[key]at h0;omega
 | pi =>
  rw[inf (.inr (.inr (.inr rfl))),inf (.inr (.inr (.inr rfl))),y1,Int.mul_one,Int.mul_one]
  exact Int.mul_le_mul_of_nonneg_right (by omega) (by omega)
 | fin v =>
  cases x with
  | ni =>
   rw[inf (.inl rfl),y1,Int.mul_one,show sg X.ni= -1 from rfl];omega
  | pi =>
   cases x' with
   | pi=>exact Int.le_refl _
   | ni=>simp only[key]at h;omega
   | fin w=>simp only[key,okx]at h hx';omega
  | fin u=>cases x' with
   | pi =>
    rw[inf (u:=X.pi) (.inr (.inl rfl)),y1,Int.mul_one,show sg X.pi=1 from rfl];omega
   | ni=>simp only[key,okx]at h hx;omega
   | fin w =>
    rw[sW,sW]
    simp only[key]at h h0⊢
    exact Int.mul_le_mul_of_nonneg_right h h0
theorem sS{x x' y:X}(hx:okx Dd x)(hx':okx Dd x')(hy:okx Dd y)(h:key x≤key x')(h0:key y≤0):key (xmul x' y)≤key (xmul x y):=by
 have:=qW hx hx' (aaJ hy) h (by rw[lm];omega)
 rw[uD,uD,lm,lm]at this
 omega
def El(s:Sp)(x:X):Prop:=okx Dd x∧key s.lo≤key x∧key x≤key s.hi
theorem zB{s:Sp}(hs:oks C s)(he:emp s=false):El s s.lo:=⟨hs.1.D,Int.le_refl _,by have:=of_decide_eq_false he;omega⟩
theorem zA{s:Sp}(hs:oks C s)(he:emp s=false):El s s.hi:=⟨hs.2.D,by have:=of_decide_eq_false he;omega,Int.le_refl _⟩
theorem corner{s t:Sp}(hs:oks C s)(ht:oks C t){x y:X}(hx:El s x)(hy:El t y):
  (∃ cx cy,(cx=s.lo∨cx=s.hi)∧(cy=t.lo∨cy=t.hi)∧key (xmul cx cy)≤key (xmul x y))∧(∃ cx cy,(cx=s.lo∨cx=s.hi)∧(cy=t.lo∨cy=t.hi)∧key (xmul x y)≤key (xmul cx cy)):=by
 have one:∀ {s:Sp} {x y:X},oks C s→El s x→okx Dd y→(∃ cx,(cx=s.lo∨cx=s.hi)∧key (xmul cx y)≤key (xmul x y))∧(∃ cx,(cx=s.lo∨cx=s.hi)∧key (xmul x y)≤key (xmul cx y)):=by
  intro s x y hs hx hy
  by_cases h:0≤key y
  ·exact⟨⟨_,.inl rfl,qW hs.1.D hx.1 hy hx.2.1 h⟩,⟨_,.inr rfl,qW hx.1 hs.2.D hy hx.2.2 h⟩⟩
  ·exact⟨⟨_,.inr rfl,sS hx.1 hs.2.D hy hx.2.2 (by omega)⟩,⟨_,.inl rfl,sS hs.1.D hx.1 hy hx.2.1 (by omega)⟩⟩
 obtain⟨⟨cx,c1,c2⟩,⟨dx,d1,d2⟩⟩:=one hs hx hy.1
 have okc:∀ {c:X},(c=s.lo∨c=s.hi)→okx Dd c:=fun h=>by rcases h with rfl | rfl;exact hs.1.D;exact hs.2.D
 obtain⟨⟨cy,e1,e2⟩,_⟩:=one ht hy (okc c1)
 obtain⟨_,⟨dy,f1,f2⟩⟩:=one ht hy (okc d1)
 rw[kX cy,kX y]at e2
 rw[kX dy,kX y]at f2
 exact⟨⟨cx,cy,c1,e1,by omega⟩,⟨dx,dy,d1,f1,by omega⟩⟩
theorem aaI(x y:X):xmin x y=x∨xmin x y=y:=by unfold xmin;split;exact .inr rfl;exact .inl rfl
theorem aaH(x y:X):xmax x y=x∨xmax x y=y:=by unfold xmax;split;exact .inr rfl;exact .inl rfl
theorem xP{o:X→X→X}{s t:Sp}(hs:emp s=false)(ht:emp t=false):
  ((∃ x y,(x=s.lo∨x=s.hi)∧(y=t.lo∨y=t.hi)∧(apS o s t).lo=o x y)∧(∀ x y,(x=s.lo∨x=s.hi)→(y=t.lo∨y=t.hi)→key (apS o s t).lo≤key (o x y)))∧
  ((∃ x y,(x=s.lo∨x=s.hi)∧(y=t.lo∨y=t.hi)∧(apS o s t).hi=o x y)∧(∀ x y,(x=s.lo∨x=s.hi)→(y=t.lo∨y=t.hi)→key (o x y)≤key (apS o s t).hi)):=by
 have e:apS o s t=⟨xmin (xmin (xmin (o s.lo t.lo) (o s.lo t.hi)) (o s.hi t.lo)) (o s.hi t.hi),xmax (xmax (xmax (o s.lo t.lo) (o s.lo t.hi)) (o s.hi t.lo)) (o s.hi t.hi)⟩:=by
  unfold apS
  rw[if_neg (by simp[hs]),if_neg (by simp[ht]),rM,hullNE (nM _) (nM _)]
  have e1:=nM (o s.lo t.lo)
  have e2:=nM (o s.lo t.hi)
  have e3:=nM (o s.hi t.lo)
  have e4:=nM (o s.hi t.hi)
  have n1:=tH e1 e2
  rw[hullNE e1 e2]at n1
  rw[hullNE n1 e3]
  have n2:=tH n1 e3
  rw[hullNE n1 e3]at n2
  rw[hullNE n2 e4]
  rfl
 rw[e]
 refine⟨⟨?_,?_⟩,⟨?_,?_⟩⟩
 ·simp only
  rcases aaI (xmin (xmin (o s.lo t.lo) (o s.lo t.hi)) (o s.hi t.lo)) (o s.hi t.hi)with h | h<;>rw[h]
  ·rcases aaI (xmin (o s.lo t.lo) (o s.lo t.hi)) (o s.hi t.lo)with h | h<;>rw[h]
   ·rcases aaI (o s.lo t.lo) (o s.lo t.hi)with h | h<;>rw[h]
    ·exact⟨_,_,.inl rfl,.inl rfl,rfl⟩
    ·exact⟨_,_,.inl rfl,.inr rfl,rfl⟩
   ·exact⟨_,_,.inr rfl,.inl rfl,rfl⟩
  ·exact⟨_,_,.inr rfl,.inr rfl,rfl⟩
 ·intro x y hx hy
  simp only[kF]
  rcases hx with rfl | rfl<;>rcases hy with rfl | rfl<;>omega
 ·simp only
  rcases aaH (xmax (xmax (o s.lo t.lo) (o s.lo t.hi)) (o s.hi t.lo)) (o s.hi t.hi)with h | h<;>rw[h]
  ·rcases aaH (xmax (o s.lo t.lo) (o s.lo t.hi)) (o s.hi t.lo)with h | h<;>rw[h]
   ·rcases aaH (o s.lo t.lo) (o s.lo t.hi)with h | h<;>rw[h]
    ·exact⟨_,_,.inl rfl,.inl rfl,rfl⟩
    ·exact⟨_,_,.inl rfl,.inr rfl,rfl⟩
   ·exact⟨_,_,.inr rfl,.inl rfl,rfl⟩
  ·exact⟨_,_,.inr rfl,.inr rfl,rfl⟩
 ·intro x y hx hy
  simp only[kT]
  rcases hx with rfl | rfl<;>rcases hy with rfl | rfl<;>omega
end Go.N
namespace Go.N
open Go Go.Q Go.Rx
def pt(i:Nat)(s:Sp):Sp:=if i=0 then negS s else if i=1 then zerS s else posS s
def Qp(i k:Nat)(p q:Sp):Sp:=if i=1∨k=1 then⟨.fin 0,.fin 0⟩else if i=0 then(if k=0 then⟨xmul p.hi q.hi,xmul p.lo q.lo⟩else⟨xmul p.lo q.hi,xmul p.hi q.lo⟩)else(if k=0 then⟨xmul p.hi q.lo,xmul p.lo q.hi⟩else⟨xmul p.lo q.lo,xmul p.hi q.hi⟩)
theorem ug{s:Sp}(h:oks C s)(i:Nat):oks C (pt i s):=by
 unfold pt;split
 ·exact yY h
 ·split
  ·exact alb h
  ·exact fE h
theorem i3{i:Nat}(h:i < 3):i=0∨i=1∨i=2:=by omega
theorem sU{s:Sp}(h:oks C s):(key (negS s).lo=key s.lo∧key (negS s).hi=min (key s.hi) (-1))∧(key (zerS s).lo=max (key s.lo) 0∧key (zerS s).hi=min (key s.hi) 0)∧(key (posS s).lo=max (key s.lo) 1∧key (posS s).hi=key s.hi):=by
 have a:=qA h.K.1
 have b:=qA h.K.2
 have h1:key (negS s).lo=max (key s.lo) (-K):=kT s.lo .ni
 have h2:key (negS s).hi=min (key s.hi) (-1):=kF s.hi (.fin (-1))
 have h3:key (zerS s).lo=max (key s.lo) 0:=kT s.lo (.fin 0)
 have h4:key (zerS s).hi=min (key s.hi) 0:=kF s.hi (.fin 0)
 have h5:key (posS s).lo=max (key s.lo) 1:=kT s.lo (.fin 1)
 have h6:key (posS s).hi=min (key s.hi) K:=kF s.hi .pi
 omega
theorem adV{s:Sp}(hs:oks C s){i:Nat}{x:X}(h:El (pt i s) x):El s x:=by
 have k:=sU hs
 obtain⟨h1,h2,h3⟩:=h
 refine⟨h1,?_,?_⟩<;>unfold pt at h2 h3<;>split at h2<;>(try split at h2)<;>simp_all<;>omega
theorem ada{s:Sp}{x:X}(h:El s x):emp s=false:=decide_eq_false (by have:=h.2;omega)
theorem uX{s:Sp}(hs:oks C s){x:X}:(El (pt 0 s) x→key x≤-1)∧(El (pt 1 s) x→key x=0)∧(El (pt 2 s) x→1≤key x):=by
 have k:=sU hs
 refine⟨fun h=>?_,fun h=>?_,fun h=>?_⟩
 ·have:=h.2.2;simp only[pt,if_true]at this;omega
 ·have a:=h.2.1
  have b:=h.2.2
  simp only[pt,Nat.one_ne_zero,if_true,if_false]at a b;omega
 ·have:=h.2.1
  simp only[pt,show ¬(2=0) by omega,show ¬(2=1) by omega,if_false]at this;omega
theorem cls{s:Sp}(hs:oks C s){x:X}(h:El s x):∃ i,i < 3∧El (pt i s) x:=by
 have k:=sU hs
 obtain⟨h1,h2,h3⟩:=h
 rcases Int.lt_trichotomy (key x) 0 with z | z | z
 ·exact⟨0,by omega,h1,by simp only[pt,if_true];omega,by simp only[pt,if_true];omega⟩
 ·exact⟨1,by omega,h1,by simp only[pt,Nat.one_ne_zero,if_true,if_false];omega,by simp only[pt,Nat.one_ne_zero,if_true,if_false];omega⟩
 ·exact⟨2,by omega,h1,by simp only[pt,show ¬(2=0) by omega,show ¬(2=1) by omega,if_false];omega,by simp only[pt,show ¬(2=0) by omega,show ¬(2=1) by omega,if_false];omega⟩
theorem sg0{x:X}(h:key x=0):sg x=0:=(pM x).2.1.2 h
theorem aan{x y:X}(h:key x=0∨key y=0):xmul x y=.fin 0:=by
 unfold xmul
 rw[if_pos]
 rcases h with h | h
 ·rw[sg0 h,Int.zero_mul]
 ·rw[sg0 h,Int.mul_zero]
theorem upr{x y y':X}(hx:okx Dd x)(hy:okx Dd y)(hy':okx Dd y')(h:key y≤key y')(h0:0≤key x):key (xmul x y)≤key (xmul x y'):=by rw[kX x y,kX x y'];exact qW hy hy' hx h h0
theorem dnr{x y y':X}(hx:okx Dd x)(hy:okx Dd y)(hy':okx Dd y')(h:key y≤key y')(h0:key x≤0):key (xmul x y')≤key (xmul x y):=by rw[kX x y,kX x y'];exact sS hy hy' hx h h0
theorem aeW{s t:Sp}(hs:oks C s)(ht:oks C t){i k:Nat}(hi:i < 3)(hk:k < 3){x y:X}(hx:El (pt i s) x)(hy:El (pt k t) y):
  key (Qp i k (pt i s) (pt k t)).lo≤key (xmul x y)∧key (xmul x y)≤key (Qp i k (pt i s) (pt k t)).hi:=by
 have ps:=ug hs i
 have qs:=ug ht k
 have pe:=ada hx
 have qe:=ada hy
 have a:=zB ps pe
 have b:=zA ps pe
 have c:=zB qs qe
 have d:=zA qs qe
 have S:=@uX s hs
 have T:=@uX t ht
 rcases i3 hi with rfl | rfl | rfl
 ·have sx:=S.1 hx
  have sa:=S.1 a
  have sb:=S.1 b
  rcases i3 hk with rfl | rfl | rfl
  ·have sy:=T.1 hy
   have sc:=T.1 c
   have sd:=T.1 d
   simp only[Qp,Nat.zero_ne_one,or_self,if_false,if_true]
   exact⟨Int.le_trans (sS hx.1 b.1 d.1 hx.2.2 (by omega)) (dnr hx.1 hy.1 d.1 hy.2.2 (by omega)),Int.le_trans (sS a.1 hx.1 hy.1 hx.2.1 (by omega)) (dnr a.1 c.1 hy.1 hy.2.1 (by omega))⟩
  ·have sy:=T.2.1 hy
   simp only[Qp,or_true,if_true]
   rw[aan (.inr sy)];exact⟨Int.le_refl _,Int.le_refl _⟩
  ·have sy:=T.2.2 hy
   have sc:=T.2.2 c
   have sd:=T.2.2 d
   simp only[Qp,Nat.zero_ne_one,show ¬(2=1) by omega,show ¬(2=0) by omega,or_self,if_false,if_true]
   exact⟨Int.le_trans (dnr a.1 hy.1 d.1 hy.2.2 (by omega)) (qW a.1 hx.1 hy.1 hx.2.1 (by omega)),Int.le_trans (qW hx.1 b.1 hy.1 hx.2.2 (by omega)) (dnr b.1 c.1 hy.1 hy.2.1 (by omega))⟩
 ·have sx:=S.2.1 hx
  simp only[Qp,true_or,if_true]
  rw[aan (.inl sx)];exact⟨Int.le_refl _,Int.le_refl _⟩
 ·have sx:=S.2.2 hx
  have sa:=S.2.2 a
  have sb:=S.2.2 b
  rcases i3 hk with rfl | rfl | rfl
  ·have sy:=T.1 hy
   have sc:=T.1 c
   have sd:=T.1 d
   simp only[Qp,Nat.zero_ne_one,show ¬(2=1) by omega,show ¬(2=0) by omega,or_self,if_false,if_true]
   exact⟨Int.le_trans (sS hx.1 b.1 c.1 hx.2.2 (by omega)) (upr hx.1 c.1 hy.1 hy.2.1 (by omega)),Int.le_trans (sS a.1 hx.1 hy.1 hx.2.1 (by omega)) (upr a.1 hy.1 d.1 hy.2.2 (by omega))⟩
  ·have sy:=T.2.1 hy
   simp only[Qp,or_true,if_true]
   rw[aan (.inr sy)];exact⟨Int.le_refl _,Int.le_refl _⟩
  ·have sy:=T.2.2 hy
   have sc:=T.2.2 c
   have sd:=T.2.2 d
   simp only[Qp,show ¬(2=1) by omega,show ¬(2=0) by omega,or_self,if_false]
   exact⟨Int.le_trans (qW a.1 hx.1 c.1 hx.2.1 (by omega)) (upr hx.1 c.1 hy.1 hy.2.1 (by omega)),Int.le_trans (qW hx.1 b.1 hy.1 hx.2.2 (by omega)) (upr b.1 hy.1 d.1 hy.2.2 (by omega))⟩
theorem akf{s t:Sp}(hs:oks C s)(ht:oks C t){i k:Nat}(hi:i < 3)(hk:k < 3)(ei:emp (pt i s)=false)(ek:emp (pt k t)=false):
  (∃ x y,El (pt i s) x∧El (pt k t) y∧(Qp i k (pt i s) (pt k t)).lo=xmul x y)∧(∃ x y,El (pt i s) x∧El (pt k t) y∧(Qp i k (pt i s) (pt k t)).hi=xmul x y):=by
 have a:=zB (ug hs i) ei
 have b:=zA (ug hs i) ei
 have c:=zB (ug ht k) ek
 have d:=zA (ug ht k) ek
 by_cases z:i=1∨k=1
 ·have e:xmul (pt i s).lo (pt k t).lo=.fin 0:=by
   apply aan
   rcases z with rfl | rfl
   ·exact .inl ((uX hs).2.1 a)
   ·exact .inr ((uX ht).2.1 c)
  simp only[Qp,if_pos z]
  exact⟨⟨_,_,a,c,e.symm⟩,⟨_,_,a,c,e.symm⟩⟩
 ·unfold Qp
  rw[if_neg z]
  split<;>split
  ·exact⟨⟨_,_,b,d,rfl⟩,⟨_,_,a,c,rfl⟩⟩
  ·exact⟨⟨_,_,a,d,rfl⟩,⟨_,_,b,c,rfl⟩⟩
  ·exact⟨⟨_,_,b,c,rfl⟩,⟨_,_,a,d,rfl⟩⟩
  ·exact⟨⟨_,_,a,c,rfl⟩,⟨_,_,b,d,rfl⟩⟩
theorem ab4{s t:Sp}(hs:oks C s)(ht:oks C t)(i k:Nat):oks K (Qp i k (pt i s) (pt k t)):=by
 have hK:=K_gt
 have p:=ug hs i
 have q:=ug ht k
 have z:okx K (.fin 0):=by simp only[okx];omega
 unfold Qp
 split
 ·exact⟨z,z⟩
 ·split<;>split
  ·exact⟨qw p.2 q.2,qw p.1 q.1⟩
  ·exact⟨qw p.1 q.2,qw p.2 q.1⟩
  ·exact⟨qw p.2 q.1,qw p.1 q.2⟩
  ·exact⟨qw p.1 q.1,qw p.2 q.2⟩
theorem ac1(x:X):xmul (.fin 1) x=x:=by
 cases x with
 | fin z=>rw[sW,Int.one_mul]
 | ni=>rfl
 | pi=>rfl
theorem ab2(x:X):xmul (.fin (-1)) x=xneg x:=by
 have:=wJ (.fin 1) x
 rw[ac1]at this
 exact this
section
variable {s t:Sp}(hs:oks C s)(ht:oks C t)(es:emp s=false)(et:emp t=false)(ps:Pr s)(pt':Pr t)
include hs ht es et
theorem yL{x y:X}(hx:x=s.lo∨x=s.hi)(hy:y=t.lo∨y=t.hi):El s x∧El t y:=by
 constructor
 ·rcases hx with rfl | rfl
  ·exact zB hs es
  ·exact zA hs es
 ·rcases hy with rfl | rfl
  ·exact zB ht et
  ·exact zA ht et
theorem F1{i k:Nat}(hi:i < 3)(hk:k < 3)(ei:emp (pt i s)=false)(ek:emp (pt k t)=false):
  key (apS xmul s t).lo≤key (Qp i k (pt i s) (pt k t)).lo∧key (Qp i k (pt i s) (pt k t)).hi≤key (apS xmul s t).hi:=by
 obtain⟨⟨x,y,hx,hy,e⟩,⟨x',y',hx',hy',e'⟩⟩:=akf hs ht hi hk ei ek
 have en:=xP (o:=xmul) es et
 obtain⟨⟨cx,cy,c1,c2,c3⟩,_⟩:=corner hs ht (adV hs hx) (adV ht hy)
 obtain⟨_,⟨dx,dy,d1,d2,d3⟩⟩:=corner hs ht (adV hs hx') (adV ht hy')
 have a:=en.1.2 cx cy c1 c2
 have b:=en.2.2 dx dy d1 d2
 rw[e,e']
 omega
theorem F2:(∃ i k,i < 3∧k < 3∧emp (pt i s)=false∧emp (pt k t)=false∧(Qp i k (pt i s) (pt k t)).lo=(apS xmul s t).lo)∧
  (∃ i k,i < 3∧k < 3∧emp (pt i s)=false∧emp (pt k t)=false∧(Qp i k (pt i s) (pt k t)).hi=(apS xmul s t).hi):=by
 have en:=xP (o:=xmul) es et
 have ok:=abP hs ht
 constructor
 ·obtain⟨cx,cy,c1,c2,c3⟩:=en.1.1
  have co:=yL hs ht es et c1 c2
  obtain⟨i,hi,xi⟩:=cls hs co.1
  obtain⟨k,hk,yk⟩:=cls ht co.2
  have ei:=ada xi
  have ek:=ada yk
  have q:=aeW hs ht hi hk xi yk
  have f:=F1 hs ht es et hi hk ei ek
  refine⟨i,k,hi,hk,ei,ek,key_inj (ab4 hs ht i k).1 ok.1 ?_⟩
  rw[←c3]at q
  omega
 ·obtain⟨cx,cy,c1,c2,c3⟩:=en.2.1
  have co:=yL hs ht es et c1 c2
  obtain⟨i,hi,xi⟩:=cls hs co.1
  obtain⟨k,hk,yk⟩:=cls ht co.2
  have ei:=ada xi
  have ek:=ada yk
  have q:=aeW hs ht hi hk xi yk
  have f:=F1 hs ht es et hi hk ei ek
  refine⟨i,k,hi,hk,ei,ek,key_inj (ab4 hs ht i k).2 ok.2 ?_⟩
  rw[←c3]at q
  omega
end
theorem near{s:Sp}(hs:oks C s)(ps:Pr s){x:X}(hx:El s x):(emp (posS s)=false→¬El (pt 2 s) x→(posS s).lo=.fin 1)∧(emp (negS s)=false→¬El (pt 0 s) x→(negS s).hi=.fin (-1)):=by
 have k:=sU hs
 have n3:∀ z,key (X.fin z)=z:=fun _=>rfl
 refine⟨fun e h=>?_,fun e h=>?_⟩
 ·apply key_inj (fE hs).K.1 ((oU (by decide) (by decide)).mono (Int.le_of_lt fO))
  rw[n3]
  by_cases c:key x≤0
  ·have:=hx.2;omega
  ·exfalso;apply h
   refine⟨hx.1,?_,?_⟩<;>simp only[pt,show ¬(2=0) by omega,show ¬(2=1) by omega,if_false]<;>have:=hx.2<;>omega
 ·apply key_inj (yY hs).K.2 ((oU (by decide) (by decide)).mono (Int.le_of_lt fO))
  rw[n3]
  by_cases c:0≤key x
  ·have:=hx.2;omega
  ·exfalso;apply h
   refine⟨hx.1,?_,?_⟩<;>simp only[pt,if_true]<;>have:=hx.2<;>omega
theorem acJ{s:Sp}(hs:oks C s)(ps:Pr s):(emp (posS s)=false→key (posS s).lo < C)∧(emp (negS s)=false→-C < key (negS s).hi):=by
 constructor
 ·intro e
  obtain⟨l,e1,e2,_⟩:=aas e hs ps
  have:=(fE hs).1
  rw[e1]at this⊢
  exact this.2
 ·intro e
  have p:=(aaq ps hs).resolve_left (by simp[e])
  have ok:=(yY hs).2
  have k:=(sU hs).1.2
  have hK:=K_gt
  cases h:(negS s).hi with
  | ni=>exact absurd h p.2
  | pi=>rw[h]at k;simp only[key]at k;omega
  | fin z=>rw[h]at ok;exact ok.1
section
variable {s t:Sp}(hs:oks C s)(ht:oks C t)(es:emp s=false)(et:emp t=false)(ps:Pr s)(pt':Pr t)
include hs ht es et ps pt'
theorem F3{i k:Nat}(hi:i < 3)(hk:k < 3)(ei:emp (pt i s)=false)(ek:emp (pt k t)=false):
  (C≤key (Qp i k (pt i s) (pt k t)).lo→(Qp i k (pt i s) (pt k t)).lo=(apS xmul s t).lo)∧(key (Qp i k (pt i s) (pt k t)).hi≤-C→(Qp i k (pt i s) (pt k t)).hi=(apS xmul s t).hi):=by
 have hC:=C_gt
 have en:=xP (o:=xmul) es et
 have ok:=abP hs ht
 have okq:=ab4 hs ht i k
 have f:=F1 hs ht es et hi hk ei ek
 have S:=@uX s hs
 have T:=@uX t ht
 have a:=zB (ug hs i) ei
 have b:=zA (ug hs i) ei
 have c:=zB (ug ht k) ek
 have d:=zA (ug ht k) ek
 have sgn:∀ {x y:X},(1≤key x∧1≤key y)∨(key x≤-1∧key y≤-1)→0 < key (xmul x y):=by
  intro x y h
  have m:=sK (x:=x) (y:=y)
  have gx:=pM x
  have gy:=pM y
  have sx:=sg3 x
  have sy:=sg3 y
  rcases h with h | h
  ·have e1:sg x=1:=by omega
   have e2:sg y=1:=by omega
   rw[e1,e2]at m;omega
  ·have e1:sg x= -1:=by omega
   have e2:sg y= -1:=by omega
   rw[e1,e2]at m;omega
 have sgn':∀ {x y:X},(1≤key x∧key y≤-1)∨(key x≤-1∧1≤key y)→key (xmul x y) < 0:=by
  intro x y h
  have m:=sK (x:=x) (y:=y)
  have gx:=pM x
  have gy:=pM y
  have sx:=sg3 x
  have sy:=sg3 y
  rcases h with h | h
  ·have e1:sg x=1:=by omega
   have e2:sg y= -1:=by omega
   rw[e1,e2]at m;omega
  ·have e1:sg x= -1:=by omega
   have e2:sg y=1:=by omega
   rw[e1,e2]at m;omega
 have p0:pt 0 s=negS s:=rfl
 have p2:pt 2 s=posS s:=rfl
 have q0:pt 0 t=negS t:=rfl
 have q2:pt 2 t=posS t:=rfl
 have NS:=acJ hs ps
 have NT:=acJ ht pt'
 constructor
 ·intro hbig
  apply key_inj okq.1 ok.1
  obtain⟨cx,cy,c1,c2,c3⟩:=en.1.1
  have co:=yL hs ht es et c1 c2
  by_cases in1:El (pt i s) cx
  ·by_cases in2:El (pt k t) cy
   ·have q:=aeW hs ht hi hk in1 in2
    rw[←c3]at q
    omega
   ·exfalso
    rcases i3 hi with rfl | rfl | rfl<;>rcases i3 hk with rfl | rfl | rfl<;>simp only[Qp,Nat.zero_ne_one,Nat.one_ne_zero,show ¬(2=1) by omega,show ¬(2=0) by omega,or_self,or_true,true_or,if_false,if_true]at hbig<;>(try simp only[show key (X.fin 0)=0 from rfl]at hbig)<;>(try omega)
    ·rw[p0,q0]at hbig
     rw[q0]at ek
     rw[(near ht pt' co.2).2 ek in2,kX,ab2,lm]at hbig
     rw[p0]at ei
     have:=NS.2 ei;omega
    ·have:=sgn' (x:=(pt 0 s).lo) (y:=(pt 2 t).hi) (.inr ⟨S.1 a,T.2.2 d⟩);omega
    ·have:=sgn' (x:=(pt 2 s).hi) (y:=(pt 0 t).lo) (.inl ⟨S.2.2 b,T.1 c⟩);omega
    ·rw[p2,q2]at hbig
     rw[q2]at ek
     rw[(near ht pt' co.2).1 ek in2,kX,ac1]at hbig
     rw[p2]at ei
     have:=NS.1 ei;omega
  ·exfalso
   rcases i3 hi with rfl | rfl | rfl<;>rcases i3 hk with rfl | rfl | rfl<;>simp only[Qp,Nat.zero_ne_one,Nat.one_ne_zero,show ¬(2=1) by omega,show ¬(2=0) by omega,or_self,or_true,true_or,if_false,if_true]at hbig<;>(try simp only[show key (X.fin 0)=0 from rfl]at hbig)<;>(try omega)
   ·rw[p0,q0]at hbig
    rw[p0]at ei
    rw[(near hs ps co.1).2 ei in1,ab2,lm]at hbig
    rw[q0]at ek
    have:=NT.2 ek;omega
   ·have:=sgn' (x:=(pt 0 s).lo) (y:=(pt 2 t).hi) (.inr ⟨S.1 a,T.2.2 d⟩);omega
   ·have:=sgn' (x:=(pt 2 s).hi) (y:=(pt 0 t).lo) (.inl ⟨S.2.2 b,T.1 c⟩);omega
   ·rw[p2,q2]at hbig
    rw[p2]at ei
    rw[(near hs ps co.1).1 ei in1,ac1]at hbig
    rw[q2]at ek
    have:=NT.1 ek;omega
 ·intro hbig
  apply key_inj okq.2 ok.2
  obtain⟨cx,cy,c1,c2,c3⟩:=en.2.1
  have co:=yL hs ht es et c1 c2
  by_cases in1:El (pt i s) cx
  ·by_cases in2:El (pt k t) cy
   ·have q:=aeW hs ht hi hk in1 in2
    rw[←c3]at q
    omega
   ·exfalso
    rcases i3 hi with rfl | rfl | rfl<;>rcases i3 hk with rfl | rfl | rfl<;>simp only[Qp,Nat.zero_ne_one,Nat.one_ne_zero,show ¬(2=1) by omega,show ¬(2=0) by omega,or_self,or_true,true_or,if_false,if_true]at hbig<;>(try simp only[show key (X.fin 0)=0 from rfl]at hbig)<;>(try omega)
    ·have:=sgn (x:=(pt 0 s).lo) (y:=(pt 0 t).lo) (.inr ⟨S.1 a,T.1 c⟩);omega
    ·rw[p0,q2]at hbig
     rw[q2]at ek
     rw[(near ht pt' co.2).1 ek in2,kX,ac1]at hbig
     rw[p0]at ei
     have:=NS.2 ei;omega
    ·rw[p2,q0]at hbig
     rw[q0]at ek
     rw[(near ht pt' co.2).2 ek in2,kX,ab2,lm]at hbig
     rw[p2]at ei
     have:=NS.1 ei;omega
    ·have:=sgn (x:=(pt 2 s).hi) (y:=(pt 2 t).hi) (.inl ⟨S.2.2 b,T.2.2 d⟩);omega
  ·exfalso
   rcases i3 hi with rfl | rfl | rfl<;>rcases i3 hk with rfl | rfl | rfl<;>simp only[Qp,Nat.zero_ne_one,Nat.one_ne_zero,show ¬(2=1) by omega,show ¬(2=0) by omega,or_self,or_true,true_or,if_false,if_true]at hbig<;>(try simp only[show key (X.fin 0)=0 from rfl]at hbig)<;>(try omega)
   ·have:=sgn (x:=(pt 0 s).lo) (y:=(pt 0 t).lo) (.inr ⟨S.1 a,T.1 c⟩);omega
   ·rw[p0,q2]at hbig
    rw[p0]at ei
    rw[(near hs ps co.1).2 ei in1,ab2,lm]at hbig
    rw[q2]at ek
    have:=NT.1 ek;omega
   ·rw[p2,q0]at hbig
    rw[p2]at ei
    rw[(near hs ps co.1).1 ei in1,ac1]at hbig
    rw[q0]at ek
    have:=NT.2 ek;omega
   ·have:=sgn (x:=(pt 2 s).hi) (y:=(pt 2 t).hi) (.inl ⟨S.2.2 b,T.2.2 d⟩);omega
theorem aiH{i k:Nat}(hi:i < 3)(hk:k < 3)(ei:emp (pt i s)=false)(ek:emp (pt k t)=false):emp (Qp i k (pt i s) (pt k t))=false∧(Qp i k (pt i s) (pt k t)).lo≠.pi∧(Qp i k (pt i s) (pt k t)).hi≠.ni:=by
 have hK:=K_gt
 have a:=zB (ug hs i) ei
 have b:=zA (ug hs i) ei
 have c:=zB (ug ht k) ek
 have d:=zA (ug ht k) ek
 have q:=aeW hs ht hi hk a c
 refine⟨decide_eq_false (by omega),?_⟩
 have fl:∀ {s:Sp},oks C s→Pr s→emp (pt 2 s)=false→∃ z,(pt 2 s).lo=.fin z:=fun h p e=>by
  obtain⟨l,e1,_⟩:=aas (s:=_) e h p
  exact⟨l,e1⟩
 have fh:∀ {s:Sp},oks C s→Pr s→emp (pt 0 s)=false→∃ z,(pt 0 s).hi=.fin z:=fun {s} h p e=>by
  have p':=(aaq p h).resolve_left (by rw[show negS s=pt 0 s from rfl,e];simp)
  have k:=(sU h).1.2
  cases h':(negS s).hi with
  | ni=>exact absurd h' p'.2
  | pi=>rw[h']at k;simp only[key]at k;omega
  | fin z=>exact⟨z,h'⟩
 have bad:∀ {x y:X} {g:Int},sg x*sg y=g→(g= -1→xmul x y≠.pi)∧(g=1→xmul x y≠.ni):=fun {x y g} h=>by
  have m:=sK (x:=x) (y:=y)
  rw[h]at m
  constructor
  ·rintro rfl e
   rw[e]at m;simp only[key]at m;omega
  ·rintro rfl e
   rw[e]at m;simp only[key]at m;omega
 have sa:=@uX s hs
 have sc:=@uX t ht
 have gp:∀ {x:X},1≤key x→sg x=1:=fun {x} h=>by have:=pM x;have:=sg3 x;omega
 have gn:∀ {x:X},key x≤-1→sg x= -1:=fun {x} h=>by have:=pM x;have:=sg3 x;omega
 rcases i3 hi with rfl | rfl | rfl<;>rcases i3 hk with rfl | rfl | rfl<;>simp only[Qp,Nat.zero_ne_one,Nat.one_ne_zero,show ¬(2=1) by omega,show ¬(2=0) by omega,or_self,or_true,true_or,if_false,if_true]
 ·obtain⟨u,hu⟩:=fh hs ps ei
  obtain⟨v,hv⟩:=fh ht pt' ek
  refine⟨by rw[hu,hv,sW];simp,(bad (g:=1) ?_).2 rfl⟩
  rw[gn (sa.1 a),gn (sc.1 c)];rfl
 ·simp
 ·obtain⟨u,hu⟩:=fh hs ps ei
  obtain⟨v,hv⟩:=fl ht pt' ek
  refine⟨(bad (g:= -1) ?_).1 rfl,by rw[hu,hv,sW];simp⟩
  rw[gn (sa.1 a),gp (sc.2.2 d)];rfl
 ·simp
 ·simp
 ·simp
 ·obtain⟨u,hu⟩:=fl hs ps ei
  obtain⟨v,hv⟩:=fh ht pt' ek
  refine⟨(bad (g:= -1) ?_).1 rfl,by rw[hu,hv,sW];simp⟩
  rw[gp (sa.2.2 b),gn (sc.1 c)];rfl
 ·simp
 ·obtain⟨u,hu⟩:=fl hs ps ei
  obtain⟨v,hv⟩:=fl ht pt' ek
  refine⟨by rw[hu,hv,sW];simp,(bad (g:=1) ?_).2 rfl⟩
  rw[gp (sa.2.2 b),gp (sc.2.2 d)];rfl
end
theorem joinA{a b:A}(ha:Wf a)(hb:Wf b)(ea:a.em=false)(eb:b.em=false):toA (hull (ofA a) (ofA b))=⟨false,leastO a.lo b.lo,kR a.hi b.hi⟩:=by
 have e1:=jm ha
 have e2:=jm hb
 rw[ea]at e1
 rw[eb]at e2
 have ne:=tH e1 e2
 rw[hullNE e1 e2]at ne⊢
 have xa:ofA a=⟨lox a.lo,hix a.hi⟩:=by unfold ofA;rw[if_neg (by simp[ea])]
 have xb:ofA b=⟨lox b.lo,hix b.hi⟩:=by unfold ofA;rw[if_neg (by simp[eb])]
 unfold toA
 rw[ne,if_neg (by simp),xa,xb]
 simp only
 rw[←(adt ha.loK hb.loK).1,←(aal ha.hiK hb.hiK).1,aeM,aeL]
 have l1:=ha.lo
 have l2:=hb.lo
 have l3:=ha.hi
 have l4:=hb.hi
 congr 1
 ·cases h1:a.lo<;>cases h2:b.lo<;>simp only[leastO,Option.bind_none,Option.bind_some,clip]
  rw[h1]at l1;rw[h2]at l2
  simp only[okb]at l1 l2
  rw[if_pos (by split<;>omega)]
 ·cases h1:a.hi<;>cases h2:b.hi<;>simp only[kR,Option.bind_none,Option.bind_some,clip]
  rw[h1]at l3;rw[h2]at l4
  simp only[okb]at l3 l4
  rw[if_pos (by split<;>omega)]
def LoI(S:List Sp):Option Int→Prop
 | none=>∃ q∈S,tx q.lo=none
 | some m=>(∃ q∈S,tx q.lo=some m)∧∀ q∈S,∃ z,tx q.lo=some z∧m≤z
def HiI(S:List Sp):Option Int→Prop
 | none=>∃ q∈S,tx q.hi=none
 | some m=>(∃ q∈S,tx q.hi=some m)∧∀ q∈S,∃ z,tx q.hi=some z∧z≤m
structure Inv(S:List Sp)(out:A):Prop where
 wf:Wf out
 nil:S=[]→out=E0
 some:S≠[]→out.em=false∧LoI S out.lo∧HiI S out.hi
theorem ai8{S:List Sp}{out:A}(h:Inv S out){q:Sp}(hq:oks K q)(eq:emp q=false)(p1:q.lo≠.pi)(p2:q.hi≠.ni):Inv (q::S) (toA (hull (ofA out) (ofA (toA q)))):=by
 have wq:Wf (toA q):=nD hq (.inr ⟨p1,p2⟩)
 have fq:toA q=⟨false,tx q.lo,tx q.hi⟩:=by unfold toA;rw[eq,if_neg (by simp)]
 by_cases hS:S=[]
 ·subst hS
  have e:=h.nil rfl
  subst e
  have e0:ofA E0=non:=rfl
  rw[e0,rM,aaE wq]
  refine⟨wq,(fun h=>by simp at h),fun _=>?_⟩
  rw[fq]
  refine⟨rfl,?_,?_⟩
  ·simp only
   cases hx:tx q.lo with
   | none=>exact⟨q,by simp,hx⟩
   | some m=>exact⟨⟨q,by simp,hx⟩,fun r hr=>by simp only[List.mem_singleton]at hr;subst hr;exact⟨m,hx,Int.le_refl _⟩⟩
  ·simp only
   cases hx:tx q.hi with
   | none=>exact⟨q,by simp,hx⟩
   | some m=>exact⟨⟨q,by simp,hx⟩,fun r hr=>by simp only[List.mem_singleton]at hr;subst hr;exact⟨m,hx,Int.le_refl _⟩⟩
 ·obtain⟨e1,e2,e3⟩:=h.some hS
  have em:(toA q).em=false:=by rw[fq]
  have j:=joinA h.wf wq e1 em
  have w:Wf (toA (hull (ofA out) (ofA (toA q)))):=by
   refine nD (jc h.wf.okK wq.okK) ?_
   have x:=h.wf.pr
   have y:=wq.pr
   have a1:=jm h.wf
   have a2:=jm wq
   rw[e1]at a1
   rw[em]at a2
   right
   rw[hullNE a1 a2]
   have x':=x.resolve_left (by simp[a1])
   have y':=y.resolve_left (by simp[a2])
   constructor
   ·simp only;rcases aaI (ofA out).lo (ofA (toA q)).lo with g | g<;>rw[g]
    ·exact x'.1
    ·exact y'.1
   ·simp only;rcases aaH (ofA out).hi (ofA (toA q)).hi with g | g<;>rw[g]
    ·exact x'.2
    ·exact y'.2
  refine⟨w,(fun h=>by simp at h),fun _=>?_⟩
  rw[j,fq]
  refine⟨rfl,?_,?_⟩
  ·simp only
   cases ho:out.lo with
   | none =>
    rw[ho]at e2
    obtain⟨r,r1,r2⟩:=e2
    exact⟨r,by simp[r1],r2⟩
   | some m =>
    rw[ho]at e2
    obtain⟨⟨r,r1,r2⟩,r3⟩:=e2
    cases hx:tx q.lo with
    | none=>exact⟨q,by simp,hx⟩
    | some z =>
     simp only[leastO]
     by_cases c:z < m
     ·rw[if_pos c]
      refine⟨⟨q,by simp,hx⟩,fun p hp=>?_⟩
      rcases List.mem_cons.1 hp with rfl | hp
      ·exact⟨z,hx,Int.le_refl _⟩
      ·obtain⟨v,v1,v2⟩:=r3 p hp
       exact⟨v,v1,by omega⟩
     ·rw[if_neg c]
      refine⟨⟨r,by simp[r1],r2⟩,fun p hp=>?_⟩
      rcases List.mem_cons.1 hp with rfl | hp
      ·exact⟨z,hx,by omega⟩
      ·exact r3 p hp
  ·simp only
   cases ho:out.hi with
   | none =>
    rw[ho]at e3
    obtain⟨r,r1,r2⟩:=e3
    exact⟨r,by simp[r1],r2⟩
   | some m =>
    rw[ho]at e3
    obtain⟨⟨r,r1,r2⟩,r3⟩:=e3
    cases hx:tx q.hi with
    | none=>exact⟨q,by simp,hx⟩
    | some z =>
     simp only[kR]
     by_cases c:m < z
     ·rw[if_pos c]
      refine⟨⟨q,by simp,hx⟩,fun p hp=>?_⟩
      rcases List.mem_cons.1 hp with rfl | hp
      ·exact⟨z,hx,Int.le_refl _⟩
      ·obtain⟨v,v1,v2⟩:=r3 p hp
       exact⟨v,v1,by omega⟩
     ·rw[if_neg c]
      refine⟨⟨r,by simp[r1],r2⟩,fun p hp=>?_⟩
      rcases List.mem_cons.1 hp with rfl | hp
      ·exact⟨z,hx,by omega⟩
      ·exact r3 p hp
def prs:List (Nat×Nat):=[(0,0),(0,1),(0,2),(1,0),(1,1),(1,2),(2,0),(2,1),(2,2)]
def stA(s t:Sp)(out:A)(p:Nat×Nat):A:=if emp (pt p.1 s)=true then out else if emp (pt p.2 t)=true then out else toA (hull (ofA out) (ofA (toA (Qp p.1 p.2 (pt p.1 s) (pt p.2 t)))))
def stL(s t:Sp)(S:List Sp)(p:Nat×Nat):List Sp:=if emp (pt p.1 s)=true then S else if emp (pt p.2 t)=true then S else Qp p.1 p.2 (pt p.1 s) (pt p.2 t)::S
section
variable {s t:Sp}(hs:oks C s)(ht:oks C t)(es:emp s=false)(et:emp t=false)(ps:Pr s)(pt':Pr t)
include hs ht es et ps pt'
theorem inv_one{S:List Sp}{out:A}(h:Inv S out){p:Nat×Nat}(h1:p.1 < 3)(h2:p.2 < 3):Inv (stL s t S p) (stA s t out p):=by
 unfold stL stA
 by_cases c1:emp (pt p.1 s)=true
 ·rw[if_pos c1,if_pos c1];exact h
 ·rw[if_neg c1,if_neg c1]
  by_cases c2:emp (pt p.2 t)=true
  ·rw[if_pos c2,if_pos c2];exact h
  ·rw[if_neg c2,if_neg c2]
   have q:=aiH hs ht es et ps pt' h1 h2 (by simpa using c1) (by simpa using c2)
   exact ai8 h (ab4 hs ht _ _) q.1 q.2.1 q.2.2
theorem ahc:∀ (l:List (Nat×Nat)) (S:List Sp) (out:A),(∀ p∈l,p.1 < 3∧p.2 < 3)→Inv S out→Inv (l.foldl (stL s t) S) (l.foldl (stA s t) out)
 | [],S,out,_,h=>h
 | p::l,S,out,hl,h=>by
  have hp:=hl p (by simp)
  exact ahc l _ _ (fun q hq=>hl q (by simp[hq])) (inv_one hs ht es et ps pt' h hp.1 hp.2)
omit hs ht es et ps pt' in
theorem ahh(q:Sp):∀ (l:List (Nat×Nat)) (S:List Sp),q∈l.foldl (stL s t) S↔q∈S∨∃ p∈l,emp (pt p.1 s)=false∧emp (pt p.2 t)=false∧q=Qp p.1 p.2 (pt p.1 s) (pt p.2 t)
 | [],S=>by simp
 | p::l,S=>by
  rw[List.foldl_cons,ahh q l]
  unfold stL
  by_cases c1:emp (pt p.1 s)=true
  ·rw[if_pos c1];simp[c1]
  ·rw[if_neg c1]
   by_cases c2:emp (pt p.2 t)=true
   ·rw[if_pos c2];simp[c2]
   ·rw[if_neg c2]
    simp only[List.mem_cons,Bool.not_eq_true]at c1 c2⊢
    constructor
    ·rintro ((h | h) | ⟨r,r1,r2⟩)
     ·exact .inr ⟨p,.inl rfl,c1,c2,h⟩
     ·exact .inl h
     ·exact .inr ⟨r,.inr r1,r2⟩
    ·rintro (h | ⟨r,rfl | r1,r2⟩)
     ·exact .inl (.inr h)
     ·exact .inl (.inl r2.2.2)
     ·exact .inr ⟨r,r1,r2⟩
theorem aiZ:prs.foldl (stA s t) E0=toA (apS xmul s t):=by
 have hC:=C_gt
 have hK:=fO
 have inv:=ahc hs ht es et ps pt' prs [] E0 (by decide) ⟨rW▸nD iY (.inl gU),fun _=>rfl,fun h=>absurd rfl h⟩
 have mem:=fun q=>ahh (s:=s) (t:=t) q prs []
 have f2:=F2 hs ht es et
 have lt3:∀ p∈prs,p.1 < 3∧p.2 < 3:=by decide
 have inp:∀ i k,i < 3→k < 3→(i,k)∈prs:=by
  intro i k hi hk
  rcases i3 hi with rfl | rfl | rfl<;>rcases i3 hk with rfl | rfl | rfl<;>decide
 have ok:=abP hs ht
 have ne:=abH (o:=xmul) es et
 generalize hS:prs.foldl (stL s t) []=S at inv mem
 have ms:∀ q,q∈S→∃ i k,i < 3∧k < 3∧emp (pt i s)=false∧emp (pt k t)=false∧q=Qp i k (pt i s) (pt k t):=fun q hq=>by
  rcases (mem q).1 hq with h | ⟨p,p1,p2,p3,p4⟩
  ·simp at h
  ·exact⟨p.1,p.2,(lt3 p p1).1,(lt3 p p1).2,p2,p3,p4⟩
 have low:∀ q∈S,key (apS xmul s t).lo≤key q.lo∧key q.hi≤key (apS xmul s t).hi∧(C≤key q.lo→q.lo=(apS xmul s t).lo)∧(key q.hi≤-C→q.hi=(apS xmul s t).hi)∧oks K q:=fun q hq=>by
  obtain⟨i,k,hi,hk,ei,ek,rfl⟩:=ms q hq
  have a:=F1 hs ht es et hi hk ei ek
  have b:=F3 hs ht es et ps pt' hi hk ei ek
  exact⟨a.1,a.2,b.1,b.2,ab4 hs ht i k⟩
 obtain⟨⟨i,k,hi,hk,ei,ek,eL⟩,⟨i',k',hi',hk',ei',ek',eH⟩⟩:=f2
 have qL:Qp i k (pt i s) (pt k t)∈S:=(mem _).2 (.inr ⟨(i,k),inp i k hi hk,ei,ek,rfl⟩)
 have qH:Qp i' k' (pt i' s) (pt k' t)∈S:=(mem _).2 (.inr ⟨(i',k'),inp i' k' hi' hk',ei',ek',rfl⟩)
 have hne:S≠[]:=List.ne_nil_of_mem qL
 obtain⟨g1,g2,g3⟩:=inv.some hne
 generalize hO:prs.foldl (stA s t) E0=out at *
 have tl:∀ x:X,∀ z,tx x=some z→x=.fin z∧-C < z∧z < C:=fun x z h=>by
  cases x with
  | ni=>simp[tx]at h
  | pi=>simp[tx]at h
  | fin w =>
   simp only[tx,clip]at h
   split at h
   ·rename_i c;injection h with h;subst h;exact⟨rfl,c⟩
   ·simp at h
 have tn:∀ x:X,okx K x→tx x=none→key x≤-C∨C≤key x:=fun x hx h=>by
  cases x with
  | ni=>left;simp only[key];omega
  | pi=>right;simp only[key];omega
  | fin w =>
   simp only[tx,clip]at h
   split at h
   ·simp at h
   ·simp only[key];omega
 have r1:out.lo=tx (apS xmul s t).lo:=by
  cases ho:out.lo with
  | none =>
   rw[ho]at g2
   obtain⟨q,q1,q2⟩:=g2
   obtain⟨l1,l2,l3,l4,l5⟩:=low q q1
   cases hx:tx (apS xmul s t).lo with
   | none=>rfl
   | some z =>
    exfalso
    have t1:=tl _ _ hx
    rcases tn _ l5.1 q2 with c | c
    ·rw[t1.1,show key (X.fin z)=z from rfl]at l1;omega
    ·have e:=l3 c
     rw[e,hx]at q2;cases q2
  | some m =>
   rw[ho]at g2
   obtain⟨⟨q,q1,q2⟩,q3⟩:=g2
   obtain⟨l1,l2,l3,l4,l5⟩:=low q q1
   obtain⟨z,z1,z2⟩:=q3 _ qL
   rw[eL]at z1
   have t1:=tl _ _ z1
   have t2:=tl _ _ q2
   rw[t1.1,t2.1]at l1
   simp only[key]at l1
   rw[z1];congr 1;omega
 have r2:out.hi=tx (apS xmul s t).hi:=by
  cases ho:out.hi with
  | none =>
   rw[ho]at g3
   obtain⟨q,q1,q2⟩:=g3
   obtain⟨l1,l2,l3,l4,l5⟩:=low q q1
   cases hx:tx (apS xmul s t).hi with
   | none=>rfl
   | some z =>
    exfalso
    have t1:=tl _ _ hx
    rcases tn _ l5.2 q2 with c | c
    ·have e:=l4 c
     rw[e,hx]at q2;cases q2
    ·rw[t1.1,show key (X.fin z)=z from rfl]at l2;omega
  | some m =>
   rw[ho]at g3
   obtain⟨⟨q,q1,q2⟩,q3⟩:=g3
   obtain⟨l1,l2,l3,l4,l5⟩:=low q q1
   obtain⟨z,z1,z2⟩:=q3 _ qH
   rw[eH]at z1
   have t1:=tl _ _ z1
   have t2:=tl _ _ q2
   rw[t1.1,t2.1]at l2
   simp only[key]at l2
   rw[z1];congr 1;omega
 unfold toA
 rw[ne,if_neg (by simp),←r1,←r2]
 obtain⟨oe,ol,oh⟩:=out
 simp only at g1
 rw[g1]
end
theorem ahp{s:Sp}(hs:oks C s){i:Nat}(h:emp (pt i s)=false):emp s=false:=by
 have k:=sU hs
 have:=of_decide_eq_false h
 apply decide_eq_false
 unfold pt at this
 split at this
 ·omega
 ·split at this<;>omega
theorem afh{s t:Sp}(h:emp s=true∨emp t=true)(hs:oks C s)(ht:oks C t):prs.foldl (stA s t) E0=toA (apS xmul s t):=by
 have pe:∀ {s:Sp},oks C s→emp s=true→∀ i,emp (pt i s)=true:=fun {s} h e i=>by
  have k:=sU h
  have:=of_decide_eq_true e
  apply decide_eq_true
  unfold pt
  split
  ·omega
  ·split<;>omega
 have st:∀ out p,stA s t out p=out:=fun out p=>by
  unfold stA
  rcases h with h | h
  ·rw[if_pos (pe hs h _)]
  ·split
   ·rfl
   ·rw[if_pos (pe ht h _)]
 have all:∀ l:List (Nat×Nat),l.foldl (stA s t) E0=E0:=fun l=>by
  induction l with
  | nil=>rfl
  | cons p l ih=>rw[List.foldl_cons,st];exact ih
 rw[all]
 unfold apS
 rcases h with h | h
 ·rw[if_pos h,rW]
 ·rw[if_pos h,ite_self,rW]
end Go.N
namespace Go.N
open Go.IntKind (i64)
open Go Go.Q Go.Rx
def PosA(a:A):Prop:=Wf a∧a.em=false∧∃ l,a.lo=some l∧1≤l
theorem ahT{x y:X}(h1:sg x=1)(h2:sg y=1)(h:x=.pi∨y=.pi):xmul x y=.pi:=by
 unfold xmul
 rw[h1,h2]
 rcases h with rfl | rfl
 ·cases y<;>rfl
 ·cases x<;>rfl
def prS(s t:Sp):Sp:=⟨xmul s.lo t.lo,xmul s.hi t.hi⟩
theorem ait(lf:Nat)(h3:200000≤lf){a b:A}(ha:PosA a)(hb:PosA b):jv.f lf (ac a) (ac b)=some (ac (toA (prS (ofA a) (ofA b))),()):=by
 have hK:=CC_K
 have hC:=C_gt
 obtain⟨wa,ea,l,el,l1⟩:=ha
 obtain⟨wb,eb,m,em,m1⟩:=hb
 obtain⟨oa,la,xa⟩:=a
 obtain⟨ob',lb,xb⟩:=b
 simp only at ea eb el em
 subst ea eb el em
 have kl: -C < l∧l < C:=wa.lo
 have km: -C < m∧m < C:=wb.lo
 have q1:=yA kl km
 have h4:0≤C*C:=Int.mul_nonneg (by omega) (by omega)
 have pl:=oN lf h3 (CK kl) (CK km)
 have obs:∀ z:Int,ob (some z)=bs (Lib.itoa z):=fun _=>rfl
 have e0:(⟨#[]⟩:ByteArray)=ob none:=rfl
 have w1:=wa.hi
 have w2:=wb.hi
 have w3:=wa.le
 have w4:=wb.le
 have sp:∀ {z:Int},1≤z→sg (.fin z)=1:=fun {z} h=>by simp only[sg,sgn];rw[if_neg (by omega),if_neg (by omega)]
 rw[jv.f]
 simp only[ac,lZ,obs,prS,ofA,Bool.false_eq_true,if_false,lox,sW]
 cases xa with
 | none =>
  simp only[decide_true,Bool.not_true,brF,pl,bdS]
  rw[e0,rng1 lf h3 (by omega),bdS]
  have:xmul (hix none) (hix xb)=.pi:=by
   cases xb with
   | none=>rfl
   | some v =>
    have hv:m≤v:=w4
    exact ahT rfl (sp (by omega)) (.inl rfl)
  rw[this];rfl
 | some u =>
  have hu:l≤u:=w3
  have ku: -C < u∧u < C:=w1
  simp only[reduceCtorEq,decide_false,Bool.not_false,brT]
  cases xb with
  | none =>
   simp only[decide_true,Bool.not_true,brF,pl,bdS]
   rw[e0,rng1 lf h3 (by omega),bdS]
   have:xmul (hix (some u)) (hix none)=.pi:=by
    exact ahT (sp (by omega)) rfl (.inr rfl)
   rw[this];rfl
  | some v =>
   have hv:m≤v:=w4
   have kv: -C < v∧v < C:=w2
   have q2:=yA ku kv
   simp only[reduceCtorEq,decide_false,Bool.not_false,brT,obs,oN lf h3 (CK ku) (CK kv),pl,bdS]
   rw[rng2 lf h3 (by omega) (by omega),bdS]
   simp only[hix,sW];rfl
theorem agX(x:X)(hx:okx K x):tx (xneg x)=(tx x).map fun z=> -z:=by
 cases x with
 | ni=>rfl
 | pi=>rfl
 | fin z =>
  simp only[xneg,tx,clip]
  by_cases c: -C < z∧z < C
  ·rw[if_pos c,if_pos (by omega)];rfl
  ·rw[if_neg c,if_neg (by omega)];rfl
theorem toAf{s:Sp}(e:emp s=false):toA s=⟨false,tx s.lo,tx s.hi⟩:=by unfold toA;rw[e,if_neg (by simp)]
theorem aj0{s:Sp}(hs:oks K s)(es:emp s=false)(p1:s.lo≠.pi)(p2:s.hi≠.ni):toA (turn (ofA (toA s)))=toA ⟨xneg s.hi,xneg s.lo⟩:=by
 have w:Wf (toA s):=nD hs (.inr ⟨p1,p2⟩)
 have e:(toA s).em=false:=by rw[vK,es]
 have fs:toA s=⟨false,tx s.lo,tx s.hi⟩:=by unfold toA;rw[es,if_neg (by simp)]
 have e1:=jm w
 rw[e]at e1
 have et:emp (turn (ofA (toA s)))=false:=by rw[nT,e1]
 have e2:emp ⟨xneg s.hi,xneg s.lo⟩=false:=by
  have:=of_decide_eq_false es
  apply decide_eq_false
  simp only[lm];omega
 have ft:turn (ofA (toA s))=⟨xneg (hix (tx s.hi)),xneg (lox (tx s.lo))⟩:=by
  unfold turn
  rw[if_neg (by simp[e1]),fs]
  simp only[ofA,Bool.false_eq_true,if_false]
 have oh:=w.hi
 have ol:=w.lo
 rw[fs]at oh ol
 simp only at oh ol
 rw[toAf et,toAf e2,ft]
 simp only
 rw[agX s.hi hs.2,agX s.lo hs.1]
 congr 1
 ·cases h:tx s.hi with
  | none=>rfl
  | some z =>
   rw[h]at oh;simp only[okb]at oh
   simp only[hix,xneg,tx,clip,Option.map_some]
   rw[if_pos (by omega)]
 ·cases h:tx s.lo with
  | none=>rfl
  | some z =>
   rw[h]at ol;simp only[okb]at ol
   simp only[lox,xneg,tx,clip,Option.map_some]
   rw[if_pos (by omega)]
theorem agM{s:Sp}(hs:oks C s)(e:emp (negS s)=false)(p:Pr s):PosA (toA (turn (negS s)))∧ofA (toA (turn (negS s)))=⟨xneg (negS s).hi,xneg (negS s).lo⟩:=by
 have k:=(sU hs).1
 have ok:=yY hs
 have pr:=aaq p hs
 have m:=mkA (fV ok) pr.turn
 have et:emp (turn (negS s))=false:=by rw[nT,e]
 rw[et,if_neg (by simp)]at m
 have f:turn (negS s)=⟨xneg (negS s).hi,xneg (negS s).lo⟩:=by unfold turn;rw[if_neg (by simp[e])]
 refine⟨⟨m.1,by rw[vK,et],?_⟩,by rw[m.2,f]⟩
 have hK:=K_gt
 have nf:=(acJ hs p).2 e
 cases h:(negS s).hi with
 | ni=>rw[h]at nf;have:=fO;simp only[key]at nf;omega
 | pi=>rw[h]at k;simp only[key]at k;omega
 | fin z =>
  rw[h]at k nf
  simp only[key]at k nf
  refine⟨-z,?_,by omega⟩
  unfold toA
  rw[et,if_neg (by simp),f,h]
  simp only[xneg,tx,clip]
  rw[if_pos (by omega)]
theorem akP{s:Sp}(hs:oks C s)(e:emp (posS s)=false)(p:Pr s):PosA (toA (posS s))∧ofA (toA (posS s))=posS s:=by
 have m:=mkA (fE hs) (akO p hs)
 rw[e,if_neg (by simp)]at m
 obtain⟨l,e1,e2,_⟩:=aas e hs p
 refine⟨⟨m.1,by rw[vK,e],l,?_,e2⟩,m.2⟩
 have ok:=(fE hs).1
 rw[e1]at ok
 simp only[okx]at ok
 unfold toA
 rw[e,if_neg (by simp),e1]
 simp only[tx,clip]
 rw[if_pos ok]
def pp(i:Nat)(s:Sp):Sp:=if i=0 then⟨xneg (negS s).hi,xneg (negS s).lo⟩else posS s
theorem afH(lf:Nat)(h3:200000≤lf){s:Sp}(hs:oks C s)(p:Pr s){i:Nat}(hi:i=0∨i=2)(e:emp (pt i s)=false):
  ∃ a:A,fU.f lf (ac (toA (pt i s))) ((i:Nat):Int)=some (ac a,())∧PosA a∧ofA a=pp i s:=by
 rcases hi with rfl | rfl
 ·have m:=mkA (yY hs) (aaq p hs)
  have e':emp (negS s)=false:=e
  rw[e',if_neg (by simp)]at m
  have t:=agM hs e' p
  refine⟨_,?_,t.1,t.2⟩
  rw[fU.f]
  have tr:=pO lf h3 m.1
  rw[m.2]at tr
  have tr':bI.f lf (ac (toA (pt 0 s)))=some (ac (toA (turn (negS s))),()):=tr
  exact(brT _ _).trans (by rw[tr',bdS])
 ·have t:=akP hs e p
  refine⟨_,?_,t.1,t.2⟩
  rw[fU.f]
  exact brF _ _
theorem ams{s t:Sp}{i k:Nat}(hi:i=0∨i=2)(hk:k=0∨k=2):Qp i k (pt i s) (pt k t)=if i=k then prS (pp i s) (pp k t)else⟨xneg (prS (pp i s) (pp k t)).hi,xneg (prS (pp i s) (pp k t)).lo⟩:=by
 rcases hi with rfl | rfl<;>rcases hk with rfl | rfl<;>simp only[Qp,pt,pp,prS,Nat.zero_ne_one,show ¬(2=1) by omega,show ¬(2=0) by omega,show ¬(0=2) by omega,or_self,if_false,if_true]
 ·rw[wJ,uD,qX,wJ,uD,qX]
 ·rw[wJ,wJ,qX,qX]
 ·rw[uD,uD,qX,qX]
section
variable (lf:Nat)(h3:200000≤lf){s t:Sp}(hs:oks C s)(ht:oks C t)(ps:Pr s)(pt':Pr t)
include h3 hs ht ps pt'
theorem ajY{ρ:Type}(v0 v1:List IV)(b4:Bool)(b5 b6:ByteArray){i k:Nat}(hi:i < 3)(hk:k < 3)(x0:idxL v0 ((i:Nat):Int)=some (ac (toA (pt i s))))(x1:idxL v1 ((k:Nat):Int)=some (ac (toA (pt k t))))(out:A)(wo:Wf out)
  (Kc:Int→Bool→ByteArray→ByteArray→Option ρ) (E0:Bool→ByteArray→ByteArray→Option ρ) :
  cO.r1 lf v0 v1 ((i:Nat):Int) b4 b5 b6 ((k:Nat):Int) out.em (ob out.lo) (ob out.hi) Kc E0=Kc ((k+1:Nat):Int) (stA s t out (i,k)).em (ob (stA s t out (i,k)).lo) (ob (stA s t out (i,k)).hi):=by
 have hC:=C_gt
 have hK:=fO
 have e5:i64.wrap (((k:Nat):Int)+1)=((k+1:Nat):Int):=by rw[w64 (by omega) (by omega)];omega
 have em1:(ac (toA (pt i s))).1=emp (pt i s):=vK _
 have em2:(ac (toA (pt k t))).1=emp (pt k t):=vK _
 have ao:((out.em,ob out.lo,ob out.hi,()):IV)=ac out:=rfl
 rw[cO.r1,decide_eq_true (by omega),brT]
 simp only[x0,x1,bdS,e5,em1,em2,ao]
 unfold stA
 cases c1:emp (pt i s)with
 | true=>rw[brT,if_pos rfl]
 | false=>cases c2:emp (pt k t)with
  | true=>rw[brF,brT,if_neg (by simp),if_pos rfl]
  | false =>
   have es:=ahp hs c1
   have et:=ahp ht c2
   have qp:=aiH hs ht es et ps pt' hi hk c1 c2
   have qo:=ab4 hs ht i k
   have wq:Wf (toA (Qp i k (pt i s) (pt k t))):=nD qo (.inr qp.2)
   have k0: -K < (0:Int)∧(0:Int) < K:=by omega
   have r0:=rng2 lf h3 k0 k0
   have J:=uO lf h3 wo wq
   rw[brF,brF,if_neg (by simp),if_neg (by simp),jo.f,i0,r0,bdS,bdS]
   by_cases z:i=1∨k=1
   ·have eq:Qp i k (pt i s) (pt k t)=⟨.fin 0,.fin 0⟩:=by unfold Qp;rw[if_pos z]
    rw[eq]at J⊢
    by_cases z1:i=1
    ·subst z1
     rw[show((((1:Nat):Int)) != 1)=false from rfl,brF,J,bdS];rfl
    ·have z2:=z.resolve_left z1
     subst z2
     rw[show(((i:Nat):Int) != 1)=true by simp only[bne_iff_ne,ne_eq];omega,brT,show((((1:Nat):Int)) != 1)=false from rfl,brF,J,bdS];rfl
   ·have hi':i=0∨i=2:=by omega
    have hk':k=0∨k=2:=by omega
    obtain⟨a,a1,a2,a3⟩:=afH lf h3 hs ps hi' c1
    obtain⟨b,b1,b2,b3⟩:=afH lf h3 ht pt' hk' c2
    have pr:=ait lf h3 a2 b2
    rw[a3,b3]at pr
    have eq:=ams (s:=s) (t:=t) hi' hk'
    rw[show(((i:Nat):Int) != 1)=true by simp only[bne_iff_ne,ne_eq];omega,brT,show(((k:Nat):Int) != 1)=true by simp only[bne_iff_ne,ne_eq];omega,brT,a1,bdS,b1,bdS,pr,bdS]
    by_cases ik:i=k
    ·rw[if_pos ik]at eq
     rw[show(((i:Nat):Int) !=((k:Nat):Int))=false by simp only[bne_eq_false_iff_eq];omega,brF]
     rw[eq]at J⊢
     rw[J,bdS];rfl
    ·rw[if_neg ik]at eq
     have tt:toA (turn (ofA (toA (prS (pp i s) (pp k t)))))=toA (Qp i k (pt i s) (pt k t)):=by
      have en:emp (prS (pp i s) (pp k t))=false:=by
       have:=of_decide_eq_false qp.1
       rw[eq]at this
       simp only[lm]at this
       exact decide_eq_false (by omega)
      rw[eq]at qo qp
      have o1:∀ {x:X},okx K (xneg x)→okx K x:=fun {x} h=>by have:=aaJ h;rwa [qX]at this
      have n1:(prS (pp i s) (pp k t)).lo≠.pi:=fun e=>by
       apply qp.2.2;simp only;rw[e];rfl
      have n2:(prS (pp i s) (pp k t)).hi≠.ni:=fun e=>by
       apply qp.2.1;simp only;rw[e];rfl
      rw[aj0 ⟨o1 qo.2,o1 qo.1⟩ en n1 n2,eq]
     have wpr:Wf (toA (prS (pp i s) (pp k t))):=by
      rw[eq]at qo qp
      have o1:∀ {x:X},okx K (xneg x)→okx K x:=fun {x} h=>by have:=aaJ h;rwa [qX]at this
      have n1:(prS (pp i s) (pp k t)).lo≠.pi:=fun e=>by
       apply qp.2.2;simp only;rw[e];rfl
      have n2:(prS (pp i s) (pp k t)).hi≠.ni:=fun e=>by
       apply qp.2.1;simp only;rw[e];rfl
      exact nD ⟨o1 qo.2,o1 qo.1⟩ (.inr ⟨n1,n2⟩)
     have tr:=pO lf h3 wpr
     rw[tt]at tr
     rw[show(((i:Nat):Int) !=((k:Nat):Int))=true by simp only[bne_iff_ne,ne_eq];omega,brT,tr,bdS,J,bdS];rfl
theorem ami{out:A}(wo:Wf out){p:Nat×Nat}(h1:p.1 < 3)(h2:p.2 < 3):Wf (stA s t out p):=by
 unfold stA
 split
 ·exact wo
 ·split
  ·exact wo
  ·rename_i c1 c2
   have es:=ahp hs (by simpa using c1)
   have et:=ahp ht (by simpa using c2)
   have qp:=aiH hs ht es et ps pt' h1 h2 (by simpa using c1) (by simpa using c2)
   have qo:=ab4 hs ht p.1 p.2
   have wq:Wf (toA (Qp p.1 p.2 (pt p.1 s) (pt p.2 t))):=nD qo (.inr qp.2)
   refine nD (jc wo.okK wq.okK) ?_
   by_cases e1:emp (ofA out)=true
   ·rcases wq.pr with h | h
    ·left;unfold hull;rw[if_pos e1];exact h
    ·right;unfold hull;rw[if_pos e1];exact h
   ·by_cases e2:emp (ofA (toA (Qp p.1 p.2 (pt p.1 s) (pt p.2 t))))=true
    ·rcases wo.pr with h | h
     ·exact absurd h e1
     ·right;unfold hull;rw[if_neg e1,if_pos e2];exact h
    ·right
     have x':=wo.pr.resolve_left e1
     have y':=wq.pr.resolve_left e2
     rw[hullNE (by simpa using e1) (by simpa using e2)]
     constructor
     ·simp only;rcases aaI (ofA out).lo (ofA (toA (Qp p.1 p.2 (pt p.1 s) (pt p.2 t)))).lo with g | g<;>rw[g]
      ·exact x'.1
      ·exact y'.1
     ·simp only;rcases aaH (ofA out).hi (ofA (toA (Qp p.1 p.2 (pt p.1 s) (pt p.2 t)))).hi with g | g<;>rw[g]
      ·exact x'.2
      ·exact y'.2
def sv(s:Sp):List IV:=[ac (toA (negS s)),ac (toA (zerS s)),ac (toA (posS s))]
omit h3 hs ht ps pt' in
theorem als(s:Sp){i:Nat}(hi:i < 3):idxL (sv s) ((i:Nat):Int)=some (ac (toA (pt i s))):=by
 rcases i3 hi with rfl | rfl | rfl<;>rfl
theorem amm(b4:Bool)(b5 b6:ByteArray){i:Nat}(hi:i < 3):∀ (d n k:Nat) (out:A),k+d=3→d < n→Wf out→
  ∃ o,cO.l1 lf (sv s) (sv t) ((i:Nat):Int) b4 b5 b6 n ((k:Nat):Int) out.em (ob out.lo) (ob out.hi)=some ((o.em,ob o.lo,ob o.hi,()),())∧Wf o∧o=((List.range' k d).map fun k=>(i,k)).foldl (stA s t) out:=by
 intro d
 induction d with
 | zero =>
  intro n k out hk hn wo
  obtain⟨m,rfl⟩:=Nat.exists_eq_succ_of_ne_zero (show n≠0 by omega)
  refine⟨out,?_,wo,rfl⟩
  rw[cO.l1,cO.r1,decide_eq_false (by omega),brF]
 | succ d ih =>
  intro n k out hk hn wo
  obtain⟨m,rfl⟩:=Nat.exists_eq_succ_of_ne_zero (show n≠0 by omega)
  obtain⟨o,o1,o2,o3⟩:=ih m (k+1) (stA s t out (i,k)) (by omega) (by omega) (ami lf h3 hs ht ps pt' wo hi (show k < 3 by omega))
  refine⟨o,?_,o2,?_⟩
  ·rw[cO.l1,ajY lf h3 hs ht ps pt' (sv s) (sv t) b4 b5 b6 hi (show k < 3 by omega) (als s hi) (als t (show k < 3 by omega)) out wo]
   exact o1
  ·rw[o3,List.range'_succ,List.map_cons,List.foldl_cons]
theorem aml(b4:Bool)(b5 b6:ByteArray):∀ (d n i:Nat) (out:A),i+d=3→d < n→Wf out→
  ∃ o,cO.l0 lf (sv s) (sv t) b4 b5 b6 n ((i:Nat):Int) out.em (ob out.lo) (ob out.hi)=some ((o.em,ob o.lo,ob o.hi,()),())∧o=((List.range' i d).flatMap fun i=>(List.range' 0 3).map fun k=>(i,k)).foldl (stA s t) out:=by
 intro d
 induction d with
 | zero =>
  intro n i out hk hn wo
  obtain⟨m,rfl⟩:=Nat.exists_eq_succ_of_ne_zero (show n≠0 by omega)
  refine⟨out,?_,rfl⟩
  rw[cO.l0,cO.r0,decide_eq_false (by omega),brF]
 | succ d ih =>
  intro n i out hk hn wo
  obtain⟨m,rfl⟩:=Nat.exists_eq_succ_of_ne_zero (show n≠0 by omega)
  obtain⟨p,p1,p2,p3⟩:=amm lf h3 hs ht ps pt' b4 b5 b6 (show i < 3 by omega) 3 (lf+40) 0 out (by omega) (by omega) wo
  obtain⟨o,o1,o3⟩:=ih m (i+1) p (by omega) (by omega) p2
  have e5:i64.wrap (((i:Nat):Int)+1)=((i+1:Nat):Int):=by rw[w64 (by omega) (by omega)];omega
  refine⟨o,?_,?_⟩
  ·rw[show((0:Nat):Int)=0 from rfl]at p1
   rw[cO.l0,cO.r0,decide_eq_true (by omega),brT,p1,bdS,e5]
   exact o1
  ·rw[o3,p3,List.range'_succ (s:=i) (n:=d),List.flatMap_cons,List.foldl_append]
end
theorem amr:Wf E0:=rW▸nD iY (.inl gU)
theorem ak5(lf:Nat)(h3:200000≤lf){a b:A}(ha:Wf a)(hb:Wf b):cO.f lf (ac a) (ac b)=some (ac (toA (apS xmul (ofA a) (ofA b))),()):=by
 have hs:=ha.okC
 have ht:=hb.okC
 obtain⟨o,o1,o2⟩:=aml lf h3 hs ht ha.pr hb.pr false (⟨#[]⟩:ByteArray) (⟨#[]⟩:ByteArray) 3 (lf+40) 0 E0 (by omega) (by omega) amr
 have e:((List.range' 0 3).flatMap fun i=>(List.range' 0 3).map fun k=>(i,k))=prs:=by decide
 rw[e]at o2
 have fin:prs.foldl (stA (ofA a) (ofA b)) E0=toA (apS xmul (ofA a) (ofA b)):=by
  cases es:emp (ofA a)with
  | true=>exact afh (.inl es) hs ht
  | false=>cases et:emp (ofA b)with
   | true=>exact afh (.inr et) hs ht
   | false=>exact aiZ hs ht es et ha.pr hb.pr
 rw[fin]at o2
 rw[cO.f,aA.f,bdS,abW lf h3 ha,bdS,abW lf h3 hb,bdS]
 have o1':cO.l0 lf (sv (ofA a)) (sv (ofA b)) false (⟨#[]⟩:ByteArray) (⟨#[]⟩:ByteArray) (lf+40) 0 true (⟨#[]⟩:ByteArray) (⟨#[]⟩:ByteArray)=some ((o.em,ob o.lo,ob o.hi,()),()):=o1
 rw[show([ac (toA (negS (ofA a))),ac (toA (zerS (ofA a))),ac (toA (posS (ofA a)))]:List IV)=sv (ofA a) from rfl,show([ac (toA (negS (ofA b))),ac (toA (zerS (ofA b))),ac (toA (posS (ofA b)))]:List IV)=sv (ofA b) from rfl]
 simp only[o1',bdS]
 rw[o2]
 rfl
def opS(op:Int)(s t:Sp):Sp:=if op=3 then addS s t else if op=4 then addS s (turn t)else if op=5 then apS xmul s t else if op=6 then quoS s t else remS s t
theorem op3{op:Int}(h:3≤op∧op≤7):op=3∨op=4∨op=5∨op=6∨op=7:=by omega
end Go.N
namespace Go.N
open Go Go.Q Go.Rx
theorem uM{x y q r:Int}(h:x=y*q+r)(hy:0 < y)(h0:0≤r)(h1:r < y)(hx:0≤x):Int.gcd y r=Int.gcd x y:=by
 have e:r=x % y:=by rw[h,Int.mul_add_emod_self_left];exact(Int.emod_eq_of_lt h0 h1).symm
 obtain⟨a,rfl⟩:=Int.eq_ofNat_of_zero_le hx
 obtain⟨b,rfl⟩:=Int.eq_ofNat_of_zero_le (Int.le_of_lt hy)
 have e':r=((a % b:Nat):Int):=by rw[e];rfl
 rw[e',Int.gcd_natCast_natCast,Int.gcd_natCast_natCast,Nat.gcd_comm a b,Nat.gcd_rec b a,Nat.gcd_comm]
theorem adk(lf:Nat)(hlf:2000000000≤lf):∀ (k n:Nat) (xs ys:List Int),lv G ys≤k→k < n→Dg G xs→Dg G ys→Tr xs→Tr ys→xs.length≤40000→ys.length≤40000→
  ∃ r,gQ.l0 lf n xs ys=some ((r,()),())∧Dg G r∧Tr r∧r.length≤max xs.length ys.length∧lv G r=(Int.gcd (lv G xs) (lv G ys):Int):=by
 intro k
 induction k with
 | zero =>
  intro n xs ys hk hn hx hy tx ty lx ly
  obtain⟨m,rfl⟩:=Nat.exists_eq_succ_of_ne_zero (show n≠0 by omega)
  have y0:=cZ (B:=G) (by decide) hy
  have x0:=cZ (B:=G) (by decide) hx
  have:ys=[]:=(zM (B:=G) (by decide) hy ty).1 (by omega)
  subst this
  refine⟨xs,?_,hx,tx,by omega,?_⟩
  ·rw[gQ.l0,gQ.r0,decide_eq_false (by simp),brF]
  ·rw[show lv G []=0 from rfl,Int.gcd_zero_right];omega
 | succ k ih =>
  intro n xs ys hk hn hx hy tx ty lx ly
  obtain⟨m,rfl⟩:=Nat.exists_eq_succ_of_ne_zero (show n≠0 by omega)
  have x0:=cZ (B:=G) (by decide) hx
  by_cases h:ys=[]
  ·subst h
   refine⟨xs,?_,hx,tx,by omega,?_⟩
   ·rw[gQ.l0,gQ.r0,decide_eq_false (by simp),brF]
   ·rw[show lv G []=0 from rfl,Int.gcd_zero_right];omega
  ·obtain⟨Q,R,e,dq,tq,dr,tr',val,lt⟩:=aaf lf xs ys hx hy tx ty h (by omega) (by omega) hlf
   have yp:=uP (B:=G) (by decide) hy ty h
   have R0:=cZ (B:=G) (by decide) dr
   have lR:R.length≤ys.length:=by
    by_cases z:R.length≤ys.length
    ·exact z
    ·have:=nY (B:=G) (by decide) hy dr tr' (by omega);omega
   obtain⟨r,r1,r2,r3,r4,r5⟩:=ih m ys R (by omega) (by omega) hy dr ty tr' ly (by omega)
   refine⟨r,?_,r2,r3,by omega,?_⟩
   ·have:0 < ys.length:=List.length_pos_iff.2 h
    rw[gQ.l0,gQ.r0,decide_eq_true (by omega),brT,e,bdS]
    exact r1
   ·rw[r5,uM val yp R0 lt x0]
def Big(lf:Nat):Prop:=2000000000≤lf∧K < (lf:Int)
theorem amD(lf:Nat)(hb:Big lf){x y:Int}(hx: -K < x∧x < K)(hy: -K < y∧y < K):uG.f lf (bs (Lib.itoa x)) (bs (Lib.itoa y))=some (bs (Lib.itoa (Int.gcd x y)),0,()):=by
 obtain⟨hlf,hK⟩:=hb
 obtain⟨p,q,e,k1,k2,_⟩:=xA lf _ _ (chkK hx) (chkK hy) (by omega)
 rw[dX]at k1 k2
 have vx:lv G p.2.1=(x.natAbs:Int):=by
  have:=k1.val
  have:=cZ (B:=G) (by decide) k1.dg
  split at*<;> omega
 have vy:lv G q.2.1=(y.natAbs:Int):=by
  have:=k2.val
  have:=cZ (B:=G) (by decide) k2.dg
  split at*<;> omega
 obtain⟨r,r1,r2,r3,r4,r5⟩:=adk lf hlf (lf+39) (lf+40) p.2.1 q.2.1 (by omega) (by omega) k1.dg k2.dg k1.tr k2.tr (by have:=k1.len;omega) (by have:=k2.len;omega)
 rw[vx,vy]at r5
 have g:(Int.gcd (x.natAbs:Int) (y.natAbs:Int):Int)=(Int.gcd x y:Int):=by
  rw[Int.gcd_natCast_natCast];rfl
 have rn:RN (false,r,()) (Int.gcd x y) 4096:=⟨r2,r3,by have:=k1.len;have:=k2.len;simp only;omega,by simp only[Bool.false_eq_true,if_false];rw[r5,g]⟩
 rw[uG.f,e,bdS]
 simp only[bne_self_eq_false,brF]
 rw[gQ.f,r1,bdS,bdS,xu lf rn (by omega) (by omega),bdS]
theorem qK(lf:Nat)(z:Int):bY.f lf (bs (Lib.itoa z))=some (bs (Lib.itoa (z.natAbs:Int)),()):=by
 rw[bY.f,kD lf _ (kE z),bdS]
 simp only
 rw[yC]
 have e':Lib.itoa (z.natAbs:Int)=D z.natAbs:=by unfold Lib.itoa;rw[if_neg (by omega)];rfl
 rw[e']
 by_cases hn:z < 0
 ·have e:Lib.itoa z=45::D z.natAbs:=by unfold Lib.itoa;rw[if_pos hn]
  rw[decide_eq_true hn,brT,e,wG (45::D z.natAbs) 1 1 rfl (by simp),bdS]
  rfl
 ·have e:Lib.itoa z=D z.natAbs:=by unfold Lib.itoa;rw[if_neg hn];congr 1;omega
  rw[decide_eq_false hn,brF,e]
theorem i0':Lib.itoa 0=[48]:=by unfold Lib.itoa;rw[if_neg (by omega)];exact pG
theorem beq0(z:Int):((bs (Lib.itoa z)).toList==(⟨#[48]⟩:ByteArray).toList)=decide (z=0):=by
 rw[show(⟨#[48]⟩:ByteArray)=bs [48] from rfl,kG,←i0']
 simp only[decide_eq_decide]
 exact⟨fun e=>nX e,fun e=>by rw[e]⟩
theorem agA(lf:Nat)(h3:200000≤lf):∀ (k n:Nat) (x y:Int),0≤x→0≤y→y≤k→k < n→sz x≤20000→sz y≤20000→
  bg.l0 lf n (bs (Lib.itoa x)) (bs (Lib.itoa y))=some ((bs (Lib.itoa (Int.gcd x y)),()),()):=by
 intro k
 induction k with
 | zero =>
  intro n x y x0 y0 hk hn sx sy
  obtain⟨m,rfl⟩:=Nat.exists_eq_succ_of_ne_zero (show n≠0 by omega)
  obtain rfl:y=0:=by omega
  rw[bg.l0,bg.r0,beq0,decide_eq_true rfl,Bool.not_true,brF,Int.gcd_zero_right,show((x.natAbs:Nat):Int)=x by omega]
 | succ k ih =>
  intro n x y x0 y0 hk hn sx sy
  obtain⟨m,rfl⟩:=Nat.exists_eq_succ_of_ne_zero (show n≠0 by omega)
  rw[bg.l0,bg.r0,beq0]
  by_cases h:y=0
  ·subst h
   rw[decide_eq_true rfl,Bool.not_true,brF,Int.gcd_zero_right,show((x.natAbs:Nat):Int)=x by omega]
  ·have m1:=Int.mul_fdiv_add_fmod x y
   have a:=Int.fmod_nonneg_of_pos x (show 0 < y by omega)
   have b:=Int.fmod_lt_of_pos x (show 0 < y by omega)
   have sr:sz (x.fmod y)≤20000:=by
    have:=vN sy (by omega)
    exact aaD (by omega) (by omega)
   rw[decide_eq_false h,Bool.not_false,brT,tZ lf h3 sx sy h,bdS]
   have:=ih m y (x.fmod y) (by omega) a (by omega) (by omega) sy sr
   rw[uM m1.symm (by omega) a b x0]at this
   exact this
theorem qP(lf:Nat)(hb:Big lf){x y:Int}(hx: -K < x∧x < K)(hy: -K < y∧y < K):bg.f lf (bs (Lib.itoa x)) (bs (Lib.itoa y))=some (bs (Lib.itoa (Int.gcd x y)),()):=by
 obtain⟨hlf,hK⟩:=hb
 have sx:=(sz_K (x.natAbs:Int)).2 (by omega)
 have sy:=(sz_K (y.natAbs:Int)).2 (by omega)
 rw[bg.f,qK,bdS,qK,bdS,agA lf (by omega) (lf+39) (lf+40) _ _ (by omega) (by omega) (by omega) (by omega) (by omega) (by omega),bdS]
 have g:(Int.gcd (x.natAbs:Int) (y.natAbs:Int))=Int.gcd x y:=by rw[Int.gcd_natCast_natCast];rfl
 rw[g]
end Go.N
namespace Go.N
open Go Go.Q Go.Rx
def ckc(em:Bool)(l h:List UInt8):Int :=
 if em=true then(if l≠[]∨h≠[]then 3 else 0)else if num l≠0 then num l else if num h≠0 then num h else if iv l < 0∨(iv l≠0∧(iv h < 0∨¬iv h < iv l))then 2 else 0
theorem alq(lf:Nat)(l:List UInt8)(hl:l.length≤9223372036854775807)(hf:l.length≤lf):jG.f lf (bs l)=some (num l,()):=by
 rw[jG.f,ai0 lf l hl hf,bdS]
 unfold num chk
 cases hc:can l with
 | false=>simp[brT]
 | true =>
  simp only[Bool.not_true,brF,if_true]
  rw[qU lf l (lS hc).2.2 hl,bdS]
  by_cases h:nlen l > 100
  ·rw[decide_eq_true (by omega),brT]
   by_cases h2:nlen l > 4096
   ·rw[if_pos h2];rfl
   ·rw[if_neg h2,if_neg (by simp),if_pos h]
  ·rw[decide_eq_false (by omega),brF,if_neg (show ¬nlen l > 4096 by omega),if_neg (by simp),if_neg h]
theorem ajc(lf:Nat)(l:List UInt8)(hl:l.length≤9223372036854775807):iG.f lf (bs l)=some (decide (nlen l > 100),()):=by
 have:=abQ l
 rw[iG.f,rY,bdS,jB]
 congr 2
 simp only[decide_eq_decide];unfold nlen;omega
theorem numC(lf:Nat)(l:List UInt8)(hl:l.length≤9223372036854775807):kQ.f lf (bs l)=some (num l,()):=by
 rw[kQ.f,uZ lf l hl,bdS]
 simp only[ajc lf l hl,bdS]
 unfold num
 by_cases h:chk l=0
 ·rw[h]
  simp only[show((0:Int)==10)=false from rfl,brF,BEq.rfl,brT,bne_self_eq_false,ne_eq,not_true,if_false]
  by_cases h2:nlen l > 100
  ·rw[decide_eq_true h2,brT,if_pos h2]
  ·rw[decide_eq_false h2,brF,if_neg h2]
 ·rw[if_pos h,show(chk l==0)=false from beq_eq_false_iff_ne.2 h,brF,bneT h,brT]
  by_cases h2:chk l=10
  ·rw[h2,BEq.rfl,brT]
  ·rw[show(chk l==10)=false from beq_eq_false_iff_ne.2 h2,brF]
theorem acA(lf:Nat)(l m:List UInt8)(h1:chk l=0)(h2:chk m=0)(h3:200000≤lf):iF.f lf (bs l) (bs m)=some (decide (iv l < iv m),()):=by
 rw[iF.f,aaT lf l m h1 h2 h3,bdS]
 simp only
 rw[nK.f,bdS]
 congr 2
 simp only[decide_eq_decide];unfold sgn;(repeat' split)<;>omega
theorem alh(lf:Nat)(h3:200000≤lf)(em:Bool)(l h:List UInt8)(hl:l.length≤9223372036854775807)(hh:h.length≤9223372036854775807):fD.f lf (em,bs l,bs h,())=some (ckc em l h,()):=by
 rw[fD.f]
 simp only[e0,kG,numC lf l hl,numC lf h hh,bdS]
 unfold ckc
 cases em with
 | true =>
  rw[brT,if_pos rfl]
  by_cases c1:l=[]<;>by_cases c2:h=[]<;>simp[c1,c2,brT,brF]
 | false =>
  rw[brF,if_neg (by simp)]
  by_cases c1:num l=0
  ·rw[c1,bne_self_eq_false,brF,if_neg (by simp)]
   by_cases c2:num h=0
   ·rw[c2,bne_self_eq_false,brF,if_neg (by simp)]
    have k1:=zf c1
    have k2:=zf c2
    have z:(⟨#[48]⟩:ByteArray)=bs [48]:=rfl
    rw[z,acA lf l [48] k1 agU h3,bdS,acA lf h [48] k2 agU h3,acA lf h l k2 k1 h3,iv48]
    simp only[bdS]
    have e:l=[48]↔iv l=0:=(abN (nR.1 k1).1).symm
    by_cases a:iv l < 0
    ·rw[decide_eq_true a,brT,if_pos (.inl a)]
    ·rw[decide_eq_false a,brF]
     by_cases b:iv l=0
     ·rw[decide_eq_true (e.2 b),Bool.not_true,brF,if_neg (by omega)]
     ·rw[decide_eq_false (fun x=>b (e.1 x)),Bool.not_false,brT]
      by_cases c:iv h < 0
      ·rw[decide_eq_true c,brT,if_pos (.inr ⟨b,.inl c⟩)]
      ·rw[decide_eq_false c,brF]
       by_cases d:iv h < iv l
       ·rw[decide_eq_true d,Bool.not_true,brF,if_neg (by omega)]
       ·rw[decide_eq_false d,Bool.not_false,brT,if_pos (.inr ⟨b,.inr d⟩)]
   ·rw[bneT c2,brT,if_pos c2]
  ·rw[bneT c1,brT,if_pos c1]
theorem agV(lf:Nat)(h3:200000≤lf)(em:Bool)(l h:List UInt8)(hl:l.length≤9223372036854775807)(hh:h.length≤9223372036854775807)(fl:l.length≤lf)(fh:h.length≤lf):jU.f lf (em,bs l,bs h,())=some (ckc em l h,()):=by
 rw[jU.f]
 simp only[e0,kG,alq lf l hl fl,alq lf h hh fh,bdS]
 unfold ckc
 cases em with
 | true =>
  rw[brT,if_pos rfl]
  by_cases c1:l=[]<;>by_cases c2:h=[]<;>simp[c1,c2,brT,brF]
 | false =>
  rw[brF,if_neg (by simp)]
  by_cases c1:num l=0
  ·rw[c1,bne_self_eq_false,brF,if_neg (by simp)]
   by_cases c2:num h=0
   ·rw[c2,bne_self_eq_false,brF,if_neg (by simp)]
    have k1:=zf c1
    have k2:=zf c2
    have l1:=xw c1
    have l2:=xw c2
    have z:(⟨#[48]⟩:ByteArray)=bs [48]:=rfl
    rw[yE lf l (nR.1 k1).1,bdS,yE lf h (nR.1 k2).1,agr lf h l (nR.1 k2).1 (nR.1 k1).1 (by omega) (by omega) h3]
    simp only[bdS,ahJ]
    have e:l=[48]↔iv l=0:=(abN (nR.1 k1).1).symm
    by_cases a:iv l < 0
    ·rw[decide_eq_true a,brT,if_pos (.inl a)]
    ·rw[decide_eq_false a,brF]
     by_cases b:iv l=0
     ·rw[decide_eq_true (e.2 b),Bool.not_true,brF,if_neg (by omega)]
     ·rw[decide_eq_false (fun x=>b (e.1 x)),Bool.not_false,brT]
      by_cases c:iv h < 0
      ·rw[decide_eq_true c,brT,if_pos (.inr ⟨b,.inl c⟩)]
      ·rw[decide_eq_false c,brF]
       by_cases d:iv h < iv l
       ·rw[decide_eq_true d,Bool.not_true,brF,if_neg (by omega)]
       ·rw[decide_eq_false d,Bool.not_false,brT,if_pos (.inr ⟨b,.inr d⟩)]
   ·rw[bneT c2,brT,if_pos c2]
  ·rw[bneT c1,brT,if_pos c1]
structure Cg where
 em:Bool
 m:Int
 r:Int
deriving DecidableEq
def cc(c:Cg):IV:=if c.em=true then(true,bs [],bs [],())else(false,bs (Lib.itoa c.m),bs (Lib.itoa c.r),())
structure WfC(c:Cg):Prop where
 m: -C < c.m∧c.m < C
 r: -C < c.r∧c.r < C
 pos:0≤c.m
 rng:c.m≠0→0≤c.r∧c.r < c.m
def Ec:Cg:=⟨true,0,0⟩
def topC:Cg:=⟨false,1,0⟩
theorem alI{em:Bool}{l h:List UInt8}(hc:ckc em l h=0):∃ c:Cg,((em,bs l,bs h,()):IV)=cc c∧WfC c:=by
 have hC:=C_gt
 unfold ckc at hc
 cases em with
 | true =>
  rw[if_pos rfl]at hc
  have:¬(l≠[]∨h≠[]):=fun x=>by rw[if_pos x]at hc;cases hc
  have l0:l=[]:=by simpa using fun x=>this (.inl x)
  have h0:h=[]:=by simpa using fun x=>this (.inr x)
  subst l0 h0
  exact⟨Ec,rfl,⟨by simp only[Ec];omega,by simp only[Ec];omega,by simp[Ec],fun x=>absurd rfl x⟩⟩
 | false =>
  rw[if_neg (by simp)]at hc
  by_cases c1:num l=0
  ·rw[if_neg (by simp[c1])]at hc
   by_cases c2:num h=0
   ·rw[if_neg (by simp[c2])]at hc
    have n:¬(iv l < 0∨(iv l≠0∧(iv h < 0∨¬iv h < iv l))):=fun x=>by rw[if_pos x]at hc;cases hc
    have i1:=aam (rO.1 c1).1
    have i2:=aam (rO.1 c2).1
    refine⟨⟨false,iv l,iv h⟩,by unfold cc;rw[if_neg (by simp)];simp only;rw[←i1,←i2],?_⟩
    rw[i1,vZ]at c1
    rw[i2,vZ]at c2
    exact⟨c1,c2,by simp only;omega,fun x=>by simp only at x⊢;omega⟩
   ·rw[if_pos c2]at hc;exact absurd hc c2
  ·rw[if_pos c1]at hc;exact absurd hc c1
def clsF(m r:Int):Cg :=
 if sz (m.natAbs:Int) > 100∨sz (if m=0 then r else r.fmod (m.natAbs:Int)) > 100 then topC else⟨false,(m.natAbs:Int),if m=0 then r else r.fmod (m.natAbs:Int)⟩
theorem longI(lf:Nat){z:Int}(hz: -K < z∧z < K):iG.f lf (bs (Lib.itoa z))=some (decide (sz z > 100),()):=by
 have:=rP hz
 rw[ajc lf _ (by omega)];rfl
theorem amu(lf:Nat){z:Int}(hz: -K < z∧z < K):uF.f lf (bs (Lib.itoa z))=some (bs (Lib.itoa (z.natAbs:Int)),0,()):=by
 have:=rP hz
 rw[uF.f,uZ lf _ (by omega),bdS]
 simp only[chkK hz,bne_self_eq_false,brF]
 rw[rY,bdS,aaL]
 have e':Lib.itoa (z.natAbs:Int)=D z.natAbs:=by unfold Lib.itoa;rw[if_neg (by omega)];rfl
 rw[e']
theorem ahO:((false,(⟨#[49]⟩:ByteArray),(⟨#[48]⟩:ByteArray),()):IV)=cc topC:=by
 unfold cc topC;rw[if_neg (by simp)];simp only;rw[i1,i0]
theorem yD{x m:Int}(hx: -K < x∧x < K)(hm: -K < m∧m < K)(h0:m≠0): -K < x.fmod m∧x.fmod m < K:=by
 have:=ack (x:=x) h0
 omega
theorem wR(lf:Nat)(hlf:2000000000≤lf){m r:Int}(hm: -K < m∧m < K)(hr: -K < r∧r < K):dm.f lf (bs (Lib.itoa m)) (bs (Lib.itoa r))=some (cc (clsF m r),()):=by
 have ha: -K < (m.natAbs:Int)∧(m.natAbs:Int) < K:=by omega
 rw[dm.f,amu lf hm,bdS]
 simp only[gY.f,bdS,beq0,longI lf ha,iU.f,ahO]
 unfold clsF
 by_cases h:m=0
 ·subst h
  simp only[longI lf hr,bdS]
  rw[decide_eq_true (by trivial),Bool.not_true,brF]
  by_cases c1:sz ((0:Int).natAbs:Int) > 100
  ·rw[decide_eq_true c1,brT,if_pos (.inl c1)]
  ·rw[decide_eq_false c1,brF]
   by_cases c2:sz r > 100
   ·rw[decide_eq_true c2,brT,if_pos (.inr (by rw[if_pos trivial];exact c2))]
   ·rw[decide_eq_false c2,brF,if_neg (by rw[if_pos trivial];exact fun x=>x.elim c1 c2),if_pos trivial]
    unfold cc;rw[if_neg (by simp)]
 ·have h':(m.natAbs:Int)≠0:=by omega
  have rk:=yD hr ha h'
  simp only[oq lf hlf hr ha h',bdS,longI lf rk]
  rw[decide_eq_false h',Bool.not_false,brT]
  by_cases c1:sz (m.natAbs:Int) > 100
  ·rw[decide_eq_true c1,brT,if_pos (.inl c1)]
  ·rw[decide_eq_false c1,brF]
   by_cases c2:sz (r.fmod (m.natAbs:Int)) > 100
   ·rw[decide_eq_true c2,brT,if_pos (.inr (by rw[if_neg h];exact c2))]
   ·rw[decide_eq_false c2,brF,if_neg (by rw[if_neg h];exact fun x=>x.elim c1 c2),if_neg h]
    unfold cc;rw[if_neg (by simp)]
theorem ad8(lf:Nat){z:Int}(hz: -K < z∧z < K):bn.f lf (bs (Lib.itoa z))=some ((sz z:Int),()):=by
 have:=rP hz
 exact qU lf _ (kE z) (by omega)
theorem ai4(n:Nat):decide (((n:Nat):Int) > 100)=decide (n > 100):=by simp only[decide_eq_decide];omega
theorem pX(lf:Nat)(h3:200000≤lf){m r:Int}(hm: -K < m∧m < K)(hr: -K < r∧r < K):bJ.f lf (bs (Lib.itoa m)) (bs (Lib.itoa r))=some (cc (clsF m r),()):=by
 have ha: -K < (m.natAbs:Int)∧(m.natAbs:Int) < K:=by omega
 rw[bJ.f,qK,bdS]
 simp only[beq0,ad8 lf ha,bdS,dO.f,ahO,ai4]
 unfold clsF
 by_cases h:m=0
 ·subst h
  simp only[ad8 lf hr,bdS,ai4]
  rw[decide_eq_true (by trivial),Bool.not_true,brF]
  by_cases c1:sz ((0:Int).natAbs:Int) > 100
  ·rw[decide_eq_true c1,brT,if_pos (.inl c1)]
  ·rw[decide_eq_false c1,brF]
   by_cases c2:sz r > 100
   ·rw[decide_eq_true c2,brT,if_pos (.inr (by rw[if_pos trivial];exact c2))]
   ·rw[decide_eq_false c2,brF,if_neg (by rw[if_pos trivial];exact fun x=>x.elim c1 c2),if_pos trivial]
    unfold cc;rw[if_neg (by simp)]
 ·have h':(m.natAbs:Int)≠0:=by omega
  have rk:=yD hr ha h'
  have s1:=szK hr
  have s2:=szK ha
  simp only[tZ lf h3 (x:=r) (y:=(m.natAbs:Int)) (by omega) (by omega) h',bdS,ad8 lf rk,ai4]
  rw[decide_eq_false h,Bool.not_false,brT]
  by_cases c1:sz (m.natAbs:Int) > 100
  ·rw[decide_eq_true c1,brT,if_pos (.inl c1)]
  ·rw[decide_eq_false c1,brF]
   by_cases c2:sz (r.fmod (m.natAbs:Int)) > 100
   ·rw[decide_eq_true c2,brT,if_pos (.inr (by rw[if_neg h];exact c2))]
   ·rw[decide_eq_false c2,brF,if_neg (by rw[if_neg h];exact fun x=>x.elim c1 c2),if_neg h]
    unfold cc;rw[if_neg (by simp)]
def dvd'(m a:Int):Bool:=if m=0 then decide (a=0)else decide (a.fmod m=0)
theorem vU(lf:Nat)(hlf:2000000000≤lf){m a:Int}(hm: -K < m∧m < K)(ha: -K < a∧a < K):eX.f lf (bs (Lib.itoa m)) (bs (Lib.itoa a))=some (dvd' m a,()):=by
 rw[eX.f,beq0]
 unfold dvd'
 by_cases h:m=0
 ·rw[decide_eq_true h,brT,if_pos h,beq0]
 ·rw[decide_eq_false h,brF,if_neg h,oq lf hlf ha hm h,bdS,gY.f,bdS,beq0]
theorem vk(lf:Nat)(h3:200000≤lf){m a:Int}(hm:sz m≤20000)(ha:sz a≤20000):dU.f lf (bs (Lib.itoa m)) (bs (Lib.itoa a))=some (dvd' m a,()):=by
 rw[dU.f,beq0]
 unfold dvd'
 by_cases h:m=0
 ·rw[decide_eq_true h,brT,if_pos h,beq0]
 ·rw[decide_eq_false h,brF,if_neg h,tZ lf h3 ha hm h,bdS,beq0]
end Go.N
namespace Go.N
open Go Go.Q Go.Rx
theorem qy{k x y:Int}(hx: -k < x∧x < k)(hy: -k < y∧y < k): -k < (Int.gcd x y:Int)∧(Int.gcd x y:Int) < k:=by
 by_cases h:x=0
 ·subst h;rw[Int.gcd_zero_left];omega
 ·have:=Nat.gcd_le_left y.natAbs (show 0 < x.natAbs by omega)
  have e:Int.gcd x y=Nat.gcd x.natAbs y.natAbs:=rfl
  omega
section
variable (lf:Nat)(hb:Big lf)
include hb
theorem zJ{x y:Int}(hx: -K < x∧x < K)(hy: -K < y∧y < K):dM.f lf (bs (Lib.itoa x)) (bs (Lib.itoa y))=some (bs (Lib.itoa (Int.gcd x y)),()):=by
 rw[dM.f,amD lf hb hx hy,bdS,gY.f,bdS]
theorem acg{x y:Int}(hx: -K < x∧x < K)(hy: -K < y∧y < K)(h: -K < x-y∧x-y < K):gJ.f lf (bs (Lib.itoa x)) (bs (Lib.itoa y))=some (bs (Lib.itoa (x-y)),()):=by
 have:=(sz_K (x-y)).2 h
 rw[gJ.f,ajT lf _ _ (chkK hx) (chkK hy) (by have:=hb.1;omega),dX,dX,uj,if_neg (by omega),bdS,gY.f,bdS]
theorem aiM{x y:Int}(hx: -K < x∧x < K)(hy: -K < y∧y < K)(h: -K < x+y∧x+y < K):lX.f lf (bs (Lib.itoa x)) (bs (Lib.itoa y))=some (bs (Lib.itoa (x+y)),()):=by
 rw[lX.f,yG lf (by have:=hb.1;omega) hx hy h,bdS,gY.f,bdS]
theorem aaR{x y:Int}(hx: -K < x∧x < K)(hy: -K < y∧y < K)(h: -K < x*y∧x*y < K):iV.f lf (bs (Lib.itoa x)) (bs (Lib.itoa y))=some (bs (Lib.itoa (x*y)),()):=by
 rw[iV.f,ady lf (by have:=hb.1;omega) hx hy h,bdS,gY.f,bdS]
end
def plusC(c d:Cg):Cg:=if c.em=true then Ec else if d.em=true then Ec else clsF (Int.gcd c.m d.m) (c.r+d.r)
def minusC(c d:Cg):Cg:=if c.em=true then Ec else if d.em=true then Ec else clsF (Int.gcd c.m d.m) (c.r-d.r)
def timesC(c d:Cg):Cg:=if c.em=true then Ec else if d.em=true then Ec else clsF (Int.gcd (c.m*d.m) (Int.gcd (c.m*d.r) (d.m*c.r))) (c.r*d.r)
theorem dJ{c:Cg}(h:c.em=false):cc c=(false,bs (Lib.itoa c.m),bs (Lib.itoa c.r),()):=by unfold cc;rw[if_neg (by simp[h])]
theorem lK{c:Cg}(h:c.em=true):cc c=(true,bs [],bs [],()):=by unfold cc;rw[if_pos h]
theorem aj9{c:Cg}(h:WfC c):∃ (l m:List UInt8),cc c=(c.em,bs l,bs m,())∧ckc c.em l m=0∧l.length≤101∧m.length≤101:=by
 have hK:=fO
 cases e:c.em with
 | true=>exact⟨[],[],lK e,by simp[ckc],by simp,by simp⟩
 | false =>
  have n1:=(vZ c.m).2 h.m
  have n2:=(vZ c.r).2 h.r
  refine⟨Lib.itoa c.m,Lib.itoa c.r,dJ e,?_,xw n1,xw n2⟩
  unfold ckc
  rw[if_neg (by simp),n1,n2,dX,dX,if_neg (by simp),if_neg (by simp),if_neg]
  have a:=h.pos
  have b:=h.rng
  intro x
  rcases x with x | ⟨x,y⟩
  ·omega
  ·have:=b x;omega
section
variable (lf:Nat)(hb:Big lf){c d:Cg}(hc:WfC c)(hd:WfC d)
include hb hc
theorem ccheck:fD.f lf (cc c)=some (0,()):=by
 obtain⟨l,m,e,h,a,b⟩:=aj9 hc
 rw[e,alh lf (by have:=hb.1;omega) _ _ _ (by omega) (by omega),h]
theorem rcheck:jU.f lf (cc c)=some (0,()):=by
 obtain⟨l,m,e,h,a,b⟩:=aj9 hc
 have:=hb.1
 rw[e,agV lf (by omega) _ _ _ (by omega) (by omega) (by omega) (by omega),h]
include hd
theorem cboth:dQ.f lf (cc c) (cc d)=some (0,()):=by
 rw[dQ.f,ccheck lf hb hc,bdS]
 simp only[bne_self_eq_false,brF]
 rw[ccheck lf hb hd,bdS]
theorem bounds:(-K < c.m∧c.m < K)∧(-K < c.r∧c.r < K)∧(-K < d.m∧d.m < K)∧(-K < d.r∧d.r < K)∧(-K < c.r-d.r∧c.r-d.r < K)∧(-K < c.r+d.r∧c.r+d.r < K)∧(-K < c.m*d.m∧c.m*d.m < K)∧(-K < c.m*d.r∧c.m*d.r < K)∧(-K < d.m*c.r∧d.m*c.r < K)∧(-K < c.r*d.r∧c.r*d.r < K):=by
 have hK:=CC_K
 have hC:=C_gt
 have hCK:=fO
 have h4:0≤C*C:=Int.mul_nonneg (by omega) (by omega)
 have a1:=hc.m
 have a2:=hc.r
 have a3:=hd.m
 have a4:=hd.r
 have m1:=yA a1 a3
 have m2:=yA a1 a4
 have m3:=yA a3 a2
 have m4:=yA a2 a4
 refine⟨by omega,by omega,by omega,by omega,by omega,by omega,by omega,by omega,by omega,by omega⟩
theorem amv:oW.f lf (cc c) (cc d)=some (cc (plusC c d),0,()):=by
 obtain⟨b1,b2,b3,b4,b5,b6,b7,b8,b9,b10⟩:=bounds lf hb hc hd
 rw[oW.f,cboth lf hb hc hd,bdS]
 unfold plusC
 cases ec:c.em with
 | true=>rw[lK ec];simp only[bne_self_eq_false,brF,brT,if_true,aT.f,bdS];rfl
 | false=>cases ed:d.em with
  | true=>rw[dJ ec,lK ed];simp only[bne_self_eq_false,brF,brT,if_true,if_false,Bool.false_eq_true,aT.f,bdS];rfl
  | false =>
   rw[dJ ec,dJ ed]
   simp only[bne_self_eq_false,brF,if_false,Bool.false_eq_true,pY.f,zJ lf hb b1 b3,aiM lf hb b2 b4 b6,bdS,wR lf hb.1 (qy b1 b3) b6]
theorem ama:mF.f lf (cc c) (cc d)=some (cc (plusC c d),()):=by
 obtain⟨b1,b2,b3,b4,b5,b6,b7,b8,b9,b10⟩:=bounds lf hb hc hd
 have h3:200000≤lf:=by have:=hb.1;omega
 rw[mF.f]
 unfold plusC
 cases ec:c.em with
 | true=>rw[lK ec];simp only[brT,if_true,aH.f,bdS];rfl
 | false=>cases ed:d.em with
  | true=>rw[dJ ec,lK ed];simp only[brF,brT,if_true,if_false,Bool.false_eq_true,aH.f,bdS];rfl
  | false =>
   rw[dJ ec,dJ ed]
   simp only[brF,if_false,Bool.false_eq_true,qP lf hb b1 b3,sumI lf h3 b2 b4,bdS,pX lf h3 (qy b1 b3) b6]
theorem amW:pF.f lf (cc c) (cc d)=some (cc (minusC c d),0,()):=by
 obtain⟨b1,b2,b3,b4,b5,b6,b7,b8,b9,b10⟩:=bounds lf hb hc hd
 rw[pF.f,cboth lf hb hc hd,bdS]
 unfold minusC
 cases ec:c.em with
 | true=>rw[lK ec];simp only[bne_self_eq_false,brF,brT,if_true,aT.f,bdS];rfl
 | false=>cases ed:d.em with
  | true=>rw[dJ ec,lK ed];simp only[bne_self_eq_false,brF,brT,if_true,if_false,Bool.false_eq_true,aT.f,bdS];rfl
  | false =>
   rw[dJ ec,dJ ed]
   simp only[bne_self_eq_false,brF,if_false,Bool.false_eq_true,qf.f,zJ lf hb b1 b3,acg lf hb b2 b4 b5,bdS,wR lf hb.1 (qy b1 b3) b5]
theorem akH:lI.f lf (cc c) (cc d)=some (cc (minusC c d),()):=by
 obtain⟨b1,b2,b3,b4,b5,b6,b7,b8,b9,b10⟩:=bounds lf hb hc hd
 have h3:200000≤lf:=by have:=hb.1;omega
 rw[lI.f]
 unfold minusC
 cases ec:c.em with
 | true=>rw[lK ec];simp only[brT,if_true,aH.f,bdS];rfl
 | false=>cases ed:d.em with
  | true=>rw[dJ ec,lK ed];simp only[brF,brT,if_true,if_false,Bool.false_eq_true,aH.f,bdS];rfl
  | false =>
   rw[dJ ec,dJ ed]
   simp only[brF,if_false,Bool.false_eq_true,qP lf hb b1 b3,diffI lf h3 b2 b4,bdS,pX lf h3 (qy b1 b3) b5]
theorem amM:oZ.f lf (cc c) (cc d)=some (cc (timesC c d),0,()):=by
 obtain⟨b1,b2,b3,b4,b5,b6,b7,b8,b9,b10⟩:=bounds lf hb hc hd
 rw[oZ.f,cboth lf hb hc hd,bdS]
 unfold timesC
 cases ec:c.em with
 | true=>rw[lK ec];simp only[bne_self_eq_false,brF,brT,if_true,aT.f,bdS];rfl
 | false=>cases ed:d.em with
  | true=>rw[dJ ec,lK ed];simp only[bne_self_eq_false,brF,brT,if_true,if_false,Bool.false_eq_true,aT.f,bdS];rfl
  | false =>
   rw[dJ ec,dJ ed]
   have g1:=qy b8 b9
   simp only[bne_self_eq_false,brF,if_false,Bool.false_eq_true,qc.f,aaR lf hb b1 b3 b7,aaR lf hb b1 b4 b8,aaR lf hb b3 b2 b9,aaR lf hb b2 b4 b10,bdS,zJ lf hb b8 b9,zJ lf hb b7 g1,wR lf hb.1 (qy b7 g1) b10]
theorem ak6:lJ.f lf (cc c) (cc d)=some (cc (timesC c d),()):=by
 obtain⟨b1,b2,b3,b4,b5,b6,b7,b8,b9,b10⟩:=bounds lf hb hc hd
 have h3:200000≤lf:=by have:=hb.1;omega
 rw[lJ.f]
 unfold timesC
 cases ec:c.em with
 | true=>rw[lK ec];simp only[brT,if_true,aH.f,bdS];rfl
 | false=>cases ed:d.em with
  | true=>rw[dJ ec,lK ed];simp only[brF,brT,if_true,if_false,Bool.false_eq_true,aH.f,bdS];rfl
  | false =>
   rw[dJ ec,dJ ed]
   have g1:=qy b7 b8
   have ga:Int.gcd (Int.gcd (c.m*d.m) (c.m*d.r)) (d.m*c.r)=Int.gcd (c.m*d.m) (Int.gcd (c.m*d.r) (d.m*c.r)):=Int.gcd_assoc _ _ _
   simp only[brF,if_false,Bool.false_eq_true,oN lf h3 b1 b3,oN lf h3 b1 b4,oN lf h3 b3 b2,oN lf h3 b2 b4,bdS,qP lf hb b7 b8,qP lf hb g1 b9,pX lf h3 (qy g1 b9) b10]
   rw[ga]
end
end Go.N
namespace Go.N
open Go Go.Q Go.Rx
def zeroC(c:Cg):Bool:=decide (c.m=0∧c.r=0)
theorem zero_eq{c:Cg}(h:c.em=false):(((cc c).1==false)&&(((cc c).2.1==(⟨#[48]⟩:ByteArray))&&(((cc c).2.2.1==(⟨#[48]⟩:ByteArray))&&true)))=zeroC c:=by
 rw[dJ h]
 simp only[af7,i0,BEq.rfl,Bool.true_and,Bool.and_true,zeroC]
 have e:∀ z:Int,decide (bs (Lib.itoa z)=bs (Lib.itoa 0))=decide (z=0):=fun z=>by
  simp only[decide_eq_decide]
  exact⟨fun x=>nX (aaN x),fun x=>by rw[x]⟩
 rw[e,e]
 by_cases h1:c.m=0<;>by_cases h2:c.r=0<;>simp[h1,h2]
def quoC(c d:Cg):Cg:=if c.em=true then Ec else if d.em=true then Ec else if zeroC d=true then Ec else if d.m≠0 then(if zeroC c=true then c else topC)else if dvd' d.r c.m=true then clsF (c.m.fdiv d.r) (c.r.fdiv d.r)else topC
theorem ac2(lf:Nat){c:Cg}(h:c.em=false):iw.f lf (cc c)=some (zeroC c,()):=by
 rw[iw.f,dJ h]
 simp only[beq0,zeroC]
 by_cases h1:c.m=0
 ·rw[decide_eq_true h1,brT];simp[h1]
 ·rw[decide_eq_false h1,brF];simp[h1]
section
variable (lf:Nat)(hb:Big lf){c d:Cg}(hc:WfC c)(hd:WfC d)
include hb hc hd
theorem amQ:pq.f lf (cc c) (cc d)=some (cc (quoC c d),0,()):=by
 obtain⟨b1,b2,b3,b4,b5,b6,b7,b8,b9,b10⟩:=bounds lf hb hc hd
 have hlf:=hb.1
 rw[pq.f,cboth lf hb hc hd,bdS]
 unfold quoC
 cases ec:c.em with
 | true=>rw[lK ec];simp only[bne_self_eq_false,brF,brT,if_true,aT.f,bdS];rfl
 | false=>cases ed:d.em with
  | true=>rw[dJ ec,lK ed];simp only[bne_self_eq_false,brF,brT,if_true,if_false,Bool.false_eq_true,aT.f,bdS];rfl
  | false =>
   have z1:=zero_eq ec
   have z2:=zero_eq ed
   have e1:(cc c).1=false:=by rw[dJ ec]
   have e2:(cc d).1=false:=by rw[dJ ed]
   simp only[bne_self_eq_false,brF,e1,e2,if_false,Bool.false_eq_true]
   rw[qZ.f,jl.f]
   simp only[bdS,z1,z2,aT.f,iU.f,ahO]
   cases zd:zeroC d with
   | true=>simp only[brT,if_true,bdS];rfl
   | false =>
    have k1:(cc d).2.1=bs (Lib.itoa d.m):=by rw[dJ ed]
    have k2:(cc d).2.2.1=bs (Lib.itoa d.r):=by rw[dJ ed]
    have k3:(cc c).2.1=bs (Lib.itoa c.m):=by rw[dJ ec]
    have k4:(cc c).2.2.1=bs (Lib.itoa c.r):=by rw[dJ ec]
    simp only[brF,if_false,Bool.false_eq_true,k1,k2,k3,k4,beq0]
    by_cases h:d.m=0
    ·rw[decide_eq_true h,Bool.not_true,brF,if_neg (by simpa using h),vU lf hlf b4 b1,bdS]
     have r0:d.r≠0:=fun x=>by unfold zeroC at zd;simp[h,x]at zd
     simp only
     cases dv:dvd' d.r c.m with
     | true =>
      have q1: -K < c.m.fdiv d.r∧c.m.fdiv d.r < K:=by have:=uK (x:=c.m) r0;have:=hc.m;have:=CC_K;have:=C_gt;have:=Int.mul_nonneg (show 0≤C by omega) (show 0≤C by omega);omega
      have q2: -K < c.r.fdiv d.r∧c.r.fdiv d.r < K:=by have:=uK (x:=c.r) r0;have:=hc.r;have:=CC_K;have:=C_gt;have:=Int.mul_nonneg (show 0≤C by omega) (show 0≤C by omega);omega
      simp only[brT,if_true,zh lf hlf b1 b4 r0,zh lf hlf b2 b4 r0,bdS,gY.f,wR lf hlf q1 q2]
     | false=>simp only[brF,if_false,Bool.false_eq_true,bdS]
    ·rw[decide_eq_false h,Bool.not_false,brT,if_pos h]
     cases zc:zeroC c with
     | true=>simp only[brT,if_true,bdS]
     | false=>simp only[brF,if_false,Bool.false_eq_true,bdS]
theorem al9:mD.f lf (cc c) (cc d)=some (cc (quoC c d),()):=by
 obtain⟨b1,b2,b3,b4,b5,b6,b7,b8,b9,b10⟩:=bounds lf hb hc hd
 have h3:200000≤lf:=by have:=hb.1;omega
 rw[mD.f]
 unfold quoC
 cases ec:c.em with
 | true=>rw[lK ec];simp only[brT,if_true,aH.f,bdS];rfl
 | false=>cases ed:d.em with
  | true=>rw[dJ ec,lK ed];simp only[brF,brT,if_true,if_false,Bool.false_eq_true,aH.f,bdS];rfl
  | false =>
   have e1:(cc c).1=false:=by rw[dJ ec]
   have e2:(cc d).1=false:=by rw[dJ ed]
   have k1:(cc d).2.1=bs (Lib.itoa d.m):=by rw[dJ ed]
   have k2:(cc d).2.2.1=bs (Lib.itoa d.r):=by rw[dJ ed]
   have k3:(cc c).2.1=bs (Lib.itoa c.m):=by rw[dJ ec]
   have k4:(cc c).2.2.1=bs (Lib.itoa c.r):=by rw[dJ ec]
   simp only[brF,e1,e2,if_false,Bool.false_eq_true,ac2 lf ed,ac2 lf ec,bdS,aH.f,dO.f,ahO,k1,k2,k3,k4,beq0]
   cases zd:zeroC d with
   | true=>simp only[brT,if_true];rfl
   | false =>
    simp only[brF,if_false,Bool.false_eq_true]
    by_cases h:d.m=0
    ·have s1:=szK b1
     have s2:=szK b2
     have s4:=szK b4
     rw[decide_eq_true h,brT,if_neg (by simpa using h),vk lf h3 (by omega) (by omega),bdS]
     have r0:d.r≠0:=fun x=>by unfold zeroC at zd;simp[h,x]at zd
     simp only
     cases dv:dvd' d.r c.m with
     | true =>
      have q1: -K < c.m.fdiv d.r∧c.m.fdiv d.r < K:=by have:=uK (x:=c.m) r0;have:=hc.m;have:=CC_K;have:=C_gt;have:=Int.mul_nonneg (show 0≤C by omega) (show 0≤C by omega);omega
      have q2: -K < c.r.fdiv d.r∧c.r.fdiv d.r < K:=by have:=uK (x:=c.r) r0;have:=hc.r;have:=CC_K;have:=C_gt;have:=Int.mul_nonneg (show 0≤C by omega) (show 0≤C by omega);omega
      simp only[brT,if_true,pV lf h3 (x:=c.m) (y:=d.r) (by omega) (by omega) r0,pV lf h3 (x:=c.r) (y:=d.r) (by omega) (by omega) r0,bdS,pX lf h3 q1 q2]
     | false=>simp only[brF,Bool.not_true,if_false,Bool.false_eq_true]
    ·rw[decide_eq_false h,brF,Bool.not_false,brT,if_pos h]
     cases zc:zeroC c with
     | true=>simp only[brT,if_true]
     | false=>simp only[brF,if_false,Bool.false_eq_true]
end
end Go.N
namespace Go.N
open Go Go.Q Go.Rx
def restC(c d:Cg):Cg:=if c.em=true then Ec else if d.em=true then Ec else if zeroC d=true then Ec else if d.m=0∧dvd' d.r c.m=true then clsF 0 (c.r.fmod d.r)else clsF (Int.gcd c.m (Int.gcd d.m d.r)) c.r
section
variable (lf:Nat)(hb:Big lf){c d:Cg}(hc:WfC c)(hd:WfC d)
include hb hc hd
theorem amT:pz.f lf (cc c) (cc d)=some (cc (restC c d),0,()):=by
 obtain⟨b1,b2,b3,b4,b5,b6,b7,b8,b9,b10⟩:=bounds lf hb hc hd
 have hlf:=hb.1
 have g1:=qy b3 b4
 have g2:=qy b1 g1
 rw[pz.f,cboth lf hb hc hd,bdS]
 unfold restC
 cases ec:c.em with
 | true=>rw[lK ec];simp only[bne_self_eq_false,brF,brT,if_true,aT.f,bdS];rfl
 | false=>cases ed:d.em with
  | true=>rw[dJ ec,lK ed];simp only[bne_self_eq_false,brF,brT,if_true,if_false,Bool.false_eq_true,aT.f,bdS];rfl
  | false =>
   have z2:=zero_eq ed
   have e1:(cc c).1=false:=by rw[dJ ec]
   have e2:(cc d).1=false:=by rw[dJ ed]
   simp only[bne_self_eq_false,brF,e1,e2,if_false,Bool.false_eq_true]
   rw[qN.f,jl.f]
   simp only[bdS,z2,aT.f]
   cases zd:zeroC d with
   | true=>simp only[brT,if_true,bdS];rfl
   | false =>
    have k1:(cc d).2.1=bs (Lib.itoa d.m):=by rw[dJ ed]
    have k2:(cc d).2.2.1=bs (Lib.itoa d.r):=by rw[dJ ed]
    have k3:(cc c).2.1=bs (Lib.itoa c.m):=by rw[dJ ec]
    have k4:(cc c).2.2.1=bs (Lib.itoa c.r):=by rw[dJ ec]
    simp only[brF,if_false,Bool.false_eq_true,k1,k2,k3,k4,beq0,zJ lf hb b3 b4,zJ lf hb b1 g1,bdS,wR lf hlf g2 b2]
    by_cases h:d.m=0
    ·rw[decide_eq_true h,brT,vU lf hlf b4 b1,bdS]
     have r0:d.r≠0:=fun x=>by unfold zeroC at zd;simp[h,x]at zd
     have k0: -K < (0:Int)∧(0:Int) < K:=by have:=K_gt;omega
     simp only
     cases dv:dvd' d.r c.m with
     | true =>
      rw[if_pos ⟨h,rfl⟩]
      simp only[brT,oq lf hlf b2 b4 r0,bdS,gY.f,i0,wR lf hlf k0 (yD b2 b4 r0)]
     | false=>rw[if_neg (by simp)];simp only[brF,bdS]
    ·rw[decide_eq_false h,brF,if_neg (fun x=>h x.1),bdS]
theorem ajh:kN.f lf (cc c) (cc d)=some (cc (restC c d),()):=by
 obtain⟨b1,b2,b3,b4,b5,b6,b7,b8,b9,b10⟩:=bounds lf hb hc hd
 have h3:200000≤lf:=by have:=hb.1;omega
 have g1:=qy b3 b4
 have g2:=qy b1 g1
 rw[kN.f]
 unfold restC
 cases ec:c.em with
 | true=>rw[lK ec];simp only[brT,if_true,aH.f,bdS];rfl
 | false=>cases ed:d.em with
  | true=>rw[dJ ec,lK ed];simp only[brF,brT,if_true,if_false,Bool.false_eq_true,aH.f,bdS];rfl
  | false =>
   have e1:(cc c).1=false:=by rw[dJ ec]
   have e2:(cc d).1=false:=by rw[dJ ed]
   have k1:(cc d).2.1=bs (Lib.itoa d.m):=by rw[dJ ed]
   have k2:(cc d).2.2.1=bs (Lib.itoa d.r):=by rw[dJ ed]
   have k3:(cc c).2.1=bs (Lib.itoa c.m):=by rw[dJ ec]
   have k4:(cc c).2.2.1=bs (Lib.itoa c.r):=by rw[dJ ec]
   simp only[brF,e1,e2,if_false,Bool.false_eq_true,ac2 lf ed,bdS,aH.f,k1,k2,k3,k4,beq0,qP lf hb b3 b4,qP lf hb b1 g1,pX lf h3 g2 b2]
   cases zd:zeroC d with
   | true=>simp only[brT,if_true];rfl
   | false =>
    simp only[brF,if_false,Bool.false_eq_true]
    by_cases h:d.m=0
    ·have s1:=szK b1
     have s2:=szK b2
     have s4:=szK b4
     rw[decide_eq_true h,brT,vk lf h3 (by omega) (by omega),bdS]
     have r0:d.r≠0:=fun x=>by unfold zeroC at zd;simp[h,x]at zd
     have k0: -K < (0:Int)∧(0:Int) < K:=by have:=K_gt;omega
     simp only
     cases dv:dvd' d.r c.m with
     | true =>
      rw[if_pos ⟨h,rfl⟩]
      simp only[brT,tZ lf h3 (x:=c.r) (y:=d.r) (by omega) (by omega) r0,bdS,iZ.f,i0,pX lf h3 k0 (yD b2 b4 r0)]
     | false=>rw[if_neg (by simp)];simp only[brF]
    ·rw[decide_eq_false h,brF,if_neg (fun x=>h x.1)]
end
end Go.N
namespace Go.N
open Go Go.Q Go.Rx
theorem ve{m r:Int}:WfC (clsF m r):=by
 have hC:=C_gt
 unfold clsF
 by_cases h:sz (m.natAbs:Int) > 100∨sz (if m=0 then r else r.fmod (m.natAbs:Int)) > 100
 ·rw[if_pos h]
  exact⟨by simp only[topC];omega,by simp only[topC];omega,by simp[topC],fun _=>by simp[topC]⟩
 ·rw[if_neg h]
  have h1:=(sz_C (m.natAbs:Int)).1 (by omega)
  have h2:=(sz_C (if m=0 then r else r.fmod (m.natAbs:Int))).1 (by omega)
  refine⟨h1,h2,by simp only;omega,fun x=>?_⟩
  simp only at x⊢
  have h0:m≠0:=by omega
  rw[if_neg h0]
  exact⟨Int.fmod_nonneg_of_pos r (by omega),Int.fmod_lt_of_pos r (by omega)⟩
theorem qY:WfC Ec:=by
 have hC:=C_gt
 exact⟨by simp only[Ec];omega,by simp only[Ec];omega,by simp[Ec],fun x=>absurd rfl x⟩
theorem ahN:WfC topC:=by
 have hC:=C_gt
 exact⟨by simp only[topC];omega,by simp only[topC];omega,by simp[topC],fun _=>by simp[topC]⟩
theorem aju{c d:Cg}:WfC (plusC c d):=by unfold plusC;split;exact qY;split;exact qY;exact ve
theorem ain{c d:Cg}:WfC (minusC c d):=by unfold minusC;split;exact qY;split;exact qY;exact ve
theorem aiG{c d:Cg}:WfC (timesC c d):=by unfold timesC;split;exact qY;split;exact qY;exact ve
theorem akQ{c d:Cg}(hc:WfC c):WfC (quoC c d):=by
 unfold quoC;split;exact qY;split;exact qY;split;exact qY;split
 ·split;exact hc;exact ahN
 ·split;exact ve;exact ahN
theorem ajH{c d:Cg}:WfC (restC c d):=by unfold restC;split;exact qY;split;exact qY;split;exact qY;split;exact ve;exact ve
def inC(c:Cg)(a:Int):Bool:=!c.em&&dvd' c.m (a-c.r)
def qO(c d:Cg):Bool:=if c.em=true then true else if d.em=true then false else dvd' d.m c.m&&dvd' d.m (c.r-d.r)
section
variable (lf:Nat)(hb:Big lf){c d:Cg}(hc:WfC c)(hd:WfC d)
include hb hc hd
theorem afo:kP.f lf (cc c) (cc d)=some (qO c d,()):=by
 obtain⟨b1,b2,b3,b4,b5,b6,b7,b8,b9,b10⟩:=bounds lf hb hc hd
 have hlf:=hb.1
 rw[kP.f]
 unfold qO
 cases ec:c.em with
 | true=>rw[lK ec];simp only[brT,if_true]
 | false=>cases ed:d.em with
  | true=>rw[dJ ec,lK ed];simp only[brF,brT,if_true,if_false,Bool.false_eq_true]
  | false =>
   rw[dJ ec,dJ ed]
   simp only[brF,if_false,Bool.false_eq_true,vU lf hlf b3 b1,acg lf hb b2 b4 b5,vU lf hlf b3 b5,bdS]
   cases dvd' d.m c.m with
   | true=>simp only[brT,Bool.true_and]
   | false=>simp only[brF,Bool.false_and]
end
section
variable (lf:Nat)(hb:Big lf){c:Cg}(hc:WfC c)
include hb hc
theorem in_r{a:Int}(ha: -Dd < a∧a < Dd):jF.f lf (cc c) (bs (Lib.itoa a))=some (inC c a,()):=by
 have h3:200000≤lf:=by have:=hb.1;omega
 have hD:=DD_K
 have hC:=C_gt
 have hCD:=jV
 have h4:0≤Dd*Dd:=Int.mul_nonneg (by omega) (by omega)
 have bm:=hc.m
 have br':=hc.r
 rw[jF.f]
 unfold inC
 cases ec:c.em with
 | true=>rw[lK ec];simp only[Bool.not_true,brF,Bool.false_and]
 | false =>
  rw[dJ ec]
  have s1:=szK (CK bm)
  have s2:=szK (z:=a-c.r) (by omega)
  simp only[Bool.not_false,brT,Bool.true_and,diffI lf h3 (x:=a) (y:=c.r) (by omega) (by omega),bdS,vk lf h3 (m:=c.m) (a:=a-c.r) (by omega) (by omega)]
end
end Go.N
namespace Go.N
open Go Go.Q Go.Rx
def negC(c:Cg):Cg:=if c.em=true then Ec else clsF c.m (-c.r)
theorem ahk{c:Cg}:WfC (negC c):=by unfold negC;split;exact qY;exact ve
section
variable (lf:Nat)(hb:Big lf){c:Cg}(hc:WfC c)
include hb hc
theorem agv:jO.f lf (cc c)=some (cc (negC c),()):=by
 have h3:200000≤lf:=by have:=hb.1;omega
 have bm:=CK hc.m
 have br':=CK hc.r
 rw[jO.f]
 unfold negC
 cases ec:c.em with
 | true=>rw[lK ec];simp only[brT,if_true];rfl
 | false =>
  rw[dJ ec]
  simp only[brF,if_false,Bool.false_eq_true,vw lf br',bdS,pX lf h3 bm (r:= -c.r) (by omega)]
end
end Go.N
namespace Go.N
open Go Go.Q Go.Rx
def aboveC(c:Cg)(a:Int):Option Int:=if c.m=0 then(if c.r < a then none else some c.r)else some (a+(c.r-a).fmod c.m)
theorem aaj{x y m:Int}(h:0 < m):(x.fmod m-y.fmod m).fmod m=(x-y).fmod m:=by
 rw[Int.fmod_eq_emod_of_nonneg _ (Int.le_of_lt h),Int.fmod_eq_emod_of_nonneg _ (Int.le_of_lt h),Int.fmod_eq_emod_of_nonneg _ (Int.le_of_lt h),Int.fmod_eq_emod_of_nonneg _ (Int.le_of_lt h),←Int.sub_emod]
section
variable (lf:Nat)(hb:Big lf){c:Cg}(hc:WfC c)(he:c.em=false){a:Int}(ha: -Dd < a∧a < Dd)
include hb hc he ha
theorem aky:nS.f lf (cc c) (bs (Lib.itoa a))=some (match aboveC c a with
  | none=>(bs [],6,())
  | some v=>(bs (Lib.itoa v),0,())):=by
 have hlf:=hb.1
 have hD:=DD_K
 have hC:=C_gt
 have hCD:=jV
 have h4:0≤Dd*Dd:=Int.mul_nonneg (by omega) (by omega)
 have ka: -K < a∧a < K:=by omega
 have hl:=rP ka
 have m1:=hc.m
 have r1:=hc.r
 have bm:=CK hc.m
 have br':=CK hc.r
 rw[nS.f,ccheck lf hb hc,bdS]
 simp only[bne_self_eq_false,brF,uZ lf (Lib.itoa a) (by omega),chkK ka,bdS]
 rw[dJ he]
 simp only[brF,beq0]
 unfold aboveC
 by_cases z:c.m=0
 ·rw[decide_eq_true z,Bool.not_true,brF,if_pos z,acA lf _ _ (chkK br') (chkK ka) (by omega),dX,dX,bdS]
  simp only
  by_cases h:c.r < a
  ·rw[decide_eq_true h,brT,if_pos h]
  ·rw[decide_eq_false h,brF,if_neg h]
 ·have p:0 < c.m:=by have:=hc.pos;omega
  have k1:=yD br' bm z
  have k2:=yD ka bm z
  have g1:=Int.fmod_nonneg_of_pos c.r p
  have g2:=Int.fmod_lt_of_pos c.r p
  have g3:=Int.fmod_nonneg_of_pos a p
  have g4:=Int.fmod_lt_of_pos a p
  have k3: -K < c.r.fmod c.m-a.fmod c.m∧c.r.fmod c.m-a.fmod c.m < K:=by omega
  have g5:=Int.fmod_nonneg_of_pos (c.r-a) p
  have g6:=Int.fmod_lt_of_pos (c.r-a) p
  rw[decide_eq_false z,Bool.not_false,brT,if_neg z,jJ.f,oq lf hlf br' bm z,bdS]
  simp only[bne_self_eq_false,brF,oq lf hlf ka bm z,bdS,acg lf hb k1 k2 k3,oq lf hlf k3 bm z,aaj p,yG lf (by omega) ka (y:=(c.r-a).fmod c.m) (by omega) (by omega)]
theorem agP:jh.f lf (cc c) (bs (Lib.itoa a))=some (match aboveC c a with
  | none=>(bs [],false,())
  | some v=>(bs (Lib.itoa v),true,())):=by
 have h3:200000≤lf:=by have:=hb.1;omega
 have hD:=DD_K
 have hC:=C_gt
 have hCD:=jV
 have h4:0≤Dd*Dd:=Int.mul_nonneg (by omega) (by omega)
 have ka: -K < a∧a < K:=by omega
 have m1:=hc.m
 have r1:=hc.r
 have bm:=CK hc.m
 have br':=CK hc.r
 rw[jh.f,dJ he]
 simp only[beq0]
 unfold aboveC
 by_cases z:c.m=0
 ·rw[decide_eq_true z,brT,if_pos z,lessI lf h3 br' ka,bdS]
  simp only
  by_cases h:c.r < a
  ·rw[decide_eq_true h,brT,if_pos h]
  ·rw[decide_eq_false h,brF,if_neg h]
 ·have p:0 < c.m:=by have:=hc.pos;omega
  have g5:=Int.fmod_nonneg_of_pos (c.r-a) p
  have g6:=Int.fmod_lt_of_pos (c.r-a) p
  have kd: -K < c.r-a∧c.r-a < K:=by omega
  have s1:=szK kd
  have s2:=szK bm
  simp only[decide_eq_false z,brF,if_neg z,diffI lf h3 br' ka,bdS,tZ lf h3 (x:=c.r-a) (y:=c.m) (by omega) (by omega) z,sumI lf h3 ka (y:=(c.r-a).fmod c.m) (by omega)]
end
end Go.N
namespace Go.N
open Go Go.Q Go.Rx
def belowC(c:Cg)(a:Int):Option Int:=if c.m=0 then(if a < c.r then none else some c.r)else some (a-(a-c.r).fmod c.m)
theorem abI{m r:Int}(h0:0≤m)(hm: -C < m∧m < C)(hr: -C < r∧r < C):clsF m r=⟨false,m,if m=0 then r else r.fmod m⟩:=by
 have e:(m.natAbs:Int)=m:=by omega
 unfold clsF
 rw[e]
 have s1:=(sz_C m).2 hm
 have s2:sz (if m=0 then r else r.fmod m)≤100:=by
  apply (sz_C _).2
  split
  ·exact hr
  ·have a:=Int.fmod_nonneg_of_pos r (show 0 < m by omega)
   have b:=Int.fmod_lt_of_pos r (show 0 < m by omega)
   omega
 rw[if_neg (by omega)]
theorem ahW{c:Cg}(hc:WfC c)(he:c.em=false)(a:Int):belowC c a=(aboveC (negC c) (-a)).map fun v=> -v:=by
 have e:negC c=⟨false,c.m,if c.m=0 then -c.r else(-c.r).fmod c.m⟩:=by
  unfold negC
  rw[if_neg (by simp[he])]
  exact abI hc.pos hc.m (by have:=hc.r;omega)
 rw[e]
 unfold belowC aboveC
 simp only
 by_cases z:c.m=0
 ·simp only[z,if_true]
  by_cases h:a < c.r
  ·rw[if_pos h,if_pos (by omega)];rfl
  ·rw[if_neg h,if_neg (by omega)];simp
 ·have p:0 < c.m:=by have:=hc.pos;omega
  simp only[if_neg z,Option.map_some]
  have k:((-c.r).fmod c.m - -a).fmod c.m=(a-c.r).fmod c.m:=by
   have h1:=aaj (x:=(-c.r).fmod c.m) (y:= -a) p
   have h2:=aaj (x:= -c.r) (y:= -a) p
   have h3:((-c.r).fmod c.m).fmod c.m=(-c.r).fmod c.m:=by
    rw[Int.fmod_eq_emod_of_nonneg _ (Int.le_of_lt p),Int.fmod_eq_emod_of_nonneg _ (Int.le_of_lt p),Int.emod_emod]
   rw[←h1,h3,h2]
   congr 1;omega
  rw[k]
  congr 1;omega
section
variable (lf:Nat)(hb:Big lf){c:Cg}(hc:WfC c)(he:c.em=false){a:Int}(ha: -Dd < a∧a < Dd)
include hb hc he ha
theorem akk:jT.f lf (cc c) (bs (Lib.itoa a))=some (match belowC c a with
  | none=>(bs [],false,())
  | some v=>(bs (Lib.itoa v),true,())):=by
 have hD:=DD_K
 have hC:=C_gt
 have hCD:=jV
 have h4:0≤Dd*Dd:=Int.mul_nonneg (by omega) (by omega)
 have ne:(negC c).em=false:=by
  have:negC c=⟨false,c.m,if c.m=0 then -c.r else(-c.r).fmod c.m⟩:=by
   unfold negC
   rw[if_neg (by simp[he])]
   exact abI hc.pos hc.m (by have:=hc.r;omega)
  rw[this]
 have ab:=agP lf hb ahk ne (a:= -a) (by omega)
 rw[jT.f,agv lf hb hc,bdS,vw lf (z:=a) (by omega),bdS,ab,bdS,ahW hc he]
 cases h:aboveC (negC c) (-a)with
 | none=>simp only[Bool.not_false,brT,Option.map_none]
 | some v =>
  have kv: -K < v∧v < K:=by
   unfold aboveC at h
   have w:=ahk (c:=c)
   have m1:=w.m
   have r1:=w.r
   split at h
   ·split at h
    ·cases h
    ·injection h with h;omega
   ·rename_i z
    have p:0 < (negC c).m:=by have:=w.pos;omega
    have g5:=Int.fmod_nonneg_of_pos ((negC c).r - -a) p
    have g6:=Int.fmod_lt_of_pos ((negC c).r - -a) p
    injection h with h
    omega
  simp only[Bool.not_true,brF,Option.map_some,vw lf kv,bdS]
theorem agk:jR.f lf (cc c) (bs (Lib.itoa a))=some (match belowC c a with
  | none=>(bs [],6,())
  | some v=>(bs (Lib.itoa v),0,())):=by
 have hlf:=hb.1
 have hD:=DD_K
 have hC:=C_gt
 have hCD:=jV
 have h4:0≤Dd*Dd:=Int.mul_nonneg (by omega) (by omega)
 have ka: -K < a∧a < K:=by omega
 have hl:=rP ka
 have m1:=hc.m
 have r1:=hc.r
 have bm:=CK hc.m
 have br':=CK hc.r
 rw[jR.f,ccheck lf hb hc,bdS]
 simp only[bne_self_eq_false,brF,uZ lf (Lib.itoa a) (by omega),chkK ka,bdS]
 rw[dJ he]
 simp only[brF,beq0]
 unfold belowC
 by_cases z:c.m=0
 ·rw[decide_eq_true z,Bool.not_true,brF,if_pos z,acA lf _ _ (chkK ka) (chkK br') (by omega),dX,dX,bdS]
  simp only
  by_cases h:a < c.r
  ·rw[decide_eq_true h,brT,if_pos h]
  ·rw[decide_eq_false h,brF,if_neg h]
 ·have p:0 < c.m:=by have:=hc.pos;omega
  have k1:=yD br' bm z
  have k2:=yD ka bm z
  have g1:=Int.fmod_nonneg_of_pos c.r p
  have g2:=Int.fmod_lt_of_pos c.r p
  have g3:=Int.fmod_nonneg_of_pos a p
  have g4:=Int.fmod_lt_of_pos a p
  have k3: -K < a.fmod c.m-c.r.fmod c.m∧a.fmod c.m-c.r.fmod c.m < K:=by omega
  have g5:=Int.fmod_nonneg_of_pos (a-c.r) p
  have g6:=Int.fmod_lt_of_pos (a-c.r) p
  have kf: -K < (a-c.r).fmod c.m∧(a-c.r).fmod c.m < K:=by omega
  have kd: -K < a-(a-c.r).fmod c.m∧a-(a-c.r).fmod c.m < K:=by omega
  have sd:=(sz_K _).2 kd
  have sb:=ajT lf _ _ (chkK ka) (chkK kf) (by omega)
  rw[dX,dX,uj,if_neg (by omega)]at sb
  rw[decide_eq_false z,Bool.not_false,brT,if_neg z,jJ.f,oq lf hlf ka bm z,bdS]
  simp only[bne_self_eq_false,brF,oq lf hlf br' bm z,bdS,acg lf hb k2 k1 k3,oq lf hlf k3 bm z,aaj p,sb]
end
end Go.N
namespace Go.N
open Go Go.Q Go.Rx
theorem amJ(lf:Nat)(hb:Big lf){x y:Int}(hx:0 < x∧x < C)(hy:0 < y∧y < C):uH.f lf (bs (Lib.itoa x)) (bs (Lib.itoa y))=some (bs (Lib.itoa (x / (Int.gcd x y:Int)*y)),0,()):=by
 have hlf:=hb.1
 have hK:=hb.2
 have hCK:=fO
 have hCC:=CC_K
 have hC:=C_gt
 have kx: -K < x∧x < K:=by omega
 have ky: -K < y∧y < K:=by omega
 obtain⟨p,q,e,k1,k2,_⟩:=xA lf _ _ (chkK kx) (chkK ky) (by omega)
 rw[dX]at k1 k2
 have n1:=cZ (B:=G) (by decide) k1.dg
 have n2:=cZ (B:=G) (by decide) k2.dg
 have vx:lv G p.2.1=x:=by have:=k1.val;split at this<;>omega
 have vy:lv G q.2.1=y:=by have:=k2.val;split at this<;>omega
 have p0:p.2.1≠[]:=fun h=>by rw[h]at vx;simp only[lv]at vx;omega
 have q0:q.2.1≠[]:=fun h=>by rw[h]at vy;simp only[lv]at vy;omega
 have pl:0 < p.2.1.length:=List.length_pos_iff.2 p0
 have ql:0 < q.2.1.length:=List.length_pos_iff.2 q0
 have l1:=k1.len
 have l2:=k2.len
 obtain⟨g,g1,g2,g3,g4,g5⟩:=adk lf hlf (lf+39) (lf+40) p.2.1 q.2.1 (by omega) (by omega) k1.dg k2.dg k1.tr k2.tr (by omega) (by omega)
 rw[vx,vy]at g5
 have gp:0 < (Int.gcd x y:Int):=by
  have:=Int.gcd_pos_of_ne_zero_left y (show x≠0 by omega)
  omega
 have g0:g≠[]:=fun h=>by rw[h]at g5;simp only[lv]at g5;omega
 obtain⟨Q,R,d1,d2,d3,d4,d5,d6,d7⟩:=aaf lf p.2.1 g k1.dg g2 k1.tr g3 g0 (by omega) (by omega) hlf
 have Q0:=cZ (B:=G) (by decide) d2
 have R0:=cZ (B:=G) (by decide) d4
 rw[vx,g5]at d6
 rw[g5]at d7
 have dv:(Int.gcd x y:Int)∣x:=Int.gcd_dvd_left x y
 have qv:lv G Q=x / (Int.gcd x y:Int):=by
  obtain⟨k,hk⟩:=dv
  have w:=aeS (M:=(Int.gcd x y:Int)) (a:=lv G R) (d:=lv G Q-k) (b:=0) gp (by rw[Int.mul_sub];omega) R0 d7 (by omega) gp
  have:lv G Q=k:=by omega
  rw[this]
  exact(Int.ediv_eq_of_eq_mul_right (show(Int.gcd x y:Int)≠0 by omega) hk).symm
 have qlen:Q.length≤p.2.1.length:=by
  by_cases z:Q.length≤p.2.1.length
  ·exact z
  ·have:=nY (B:=G) (by decide) k1.dg d2 d3 (by omega)
   have:=Int.ediv_le_self (Int.gcd x y:Int) (show 0≤x by omega)
   omega
 obtain⟨r,r1,r2,r3,r4,r5⟩:=aeI lf Q q.2.1 d2 k2.dg (by omega) (by omega) (by omega)
 rw[qv,vy]at r5
 have rn:RN (false,r,()) (x / (Int.gcd x y:Int)*y) 8192:=⟨r2,r3,by simp only;omega,by simp only[Bool.false_eq_true,if_false];rw[r5]⟩
 have lt: -K < x / (Int.gcd x y:Int)*y∧x / (Int.gcd x y:Int)*y < K:=by
  have a:=Int.ediv_le_self (Int.gcd x y:Int) (show 0≤x by omega)
  have b:=Int.ediv_nonneg (show 0≤x by omega) (Int.le_of_lt gp)
  have:=yA (a:=x / (Int.gcd x y:Int)) (b:=y) (by omega) (by omega)
  omega
 have sz':=(sz_K _).2 lt
 rw[uH.f,e,bdS]
 simp only[bne_self_eq_false,brF]
 rw[show(((p.2.1.length:Nat):Int)==0)=false from beq_eq_false_iff_ne.2 (by omega),brF,show(((q.2.1.length:Nat):Int)==0)=false from beq_eq_false_iff_ne.2 (by omega),brF,gQ.f,g1,bdS,bdS,d1,bdS,r1,bdS,zx lf rn (by omega) (by omega),uj,if_neg (by omega),bdS]
end Go.N
namespace Go.N
open Go Go.Q Go.Rx
structure Bz(a b r s x z:Int):Prop where
 b0:0 < b
 r0:0 < r
 s0:0≤s
 xr:b∣x*a-r
 zs:b∣z*a-s
 sg:(0≤z∧x≤0∧z*r-x*s=b)∨(z≤0∧0≤x∧z*r-x*s= -b)
 xb: -b≤x∧x≤b
theorem Bz.zb{a b r s x z:Int}(h:Bz a b r s x z): -b≤z∧z≤b:=by
 have r0:=h.r0
 have s0:=h.s0
 have b0:=h.b0
 rcases h.sg with⟨h1,h2,h3⟩ | ⟨h1,h2,h3⟩
 ·have a1:z*1≤z*r:=Int.mul_le_mul_of_nonneg_left (by omega) h1
  have a2:0≤-x*s:=Int.mul_nonneg (by omega) s0
  rw[Int.neg_mul]at a2
  omega
 ·have a1: -z*1≤-z*r:=Int.mul_le_mul_of_nonneg_left (by omega) (by omega)
  have a2:0≤x*s:=Int.mul_nonneg h2 s0
  rw[Int.neg_mul,Int.neg_mul]at a1
  omega
theorem Bz.next{a b r s x z q t:Int}(h:Bz a b r s x z)(hs:0 < s)(hq:r=s*q+t)(t0:0≤t)(q0:0≤q):Bz a b s t z (x-q*z):=by
 have zb:=h.zb
 refine⟨h.b0,hs,t0,h.zs,?_,?_,zb⟩
 ·have e:(x-q*z)*a-t=(x*a-r)-q*(z*a-s):=by
   subst hq;rw[Int.sub_mul,Int.mul_sub,Int.mul_assoc,Int.mul_comm q s];omega
  rw[e]
  exact Int.dvd_sub h.xr (Int.dvd_trans h.zs (Int.dvd_mul_left _ _))
 ·have e:(x-q*z)*s-z*t= -(z*r-x*s):=by
   subst hq;rw[Int.sub_mul,Int.mul_add,Int.mul_comm q z,Int.mul_assoc z q s,Int.mul_comm q s];omega
  rw[e]
  rcases h.sg with⟨h1,h2,h3⟩ | ⟨h1,h2,h3⟩
  ·refine .inr ⟨?_,h1,by rw[h3]⟩
   have:=Int.mul_nonneg q0 h1
   omega
  ·refine .inl ⟨?_,h1,by rw[h3];omega⟩
   have:=Int.mul_nonneg q0 (show 0≤-z by omega)
   rw[Int.mul_neg]at this
   omega
theorem crt{m1 m2 g r1 r2 x k:Int}(g0:0 < g)(h1:0 < m1)(h2:0 < m2)(d1:g∣m1)(d2:g∣m2)(hx:m2∣x*m1-g)(hk:r2-r1=g*k):m2∣(r1+x*k*m1)-r2:=by
 have e:(r1+x*k*m1)-r2=k*(x*m1-g):=by
  rw[Int.mul_sub,Int.mul_comm k g,←hk,Int.mul_comm x k,Int.mul_assoc];omega
 rw[e]
 exact Int.dvd_trans hx (Int.dvd_mul_left _ _)
theorem lcm_dvd{m1 m2 v:Int}(h1:0 < m1)(h2:0 < m2)(a:m1∣v)(b:m2∣v):m1 / (Int.gcd m1 m2:Int)*m2∣v:=by
 have l:(Int.lcm m1 m2:Int)∣v:=Int.coe_lcm_dvd a b
 have e:(Int.lcm m1 m2:Int)=m1 / (Int.gcd m1 m2:Int)*m2:=by
  rw[Int.lcm_eq_mul_div,Int.natCast_ediv,Int.natCast_mul,Int.natAbs_of_nonneg (Int.le_of_lt h1),Int.natAbs_of_nonneg (Int.le_of_lt h2),Int.mul_comm m1 m2,Int.mul_ediv_assoc _ (Int.gcd_dvd_left m1 m2),Int.mul_comm]
 rw[←e];exact l
theorem ahd{m1 m2:Int}(h1:0 < m1)(h2:0 < m2):m1 / (Int.gcd m1 m2:Int)*m2=m1*(m2 / (Int.gcd m1 m2:Int)):=by
 have d1:=Int.gcd_dvd_left m1 m2
 have d2:=Int.gcd_dvd_right m1 m2
 rw[←Int.mul_ediv_assoc _ d2,Int.mul_comm _ m2,←Int.mul_ediv_assoc _ d1,Int.mul_comm]
theorem lcm_pos{m1 m2:Int}(h1:0 < m1)(h2:0 < m2):0 < m1 / (Int.gcd m1 m2:Int)*m2:=by
 have gp:0 < (Int.gcd m1 m2:Int):=by
  have:=Int.gcd_pos_of_ne_zero_left m2 (show m1≠0 by omega)
  omega
 have:0 < m1 / (Int.gcd m1 m2:Int):=Int.ediv_pos_of_pos_of_dvd h1 (by omega) (Int.gcd_dvd_left _ _)
 exact Int.mul_pos this h2
theorem aid{L u v:Int}(h:0 < L)(d:L∣u-v):u.fmod L=v.fmod L:=by
 rw[Int.fmod_eq_emod_of_nonneg _ (Int.le_of_lt h),Int.fmod_eq_emod_of_nonneg _ (Int.le_of_lt h)]
 exact Int.emod_eq_emod_iff_emod_sub_eq_zero.2 (Int.emod_eq_zero_of_dvd d)
end Go.N
namespace Go.N
open Go Go.Q Go.Rx
abbrev Nb:Type:=Bool×(List Int×Unit)
theorem RN.natAbs{p:Nb}{z:Int}{k:Nat}(h:RN p z k):lv G p.2.1=(z.natAbs:Int):=by
 have:=h.val
 have:=cZ (B:=G) (by decide) h.dg
 split at*<;> omega
theorem RN.small(lf:Nat)(h3:200000≤lf){p:Nb}{z:Int}{k:Nat}(h:RN p z k)(hz: -K < z∧z < K):RN p z 4096:=by
 obtain⟨q,_,_,k1,_⟩:=xA lf _ _ (chkK hz) (chkK hz) h3
 rw[dX]at k1
 refine⟨h.dg,h.tr,?_,h.val⟩
 by_cases l:p.2.1.length≤4096
 ·exact l
 ·have:=nY (B:=G) (by decide) k1.dg h.dg h.tr (by have:=k1.len;omega)
  rw[h.natAbs,k1.natAbs]at this
  omega
theorem RN.nil{p:Nb}{k:Nat}(h:RN p 0 k):p.2.1=[]:=(zM (B:=G) (by decide) h.dg h.tr).1 (by rw[h.natAbs];rfl)
theorem RN.ne{p:Nb}{z:Int}{k:Nat}(h:RN p z k)(h0:z≠0):0 < p.2.1.length:=by
 refine List.length_pos_iff.2 fun e=>h0 ?_
 have:=h.natAbs
 rw[e]at this
 simp only[lv]at this
 omega
theorem ajy(lf:Nat)(h3:200000≤lf){p q:Nb}{x y:Int}{k:Nat}(h1:RN p x k)(h2:RN q y k)(hk:k≤50000):∃ s,dL.f lf p q=some (s,())∧RN s (x*y) (k+k):=by
 obtain⟨r,r1,r2,r3,r4,r5⟩:=aeI lf p.2.1 q.2.1 h1.dg h2.dg (by have:=h1.len;omega) (by have:=h2.len;omega) h3
 rw[dL.f,r1,bdS]
 refine⟨_,rfl,r2,r3,by have:=h1.len;have:=h2.len;simp only;omega,?_⟩
 simp only
 rw[r5,h1.val,h2.val]
 cases p.1<;>cases q.1<;>simp[Int.neg_mul,Int.mul_neg]
section
variable (lf:Nat)(hlf:2000000000≤lf){a b:Int}(hb:b < C)
include hlf hb
theorem adY{r s bf nw:Nb}{R S X Z:Int}(h1:RN r R 4096)(h2:RN s S 4096)(h3:RN bf X 4096)(h4:RN nw Z 4096)(h:Bz a b R S X Z)(hs:S≠0):
  ∃ q t u v w,bT.f lf r s=some (q,t,())∧dL.f lf q nw=some (u,())∧dn.f lf u=some (v,())∧fM.f lf bf v=some (w,())∧
   RN t (R.fmod S) 4096∧RN w (X-R.fdiv S*Z) 4096∧Bz a b S (R.fmod S) Z (X-R.fdiv S*Z):=by
 have hC:=fO
 have sp:0 < S:=by have:=h.s0;omega
 obtain⟨q,t,e1,k1,k2⟩:=xC lf hlf h1 h2 (by omega) hs
 obtain⟨u,e2,k3⟩:=ajy lf (by omega) k1 (h4.mono (by omega)) (by omega)
 obtain⟨v,e3,k4⟩:=yZ lf k3
 obtain⟨w,e4,k5⟩:=afS lf (h3.mono (show 4096≤4096+1+(4096+1) by omega)) k4 (by omega) (by omega)
 rw[←Int.sub_eq_add_neg]at k5
 have m:=Int.mul_fdiv_add_fmod R S
 have n:=h.next sp m.symm (Int.fmod_nonneg_of_pos R sp) (by
  rw[Int.fdiv_eq_ediv_of_nonneg _ (Int.le_of_lt sp)];exact Int.ediv_nonneg (Int.le_of_lt h.r0) (Int.le_of_lt sp))
 have zb:=n.zb
 exact⟨q,t,u,v,w,e1,e2,e3,e4,k2,k5.small lf (by omega) (by omega),n⟩
theorem amx(v0:Bool)(v1:List Int)(v2:Bool)(v3 v8:List Int):∀ (k n:Nat) (r s bf nw:Nb) (R S X Z:Int),S≤k→k < n→RN r R 4096→RN s S 4096→RN bf X 4096→RN nw Z 4096→Bz a b R S X Z→
  ∃ (g bf' nw':Nb) (e:Bool) (X':Int),dK.l2 lf v0 v1 v2 v3 v8 n r.1 r.2.1 s.1 s.2.1 bf.1 bf.2.1 nw.1 nw.2.1=some ((v0,v1,v2,v3,g.1,g.2.1,e,[],v8,bf'.1,bf'.2.1,nw'.1,nw'.2.1,()),())∧
   RN g (Int.gcd R S) 4096∧RN bf' X' 4096∧b∣X'*a-(Int.gcd R S:Int)∧-b≤X'∧X'≤b:=by
 intro k
 induction k with
 | zero =>
  intro n r s bf nw R S X Z hk hn h1 h2 h3 h4 h
  obtain⟨m,rfl⟩:=Nat.exists_eq_succ_of_ne_zero (show n≠0 by omega)
  have s0:=h.s0
  obtain rfl:S=0:=by omega
  have e:=h2.nil
  have r0:=h.r0
  have g:(Int.gcd R 0:Int)=R:=by rw[Int.gcd_zero_right];omega
  refine⟨r,bf,nw,s.1,X,?_,by rw[g];exact h1,h3,by rw[g];exact h.xr,h.xb⟩
  rw[dK.l2,dK.r2,e,decide_eq_false (by simp),brF]
 | succ k ih =>
  intro n r s bf nw R S X Z hk hn h1 h2 h3 h4 h
  obtain⟨m,rfl⟩:=Nat.exists_eq_succ_of_ne_zero (show n≠0 by omega)
  have s0:=h.s0
  have r0:=h.r0
  by_cases hs:S=0
  ·subst hs
   have e:=h2.nil
   have g:(Int.gcd R 0:Int)=R:=by rw[Int.gcd_zero_right];omega
   refine⟨r,bf,nw,s.1,X,?_,by rw[g];exact h1,h3,by rw[g];exact h.xr,h.xb⟩
   rw[dK.l2,dK.r2,e,decide_eq_false (by simp),brF]
  ·obtain⟨q,t,u,v,w,e1,e2,e3,e4,k1,k2,nx⟩:=adY lf hlf hb h1 h2 h3 h4 h hs
   have sp:0 < S:=by omega
   have f1:=Int.fmod_lt_of_pos R sp
   have gs:(Int.gcd S (R.fmod S))=Int.gcd R S:=uM (Int.mul_fdiv_add_fmod R S).symm sp nx.s0 f1 (by omega)
   obtain⟨g,bf',nw',e,X',i1,i2,i3,i4,i5⟩:=ih m s t nw w S (R.fmod S) Z _ (by omega) (by omega) h2 k1 h4 k2 nx
   rw[gs]at i2 i4
   refine⟨g,bf',nw',e,X',?_,i2,i3,i4,i5⟩
   rw[dK.l2,dK.r2,decide_eq_true (by have:=h2.ne hs;omega),brT]
   have x1:((r.1,r.2.1,()):Nb)=r:=rfl
   have x2:((s.1,s.2.1,()):Nb)=s:=rfl
   have x3:((nw.1,nw.2.1,()):Nb)=nw:=rfl
   have x4:((bf.1,bf.2.1,()):Nb)=bf:=rfl
   rw[x1,x2,x3,x4,e1,bdS,e2,bdS,e3,bdS,e4,bdS]
   exact i1
end
theorem agT(lf:Nat)(hlf:2000000000≤lf){a b:Int}(ha:0 < a∧a < C)(hb:0 < b∧b < C){x y g bf:Nb}{X:Int}(hx:RN x a 4096)(hy:RN y b 4096)(hg:RN g (Int.gcd a b) 4096)(hf:RN bf X 4096)(hX:b∣X*a-(Int.gcd a b:Int)):
  ∃ (Q R:List Int) (q u p m s t:Nb) (o:Nb),aB.f lf y.2.1 g.2.1=some (Q,R,())∧bT.f lf bf (false,Q,())=some (q,u,())∧dL.f lf x u=some (p,())∧dn.f lf p=some (m,())∧
   fM.f lf g m=some (s,())∧bT.f lf s y=some (t,o,())∧(∃ c1,aG.f lf g=some (c1,()))∧(∃ c2,aG.f lf t=some (c2,()))∧
   ∃ U:Int,aG.f lf u=some (bs (Lib.itoa U),())∧0≤U∧U < C∧b∣U*a-(Int.gcd a b:Int):=by
 have hCK:=fO
 have gp:0 < (Int.gcd a b:Int):=by
  have:=Int.gcd_pos_of_ne_zero_left b (show a≠0 by omega)
  omega
 have g0:g.2.1≠[]:=fun e=>by have:=hg.ne (by omega);rw[e]at this;simp at this
 obtain⟨Q,R,d1,d2,d3,d4,d5,d6,d7⟩:=aaf lf y.2.1 g.2.1 hy.dg hg.dg hy.tr hg.tr g0 (by have:=hy.len;omega) (by have:=hg.len;omega) hlf
 have yv:lv G y.2.1=b:=by rw[hy.natAbs];omega
 have gv:lv G g.2.1=(Int.gcd a b:Int):=by rw[hg.natAbs];omega
 rw[yv,gv]at d6
 rw[gv]at d7
 have Q0:=cZ (B:=G) (by decide) d2
 have R0:=cZ (B:=G) (by decide) d4
 have dv:(Int.gcd a b:Int)∣b:=Int.gcd_dvd_right a b
 have qv:(Int.gcd a b:Int)*lv G Q=b:=by
  obtain⟨k,hk⟩:=dv
  have w:=aeS (M:=(Int.gcd a b:Int)) (a:=lv G R) (d:=lv G Q-k) (b:=0) gp (by rw[Int.mul_sub];omega) R0 d7 (by omega) gp
  have:lv G Q=k:=by omega
  rw[this];exact hk.symm
 have qp:0 < lv G Q:=by
  by_cases z:lv G Q=0
  ·rw[z,Int.mul_zero]at qv;omega
  ·omega
 have qb:lv G Q≤b:=by
  have:=Int.mul_le_mul_of_nonneg_right (show 1≤(Int.gcd a b:Int) by omega) Q0
  omega
 have hQ:RN (false,Q,()) (lv G Q) 4096:=(show RN (false,Q,()) (lv G Q) Q.length from⟨d2,d3,Nat.le_refl _,rfl⟩).small lf (by omega) (by omega)
 obtain⟨q,u,e1,k1,k2⟩:=xC lf hlf hf hQ (by omega) (by omega)
 have f0:=Int.fmod_nonneg_of_pos X qp
 have f1:=Int.fmod_lt_of_pos X qp
 obtain⟨p,e2,k3⟩:=ajy lf (by omega) hx k2 (by omega)
 obtain⟨m,e3,k4⟩:=yZ lf k3
 obtain⟨s,e4,k5⟩:=afS lf (hg.mono (show 4096≤4096+4096 by omega)) k4 (by omega) (by omega)
 obtain⟨t,o,e5,k6,k7⟩:=xC lf hlf k5 (hy.mono (by omega)) (by omega) (by omega)
 refine⟨Q,R,q,u,p,m,s,t,o,d1,e1,e2,e3,e4,e5,⟨_,xu lf hg (by omega) (by omega)⟩,⟨_,xu lf k6 (by omega) (by omega)⟩,X.fmod (lv G Q),xu lf k2 (by omega) (by omega),f0,by omega,?_⟩
 have mm:=Int.mul_fdiv_add_fmod X (lv G Q)
 obtain⟨k,hk⟩:=Int.gcd_dvd_left a b
 have e:X.fmod (lv G Q)*a-(Int.gcd a b:Int)=(X*a-(Int.gcd a b:Int))-b*(X.fdiv (lv G Q)*k):=by
  have e1:X.fmod (lv G Q)=X-lv G Q*X.fdiv (lv G Q):=by omega
  have e2:b*(X.fdiv (lv G Q)*k)=lv G Q*X.fdiv (lv G Q)*a:=by
   rw[←qv]
   generalize X.fdiv (lv G Q)=w at *
   generalize lv G Q=z at *
   generalize (Int.gcd a b:Int)=g at *
   rw[hk];grind
  rw[e1,e2,Int.sub_mul];omega
 rw[e]
 exact Int.dvd_sub hX (Int.dvd_mul_right _ _)
theorem aiL(lf:Nat)(hb:Big lf){a b:Int}(ha:0 < a∧a < C)(hbb:0 < b∧b < C):
  ∃ (t1 t3:ByteArray) (U:Int),dK.f lf (bs (Lib.itoa a)) (bs (Lib.itoa b))=some (t1,bs (Lib.itoa U),t3,0,())∧0≤U∧U < C∧b∣U*a-(Int.gcd a b:Int):=by
 have hlf:=hb.1
 have hK:=hb.2
 have hCK:=fO
 have ka: -K < a∧a < K:=by omega
 have kb: -K < b∧b < K:=by omega
 obtain⟨x,y,e,k1,k2,n1,n2⟩:=xA lf _ _ (chkK ka) (chkK kb) (by omega)
 rw[dX]at k1 k2
 have na:x.1=false:=by
  cases hx:x.1 with
  | false=>rfl
  | true =>
   have:=k1.val
   have:=cZ (B:=G) (by decide) k1.dg
   rw[hx,if_pos rfl]at *;omega
 have nb:y.1=false:=by
  cases hx:y.1 with
  | false=>rfl
  | true =>
   have:=k2.val
   have:=cZ (B:=G) (by decide) k2.dg
   rw[hx,if_pos rfl]at *;omega
 have y0:=k2.ne (by omega)
 have B0:Bz a b a b 1 0:=⟨hbb.1,ha.1,by omega,by simp,by simp,.inr ⟨by omega,by omega,by simp⟩,by omega⟩
 have one:RN (false,[1],()) 1 4096:=⟨by intro d hd;simp at hd;subst hd;decide,by unfold Tr;simp,by simp,by decide⟩
 have zer:RN (false,[],()) 0 4096:=⟨nofun,by unfold Tr;simp,by simp,by decide⟩
 have x1:RN (false,x.2.1,()) a 4096:=by have h:=k1;obtain⟨xn,xl,⟨⟩⟩:=x;simp only at na;subst na;exact h
 have y1:RN (false,y.2.1,()) b 4096:=by have h:=k2;obtain⟨xn,xl,⟨⟩⟩:=y;simp only at nb;subst nb;exact h
 obtain⟨q,t,u,v,w,s1,s2,s3,s4,s5,s6,nx⟩:=adY lf hlf hbb.2 x1 y1 one zer B0 (by omega)
 have gs:(Int.gcd b (a.fmod b))=Int.gcd a b:=uM (Int.mul_fdiv_add_fmod a b).symm hbb.1 nx.s0 (Int.fmod_lt_of_pos a hbb.1) (by omega)
 have f1:(decide (((y.2.1.length:Nat):Int) > 0))=true:=decide_eq_true (by omega)
 have e0:(((y.2.1.length:Nat):Int)==0)=false:=beq_eq_false_iff_ne.2 (by omega)
 by_cases z:a.fmod b=0
 ·rw[z]at s5 nx gs
  have tn:=s5.nil
  rw[Int.gcd_zero_right,show b.natAbs=b.toNat by omega]at gs
  have hg:RN (false,y.2.1,()) (Int.gcd a b) 4096:=by rw[←gs,show((b.toNat:Nat):Int)=b by omega];exact y1
  have hX:b∣0*a-(Int.gcd a b:Int):=by
   rw[←gs,show((b.toNat:Nat):Int)=b by omega,Int.zero_mul,Int.zero_sub];exact Int.dvd_neg.2 (Int.dvd_refl _)
  obtain⟨Q,R,q',u',p',m',s',t',o',g1,g2,g3,g4,g5,g6,⟨c1,g7⟩,⟨c2,g8⟩,U,g9,U0,U1,U2⟩:=agT lf hlf ha hbb k1 k2 hg zer hX
  refine⟨c1,c2,U,?_,U0,U1,U2⟩
  rw[dK.f,e,bdS]
  simp only[bne_self_eq_false,brF,e0]
  rw[show lf+40=lf+38+1+1 from rfl,dK.l0,dK.r0,f1,brT,s1,bdS,s2,bdS,s3,bdS,s4,bdS]
  simp only
  rw[dK.l1,dK.r1,tn,decide_eq_false (by simp),brF]
  have xe:((x.1,x.2.1,()):Nb)=x:=rfl
  have ye:((y.1,y.2.1,()):Nb)=y:=rfl
  simp only[bdS,brT,brF,na,nb,Bool.false_eq_true]at *
  rw[ye]at g5 g7
  simp only[xe,ye,g1,g2,g3,g4,g5,g6,g7,g8,g9,bdS]
 ·obtain⟨q2,t2,u2,v2,w2,r1,r2,r3,r4,r5,r6,ny⟩:=adY lf hlf hbb.2 y1 s5 zer s6 nx z
  have nx0:=nx.s0
  have sp:0 < a.fmod b:=by omega
  have fl:=Int.fmod_lt_of_pos b sp
  have gs2:(Int.gcd (a.fmod b) (b.fmod (a.fmod b)))=Int.gcd b (a.fmod b):=uM (Int.mul_fdiv_add_fmod b (a.fmod b)).symm sp ny.s0 fl (by omega)
  obtain⟨g,bf,nw,ee,X,l1,l2,l3,l4,l5,l6⟩:=amx lf hlf hbb.2 x.1 x.2.1 y.1 y.2.1 [1] (lf+37) (lf+38) t t2 w w2 _ _ _ _ (by have:=Int.fmod_lt_of_pos a hbb.1;omega) (by omega) s5 r5 s6 r6 ny
  rw[gs2,gs]at l2 l4
  obtain⟨Q,R,q',u',p',m',s',t',o',g1,g2,g3,g4,g5,g6,⟨c1,g7⟩,⟨c2,g8⟩,U,g9,U0,U1,U2⟩:=agT lf hlf ha hbb k1 k2 l2 l3 l4
  refine⟨c1,c2,U,?_,U0,U1,U2⟩
  rw[dK.f,e,bdS]
  simp only[bne_self_eq_false,brF,e0]
  rw[show lf+40=lf+38+1+1 from rfl,dK.l0,dK.r0,f1,brT,s1,bdS,s2,bdS,s3,bdS,s4,bdS]
  simp only
  have te:((t.1,t.2.1,()):Nb)=t:=rfl
  have we:((w.1,w.2.1,()):Nb)=w:=rfl
  rw[dK.l1,dK.r1,decide_eq_true (by have:=s5.ne z;omega),brT,te,we,r1,bdS,r2,bdS,r3,bdS,r4,bdS]
  simp only
  rw[l1]
  have xe:((x.1,x.2.1,()):Nb)=x:=rfl
  have ye:((y.1,y.2.1,()):Nb)=y:=rfl
  have ge:((g.1,g.2.1,()):Nb)=g:=rfl
  have be:((bf.1,bf.2.1,()):Nb)=bf:=rfl
  simp only[bdS,brT,brF,xe,ye,ge,be,g1,g2,g3,g4,g5,g6,g7,g8,g9]
  rw[na,brF]
end Go.N
namespace Go.N
open Go Go.Q Go.Rx
structure Vl where
 a:A
 c:Cg
deriving DecidableEq
abbrev VV:Type:=IV×(IV×Unit)
def vc(v:Vl):VV:=(ac v.a,cc v.c,())
def Ev:Vl:=⟨E0,Ec⟩
def onev(z:Int):Vl:=⟨⟨false,some z,some z⟩,⟨false,0,z⟩⟩
def loC(c:Cg)(a:Int):Int:=a+(c.r-a).fmod c.m
def hiC(c:Cg)(a:Int):Int:=a-(a-c.r).fmod c.m
def fin3(x y:Option Int)(c:Cg):Vl:=match x,y with
 | some x,some y=>if y < x then Ev else if x=y then onev x else⟨⟨false,clip x,clip y⟩,c⟩
 | x,y=>⟨⟨false,x.bind clip,y.bind clip⟩,c⟩
def red(a:A)(c:Cg):Vl:=if a.em=true then Ev else if c.em=true then Ev else if c.m=0 then(if inS (ofA a) c.r=true then onev c.r else Ev)else fin3 (a.lo.map (loC c)) (a.hi.map (hiC c)) c
structure WfV(v:Vl):Prop where
 a:Wf v.a
 c:WfC v.c
 red:red v.a v.c=v
theorem lo_m{c:Cg}(p:0 < c.m)(a:Int):a≤loC c a∧loC c a < a+c.m:=by
 have:=Int.fmod_nonneg_of_pos (c.r-a) p
 have:=Int.fmod_lt_of_pos (c.r-a) p
 unfold loC;omega
theorem hi_m{c:Cg}(p:0 < c.m)(a:Int):hiC c a≤a∧a-c.m < hiC c a:=by
 have:=Int.fmod_nonneg_of_pos (a-c.r) p
 have:=Int.fmod_lt_of_pos (a-c.r) p
 unfold hiC;omega
theorem alk{m a:Int}(p:0 < m):a.fmod m=0↔m∣a:=by
 rw[Int.fmod_eq_emod_of_nonneg _ (Int.le_of_lt p)]
 exact⟨Int.dvd_of_emod_eq_zero,Int.emod_eq_zero_of_dvd⟩
theorem acn{m:Int}(p:0 < m)(a:Int):m∣a-a.fmod m:=by
 rw[Int.fmod_eq_emod_of_nonneg _ (Int.le_of_lt p)]
 exact Int.dvd_self_sub_emod
theorem xh{c:Cg}(he:c.em=false)(hp:0≤c.m){z:Int}:inC c z=true↔c.m∣z-c.r:=by
 unfold inC dvd'
 rw[he]
 by_cases h:c.m=0
 ·rw[if_pos h,h];simp
 ·rw[if_neg h]
  simp only[Bool.not_false,Bool.true_and,decide_eq_true_eq]
  exact alk (by omega)
theorem alo{c:Cg}(p:0 < c.m)(a:Int):c.m∣loC c a-c.r:=by
 obtain⟨k,hk⟩:=acn p (c.r-a)
 exact⟨-k,by unfold loC;rw[Int.mul_neg,←hk];omega⟩
theorem alm{c:Cg}(p:0 < c.m)(a:Int):c.m∣hiC c a-c.r:=by
 obtain⟨k,hk⟩:=acn p (a-c.r)
 exact⟨k,by unfold hiC;rw[←hk];omega⟩
theorem ah0{z:Int}(h: -C < z∧z < C):clip z=some z:=if_pos h
theorem ahZ{z:Int}(h:¬(-C < z∧z < C)):clip z=none:=if_neg h
theorem Wf.inS{a:A}(h:Wf a)(he:a.em=false){z:Int}(hz: -K < z∧z < K):inS (ofA a) z=true↔(∀ l,a.lo=some l→l≤z)∧∀ u,a.hi=some u→z≤u:=by
 unfold Go.N.inS ofA
 rw[he,if_neg (by simp)]
 simp only[Bool.and_eq_true,decide_eq_true_eq]
 cases a.lo with
 | none=>cases a.hi with
  | none=>simp[lox,hix,key];omega
  | some u=>simp[lox,hix,key];omega
 | some l=>cases a.hi with
  | none=>simp[lox,hix,key];omega
  | some u=>simp[lox,hix,key]
theorem ald:Wf Ev.a∧WfC Ev.c:=⟨afX,qY⟩
theorem alz:red Ev.a Ev.c=Ev:=if_pos rfl
theorem Ev_V:WfV Ev:=⟨ald.1,ald.2,alz⟩
end Go.N
namespace Go.N
open Go Go.Q Go.Rx
section
variable {c d:Cg}(hc:WfC c)(hd:WfC d){z w:Int}(hz:inC c z=true)(hw:inC d w=true)
include hc hd hz hw
end
theorem abL(m a:Int)(h:0≤m):dvd' m a=true↔m∣a:=by
 unfold dvd'
 by_cases h0:m=0
 ·rw[if_pos h0,h0];simp
 ·rw[if_neg h0,decide_eq_true_eq];exact alk (by omega)
theorem uN{c d:Cg}(hd:WfC d)(h1:c.em=false)(h2:d.em=false):qO c d=true↔d.m∣c.m∧d.m∣c.r-d.r:=by
 unfold qO
 rw[if_neg (by simp[h1]),if_neg (by simp[h2]),Bool.and_eq_true,abL _ _ hd.pos,abL _ _ hd.pos]
theorem afp{c:Cg}(hc:WfC c):qO c c=true:=by
 cases e:c.em with
 | true=>unfold qO;rw[if_pos e]
 | false=>exact(uN hc e e).2 ⟨Int.dvd_refl _,by simp⟩
theorem alF{c d:Cg}(h:cc c=cc d):c.em=d.em∧(c.em=false→c=d):=by
 unfold cc at h
 cases e1:c.em with
 | true=>cases e2:d.em with
  | true=>exact⟨rfl,nofun⟩
  | false=>rw[if_pos e1,if_neg (by simp[e2])]at h;have:=congrArg Prod.fst h;simp at this
 | false=>cases e2:d.em with
  | true=>rw[if_neg (by simp[e1]),if_pos e2]at h;have:=congrArg Prod.fst h;simp at this
  | false =>
   rw[if_neg (by simp[e1]),if_neg (by simp[e2])]at h
   simp only[Prod.mk.injEq]at h
   refine⟨rfl,fun _=>?_⟩
   have h1:=nX (aaN h.2.1)
   have h2:=nX (aaN h.2.2.1)
   cases c;cases d;simp_all
end Go.N
namespace Go.N
open Go Go.Q Go.Rx
noncomputable def metC (c d:Cg):Cg :=
 if c.em=true then Ec else if d.em=true then Ec
 else if c.m=0 then(if inC d c.r=true then c else Ec)
 else if d.m=0 then(if inC c d.r=true then d else Ec)
 else if dvd' (Int.gcd c.m d.m) (d.r-c.r)=true then clsF (c.m / (Int.gcd c.m d.m:Int)*d.m) (Classical.epsilon fun z=>c.m∣z-c.r∧d.m∣z-d.r)else Ec
theorem Cg.eta{c:Cg}(h:c.em=false):c=⟨false,c.m,c.r⟩:=by cases c;simp_all
theorem adg{L u v:Int}(h:0 < L)(d:L∣u-v):clsF L u=clsF L v:=by
 have e:(L.natAbs:Int)=L:=by omega
 unfold clsF
 rw[if_neg (show L≠0 by omega),if_neg (show L≠0 by omega),e,aid h d]
theorem adh{c:Cg}(hc:WfC c)(he:c.em=false){v:Int}(h:c.m≠0)(d:c.m∣v-c.r):clsF c.m v=c:=by
 have p:0 < c.m:=by have:=hc.pos;omega
 obtain⟨r0,r1⟩:=hc.rng h
 rw[adg p d,abI hc.pos hc.m hc.r,if_neg h,Int.fmod_eq_emod_of_nonneg _ hc.pos,Int.emod_eq_of_lt r0 r1]
 exact(Cg.eta he).symm
theorem agu{c d:Cg}(ec:c.em=false)(ed:d.em=false)(pc:0 < c.m)(pd:0 < d.m){v:Int}(h1:c.m∣v-c.r)(h2:d.m∣v-d.r):metC c d=clsF (c.m / (Int.gcd c.m d.m:Int)*d.m) v:=by
 have g:dvd' (Int.gcd c.m d.m) (d.r-c.r)=true:=by
  refine(abL _ _ (Int.natCast_nonneg _)).2 ?_
  have:=Int.dvd_sub (Int.dvd_trans (Int.gcd_dvd_left c.m d.m) h1) (Int.dvd_trans (Int.gcd_dvd_right c.m d.m) h2)
  rwa [show v-c.r-(v-d.r)=d.r-c.r by omega]at this
 unfold metC
 rw[if_neg (by simp[ec]),if_neg (by simp[ed]),if_neg (by omega),if_neg (by omega),if_pos g]
 obtain⟨k1,k2⟩:=Classical.epsilon_spec (p:=fun z=>c.m∣z-c.r∧d.m∣z-d.r) ⟨v,h1,h2⟩
 refine adg (lcm_pos pc pd) (lcm_dvd pc pd ?_ ?_)
 ·have:=Int.dvd_sub k1 h1
  rwa [show ∀ x:Int,x-c.r-(v-c.r)=x-v from fun x=>by omega]at this
 ·have:=Int.dvd_sub k2 h2
  rwa [show ∀ x:Int,x-d.r-(v-d.r)=x-v from fun x=>by omega]at this
theorem acv{a b:Int}(hb:0 < b)(h:b∣a):(Int.gcd a b:Int)=b:=by
 have:Int.gcd a b=b.natAbs:=by
  have:=Int.gcd_eq_right_iff_dvd (Int.le_of_lt hb) (a:=a)
  first
   | exact Int.ofNat.inj (by have:=this.2 h;rw[←Int.natAbs_of_nonneg (Int.le_of_lt hb)]at this;exact this)
   | omega
 omega
section
variable {c d:Cg}(hc:WfC c)(hd:WfC d)(ec:c.em=false)(ed:d.em=false)
include hc hd ec ed
theorem abu(h:qO c d=true):metC c d=c:=by
 obtain⟨a,b⟩:=(uN hd ec ed).1 h
 by_cases z:c.m=0
 ·unfold metC
  rw[if_neg (by simp[ec]),if_neg (by simp[ed]),if_pos z,if_pos ((xh ed hd.pos).2 b)]
 ·have pc:0 < c.m:=by have:=hc.pos;omega
  have pd:0 < d.m:=by
   have:=hd.pos
   by_cases e:d.m=0
   ·rw[e]at a;have:=Int.zero_dvd.1 a;omega
   ·omega
  rw[agu ec ed pc pd (v:=c.r) (by simp) b,acv pd a,Int.ediv_mul_cancel a]
  exact adh hc ec z (by simp)
theorem afB(h:qO d c=true):metC c d=d:=by
 obtain⟨a,b⟩:=(uN hc ed ec).1 h
 by_cases z:c.m=0
 ·rw[z]at a b
  have k1:d.m=0:=Int.zero_dvd.1 a
  have k2:d.r=c.r:=by have:=Int.zero_dvd.1 b;omega
  have e:c=d:=by rw[Cg.eta ec,Cg.eta ed,z,k1,k2]
  subst e
  exact abu hc hd ec ed (afp hc)
 ·by_cases z':d.m=0
  ·unfold metC
   rw[if_neg (by simp[ec]),if_neg (by simp[ed]),if_neg z,if_pos z',if_pos ((xh ec hc.pos).2 b)]
  ·have pc:0 < c.m:=by have:=hc.pos;omega
   have pd:0 < d.m:=by have:=hd.pos;omega
   have g:(Int.gcd c.m d.m:Int)=c.m:=by rw[Int.gcd_comm];exact acv pc a
   rw[agu ec ed pc pd (v:=d.r) b (by simp),g,Int.ediv_self (by omega),Int.one_mul]
   exact adh hd ed z' (by simp)
theorem aje(h1:¬qO c d=true)(h2:¬qO d c=true)(h:c.m=0∨d.m=0∨dvd' (Int.gcd c.m d.m) (d.r-c.r)=false):metC c d=Ec:=by
 unfold metC
 rw[if_neg (by simp[ec]),if_neg (by simp[ed])]
 by_cases z:c.m=0
 ·rw[if_pos z,if_neg]
  intro x
  exact h1 ((uN hd ec ed).2 ⟨by rw[z];exact Int.dvd_zero _,(xh ed hd.pos).1 x⟩)
 ·rw[if_neg z]
  by_cases z':d.m=0
  ·rw[if_pos z',if_neg]
   intro x
   exact h2 ((uN hc ed ec).2 ⟨by rw[z'];exact Int.dvd_zero _,(xh ec hc.pos).1 x⟩)
  ·rw[if_neg z']
   rcases h with h | h | h
   ·exact absurd h z
   ·exact absurd h z'
   ·rw[h,if_neg (by simp)]
end
theorem ahi{c d:Cg}(hc:WfC c)(hd:WfC d):WfC (metC c d):=by
 unfold metC;split;exact qY;split;exact qY;split
 ·split;exact hc;exact qY
 ·split
  ·split;exact hd;exact qY
  ·split;exact ve;exact qY
end Go.N
namespace Go.N
open Go Go.Q Go.Rx
theorem szKK{z:Int}(h: -K < z∧z < K):sz z≤20000:=by have:=szK h;omega
theorem ajG{a b g Q X:Int}(hg:g∣a)(hq:g*Q=b)(h:b∣X*a-g):b∣X.fmod Q*a-g:=by
 have mm:=Int.mul_fdiv_add_fmod X Q
 obtain⟨k,hk⟩:=hg
 have e:X.fmod Q*a-g=(X*a-g)-b*(X.fdiv Q*k):=by
  have e1:X.fmod Q=X-Q*X.fdiv Q:=by omega
  have e2:b*(X.fdiv Q*k)=Q*X.fdiv Q*a:=by
   rw[←hq]
   generalize X.fdiv Q=w at *
   rw[hk];grind
  rw[e1,e2,Int.sub_mul];omega
 rw[e]
 exact Int.dvd_sub h (Int.dvd_mul_right _ _)
theorem ahj{a b A B:Int}(ha: -A≤a∧a≤A)(hb: -B≤b∧b≤B): -(A*B)≤a*b∧a*b≤A*B:=by
 have h1:=Int.mul_nonneg (show 0≤A-a by omega) (show 0≤B+b by omega)
 have h2:=Int.mul_nonneg (show 0≤A+a by omega) (show 0≤B-b by omega)
 have h3:=Int.mul_nonneg (show 0≤A-a by omega) (show 0≤B-b by omega)
 have h4:=Int.mul_nonneg (show 0≤A+a by omega) (show 0≤B+b by omega)
 rw[Int.sub_mul,Int.mul_add,Int.mul_add]at h1
 rw[Int.add_mul,Int.mul_sub,Int.mul_sub]at h2
 rw[Int.sub_mul,Int.mul_sub,Int.mul_sub]at h3
 rw[Int.add_mul,Int.mul_add,Int.mul_add]at h4
 omega
set_option exponentiation.threshold 5000 in
theorem C4_K:C*(C+C)*C+C+10 < K∧C*(C+C)+10 < K:=by unfold C K;decide
theorem yc{a b:Int}(ha:0 < a):(Int.gcd a b:Int)*b.fdiv (Int.gcd a b:Int)=b∧b.fdiv (Int.gcd a b:Int)=b / (Int.gcd a b:Int)∧0 < (Int.gcd a b:Int):=by
 have gp:0 < (Int.gcd a b:Int):=by
  have:=Int.gcd_pos_of_ne_zero_left b (show a≠0 by omega)
  omega
 have e:b.fdiv (Int.gcd a b:Int)=b / (Int.gcd a b:Int):=Int.fdiv_eq_ediv_of_nonneg _ (Int.le_of_lt gp)
 exact⟨by rw[e];exact Int.mul_ediv_cancel' (Int.gcd_dvd_right _ _),e,gp⟩
section
variable (lf:Nat)(hb:Big lf){a b:Int}(ha:0 < a∧a < C)(hbb:0 < b∧b < C)
include hb ha hbb
theorem akp(v0 v1:ByteArray):∀ (k n:Nat) (r s x z:Int),s≤k→k < n→r < C→s < C→Bz a b r s x z→
  ∃ X:Int,bZ.l0 lf v0 v1 n (bs (Lib.itoa r)) (bs (Lib.itoa s)) (bs (Lib.itoa x)) (bs (Lib.itoa z))=some ((bs (Lib.itoa (Int.gcd r s)),bs (Lib.itoa X),()),())∧
   b∣X*a-(Int.gcd r s:Int)∧-b≤X∧X≤b:=by
 have h3:200000≤lf:=by have:=hb.1;omega
 have hCK:=fO
 have hCC:=CC_K
 have hC:=C_gt
 have h4:0≤C*C:=Int.mul_nonneg (by omega) (by omega)
 intro k
 induction k with
 | zero =>
  intro n r s x z hk hn hr hs' h
  obtain⟨m,rfl⟩:=Nat.exists_eq_succ_of_ne_zero (show n≠0 by omega)
  have s0:=h.s0
  have r0:=h.r0
  obtain rfl:s=0:=by omega
  have g:(Int.gcd r 0:Int)=r:=by rw[Int.gcd_zero_right];omega
  rw[g]
  refine⟨x,?_,h.xr,h.xb⟩
  rw[bZ.l0,bZ.r0,beq0,decide_eq_true rfl,Bool.not_true,brF]
 | succ k ih =>
  intro n r s x z hk hn hr hs' h
  obtain⟨m,rfl⟩:=Nat.exists_eq_succ_of_ne_zero (show n≠0 by omega)
  have s0:=h.s0
  have r0:=h.r0
  have b0:=h.b0
  by_cases hs:s=0
  ·subst hs
   have g:(Int.gcd r 0:Int)=r:=by rw[Int.gcd_zero_right];omega
   rw[g]
   refine⟨x,?_,h.xr,h.xb⟩
   rw[bZ.l0,bZ.r0,beq0,decide_eq_true rfl,Bool.not_true,brF]
  ·have sp:0 < s:=by omega
   have mm:=Int.mul_fdiv_add_fmod r s
   have f0:=Int.fmod_nonneg_of_pos r sp
   have f1:=Int.fmod_lt_of_pos r sp
   have q0:0≤r.fdiv s:=by rw[Int.fdiv_eq_ediv_of_nonneg _ s0];exact Int.ediv_nonneg (Int.le_of_lt r0) s0
   have nx:=h.next sp mm.symm f0 q0
   have zb:=h.zb
   have xb:=h.xb
   have nb:=nx.zb
   have nb2:=nx.xb
   have ql:r.fdiv s≤r:=by rw[Int.fdiv_eq_ediv_of_nonneg _ s0];exact Int.ediv_le_self s (Int.le_of_lt r0)
   have sr:s*r.fdiv s≤r:=by omega
   have qz: -(C*C) < r.fdiv s*z∧r.fdiv s*z < C*C:=yA (by omega) (by omega)
   have gs:(Int.gcd s (r.fmod s))=Int.gcd r s:=uM mm.symm sp f0 f1 (by omega)
   have sk: -K < s∧s < K:=by omega
   obtain⟨X,e1,e2,e3⟩:=ih m s (r.fmod s) z (x-r.fdiv s*z) (by omega) (by omega) hs' (by omega) nx
   rw[gs]at e1 e2
   refine⟨X,?_,e2,e3⟩
   have qs: -K < r.fdiv s*s∧r.fdiv s*s < K:=by rw[Int.mul_comm];have:=Int.mul_nonneg s0 q0;omega
   have e':r-r.fdiv s*s=r.fmod s:=by rw[Int.mul_comm];omega
   rw[bZ.l0,bZ.r0,beq0,decide_eq_false hs,Bool.not_false,brT,pV lf h3 (x:=r) (y:=s) (by have:=szKK (z:=r) (by omega);omega) (by have:=szKK sk;omega) hs,bdS]
   simp only[oN lf h3 (x:=r.fdiv s) (y:=s) (by omega) sk,bdS,diffI lf h3 (x:=r) (y:=r.fdiv s*s) (by omega) qs,e',oN lf h3 (x:=r.fdiv s) (y:=z) (by omega) (by omega),diffI lf h3 (x:=x) (y:=r.fdiv s*z) (by omega) (by omega)]
   exact e1
theorem alK:∃ (U:Int) (t:ByteArray),bZ.f lf (bs (Lib.itoa a)) (bs (Lib.itoa b))=some (bs (Lib.itoa U),t,())∧0≤U∧U < C∧b∣U*a-(Int.gcd a b:Int):=by
 have h3:200000≤lf:=by have:=hb.1;omega
 have hCK:=fO
 have hCC:=CC_K
 have hC:=C_gt
 have h4:0≤C*C:=Int.mul_nonneg (by omega) (by omega)
 have f0:=Int.fmod_nonneg_of_pos a hbb.1
 have f1:=Int.fmod_lt_of_pos a hbb.1
 have B0:Bz a b b (a.fmod b) 0 1:=by
  refine⟨hbb.1,hbb.1,f0,?_,?_,.inl ⟨by omega,by omega,by omega⟩,by omega⟩
  ·rw[Int.zero_mul,Int.zero_sub];exact Int.dvd_neg.2 (Int.dvd_refl _)
  ·rw[Int.one_mul];exact acn hbb.1 a
 obtain⟨X,e1,e2,e3⟩:=akp lf hb ha hbb (bs (Lib.itoa a)) (bs (Lib.itoa b)) (lf+39) (lf+40) b (a.fmod b) 0 1 (by have:=hb.2;omega) (by omega) hbb.2 (by omega) B0
 have gs:(Int.gcd b (a.fmod b))=Int.gcd a b:=uM (Int.mul_fdiv_add_fmod a b).symm hbb.1 f0 f1 (by omega)
 rw[gs]at e1 e2
 obtain⟨q1,q2,gp⟩:=yc (b:=b) ha.1
 have Qp:0 < b.fdiv (Int.gcd a b:Int):=by
  by_cases z:0 < b.fdiv (Int.gcd a b:Int)
  ·exact z
  ·have:=Int.mul_nonneg (Int.le_of_lt gp) (show 0≤-b.fdiv (Int.gcd a b:Int) by omega)
   rw[Int.mul_neg]at this;omega
 have Qb:b.fdiv (Int.gcd a b:Int)≤b:=by
  have:=Int.mul_le_mul_of_nonneg_right (show 1≤(Int.gcd a b:Int) by omega) (Int.le_of_lt Qp)
  omega
 have gb:(Int.gcd a b:Int)≤b:=Int.le_of_dvd hbb.1 (Int.gcd_dvd_right _ _)
 have u0:=Int.fmod_nonneg_of_pos X Qp
 have u1:=Int.fmod_lt_of_pos X Qp
 have pr:=yA (a:=a) (b:=X.fmod (b.fdiv (Int.gcd a b:Int))) (by omega) (by omega)
 have i1:(⟨#[49]⟩:ByteArray)=bs (Lib.itoa 1):=i1
 have i0:(⟨#[48]⟩:ByteArray)=bs (Lib.itoa 0):=i0
 have hn:((b.natAbs:Nat):Int)=b:=by omega
 refine⟨X.fmod (b.fdiv (Int.gcd a b:Int)),?_⟩
 rw[bZ.f,beq0,decide_eq_false (show ¬b=0 by omega),brF,qK,bdS]
 simp only[hn,qK,bdS,tZ lf h3 (x:=a) (y:=b) (szKK (by omega)) (szKK (by omega)) (by omega),i0,i1,e1,pV lf h3 (x:=b) (y:=(Int.gcd a b:Int)) (by have:=szKK (z:=b) (by omega);omega) (by have:=szKK (z:=(Int.gcd a b:Int)) (by omega);omega) (by omega),
  tZ lf h3 (x:=X) (y:=b.fdiv (Int.gcd a b:Int)) (szKK (by omega)) (szKK (by omega)) (by omega),oN lf h3 (x:=a) (y:=X.fmod (b.fdiv (Int.gcd a b:Int))) (by omega) (by omega),diffI lf h3 (x:=(Int.gcd a b:Int)) (y:=a*X.fmod (b.fdiv (Int.gcd a b:Int))) (by omega) (by omega),
  pV lf h3 (x:=(Int.gcd a b:Int)-a*X.fmod (b.fdiv (Int.gcd a b:Int))) (y:=b) (by have:=szKK (z:=(Int.gcd a b:Int)-a*X.fmod (b.fdiv (Int.gcd a b:Int))) (by omega);omega) (by have:=szKK (z:=b) (by omega);omega) (by omega)]
 exact⟨_,rfl,u0,by omega,ajG (Int.gcd_dvd_left _ _) q1 e2⟩
end
section
variable (lf:Nat)(hb:Big lf){c d:Cg}(hc:WfC c)(hd:WfC d)
include hb hc hd
theorem afA(ec:c.em=false)(ed:d.em=false)(pc:0 < c.m)(pd:0 < d.m)(dv:dvd' (Int.gcd c.m d.m) (d.r-c.r)=true){U:Int}(h:d.m∣U*c.m-(Int.gcd c.m d.m:Int)):
  metC c d=clsF (c.m / (Int.gcd c.m d.m:Int)*d.m) (c.r+U*(d.r-c.r).fdiv (Int.gcd c.m d.m:Int)*c.m):=by
 obtain⟨_,_,gp⟩:=yc (b:=d.m) pc
 have dd:=(abL _ _ (Int.natCast_nonneg _)).1 dv
 have q:(d.r-c.r)=(Int.gcd c.m d.m:Int)*(d.r-c.r).fdiv (Int.gcd c.m d.m:Int):=by
  rw[Int.fdiv_eq_ediv_of_nonneg _ (Int.le_of_lt gp)];exact(Int.mul_ediv_cancel' dd).symm
 refine agu ec ed pc pd ?_ (crt gp pc pd (Int.gcd_dvd_left _ _) (Int.gcd_dvd_right _ _) h q)
 rw[show ∀ t:Int,c.r+t-c.r=t from fun t=>by omega]
 exact Int.dvd_mul_left _ _
theorem adw{U:Int}(u0:0≤U)(u1:U < C)(pc:0 < c.m)(pd:0 < d.m):
  (-K < (d.r-c.r).fdiv (Int.gcd c.m d.m:Int)∧(d.r-c.r).fdiv (Int.gcd c.m d.m:Int) < K)∧(-K < U*(d.r-c.r).fdiv (Int.gcd c.m d.m:Int)∧U*(d.r-c.r).fdiv (Int.gcd c.m d.m:Int) < K)∧
  (-K < U*(d.r-c.r).fdiv (Int.gcd c.m d.m:Int)*c.m∧U*(d.r-c.r).fdiv (Int.gcd c.m d.m:Int)*c.m < K)∧(-K < c.r+U*(d.r-c.r).fdiv (Int.gcd c.m d.m:Int)*c.m∧c.r+U*(d.r-c.r).fdiv (Int.gcd c.m d.m:Int)*c.m < K):=by
 obtain⟨k1,k2⟩:=C4_K
 have hC:=C_gt
 have hCK:=fO
 have hCC:=CC_K
 have h4:0≤C*C:=Int.mul_nonneg (by omega) (by omega)
 obtain⟨_,_,gp⟩:=yc (b:=d.m) pc
 have r1:=hc.r
 have r2:=hd.r
 have m1:=hc.m
 have e1:=uK (x:=d.r-c.r) (y:=(Int.gcd c.m d.m:Int)) (by omega)
 have e2:=ahj (a:=U) (b:=(d.r-c.r).fdiv (Int.gcd c.m d.m:Int)) (A:=C) (B:=C+C) (by omega) (by omega)
 have e3:=ahj (b:=c.m) (B:=C) e2 (by omega)
 refine⟨?_,?_,?_,?_⟩<;>omega
theorem al2:oL.f lf (cc c) (cc d)=some (cc (metC c d),0,()):=by
 obtain⟨b1,b2,b3,b4,b5,b6,b7,b8,b9,b10⟩:=bounds lf hb hc hd
 have hlf:=hb.1
 rw[oL.f,cboth lf hb hc hd,bdS]
 cases ec:c.em with
 | true =>
  have:metC c d=Ec:=by unfold metC;rw[if_pos ec]
  rw[this,lK ec];simp only[bne_self_eq_false,brF,brT,aT.f,bdS];rfl
 | false=>cases ed:d.em with
  | true =>
   have:metC c d=Ec:=by unfold metC;rw[if_neg (by simp[ec]),if_pos ed]
   rw[this,dJ ec,lK ed];simp only[bne_self_eq_false,brF,brT,aT.f,bdS];rfl
  | false =>
   have e1:(cc c).1=false:=by rw[dJ ec]
   have e2:(cc d).1=false:=by rw[dJ ed]
   simp only[bne_self_eq_false,brF,e1,e2]
   rw[qM.f,afo lf hb hc hd,bdS]
   cases i1:qO c d with
   | true=>simp only[brT,bdS];rw[abu hc hd ec ed i1]
   | false =>
    simp only[brF,afo lf hb hd hc,bdS]
    cases i2:qO d c with
    | true=>simp only[brT,bdS];rw[afB hc hd ec ed i2]
    | false =>
     have k1:(cc d).2.1=bs (Lib.itoa d.m):=by rw[dJ ed]
     have k2:(cc d).2.2.1=bs (Lib.itoa d.r):=by rw[dJ ed]
     have k3:(cc c).2.1=bs (Lib.itoa c.m):=by rw[dJ ec]
     have k4:(cc c).2.2.1=bs (Lib.itoa c.r):=by rw[dJ ec]
     have r1:=hc.r
     have r2:=hd.r
     have hC:=C_gt
     have hCK:=fO
     have b5': -K < d.r-c.r∧d.r-c.r < K:=by omega
     have n:=aje hc hd ec ed (by simp[i1]) (by simp[i2])
     simp only[brF,k1,k2,k3,k4,zJ lf hb b1 b3,acg lf hb b4 b2 b5',bdS,beq0,aT.f]
     by_cases z1:c.m=0
     ·rw[n (.inl z1),decide_eq_true z1,brT,bdS];rfl
     ·rw[decide_eq_false z1,brF]
      by_cases z2:d.m=0
      ·rw[n (.inr (.inl z2)),decide_eq_true z2,brT,bdS];rfl
      ·rw[decide_eq_false z2,brF,vU lf hlf (qy b1 b3) b5',bdS]
       simp only
       cases dv:dvd' (Int.gcd c.m d.m) (d.r-c.r)with
       | false=>rw[n (.inr (.inr dv))];simp only[Bool.not_false,brT,bdS];rfl
       | true =>
        have pc:0 < c.m:=by have:=hc.pos;omega
        have pd:0 < d.m:=by have:=hd.pos;omega
        obtain⟨_,_,gp⟩:=yc (b:=d.m) pc
        obtain⟨t1,t3,U,u1,u2,u3,u4⟩:=aiL lf hb ⟨pc,hc.m.2⟩ ⟨pd,hd.m.2⟩
        obtain⟨s1,s2,s3,s4⟩:=adw lf hb hc hd u2 u3 pc pd
        have lc: -K < c.m / (Int.gcd c.m d.m:Int)*d.m∧c.m / (Int.gcd c.m d.m:Int)*d.m < K:=by
         have h1:=lcm_pos pc pd
         have x:=Int.ediv_le_self (Int.gcd c.m d.m:Int) (Int.le_of_lt pc)
         have:=Int.mul_le_mul_of_nonneg_right x (Int.le_of_lt pd)
         omega
        simp only[Bool.not_true,brF,u1,bdS,zh lf hlf b5' (qy b1 b3) (by omega),gY.f,aaR lf hb (x:=U) (y:=(d.r-c.r).fdiv (Int.gcd c.m d.m:Int)) (by omega) s1 s2,amJ lf hb ⟨pc,hc.m.2⟩ ⟨pd,hd.m.2⟩,
         aaR lf hb s2 b1 s3,aiM lf hb b2 s3 s4,wR lf hlf lc s4]
        rw[afA lf hb hc hd ec ed pc pd dv u4]
theorem amL:mX.f lf (cc c) (cc d)=some (cc (metC c d),()):=by
 obtain⟨b1,b2,b3,b4,b5,b6,b7,b8,b9,b10⟩:=bounds lf hb hc hd
 have hlf:=hb.1
 have h3:200000≤lf:=by omega
 have r1:=hc.r
 have r2:=hd.r
 have hC:=C_gt
 have hCK:=fO
 have hCD:=jV
 rw[mX.f]
 cases ec:c.em with
 | true =>
  have:metC c d=Ec:=by unfold metC;rw[if_pos ec]
  rw[this,lK ec];simp only[brT,aH.f,bdS];rfl
 | false=>cases ed:d.em with
  | true =>
   have:metC c d=Ec:=by unfold metC;rw[if_neg (by simp[ec]),if_pos ed]
   rw[this,dJ ec,lK ed];simp only[brF,brT,aH.f,bdS];rfl
  | false =>
   have e1:(cc c).1=false:=by rw[dJ ec]
   have e2:(cc d).1=false:=by rw[dJ ed]
   have k1:(cc d).2.1=bs (Lib.itoa d.m):=by rw[dJ ed]
   have k2:(cc d).2.2.1=bs (Lib.itoa d.r):=by rw[dJ ed]
   have k3:(cc c).2.1=bs (Lib.itoa c.m):=by rw[dJ ec]
   have k4:(cc c).2.2.1=bs (Lib.itoa c.r):=by rw[dJ ec]
   have b5': -K < d.r-c.r∧d.r-c.r < K:=by omega
   simp only[brF,e1,e2,k1,k2,k3,k4,beq0,aH.f,bdS,in_r lf hb hd (a:=c.r) (by omega),in_r lf hb hc (a:=d.r) (by omega)]
   have M:metC c d=if c.m=0 then(if inC d c.r=true then c else Ec)else if d.m=0 then(if inC c d.r=true then d else Ec)else if dvd' (Int.gcd c.m d.m) (d.r-c.r)=true then metC c d else Ec:=by
    unfold metC
    rw[if_neg (by simp[ec]),if_neg (by simp[ed])]
    split
    ·rfl
    ·split
     ·rfl
     ·split<;>rfl
   by_cases z1:c.m=0
   ·rw[if_pos z1]at M
    rw[M,decide_eq_true z1,brT,Bool.not_true,brF]
    cases inC d c.r<;>simp only[brT,brF,if_true,if_false,Bool.false_eq_true]<;>rfl
   ·rw[if_neg z1]at M
    rw[decide_eq_false z1,brF]
    by_cases z2:d.m=0
    ·rw[if_pos z2]at M
     rw[M,decide_eq_true z2,brT,Bool.not_false,brT]
     cases inC c d.r<;>simp only[brT,brF,if_true,if_false,Bool.false_eq_true]<;>rfl
    ·rw[if_neg z2]at M
     rw[decide_eq_false z2,brF,qP lf hb b1 b3,bdS,diffI lf h3 b4 b2,bdS]
     simp only
     rw[vk lf h3 (szKK (qy b1 b3)) (szKK b5'),bdS]
     simp only
     cases dv:dvd' (Int.gcd c.m d.m) (d.r-c.r)with
     | false=>rw[dv,if_neg (by simp)]at M;rw[M];simp only[Bool.not_false,brT];rfl
     | true =>
      have pc:0 < c.m:=by have:=hc.pos;omega
      have pd:0 < d.m:=by have:=hd.pos;omega
      obtain⟨q1,q2,gp⟩:=yc (b:=d.m) pc
      obtain⟨U,t,u1,u2,u3,u4⟩:=alK lf hb ⟨pc,hc.m.2⟩ ⟨pd,hd.m.2⟩
      obtain⟨s1,s2,s3,s4⟩:=adw lf hb hc hd u2 u3 pc pd
      have lc: -K < c.m*d.m.fdiv (Int.gcd c.m d.m:Int)∧c.m*d.m.fdiv (Int.gcd c.m d.m:Int) < K:=by
       have h1:=lcm_pos pc pd
       rw[ahd pc pd,←q2]at h1
       have x:=Int.ediv_le_self (Int.gcd c.m d.m:Int) (Int.le_of_lt pd)
       rw[←q2]at x
       have:=Int.mul_le_mul_of_nonneg_left x (Int.le_of_lt pc)
       omega
      have qd: -K < d.m.fdiv (Int.gcd c.m d.m:Int)∧d.m.fdiv (Int.gcd c.m d.m:Int) < K:=by
       have x:=Int.ediv_le_self (Int.gcd c.m d.m:Int) (Int.le_of_lt pd)
       have y:=Int.ediv_nonneg (Int.le_of_lt pd) (Int.le_of_lt gp)
       rw[←q2]at x y;omega
      have gk:=qy b1 b3
      rw[Int.mul_comm (U*(d.r-c.r).fdiv (Int.gcd c.m d.m:Int)) c.m]at s3 s4
      simp only[Bool.not_true,brF,u1,bdS,pV lf h3 (x:=d.r-c.r) (y:=(Int.gcd c.m d.m:Int)) (by have:=szKK b5';omega) (by have:=szKK gk;omega) (by omega),oN lf h3 (x:=U) (y:=(d.r-c.r).fdiv (Int.gcd c.m d.m:Int)) (by omega) s1,
       pV lf h3 (x:=d.m) (y:=(Int.gcd c.m d.m:Int)) (by have:=szKK b3;omega) (by have:=szKK gk;omega) (by omega),oN lf h3 (x:=c.m) (y:=d.m.fdiv (Int.gcd c.m d.m:Int)) b1 qd,oN lf h3 (x:=c.m) b1 s2,sumI lf h3 (x:=c.r) b2 s3,pX lf h3 lc s4]
      rw[afA lf hb hc hd ec ed pc pd dv u4,ahd pc pd,←q2,Int.mul_comm c.m (U*_)]
end
end Go.N
namespace Go.N
open Go Go.Q Go.Rx
theorem clipV(lf:Nat){o:Option Int}(h:okb K o):dH.f lf (ob o)=some (ob (o.bind clip),()):=by
 rw[dH.f]
 cases o with
 | none=>rw[show ob none=bs [] from rfl,rY,bdS,jB,show body []=[] from rfl,decide_eq_false (by simp),brF];rfl
 | some z =>
  have hl:=rP h
  rw[show ob (some z)=bs (Lib.itoa z) from rfl,rY,bdS,jB]
  have e:(((body (Lib.itoa z)).length:Nat):Int)=(sz z:Int):=rfl
  simp only[e,Option.bind]
  by_cases c: -C < z∧z < C
  ·have:=(sz_C z).2 c
   rw[decide_eq_false (by omega),brF,ah0 c];rfl
  ·have:¬sz z≤100:=fun x=>c ((sz_C z).1 x)
   rw[decide_eq_true (by omega),brT,ahZ c];rfl
set_option exponentiation.threshold 5000 in
theorem alc:C+C < Dd:=by
 have e:(10 ^ 100+10 ^ 100:Nat) < 10 ^ 1000:=by
  have:(10:Nat) ^ 1000=10 ^ 100*10 ^ 900:=by rw[←Nat.pow_add]
  rw[this]
  have:(2:Nat) < 10 ^ 900:=Nat.lt_of_lt_of_le (show(2:Nat) < 10 ^ 1 by decide) (Nat.pow_le_pow_right (by decide) (by decide))
  have h:=Nat.mul_lt_mul_of_pos_left this (show 0 < 10 ^ 100 by exact Nat.pow_pos (by decide))
  omega
 unfold C Dd;exact Int.ofNat_lt.2 e
theorem evV:((((true,(⟨#[]⟩:ByteArray),(⟨#[]⟩:ByteArray),()),(true,(⟨#[]⟩:ByteArray),(⟨#[]⟩:ByteArray),()),()):VV))=vc Ev:=rfl
theorem onV(z:Int):(((false,bs (Lib.itoa z),bs (Lib.itoa z),()),(false,(⟨#[48]⟩:ByteArray),bs (Lib.itoa z),()),()):VV)=vc (onev z):=by
 rw[i0];unfold vc onev;rw[dJ rfl];rfl
theorem adA(x:Int):((bs (Lib.itoa x)).toList==(⟨#[]⟩:ByteArray).toList)=false:=by
 have:=lZ (some x)
 rw[show ob (some x)=bs (Lib.itoa x) from rfl]at this
 rw[this];exact decide_eq_false nofun
theorem ob_e:((ob none).toList==(⟨#[]⟩:ByteArray).toList)=true:=by rw[lZ];rfl
theorem ak0(x y:Int):decide (sgn (x-y) > 0)=decide (y < x):=agE x y
theorem amV(x y:Int):(sgn (x-y)==0)=decide (x=y):=by
 rw[Bool.eq_iff_iff,beq_iff_eq,decide_eq_true_eq]
 unfold sgn;(repeat' split)<;>omega
section
variable (lf:Nat)(hb:Big lf){a:A}{c:Cg}(ha:Wf a)(hc:WfC c)
include hb ha hc
theorem lo_K{l:Int}(h: -C < l∧l < C)(p:0 < c.m): -K < loC c l∧loC c l < K∧-Dd < loC c l∧loC c l < Dd:=by
 have:=lo_m p l
 have:=hc.m
 have:=C_gt
 have:=CC_K
 have hD:=DD_K
 have hCD:=jV
 have h4:C*2≤C*C:=Int.mul_le_mul_of_nonneg_left (by omega) (by omega)
 have h5:=alc
 have h6:=Dd_K
 omega
theorem hi_K{l:Int}(h: -C < l∧l < C)(p:0 < c.m): -K < hiC c l∧hiC c l < K∧-Dd < hiC c l∧hiC c l < Dd:=by
 have:=hi_m p l
 have:=hc.m
 have:=C_gt
 have h5:=alc
 have h6:=Dd_K
 omega
theorem abj:dS.f lf (ac a) (cc c)=some (vc (red a c),()):=by
 have hlf:=hb.1
 have h3:200000≤lf:=by omega
 have hCD:=jV
 rw[dS.f]
 simp only[show(ac a).1=a.em from rfl,show(ac a).2.1=ob a.lo from rfl,show(ac a).2.2.1=ob a.hi from rfl,iL.f,bdS,evV,oP.f]
 unfold red
 cases ea:a.em with
 | true=>simp only[brT,if_true]
 | false =>
  cases ec:c.em with
  | true=>rw[lK ec];simp only[brT,brF,if_true,if_false,Bool.false_eq_true]
  | false =>
   have e1:(cc c).1=false:=by rw[dJ ec]
   have e2:(cc c).2.1=bs (Lib.itoa c.m):=by rw[dJ ec]
   have e3:(cc c).2.2.1=bs (Lib.itoa c.r):=by rw[dJ ec]
   simp only[brF,if_false,Bool.false_eq_true,e1,e2,e3,beq0]
   by_cases m:c.m=0
   ·rw[decide_eq_true m,brT,if_pos m,ai5 lf h3 ha (CK hc.r),bdS]
    simp only
    cases hi:inS (ofA a) c.r with
    | true=>simp only[Bool.not_true,brF,if_true,onV]
    | false=>simp only[Bool.not_false,brT,if_false,Bool.false_eq_true]
   ·have p:0 < c.m:=by have:=hc.pos;omega
    rw[decide_eq_false m,brF,if_neg m]
    have kl:=ha.lo
    have kh:=ha.hi
    have L:=fun {l:Int} (h: -C < l∧l < C)=>aky lf hb hc ec (a:=l) (by omega)
    have G':=fun {l:Int} (h: -C < l∧l < C)=>agk lf hb hc ec (a:=l) (by omega)
    have ab:∀ l,aboveC c l=some (loC c l):=fun l=>if_neg m
    have be:∀ l,belowC c l=some (hiC c l):=fun l=>if_neg m
    have cN:=clipV lf (o:=none) trivial
    cases hl:a.lo with
    | none=>cases hh:a.hi with
     | none=>simp only[ob_e,Bool.not_true,brF,cN,bdS,Option.map,fin3];rfl
     | some u =>
      rw[hh]at kh
      have g:=G' kh
      rw[be]at g
      have kk:=hi_K lf hb ha hc kh p
      have cU:=clipV lf (o:=some (hiC c u)) ⟨kk.1,kk.2.1⟩
      simp only[show ob (some u)=bs (Lib.itoa u) from rfl,show ob (some (hiC c u))=bs (Lib.itoa (hiC c u)) from rfl]at *
      simp only[ob_e,adA,Bool.not_true,Bool.not_false,brF,brT,g,cN,cU,bdS,Option.map,fin3];rfl
    | some l =>
     rw[hl]at kl
     have g:=L kl
     rw[ab]at g
     have kk:=lo_K lf hb ha hc kl p
     have cL:=clipV lf (o:=some (loC c l)) ⟨kk.1,kk.2.1⟩
     cases hh:a.hi with
     | none =>
      simp only[show ob (some l)=bs (Lib.itoa l) from rfl,show ob (some (loC c l))=bs (Lib.itoa (loC c l)) from rfl]at *
      simp only[ob_e,adA,Bool.not_true,Bool.not_false,brF,brT,g,cN,cL,bdS,Option.map,fin3];rfl
     | some u =>
      rw[hh]at kh
      have g2:=G' kh
      rw[be]at g2
      have kk2:=hi_K lf hb ha hc kh p
      have cU:=clipV lf (o:=some (hiC c u)) ⟨kk2.1,kk2.2.1⟩
      have cm:=aaT lf _ _ (chkK ⟨kk.1,kk.2.1⟩) (chkK ⟨kk2.1,kk2.2.1⟩) h3
      rw[dX,dX]at cm
      simp only[show ob (some l)=bs (Lib.itoa l) from rfl,show ob (some (loC c l))=bs (Lib.itoa (loC c l)) from rfl,show ob (some u)=bs (Lib.itoa u) from rfl,show ob (some (hiC c u))=bs (Lib.itoa (hiC c u)) from rfl]at *
      simp only[ob_e,adA,Bool.not_true,Bool.not_false,brF,brT,g,g2,cm,bdS,ak0,amV,Option.map,fin3]
      by_cases h1:hiC c u < loC c l
      ·rw[decide_eq_true h1,brT,if_pos h1]
      ·rw[decide_eq_false h1,brF,if_neg h1]
       by_cases h2:loC c l=hiC c u
       ·rw[decide_eq_true h2,brT,if_pos h2,onV]
       ·rw[decide_eq_false h2,brF,if_neg h2,cL,bdS,cU,bdS];rfl
theorem abb:bV.f lf (ac a) (cc c)=some (vc (red a c),()):=by
 have hlf:=hb.1
 have h3:200000≤lf:=by omega
 have hCD:=jV
 rw[bV.f]
 simp only[show(ac a).1=a.em from rfl,show(ac a).2.1=ob a.lo from rfl,show(ac a).2.2.1=ob a.hi from rfl,bU.f,aA.f,aH.f,bdS,evV]
 unfold red
 cases ea:a.em with
 | true=>simp only[brT,if_true]
 | false =>
  cases ec:c.em with
  | true=>rw[lK ec];simp only[brT,brF,if_true,if_false,Bool.false_eq_true]
  | false =>
   have e1:(cc c).1=false:=by rw[dJ ec]
   have e2:(cc c).2.1=bs (Lib.itoa c.m):=by rw[dJ ec]
   have e3:(cc c).2.2.1=bs (Lib.itoa c.r):=by rw[dJ ec]
   simp only[brF,if_false,Bool.false_eq_true,e1,e2,e3,beq0]
   by_cases m:c.m=0
   ·rw[decide_eq_true m,brT,if_pos m,al0 lf h3 ha (CK hc.r),bdS]
    simp only
    cases hi:inS (ofA a) c.r with
    | true =>
     simp only[Bool.not_true,brF,if_true,←onV]
     rw[dJ ec,m,i0]
    | false=>simp only[Bool.not_false,brT,if_false,Bool.false_eq_true]
   ·have p:0 < c.m:=by have:=hc.pos;omega
    rw[decide_eq_false m,brF,if_neg m]
    have kl:=ha.lo
    have kh:=ha.hi
    have L:=fun {l:Int} (h: -C < l∧l < C)=>agP lf hb hc ec (a:=l) (by omega)
    have G':=fun {l:Int} (h: -C < l∧l < C)=>akk lf hb hc ec (a:=l) (by omega)
    have ab:∀ l,aboveC c l=some (loC c l):=fun l=>if_neg m
    have be:∀ l,belowC c l=some (hiC c l):=fun l=>if_neg m
    have toL:∀ x y:Option Int,okb K x→okb K y→gt? x y=false→toA ⟨lox x,hix y⟩=⟨false,x.bind clip,y.bind clip⟩:=by
     intro x y hx hy h
     unfold toA;rw[aiX hx hy,h,if_neg (by simp),aeM,aeL]
    cases hl:a.lo with
    | none=>cases hh:a.hi with
     | none =>
      simp only[ob_e,Bool.not_true,brF,jI lf h3 none none trivial trivial,toL none none trivial trivial rfl,bdS,Option.map,fin3];rfl
     | some u =>
      rw[hh]at kh
      have g:=G' kh
      rw[be]at g
      have kk:=hi_K lf hb ha hc kh p
      have rg:=jI lf h3 none (some (hiC c u)) trivial ⟨kk.1,kk.2.1⟩
      rw[toL none (some (hiC c u)) trivial ⟨kk.1,kk.2.1⟩ rfl]at rg
      simp only[show ob (some u)=bs (Lib.itoa u) from rfl,show ob (some (hiC c u))=bs (Lib.itoa (hiC c u)) from rfl]at *
      simp only[ob_e,adA,Bool.not_true,Bool.not_false,brF,brT,g,rg,bdS,Option.map,fin3];rfl
    | some l =>
     rw[hl]at kl
     have g:=L kl
     rw[ab]at g
     have kk:=lo_K lf hb ha hc kl p
     cases hh:a.hi with
     | none =>
      have rg:=jI lf h3 (some (loC c l)) none ⟨kk.1,kk.2.1⟩ trivial
      rw[toL (some (loC c l)) none ⟨kk.1,kk.2.1⟩ trivial rfl]at rg
      simp only[show ob (some l)=bs (Lib.itoa l) from rfl,show ob (some (loC c l))=bs (Lib.itoa (loC c l)) from rfl]at *
      simp only[ob_e,adA,Bool.not_true,Bool.not_false,brF,brT,g,rg,bdS,Option.map,fin3];rfl
     | some u =>
      rw[hh]at kh
      have g2:=G' kh
      rw[be]at g2
      have kk2:=hi_K lf hb ha hc kh p
      have ls:=lessI lf h3 (x:=hiC c u) (y:=loC c l) ⟨kk2.1,kk2.2.1⟩ ⟨kk.1,kk.2.1⟩
      have rg:=jI lf h3 (some (loC c l)) (some (hiC c u)) ⟨kk.1,kk.2.1⟩ ⟨kk2.1,kk2.2.1⟩
      have T:=toL (some (loC c l)) (some (hiC c u)) ⟨kk.1,kk.2.1⟩ ⟨kk2.1,kk2.2.1⟩
      simp only[show ob (some l)=bs (Lib.itoa l) from rfl,show ob (some (loC c l))=bs (Lib.itoa (loC c l)) from rfl,show ob (some u)=bs (Lib.itoa u) from rfl,show ob (some (hiC c u))=bs (Lib.itoa (hiC c u)) from rfl]at *
      have eqt:((bs (Lib.itoa (loC c l))).toList==(bs (Lib.itoa (hiC c u))).toList)=decide (loC c l=hiC c u):=by
       rw[kG];simp only[decide_eq_decide];exact⟨nX,fun e=>by rw[e]⟩
      simp only[ob_e,adA,Bool.not_true,Bool.not_false,brF,brT,g,g2,ls,bdS,eqt,Option.map,fin3]
      by_cases h1:hiC c u < loC c l
      ·rw[decide_eq_true h1,brT,if_pos h1]
      ·rw[decide_eq_false h1,brF,if_neg h1]
       by_cases h2:loC c l=hiC c u
       ·have kC: -C < loC c l∧loC c l < C:=by
         have:=lo_m p l
         have:=hi_m p u
         simp only[okb]at kl kh
         omega
        have hC:=C_gt
        have hCK:=fO
        rw[decide_eq_true h2,brT,if_pos h2,jP.f,iZ.f,i0,pX lf h3 (m:=0) (by omega) (CK kC),bdS,bdS]
        simp only
        rw[abI (Int.le_refl 0) (by omega) kC,if_pos rfl,dJ rfl]
        simp only[←i0,BEq.rfl,Bool.not_true,brF,bdS]
        rw[onV]
       ·rw[decide_eq_false h2,brF,if_neg h2,rg,T (by unfold gt?;simp;omega),bdS];rfl
end
end Go.N
namespace Go.N
open Go Go.Q Go.Rx
theorem ru{s:Sp}{z:Int}:inS s z=true↔key s.lo≤z∧z≤key s.hi:=by unfold inS;simp
theorem tJ{s:Sp}{z:Int}(h:inS s z=true):emp s=false:=ah8 h
theorem yR{s:Sp}{z:Int}(h:inS s z=true):inS (turn s) (-z)=true:=by
 have e:=tJ h
 rw[ru]at h⊢
 unfold turn
 rw[if_neg (by simp[e])]
 simp only[lm];omega
theorem afm{s t:Sp}{z:Int}(h:inS s z=true):inS (hull s t) z=true:=by
 have e:=tJ h
 rw[ru]at h⊢
 unfold hull
 rw[if_neg (by simp[e])]
 split
 ·exact h
 ·simp only[kF,kT];omega
theorem afn{s t:Sp}{z:Int}(h:inS t z=true):inS (hull s t) z=true:=by
 have e:=tJ h
 rw[ru]at h⊢
 unfold hull
 split
 ·exact h
 ·rw[if_neg (by simp[e])]
  simp only[kF,kT];omega
theorem aee{s:Sp}(hs:oks C s){z:Int}(h:inS s z=true)(h1:1≤z):inS (posS s) z=true:=by
 have k:=sU hs
 rw[ru]at h⊢
 omega
section
variable {s t:Sp}(hs:oks C s)(ht:oks C t){x y:Int}(bx: -Dd < x∧x < Dd)(by': -Dd < y∧y < Dd)(hx:inS s x=true)(hy:inS t y=true)
include hs ht bx by' hx hy
theorem ai6:inS (addS s t) (x+y)=true:=by
 have hK:=DD_K
 have hC:=C_gt
 have hD:=jV
 have h4:0≤Dd*Dd:=Int.mul_nonneg (by omega) (by omega)
 have e1:=tJ hx
 have e2:=tJ hy
 rw[ru]at hx hy⊢
 unfold addS
 rw[if_neg (by simp[e1]),if_neg (by simp[e2])]
 obtain⟨sl,sh⟩:=s
 obtain⟨tl,th⟩:=t
 simp only at hx hy⊢
 have pl:=hx.1
 have ph:=hx.2
 have ql:=hy.1
 have qh:=hy.2
 constructor
 ·cases sl<;>cases tl<;>simp only[xadd,key]at pl ql⊢<;>omega
 ·cases sh<;>cases th<;>simp only[xadd,key]at ph qh⊢<;>omega
theorem alZ:inS (apS xmul s t) (x*y)=true:=by
 have e1:=tJ hx
 have e2:=tJ hy
 rw[ru]at hx hy⊢
 have en:=xP (o:=xmul) e1 e2
 obtain⟨⟨cx,cy,c1,c2,c3⟩,⟨dx,dy,d1,d2,d3⟩⟩:=corner hs ht (x:=.fin x) (y:=.fin y) ⟨bx,hx⟩ ⟨by',hy⟩
 have a:=en.1.2 cx cy c1 c2
 have b:=en.2.2 dx dy d1 d2
 rw[sW,show key (X.fin (x*y))=x*y from rfl]at c3 d3
 omega
theorem ahb(h1:1≤y)(p1:Po t.lo)(p2:Po t.hi):inS (apS xover s t) (x.fdiv y)=true:=by
 have e1:=tJ hx
 have e2:=tJ hy
 rw[ru]at hx hy⊢
 have en:=xP (o:=xover) e1 e2
 have py:Po (.fin y):=h1
 have oy:okx Dd (.fin y):=by'
 have ox:okx Dd (.fin x):=bx
 have kx:key (X.fin x)=x:=rfl
 have ky:key (X.fin y)=y:=rfl
 have kq:key (xover (.fin x) (.fin y))=x.fdiv y:=rfl
 have lo:=ab3 hs.1.D ox py (by rw[kx];exact hx.1)
 have hi:=ab3 ox hs.2.D py (by rw[kx];exact hx.2)
 rw[kq]at lo hi
 constructor
 ·by_cases n:key s.lo < 0
  ·have:=aeU hs.1.D p1 py ht.1.D oy (by rw[ky];exact hy.1) n
   have:=en.1.2 s.lo t.lo (.inl rfl) (.inl rfl)
   omega
  ·have:=aeV hs.1.D py p2 oy ht.2.D (by rw[ky];exact hy.2) (by omega)
   have:=en.1.2 s.lo t.hi (.inl rfl) (.inr rfl)
   omega
 ·by_cases n:key s.hi < 0
  ·have:=aeU hs.2.D py p2 oy ht.2.D (by rw[ky];exact hy.2) n
   have:=en.2.2 s.hi t.hi (.inr rfl) (.inr rfl)
   omega
  ·have:=aeV hs.2.D p1 py ht.1.D oy (by rw[ky];exact hy.1) (by omega)
   have:=en.2.2 s.hi t.lo (.inr rfl) (.inl rfl)
   omega
theorem ai7(h1:1≤y):inS (remI s t) (x.fmod y)=true:=by
 have hK:=Dd_K
 have hC:=C_gt
 have hD:=jV
 have m:=Int.mul_fdiv_add_fmod x y
 have b:=tY x h1
 have le_x:0≤x→x.fmod y≤x:=fun h0=>by
  have:=aeb h1 h0
  have:=Int.mul_nonneg (show 0≤y by omega) this
  omega
 have e1:=tJ hx
 have e2:=tJ hy
 rw[ru]at hx hy
 rw[ru]
 unfold remI
 split
 ·rename_i sg
  obtain⟨tl,th⟩:=t
  have ex:∃ c,tl=.fin c∧th=.fin c:=by
   cases tl<;>cases th<;>simp[single]at sg
   exact⟨_,rfl,by rw[sg]⟩
  obtain⟨c,rfl,rfl⟩:=ex
  simp only[key]at hy
  obtain rfl:y=c:=by omega
  simp only[valX]
  have all:key (allS y).lo≤x.fmod y∧x.fmod y≤key (allS y).hi:=by simp only[allS,key];omega
  obtain⟨sl,sh⟩:=s
  cases sl with
  | ni=>simp only[resS];exact all
  | pi=>simp only[resS];exact all
  | fin l=>cases sh with
   | ni=>simp only[resS];exact all
   | pi=>simp only[resS];exact all
   | fin h =>
    simp only[key]at hx
    simp only[resS]
    rw[afL h1 (by omega)]
    split
    ·rename_i q
     have m1:=Int.mul_fdiv_add_fmod l y
     have m2:=Int.mul_fdiv_add_fmod h y
     have g1:=vV h1 hx.1
     have g2:=vV h1 hx.2
     have e:x.fdiv y=l.fdiv y:=by omega
     rw[e]at m
     rw[←q]at m2
     simp only[key];omega
    ·exact all
 ·split
  ·rename_i c1 c2
   have:x.fmod y=x:=by
    have:=(kJ (x:=x) (y:=y) (q:=0) (r:=x) (by rw[Int.mul_zero];omega) (.inl (by omega))).2
    omega
   rw[this];exact hx
  ·rename_i c1 c2
   refine⟨b.1,?_⟩
   have kx:x.fmod y≤key (xsh t.hi (-1)):=by
    have hh:=hy.2
    cases e:t.hi with
    | ni=>rw[e]at hh;simp only[key]at hh;omega
    | pi=>simp only[xsh,key];omega
    | fin v=>rw[e]at hh;simp only[xsh,key]at hh⊢;omega
   simp only
   split
   ·rename_i c3
    rw[kF]
    have:=le_x (by omega)
    omega
   ·exact kx
end
section
variable {s t:Sp}(hs:oks C s)(ht:oks C t)(ps:Pr s)(pt':Pr t){x y:Int}(bx: -Dd < x∧x < Dd)(by': -Dd < y∧y < Dd)(hx:inS s x=true)(hy:inS t y=true)
include hs ht ps pt' bx by' hx hy
theorem aku(h0:y≠0):inS (quoS s t) (x.fdiv y)=true:=by
 have e1:=tJ hx
 unfold quoS
 rw[if_neg (by simp[e1])]
 rcases Int.lt_or_lt_of_ne h0 with z | z
 ·have hy':=aee (fV ht) (yR hy) (show 1≤-y by omega)
  have e:=tJ hy'
  obtain⟨l,l1,l2,l3⟩:=qm e (fV ht) pt'.turn
  rw[if_neg (show ¬emp (posS (turn t))=true by simp[e])]
  apply afn
  have:=ahb (fV hs) (fE (fV ht)) (x:= -x) (y:= -y) (by omega) (by omega) (yR hx) hy' (by omega) (by rw[l1];exact l2) l3
  have q:(-x).fdiv (-y)=x.fdiv y:=by
   have m:=Int.mul_fdiv_add_fmod x y
   have a:=Int.fmod_nonneg_of_pos (-x) (show 0 < -y by omega)
   have b:=Int.fmod_lt_of_pos (-x) (show 0 < -y by omega)
   rw[Int.neg_fmod_neg]at a b
   exact((kJ (x:= -x) (y:= -y) (q:=x.fdiv y) (r:= -x.fmod y) (by rw[Int.neg_mul];omega) (.inl (by omega))).1).symm
  rw[q]at this
  exact this
 ·have hy':=aee ht hy (show 1≤y by omega)
  have e:=tJ hy'
  obtain⟨l,l1,l2,l3⟩:=qm e ht pt'
  rw[if_neg (show ¬emp (posS t)=true by simp[e])]
  apply afm
  exact ahb hs (fE ht) bx by' hx hy' (by omega) (by rw[l1];exact l2) l3
theorem akv(h0:y≠0):inS (remS s t) (x.fmod y)=true:=by
 have e1:=tJ hx
 unfold remS
 rw[if_neg (by simp[e1])]
 rcases Int.lt_or_lt_of_ne h0 with z | z
 ·have hy':=aee (fV ht) (yR hy) (show 1≤-y by omega)
  have e:=tJ hy'
  have:=yR (ai7 (fV hs) (fE (fV ht)) (x:= -x) (y:= -y) (by omega) (by omega) (yR hx) hy' (by omega))
  rw[Int.neg_fmod_neg,Int.neg_neg]at this
  split
  ·rw[if_neg (show ¬emp (posS (turn t))=true by simp[e])];exact this
  ·rw[if_neg (show ¬emp (posS (turn t))=true by simp[e])];exact afn this
 ·have hy':=aee ht hy (show 1≤y by omega)
  have e:=tJ hy'
  have:=ai7 hs (fE ht) bx by' hx hy' (by omega)
  rw[if_neg (show ¬emp (posS t)=true by simp[e])]
  split
  ·exact this
  ·exact afm this
end
def valO(op x y:Int):Int:=if op=3 then x+y else if op=4 then x-y else if op=5 then x*y else if op=6 then x.fdiv y else x.fmod y
theorem amE{s t:Sp}(hs:oks C s)(ht:oks C t)(ps:Pr s)(pt':Pr t){x y:Int}(bx: -Dd < x∧x < Dd)(by': -Dd < y∧y < Dd)(hx:inS s x=true)(hy:inS t y=true){op:Int}(ho:3≤op∧op≤7)(h0:op≤5∨y≠0):inS (opS op s t) (valO op x y)=true:=by
 rcases op3 ho with rfl | rfl | rfl | rfl | rfl
 ·exact ai6 hs ht bx by' hx hy
 ·have:=ai6 hs (fV ht) bx (y:= -y) (by omega) hx (yR hy)
  rw[←Int.sub_eq_add_neg]at this
  exact this
 ·exact alZ hs ht bx by' hx hy
 ·exact aku hs ht ps pt' bx by' hx hy (h0.resolve_left (by decide))
 ·exact akv hs ht ps pt' bx by' hx hy (h0.resolve_left (by decide))
theorem akT{s t:Sp}(hs:oks C s)(ht:oks C t)(ps:Pr s)(pt':Pr t):oks K (remS s t):=by
 unfold remS
 split
 ·exact iY
 ·split
  ·split
   ·exact iY
   ·rename_i e
    exact(fV (vC (fV hs) (fE (fV ht)) (nZ (by simpa using e) (fV ht) pt'.turn))).K
  ·rename_i e
   have a:=vC hs (fE ht) (nZ (by simpa using e) ht pt')
   split
   ·exact a.K
   ·rename_i e2
    exact jc a.K (fV (vC (fV hs) (fE (fV ht)) (nZ (by simpa using e2) (fV ht) pt'.turn))).K
theorem akR{s t:Sp}(hs:oks C s)(ht:oks C t)(ps:Pr s)(pt':Pr t):oks K (quoS s t):=by
 unfold quoS
 split
 ·exact iY
 ·apply jc
  ·split
   ·exact iY
   ·rename_i e
    exact ab6 hs (nZ (by simpa using e) ht pt')
  ·split
   ·exact iY
   ·rename_i e
    exact ab6 (fV hs) (nZ (by simpa using e) (fV ht) pt'.turn)
theorem al7{s t:Sp}(hs:oks C s)(ht:oks C t)(ps:Pr s)(pt':Pr t){op:Int}:oks K (opS op s t):=by
 unfold opS
 split
 ·exact abE hs ht
 ·split
  ·exact abE hs (fV ht)
  ·split
   ·exact abP hs ht
   ·split
    ·exact akR hs ht ps pt'
    ·exact akT hs ht ps pt'
end Go.N
