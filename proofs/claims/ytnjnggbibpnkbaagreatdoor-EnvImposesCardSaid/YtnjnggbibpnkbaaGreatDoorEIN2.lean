import Derived.Test.YtnjnggbibpnkbaaGreatDoorEIG9
import Derived.Test.YtnjnggbibpnkbaaGreatDoorEIN1
set_option linter.all false
open Bool renaming not_true→ze,false_eq_true→zg,not_false→zj,and_eq_true→zm,true_and→tL,false_and→mB
open Go.Lib renaming itoa→z7
open Int renaming gcd→z8,le_of_lt→zR,mul_nonneg→yf,fmod_lt_of_pos→yW,fmod_nonneg_of_pos→xd,le_refl→xp,mul_le_mul_of_nonneg_left→xF,mul_fdiv_add_fmod→wh,mul_comm→wk,mul_le_mul_of_nonneg_right→wA,mul_add→vL,ediv_nonneg→vR,mul_zero→uc,mul_sub→uC,neg_mul→tQ,le_trans→tU,fmod_eq_emod_of_nonneg→sB,mul_le_mul→sL,natCast_mul→sM,mul_neg→sY,gcd_zero_right→ri,gcd_dvd_left→qa,ediv_le_self→p8,emod_eq_of_lt→p9,natAbs_mul→pm,fdiv_eq_ediv_of_nonneg→px,lt_or_lt_of_ne→pP,one_mul→pZ,sub_mul→oc,dvd_sub→om,gcd_dvd_right→oo,mul_assoc→nq,sub_eq_add_neg→nL,mul_pos→nW,add_mul→m6,neg_fmod_neg→m7,mul_one→m8,ofNat_lt→mN,lt_trans→mR,zero_sub→mT,zero_mul→mU,gcd_natCast_natCast→lh,gcd_pos_of_ne_zero_left→lz,dvd_trans→lA,eq_ofNat_of_zero_le→ki,dvd_mul_left→jx,natAbs_of_nonneg→jz,mul_ediv_assoc→jN,dvd_neg→i6,dvd_refl→i7,zero_dvd→i8,gcd_zero_left→gF,emod_eq_zero_of_dvd→gH,dvd_mul_right→gL,natCast_nonneg→gM,mul_ediv_cancel'→gN
open List renaming mem_cons→ww,length_pos_iff→vj,range'→uB,foldl_cons→tf,mem_singleton→sj,range'_succ→mA
open Nat renaming exists_eq_succ_of_ne_zero→zv,zero_ne_one→rh,pow_succ→q5,pow_le_pow_right→q6,one_ne_zero→q9,pow_add→jt
open Option renaming map→xf,map_some→wj,bind_some→wT,bind→ot,map_none→mj,bind_none→gE
namespace Go.N
open Go.IntKind (i64)
open Go Go.Q Go.Rx
set_option exponentiation.threshold 5000
def CC_K:C*C+C+C+10 < K:=by
 have a:C*C=((10 ^ 200:Nat):Int):=by
  unfold C;rw[←sM,←jt]
 have b:((10 ^ 200:Nat):Int)*10≤K:=by
  unfold K;have:(10:Nat) ^ 200*10≤10 ^ 4096:=by rw[←q5];exact q6 ω ω
  have h:(((10 ^ 200*10:Nat):Int))≤((10 ^ 4096:Nat):Int):=Int.ofNat_le.2 this;rw[sM]at h;exact h
 have h3:=C_gt;have c:C*1000000≤C*C:=xF ω ω;omega
@[irreducible] def Dd : Int := ((10 ^ 1000 : Nat) : Int)
def kJ:C < Dd:=by
 unfold C Dd;have:(10:Nat) ^ 100 < 10 ^ 1000:=Nat.pow_lt_pow_right ω ω;exact mN.2 this
def DD_K:Dd*Dd+Dd+Dd+10 < K:=by
 have a:Dd*Dd=((10 ^ 2000:Nat):Int):=by
  unfold Dd;rw[←sM,←jt]
 have b:((10 ^ 2000:Nat):Int)*10≤K:=by
  unfold K;have:(10:Nat) ^ 2000*10≤10 ^ 4096:=by rw[←q5];exact q6 ω ω
  have h:(((10 ^ 2000*10:Nat):Int))≤((10 ^ 4096:Nat):Int):=Int.ofNat_le.2 this;rw[sM]at h;exact h
 have h3:=C_gt;have d:=kJ;have c:Dd*1000000≤Dd*Dd:=xF ω ω;omega
def Dd_K:Dd < K:=by
 have h:=DD_K;have h3:=C_gt;have b:=kJ;have a:0≤Dd*Dd:=yf ω ω;omega
def agT{a b:Int}(ha: -Dd < a∧a < Dd)(hb: -Dd < b∧b < Dd): -(Dd*Dd) < a*b∧a*b < Dd*Dd:=by
 have f:=C_gt;have g:=kJ;have c:(a*b).natAbs=a.natAbs*b.natAbs:=pm a b;have d:((a*b).natAbs:Int)=(a.natAbs:Int)*(b.natAbs:Int):=by rw[c,sM]
 have h3:(a.natAbs:Int)*(b.natAbs:Int)≤(Dd-1)*(Dd-1):=sL ω ω ω ω;have e:(Dd-1)*(Dd-1)=Dd*Dd-Dd-Dd+1:=by grind
 omega
def rJ{a b:Int}(ha: -C < a∧a < C)(hb: -C < b∧b < C): -(C*C) < a*b∧a*b < C*C:=by
 have f:=C_gt;have c:(a*b).natAbs=a.natAbs*b.natAbs:=pm a b;have d:((a*b).natAbs:Int)=(a.natAbs:Int)*(b.natAbs:Int):=by rw[c,sM]
 have h3:(a.natAbs:Int)*(b.natAbs:Int)≤(C-1)*(C-1):=sL ω ω ω ω;have e:(C-1)*(C-1)=C*C-C-C+1:=by grind
 omega
def aiO(lf:Nat)(i:Int):bQ.f lf i=some ((i,bs [],()),()):=rfl
def rY(lf:Nat){e v:Int}(h:e=v):(bd (bQ.f lf e) fun r=>some (r.1,()))=some (((v,bs [],()):EB),()):=by subst h;rw[aiO,fa]
def sZ(lf:Nat)(z:Int):aY.f lf (bs (z7 z))=some (xc (.fin z),()):=rfl
def chkK{z:Int}(h: -K < z∧z < K):chk (z7 z)=0:=(pM z).2 h
def ad5(lf:Nat)(h3:200000≤lf){x y:Int}(hx: -K < x∧x < K)(hy: -K < y∧y < K)(hs: -K < x+y∧x+y < K):jY.f lf (bs (z7 x)) (bs (z7 y))=some (bs (z7 (x+y)),()):=by
 rw[jY.f,xW lf h3 hx hy hs,fa]
def xadd:X→X→X
 | .fin a,.fin b=>.fin (a+b)
 | .fin _,y=>y
 | x,_=>x
def ac8(lf:Nat)(h3:200000≤lf){x y:X}(hx:okx C x)(hy:okx C y)(h:¬(x=.ni∧y=.pi)∧¬(x=.pi∧y=.ni)):mO.f lf (xc x) (xc y)=some (xc (xadd x y),()):=by
 have e:=CC_K;have d:=C_gt;have c:0≤C*C:=yf ω ω;rw[mO.f];cases x with
 | fin a=>cases y with
  | fin b =>
   simp only[okx]at hx hy;simp only[xc,bne_self_eq_false,fe];rw[ad5 lf h3 ω ω ω,fa,sZ,fa];rfl
  | ni=>exact(fe _ _).trans ((ff _ _).trans (rY lf rfl))
  | pi=>exact(fe _ _).trans ((ff _ _).trans (rY lf rfl))
 | ni=>cases y with
  | pi=>exact absurd ⟨rfl,rfl⟩ h.1
  | ni=>exact(ff _ _).trans (rY lf rfl)
  | fin b=>exact(ff _ _).trans (rY lf rfl)
 | pi=>cases y with
  | ni=>exact absurd ⟨rfl,rfl⟩ h.2
  | pi=>exact(ff _ _).trans (rY lf rfl)
  | fin b=>exact(ff _ _).trans (rY lf rfl)
def Pr(s:Sp):Prop:=emp s=true∨(s.lo≠.pi∧s.hi≠.ni)
def Wf.pr{a:A}(h:Wf a):Pr (ofA a):=by
 unfold Pr ofA;cases b:a.em with
 | true=>left;rw[gT rfl];exact iG
 | false =>
  right;rw[gR ψ];constructor
  ·cases a.lo<;>simp[lox]
  ·cases a.hi<;>simp[hix]
def lV(x:X):key (xneg x)= -key x:=by cases x<;>simp[key,xneg]
def oG{s:Sp}:emp (turn s)=emp s:=by
 unfold turn;cases h:emp s with
 | true=>rw[gT rfl];exact iG
 | false =>
  rw[gR ψ];unfold emp at h⊢;rw[lV,lV];rw[decide_eq_false_iff_not]at h⊢;omega
def Pr.turn{s:Sp}(h:Pr s):Pr (turn s):=by
 unfold Pr;rw[oG];rcases h with h | h
 ·exact .inl h
 ·by_cases he:emp s=true
  ·exact .inl he
  ·right;unfold Go.N.turn;rw[gR he];obtain⟨b,a⟩:=s;cases b<;>cases a<;>simp_all [xneg]
def addS(s t:Sp):Sp:=if emp s=true then non else if emp t=true then non else⟨xadd s.lo t.lo,xadd s.hi t.hi⟩
def afr{x y:X}(hx:okx C x)(hy:okx C y):okx K (xadd x y):=by
 have c:=CC_K;have b:=C_gt;have a:0≤C*C:=yf ω ω;cases x<;>cases y<;>simp only[xadd,okx]at*<;> omega
def aaB{s t:Sp}(hs:oks C s)(ht:oks C t):oks K (addS s t):=by
 unfold addS;split
 ·exact jC
 ·split
  ·exact jC
  ·exact⟨afr hs.1 ht.1,afr hs.2 ht.2⟩
def oks.K{s:Sp}(h:oks C s):oks K s:=h.mono (zR fO)
def aep(lf:Nat)(h3:200000≤lf){s t:Sp}(hs:oks C s)(ht:oks C t)(ps:Pr s)(pt:Pr t):jX.f lf (sc s) (sc t)=some (sc (addS s t),()):=by
 rw[jX.f,oZ lf h3 hs.K,fa,oZ lf h3 ht.K];unfold addS;cases a:emp s with
 | true=>rw[ff,yY,fa,gT rfl]
 | false =>
  rw[fe,fa,gR ψ];cases b:emp t with
  | true=>rw[ff,yY,fa,gT rfl]
  | false =>
   rw[fe,gR ψ];have p1:=ps.resolve_left (by simp[a]);have p2:=pt.resolve_left (by simp[b]);simp only[sc];rw[ac8 lf h3 hs.1 ht.1 ⟨fun h=>p2.1 h.2,fun h=>p1.1 h.1⟩,fa,ac8 lf h3 hs.2 ht.2 ⟨fun h=>p1.2 h.1,fun h=>p2.2 h.2⟩,fa]
def ajk(lf:Nat)(h3:200000≤lf){a b:A}(ha:Wf a)(hb:Wf b):rZ.f lf (ac a) (ac b)=some (ac (toA (addS (ofA a) (ofA b))),0,()):=by
 rw[rZ.f];simp only[lU lf h3 ha,lU lf h3 hb,fa,bne_self_eq_false,fe,of_f,aep lf h3 ha.okC hb.okC ha.pr hb.pr,jP lf h3 (aaB ha.okC hb.okC)]
def ajo(lf:Nat)(h3:200000≤lf){a b:A}(ha:Wf a)(hb:Wf b):sH.f lf (ac a) (ac b)=some (ac (toA (addS (ofA a) (turn (ofA b)))),0,()):=by
 rw[sH.f];simp only[lU lf h3 ha,lU lf h3 hb,fa,bne_self_eq_false,fe,of_f,oI.f,uP lf h3 hb.okK,aep lf h3 ha.okC (gI hb.okC) ha.pr hb.pr.turn,jP lf h3 (aaB ha.okC (gI hb.okC))]
def sg:X→Int
 | .ni=> -1
 | .fin z=>sgn z
 | .pi=>1
def sg_f(lf:Nat)(h3:200000≤lf){x:X}(hx:okx K x):jv.f lf (xc x)=some (sg x,()):=by
 rw[jv.f];cases x with
 | ni=>exact(ff _ _).trans rfl
 | pi=>exact(ff _ _).trans rfl
 | fin z =>
  simp only[xc,bne_self_eq_false,fe];rw[show(⟨#[48]⟩:ByteArray)=bs [48] from rfl,xJ lf _ _ ((pM z).2 hx) aew h3,fa,dR,iv48,Int.sub_zero];rfl
def sg3(x:X):sg x= -1∨sg x=0∨sg x=1:=by
 cases x with
 | ni=>exact .inl rfl
 | pi=>exact .inr (.inr rfl)
 | fin z=>simp only[sg,sgn];(repeat' split)<;>omega
def xmul(x y:X):X:=if sg x*sg y=0 then .fin 0 else match x,y with
 | .fin a,.fin b=>.fin (a*b)
 | _,_=>if sg x*sg y=1 then .pi else .ni
def abW(lf:Nat)(h3:200000≤lf){x y:Int}(hx: -K < x∧x < K)(hy: -K < y∧y < K)(hs: -K < x*y∧x*y < K):kQ.f lf (bs (z7 x)) (bs (z7 y))=some (bs (z7 (x*y)),0,()):=by
 have h:=(sz_K (x*y)).2 hs;rw[aiP lf _ _ ((pM x).2 hx) ((pM y).2 hy) h3,dR,dR,rD,gR ω]
def aaU(lf:Nat)(h3:200000≤lf){x y:X}(hx:okx C x)(hy:okx C y):fG.f lf (xc x) (xc y)=some (xc (xmul x y),()):=by
 have d:=fO;have h:=CC_K;have g:=C_gt;have kx:=hx.mono (zR d);have e:=hy.mono (zR d);rw[fG.f,sg_f lf h3 kx,fa,sg_f lf h3 e,fa];have a:=sg3 x;have b:=sg3 y;have w:i64.wrap (sg x*sg y)=sg x*sg y:=by
  apply w64<;>rcases a with a | a | a<;>rcases b with b | b | b<;>rw[a,b]<;>decide
 simp only[w];unfold xmul;by_cases c:sg x*sg y=0
 ·rw[c,BEq.rfl,ff,gT rfl,i0,sZ,fa]
 ·rw[show(sg x*sg y==0)=false from beq_eq_false_iff_ne.2 c,fe,gR c];have one:sg x*sg y=1∨sg x*sg y= -1:=by
   rcases a with a | a | a<;>rcases b with b | b | b<;>rw[a,b]at c⊢<;>simp at c⊢
  cases x with
  | fin u=>cases y with
   | fin v =>
    have m:=rJ hx hy;simp only[okx]at kx e;simp only[xc,bne_self_eq_false,fe];rw[abW lf h3 kx e ω,fa,sZ,fa];rfl
   | ni => 
    refine(fe _ _).trans ((ff _ _).trans ?_);rcases one with o | o
    ·rw[o,gT rfl];exact rY lf rfl
    ·rw[o,gR δ];exact rY lf rfl
   | pi =>
    refine(fe _ _).trans ((ff _ _).trans ?_);rcases one with o | o
    ·rw[o,gT rfl];exact rY lf rfl
    ·rw[o,gR δ];exact rY lf rfl
  | ni =>
   refine(ff _ _).trans ?_;rcases one with o | o
   ·rw[o];cases y<;>exact rY lf rfl
   ·rw[o];cases y<;>exact rY lf rfl
  | pi =>
   refine(ff _ _).trans ?_;rcases one with o | o
   ·rw[o];cases y<;>exact rY lf rfl
   ·rw[o];cases y<;>exact rY lf rfl
def qR{x y:X}(hx:okx C x)(hy:okx C y):okx K (xmul x y):=by
 have c:=CC_K;have b:=C_gt;have a:0≤C*C:=yf ω ω;unfold xmul;split
 ·simp only[okx];omega
 ·cases x with
  | fin u=>cases y with
   | fin v =>
    have m:=rJ hx hy;simp only[okx];omega
   | ni=>simp only;split<;>trivial
   | pi=>simp only;split<;>trivial
  | ni=>simp only;split<;>trivial
  | pi=>simp only;split<;>trivial
def adL{x y:X}(hx:okx Dd x)(hy:okx Dd y):okx K (xmul x y):=by
 have d:=DD_K;have b:=C_gt;have c:=kJ;have a:0≤Dd*Dd:=yf ω ω;unfold xmul;split
 ·simp only[okx];omega
 ·cases x with
  | fin u=>cases y with
   | fin v =>
    have m:=agT hx hy;simp only[okx];omega
   | ni=>simp only;split<;>trivial
   | pi=>simp only;split<;>trivial
  | ni=>simp only;split<;>trivial
  | pi=>simp only;split<;>trivial
def okx.D{x:X}(h:okx C x):okx Dd x:=h.mono (zR kJ)
def one(v:X):Sp:=⟨v,v⟩
def apS(o:X→X→X)(s t:Sp):Sp:=if emp s=true then non else if emp t=true then non else
 hull (hull (hull (hull non (one (o s.lo t.lo))) (one (o s.lo t.hi))) (one (o s.hi t.lo))) (one (o s.hi t.hi))
def jg{k:Int}{v:X}(h:okx k v):oks k (one v):=⟨h,h⟩
def af0{o:X→X→X}{s t:Sp}(h:∀ x y,(x=s.lo∨x=s.hi)→(y=t.lo∨y=t.hi)→okx K (o x y)):oks K (apS o s t):=by
 unfold apS;split
 ·exact jC
 ·split
  ·exact jC
  ·exact jA (jA (jA (jA jC (jg (h _ _ (.inl rfl) (.inl rfl)))) (jg (h _ _ (.inl rfl) (.inr rfl)))) (jg (h _ _ (.inr rfl) (.inl rfl)))) (jg (h _ _ (.inr rfl) (.inr rfl)))
def aaL{s t:Sp}(hs:oks C s)(ht:oks C t):oks K (apS xmul s t):=af0 fun x y hx hy=>by
 rcases hx with rfl | rfl<;>rcases hy with rfl | rfl<;>exact qR (by first | exact hs.1 | exact hs.2) (by first | exact ht.1 | exact ht.2)
def ajl(lf:Nat)(h3:200000≤lf){a b:A}(ha:Wf a)(hb:Wf b):sD.f lf (ac a) (ac b)=some (ac (toA (apS xmul (ofA a) (ofA b))),0,()):=by
 rw[sD.f];have hs:=ha.okC;have ht:=hb.okC;have c1:=qR hs.1 ht.1;have c2:=qR hs.1 ht.2;have c3:=qR hs.2 ht.1;have c4:=qR hs.2 ht.2;have c:=jA jC (jg c1);have d:=jA c (jg c2);have e:=jA d (jg c3);have g:=jA e (jg c4);have h:∀ v:X,((xc v,xc v,()):EB×(EB×Unit))=sc (one v):=fun _=>rfl;simp only[lU lf h3 ha,lU lf h3 hb,fa,bne_self_eq_false,fe,of_f,oZ lf h3 hs.K,oZ lf h3 ht.K,yY,jP lf h3 jC];unfold apS;cases emp (ofA a)with
 | true=>simp only[ff,if_true]
 | false =>
  cases emp (ofA b)with
  | true=>simp only[ff,fe,zg,if_true,if_false]
  | false =>
   simp only[fe,zg,if_false];have i:(sc (ofA a)).1=xc (ofA a).lo:=rfl;have j:(sc (ofA a)).2.1=xc (ofA a).hi:=rfl;have k:(sc (ofA b)).1=xc (ofA b).lo:=rfl;have l:(sc (ofA b)).2.1=xc (ofA b).hi:=rfl;simp only[i,j,k,l,aaU lf h3 hs.1 ht.1,aaU lf h3 hs.1 ht.2,aaU lf h3 hs.2 ht.1,aaU lf h3 hs.2 ht.2,fa,h,oH lf h3 jC (jg c1),oH lf h3 c (jg c2),oH lf h3 d (jg c3),oH lf h3 e (jg c4),jP lf h3 g]
def xover:X→X→X
 | .fin a,.fin b=>.fin (a.fdiv b)
 | .fin a,_=>if a < 0 then .fin (-1)else .fin 0
 | x,_=>x
def uf(lf:Nat)(hlf:2000000000≤lf){x y:Int}(hx: -K < x∧x < K)(hy: -K < y∧y < K)(a:y≠0):gY.f lf (bs (z7 x)) (bs (z7 y))=some (bs (z7 (x.fdiv y)),0,()):=by
 rw[akh lf hlf _ _ (chkK hx) (chkK hy),dR,dR,gR a]
def oL(lf:Nat)(hlf:2000000000≤lf){x y:Int}(hx: -K < x∧x < K)(hy: -K < y∧y < K)(a:y≠0):jk.f lf (bs (z7 x)) (bs (z7 y))=some (bs (z7 (x.fmod y)),0,()):=by
 rw[akk lf hlf _ _ (chkK hx) (chkK hy),dR,dR,gR a]
def qF(x:X):(sg x < 0↔key x < 0)∧(sg x=0↔key x=0)∧(0 < sg x↔0 < key x):=by
 have:=K_gt;cases x with
 | ni=>simp only[sg,key];omega
 | pi=>simp only[sg,key];omega
 | fin z=>simp only[sg,key,sgn];(repeat' split)<;>omega
def uQ(lf:Nat)(hlf:2000000000≤lf){x y:X}(hx:okx C x)(hy:okx C y)(c:y≠.fin 0):aC.f lf (xc x) (xc y)=some (xc (xover x y),()):=by
 have d:=fO;rw[aC.f];cases x with
 | ni=>exact(ff _ _).trans rfl
 | pi=>exact(ff _ _).trans rfl
 | fin a =>
  have s:=sg_f lf ω (x:=.fin a) (hx.mono (zR d));simp only[okx]at hx;rw[s];cases y with
  | fin b =>
   simp only[okx]at hy;simp only[xc,bne_self_eq_false,fe,BEq.rfl,ff];rw[uf lf hlf ω ω (by intro e;exact c (by rw[e])),fa,sZ,fa];rfl
  | ni =>
   simp only[xc,bne_self_eq_false,fe,fa,show((-1:Int)==0)=false from rfl,show decide (sg (.fin a) < 0)=decide (a < 0) from by have:=(qF (.fin a)).1;simp only[decide_eq_decide];exact this,xover];by_cases h:a < 0
   ·rw[gP h,ff,gT h,im1,sZ,fa];rfl
   ·rw[gO h,fe,gR h,i0,sZ,fa];rfl
  | pi =>
   simp only[xc,bne_self_eq_false,fe,fa,show((1:Int)==0)=false from rfl,show decide (sg (.fin a) < 0)=decide (a < 0) from by have:=(qF (.fin a)).1;simp only[decide_eq_decide];exact this,xover];by_cases h:a < 0
   ·rw[gP h,ff,gT h,im1,sZ,fa];rfl
   ·rw[gO h,fe,gR h,i0,sZ,fa];rfl
def ad2{a b k:Int}(c:1 < k)(ha: -k < a∧a < k)(hb:1≤b): -k < a.fdiv b∧a.fdiv b < k:=by
 have m:=wh a b;have r0:=xd a (show 0 < b from ω);have r1:=yW a (show 0 < b from ω);rcases Int.lt_or_le (a.fdiv b) 0 with z | z
 ·have:=wA hb (show 0≤-a.fdiv b-1 from ω);have e:b*(-a.fdiv b-1)= -(b*a.fdiv b)-b:=by grind
  omega
 ·have:=wA hb z;omega
def vH{x y:X}(hx:okx C x)(hy:∀ b,y=.fin b→1≤b):okx C (xover x y):=by
 have c:=C_gt;cases x with
 | ni=>trivial
 | pi=>trivial
 | fin a=>cases y with
  | fin b=>exact ad2 ω hx (hy b rfl)
  | ni=>simp only[xover];split<;>simp only[okx]<;>omega
  | pi=>simp only[xover];split<;>simp only[okx]<;>omega
def ab8{x y:X}(hx:okx Dd x)(hy:∀ b,y=.fin b→1≤b):okx Dd (xover x y):=by
 have c:=C_gt;have d:=kJ;cases x with
 | ni=>trivial
 | pi=>trivial
 | fin a=>cases y with
  | fin b=>exact ad2 ω hx (hy b rfl)
  | ni=>simp only[xover];split<;>simp only[okx]<;>omega
  | pi=>simp only[xover];split<;>simp only[okx]<;>omega
def posS(s:Sp):Sp:=common s ⟨.fin 1,.pi⟩
def qf{z:Int}(a: -10≤z)(b:z≤10):okx C (.fin z):=by have:=C_gt;simp only[okx];omega
def fQ{s:Sp}(h:oks C s):oks C (posS s):=wu h ⟨qf δ δ,trivial⟩
def xg(lf:Nat)(h3:200000≤lf){s:Sp}(hs:oks C s):aJ.f lf (sc s)=some (sc (posS s),()):=by
 rw[aJ.f,i1,sZ,fa,aiO,fa];have:=adf lf h3 hs.K (t:=⟨.fin 1,.pi⟩) ⟨(qf δ δ).mono (zR fO),trivial⟩;rw[show((xc (X.fin 1),(1,bs [],()),()):EB×(EB×Unit))=sc ⟨.fin 1,.pi⟩ from rfl,this,fa];rfl
def zI{s:Sp}(he:emp (posS s)=false)(hs:oks C s)(f:Pr s):∃ l,(posS s).lo=.fin l∧1≤l∧key s.lo≤l∧(∀ h,(posS s).hi=.fin h→l≤h)∧(posS s).hi=s.hi∧s.hi≠.ni:=by
 have k:=fO;have j:=C_gt;have i:=qV (hs.K.1);have a:=qV (hs.K.2);obtain⟨lo,hi⟩:=s;unfold emp at he;have he:=of_decide_eq_false he;simp only[posS,common]at he⊢;have g:xmin hi .pi=hi:=by
  unfold xmin;rw[show key .pi=K from rfl];split
  ·simp only at a;omega
  ·rfl
 rw[g]at he⊢;rw[lK]at he;have b:key (.fin 1)=1:=rfl;rw[b]at he;simp only at i a;have c:lo≠.pi:=by
  rintro rfl;rcases f with h | h
  ·unfold emp at h;simp only[decide_eq_true_eq]at h;omega
  ·exact h.1 rfl
 have d:hi≠.ni:=by
  rintro rfl;simp only[key]at he;omega
 refine⟨max (key lo) 1,?_,ω,ω,?_,rfl,d⟩
 ·by_cases h:key lo < 1
  ·rw[abw (show key lo < key (.fin 1) from h)];congr 1;omega
  ·rw[zi (show ¬key lo < key (.fin 1) from h)];cases lo with
   | pi=>exact absurd rfl c
   | ni=>exfalso;simp only[key]at h;omega
   | fin z=>simp only[key]at h⊢;congr 1;omega
 ·intro h e;have:key hi=h:=by rw[e];rfl
  omega
def aa0{s t:Sp}(hs:oks C s)(ht:∀ y,(y=t.lo∨y=t.hi)→∀ b,y=.fin b→1≤b):oks K (apS xover s t):=af0 fun x y hx hy=>by
 refine(vH ?_ (ht y hy)).mono (zR fO);rcases hx with rfl | rfl
 ·exact hs.1
 ·exact hs.2
def oK{s:Sp}(he:emp (posS s)=false)(hs:oks C s)(d:Pr s):∀ y,(y=(posS s).lo∨y=(posS s).hi)→∀ b,y=.fin b→1≤b:=by
 obtain⟨l,a,e,f,c,g,h⟩:=zI he hs d;intro y hy b hb;rcases hy with rfl | rfl
 ·rw[a]at hb;injection hb with hb
  omega
 ·have:=c b hb;omega
def quoS(s t:Sp):Sp :=
 if emp s=true then non else
 hull (if emp (posS t)=true then non else apS xover s (posS t)) (if emp (posS (turn t))=true then non else apS xover (turn s) (posS (turn t)))
def adl(s:Sp)(h:emp s=false∨s=non):hull s non=s:=by
 unfold hull;rcases h with h | rfl
 ·rw[gR (by simp[h]),gT iG]
 ·rw[gT iG]
def nZ(v:X):emp (one v)=false:=by unfold emp one;simp
def uH{s t:Sp}(hs:emp s=false)(ht:emp t=false):emp (hull s t)=false:=by
 unfold hull;rw[gR (by simp[hs]),gR (by simp[ht])];unfold emp at hs ht⊢;simp only[decide_eq_false_iff_not,kX,lK]at hs ht⊢;omega
def sK(s:Sp):hull non s=s:=by unfold hull;rw[gT iG]
def aaD{o:X→X→X}{s t:Sp}(a:emp s=false)(b:emp t=false):emp (apS o s t)=false:=by
 unfold apS;rw[gR (by simp[a]),gR (by simp[b]),sK];exact uH (uH (uH (nZ _) (nZ _)) (nZ _)) (nZ _)
set_option maxHeartbeats 4000000 in
def ajm(lf:Nat)(hlf:2000000000≤lf){a b:A}(ha:Wf a)(hb:Wf b):sF.f lf (ac a) (ac b)=some (ac (toA (quoS (ofA a) (ofA b))),0,()):=by
 have h3:200000≤lf:=ω;rw[sF.f];have hs:=ha.okC;have ht:=hb.okC;have pt:=hb.pr;have ts:=gI hs;have p:=gI ht;have et:emp (turn (ofA a))=emp (ofA a):=oG;have O:∀ v:X,((xc v,xc v,()):EB×(EB×Unit))=sc (one v):=fun _=>rfl;simp only[lU lf h3 ha,lU lf h3 hb,fa,bne_self_eq_false,fe,of_f,oZ lf h3 hs.K,xg lf h3 ht,uP lf h3 ht.K,xg lf h3 p,oZ lf h3 (fQ ht).K,oZ lf h3 (fQ p).K,uP lf h3 hs.K,oZ lf h3 ts.K,et,yY,jP lf h3 jC,aP.f];unfold quoS;generalize Z:ofA a=s at *
 generalize hT:ofA b=t at *
 have U:(sc s).1=xc s.lo:=rfl;have V:(sc s).2.1=xc s.hi:=rfl;have W:(sc (posS t)).1=xc (posS t).lo:=rfl;have Y:(sc (posS t)).2.1=xc (posS t).hi:=rfl;have P:(sc (turn s)).1=xc (turn s).lo:=rfl;have Q:(sc (turn s)).2.1=xc (turn s).hi:=rfl;have R:(sc (posS (turn t))).1=xc (posS (turn t)).lo:=rfl;have S:(sc (posS (turn t))).2.1=xc (posS (turn t)).hi:=rfl;have N:∀ {u:Sp} (h:∀ y,(y=u.lo∨y=u.hi)→∀ b,y=.fin b→1≤b),u.lo≠.fin 0∧u.hi≠.fin 0:=fun h=>⟨fun e=>by have:=h _ (.inl rfl) 0 e;omega,fun e=>by have:=h _ (.inr rfl) 0 e;omega⟩
 have c:∀ {x y:X},okx C x→(∀ b,y=.fin b→1≤b)→okx K (xover x y):=fun hx hy=>(vH hx hy).mono (zR fO);cases J:emp s with
 | true=>simp only[fe,ff,ze,zj,if_true];cases emp (posS t)<;>simp only[fe,ff,ze,zj]<;>cases emp (posS (turn t))<;>simp only[fe,ff,ze,zj]
 | false =>
  cases M:emp (posS t)with
  | true =>
   simp only[fe,ff,ze,zj,if_true,if_false,zg];cases B:emp (posS (turn t))with
   | true =>
    simp only[fe,ff,ze,zj,if_true,if_false,zg];rw[sK]
   | false =>
    have d:=oK B p pt.turn;have n:=N d;have c1:=c ts.1 (d _ (.inl rfl));have c2:=c ts.1 (d _ (.inr rfl));have c3:=c ts.2 (d _ (.inl rfl));have c4:=c ts.2 (d _ (.inr rfl));have D:=jA jC (jg c1);have F:=jA D (jg c2);have H:=jA F (jg c3);have k:=jA H (jg c4);have i:=fQ p;simp only[fe,ff,ze,zj,if_true,if_false,zg,P,Q,R,S,uQ lf hlf ts.1 i.1 n.1,uQ lf hlf ts.1 i.2 n.2,uQ lf hlf ts.2 i.1 n.1,uQ lf hlf ts.2 i.2 n.2,fa,O,oH lf h3 jC (jg c1),oH lf h3 D (jg c2),oH lf h3 F (jg c3),oH lf h3 H (jg c4)];have l:apS xover (turn s) (posS (turn t))=hull (hull (hull (hull non (one (xover (turn s).lo (posS (turn t)).lo))) (one (xover (turn s).lo (posS (turn t)).hi))) (one (xover (turn s).hi (posS (turn t)).lo))) (one (xover (turn s).hi (posS (turn t)).hi)):=by
     unfold apS;rw[gR (by simp[et,J]),gR (by simp[B])]
    rw[←l]at k⊢;rw[oH lf h3 jC k,fa,jP lf h3 (jA jC k),fa]
  | false =>
   have d:=oK M ht pt;have n:=N d;have c1:=c hs.1 (d _ (.inl rfl));have c2:=c hs.1 (d _ (.inr rfl));have c3:=c hs.2 (d _ (.inl rfl));have c4:=c hs.2 (d _ (.inr rfl));have D:=jA jC (jg c1);have F:=jA D (jg c2);have H:=jA F (jg c3);have k:=jA H (jg c4);have i:=fQ ht;simp only[fe,ff,ze,zj,if_true,if_false,zg,U,V,W,Y,uQ lf hlf hs.1 i.1 n.1,uQ lf hlf hs.1 i.2 n.2,uQ lf hlf hs.2 i.1 n.1,uQ lf hlf hs.2 i.2 n.2,fa,O,oH lf h3 jC (jg c1),oH lf h3 D (jg c2),oH lf h3 F (jg c3),oH lf h3 H (jg c4),jP lf h3 k];have T:apS xover s (posS t)=hull (hull (hull (hull non (one (xover s.lo (posS t).lo))) (one (xover s.lo (posS t).hi))) (one (xover s.hi (posS t).lo))) (one (xover s.hi (posS t).hi)):=by
    unfold apS;rw[gR (by simp[J]),gR (by simp[M])]
   rw[←T]at k⊢;have ne:=aaD (o:=xover) J M;cases B:emp (posS (turn t))with
   | true =>
    simp only[fe,ff,ze,zj,if_true,if_false,zg];rw[adl _ (.inl ne)]
   | false =>
    have g:=oK B p pt.turn;have L:=N g;have q:=c ts.1 (g _ (.inl rfl));have r:=c ts.1 (g _ (.inr rfl));have w:=c ts.2 (g _ (.inl rfl));have z:=c ts.2 (g _ (.inr rfl));have E:=jA jC (jg q);have G:=jA E (jg r);have I:=jA G (jg w);have m:=jA I (jg z);have j:=fQ p;simp only[fe,ff,ze,zj,if_true,if_false,zg,P,Q,R,S,uQ lf hlf ts.1 j.1 L.1,uQ lf hlf ts.1 j.2 L.2,uQ lf hlf ts.2 j.1 L.1,uQ lf hlf ts.2 j.2 L.2,fa,O,oH lf h3 jC (jg q),oH lf h3 E (jg r),oH lf h3 G (jg w),oH lf h3 I (jg z)];have l:apS xover (turn s) (posS (turn t))=hull (hull (hull (hull non (one (xover (turn s).lo (posS (turn t)).lo))) (one (xover (turn s).lo (posS (turn t)).hi))) (one (xover (turn s).hi (posS (turn t)).lo))) (one (xover (turn s).hi (posS (turn t)).hi)):=by
     unfold apS;rw[gR (by simp[et,J]),gR (by simp[B])]
    rw[←l]at m⊢;rw[oH lf h3 k m,fa,jP lf h3 (jA k m),fa]
def allS(c:Int):Sp:=⟨.fin 0,.fin (c-1)⟩
def resS(s:Sp)(c:Int):Sp:=match s.lo,s.hi with
 | .fin l,.fin h=>if h-l≥c-1 then allS c else if l.fmod c > h.fmod c then allS c else⟨.fin (l.fmod c),.fin (h.fmod c)⟩
 | _,_=>allS c
def ajE(a b:Int):decide (sgn (a-b)≥0)=decide (b≤a):=by
 simp only[decide_eq_decide];unfold sgn;(repeat' split)<;>omega
def aaC{c:Int}(a:1≤c)(b:c < C):oks C (allS c):=by
 have:=C_gt;constructor<;>simp only[allS,okx]<;>omega
def ais{s:Sp}{c:Int}(a:1≤c)(b:c < C):oks C (resS s c):=by
 have i:=C_gt;unfold resS;split
 ·rename_i l h _ _;have d:=xd l (show 0 < c from ω);have e:=yW l (show 0 < c from ω);have f:=xd h (show 0 < c from ω);have g:=yW h (show 0 < c from ω);split
  ·exact aaC a b
  ·split
   ·exact aaC a b
   ·constructor<;>simp only[okx]<;>omega
 ·exact aaC a b
def aef(lf:Nat)(hlf:2000000000≤lf){s:Sp}(hs:oks C s){c:Int}(n:1≤c)(o:c < C):nJ.f lf (sc s) (bs (z7 c))=some (sc (resS s c),()):=by
 have h3:200000≤lf:=ω;have q:=C_gt;have r:=CC_K;have p:0≤C*C:=yf ω ω;have a:=ad5 lf h3 (x:=c) (y:= -1) ω ω ω;rw[nJ.f,i0,im1,a,sZ,fa,fa,sZ,fa];have al:(((xc (.fin 0),xc (.fin (c+ -1)),()):EB×(EB×Unit)))=sc (allS c):=by
  rw[show c+ -1=c-1 by omega];rfl
 obtain⟨d,b⟩:=s;cases d with
 | ni=>exact(ff _ _).trans (by simp only[resS];rw[al])
 | pi=>exact(ff _ _).trans (by simp only[resS];rw[al])
 | fin l=>cases b with
  | ni=>exact(fe _ _).trans ((ff _ _).trans (by simp only[resS];rw[al]))
  | pi=>exact(fe _ _).trans ((ff _ _).trans (by simp only[resS];rw[al]))
  | fin h =>
   have u: -C < l∧l < C:=hs.1;have t: -C < h∧h < C:=hs.2;refine(fe _ _).trans ((fe _ _).trans ?_);simp only[sc,xc];have e:=agF lf h3 (z:=l) ω;have g:=ad5 lf h3 (x:=h) (y:= -l) ω ω ω;rw[e,fa,g,fa,xJ lf _ _ (chkK ω) (chkK ω) h3,fa,dR,dR];simp only[resS,ajE];by_cases c1:h-l≥c-1
   ·rw[gP ω,ff,gT c1];exact congrArg (fun x=>some (x,())) al
   ·rw[gO ω,fe,gR c1];have i:=xd l (show 0 < c from ω);have j:=yW l (show 0 < c from ω);have k:=xd h (show 0 < c from ω);have m:=yW h (show 0 < c from ω);rw[oL lf hlf ω ω ω,fa,oL lf hlf ω ω ω,fa,xJ lf _ _ (chkK ω) (chkK ω) h3,fa,dR,dR];simp only[aeg];by_cases c2:l.fmod c > h.fmod c
    ·rw[gP ω,ff,gT c2];exact congrArg (fun x=>some (x,())) al
    ·rw[gO ω,fe,gR c2,sZ,fa,sZ,fa];rfl
def remI(s t:Sp):Sp:=if single t=true then resS s (valX t.lo)else if 0≤key s.lo∧key s.hi < key t.lo then s else
 ⟨.fin 0,if 0≤key s.lo then xmin (xsh t.hi (-1)) s.hi else xsh t.hi (-1)⟩
def ahL{x:X}(h:okx C x):valX x < C:=by have:=C_gt;cases x<;>simp only[valX,okx]at*<;> omega
def ai1{x:X}(hx:okx C x)(h:∀ z,x=.fin z→1≤z):okx C (xsh x (-1)):=by
 have:=C_gt;cases x with
 | fin z=>have:=h z rfl;simp only[xsh,okx]at *;omega
 | ni=>trivial
 | pi=>trivial
def vP{s t:Sp}(hs:oks C s)(ht:oks C t)(a:∀ y,(y=t.lo∨y=t.hi)→∀ b,y=.fin b→1≤b):oks C (remI s t):=by
 have c:okx C (.fin 0):=qf δ δ;unfold remI;split
 ·rename_i e;have:=aam e;exact ais (a _ (.inl rfl) _ this) (ahL ht.1)
 ·split
  ·exact hs
  ·refine⟨c,?_⟩;have:=ai1 ht.2 (a _ (.inr rfl));simp only;split
   ·exact yH this hs.2
   ·exact this
def xk(lf:Nat)(hlf:2000000000≤lf){s t:Sp}(hs:oks C s)(ht:oks C t)(h:∀ y,(y=t.lo∨y=t.hi)→∀ b,y=.fin b→1≤b):dA.f lf (sc s) (sc t)=some (sc (remI s t),()):=by
 have h3:200000≤lf:=ω;have p:(sc s).1=xc s.lo:=rfl;have q:(sc s).2.1=xc s.hi:=rfl;have i:(sc t).1=xc t.lo:=rfl;have r:(sc t).2.1=xc t.hi:=rfl;rw[dA.f,ahu,fa];unfold remI;cases e:single t with
 | true =>
  have c:=aam e;have n:=h _ (.inl rfl) _ c;rw[ff,gT rfl];have k:(sc t).1.2.1=bs (z7 (valX t.lo)):=by rw[i,c];rfl
  rw[k,aef lf hlf hs n (ahL ht.1),fa]
 | false =>
  rw[fe,gR ψ];obtain⟨cc,c1,c2,c3⟩:=abK lf h3 hs.K.2 ht.K.1;have o:=afQ lf h3 ht.2 (d:= -1) δ δ;have hx:=ai1 ht.2 (h _ (.inr rfl));have g:=qF s.lo;have l:decide (sg s.lo≥0)=decide (0≤key s.lo):=by simp only[decide_eq_decide];omega
  have j:decide (cc < 0)=decide (key s.hi < key t.lo):=by simp only[decide_eq_decide];omega
  simp only[p,q,i,r,sg_f lf h3 hs.K.1,fa,l,c1,im1,o,acz lf h3 (hx.mono (zR fO)) hs.K.2,i0,sZ,j];by_cases m:0≤key s.lo<;>by_cases a:key s.hi < key t.lo<;>simp only[m,a,decide_true,decide_false,ff,fe,if_true,if_false,and_self,and_true,and_false,false_and]<;>rfl
def remS(s t:Sp):Sp :=
 if emp s=true then non else
 if emp (posS t)=true then(if emp (posS (turn t))=true then non else turn (remI (turn s) (posS (turn t))))else
 if emp (posS (turn t))=true then remI s (posS t)else hull (remI s (posS t)) (turn (remI (turn s) (posS (turn t))))
def ajn(lf:Nat)(hlf:2000000000≤lf){a b:A}(ha:Wf a)(hb:Wf b):sG.f lf (ac a) (ac b)=some (ac (toA (remS (ofA a) (ofA b))),0,()):=by
 have h3:200000≤lf:=ω;rw[sG.f];have hs:=ha.okC;have ht:=hb.okC;have pt:=hb.pr;have ts:=gI hs;have c:=gI ht;simp only[lU lf h3 ha,lU lf h3 hb,fa,bne_self_eq_false,fe,of_f,oZ lf h3 hs.K,xg lf h3 ht,uP lf h3 ht.K,xg lf h3 c,oZ lf h3 (fQ ht).K,oZ lf h3 (fQ c).K,uP lf h3 hs.K,yY,jP lf h3 jC];unfold remS;generalize ofA a=s at *
 generalize ofA b=t at *
 cases l:emp s with
 | true=>simp only[fe,ff,ze,zj,if_true];cases emp (posS t)<;>simp only[fe,ff,ze,zj]<;>cases emp (posS (turn t))<;>simp only[fe,ff,ze,zj]
 | false =>
  cases k:emp (posS t)with
  | true =>
   simp only[fe,ff,ze,zj,if_true,if_false,zg];cases i:emp (posS (turn t))with
   | true=>simp only[fe,ff,ze,zj,if_true,if_false,zg]
   | false =>
    have d:=oK i c pt.turn;have g:=vP ts (fQ c) d;have h:=gI g;simp only[fe,ff,ze,zj,if_true,if_false,zg,xk lf hlf ts (fQ c) d,fa,uP lf h3 g.K,oH lf h3 jC h.K,sK,jP lf h3 h.K]
  | false =>
   have d:=oK k ht pt;have j:=vP hs (fQ ht) d;simp only[fe,ff,ze,zj,if_true,if_false,zg,xk lf hlf hs (fQ ht) d,fa];cases i:emp (posS (turn t))with
   | true=>simp only[fe,ff,ze,zj,if_true,if_false,zg,jP lf h3 j.K,fa]
   | false =>
    have e:=oK i c pt.turn;have g:=vP ts (fQ c) e;have h:=gI g;simp only[fe,ff,ze,zj,if_true,if_false,zg,xk lf hlf ts (fQ c) e,fa,uP lf h3 g.K,oH lf h3 j.K h.K,jP lf h3 (jA j.K h.K)]
def szC{z:Int}(h: -C < z∧z < C):sz z≤100:=(sz_C z).2 h
def signI(lf:Nat)(z:Int):bD.f lf (bs (z7 z))=some (sgn z,()):=by rw[xQ lf _ (kL z),dR]
def floorI(lf:Nat)(h3:200000≤lf){x y:Int}(hx: -C < x∧x < C)(hy: -C < y∧y < C)(a:y≠0):aI.f lf (bs (z7 x)) (bs (z7 y))=some (bs (z7 (x.fdiv y)),()):=by
 have:=szC hx;have:=szC hy;exact pV lf h3 ω ω a
def restI(lf:Nat)(h3:200000≤lf){x y:Int}(hx: -C < x∧x < C)(hy: -C < y∧y < C)(a:y≠0):bT.f lf (bs (z7 x)) (bs (z7 y))=some (bs (z7 (x.fmod y)),()):=by
 have:=szC hx;have:=szC hy;exact uO lf h3 ω ω a
def szK{z:Int}(h: -K < z∧z < K):sz z≤4096:=(sz_K z).2 h
def sumI(lf:Nat)(h3:200000≤lf){x y:Int}(hx: -K < x∧x < K)(hy: -K < y∧y < K):dD.f lf (bs (z7 x)) (bs (z7 y))=some (bs (z7 (x+y)),()):=by
 have:=szK hx;have:=szK hy;exact acS lf h3 ω ω
def diffI(lf:Nat)(h3:200000≤lf){x y:Int}(hx: -K < x∧x < K)(hy: -K < y∧y < K):aU.f lf (bs (z7 x)) (bs (z7 y))=some (bs (z7 (x-y)),()):=by
 have:=szK hx;have:=szK hy;exact zo lf h3 ω ω
def pU(lf:Nat)(h3:200000≤lf){x y:Int}(hx: -K < x∧x < K)(hy: -K < y∧y < K):aO.f lf (bs (z7 x)) (bs (z7 y))=some (bs (z7 (x*y)),()):=by
 have:=szK hx;have:=szK hy;exact xO lf h3 ω ω
def CK{z:Int}(h: -C < z∧z < C): -K < z∧z < K:=by have:=fO;omega
def mkA{s:Sp}(h:oks C s)(p:Pr s):Wf (toA s)∧ofA (toA s)=if emp s=true then non else s:=by
 refine⟨sV h.K p,?_⟩;by_cases e:emp s=true
 ·rw[gT e];have:toA s=E0:=by unfold toA;rw[gT e];rfl
  rw[this];rfl
 ·rw[gR e];have p':=p.resolve_left e;exact aif h (by simpa using e) p'.1 p'.2
def yF{s:Sp}(h:emp s=true):toA s=E0:=by unfold toA;rw[gT h];rfl
def addO:Option Int→Option Int→Option Int
 | some a,some b=>some (a+b)
 | _,_=>none
def rsumO(lf:Nat)(h3:200000≤lf){x y:Option Int}(hx:okb C x)(hy:okb C y):jK.f lf (ob x) (ob y)=some (ob (addO x y),()):=by
 rw[jK.f,jd,jd];cases x with
 | none=>simp only[decide_true,ff];rfl
 | some a=>cases y with
  | none=>simp only[decide_true,ff,reduceCtorEq,decide_false,fe];rfl
  | some b =>
   simp only[reduceCtorEq,decide_false,fe];have e:=sumI lf h3 (CK hx) (CK hy);rw[show ob (some a)=bs (z7 a) from rfl,show ob (some b)=bs (z7 b) from rfl,e,fa];rfl
def acd{x y:Option Int}(hx:okb C x)(hy:okb C y):okb K (addO x y):=by
 have c:=CC_K;have b:=C_gt;have a:0≤C*C:=yf ω ω;cases x<;>cases y<;>simp only[addO,okb]at*<;> omega
def ag6(lf:Nat)(h3:200000≤lf){a b:A}(ha:Wf a)(hb:Wf b):jQ.f lf (ac a) (ac b)=some (ac (toA (addS (ofA a) (ofA b))),()):=by
 rw[jQ.f];unfold addS;rw[kK ha,kK hb];cases c:a.em with
 | true=>simp only[ac,c,ff,aX.f,fa,if_true,uz];rfl
 | false=>cases d:b.em with
  | true=>simp only[ac,c,d,ff,fe,aX.f,fa,if_true,if_false,zg,uz];rfl
  | false =>
   simp only[ac,c,d,fe,if_false,zg];rw[rsumO lf h3 ha.lo hb.lo,fa,rsumO lf h3 ha.hi hb.hi,fa,nK lf h3 _ _ (acd ha.lo hb.lo) (acd ha.hi hb.hi),fa];have e:lox (addO a.lo b.lo)=xadd (ofA a).lo (ofA b).lo:=by
    unfold ofA;rw[gR (by simp[c]),gR (by simp[d])];cases a.lo<;>cases b.lo<;>rfl
   have g:hix (addO a.hi b.hi)=xadd (ofA a).hi (ofA b).hi:=by
    unfold ofA;rw[gR (by simp[c]),gR (by simp[d])];cases a.hi<;>cases b.hi<;>rfl
   rw[e,g];rfl
def turnA{a:A}(h:Wf a):Wf (toA (turn (ofA a)))∧ofA (toA (turn (ofA a)))=turn (ofA a):=by
 have m:=mkA (gI h.okC) h.pr.turn;refine⟨m.1,?_⟩;rw[m.2];split
 ·rename_i e;rw[oG]at e;unfold turn;rw[gT e]
 ·rfl
def aid(lf:Nat)(h3:200000≤lf){a b:A}(ha:Wf a)(hb:Wf b):mg.f lf (ac a) (ac b)=some (ac (toA (addS (ofA a) (turn (ofA b)))),()):=by
 have t:=turnA hb;rw[mg.f,nT lf h3 hb,fa,ag6 lf h3 ha t.1,fa,t.2]
def negS(s:Sp):Sp:=common s ⟨.ni,.fin (-1)⟩
def zerS(s:Sp):Sp:=common s ⟨.fin 0,.fin 0⟩
def aaT(lf:Nat)(h3:200000≤lf){a:A}(ha:Wf a):fJ.f lf (ac a)=some ([ac (toA (negS (ofA a))),ac (toA (zerS (ofA a))),ac (toA (posS (ofA a)))],()):=by
 have r:=C_gt;have t:=fO;have g:okb K (some (-1)):=by simp only[okb];omega
 have b:okb K (some 0):=by simp only[okb];omega
 have d:okb K (some 1):=by simp only[okb];omega
 have r1:=nK lf h3 none (some (-1)) trivial g;have r2:=nK lf h3 (some 0) (some 0) b b;have r3:=nK lf h3 (some 1) none d trivial;have c:∀ s:Sp,oks C s→emp s=false→s.lo≠.pi→s.hi≠.ni→Wf (toA s)∧ofA (toA s)=s:=fun s h e p q=>by
  have m:=mkA h (.inr ⟨p,q⟩);rw[e,gR ψ]at m;exact m
 have i:=c ⟨.ni,.fin (-1)⟩ ⟨trivial,qf δ δ⟩ (gO (show ¬(-K > -1) by omega)) ψ ψ;have j:=c ⟨.fin 0,.fin 0⟩ ⟨qf δ δ,qf δ δ⟩ (by unfold emp;simp[key]) ψ ψ;have k:=c ⟨.fin 1,.pi⟩ ⟨qf δ δ,trivial⟩ (gO (show ¬((1:Int) > K) by omega)) ψ ψ;have l:au.f lf (⟨#[]⟩:ByteArray) (bs (z7 (-1)))=some (ac (toA ⟨.ni,.fin (-1)⟩),()):=r1;have n:au.f lf (bs (z7 0)) (bs (z7 0))=some (ac (toA ⟨.fin 0,.fin 0⟩),()):=r2;have o:au.f lf (bs (z7 1)) (⟨#[]⟩:ByteArray)=some (ac (toA ⟨.fin 1,.pi⟩),()):=r3;rw[fJ.f,im1,l,fa,aaK lf h3 ha i.1,fa,jJ.f,i0,n,fa,fa,aaK lf h3 ha j.1,fa,i1,o,fa,aaK lf h3 ha k.1,fa,i.2,j.2,k.2];rfl
def hullNE{s t:Sp}(hs:emp s=false)(ht:emp t=false):hull s t=⟨xmin s.lo t.lo,xmax s.hi t.hi⟩:=by
 unfold hull;rw[gR (by simp[hs]),gR (by simp[ht])]
def afZ{o:X→X→X}{s t:Sp}(hs:emp s=false)(ht:emp t=false)(ok:∀ x y,(x=s.lo∨x=s.hi)→(y=t.lo∨y=t.hi)→okx K (o x y))
  {L H:X} (l1:∃ x y,(x=s.lo∨x=s.hi)∧(y=t.lo∨y=t.hi)∧L=o x y) (l2:∀ x y,(x=s.lo∨x=s.hi)→(y=t.lo∨y=t.hi)→key L≤key (o x y))
  (k:∃ x y,(x=s.lo∨x=s.hi)∧(y=t.lo∨y=t.hi)∧H=o x y) (a:∀ x y,(x=s.lo∨x=s.hi)→(y=t.lo∨y=t.hi)→key (o x y)≤key H):apS o s t=⟨L,H⟩:=by
 unfold apS;rw[gR (by simp[hs]),gR (by simp[ht]),sK,hullNE (nZ _) (nZ _)];have i:=nZ (o s.lo t.lo);have j:=nZ (o s.lo t.hi);have c:=nZ (o s.hi t.lo);have m:=nZ (o s.hi t.hi);have b:=uH i j;rw[hullNE i j]at b;rw[hullNE b c];have l:=uH b c;rw[hullNE b c]at l;rw[hullNE l m];have e:=ok _ _ (.inl rfl) (.inl rfl);have f:=ok _ _ (.inl rfl) (.inr rfl);have g:=ok _ _ (.inr rfl) (.inl rfl);have h:=ok _ _ (.inr rfl) (.inr rfl);have n:=l2 _ _ (.inl rfl) (.inl rfl);have p:=l2 _ _ (.inl rfl) (.inr rfl);have q:=l2 _ _ (.inr rfl) (.inl rfl);have r:=l2 _ _ (.inr rfl) (.inr rfl);have c1:=a _ _ (.inl rfl) (.inl rfl);have c2:=a _ _ (.inl rfl) (.inr rfl);have c3:=a _ _ (.inr rfl) (.inl rfl);have c4:=a _ _ (.inr rfl) (.inr rfl);have okL:okx K L:=by obtain⟨x,y,hx,hy,rfl⟩:=l1;exact ok x y hx hy
 have d:okx K H:=by obtain⟨x,y,hx,hy,rfl⟩:=k;exact ok x y hx hy
 have u:key L=min (min (min (key (o s.lo t.lo)) (key (o s.lo t.hi))) (key (o s.hi t.lo))) (key (o s.hi t.hi)):=by
  obtain⟨x,y,hx,hy,rfl⟩:=l1;rcases hx with rfl | rfl<;>rcases hy with rfl | rfl<;>omega
 have v:key H=max (max (max (key (o s.lo t.lo)) (key (o s.lo t.hi))) (key (o s.hi t.lo))) (key (o s.hi t.hi)):=by
  obtain⟨x,y,hx,hy,rfl⟩:=k;rcases hx with rfl | rfl<;>rcases hy with rfl | rfl<;>omega
 congr 1
 ·apply key_inj (yH (yH (yH e f) g) h) okL;simp only[one,kX];omega
 ·apply key_inj (zW (zW (zW e f) g) h) d;simp only[one,lK];omega
def Po:X→Prop
 | .fin b=>1≤b
 | .pi=>True
 | .ni=>False
def wF{a c b:Int}(hb:1≤b)(h:a≤c):a.fdiv b≤c.fdiv b:=by
 rw[px _ ω,px _ ω];exact Int.ediv_le_ediv ω h
def acr{a b:Int}(hb:1≤b)(h:0≤a):0≤a.fdiv b:=by
 have:=wF (a:=0) hb h
 rwa [Int.zero_fdiv]at this
def aeG{a b:Int}(hb:1≤b)(h:a < 0):a.fdiv b≤-1:=by
 have m:=wh a b;have r0:=xd a (show 0 < b from ω);by_cases z:a.fdiv b≤-1
 ·exact z
 ·have:=yf (show 0≤b from ω) (show 0≤a.fdiv b from ω);omega
def aaY{x c y:X}(hx:okx Dd x)(a:okx Dd c)(hy:Po y)(h:key x≤key c):key (xover x y)≤key (xover c y):=by
 have d:=Dd_K;have j:=mR C_gt kJ;have f:∀ b,y=.fin b→1≤b:=fun b e=>by subst e;exact hy
 have g:=qV ((ab8 hx f).mono (zR d));have i:=qV ((ab8 a f).mono (zR d));cases x with
 | ni=>exact i.1
 | pi=>cases c with
  | pi=>exact xp _
  | ni=>simp only[key]at h;omega
  | fin z=>simp only[key,okx]at h a;omega
 | fin z=>cases c with
  | pi=>exact g.2
  | ni=>simp only[key,okx]at h hx;omega
  | fin w =>
   simp only[key]at h;cases y with
   | ni=>exact hy.elim
   | fin b=>exact wF hy h
   | pi=>simp only[xover];split<;>split<;>simp only[key]<;>omega
def ac5{x y d:X}(hx:okx Dd x)(hy:Po y)(a:Po d)(o:okx Dd y)(f:okx Dd d)(h:key y≤key d)(e:key x < 0):key (xover x y)≤key (xover x d):=by
 have l:=Dd_K;have k:=mR C_gt kJ;cases x with
 | ni=>exact xp _
 | pi=>simp only[key]at e;omega
 | fin z =>
  simp only[key]at e;cases y with
  | ni=>exact hy.elim
  | pi=>cases d with
   | ni=>exact a.elim
   | pi=>exact xp _
   | fin b=>simp only[key,okx]at h f;omega
  | fin b=>cases d with
   | ni=>exact a.elim
   | pi =>
    simp only[xover];rw[gT e];exact aeG hy e
   | fin c =>
    simp only[key]at h;simp only[xover,key];have m:=wh z b;have n:=wh z c;have r0:=xd z (show 0 < b by have:1≤b:=hy;omega);have r1:=yW z (show 0 < c by have:1≤c:=a;omega);have q:=aeG (b:=b) hy e;by_cases g:z.fdiv b≤z.fdiv c
    ·exact g
    ·have hb:1≤b:=hy;have i:=xF (show z.fdiv c+1≤z.fdiv b from ω) (show 0≤c by have:1≤c:=a;omega);have j:=wA h (show 0≤-z.fdiv b from ω);rw[vL]at i;rw[sY,sY]at j;omega
def ac6{x y d:X}(hx:okx Dd x)(hy:Po y)(a:Po d)(o:okx Dd y)(f:okx Dd d)(h:key y≤key d)(e:0≤key x):key (xover x d)≤key (xover x y):=by
 have l:=Dd_K;have k:=mR C_gt kJ;cases x with
 | pi=>exact xp _
 | ni=>simp only[key]at e;omega
 | fin z =>
  simp only[key]at e;cases y with
  | ni=>exact hy.elim
  | pi=>cases d with
   | ni=>exact a.elim
   | pi=>exact xp _
   | fin b=>simp only[key,okx]at h f;omega
  | fin b=>cases d with
   | ni=>exact a.elim
   | pi =>
    simp only[xover];rw[gR ω];exact acr hy e
   | fin c =>
    simp only[key]at h;simp only[xover,key];have m:=wh z b;have n:=wh z c;have r0:=xd z (show 0 < c by have:1≤c:=a;omega);have r1:=yW z (show 0 < b by have:1≤b:=hy;omega);have q:=acr (b:=c) a e;by_cases g:z.fdiv c≤z.fdiv b
    ·exact g
    ·have i:=xF (show z.fdiv b+1≤z.fdiv c from ω) (show 0≤b by have:1≤b:=hy;omega);have j:=wA h q;rw[vL]at i;omega
def quL:X→X→X→X
 | .fin z,a,b=>if z < 0 then xover (.fin z) a else xover (.fin z) b
 | x,_,_=>x
def quH:X→X→X→X
 | .fin z,a,b=>if 0≤z then xover (.fin z) a else xover (.fin z) b
 | x,_,_=>x
def aed(x a b:X):quL x a b=if key x < 0 then xover x a else xover x b:=by
 cases x with
 | fin z=>rfl
 | ni=>simp only[quL,xover,ite_self]
 | pi=>simp only[quL,xover,ite_self]
def aec(x a b:X):quH x a b=if 0≤key x then xover x a else xover x b:=by
 cases x with
 | fin z=>rfl
 | ni=>simp only[quH,xover,ite_self]
 | pi=>simp only[quH,xover,ite_self]
def quS(s u:Sp):Sp:=⟨quL s.lo u.lo u.hi,quH s.hi u.lo u.hi⟩
def acH{s u:Sp}(hs:oks C s)(a:oks C u)(es:emp s=false)(f:emp u=false)(p1:Po u.lo)(p2:Po u.hi):apS xover s u=quS s u:=by
 have ls:=of_decide_eq_false es;have i:=of_decide_eq_false f;have g:∀ {y:X},Po y→∀ b,y=.fin b→1≤b:=fun h b e=>by subst e;exact h
 have ok:∀ x y,(x=s.lo∨x=s.hi)→(y=u.lo∨y=u.hi)→okx K (xover x y):=fun x y hx hy=>by
  refine(vH ?_ (g ?_)).mono (zR fO)
  ·rcases hx with rfl | rfl
   ·exact hs.1
   ·exact hs.2
  ·rcases hy with rfl | rfl
   ·exact p1
   ·exact p2
 unfold quS;rw[aed,aec];refine afZ es f ok ?_ ?_ ?_ ?_
 ·split
  ·exact⟨_,_,.inl rfl,.inl rfl,rfl⟩
  ·exact⟨_,_,.inl rfl,.inr rfl,rfl⟩
 ·intro x y hx hy;have m:key (xover s.lo y)≤key (xover x y):=by
   have d:Po y:=by
    rcases hy with rfl | rfl
    ·exact p1
    ·exact p2
   rcases hx with rfl | rfl
   ·exact xp _
   ·exact aaY hs.1.D hs.2.D d ω
  split
  ·rename_i c;rcases hy with rfl | rfl
   ·exact m
   ·exact tU (ac5 hs.1.D p1 p2 a.1.D a.2.D ω c) m
  ·rename_i c;rcases hy with rfl | rfl
   ·exact tU (ac6 hs.1.D p1 p2 a.1.D a.2.D ω ω) m
   ·exact m
 ·split
  ·exact⟨_,_,.inr rfl,.inl rfl,rfl⟩
  ·exact⟨_,_,.inr rfl,.inr rfl,rfl⟩
 ·intro x y hx hy;have m:key (xover x y)≤key (xover s.hi y):=by
   have d:Po y:=by
    rcases hy with rfl | rfl
    ·exact p1
    ·exact p2
   rcases hx with rfl | rfl
   ·exact aaY hs.1.D hs.2.D d ω
   ·exact xp _
  split
  ·rename_i c;rcases hy with rfl | rfl
   ·exact m
   ·exact tU m (ac6 hs.2.D p1 p2 a.1.D a.2.D ω c)
  ·rename_i c;rcases hy with rfl | rfl
   ·exact tU m (ac5 hs.2.D p1 p2 a.1.D a.2.D ω ω)
   ·exact m
def afj(z:Int):decide (sgn z < 0)=decide (z < 0):=by simp only[decide_eq_decide];unfold sgn;(repeat' split)<;>omega
def yC(z:Int):decide (sgn z≥0)=decide (0≤z):=by simp only[decide_eq_decide];unfold sgn;(repeat' split)<;>omega
section
variable (lf:Nat)(h3:200000≤lf)
include h3
theorem rng2{x y:Int}(hx: -K < x∧x < K)(hy: -K < y∧y < K):au.f lf (bs (z7 x)) (bs (z7 y))=some (ac (toA ⟨.fin x,.fin y⟩),()):=nK lf h3 (some x) (some y) hx hy
theorem rng1{x:Int}(hx: -K < x∧x < K):au.f lf (bs (z7 x)) (ob none)=some (ac (toA ⟨.fin x,.pi⟩),()):=nK lf h3 (some x) none hx trivial
theorem rng0{y:Int}(hy: -K < y∧y < K):au.f lf (ob none) (bs (z7 y))=some (ac (toA ⟨.ni,.fin y⟩),()):=nK lf h3 none (some y) trivial hy
theorem rng:au.f lf (ob none) (ob none)=some (ac (toA ⟨.ni,.pi⟩),()):=nK lf h3 none none trivial trivial
theorem aaw{a:A}(ha:Wf a){u:Sp}(t:oks C u)(G:emp u=false→∃ l,u.lo=.fin l∧1≤l∧Po u.hi):
  ji.f lf (ac a) (ac (toA u))=some (ac (toA (if a.em=true then non else if emp u=true then non else quS (ofA a) u)),()):=by
 have I:=C_gt;have J:=fO;rw[ji.f];cases r:a.em with
 | true=>simp only[ac,r,ff,aX.f,fa,if_true,uz];rfl
 | false=>cases w:emp u with
  | true =>
   rw[yF w];simp only[ac,r,fe,if_false,if_true,zg,E0,ff,aX.f,fa,uz];rfl
  | false =>
   obtain⟨l,E,g,p2⟩:=G w;obtain⟨L,p⟩:=u;simp only at E p2;subst E;have o: -C < l∧l < C:=t.1;obtain⟨em,lo,hi⟩:=a;simp only at r;subst r;have H:toA ⟨.fin l,p⟩=⟨false,some l,tx p⟩:=by
    unfold toA;rw[w,gR ψ];simp only[tx,clip,gT o]
   rw[H,gR ψ,gR ψ];have F:=ha.lo;have q:=ha.hi;simp only at F q;simp only[ac,fe,ofA,zg,if_false,jd,quS];have k:∀ {x y:Int},(-C < x∧x < C)→(-C < y∧y < C)→1≤y→aI.f lf (bs (z7 x)) (bs (z7 y))=some (bs (z7 (x.fdiv y)),()):=fun hx hy h=>floorI lf h3 hx hy ω;have e:∀ {x y:Int},(-C < x∧x < C)→1≤y→-K < x.fdiv y∧x.fdiv y < K:=fun hx h=>CK (ad2 ω hx h);have B: -K < (0:Int)∧(0:Int) < K:=ω;have D: -K < (-1:Int)∧(-1:Int) < K:=ω;have d:∀ z:Int,ob (some z)=bs (z7 z):=fun _=>rfl;cases lo with
   | none =>
    simp only[decide_true,ze,fe,lox];cases hi with
    | none =>
     simp only[decide_true,ze,fe,hix,xover];rw[rng lf h3,fa];refine congrArg (fun s=>some (ac (toA s),())) ?_;simp only[quL,quH,xover]
    | some h =>
     have c: -C < h∧h < C:=q;simp only[reduceCtorEq,decide_false,zj,ff,d,signI,fa,yC,hix];by_cases b:0≤h
     ·simp only[gP b,ff,k c o g,fa,rng0 lf h3 (e c g)];refine congrArg (fun s=>some (ac (toA s),())) ?_;simp only[quL,quH,gT b,xover]
     ·simp only[gO b,fe];cases p with
      | ni=>exact p2.elim
      | pi =>
       simp only[tx,decide_true,ze,fe,im1,rng0 lf h3 D,fa];refine congrArg (fun s=>some (ac (toA s),())) ?_;simp only[quL,quH,gR b,gT (show h < 0 from ω),xover]
      | fin v =>
       have m: -C < v∧v < C:=t.2;have i:1≤v:=p2;simp only[tx,clip,gT m,reduceCtorEq,decide_false,zj,ff,d,k c m i,fa,rng0 lf h3 (e c i)];refine congrArg (fun s=>some (ac (toA s),())) ?_;simp only[quL,quH,gR b,gT (show h < 0 from ω),xover]
   | some z =>
    have n: -C < z∧z < C:=F;simp only[reduceCtorEq,decide_false,zj,ff,d,signI,fa,afj,lox];by_cases j:z < 0
    ·simp only[gP j,ff,k n o g,fa];cases hi with
     | none =>
      simp only[decide_true,ze,fe,hix];rw[rng1 lf h3 (e n g),fa];refine congrArg (fun s=>some (ac (toA s),())) ?_;simp only[quL,quH,gT j,xover]
     | some h =>
      have c: -C < h∧h < C:=q;simp only[reduceCtorEq,decide_false,zj,ff,d,signI,fa,yC,hix];by_cases b:0≤h
      ·simp only[gP b,ff,k c o g,fa,rng2 lf h3 (e n g) (e c g)];refine congrArg (fun s=>some (ac (toA s),())) ?_;simp only[quL,quH,gT j,gT b,xover]
      ·simp only[gO b,fe];cases p with
       | ni=>exact p2.elim
       | pi =>
        simp only[tx,decide_true,ze,fe,im1,rng2 lf h3 (e n g) D,fa];refine congrArg (fun s=>some (ac (toA s),())) ?_;simp only[quL,quH,gT j,gR b,gT (show h < 0 from ω),xover]
       | fin v =>
        have m: -C < v∧v < C:=t.2;have i:1≤v:=p2;simp only[tx,clip,gT m,reduceCtorEq,decide_false,zj,ff,d,k c m i,fa,rng2 lf h3 (e n g) (e c i)];refine congrArg (fun s=>some (ac (toA s),())) ?_;simp only[quL,quH,gT j,gR b,gT (show h < 0 from ω),xover]
    ·simp only[gO j,fe];cases p with
     | ni=>exact p2.elim
     | pi =>
      simp only[tx,decide_true,ze,fe,i0];cases hi with
      | none =>
       simp only[decide_true,ze,fe,hix];rw[rng1 lf h3 B,fa];refine congrArg (fun s=>some (ac (toA s),())) ?_;simp only[quL,quH,gR j,xover]
      | some h =>
       have c: -C < h∧h < C:=q;simp only[reduceCtorEq,decide_false,zj,ff,d,signI,fa,yC,hix];by_cases b:0≤h
       ·simp only[gP b,ff,k c o g,fa,rng2 lf h3 B (e c g)];refine congrArg (fun s=>some (ac (toA s),())) ?_;simp only[quL,quH,gR j,gT b,xover]
       ·simp only[gO b,fe,im1,rng2 lf h3 B D,fa];refine congrArg (fun s=>some (ac (toA s),())) ?_;simp only[quL,quH,gR j,gR b,gT (show h < 0 from ω),xover]
     | fin v =>
      have m: -C < v∧v < C:=t.2;have i:1≤v:=p2;simp only[tx,clip,gT m,reduceCtorEq,decide_false,zj,ff,d,k n m i,fa];cases hi with
      | none =>
       simp only[decide_true,ze,fe,hix];rw[rng1 lf h3 (e n i),fa];refine congrArg (fun s=>some (ac (toA s),())) ?_;simp only[quL,quH,gR j,xover]
      | some h =>
       have c: -C < h∧h < C:=q;simp only[reduceCtorEq,decide_false,zj,ff,d,signI,fa,yC,hix];by_cases b:0≤h
       ·simp only[gP b,ff,k c o g,fa,rng2 lf h3 (e n i) (e c g)];refine congrArg (fun s=>some (ac (toA s),())) ?_;simp only[quL,quH,gR j,gT b,xover]
       ·simp only[gO b,fe,k c m i,fa,rng2 lf h3 (e n i) (e c i)];refine congrArg (fun s=>some (ac (toA s),())) ?_;simp only[quL,quH,gR j,gR b,gT (show h < 0 from ω),xover]
end
def uN(x:Int){c:Int}(h:1≤c):0≤x.fmod c∧x.fmod c < c:=⟨xd x ω,yW x ω⟩
def adE{l h c:Int}(hc:1≤c)(a:l≤h):(if h-l≥c-1 then allS c else if l.fmod c > h.fmod c then allS c else⟨.fin (l.fmod c),.fin (h.fmod c)⟩)=if l.fdiv c=h.fdiv c then(⟨.fin (l.fmod c),.fin (h.fmod c)⟩:Sp)else allS c:=by
 have b:=wh l c;have g:=wh h c;have d:=uN l hc;have f:=uN h hc;by_cases e:l.fdiv c=h.fdiv c
 ·rw[gT e];rw[e]at b;by_cases c1:h-l≥c-1
  ·rw[gT c1];unfold allS;congr 2<;>omega
  ·rw[gR c1,gR ω]
 ·rw[gR e];by_cases c1:h-l≥c-1
  ·rw[gT c1]
  ·rw[gR c1,gT ?_];have mono:=wF hc a;have:=xF (show 1≤h.fdiv c-l.fdiv c from ω) (show 0≤c from ω);rw[uC]at this;omega
section
variable (lf:Nat)(h3:200000≤lf)
include h3
theorem zJ{a:A}(ha:Wf a){u:Sp}(D:oks C u)(V:emp u=false→∃ l,u.lo=.fin l∧1≤l∧Po u.hi):
  ja.f lf (ac a) (ac (toA u))=some (ac (toA (if a.em=true then non else if emp u=true then non else remI (ofA a) u)),()):=by
 have hC:=C_gt;have hK:=fO;have T:=CC_K;have h4:0≤C*C:=yf ω ω;rw[ja.f];cases p:a.em with
 | true=>simp only[ac,p,ff,aX.f,fa,if_true,uz];rfl
 | false=>cases F:emp u with
  | true =>
   rw[yF F];simp only[ac,p,fe,if_false,if_true,zg,E0,ff,aX.f,fa,uz];rfl
  | false =>
   obtain⟨l,L,B,p2⟩:=V F;obtain⟨ul,c⟩:=u;simp only at L p2;subst L;have h: -C < l∧l < C:=D.1;have I:toA ⟨.fin l,c⟩=⟨false,some l,tx c⟩:=by
    unfold toA;rw[F,gR ψ];simp only[tx,clip,gT h]
   have H:((bs (z7 l)).toList==(ob (tx c)).toList)=single ⟨.fin l,c⟩:=by
    cases c with
    | ni=>exact p2.elim
    | pi =>
     simp only[tx,single,ob,lS];exact gO (lJ l)
    | fin v =>
     have n: -C < v∧v < C:=D.2;simp only[tx,clip,gT n,single,ob,lS,decide_eq_decide];exact⟨fun e=>pR e,fun e=>by rw[e]⟩
   have E:ofA a=⟨lox a.lo,hix a.hi⟩:=by unfold ofA;rw[gR (by simp[p])]
   have Q:=ha.lo;have R:=ha.hi;have S:=ha.le;have J:aU.f lf (bs (z7 l)) (bs (z7 1))=some (bs (z7 (l-1)),()):=diffI lf h3 (CK h) ω;have O:au.f lf (bs (z7 0)) (bs (z7 (l-1)))=some (ac (toA (allS l)),()):=rng2 lf h3 ω ω;have i:∀ z:Int,ob (some z)=bs (z7 z):=fun _=>rfl;have Z:(ac (toA ⟨.fin l,c⟩)).1=false:=by rw[I];rfl
   have x2:(ac (toA ⟨.fin l,c⟩)).2.1=bs (z7 l):=by rw[I];rfl
   have x3:(ac (toA ⟨.fin l,c⟩)).2.2.1=ob (tx c):=by rw[I];rfl
   have y1:(ac a).1=false:=p;have y2:(ac a).2.1=ob a.lo:=rfl;have y3:(ac a).2.2.1=ob a.hi:=rfl;rw[gR ψ,gR ψ];simp only[Z,x2,x3,y1,y2,y3,fe,H];unfold remI;cases es:single ⟨.fin l,c⟩with
   | true =>
    rw[ff,gT rfl];simp only[jd,i1,i0,J,fa,O,valX,E];cases b:a.lo with
    | none=>simp only[decide_true,ze,fe,lox,resS]
    | some z=>cases q:a.hi with
     | none=>simp only[decide_true,ze,fe,reduceCtorEq,decide_false,zj,ff,lox,hix,resS]
     | some w =>
      rw[b]at Q;rw[q]at R;rw[b,q]at S;have N: -C < z∧z < C:=Q;have M: -C < w∧w < C:=R;have zw:z≤w:=S;have b1:=uN z B;have b2:=uN w B;simp only[reduceCtorEq,decide_false,zj,ff,lox,hix,resS,i,floorI lf h3 N h ω,floorI lf h3 M h ω,fa,lS,restI lf h3 N h ω,restI lf h3 M h ω,rng2 lf h3 (x:=z.fmod l) (y:=w.fmod l) ω ω];rw[adE B zw];by_cases e:z.fdiv l=w.fdiv l
      ·rw[gT e,gP (by rw[e]),ff]
      ·rw[gR e,gO (fun x=>e (pR x)),fe]
   | false =>
    rw[fe,gR ψ];have al:Wf (toA (allS l))∧ofA (toA (allS l))=allS l:=by
     have m:=mkA (aaC B h.2) (.inr ⟨by simp[allS],by simp[allS]⟩);rw[show emp (allS l)=false from gO (show ¬((0:Int) > l-1) by omega),gR ψ]at m;exact m
    have ks:=ha.ks.e2 p;have ins:leqA (ofA a) (allS l)=decide (0≤key (ofA a).lo∧key (ofA a).hi < l):=by
     rw[adu,show key (allS l).lo=0 from rfl,show key (allS l).hi=l-1 from rfl];simp only[decide_eq_decide];omega
    have Y:=qV ha.okK.1;simp only[i1,i0,J,fa,O,ad4 lf h3 ha al.1,al.2,ins];rw[show key (X.fin l)=l from rfl];by_cases c1:0≤key (ofA a).lo∧key (ofA a).hi < l
    ·rw[gP c1,ff,gT c1,aaV ha]
    ·rw[gO c1,fe,gR c1];have s:okb C (tx c):=by
      cases c with
      | ni=>trivial
      | pi=>trivial
      | fin v =>
       have n: -C < v∧v < C:=D.2;simp only[tx,clip,gT n];exact n
     have t:okb C (some (-1)):=by simp only[okb];omega
     have P:=rsumO lf h3 s t;rw[show ob (some (-1))=bs (z7 (-1)) from rfl]at P;have G:hix (addO (tx c) (some (-1)))=xsh c (-1):=by
      cases c with
      | ni=>exact p2.elim
      | pi=>rfl
      | fin v =>
       have n: -C < v∧v < C:=D.2;simp only[tx,clip,gT n];rfl
     have g:=acd s t;have j:∀ o:Option Int,okb K o→au.f lf (bs (z7 0)) (ob o)=some (ac (toA ⟨.fin 0,hix o⟩),()):=fun o U=>nK lf h3 (some 0) o (by simp only[okb];omega) U;simp only[im1,P,fa,jd];by_cases d:0≤key (ofA a).lo
     ·rw[gT d];rw[E]at d⊢;simp only at d⊢;cases b:a.lo with
      | none=>rw[b]at d;simp only[lox,key]at d;omega
      | some z =>
       rw[b]at d;have k:0≤z:=d;have W:=ab7 lf h3 _ _ g ha.hiK;have r:=abP g ha.hiK;simp only[reduceCtorEq,decide_false,zj,ff,i,signI,fa,yC,gP k,W,j _ r.2,r.1,G]
     ·rw[gR d];rw[E]at d;cases b:a.lo with
      | none=>simp only[decide_true,ze,fe,j _ g,fa,G]
      | some z =>
       rw[b]at d;have k:¬0≤z:=d;simp only[reduceCtorEq,decide_false,zj,ff,fe,i,signI,fa,yC,gO k,j _ g,G]
end
def qP{s:Sp}(he:emp (posS s)=false)(hs:oks C s)(f:Pr s):∃ l,(posS s).lo=.fin l∧1≤l∧Po (posS s).hi:=by
 obtain⟨l,a,b,g,c,d,e⟩:=zI he hs f;refine⟨l,a,b,?_⟩;cases h:(posS s).hi with
 | ni=>rw[d]at h;exact absurd h e
 | pi=>trivial
 | fin z=>have:=c z h;simp only[Po];omega
def neg_pos{s:Sp}(h:emp s=false):emp (negS s)=emp (posS (turn s))∧(emp (negS s)=false→turn (negS s)=posS (turn s)):=by
 have f:=K_gt;have et:turn s=⟨xneg s.hi,xneg s.lo⟩:=by unfold turn;rw[gR (by simp[h])]
 have a:key (negS s).lo=max (key s.lo) (-K):=by simp only[negS,common,lK];rfl
 have b:key (negS s).hi=min (key s.hi) (-1):=by simp only[negS,common,kX];rfl
 have d:key (posS (turn s)).lo=max (-key s.hi) 1:=by rw[et];simp only[posS,common,lK,lV];rfl
 have e:key (posS (turn s)).hi=min (-key s.lo) K:=by rw[et];simp only[posS,common,kX,lV];rfl
 constructor
 ·unfold emp;rw[a,b,d,e];simp only[decide_eq_decide];omega
 ·intro he;unfold turn;rw[gR (by simp[he]),gR (by simp[h])];unfold posS negS common;simp only;congr 1
  ·unfold xmin xmax;rw[lV,show key (X.fin (-1))= -1 from rfl,show key (X.fin 1)=1 from rfl];by_cases c: -1 < key s.hi
   ·rw[gT c,gT ω];rfl
   ·rw[gR c,gR ω]
  ·unfold xmin xmax;rw[lV,show key X.ni= -K from rfl,show key X.pi=K from rfl];by_cases c: -K > key s.lo
   ·rw[gT c,gT ω];rfl
   ·rw[gR c,gR ω]
def yw{s:Sp}(h:oks C s):oks C (negS s):=wu h ⟨trivial,qf δ δ⟩
def aiH{s:Sp}(h:oks C s):oks C (zerS s):=wu h ⟨qf δ δ,qf δ δ⟩
def abN{s t:Sp}(hs:Pr s)(ht:Pr t)(ok:oks C s)(g:oks C t):Pr (common s t):=by
 unfold Pr;by_cases e:emp (common s t)=true
 ·exact .inl e
 ·right;have c:=of_decide_eq_false (show emp (common s t)=false by simpa using e);simp only[common,lK,kX]at c;have d:¬emp s=true:=fun h=>by have:=of_decide_eq_true h;omega
  have f:¬emp t=true:=fun h=>by have:=of_decide_eq_true h;omega
  have a:=hs.resolve_left d;have b:=ht.resolve_left f;constructor
  ·simp only[common];unfold xmax;split
   ·exact b.1
   ·exact a.1
  ·simp only[common];unfold xmin;split
   ·exact b.2
   ·exact a.2
def zH{s:Sp}(h:Pr s)(ok:oks C s):Pr (negS s):=abN h (.inr ⟨ψ,ψ⟩) ok ⟨trivial,qf δ δ⟩
def aim{s:Sp}(h:Pr s)(ok:oks C s):Pr (posS s):=abN h (.inr ⟨ψ,ψ⟩) ok ⟨qf δ δ,trivial⟩
def abt(lf:Nat)(h3:200000≤lf){a:A}(ha:Wf a):bF.f lf (ac (toA (negS (ofA a))))=some (ac (toA (if a.em=true then non else posS (turn (ofA a)))),()):=by
 have m:=mkA (yw ha.okC) (zH ha.pr ha.okC);rw[nT lf h3 m.1,m.2];refine congrArg (fun x=>some (ac x,())) ?_;cases c:a.em with
 | true =>
  have b:=kK ha;rw[c]at b;have:emp (negS (ofA a))=true:=by
   have:=of_decide_eq_true b;apply gP;simp only[negS,common,lK,kX];omega
  rw[gT this,gT rfl];exact yF (by rw[oG];exact iG) |>.trans (yF iG).symm
 | false =>
  have b:=kK ha;rw[c]at b;have d:=neg_pos b;cases e:emp (negS (ofA a))with
  | true =>
   simp only[if_true,if_false,zg];rw[yF (by rw[oG];exact iG),yF (by rw[←d.1,e])]
  | false =>
   simp only[if_false,zg];rw[d.2 e]
def adN{x y:X}(h:x≠.pi):xover x y≠.pi:=by
 cases x with
 | pi=>exact absurd rfl h
 | ni=>simp[xover]
 | fin z=>cases y<;>simp only[xover]<;>(try split)<;>simp
def adM{x y:X}(h:x≠.ni):xover x y≠.ni:=by
 cases x with
 | ni=>exact absurd rfl h
 | pi=>simp[xover]
 | fin z=>cases y<;>simp only[xover]<;>(try split)<;>simp
def aha{s u:Sp}(hs:oks C s)(p1:Po u.lo)(p2:Po u.hi):oks C (quS s u):=by
 have a:∀ {y:X},Po y→∀ b,y=.fin b→1≤b:=fun h b e=>by subst e;exact h
 unfold quS;rw[aed,aec];constructor<;>simp only<;>split
 ·exact vH hs.1 (a p1)
 ·exact vH hs.1 (a p2)
 ·exact vH hs.2 (a p1)
 ·exact vH hs.2 (a p2)
def ahb{s u:Sp}(h:s.lo≠.pi∧s.hi≠.ni):(quS s u).lo≠.pi∧(quS s u).hi≠.ni:=by
 unfold quS;rw[aed,aec];constructor<;>simp only<;>split
 ·exact adN h.1
 ·exact adN h.1
 ·exact adM h.2
 ·exact adM h.2
def mk2{s:Sp}{b:Bool}(h:b=false→oks C s∧emp s=false∧s.lo≠.pi∧s.hi≠.ni):Wf (toA (if b=true then non else s))∧ofA (toA (if b=true then non else s))=if b=true then non else s:=by
 cases b with
 | true =>
  simp only[if_true];have m:=mkA (s:=non) jC (.inl iG);rw[iG,gT rfl]at m;exact m
 | false =>
  obtain⟨a,c,h3⟩:=h rfl;simp only[if_false,zg];have m:=mkA a (.inr h3);rw[c,gR ψ]at m;exact m
def yR(s:Sp):(toA s).em=emp s:=by unfold toA;cases emp s<;>rfl
section
variable (lf:Nat)(h3:200000≤lf)
include h3
theorem ajy{a b:A}(ha:Wf a)(hb:Wf b):mY.f lf (ac a) (ac b)=some (ac (toA (quoS (ofA a) (ofA b))),()):=by
 have hs:=ha.okC;have ht:=hb.okC;have ps:=ha.pr;have pt:=hb.pr;have j:=kK ha;have n:=kK hb;have r:=turnA ha;have i:=gI ht;have w:=aaw lf h3 ha (fQ ht) (fun e=>qP e ht pt);have u2:oks C (if b.em=true then non else posS (turn (ofA b))):=by split;exact jC;exact fQ i
 have q:=aaw lf h3 r.1 u2 (fun e=>by
  by_cases c:b.em=true
  ·rw[gT c]at e;rw[iG]at e;cases e
  ·rw[gR c]at e⊢;exact qP e i pt.turn)
 rw[yR,r.2,oG]at q;have v:idxL [ac (toA (negS (ofA b))),ac (toA (zerS (ofA b))),ac (toA (posS (ofA b)))] 2=some (ac (toA (posS (ofA b)))):=rfl;have i0':idxL [ac (toA (negS (ofA b))),ac (toA (zerS (ofA b))),ac (toA (posS (ofA b)))] 0=some (ac (toA (negS (ofA b)))):=rfl;rw[mY.f,aaT lf h3 hb,fa];simp only[v,fa,w,nT lf h3 ha,i0',abt lf h3 hb,q];unfold quoS;rw[j];cases e0:a.em with
 | true =>
  simp only[if_true];have m:=mkA (s:=non) jC (.inl iG);rw[vC lf h3 m.1 m.1,fa,m.2,iG,gT rfl,sK]
 | false =>
  rw[e0]at j;have es:=j;have pr:=ps.resolve_left (by simp[es]);have et:emp (turn (ofA a))=false:=by rw[oG,es]
  have k:=ps.turn.resolve_left (by simp[et]);simp only[if_false,zg];have o:=mk2 (s:=quS (ofA a) (posS (ofA b))) (b:=emp (posS (ofA b))) (fun e=>by
   obtain⟨l,d,h,g⟩:=qP e ht pt;have p1:Po (posS (ofA b)).lo:=by rw[d];exact h
   refine⟨aha hs p1 g,?_,ahb pr⟩;rw[←acH hs (fQ ht) es e p1 g];exact aaD es e)
  have t:emp (posS (ofA b))=false→quS (ofA a) (posS (ofA b))=apS xover (ofA a) (posS (ofA b)):=fun e=>by
   obtain⟨l,d,h,g⟩:=qP e ht pt;exact(acH hs (fQ ht) es e (by rw[d];exact h) g).symm
  have eq:(if emp (if b.em=true then non else posS (turn (ofA b)))=true then non else quS (turn (ofA a)) (if b.em=true then non else posS (turn (ofA b))))=if emp (posS (turn (ofA b)))=true then non else quS (turn (ofA a)) (posS (turn (ofA b))):=by
   cases c:b.em with
   | false=>simp only[if_false,zg]
   | true =>
    simp only[if_true,iG];rw[c]at n;have:emp (posS (turn (ofA b)))=true:=by
     have d:emp (turn (ofA b))=true:=by rw[oG,n]
     have:=of_decide_eq_true d;apply gP;simp only[posS,common,lK,kX];omega
    rw[this,gT rfl]
  rw[eq];have p:=mk2 (s:=quS (turn (ofA a)) (posS (turn (ofA b)))) (b:=emp (posS (turn (ofA b)))) (fun e=>by
   obtain⟨l,d,h,g⟩:=qP e i pt.turn;have p1:Po (posS (turn (ofA b))).lo:=by rw[d];exact h
   refine⟨aha (gI hs) p1 g,?_,ahb k⟩;rw[←acH (gI hs) (fQ i) et e p1 g];exact aaD et e)
  have u:emp (posS (turn (ofA b)))=false→quS (turn (ofA a)) (posS (turn (ofA b)))=apS xover (turn (ofA a)) (posS (turn (ofA b))):=fun e=>by
   obtain⟨l,d,h,g⟩:=qP e i pt.turn;exact(acH (gI hs) (fQ i) et e (by rw[d];exact h) g).symm
  rw[vC lf h3 o.1 p.1,fa,o.2,p.2];refine congrArg (fun x=>some (ac (toA x),())) ?_;cases c1:emp (posS (ofA b))<;>cases c2:emp (posS (turn (ofA b)))<;>simp only[if_true,if_false,zg]
  ·rw[t c1,u c2]
  ·rw[t c1]
  ·rw[u c2]
theorem acI{s u:Sp}(h:s.lo≠.pi∧s.hi≠.ni)(g:oks C u)(p1:Po u.lo)(p2:Po u.hi)(hs:oks C s)(es:emp s=false):emp (remI s u)=false∧(remI s u).lo≠.pi∧(remI s u).hi≠.ni:=by
 have f:=fO;have d:=C_gt;have ks:=of_decide_eq_false es;have i:=qV hs.K.2;unfold remI;split
 ·rename_i sg;have a:=aam sg;have b:1≤valX u.lo:=by rw[a]at p1;exact p1
  have e0:emp (allS (valX u.lo))=false:=gO (show ¬((0:Int) > valX u.lo-1) by omega);unfold resS;split
  ·rename_i l h _ _;split
   ·exact⟨e0,by simp[allS],by simp[allS]⟩
   ·split
    ·exact⟨e0,by simp[allS],by simp[allS]⟩
    ·rename_i c;exact⟨gO (show ¬(l.fmod (valX u.lo) > h.fmod (valX u.lo)) by omega),ψ,ψ⟩
  ·exact⟨e0,by simp[allS],by simp[allS]⟩
 ·split
  ·exact⟨es,h⟩
  ·rename_i c1 c2;have kx:0≤key (xsh u.hi (-1))∧xsh u.hi (-1)≠.ni:=by
    cases e:u.hi with
    | ni=>rw[e]at p2;exact p2.elim
    | pi=>simp only[xsh,key];exact⟨ω,ψ⟩
    | fin v=>rw[e]at p2;simp only[xsh,key];exact⟨by have:1≤v:=p2;omega,ψ⟩
   refine⟨?_,ψ,?_⟩
   ·apply gO;simp only;rw[show key (X.fin 0)=0 from rfl];split
    ·rw[kX];omega
    ·omega
   ·simp only;split
    ·unfold xmin;split
     ·exact h.2
     ·exact kx.2
    ·exact kx.2
theorem agQ{a b:A}(ha:Wf a)(hb:Wf b):lm.f lf (ac a) (ac b)=some (ac (toA (remS (ofA a) (ofA b))),()):=by
 have hs:=ha.okC;have ht:=hb.okC;have ps:=ha.pr;have pt:=hb.pr;have m:=kK ha;have u:=kK hb;have x:=turnA ha;have ts:=gI hs;have i:=gI ht;have D:=zJ lf h3 ha (fQ ht) (fun e=>qP e ht pt);have u2:oks C (if b.em=true then non else posS (turn (ofA b))):=by split;exact jC;exact fQ i
 have w:=zJ lf h3 x.1 u2 (fun e=>by
  by_cases c:b.em=true
  ·rw[gT c]at e;rw[iG]at e;cases e
  ·rw[gR c]at e⊢;exact qP e i pt.turn)
 rw[yR,x.2,oG]at w;have B:idxL [ac (toA (negS (ofA b))),ac (toA (zerS (ofA b))),ac (toA (posS (ofA b)))] 2=some (ac (toA (posS (ofA b)))):=rfl;have i0':idxL [ac (toA (negS (ofA b))),ac (toA (zerS (ofA b))),ac (toA (posS (ofA b)))] 0=some (ac (toA (negS (ofA b)))):=rfl;rw[lm.f,aaT lf h3 hb,fa];simp only[B,fa,D,nT lf h3 ha,i0',abt lf h3 hb,w];unfold remS;rw[m];have d:=mkA (s:=non) jC (.inl iG);rw[iG,gT rfl]at d;have q:turn non=non:=by unfold turn;rw[iG,gT rfl]
 cases e0:a.em with
 | true =>
  simp only[if_true];have t:=nT lf h3 d.1;rw[d.2,q]at t;rw[t,fa,vC lf h3 d.1 d.1,fa,d.2,sK]
 | false =>
  rw[e0]at m;have es:=m;have pr:=ps.resolve_left (by simp[es]);have et:emp (turn (ofA a))=false:=by rw[oG,es]
  have p:=ps.turn.resolve_left (by simp[et]);simp only[if_false,zg];have n:∀ {s:Sp},(∃ l,s.lo=.fin l∧1≤l∧Po s.hi)→Po s.lo∧Po s.hi∧∀ y,(y=s.lo∨y=s.hi)→∀ b,y=.fin b→1≤b:=fun h=>by
   obtain⟨l,j,z,k⟩:=h;refine⟨by rw[j];exact z,k,fun y hy b hb=>?_⟩;rcases hy with rfl | rfl
   ·rw[j]at hb;injection hb with hb;omega
   ·rw[hb]at k;exact k
  have v:=mk2 (s:=remI (ofA a) (posS (ofA b))) (b:=emp (posS (ofA b))) (fun e=>by
   have g:=n (qP e ht pt);exact⟨vP hs (fQ ht) g.2.2,acI lf h3 pr (fQ ht) g.1 g.2.1 hs es⟩)
  have eq:(if emp (if b.em=true then non else posS (turn (ofA b)))=true then non else remI (turn (ofA a)) (if b.em=true then non else posS (turn (ofA b))))=if emp (posS (turn (ofA b)))=true then non else remI (turn (ofA a)) (posS (turn (ofA b))):=by
   cases c:b.em with
   | false=>simp only[if_false,zg]
   | true =>
    simp only[if_true,iG];rw[c]at u;have:emp (posS (turn (ofA b)))=true:=by
     have j:emp (turn (ofA b))=true:=by rw[oG,u]
     have:=of_decide_eq_true j;apply gP;simp only[posS,common,lK,kX];omega
    rw[this,gT rfl]
  rw[eq];have o:=mk2 (s:=remI (turn (ofA a)) (posS (turn (ofA b)))) (b:=emp (posS (turn (ofA b)))) (fun e=>by
   have g:=n (qP e i pt.turn);exact⟨vP ts (fQ i) g.2.2,acI lf h3 p (fQ i) g.1 g.2.1 ts et⟩)
  have t2:=turnA o.1;have r:=nT lf h3 o.1;rw[r,fa,vC lf h3 v.1 t2.1,fa,v.2,t2.2,o.2];cases c1:emp (posS (ofA b))with
  | true =>
   simp only[if_true,sK];cases c2:emp (posS (turn (ofA b)))with
   | true=>simp only[if_true,q]
   | false=>simp only[if_false,zg]
  | false =>
   simp only[if_false,zg];cases c2:emp (posS (turn (ofA b)))with
   | true =>
    simp only[if_true,q];have g:=n (qP c1 ht pt);rw[adl _ (.inl (acI lf h3 pr (fQ ht) g.1 g.2.1 hs es).1)]
   | false=>simp only[if_false,zg]
end
def ajD(x:X):sg (xneg x)= -sg x:=by
 cases x with
 | ni=>rfl
 | pi=>rfl
 | fin z=>simp only[xneg,sg,sgn];(repeat' split)<;>omega
def rP(x:X):xneg (xneg x)=x:=by cases x<;>simp[xneg]
def lN(x y:X):xmul x y=xmul y x:=by
 unfold xmul;rw[wk (sg y) (sg x)];split
 ·rfl
 ·cases x<;>cases y<;>simp only[wk]
def wL(x y:X):xmul (xneg x) y=xneg (xmul x y):=by
 unfold xmul;rw[ajD,tQ];have a:=sg3 x;have b:=sg3 y;by_cases h:sg x*sg y=0
 ·rw[h,gT δ,gT rfl];rfl
 ·rw[gR ω,gR h];have one:sg x*sg y=1∨sg x*sg y= -1:=by
   rcases a with a | a | a<;>rcases b with b | b | b<;>rw[a,b]at h⊢<;>simp at h⊢
  cases x<;>cases y<;>simp only[xneg,tQ]<;>rcases one with o | o<;>rw[o]<;>rfl
def uZ(x y:X):xmul x (xneg y)=xneg (xmul x y):=by rw[lN,wL,lN]
def tV{x y:X}:(key (xmul x y) < 0↔sg x*sg y < 0)∧(key (xmul x y)=0↔sg x*sg y=0):=by
 have f:=K_gt;have a:=sg3 x;have b:=sg3 y;unfold xmul;by_cases h:sg x*sg y=0
 ·rw[gT h,h];simp[key]
 ·rw[gR h];have one:sg x*sg y=1∨sg x*sg y= -1:=by
   rcases a with a | a | a<;>rcases b with b | b | b<;>rw[a,b]at h⊢<;>simp at h⊢
  have c:(key (if sg x*sg y=1 then X.pi else X.ni) < 0↔sg x*sg y < 0)∧(key (if sg x*sg y=1 then X.pi else X.ni)=0↔sg x*sg y=0):=by
   rcases one with o | o<;>rw[o]
   ·rw[gT rfl,show key X.pi=K from rfl];omega
   ·rw[gR δ,show key X.ni= -K from rfl];omega
  cases x with
  | fin u=>cases y with
   | fin v =>
    simp only[key];have d:=qF (.fin u);have e:=qF (.fin v);simp only[key]at d e;rcases a with a | a | a<;>rcases b with b | b | b<;>rw[a,b]at h⊢<;>simp at h⊢
    ·have:=Int.mul_pos_of_neg_of_neg (show u < 0 from ω) (show v < 0 from ω);omega
    ·have:=Int.mul_neg_of_neg_of_pos (show u < 0 from ω) (show 0 < v from ω);omega
    ·have:=Int.mul_neg_of_pos_of_neg (show 0 < u from ω) (show v < 0 from ω);omega
    ·have:=nW (show 0 < u from ω) (show 0 < v from ω);omega
   | ni=>exact c
   | pi=>exact c
  | ni=>exact c
  | pi=>exact c
def uD{a b:Int}:xmul (.fin a) (.fin b)=.fin (a*b):=by
 unfold xmul;split
 ·rename_i h;have:=(tV (x:=.fin a) (y:=.fin b)).2;have c:=qF (.fin a);have kb:=qF (.fin b);simp only[key]at c kb;rcases Int.mul_eq_zero.1 h with z | z
  ·rw[c.2.1.1 z,mU]
  ·rw[kb.2.1.1 z,uc]
 ·rfl
def rO{x g y:X}(hx:okx Dd x)(i:okx Dd g)(hy:okx Dd y)(h:key x≤key g)(k:0≤key y):key (xmul x y)≤key (xmul g y):=by
 have B:=K_gt;have A:=Dd_K;have C:=qV (adL hx hy);have D:=qV (adL i hy);have l:=tV (x:=x) (y:=y);have m:=tV (x:=g) (y:=y);have t:=qF x;have n:=qF g;have z:=qF y;have a:=sg3 x;have q:=sg3 g;have b:=sg3 y;have e:∀ {u v:X},(u=.ni∨u=.pi∨v=.ni∨v=.pi)→key (xmul u v)=sg u*sg v*K:=by
  intro u v p;have c:=sg3 u;have d:=sg3 v;unfold xmul;by_cases hz:sg u*sg v=0
  ·rw[gT hz,hz];simp[key]
  ·rw[gR hz];have one:sg u*sg v=1∨sg u*sg v= -1:=by
    rcases c with c | c | c<;>rcases d with d | d | d<;>rw[c,d]at hz⊢<;>simp at hz⊢
   have f:key (if sg u*sg v=1 then X.pi else X.ni)=sg u*sg v*K:=by
    rcases one with o | o<;>rw[o]
    ·rw[gT rfl,show key X.pi=K from rfl];omega
    ·rw[gR δ,show key X.ni= -K from rfl];omega
   rcases p with rfl | rfl | rfl | rfl
   ·exact f
   ·exact f
   ·cases u<;>exact f
   ·cases u<;>exact f
 by_cases E:key y=0
 ·have:sg y=0:=ω;have r:key (xmul x y)=0:=l.2.2 (by rw[this,uc]);have s:key (xmul g y)=0:=m.2.2 (by rw[this,uc]);omega
 have j:sg y=1:=ω;rw[j,m8]at l m;cases y with
 | ni=>simp only[key]at k;omega
 | pi =>
  rw[e (.inr (.inr (.inr rfl))),e (.inr (.inr (.inr rfl))),j,m8,m8];exact wA ω ω
 | fin v =>
  cases x with
  | ni =>
   rw[e (.inl rfl),j,m8,show sg X.ni= -1 from rfl];omega
  | pi =>
   cases g with
   | pi=>exact xp _
   | ni=>simp only[key]at h;omega
   | fin w=>simp only[key,okx]at h i;omega
  | fin u=>cases g with
   | pi =>
    rw[e (u:=X.pi) (.inr (.inl rfl)),j,m8,show sg X.pi=1 from rfl];omega
   | ni=>simp only[key,okx]at h hx;omega
   | fin w =>
    rw[uD,uD];simp only[key]at h k⊢;exact wA h k
def um{x b y:X}(hx:okx Dd x)(a:okx Dd b)(hy:okx Dd y)(h:key x≤key b)(c:key y≤0):key (xmul b y)≤key (xmul x y):=by
 have:=rO hx a (zZ hy) h (by rw[lV];omega);rw[uZ,uZ,lV,lV]at this;omega
def El(s:Sp)(x:X):Prop:=okx Dd x∧key s.lo≤key x∧key x≤key s.hi
def yK{s:Sp}(hs:oks C s)(he:emp s=false):El s s.lo:=⟨hs.1.D,xp _,by have:=of_decide_eq_false he;omega⟩
def yJ{s:Sp}(hs:oks C s)(he:emp s=false):El s s.hi:=⟨hs.2.D,by have:=of_decide_eq_false he;omega,xp _⟩
def corner{s t:Sp}(hs:oks C s)(ht:oks C t){x y:X}(hx:El s x)(hy:El t y):
  (∃ a b,(a=s.lo∨a=s.hi)∧(b=t.lo∨b=t.hi)∧key (xmul a b)≤key (xmul x y))∧(∃ a b,(a=s.lo∨a=s.hi)∧(b=t.lo∨b=t.hi)∧key (xmul x y)≤key (xmul a b)):=by
 have one:∀ {s:Sp} {x y:X},oks C s→El s x→okx Dd y→(∃ a,(a=s.lo∨a=s.hi)∧key (xmul a y)≤key (xmul x y))∧(∃ a,(a=s.lo∨a=s.hi)∧key (xmul x y)≤key (xmul a y)):=by
  intro s x y hs hx hy;by_cases h:0≤key y
  ·exact⟨⟨_,.inl rfl,rO hs.1.D hx.1 hy hx.2.1 h⟩,⟨_,.inr rfl,rO hx.1 hs.2.D hy hx.2.2 h⟩⟩
  ·exact⟨⟨_,.inr rfl,um hx.1 hs.2.D hy hx.2.2 ω⟩,⟨_,.inl rfl,um hs.1.D hx.1 hy hx.2.1 ω⟩⟩
 obtain⟨⟨a,c1,c2⟩,⟨g,e,m⟩⟩:=one hs hx hy.1;have d:∀ {c:X},(c=s.lo∨c=s.hi)→okx Dd c:=fun h=>by rcases h with rfl | rfl;exact hs.1.D;exact hs.2.D
 obtain⟨⟨b,i,j⟩,_⟩:=one ht hy (d c1);obtain⟨_,⟨f,k,l⟩⟩:=one ht hy (d e);rw[lN b,lN y]at j;rw[lN f,lN y]at l;exact⟨⟨a,b,c1,i,ω⟩,⟨g,f,e,k,ω⟩⟩
def zY(x y:X):xmin x y=x∨xmin x y=y:=by unfold xmin;split;exact .inr rfl;exact .inl rfl
def zX(x y:X):xmax x y=x∨xmax x y=y:=by unfold xmax;split;exact .inr rfl;exact .inl rfl
def xE{o:X→X→X}{s t:Sp}(hs:emp s=false)(ht:emp t=false):
  ((∃ x y,(x=s.lo∨x=s.hi)∧(y=t.lo∨y=t.hi)∧(apS o s t).lo=o x y)∧(∀ x y,(x=s.lo∨x=s.hi)→(y=t.lo∨y=t.hi)→key (apS o s t).lo≤key (o x y)))∧
  ((∃ x y,(x=s.lo∨x=s.hi)∧(y=t.lo∨y=t.hi)∧(apS o s t).hi=o x y)∧(∀ x y,(x=s.lo∨x=s.hi)→(y=t.lo∨y=t.hi)→key (o x y)≤key (apS o s t).hi)):=by
 have e:apS o s t=⟨xmin (xmin (xmin (o s.lo t.lo) (o s.lo t.hi)) (o s.hi t.lo)) (o s.hi t.hi),xmax (xmax (xmax (o s.lo t.lo) (o s.lo t.hi)) (o s.hi t.lo)) (o s.hi t.hi)⟩:=by
  unfold apS;rw[gR (by simp[hs]),gR (by simp[ht]),sK,hullNE (nZ _) (nZ _)];have c:=nZ (o s.lo t.lo);have d:=nZ (o s.lo t.hi);have b:=nZ (o s.hi t.lo);have g:=nZ (o s.hi t.hi);have a:=uH c d;rw[hullNE c d]at a;rw[hullNE a b];have f:=uH a b;rw[hullNE a b]at f;rw[hullNE f g];rfl
 rw[e];refine⟨⟨?_,?_⟩,⟨?_,?_⟩⟩
 ·simp only;rcases zY (xmin (xmin (o s.lo t.lo) (o s.lo t.hi)) (o s.hi t.lo)) (o s.hi t.hi)with h | h<;>rw[h]
  ·rcases zY (xmin (o s.lo t.lo) (o s.lo t.hi)) (o s.hi t.lo)with h | h<;>rw[h]
   ·rcases zY (o s.lo t.lo) (o s.lo t.hi)with h | h<;>rw[h]
    ·exact⟨_,_,.inl rfl,.inl rfl,rfl⟩
    ·exact⟨_,_,.inl rfl,.inr rfl,rfl⟩
   ·exact⟨_,_,.inr rfl,.inl rfl,rfl⟩
  ·exact⟨_,_,.inr rfl,.inr rfl,rfl⟩
 ·intro x y hx hy;simp only[kX];rcases hx with rfl | rfl<;>rcases hy with rfl | rfl<;>omega
 ·simp only;rcases zX (xmax (xmax (o s.lo t.lo) (o s.lo t.hi)) (o s.hi t.lo)) (o s.hi t.hi)with h | h<;>rw[h]
  ·rcases zX (xmax (o s.lo t.lo) (o s.lo t.hi)) (o s.hi t.lo)with h | h<;>rw[h]
   ·rcases zX (o s.lo t.lo) (o s.lo t.hi)with h | h<;>rw[h]
    ·exact⟨_,_,.inl rfl,.inl rfl,rfl⟩
    ·exact⟨_,_,.inl rfl,.inr rfl,rfl⟩
   ·exact⟨_,_,.inr rfl,.inl rfl,rfl⟩
  ·exact⟨_,_,.inr rfl,.inr rfl,rfl⟩
 ·intro x y hx hy;simp only[lK];rcases hx with rfl | rfl<;>rcases hy with rfl | rfl<;>omega
def pt(i:Nat)(s:Sp):Sp:=if i=0 then negS s else if i=1 then zerS s else posS s
def Qp(i k:Nat)(p q:Sp):Sp:=if i=1∨k=1 then⟨.fin 0,.fin 0⟩else if i=0 then(if k=0 then⟨xmul p.hi q.hi,xmul p.lo q.lo⟩else⟨xmul p.lo q.hi,xmul p.hi q.lo⟩)else(if k=0 then⟨xmul p.hi q.lo,xmul p.lo q.hi⟩else⟨xmul p.lo q.lo,xmul p.hi q.hi⟩)
def uS{s:Sp}(h:oks C s)(i:Nat):oks C (pt i s):=by
 unfold pt;split
 ·exact yw h
 ·split
  ·exact aiH h
  ·exact fQ h
def i3{i:Nat}(h:i < 3):i=0∨i=1∨i=2:=ω
def uq{s:Sp}(h:oks C s):(key (negS s).lo=key s.lo∧key (negS s).hi=min (key s.hi) (-1))∧(key (zerS s).lo=max (key s.lo) 0∧key (zerS s).hi=min (key s.hi) 0)∧(key (posS s).lo=max (key s.lo) 1∧key (posS s).hi=key s.hi):=by
 have a:=qV h.K.1;have b:=qV h.K.2;have c:key (negS s).lo=max (key s.lo) (-K):=lK s.lo .ni;have d:key (negS s).hi=min (key s.hi) (-1):=kX s.hi (.fin (-1));have h3:key (zerS s).lo=max (key s.lo) 0:=lK s.lo (.fin 0);have e:key (zerS s).hi=min (key s.hi) 0:=kX s.hi (.fin 0);have f:key (posS s).lo=max (key s.lo) 1:=lK s.lo (.fin 1);have g:key (posS s).hi=min (key s.hi) K:=kX s.hi .pi;omega
def ab9{s:Sp}(hs:oks C s){i:Nat}{x:X}(h:El (pt i s) x):El s x:=by
 have k:=uq hs;obtain⟨b,a,h3⟩:=h;refine⟨b,?_,?_⟩<;>unfold pt at a h3<;>split at a<;>(try split at a)<;>simp_all<;>omega
def abC{s:Sp}{x:X}(h:El s x):emp s=false:=gO (by have:=h.2;omega)
def vI{s:Sp}(hs:oks C s){x:X}:(El (pt 0 s) x→key x≤-1)∧(El (pt 1 s) x→key x=0)∧(El (pt 2 s) x→1≤key x):=by
 have k:=uq hs;refine⟨fun h=>?_,fun h=>?_,fun h=>?_⟩
 ·have:=h.2.2;simp only[pt,if_true]at this;omega
 ·have a:=h.2.1;have b:=h.2.2;simp only[pt,q9,if_true,if_false]at a b;omega
 ·have:=h.2.1;simp only[pt,show ¬(2=0) by omega,show ¬(2=1) by omega,if_false]at this;omega
def cls{s:Sp}(hs:oks C s){x:X}(h:El s x):∃ i,i < 3∧El (pt i s) x:=by
 have k:=uq hs;obtain⟨a,b,h3⟩:=h;rcases Int.lt_trichotomy (key x) 0 with z | z | z
 ·exact⟨0,ω,a,by simp only[pt,if_true];omega,by simp only[pt,if_true];omega⟩
 ·exact⟨1,ω,a,by simp only[pt,q9,if_true,if_false];omega,by simp only[pt,q9,if_true,if_false];omega⟩
 ·exact⟨2,ω,a,by simp only[pt,show ¬(2=0) by omega,show ¬(2=1) by omega,if_false];omega,by simp only[pt,show ¬(2=0) by omega,show ¬(2=1) by omega,if_false];omega⟩
def sg0{x:X}(h:key x=0):sg x=0:=(qF x).2.1.2 h
def zD{x y:X}(h:key x=0∨key y=0):xmul x y=.fin 0:=by
 unfold xmul;rw[gT];rcases h with h | h
 ·rw[sg0 h,mU]
 ·rw[sg0 h,uc]
def upr{x y a:X}(hx:okx Dd x)(hy:okx Dd y)(b:okx Dd a)(h:key y≤key a)(c:0≤key x):key (xmul x y)≤key (xmul x a):=by rw[lN x y,lN x a];exact rO hy b hx h c
def dnr{x y a:X}(hx:okx Dd x)(hy:okx Dd y)(b:okx Dd a)(h:key y≤key a)(c:key x≤0):key (xmul x a)≤key (xmul x y):=by rw[lN x y,lN x a];exact um hy b hx h c
def ac7{s t:Sp}(hs:oks C s)(ht:oks C t){i k:Nat}(hi:i < 3)(h:k < 3){x y:X}(hx:El (pt i s) x)(hy:El (pt k t) y):
  key (Qp i k (pt i s) (pt k t)).lo≤key (xmul x y)∧key (xmul x y)≤key (Qp i k (pt i s) (pt k t)).hi:=by
 have ps:=uS hs i;have m:=uS ht k;have j:=abC hx;have l:=abC hy;have a:=yK ps j;have b:=yJ ps j;have c:=yK m l;have d:=yJ m l;have S:=@vI s hs;have T:=@vI t ht;rcases i3 hi with rfl | rfl | rfl
 ·have g:=S.1 hx;have n:=S.1 a;have o:=S.1 b;rcases i3 h with rfl | rfl | rfl
  ·have e:=T.1 hy;have sc:=T.1 c;have f:=T.1 d;simp only[Qp,rh,or_self,if_false,if_true];exact⟨tU (um hx.1 b.1 d.1 hx.2.2 ω) (dnr hx.1 hy.1 d.1 hy.2.2 ω),tU (um a.1 hx.1 hy.1 hx.2.1 ω) (dnr a.1 c.1 hy.1 hy.2.1 ω)⟩
  ·have e:=T.2.1 hy;simp only[Qp,or_true,if_true];rw[zD (.inr e)];exact⟨xp _,xp _⟩
  ·have e:=T.2.2 hy;have sc:=T.2.2 c;have f:=T.2.2 d;simp only[Qp,rh,show ¬(2=1) by omega,show ¬(2=0) by omega,or_self,if_false,if_true];exact⟨tU (dnr a.1 hy.1 d.1 hy.2.2 ω) (rO a.1 hx.1 hy.1 hx.2.1 ω),tU (rO hx.1 b.1 hy.1 hx.2.2 ω) (dnr b.1 c.1 hy.1 hy.2.1 ω)⟩
 ·have g:=S.2.1 hx;simp only[Qp,true_or,if_true];rw[zD (.inl g)];exact⟨xp _,xp _⟩
 ·have g:=S.2.2 hx;have n:=S.2.2 a;have o:=S.2.2 b;rcases i3 h with rfl | rfl | rfl
  ·have e:=T.1 hy;have sc:=T.1 c;have f:=T.1 d;simp only[Qp,rh,show ¬(2=1) by omega,show ¬(2=0) by omega,or_self,if_false,if_true];exact⟨tU (um hx.1 b.1 c.1 hx.2.2 ω) (upr hx.1 c.1 hy.1 hy.2.1 ω),tU (um a.1 hx.1 hy.1 hx.2.1 ω) (upr a.1 hy.1 d.1 hy.2.2 ω)⟩
  ·have e:=T.2.1 hy;simp only[Qp,or_true,if_true];rw[zD (.inr e)];exact⟨xp _,xp _⟩
  ·have e:=T.2.2 hy;have sc:=T.2.2 c;have f:=T.2.2 d;simp only[Qp,show ¬(2=1) by omega,show ¬(2=0) by omega,or_self,if_false];exact⟨tU (rO a.1 hx.1 c.1 hx.2.1 ω) (upr hx.1 c.1 hy.1 hy.2.1 ω),tU (rO hx.1 b.1 hy.1 hx.2.2 ω) (upr b.1 hy.1 d.1 hy.2.2 ω)⟩
def ahR{s t:Sp}(hs:oks C s)(ht:oks C t){i k:Nat}(hi:i < 3)(h:k < 3)(f:emp (pt i s)=false)(g:emp (pt k t)=false):
  (∃ x y,El (pt i s) x∧El (pt k t) y∧(Qp i k (pt i s) (pt k t)).lo=xmul x y)∧(∃ x y,El (pt i s) x∧El (pt k t) y∧(Qp i k (pt i s) (pt k t)).hi=xmul x y):=by
 have a:=yK (uS hs i) f;have b:=yJ (uS hs i) f;have c:=yK (uS ht k) g;have d:=yJ (uS ht k) g;by_cases z:i=1∨k=1
 ·have e:xmul (pt i s).lo (pt k t).lo=.fin 0:=by
   apply zD;rcases z with rfl | rfl
   ·exact .inl ((vI hs).2.1 a)
   ·exact .inr ((vI ht).2.1 c)
  simp only[Qp,gT z];exact⟨⟨_,_,a,c,e.symm⟩,⟨_,_,a,c,e.symm⟩⟩
 ·unfold Qp;rw[gR z];split<;>split
  ·exact⟨⟨_,_,b,d,rfl⟩,⟨_,_,a,c,rfl⟩⟩
  ·exact⟨⟨_,_,a,d,rfl⟩,⟨_,_,b,c,rfl⟩⟩
  ·exact⟨⟨_,_,b,c,rfl⟩,⟨_,_,a,d,rfl⟩⟩
  ·exact⟨⟨_,_,a,c,rfl⟩,⟨_,_,b,d,rfl⟩⟩
def aaZ{s t:Sp}(hs:oks C s)(ht:oks C t)(i k:Nat):oks K (Qp i k (pt i s) (pt k t)):=by
 have a:=K_gt;have p:=uS hs i;have q:=uS ht k;have z:okx K (.fin 0):=by simp only[okx];omega
 unfold Qp;split
 ·exact⟨z,z⟩
 ·split<;>split
  ·exact⟨qR p.2 q.2,qR p.1 q.1⟩
  ·exact⟨qR p.1 q.2,qR p.2 q.1⟩
  ·exact⟨qR p.2 q.1,qR p.1 q.2⟩
  ·exact⟨qR p.1 q.1,qR p.2 q.2⟩
def abx(x:X):xmul (.fin 1) x=x:=by
 cases x with
 | fin z=>rw[uD,pZ]
 | ni=>rfl
 | pi=>rfl
def aaX(x:X):xmul (.fin (-1)) x=xneg x:=by
 have:=wL (.fin 1) x;rw[abx]at this;exact this
section
variable {s t:Sp}(hs:oks C s)(ht:oks C t)(es:emp s=false)(et:emp t=false)(ps:Pr s)(pt':Pr t)
include hs ht es et
theorem xZ{x y:X}(hx:x=s.lo∨x=s.hi)(hy:y=t.lo∨y=t.hi):El s x∧El t y:=by
 constructor
 ·rcases hx with rfl | rfl
  ·exact yK hs es
  ·exact yJ hs es
 ·rcases hy with rfl | rfl
  ·exact yK ht et
  ·exact yJ ht et
theorem F1{i k:Nat}(hi:i < 3)(u:k < 3)(q:emp (pt i s)=false)(r:emp (pt k t)=false):
  key (apS xmul s t).lo≤key (Qp i k (pt i s) (pt k t)).lo∧key (Qp i k (pt i s) (pt k t)).hi≤key (apS xmul s t).hi:=by
 obtain⟨⟨x,y,hx,hy,e⟩,⟨w,z,c,d,p⟩⟩:=ahR hs ht hi u q r;have f:=xE (o:=xmul) es et;obtain⟨⟨g,h,c1,c2,c3⟩,_⟩:=corner hs ht (ab9 hs hx) (ab9 ht hy);obtain⟨_,⟨m,n,j,l,v⟩⟩:=corner hs ht (ab9 hs c) (ab9 ht d);have a:=f.1.2 g h c1 c2;have b:=f.2.2 m n j l;rw[e,p];omega
theorem F2:(∃ i k,i < 3∧k < 3∧emp (pt i s)=false∧emp (pt k t)=false∧(Qp i k (pt i s) (pt k t)).lo=(apS xmul s t).lo)∧
  (∃ i k,i < 3∧k < 3∧emp (pt i s)=false∧emp (pt k t)=false∧(Qp i k (pt i s) (pt k t)).hi=(apS xmul s t).hi):=by
 have h:=xE (o:=xmul) es et;have ok:=aaL hs ht;constructor
 ·obtain⟨j,l,c1,c2,c3⟩:=h.1.1;have b:=xZ hs ht es et c1 c2;obtain⟨i,hi,e⟩:=cls hs b.1;obtain⟨k,a,g⟩:=cls ht b.2;have c:=abC e;have d:=abC g;have q:=ac7 hs ht hi a e g;have f:=F1 hs ht es et hi a c d;refine⟨i,k,hi,a,c,d,key_inj (aaZ hs ht i k).1 ok.1 ?_⟩;rw[←c3]at q;omega
 ·obtain⟨j,l,c1,c2,c3⟩:=h.2.1;have b:=xZ hs ht es et c1 c2;obtain⟨i,hi,e⟩:=cls hs b.1;obtain⟨k,a,g⟩:=cls ht b.2;have c:=abC e;have d:=abC g;have q:=ac7 hs ht hi a e g;have f:=F1 hs ht es et hi a c d;refine⟨i,k,hi,a,c,d,key_inj (aaZ hs ht i k).2 ok.2 ?_⟩;rw[←c3]at q;omega
end
def near{s:Sp}(hs:oks C s)(ps:Pr s){x:X}(hx:El s x):(emp (posS s)=false→¬El (pt 2 s) x→(posS s).lo=.fin 1)∧(emp (negS s)=false→¬El (pt 0 s) x→(negS s).hi=.fin (-1)):=by
 have k:=uq hs;have a:∀ z,key (X.fin z)=z:=fun _=>rfl;refine⟨fun e h=>?_,fun e h=>?_⟩
 ·apply key_inj (fQ hs).K.1 ((qf δ δ).mono (zR fO));rw[a];by_cases c:key x≤0
  ·have:=hx.2;omega
  ·exfalso;apply h;refine⟨hx.1,?_,?_⟩<;>simp only[pt,show ¬(2=0) by omega,show ¬(2=1) by omega,if_false]<;>have:=hx.2<;>omega
 ·apply key_inj (yw hs).K.2 ((qf δ δ).mono (zR fO));rw[a];by_cases c:0≤key x
  ·have:=hx.2;omega
  ·exfalso;apply h;refine⟨hx.1,?_,?_⟩<;>simp only[pt,if_true]<;>have:=hx.2<;>omega
def abl{s:Sp}(hs:oks C s)(ps:Pr s):(emp (posS s)=false→key (posS s).lo < C)∧(emp (negS s)=false→-C < key (negS s).hi):=by
 constructor
 ·intro e;obtain⟨l,a,b,_⟩:=zI e hs ps;have:=(fQ hs).1;rw[a]at this⊢;exact this.2
 ·intro e;have p:=(zH ps hs).resolve_left (by simp[e]);have ok:=(yw hs).2;have k:=(uq hs).1.2;have c:=K_gt;cases h:(negS s).hi with
  | ni=>exact absurd h p.2
  | pi=>rw[h]at k;simp only[key]at k;omega
  | fin z=>rw[h]at ok;exact ok.1
section
variable {s t:Sp}(hs:oks C s)(ht:oks C t)(es:emp s=false)(et:emp t=false)(ps:Pr s)(pt':Pr t)
include hs ht es et ps pt'
theorem F3{i k:Nat}(hi:i < 3)(B:k < 3)(g:emp (pt i s)=false)(j:emp (pt k t)=false):
  (C≤key (Qp i k (pt i s) (pt k t)).lo→(Qp i k (pt i s) (pt k t)).lo=(apS xmul s t).lo)∧(key (Qp i k (pt i s) (pt k t)).hi≤-C→(Qp i k (pt i s) (pt k t)).hi=(apS xmul s t).hi):=by
 have N:=C_gt;have I:=xE (o:=xmul) es et;have ok:=aaL hs ht;have D:=aaZ hs ht i k;have f:=F1 hs ht es et hi B g j;have S:=@vI s hs;have T:=@vI t ht;have a:=yK (uS hs i) g;have b:=yJ (uS hs i) g;have c:=yK (uS ht k) j;have d:=yJ (uS ht k) j;have sgn:∀ {x y:X},(1≤key x∧1≤key y)∨(key x≤-1∧key y≤-1)→0 < key (xmul x y):=by
  intro x y h;have m:=tV (x:=x) (y:=y);have J:=qF x;have K:=qF y;have L:=sg3 x;have M:=sg3 y;rcases h with h | h
  ·have z:sg x=1:=ω;have A:sg y=1:=ω;rw[z,A]at m;omega
  ·have z:sg x= -1:=ω;have A:sg y= -1:=ω;rw[z,A]at m;omega
 have p:∀ {x y:X},(1≤key x∧key y≤-1)∨(key x≤-1∧1≤key y)→key (xmul x y) < 0:=by
  intro x y h;have m:=tV (x:=x) (y:=y);have J:=qF x;have K:=qF y;have L:=sg3 x;have M:=sg3 y;rcases h with h | h
  ·have z:sg x=1:=ω;have A:sg y= -1:=ω;rw[z,A]at m;omega
  ·have z:sg x= -1:=ω;have A:sg y=1:=ω;rw[z,A]at m;omega
 have u:pt 0 s=negS s:=rfl;have p2:pt 2 s=posS s:=rfl;have v:pt 0 t=negS t:=rfl;have w:pt 2 t=posS t:=rfl;have E:=abl hs ps;have F:=abl ht pt';constructor
 ·intro e;apply key_inj D.1 ok.1;obtain⟨G,H,c1,c2,c3⟩:=I.1.1;have r:=xZ hs ht es et c1 c2;by_cases l:El (pt i s) G
  ·by_cases n:El (pt k t) H
   ·have q:=ac7 hs ht hi B l n;rw[←c3]at q;omega
   ·exfalso;rcases i3 hi with rfl | rfl | rfl<;>rcases i3 B with rfl | rfl | rfl<;>simp only[Qp,rh,q9,show ¬(2=1) by omega,show ¬(2=0) by omega,or_self,or_true,true_or,if_false,if_true]at e<;>(try simp only[show key (X.fin 0)=0 from rfl]at e)<;>(try omega)
    ·rw[u,v]at e;rw[v]at j;rw[(near ht pt' r.2).2 j n,lN,aaX,lV]at e;rw[u]at g;have:=E.2 g;omega
    ·have:=p (x:=(pt 0 s).lo) (y:=(pt 2 t).hi) (.inr ⟨S.1 a,T.2.2 d⟩);omega
    ·have:=p (x:=(pt 2 s).hi) (y:=(pt 0 t).lo) (.inl ⟨S.2.2 b,T.1 c⟩);omega
    ·rw[p2,w]at e;rw[w]at j;rw[(near ht pt' r.2).1 j n,lN,abx]at e;rw[p2]at g;have:=E.1 g;omega
  ·exfalso;rcases i3 hi with rfl | rfl | rfl<;>rcases i3 B with rfl | rfl | rfl<;>simp only[Qp,rh,q9,show ¬(2=1) by omega,show ¬(2=0) by omega,or_self,or_true,true_or,if_false,if_true]at e<;>(try simp only[show key (X.fin 0)=0 from rfl]at e)<;>(try omega)
   ·rw[u,v]at e;rw[u]at g;rw[(near hs ps r.1).2 g l,aaX,lV]at e;rw[v]at j;have:=F.2 j;omega
   ·have:=p (x:=(pt 0 s).lo) (y:=(pt 2 t).hi) (.inr ⟨S.1 a,T.2.2 d⟩);omega
   ·have:=p (x:=(pt 2 s).hi) (y:=(pt 0 t).lo) (.inl ⟨S.2.2 b,T.1 c⟩);omega
   ·rw[p2,w]at e;rw[p2]at g;rw[(near hs ps r.1).1 g l,abx]at e;rw[w]at j;have:=F.1 j;omega
 ·intro e;apply key_inj D.2 ok.2;obtain⟨G,H,c1,c2,c3⟩:=I.2.1;have r:=xZ hs ht es et c1 c2;by_cases l:El (pt i s) G
  ·by_cases n:El (pt k t) H
   ·have q:=ac7 hs ht hi B l n;rw[←c3]at q;omega
   ·exfalso;rcases i3 hi with rfl | rfl | rfl<;>rcases i3 B with rfl | rfl | rfl<;>simp only[Qp,rh,q9,show ¬(2=1) by omega,show ¬(2=0) by omega,or_self,or_true,true_or,if_false,if_true]at e<;>(try simp only[show key (X.fin 0)=0 from rfl]at e)<;>(try omega)
    ·have:=sgn (x:=(pt 0 s).lo) (y:=(pt 0 t).lo) (.inr ⟨S.1 a,T.1 c⟩);omega
    ·rw[u,w]at e;rw[w]at j;rw[(near ht pt' r.2).1 j n,lN,abx]at e;rw[u]at g;have:=E.2 g;omega
    ·rw[p2,v]at e;rw[v]at j;rw[(near ht pt' r.2).2 j n,lN,aaX,lV]at e;rw[p2]at g;have:=E.1 g;omega
    ·have:=sgn (x:=(pt 2 s).hi) (y:=(pt 2 t).hi) (.inl ⟨S.2.2 b,T.2.2 d⟩);omega
  ·exfalso;rcases i3 hi with rfl | rfl | rfl<;>rcases i3 B with rfl | rfl | rfl<;>simp only[Qp,rh,q9,show ¬(2=1) by omega,show ¬(2=0) by omega,or_self,or_true,true_or,if_false,if_true]at e<;>(try simp only[show key (X.fin 0)=0 from rfl]at e)<;>(try omega)
   ·have:=sgn (x:=(pt 0 s).lo) (y:=(pt 0 t).lo) (.inr ⟨S.1 a,T.1 c⟩);omega
   ·rw[u,w]at e;rw[u]at g;rw[(near hs ps r.1).2 g l,aaX,lV]at e;rw[w]at j;have:=F.1 j;omega
   ·rw[p2,v]at e;rw[p2]at g;rw[(near hs ps r.1).1 g l,abx]at e;rw[v]at j;have:=F.2 j;omega
   ·have:=sgn (x:=(pt 2 s).hi) (y:=(pt 2 t).hi) (.inl ⟨S.2.2 b,T.2.2 d⟩);omega
theorem afX{i k:Nat}(hi:i < 3)(G:k < 3)(o:emp (pt i s)=false)(r:emp (pt k t)=false):emp (Qp i k (pt i s) (pt k t))=false∧(Qp i k (pt i s) (pt k t)).lo≠.pi∧(Qp i k (pt i s) (pt k t)).hi≠.ni:=by
 have I:=K_gt;have a:=yK (uS hs i) o;have b:=yJ (uS hs i) o;have c:=yK (uS ht k) r;have d:=yJ (uS ht k) r;have q:=ac7 hs ht hi G a c;refine⟨gO ω,?_⟩;have A:∀ {s:Sp},oks C s→Pr s→emp (pt 2 s)=false→∃ z,(pt 2 s).lo=.fin z:=fun h p e=>by
  obtain⟨l,H,_⟩:=zI (s:=_) e h p;exact⟨l,H⟩
 have w:∀ {s:Sp},oks C s→Pr s→emp (pt 0 s)=false→∃ z,(pt 0 s).hi=.fin z:=fun {s} h p e=>by
  have p':=(zH p h).resolve_left (by rw[show negS s=pt 0 s from rfl,e];simp);have k:=(uq h).1.2;cases F:(negS s).hi with
  | ni=>exact absurd F p'.2
  | pi=>rw[F]at k;simp only[key]at k;omega
  | fin z=>exact⟨z,F⟩
 have f:∀ {x y:X} {g:Int},sg x*sg y=g→(g= -1→xmul x y≠.pi)∧(g=1→xmul x y≠.ni):=fun {x y g} h=>by
  have m:=tV (x:=x) (y:=y);rw[h]at m;constructor
  ·rintro rfl e;rw[e]at m;simp only[key]at m;omega
  ·rintro rfl e;rw[e]at m;simp only[key]at m;omega
 have E:=@vI s hs;have sc:=@vI t ht;have D:∀ {x:X},1≤key x→sg x=1:=fun {x} h=>by have:=qF x;have:=sg3 x;omega
 have B:∀ {x:X},key x≤-1→sg x= -1:=fun {x} h=>by have:=qF x;have:=sg3 x;omega
 rcases i3 hi with rfl | rfl | rfl<;>rcases i3 G with rfl | rfl | rfl<;>simp only[Qp,rh,q9,show ¬(2=1) by omega,show ¬(2=0) by omega,or_self,or_true,true_or,if_false,if_true]
 ·obtain⟨u,j⟩:=w hs ps o;obtain⟨v,n⟩:=w ht pt' r;refine⟨by rw[j,n,uD];simp,(f (g:=1) ?_).2 rfl⟩;rw[B (E.1 a),B (sc.1 c)];rfl
 ·simp
 ·obtain⟨u,j⟩:=w hs ps o;obtain⟨v,n⟩:=A ht pt' r;refine⟨(f (g:= -1) ?_).1 rfl,by rw[j,n,uD];simp⟩;rw[B (E.1 a),D (sc.2.2 d)];rfl
 ·simp
 ·simp
 ·simp
 ·obtain⟨u,j⟩:=A hs ps o;obtain⟨v,n⟩:=w ht pt' r;refine⟨(f (g:= -1) ?_).1 rfl,by rw[j,n,uD];simp⟩;rw[D (E.2.2 b),B (sc.1 c)];rfl
 ·simp
 ·obtain⟨u,j⟩:=A hs ps o;obtain⟨v,n⟩:=A ht pt' r;refine⟨by rw[j,n,uD];simp,(f (g:=1) ?_).2 rfl⟩;rw[D (E.2.2 b),D (sc.2.2 d)];rfl
end
def joinA{a b:A}(ha:Wf a)(hb:Wf b)(g:a.em=false)(h:b.em=false):toA (hull (ofA a) (ofA b))=⟨false,leastO a.lo b.lo,lH a.hi b.hi⟩:=by
 have c:=kK ha;have d:=kK hb;rw[g]at c;rw[h]at d;have ne:=uH c d;rw[hullNE c d]at ne⊢;have i:ofA a=⟨lox a.lo,hix a.hi⟩:=by unfold ofA;rw[gR (by simp[g])]
 have j:ofA b=⟨lox b.lo,hix b.hi⟩:=by unfold ofA;rw[gR (by simp[h])]
 unfold toA;rw[ne,gR ψ,i,j];simp only;rw[←(abT ha.loK hb.loK).1,←(zC ha.hiK hb.hiK).1,acY,acX];have l1:=ha.lo;have l2:=hb.lo;have l3:=ha.hi;have l4:=hb.hi;congr 1
 ·cases e:a.lo<;>cases f:b.lo<;>simp only[leastO,gE,wT,clip];rw[e]at l1;rw[f]at l2;simp only[okb]at l1 l2;rw[gT (by split<;>omega)]
 ·cases e:a.hi<;>cases f:b.hi<;>simp only[lH,gE,wT,clip];rw[e]at l3;rw[f]at l4;simp only[okb]at l3 l4;rw[gT (by split<;>omega)]
def LoI(S:List Sp):Option Int→Prop
 | none=>∃ q∈S,tx q.lo=none
 | some m=>(∃ q∈S,tx q.lo=some m)∧∀ q∈S,∃ z,tx q.lo=some z∧m≤z
def HiI(S:List Sp):Option Int→Prop
 | none=>∃ q∈S,tx q.hi=none
 | some m=>(∃ q∈S,tx q.hi=some m)∧∀ q∈S,∃ z,tx q.hi=some z∧z≤m
structure Inv(S:List Sp)(out:A):Prop where
 wf:Wf out
 nil:S=[]→out=E0
 some:S≠[]→out.em=false∧LoI S out.lo∧HiI S out.hi
def agG{S:List Sp}{out:A}(h:Inv S out){q:Sp}(D:oks K q)(eq:emp q=false)(p1:q.lo≠.pi)(p2:q.hi≠.ni):Inv (q::S) (toA (hull (ofA out) (ofA (toA q)))):=by
 have b:Wf (toA q):=sV D (.inr ⟨p1,p2⟩);have o:toA q=⟨false,tx q.lo,tx q.hi⟩:=by unfold toA;rw[eq,gR ψ]
 by_cases u:S=[]
 ·subst u;have e:=h.nil rfl;subst e;have e0:ofA E0=non:=rfl;rw[e0,sK,aaV b];refine⟨b,(fun h=>by simp at h),fun _=>?_⟩;rw[o];refine⟨rfl,?_,?_⟩
  ·simp only;cases hx:tx q.lo with
   | none=>exact⟨q,ψ,hx⟩
   | some m=>exact⟨⟨q,ψ,hx⟩,fun r f=>by simp only[sj]at f;subst f;exact⟨m,hx,xp _⟩⟩
  ·simp only;cases hx:tx q.hi with
   | none=>exact⟨q,ψ,hx⟩
   | some m=>exact⟨⟨q,ψ,hx⟩,fun r f=>by simp only[sj]at f;subst f;exact⟨m,hx,xp _⟩⟩
 ·obtain⟨t,i,k⟩:=h.some u;have em:(toA q).em=false:=by rw[o]
  have j:=joinA h.wf b t em;have w:Wf (toA (hull (ofA out) (ofA (toA q)))):=by
   refine sV (jA h.wf.okK b.okK) ?_;have x:=h.wf.pr;have y:=b.pr;have l:=kK h.wf;have n:=kK b;rw[t]at l;rw[em]at n;right;rw[hullNE l n];have B:=x.resolve_left (by simp[l]);have C:=y.resolve_left (by simp[n]);constructor
   ·simp only;rcases zY (ofA out).lo (ofA (toA q)).lo with g | g<;>rw[g]
    ·exact B.1
    ·exact C.1
   ·simp only;rcases zX (ofA out).hi (ofA (toA q)).hi with g | g<;>rw[g]
    ·exact B.2
    ·exact C.2
  refine⟨w,(fun h=>by simp at h),fun _=>?_⟩;rw[j,o];refine⟨rfl,?_,?_⟩
  ·simp only;cases d:out.lo with
   | none =>
    rw[d]at i;obtain⟨r,r1,r2⟩:=i;exact⟨r,by simp[r1],r2⟩
   | some m =>
    rw[d]at i;obtain⟨⟨r,r1,r2⟩,r3⟩:=i;cases hx:tx q.lo with
    | none=>exact⟨q,ψ,hx⟩
    | some z =>
     simp only[leastO];by_cases c:z < m
     ·rw[gT c];refine⟨⟨q,ψ,hx⟩,fun p a=>?_⟩;rcases ww.1 a with rfl | a
      ·exact⟨z,hx,xp _⟩
      ·obtain⟨v,s,E⟩:=r3 p a;exact⟨v,s,ω⟩
     ·rw[gR c];refine⟨⟨r,by simp[r1],r2⟩,fun p a=>?_⟩;rcases ww.1 a with rfl | a
      ·exact⟨z,hx,ω⟩
      ·exact r3 p a
  ·simp only;cases d:out.hi with
   | none =>
    rw[d]at k;obtain⟨r,r1,r2⟩:=k;exact⟨r,by simp[r1],r2⟩
   | some m =>
    rw[d]at k;obtain⟨⟨r,r1,r2⟩,r3⟩:=k;cases hx:tx q.hi with
    | none=>exact⟨q,ψ,hx⟩
    | some z =>
     simp only[lH];by_cases c:m < z
     ·rw[gT c];refine⟨⟨q,ψ,hx⟩,fun p a=>?_⟩;rcases ww.1 a with rfl | a
      ·exact⟨z,hx,xp _⟩
      ·obtain⟨v,s,E⟩:=r3 p a;exact⟨v,s,ω⟩
     ·rw[gR c];refine⟨⟨r,by simp[r1],r2⟩,fun p a=>?_⟩;rcases ww.1 a with rfl | a
      ·exact⟨z,hx,ω⟩
      ·exact r3 p a
def prs:List (Nat×Nat):=[(0,0),(0,1),(0,2),(1,0),(1,1),(1,2),(2,0),(2,1),(2,2)]
def stA(s t:Sp)(out:A)(p:Nat×Nat):A:=if emp (pt p.1 s)=true then out else if emp (pt p.2 t)=true then out else toA (hull (ofA out) (ofA (toA (Qp p.1 p.2 (pt p.1 s) (pt p.2 t)))))
def stL(s t:Sp)(S:List Sp)(p:Nat×Nat):List Sp:=if emp (pt p.1 s)=true then S else if emp (pt p.2 t)=true then S else Qp p.1 p.2 (pt p.1 s) (pt p.2 t)::S
section
variable {s t:Sp}(hs:oks C s)(ht:oks C t)(es:emp s=false)(et:emp t=false)(ps:Pr s)(pt':Pr t)
include hs ht es et ps pt'
theorem inv_one{S:List Sp}{out:A}(h:Inv S out){p:Nat×Nat}(a:p.1 < 3)(b:p.2 < 3):Inv (stL s t S p) (stA s t out p):=by
 unfold stL stA;by_cases c1:emp (pt p.1 s)=true
 ·rw[gT c1,gT c1];exact h
 ·rw[gR c1,gR c1];by_cases c2:emp (pt p.2 t)=true
  ·rw[gT c2,gT c2];exact h
  ·rw[gR c2,gR c2];have q:=afX hs ht es et ps pt' a b (by simpa using c1) (by simpa using c2);exact agG h (aaZ hs ht _ _) q.1 q.2.1 q.2.2
theorem aeQ:∀ (l:List (Nat×Nat)) (S:List Sp) (out:A),(∀ p∈l,p.1 < 3∧p.2 < 3)→Inv S out→Inv (l.foldl (stL s t) S) (l.foldl (stA s t) out)
 | [],S,out,_,h=>h
 | p::l,S,out,hl,h=>by
  have a:=hl p ψ;exact aeQ l _ _ (fun q b=>hl q (by simp[b])) (inv_one hs ht es et ps pt' h a.1 a.2)
omit hs ht es et ps pt' in
theorem aeU(q:Sp):∀ (l:List (Nat×Nat)) (S:List Sp),q∈l.foldl (stL s t) S↔q∈S∨∃ p∈l,emp (pt p.1 s)=false∧emp (pt p.2 t)=false∧q=Qp p.1 p.2 (pt p.1 s) (pt p.2 t)
 | [],S=>ψ
 | p::l,S=>by
  rw[tf,aeU q l];unfold stL;by_cases c1:emp (pt p.1 s)=true
  ·rw[gT c1];simp[c1]
  ·rw[gR c1];by_cases c2:emp (pt p.2 t)=true
   ·rw[gT c2];simp[c2]
   ·rw[gR c2];simp only[ww,Bool.not_eq_true]at c1 c2⊢;constructor
    ·rintro ((h | h) | ⟨r,r1,r2⟩)
     ·exact .inr ⟨p,.inl rfl,c1,c2,h⟩
     ·exact .inl h
     ·exact .inr ⟨r,.inr r1,r2⟩
    ·rintro (h | ⟨r,rfl | r1,r2⟩)
     ·exact .inl (.inr h)
     ·exact .inl (.inl r2.2.2)
     ·exact .inr ⟨r,r1,r2⟩
theorem agq:prs.foldl (stA s t) E0=toA (apS xmul s t):=by
 have hC:=C_gt;have hK:=fO;have u:=aeQ hs ht es et ps pt' prs [] E0 δ ⟨uz▸sV jC (.inl iG),fun _=>rfl,fun h=>absurd rfl h⟩;have mem:=fun q=>aeU (s:=s) (t:=t) q prs [];have U:=F2 hs ht es et;have v:∀ p∈prs,p.1 < 3∧p.2 < 3:=δ;have r:∀ i k,i < 3→k < 3→(i,k)∈prs:=by
  intro i k hi l;rcases i3 hi with rfl | rfl | rfl<;>rcases i3 l with rfl | rfl | rfl<;>decide
 have ok:=aaL hs ht;have ne:=aaD (o:=xmul) es et;generalize hS:prs.foldl (stL s t) []=S at u mem;have V:∀ q,q∈S→∃ i k,i < 3∧k < 3∧emp (pt i s)=false∧emp (pt k t)=false∧q=Qp i k (pt i s) (pt k t):=fun q M=>by
  rcases (mem q).1 M with h | ⟨p,p1,p2,W,Y⟩
  ·simp at h
  ·exact⟨p.1,p.2,(v p p1).1,(v p p1).2,p2,W,Y⟩
 have f:∀ q∈S,key (apS xmul s t).lo≤key q.lo∧key q.hi≤key (apS xmul s t).hi∧(C≤key q.lo→q.lo=(apS xmul s t).lo)∧(key q.hi≤-C→q.hi=(apS xmul s t).hi)∧oks K q:=fun q M=>by
  obtain⟨i,k,hi,l,y,A,rfl⟩:=V q M;have a:=F1 hs ht es et hi l y A;have b:=F3 hs ht es et ps pt' hi l y A;exact⟨a.1,a.2,b.1,b.2,aaZ hs ht i k⟩
 obtain⟨⟨i,k,hi,l,y,A,T⟩,⟨E,F,I,J,G,H,R⟩⟩:=U;have P:Qp i k (pt i s) (pt k t)∈S:=(mem _).2 (.inr ⟨(i,k),r i k hi l,y,A,rfl⟩);have Z:Qp E F (pt E s) (pt F t)∈S:=(mem _).2 (.inr ⟨(E,F),r E F I J,G,H,rfl⟩);have L:S≠[]:=List.ne_nil_of_mem P;obtain⟨O,B,D⟩:=u.some L;generalize hO:prs.foldl (stA s t) E0=out at *
 have tl:∀ x:X,∀ z,tx x=some z→x=.fin z∧-C < z∧z < C:=fun x z h=>by
  cases x with
  | ni=>simp[tx]at h
  | pi=>simp[tx]at h
  | fin w =>
   simp only[tx,clip]at h;split at h
   ·rename_i c;injection h with h;subst h;exact⟨rfl,c⟩
   ·simp at h
 have Q:∀ x:X,okx K x→tx x=none→key x≤-C∨C≤key x:=fun x hx h=>by
  cases x with
  | ni=>left;simp only[key];omega
  | pi=>right;simp only[key];omega
  | fin w =>
   simp only[tx,clip]at h;split at h
   ·simp at h
   ·simp only[key];omega
 have r1:out.lo=tx (apS xmul s t).lo:=by
  cases n:out.lo with
  | none =>
   rw[n]at B;obtain⟨q,g,d⟩:=B;obtain⟨l1,l2,l3,l4,l5⟩:=f q g;cases hx:tx (apS xmul s t).lo with
   | none=>rfl
   | some z =>
    exfalso;have t1:=tl _ _ hx;rcases Q _ l5.1 d with c | c
    ·rw[t1.1,show key (X.fin z)=z from rfl]at l1;omega
    ·have e:=l3 c;rw[e,hx]at d;cases d
  | some m =>
   rw[n]at B;obtain⟨⟨q,g,d⟩,N⟩:=B;obtain⟨l1,l2,l3,l4,l5⟩:=f q g;obtain⟨z,j,z2⟩:=N _ P;rw[T]at j;have t1:=tl _ _ j;have t2:=tl _ _ d;rw[t1.1,t2.1]at l1;simp only[key]at l1;rw[j];congr 1;omega
 have r2:out.hi=tx (apS xmul s t).hi:=by
  cases n:out.hi with
  | none =>
   rw[n]at D;obtain⟨q,g,d⟩:=D;obtain⟨l1,l2,l3,l4,l5⟩:=f q g;cases hx:tx (apS xmul s t).hi with
   | none=>rfl
   | some z =>
    exfalso;have t1:=tl _ _ hx;rcases Q _ l5.2 d with c | c
    ·have e:=l4 c;rw[e,hx]at d;cases d
    ·rw[t1.1,show key (X.fin z)=z from rfl]at l2;omega
  | some m =>
   rw[n]at D;obtain⟨⟨q,g,d⟩,N⟩:=D;obtain⟨l1,l2,l3,l4,l5⟩:=f q g;obtain⟨z,j,z2⟩:=N _ Z;rw[R]at j;have t1:=tl _ _ j;have t2:=tl _ _ d;rw[t1.1,t2.1]at l2;simp only[key]at l2;rw[j];congr 1;omega
 unfold toA;rw[ne,gR ψ,←r1,←r2];obtain⟨oe,ol,oh⟩:=out;simp only at O;rw[O]
end
def ae0{s:Sp}(hs:oks C s){i:Nat}(h:emp (pt i s)=false):emp s=false:=by
 have k:=uq hs;have:=of_decide_eq_false h;apply gO;unfold pt at this;split at this
 ·omega
 ·split at this<;>omega
def adk{s t:Sp}(h:emp s=true∨emp t=true)(hs:oks C s)(ht:oks C t):prs.foldl (stA s t) E0=toA (apS xmul s t):=by
 have b:∀ {s:Sp},oks C s→emp s=true→∀ i,emp (pt i s)=true:=fun {s} h e i=>by
  have k:=uq h;have:=of_decide_eq_true e;apply gP;unfold pt;split
  ·omega
  ·split<;>omega
 have d:∀ out p,stA s t out p=out:=fun out p=>by
  unfold stA;rcases h with h | h
  ·rw[gT (b hs h _)]
  ·split
   ·rfl
   ·rw[gT (b ht h _)]
 have a:∀ l:List (Nat×Nat),l.foldl (stA s t) E0=E0:=fun l=>by
  induction l with
  | nil=>rfl
  | cons p l c=>rw[tf,d];exact c
 rw[a];unfold apS;rcases h with h | h
 ·rw[gT h,uz]
 ·rw[gT h,ite_self,uz]
def PosA(a:A):Prop:=Wf a∧a.em=false∧∃ l,a.lo=some l∧1≤l
def afs{x y:X}(a:sg x=1)(b:sg y=1)(h:x=.pi∨y=.pi):xmul x y=.pi:=by
 unfold xmul;rw[a,b];rcases h with rfl | rfl
 ·cases y<;>rfl
 ·cases x<;>rfl
def prS(s t:Sp):Sp:=⟨xmul s.lo t.lo,xmul s.hi t.hi⟩
def afK(lf:Nat)(h3:200000≤lf){a b:A}(ha:PosA a)(hb:PosA b):jO.f lf (ac a) (ac b)=some (ac (toA (prS (ofA a) (ofA b))),()):=by
 have G:=CC_K;have F:=C_gt;obtain⟨e,i,l,k,l1⟩:=ha;obtain⟨wb,j,m,em,K⟩:=hb;obtain⟨L,I,D⟩:=a;obtain⟨w,J,g⟩:=b;simp only at i j k em;subst i j k em;have n: -C < l∧l < C:=e.lo;have o: -C < m∧m < C:=wb.lo;have M:=rJ n o;have E:0≤C*C:=yf ω ω;have d:=pU lf h3 (CK n) (CK o);have c:∀ z:Int,ob (some z)=bs (z7 z):=fun _=>rfl;have e0:(⟨#[]⟩:ByteArray)=ob none:=rfl;have x:=e.hi;have y:=wb.hi;have B:=e.le;have s:=wb.le;have r:∀ {z:Int},1≤z→sg (.fin z)=1:=fun {z} h=>by simp only[sg,sgn];rw[gR ω,gR ω]
 rw[jO.f];simp only[ac,jd,c,prS,ofA,zg,if_false,lox,uD];cases D with
 | none =>
  simp only[decide_true,ze,fe,d,fa];rw[e0,rng1 lf h3 ω,fa];have:xmul (hix none) (hix g)=.pi:=by
   cases g with
   | none=>rfl
   | some v =>
    have t:m≤v:=s;exact afs rfl (r ω) (.inl rfl)
  rw[this];rfl
 | some u =>
  have H:l≤u:=B;have p: -C < u∧u < C:=x;simp only[reduceCtorEq,decide_false,zj,ff];cases g with
  | none =>
   simp only[decide_true,ze,fe,d,fa];rw[e0,rng1 lf h3 ω,fa];have:xmul (hix (some u)) (hix none)=.pi:=by
    exact afs (r ω) rfl (.inr rfl)
   rw[this];rfl
  | some v =>
   have t:m≤v:=s;have q: -C < v∧v < C:=y;have N:=rJ p q;simp only[reduceCtorEq,decide_false,zj,ff,c,pU lf h3 (CK p) (CK q),d,fa];rw[rng2 lf h3 ω ω,fa];simp only[hix,uD];rfl
def aey(x:X)(hx:okx K x):tx (xneg x)=(tx x).map fun z=> -z:=by
 cases x with
 | ni=>rfl
 | pi=>rfl
 | fin z =>
  simp only[xneg,tx,clip];by_cases c: -C < z∧z < C
  ·rw[gT c,gT ω];rfl
  ·rw[gR c,gR ω];rfl
def toAf{s:Sp}(e:emp s=false):toA s=⟨false,tx s.lo,tx s.hi⟩:=by unfold toA;rw[e,gR ψ]
def ahG{s:Sp}(hs:oks K s)(es:emp s=false)(p1:s.lo≠.pi)(p2:s.hi≠.ni):toA (turn (ofA (toA s)))=toA ⟨xneg s.hi,xneg s.lo⟩:=by
 have w:Wf (toA s):=sV hs (.inr ⟨p1,p2⟩);have e:(toA s).em=false:=by rw[yR,es]
 have d:toA s=⟨false,tx s.lo,tx s.hi⟩:=by unfold toA;rw[es,gR ψ]
 have c:=kK w;rw[e]at c;have et:emp (turn (ofA (toA s)))=false:=by rw[oG,c]
 have f:emp ⟨xneg s.hi,xneg s.lo⟩=false:=by
  have:=of_decide_eq_false es;apply gO;simp only[lV];omega
 have g:turn (ofA (toA s))=⟨xneg (hix (tx s.hi)),xneg (lox (tx s.lo))⟩:=by
  unfold turn;rw[gR (by simp[c]),d];simp only[ofA,zg,if_false]
 have a:=w.hi;have b:=w.lo;rw[d]at a b;simp only at a b;rw[toAf et,toAf f,g];simp only;rw[aey s.hi hs.2,aey s.lo hs.1];congr 1
 ·cases h:tx s.hi with
  | none=>rfl
  | some z =>
   rw[h]at a;simp only[okb]at a;simp only[hix,xneg,tx,clip,wj];rw[gT ω]
 ·cases h:tx s.lo with
  | none=>rfl
  | some z =>
   rw[h]at b;simp only[okb]at b;simp only[lox,xneg,tx,clip,wj];rw[gT ω]
def aek{s:Sp}(hs:oks C s)(e:emp (negS s)=false)(p:Pr s):PosA (toA (turn (negS s)))∧ofA (toA (turn (negS s)))=⟨xneg (negS s).hi,xneg (negS s).lo⟩:=by
 have k:=(uq hs).1;have ok:=yw hs;have pr:=zH p hs;have m:=mkA (gI ok) pr.turn;have et:emp (turn (negS s))=false:=by rw[oG,e]
 rw[et,gR ψ]at m;have f:turn (negS s)=⟨xneg (negS s).hi,xneg (negS s).lo⟩:=by unfold turn;rw[gR (by simp[e])]
 refine⟨⟨m.1,by rw[yR,et],?_⟩,by rw[m.2,f]⟩;have b:=K_gt;have a:=(abl hs p).2 e;cases h:(negS s).hi with
 | ni=>rw[h]at a;have:=fO;simp only[key]at a;omega
 | pi=>rw[h]at k;simp only[key]at k;omega
 | fin z =>
  rw[h]at k a;simp only[key]at k a;refine⟨-z,?_,ω⟩;unfold toA;rw[et,gR ψ,f,h];simp only[xneg,tx,clip];rw[gT ω]
def ain{s:Sp}(hs:oks C s)(e:emp (posS s)=false)(p:Pr s):PosA (toA (posS s))∧ofA (toA (posS s))=posS s:=by
 have m:=mkA (fQ hs) (aim p hs);rw[e,gR ψ]at m;obtain⟨l,a,b,_⟩:=zI e hs p;refine⟨⟨m.1,by rw[yR,e],l,?_,b⟩,m.2⟩;have ok:=(fQ hs).1;rw[a]at ok;simp only[okx]at ok;unfold toA;rw[e,gR ψ,a];simp only[tx,clip];rw[gT ok]
def pp(i:Nat)(s:Sp):Sp:=if i=0 then⟨xneg (negS s).hi,xneg (negS s).lo⟩else posS s
def adB(lf:Nat)(h3:200000≤lf){s:Sp}(hs:oks C s)(p:Pr s){i:Nat}(d:i=0∨i=2)(e:emp (pt i s)=false):
  ∃ a:A,gV.f lf (ac (toA (pt i s))) ((i:Nat):Int)=some (ac a,())∧PosA a∧ofA a=pp i s:=by
 rcases d with rfl | rfl
 ·have m:=mkA (yw hs) (zH p hs);have c:emp (negS s)=false:=e;rw[c,gR ψ]at m;have t:=aek hs c p;refine⟨_,?_,t.1,t.2⟩;rw[gV.f];have tr:=nT lf h3 m.1;rw[m.2]at tr;have b:bF.f lf (ac (toA (pt 0 s)))=some (ac (toA (turn (negS s))),()):=tr;exact(ff _ _).trans (by rw[b,fa])
 ·have t:=ain hs e p;refine⟨_,?_,t.1,t.2⟩;rw[gV.f];exact fe _ _
def ajO{s t:Sp}{i k:Nat}(hi:i=0∨i=2)(a:k=0∨k=2):Qp i k (pt i s) (pt k t)=if i=k then prS (pp i s) (pp k t)else⟨xneg (prS (pp i s) (pp k t)).hi,xneg (prS (pp i s) (pp k t)).lo⟩:=by
 rcases hi with rfl | rfl<;>rcases a with rfl | rfl<;>simp only[Qp,pt,pp,prS,rh,show ¬(2=1) by omega,show ¬(2=0) by omega,show ¬(0=2) by omega,or_self,if_false,if_true]
 ·rw[wL,uZ,rP,wL,uZ,rP]
 ·rw[wL,wL,rP,rP]
 ·rw[uZ,uZ,rP,rP]
section
variable (lf:Nat)(h3:200000≤lf){s t:Sp}(hs:oks C s)(ht:oks C t)(ps:Pr s)(pt':Pr t)
include h3 hs ht ps pt'
theorem ahE{ρ:Type}(v w:List IV)(I:Bool)(L M:ByteArray){i k:Nat}(hi:i < 3)(P:k < 3)(T:idxL v ((i:Nat):Int)=some (ac (toA (pt i s))))(U:idxL w ((k:Nat):Int)=some (ac (toA (pt k t))))(out:A)(R:Wf out)
  (q:Int→Bool→ByteArray→ByteArray→Option ρ) (E0:Bool→ByteArray→ByteArray→Option ρ) :
  di.r1 lf v w ((i:Nat):Int) I L M ((k:Nat):Int) out.em (ob out.lo) (ob out.hi) q E0=q ((k+1:Nat):Int) (stA s t out (i,k)).em (ob (stA s t out (i,k)).lo) (ob (stA s t out (i,k)).hi):=by
 have W:=C_gt;have Y:=fO;have N:i64.wrap (((k:Nat):Int)+1)=((k+1:Nat):Int):=by rw[w64 ω ω];omega
 have l:(ac (toA (pt i s))).1=emp (pt i s):=yR _;have m:(ac (toA (pt k t))).1=emp (pt k t):=yR _;have E:((out.em,ob out.lo,ob out.hi,()):IV)=ac out:=rfl;rw[di.r1,gP ω,ff];simp only[T,U,fa,N,l,m,E];unfold stA;cases c1:emp (pt i s)with
 | true=>rw[ff,gT rfl]
 | false=>cases c2:emp (pt k t)with
  | true=>rw[fe,ff,gR ψ,gT rfl]
  | false =>
   have es:=ae0 hs c1;have et:=ae0 ht c2;have c:=afX hs ht es et ps pt' hi P c1 c2;have d:=aaZ hs ht i k;have S:Wf (toA (Qp i k (pt i s) (pt k t))):=sV d (.inr c.2);have u: -K < (0:Int)∧(0:Int) < K:=ω;have r0:=rng2 lf h3 u u;have J:=vC lf h3 R S;rw[fe,fe,gR ψ,gR ψ,jJ.f,i0,r0,fa,fa];by_cases z:i=1∨k=1
   ·have eq:Qp i k (pt i s) (pt k t)=⟨.fin 0,.fin 0⟩:=by unfold Qp;rw[gT z]
    rw[eq]at J⊢;by_cases y:i=1
    ·subst y;rw[show((((1:Nat):Int)) != 1)=false from rfl,fe,J,fa];rfl
    ·have V:=z.resolve_left y;subst V;rw[show(((i:Nat):Int) != 1)=true by simp only[bne_iff_ne,ne_eq];omega,ff,show((((1:Nat):Int)) != 1)=false from rfl,fe,J,fa];rfl
   ·have g:i=0∨i=2:=ω;have j:k=0∨k=2:=ω;obtain⟨a,B,C,D⟩:=adB lf h3 hs ps g c1;obtain⟨b,F,G,H⟩:=adB lf h3 ht pt' j c2;have pr:=afK lf h3 C G;rw[D,H]at pr;have eq:=ajO (s:=s) (t:=t) g j;rw[show(((i:Nat):Int) != 1)=true by simp only[bne_iff_ne,ne_eq];omega,ff,show(((k:Nat):Int) != 1)=true by simp only[bne_iff_ne,ne_eq];omega,ff,B,fa,F,fa,pr,fa];by_cases r:i=k
    ·rw[gT r]at eq;rw[show(((i:Nat):Int) !=((k:Nat):Int))=false by simp only[bne_eq_false_iff_eq];omega,fe];rw[eq]at J⊢;rw[J,fa];rfl
    ·rw[gR r]at eq;have Q:toA (turn (ofA (toA (prS (pp i s) (pp k t)))))=toA (Qp i k (pt i s) (pt k t)):=by
      have O:emp (prS (pp i s) (pp k t))=false:=by
       have:=of_decide_eq_false c.1;rw[eq]at this;simp only[lV]at this;exact gO ω
      rw[eq]at d c;have o1:∀ {x:X},okx K (xneg x)→okx K x:=fun {x} h=>by have:=zZ h;rwa [rP]at this
      have n:(prS (pp i s) (pp k t)).lo≠.pi:=fun e=>by
       apply c.2.2;simp only;rw[e];rfl
      have o:(prS (pp i s) (pp k t)).hi≠.ni:=fun e=>by
       apply c.2.1;simp only;rw[e];rfl
      rw[ahG ⟨o1 d.2,o1 d.1⟩ O n o,eq]
     have p:Wf (toA (prS (pp i s) (pp k t))):=by
      rw[eq]at d c;have o1:∀ {x:X},okx K (xneg x)→okx K x:=fun {x} h=>by have:=zZ h;rwa [rP]at this
      have n:(prS (pp i s) (pp k t)).lo≠.pi:=fun e=>by
       apply c.2.2;simp only;rw[e];rfl
      have o:(prS (pp i s) (pp k t)).hi≠.ni:=fun e=>by
       apply c.2.1;simp only;rw[e];rfl
      exact sV ⟨o1 d.2,o1 d.1⟩ (.inr ⟨n,o⟩)
     have tr:=nT lf h3 p;rw[Q]at tr;rw[show(((i:Nat):Int) !=((k:Nat):Int))=true by simp only[bne_iff_ne,ne_eq];omega,ff,tr,fa,J,fa];rfl
theorem ajH{out:A}(b:Wf out){p:Nat×Nat}(i:p.1 < 3)(j:p.2 < 3):Wf (stA s t out p):=by
 unfold stA;split
 ·exact b
 ·split
  ·exact b
  ·rename_i c1 c2;have es:=ae0 hs (by simpa using c1);have et:=ae0 ht (by simpa using c2);have l:=afX hs ht es et ps pt' i j (by simpa using c1) (by simpa using c2);have k:=aaZ hs ht p.1 p.2;have d:Wf (toA (Qp p.1 p.2 (pt p.1 s) (pt p.2 t))):=sV k (.inr l.2);refine sV (jA b.okK d.okK) ?_;by_cases a:emp (ofA out)=true
   ·rcases d.pr with h | h
    ·left;unfold hull;rw[gT a];exact h
    ·right;unfold hull;rw[gT a];exact h
   ·by_cases c:emp (ofA (toA (Qp p.1 p.2 (pt p.1 s) (pt p.2 t))))=true
    ·rcases b.pr with h | h
     ·exact absurd h a
     ·right;unfold hull;rw[gR a,gT c];exact h
    ·right;have e:=b.pr.resolve_left a;have f:=d.pr.resolve_left c;rw[hullNE (by simpa using a) (by simpa using c)];constructor
     ·simp only;rcases zY (ofA out).lo (ofA (toA (Qp p.1 p.2 (pt p.1 s) (pt p.2 t)))).lo with g | g<;>rw[g]
      ·exact e.1
      ·exact f.1
     ·simp only;rcases zX (ofA out).hi (ofA (toA (Qp p.1 p.2 (pt p.1 s) (pt p.2 t)))).hi with g | g<;>rw[g]
      ·exact e.2
      ·exact f.2
def sv(s:Sp):List IV:=[ac (toA (negS s)),ac (toA (zerS s)),ac (toA (posS s))]
omit h3 hs ht ps pt' in
theorem aiX(s:Sp){i:Nat}(a:i < 3):idxL (sv s) ((i:Nat):Int)=some (ac (toA (pt i s))):=by
 rcases i3 a with rfl | rfl | rfl<;>rfl
theorem ajL(b:Bool)(c e:ByteArray){i:Nat}(hi:i < 3):∀ (d n k:Nat) (out:A),k+d=3→d < n→Wf out→
  ∃ o,di.l1 lf (sv s) (sv t) ((i:Nat):Int) b c e n ((k:Nat):Int) out.em (ob out.lo) (ob out.hi)=some ((o.em,ob o.lo,ob o.hi,()),())∧Wf o∧o=((uB k d).map fun k=>(i,k)).foldl (stA s t) out:=by
 intro d
 induction d with
 | zero =>
  intro n k out f g a;obtain⟨m,rfl⟩:=zv (show n≠0 from ω);refine⟨out,?_,a,rfl⟩;rw[di.l1,di.r1,gO ω,fe]
 | succ d h =>
  intro n k out f g a;obtain⟨m,rfl⟩:=zv (show n≠0 from ω);obtain⟨o,o1,o2,o3⟩:=h m (k+1) (stA s t out (i,k)) ω ω (ajH lf h3 hs ht ps pt' a hi (show k < 3 from ω));refine⟨o,?_,o2,?_⟩
  ·rw[di.l1,ahE lf h3 hs ht ps pt' (sv s) (sv t) b c e hi (show k < 3 from ω) (aiX s hi) (aiX t (show k < 3 from ω)) out a];exact o1
  ·rw[o3,mA,List.map_cons,tf]
theorem ajK(a:Bool)(b c:ByteArray):∀ (d n i:Nat) (out:A),i+d=3→d < n→Wf out→
  ∃ o,di.l0 lf (sv s) (sv t) a b c n ((i:Nat):Int) out.em (ob out.lo) (ob out.hi)=some ((o.em,ob o.lo,ob o.hi,()),())∧o=((uB i d).flatMap fun i=>(uB 0 3).map fun k=>(i,k)).foldl (stA s t) out:=by
 intro d
 induction d with
 | zero =>
  intro n i out g h e;obtain⟨m,rfl⟩:=zv (show n≠0 from ω);refine⟨out,?_,rfl⟩;rw[di.l0,di.r0,gO ω,fe]
 | succ d j =>
  intro n i out g h e;obtain⟨m,rfl⟩:=zv (show n≠0 from ω);obtain⟨p,p1,p2,l⟩:=ajL lf h3 hs ht ps pt' a b c (show i < 3 from ω) 3 (lf+40) 0 out ω ω e;obtain⟨o,o1,o3⟩:=j m (i+1) p ω ω p2;have f:i64.wrap (((i:Nat):Int)+1)=((i+1:Nat):Int):=by rw[w64 ω ω];omega
  refine⟨o,?_,?_⟩
  ·rw[show((0:Nat):Int)=0 from rfl]at p1;rw[di.l0,di.r0,gP ω,ff,p1,fa,f];exact o1
  ·rw[o3,l,mA (s:=i) (n:=d),List.flatMap_cons,List.foldl_append]
end
def ajN:Wf E0:=uz▸sV jC (.inl iG)
def aiB(lf:Nat)(h3:200000≤lf){a b:A}(ha:Wf a)(hb:Wf b):di.f lf (ac a) (ac b)=some (ac (toA (apS xmul (ofA a) (ofA b))),()):=by
 have hs:=ha.okC;have ht:=hb.okC;obtain⟨o,o1,o2⟩:=ajK lf h3 hs ht ha.pr hb.pr false (⟨#[]⟩:ByteArray) (⟨#[]⟩:ByteArray) 3 (lf+40) 0 E0 ω ω ajN;have e:((uB 0 3).flatMap fun i=>(uB 0 3).map fun k=>(i,k))=prs:=δ;rw[e]at o2;have fin:prs.foldl (stA (ofA a) (ofA b)) E0=toA (apS xmul (ofA a) (ofA b)):=by
  cases es:emp (ofA a)with
  | true=>exact adk (.inl es) hs ht
  | false=>cases et:emp (ofA b)with
   | true=>exact adk (.inr et) hs ht
   | false=>exact agq hs ht es et ha.pr hb.pr
 rw[fin]at o2;rw[di.f,aX.f,fa,aaT lf h3 ha,fa,aaT lf h3 hb,fa];have c:di.l0 lf (sv (ofA a)) (sv (ofA b)) false (⟨#[]⟩:ByteArray) (⟨#[]⟩:ByteArray) (lf+40) 0 true (⟨#[]⟩:ByteArray) (⟨#[]⟩:ByteArray)=some ((o.em,ob o.lo,ob o.hi,()),()):=o1;rw[show([ac (toA (negS (ofA a))),ac (toA (zerS (ofA a))),ac (toA (posS (ofA a)))]:List IV)=sv (ofA a) from rfl,show([ac (toA (negS (ofA b))),ac (toA (zerS (ofA b))),ac (toA (posS (ofA b)))]:List IV)=sv (ofA b) from rfl];simp only[c,fa];rw[o2];rfl
def opS(op:Int)(s t:Sp):Sp:=if op=3 then addS s t else if op=4 then addS s (turn t)else if op=5 then apS xmul s t else if op=6 then quoS s t else remS s t
def op3{op:Int}(h:3≤op∧op≤7):op=3∨op=4∨op=5∨op=6∨op=7:=ω
def vw{x y q r:Int}(h:x=y*q+r)(hy:0 < y)(d:0≤r)(f:r < y)(hx:0≤x):z8 y r=z8 x y:=by
 have e:r=x % y:=by rw[h,Int.mul_add_emod_self_left];exact(p9 d f).symm
 obtain⟨a,rfl⟩:=ki hx;obtain⟨b,rfl⟩:=ki (zR hy);have c:r=((a % b:Nat):Int):=by rw[e];rfl
 rw[c,lh,lh,Nat.gcd_comm a b,Nat.gcd_rec b a,Nat.gcd_comm]
def abM(lf:Nat)(hlf:2000000000≤lf):∀ (k n:Nat) (xs a:List Int),lv G a≤k→k < n→Dg G xs→Dg G a→Tr xs→Tr a→xs.length≤40000→a.length≤40000→
  ∃ r,iF.l0 lf n xs a=some ((r,()),())∧Dg G r∧Tr r∧r.length≤max xs.length a.length∧lv G r=(z8 (lv G xs) (lv G a):Int):=by
 intro k
 induction k with
 | zero =>
  intro n xs a j l hx hy tx c p f;obtain⟨m,rfl⟩:=zv (show n≠0 from ω);have v:=dw (B:=G) δ hy;have g:=dw (B:=G) δ hx;have:a=[]:=(yU (B:=G) δ hy c).1 ω;subst this;refine⟨xs,?_,hx,tx,ω,?_⟩
  ·rw[iF.l0,iF.r0,gO ψ,fe]
  ·rw[show lv G []=0 from rfl,ri];omega
 | succ k o =>
  intro n xs a j l hx hy tx c p f;obtain⟨m,rfl⟩:=zv (show n≠0 from ω);have g:=dw (B:=G) δ hx;by_cases h:a=[]
  ·subst h;refine⟨xs,?_,hx,tx,ω,?_⟩
   ·rw[iF.l0,iF.r0,gO ψ,fe]
   ·rw[show lv G []=0 from rfl,ri];omega
  ·obtain⟨Q,R,e,s,u,d,b,val,lt⟩:=zq lf xs a hx hy tx c h ω ω hlf;have q:=vF (B:=G) δ hy c h;have i:=dw (B:=G) δ d;have t:R.length≤a.length:=by
    by_cases z:R.length≤a.length
    ·exact z
    ·have:=oJ (B:=G) δ hy d b ω;omega
   obtain⟨r,r1,r2,r3,r4,r5⟩:=o m a R ω ω hy d c b f ω;refine⟨r,?_,r2,r3,ω,?_⟩
   ·have:0 < a.length:=vj.2 h;rw[iF.l0,iF.r0,gP ω,ff,e,fa];exact r1
   ·rw[r5,vw val q i lt g]
def Big(lf:Nat):Prop:=2000000000≤lf∧K < (lf:Int)
def ajZ(lf:Nat)(hb:Big lf){x y:Int}(hx: -K < x∧x < K)(hy: -K < y∧y < K):vg.f lf (bs (z7 x)) (bs (z7 y))=some (bs (z7 (z8 x y)),0,()):=by
 obtain⟨hlf,i⟩:=hb;obtain⟨p,q,e,a,b,_⟩:=wZ lf _ _ (chkK hx) (chkK hy) ω;rw[dR]at a b;have d:lv G p.2.1=(x.natAbs:Int):=by
  have:=a.val;have:=dw (B:=G) δ a.dg;split at*<;> omega
 have h:lv G q.2.1=(y.natAbs:Int):=by
  have:=b.val;have:=dw (B:=G) δ b.dg;split at*<;> omega
 obtain⟨r,r1,r2,r3,r4,r5⟩:=abM lf hlf (lf+39) (lf+40) p.2.1 q.2.1 ω ω a.dg b.dg a.tr b.tr (by have:=a.len;omega) (by have:=b.len;omega);rw[d,h]at r5;have g:(z8 (x.natAbs:Int) (y.natAbs:Int):Int)=(z8 x y:Int):=by
  rw[lh];rfl
 have c:RN (false,r,()) (z8 x y) 4096:=⟨r2,r3,by have:=a.len;have:=b.len;simp only;omega,by simp only[zg,if_false];rw[r5,g]⟩
 rw[vg.f,e,fa];simp only[bne_self_eq_false,fe];rw[iF.f,r1,fa,fa,wX lf c ω ω,fa]
def rq(lf:Nat)(z:Int):cO.f lf (bs (z7 z))=some (bs (z7 (z.natAbs:Int)),()):=by
 rw[cO.f,kT lf _ (lJ z),fa];simp only;rw[wH];have b:z7 (z.natAbs:Int)=D z.natAbs:=by unfold z7;rw[gR ω];rfl
 rw[b];by_cases a:z < 0
 ·have e:z7 z=45::D z.natAbs:=by unfold z7;rw[gT a]
  rw[gP a,ff,e,wJ (45::D z.natAbs) 1 1 rfl ψ,fa];rfl
 ·have e:z7 z=D z.natAbs:=by unfold z7;rw[gR a];congr 1;omega
  rw[gO a,fe,e]
def i0':z7 0=[48]:=by unfold z7;rw[gR ω];exact qA
def beq0(z:Int):((bs (z7 z)).toList==(⟨#[48]⟩:ByteArray).toList)=decide (z=0):=by
 rw[show(⟨#[48]⟩:ByteArray)=bs [48] from rfl,lS,←i0'];simp only[decide_eq_decide];exact⟨fun e=>pR e,fun e=>by rw[e]⟩
def aee(lf:Nat)(h3:200000≤lf):∀ (k n:Nat) (x y:Int),0≤x→0≤y→y≤k→k < n→sz x≤20000→sz y≤20000→
  bG.l0 lf n (bs (z7 x)) (bs (z7 y))=some ((bs (z7 (z8 x y)),()),()):=by
 intro k
 induction k with
 | zero =>
  intro n x y e o f g d c;obtain⟨m,rfl⟩:=zv (show n≠0 from ω);obtain rfl:y=0:=ω;rw[bG.l0,bG.r0,beq0,gP rfl,ze,fe,ri,show((x.natAbs:Nat):Int)=x by omega]
 | succ k i =>
  intro n x y e o f g d c;obtain⟨m,rfl⟩:=zv (show n≠0 from ω);rw[bG.l0,bG.r0,beq0];by_cases h:y=0
  ·subst h;rw[gP rfl,ze,fe,ri,show((x.natAbs:Nat):Int)=x by omega]
  ·have j:=wh x y;have a:=xd x (show 0 < y from ω);have b:=yW x (show 0 < y from ω);have l:sz (x.fmod y)≤20000:=by
    have:=vX c ω;exact zV ω ω
   rw[gO h,zj,ff,uO lf h3 d c h,fa];have:=i m y (x.fmod y) ω a ω ω c l;rw[vw j.symm ω a b e]at this;exact this
def rF(lf:Nat)(hb:Big lf){x y:Int}(hx: -K < x∧x < K)(hy: -K < y∧y < K):bG.f lf (bs (z7 x)) (bs (z7 y))=some (bs (z7 (z8 x y)),()):=by
 obtain⟨hlf,a⟩:=hb;have b:=(sz_K (x.natAbs:Int)).2 ω;have c:=(sz_K (y.natAbs:Int)).2 ω;rw[bG.f,rq,fa,rq,fa,aee lf ω (lf+39) (lf+40) _ _ ω ω ω ω ω ω,fa];have g:(z8 (x.natAbs:Int) (y.natAbs:Int))=z8 x y:=by rw[lh];rfl
 rw[g]
def ckc(em:Bool)(l h:List UInt8):Int :=
 if em=true then(if l≠[]∨h≠[]then 3 else 0)else if num l≠0 then num l else if num h≠0 then num h else if iv l < 0∨(iv l≠0∧(iv h < 0∨¬iv h < iv l))then 2 else 0
def aiR(lf:Nat)(l:List UInt8)(b:l.length≤9223372036854775807)(c:l.length≤lf):jU.f lf (bs l)=some (num l,()):=by
 rw[jU.f,agr lf l b c,fa];unfold num chk;cases hc:can l with
 | false=>simp[ff]
 | true =>
  simp only[ze,fe,if_true];rw[rM lf l (mM hc).2.2 b,fa];by_cases h:nlen l > 100
  ·rw[gP ω,ff];by_cases a:nlen l > 4096
   ·rw[gT a];rfl
   ·rw[gR a,gR ψ,gT h]
  ·rw[gO ω,fe,gR (show ¬nlen l > 4096 from ω),gR ψ,gR h]
def agN(lf:Nat)(l:List UInt8)(a:l.length≤9223372036854775807):iW.f lf (bs l)=some (decide (nlen l > 100),()):=by
 have:=aaM l;rw[iW.f,qQ,fa,jI];congr 2;simp only[decide_eq_decide];unfold nlen;omega
def numC(lf:Nat)(l:List UInt8)(b:l.length≤9223372036854775807):lG.f lf (bs l)=some (num l,()):=by
 rw[lG.f,rU lf l b,fa];simp only[agN lf l b,fa];unfold num;by_cases h:chk l=0
 ·rw[h];simp only[show((0:Int)==10)=false from rfl,fe,BEq.rfl,ff,bne_self_eq_false,ne_eq,not_true,if_false];by_cases a:nlen l > 100
  ·rw[gP a,ff,gT a]
  ·rw[gO a,fe,gR a]
 ·rw[gT h,show(chk l==0)=false from beq_eq_false_iff_ne.2 h,fe,bneT h,ff];by_cases a:chk l=10
  ·rw[a,BEq.rfl,ff]
  ·rw[show(chk l==10)=false from beq_eq_false_iff_ne.2 a,fe]
def abh(lf:Nat)(l m:List UInt8)(a:chk l=0)(b:chk m=0)(h3:200000≤lf):iV.f lf (bs l) (bs m)=some (decide (iv l < iv m),()):=by
 rw[iV.f,aae lf l m a b h3,fa];simp only;rw[nY.f,fa];congr 2;simp only[decide_eq_decide];unfold sgn;(repeat' split)<;>omega
def aiM(lf:Nat)(h3:200000≤lf)(em:Bool)(l h:List UInt8)(k:l.length≤9223372036854775807)(j:h.length≤9223372036854775807):fP.f lf (em,bs l,bs h,())=some (ckc em l h,()):=by
 rw[fP.f];simp only[e0,lS,numC lf l k,numC lf h j,fa];unfold ckc;cases em with
 | true =>
  rw[ff,gT rfl];by_cases c1:l=[]<;>by_cases c2:h=[]<;>simp[c1,c2,ff,fe]
 | false =>
  rw[fe,gR ψ];by_cases c1:num l=0
  ·rw[c1,bne_self_eq_false,fe,gR ψ];by_cases c2:num h=0
   ·rw[c2,bne_self_eq_false,fe,gR ψ];have g:=yA c1;have i:=yA c2;have z:(⟨#[48]⟩:ByteArray)=bs [48]:=rfl;rw[z,abh lf l [48] g aew h3,fa,abh lf h [48] i aew h3,abh lf h l i g h3,iv48];simp only[fa];have e:l=[48]↔iv l=0:=(aaI (nI.1 g).1).symm;by_cases a:iv l < 0
    ·rw[gP a,ff,gT (.inl a)]
    ·rw[gO a,fe];by_cases b:iv l=0
     ·rw[gP (e.2 b),ze,fe,gR ω]
     ·rw[gO (fun x=>b (e.1 x)),zj,ff];by_cases c:iv h < 0
      ·rw[gP c,ff,gT (.inr ⟨b,.inl c⟩)]
      ·rw[gO c,fe];by_cases d:iv h < iv l
       ·rw[gP d,ze,fe,gR ω]
       ·rw[gO d,zj,ff,gT (.inr ⟨b,.inr d⟩)]
   ·rw[bneT c2,ff,gT c2]
  ·rw[bneT c1,ff,gT c1]
def aex(lf:Nat)(h3:200000≤lf)(em:Bool)(l h:List UInt8)(n:l.length≤9223372036854775807)(m:h.length≤9223372036854775807)(k:l.length≤lf)(j:h.length≤lf):kF.f lf (em,bs l,bs h,())=some (ckc em l h,()):=by
 rw[kF.f];simp only[e0,lS,aiR lf l n k,aiR lf h m j,fa];unfold ckc;cases em with
 | true =>
  rw[ff,gT rfl];by_cases c1:l=[]<;>by_cases c2:h=[]<;>simp[c1,c2,ff,fe]
 | false =>
  rw[fe,gR ψ];by_cases c1:num l=0
  ·rw[c1,bne_self_eq_false,fe,gR ψ];by_cases c2:num h=0
   ·rw[c2,bne_self_eq_false,fe,gR ψ];have g:=yA c1;have i:=yA c2;have l1:=wY c1;have l2:=wY c2;have z:(⟨#[48]⟩:ByteArray)=bs [48]:=rfl;rw[xQ lf l (nI.1 g).1,fa,xQ lf h (nI.1 i).1,ad6 lf h l (nI.1 i).1 (nI.1 g).1 ω ω h3];simp only[fa,afj];have e:l=[48]↔iv l=0:=(aaI (nI.1 g).1).symm;by_cases a:iv l < 0
    ·rw[gP a,ff,gT (.inl a)]
    ·rw[gO a,fe];by_cases b:iv l=0
     ·rw[gP (e.2 b),ze,fe,gR ω]
     ·rw[gO (fun x=>b (e.1 x)),zj,ff];by_cases c:iv h < 0
      ·rw[gP c,ff,gT (.inr ⟨b,.inl c⟩)]
      ·rw[gO c,fe];by_cases d:iv h < iv l
       ·rw[gP d,ze,fe,gR ω]
       ·rw[gO d,zj,ff,gT (.inr ⟨b,.inr d⟩)]
   ·rw[bneT c2,ff,gT c2]
  ·rw[bneT c1,ff,gT c1]
structure Cg where
 em:Bool
 m:Int
 r:Int
deriving DecidableEq
def cc(c:Cg):IV:=if c.em=true then(true,bs [],bs [],())else(false,bs (z7 c.m),bs (z7 c.r),())
structure WfC(c:Cg):Prop where
 m: -C < c.m∧c.m < C
 r: -C < c.r∧c.r < C
 pos:0≤c.m
 rng:c.m≠0→0≤c.r∧c.r < c.m
def Ec:Cg:=⟨true,0,0⟩
def topC:Cg:=⟨false,1,0⟩
def ai9{em:Bool}{l h:List UInt8}(hc:ckc em l h=0):∃ c:Cg,((em,bs l,bs h,()):IV)=cc c∧WfC c:=by
 have d:=C_gt;unfold ckc at hc;cases em with
 | true =>
  rw[gT rfl]at hc;have:¬(l≠[]∨h≠[]):=fun x=>by rw[gT x]at hc;cases hc
  have l0:l=[]:=by simpa using fun x=>this (.inl x)
  have b:h=[]:=by simpa using fun x=>this (.inr x)
  subst l0 b;exact⟨Ec,rfl,⟨by simp only[Ec];omega,by simp only[Ec];omega,by simp[Ec],fun x=>absurd rfl x⟩⟩
 | false =>
  rw[gR ψ]at hc;by_cases c1:num l=0
  ·rw[gR (by simp[c1])]at hc;by_cases c2:num h=0
   ·rw[gR (by simp[c2])]at hc;have n:¬(iv l < 0∨(iv l≠0∧(iv h < 0∨¬iv h < iv l))):=fun x=>by rw[gT x]at hc;cases hc
    have i1:=yj (sN.1 c1).1;have a:=yj (sN.1 c2).1;refine⟨⟨false,iv l,iv h⟩,by unfold cc;rw[gR ψ];simp only;rw[←i1,←a],?_⟩;rw[i1,vG]at c1;rw[a,vG]at c2;exact⟨c1,c2,by simp only;omega,fun x=>by simp only at x⊢;omega⟩
   ·rw[gT c2]at hc;exact absurd hc c2
  ·rw[gT c1]at hc;exact absurd hc c1
def clsF(m r:Int):Cg :=
 if sz (m.natAbs:Int) > 100∨sz (if m=0 then r else r.fmod (m.natAbs:Int)) > 100 then topC else⟨false,(m.natAbs:Int),if m=0 then r else r.fmod (m.natAbs:Int)⟩
def longI(lf:Nat){z:Int}(hz: -K < z∧z < K):iW.f lf (bs (z7 z))=some (decide (sz z > 100),()):=by
 have:=qO hz;rw[agN lf _ ω];rfl
def ajP(lf:Nat){z:Int}(hz: -K < z∧z < K):ve.f lf (bs (z7 z))=some (bs (z7 (z.natAbs:Int)),0,()):=by
 have:=qO hz;rw[ve.f,rU lf _ ω,fa];simp only[chkK hz,bne_self_eq_false,fe];rw[qQ,fa,aac];have a:z7 (z.natAbs:Int)=D z.natAbs:=by unfold z7;rw[gR ω];rfl
 rw[a]
def ab5:((false,(⟨#[49]⟩:ByteArray),(⟨#[48]⟩:ByteArray),()):IV)=cc topC:=by
 unfold cc topC;rw[gR ψ];simp only;rw[i1,i0]
def xP{x m:Int}(hx: -K < x∧x < K)(b: -K < m∧m < K)(a:m≠0): -K < x.fmod m∧x.fmod m < K:=by
 have:=abd (x:=x) a;omega
def wP(lf:Nat)(hlf:2000000000≤lf){m r:Int}(c: -K < m∧m < K)(b: -K < r∧r < K):dG.f lf (bs (z7 m)) (bs (z7 r))=some (cc (clsF m r),()):=by
 have ha: -K < (m.natAbs:Int)∧(m.natAbs:Int) < K:=ω;rw[dG.f,ajP lf c,fa];simp only[iL.f,fa,beq0,longI lf ha,gQ.f,ab5];unfold clsF;by_cases h:m=0
 ·subst h;simp only[longI lf b,fa];rw[gP (by trivial),ze,fe];by_cases c1:sz ((0:Int).natAbs:Int) > 100
  ·rw[gP c1,ff,gT (.inl c1)]
  ·rw[gO c1,fe];by_cases c2:sz r > 100
   ·rw[gP c2,ff,gT (.inr (by rw[gT trivial];exact c2))]
   ·rw[gO c2,fe,gR (by rw[gT trivial];exact fun x=>x.elim c1 c2),gT trivial];unfold cc;rw[gR ψ]
 ·have a:(m.natAbs:Int)≠0:=ω;have d:=xP b ha a;simp only[oL lf hlf b ha a,fa,longI lf d];rw[gO a,zj,ff];by_cases c1:sz (m.natAbs:Int) > 100
  ·rw[gP c1,ff,gT (.inl c1)]
  ·rw[gO c1,fe];by_cases c2:sz (r.fmod (m.natAbs:Int)) > 100
   ·rw[gP c2,ff,gT (.inr (by rw[gR h];exact c2))]
   ·rw[gO c2,fe,gR (by rw[gR h];exact fun x=>x.elim c1 c2),gR h];unfold cc;rw[gR ψ]
def acn(lf:Nat){z:Int}(hz: -K < z∧z < K):bH.f lf (bs (z7 z))=some ((sz z:Int),()):=by
 have:=qO hz;exact rM lf _ (lJ z) ω
def agv(n:Nat):decide (((n:Nat):Int) > 100)=decide (n > 100):=by simp only[decide_eq_decide];omega
def pW(lf:Nat)(h3:200000≤lf){m r:Int}(d: -K < m∧m < K)(a: -K < r∧r < K):bU.f lf (bs (z7 m)) (bs (z7 r))=some (cc (clsF m r),()):=by
 have ha: -K < (m.natAbs:Int)∧(m.natAbs:Int) < K:=ω;rw[bU.f,rq,fa];simp only[beq0,acn lf ha,fa,dm.f,ab5,agv];unfold clsF;by_cases h:m=0
 ·subst h;simp only[acn lf a,fa,agv];rw[gP (by trivial),ze,fe];by_cases c1:sz ((0:Int).natAbs:Int) > 100
  ·rw[gP c1,ff,gT (.inl c1)]
  ·rw[gO c1,fe];by_cases c2:sz r > 100
   ·rw[gP c2,ff,gT (.inr (by rw[gT trivial];exact c2))]
   ·rw[gO c2,fe,gR (by rw[gT trivial];exact fun x=>x.elim c1 c2),gT trivial];unfold cc;rw[gR ψ]
 ·have b:(m.natAbs:Int)≠0:=ω;have c:=xP a ha b;have e:=szK a;have g:=szK ha;simp only[uO lf h3 (x:=r) (y:=(m.natAbs:Int)) ω ω b,fa,acn lf c,agv];rw[gO h,zj,ff];by_cases c1:sz (m.natAbs:Int) > 100
  ·rw[gP c1,ff,gT (.inl c1)]
  ·rw[gO c1,fe];by_cases c2:sz (r.fmod (m.natAbs:Int)) > 100
   ·rw[gP c2,ff,gT (.inr (by rw[gR h];exact c2))]
   ·rw[gO c2,fe,gR (by rw[gR h];exact fun x=>x.elim c1 c2),gR h];unfold cc;rw[gR ψ]
def dvd'(m a:Int):Bool:=if m=0 then decide (a=0)else decide (a.fmod m=0)
def wE(lf:Nat)(hlf:2000000000≤lf){m a:Int}(b: -K < m∧m < K)(ha: -K < a∧a < K):fC.f lf (bs (z7 m)) (bs (z7 a))=some (dvd' m a,()):=by
 rw[fC.f,beq0];unfold dvd';by_cases h:m=0
 ·rw[gP h,ff,gT h,beq0]
 ·rw[gO h,fe,gR h,oL lf hlf ha b h,fa,iL.f,fa,beq0]
def vM(lf:Nat)(h3:200000≤lf){m a:Int}(b:sz m≤20000)(ha:sz a≤20000):eF.f lf (bs (z7 m)) (bs (z7 a))=some (dvd' m a,()):=by
 rw[eF.f,beq0];unfold dvd';by_cases h:m=0
 ·rw[gP h,ff,gT h,beq0]
 ·rw[gO h,fe,gR h,uO lf h3 ha b h,fa,beq0]
def qU{k x y:Int}(hx: -k < x∧x < k)(hy: -k < y∧y < k): -k < (z8 x y:Int)∧(z8 x y:Int) < k:=by
 by_cases h:x=0
 ·subst h;rw[gF];omega
 ·have:=Nat.gcd_le_left y.natAbs (show 0 < x.natAbs from ω);have e:z8 x y=Nat.gcd x.natAbs y.natAbs:=rfl;omega
section
variable (lf:Nat)(hb:Big lf)
include hb
theorem yQ{x y:Int}(hx: -K < x∧x < K)(hy: -K < y∧y < K):dW.f lf (bs (z7 x)) (bs (z7 y))=some (bs (z7 (z8 x y)),()):=by
 rw[dW.f,ajZ lf hb hx hy,fa,iL.f,fa]
theorem aa4{x y:Int}(hx: -K < x∧x < K)(hy: -K < y∧y < K)(h: -K < x-y∧x-y < K):iD.f lf (bs (z7 x)) (bs (z7 y))=some (bs (z7 (x-y)),()):=by
 have:=(sz_K (x-y)).2 h;rw[iD.f,afn lf _ _ (chkK hx) (chkK hy) (by have:=hb.1;omega),dR,dR,rD,gR ω,fa,iL.f,fa]
theorem af7{x y:Int}(hx: -K < x∧x < K)(hy: -K < y∧y < K)(h: -K < x+y∧x+y < K):mW.f lf (bs (z7 x)) (bs (z7 y))=some (bs (z7 (x+y)),()):=by
 rw[mW.f,xW lf (by have:=hb.1;omega) hx hy h,fa,iL.f,fa]
theorem aad{x y:Int}(hx: -K < x∧x < K)(hy: -K < y∧y < K)(h: -K < x*y∧x*y < K):jm.f lf (bs (z7 x)) (bs (z7 y))=some (bs (z7 (x*y)),()):=by
 rw[jm.f,abW lf (by have:=hb.1;omega) hx hy h,fa,iL.f,fa]
end
def plusC(c d:Cg):Cg:=if c.em=true then Ec else if d.em=true then Ec else clsF (z8 c.m d.m) (c.r+d.r)
def minusC(c d:Cg):Cg:=if c.em=true then Ec else if d.em=true then Ec else clsF (z8 c.m d.m) (c.r-d.r)
def timesC(c d:Cg):Cg:=if c.em=true then Ec else if d.em=true then Ec else clsF (z8 (c.m*d.m) (z8 (c.m*d.r) (d.m*c.r))) (c.r*d.r)
def dL{c:Cg}(h:c.em=false):cc c=(false,bs (z7 c.m),bs (z7 c.r),()):=by unfold cc;rw[gR (by simp[h])]
def mJ{c:Cg}(h:c.em=true):cc c=(true,bs [],bs [],()):=by unfold cc;rw[gT h]
def ahM{c:Cg}(h:WfC c):∃ (l m:List UInt8),cc c=(c.em,bs l,bs m,())∧ckc c.em l m=0∧l.length≤101∧m.length≤101:=by
 have g:=fO;cases e:c.em with
 | true=>exact⟨[],[],mJ e,by simp[ckc],ψ,ψ⟩
 | false =>
  have d:=(vG c.m).2 h.m;have f:=(vG c.r).2 h.r;refine⟨z7 c.m,z7 c.r,dL e,?_,wY d,wY f⟩;unfold ckc;rw[gR ψ,d,f,dR,dR,gR ψ,gR ψ,gR];have a:=h.pos;have b:=h.rng;intro x;rcases x with x | ⟨x,y⟩
  ·omega
  ·have:=b x;omega
section
variable (lf:Nat)(hb:Big lf){c d:Cg}(hc:WfC c)(hd:WfC d)
include hb hc
theorem ccheck:fP.f lf (cc c)=some (0,()):=by
 obtain⟨l,m,e,h,a,b⟩:=ahM hc;rw[e,aiM lf (by have:=hb.1;omega) _ _ _ ω ω,h]
theorem rcheck:kF.f lf (cc c)=some (0,()):=by
 obtain⟨l,m,e,h,a,b⟩:=ahM hc;have:=hb.1;rw[e,aex lf ω _ _ _ ω ω ω ω,h]
include hd
theorem cboth:dY.f lf (cc c) (cc d)=some (0,()):=by
 rw[dY.f,ccheck lf hb hc,fa];simp only[bne_self_eq_false,fe];rw[ccheck lf hb hd,fa]
theorem bounds:(-K < c.m∧c.m < K)∧(-K < c.r∧c.r < K)∧(-K < d.m∧d.m < K)∧(-K < d.r∧d.r < K)∧(-K < c.r-d.r∧c.r-d.r < K)∧(-K < c.r+d.r∧c.r+d.r < K)∧(-K < c.m*d.m∧c.m*d.m < K)∧(-K < c.m*d.r∧c.m*d.r < K)∧(-K < d.m*c.r∧d.m*c.r < K)∧(-K < c.r*d.r∧c.r*d.r < K):=by
 have j:=CC_K;have i:=C_gt;have g:=fO;have h:0≤C*C:=yf ω ω;have a:=hc.m;have b:=hc.r;have e:=hd.m;have f:=hd.r;have k:=rJ a e;have l:=rJ a f;have n:=rJ e b;have o:=rJ b f;refine⟨ω,ω,ω,ω,ω,ω,ω,ω,ω,ω⟩
theorem ajQ:qj.f lf (cc c) (cc d)=some (cc (plusC c d),0,()):=by
 obtain⟨a,h,b,i,j,e,k,l,m,g⟩:=bounds lf hb hc hd;rw[qj.f,cboth lf hb hc hd,fa];unfold plusC;cases ec:c.em with
 | true=>rw[mJ ec];simp only[bne_self_eq_false,fe,ff,if_true,aT.f,fa];rfl
 | false=>cases ed:d.em with
  | true=>rw[dL ec,mJ ed];simp only[bne_self_eq_false,fe,ff,if_true,if_false,zg,aT.f,fa];rfl
  | false =>
   rw[dL ec,dL ed];simp only[bne_self_eq_false,fe,if_false,zg,qI.f,yQ lf hb a b,af7 lf hb h i e,fa,wP lf hb.1 (qU a b) e]
theorem ajB:nC.f lf (cc c) (cc d)=some (cc (plusC c d),()):=by
 obtain⟨a,g,b,h,j,i,k,l,m,e⟩:=bounds lf hb hc hd;have h3:200000≤lf:=by have:=hb.1;omega
 rw[nC.f];unfold plusC;cases ec:c.em with
 | true=>rw[mJ ec];simp only[ff,if_true,aH.f,fa];rfl
 | false=>cases ed:d.em with
  | true=>rw[dL ec,mJ ed];simp only[fe,ff,if_true,if_false,zg,aH.f,fa];rfl
  | false =>
   rw[dL ec,dL ed];simp only[fe,if_false,zg,rF lf hb a b,sumI lf h3 g h,fa,pW lf h3 (qU a b) i]
theorem aiW:mV.f lf (cc c) (cc d)=some (cc (minusC c d),0,()):=by
 obtain⟨a,h,b,i,e,j,k,l,m,g⟩:=bounds lf hb hc hd;rw[mV.f,cboth lf hb hc hd,fa];unfold minusC;cases ec:c.em with
 | true=>rw[mJ ec];simp only[bne_self_eq_false,fe,ff,if_true,aT.f,fa];rfl
 | false=>cases ed:d.em with
  | true=>rw[dL ec,mJ ed];simp only[bne_self_eq_false,fe,ff,if_true,if_false,zg,aT.f,fa];rfl
  | false =>
   rw[dL ec,dL ed];simp only[bne_self_eq_false,fe,if_false,zg,qK.f,yQ lf hb a b,aa4 lf hb h i e,fa,wP lf hb.1 (qU a b) e]
theorem aie:mD.f lf (cc c) (cc d)=some (cc (minusC c d),()):=by
 obtain⟨a,g,b,h,i,j,k,l,m,e⟩:=bounds lf hb hc hd;have h3:200000≤lf:=by have:=hb.1;omega
 rw[mD.f];unfold minusC;cases ec:c.em with
 | true=>rw[mJ ec];simp only[ff,if_true,aH.f,fa];rfl
 | false=>cases ed:d.em with
  | true=>rw[dL ec,mJ ed];simp only[fe,ff,if_true,if_false,zg,aH.f,fa];rfl
  | false =>
   rw[dL ec,dL ed];simp only[fe,if_false,zg,rF lf hb a b,diffI lf h3 g h,fa,pW lf h3 (qU a b) i]
theorem akb:qm.f lf (cc c) (cc d)=some (cc (timesC c d),0,()):=by
 obtain⟨h,i,j,k,m,n,b,e,g,a⟩:=bounds lf hb hc hd;rw[qm.f,cboth lf hb hc hd,fa];unfold timesC;cases ec:c.em with
 | true=>rw[mJ ec];simp only[bne_self_eq_false,fe,ff,if_true,aT.f,fa];rfl
 | false=>cases ed:d.em with
  | true=>rw[dL ec,mJ ed];simp only[bne_self_eq_false,fe,ff,if_true,if_false,zg,aT.f,fa];rfl
  | false =>
   rw[dL ec,dL ed];have l:=qU e g;simp only[bne_self_eq_false,fe,if_false,zg,qJ.f,aad lf hb h j b,aad lf hb h k e,aad lf hb j i g,aad lf hb i k a,fa,yQ lf hb e g,yQ lf hb b l,wP lf hb.1 (qU b l) a]
theorem aiC:mG.f lf (cc c) (cc d)=some (cc (timesC c d),()):=by
 obtain⟨b,e,g,h,n,o,i,j,k,a⟩:=bounds lf hb hc hd;have h3:200000≤lf:=by have:=hb.1;omega
 rw[mG.f];unfold timesC;cases ec:c.em with
 | true=>rw[mJ ec];simp only[ff,if_true,aH.f,fa];rfl
 | false=>cases ed:d.em with
  | true=>rw[dL ec,mJ ed];simp only[fe,ff,if_true,if_false,zg,aH.f,fa];rfl
  | false =>
   rw[dL ec,dL ed];have l:=qU i j;have ga:z8 (z8 (c.m*d.m) (c.m*d.r)) (d.m*c.r)=z8 (c.m*d.m) (z8 (c.m*d.r) (d.m*c.r)):=Int.gcd_assoc _ _ _;simp only[fe,if_false,zg,pU lf h3 b g,pU lf h3 b h,pU lf h3 g e,pU lf h3 e h,fa,rF lf hb i j,rF lf hb l k,pW lf h3 (qU l k) a];rw[ga]
end
def zeroC(c:Cg):Bool:=decide (c.m=0∧c.r=0)
def zero_eq{c:Cg}(h:c.em=false):(((cc c).1==false)&&(((cc c).2.1==(⟨#[48]⟩:ByteArray))&&(((cc c).2.2.1==(⟨#[48]⟩:ByteArray))&&true)))=zeroC c:=by
 rw[dL h];simp only[af2,i0,BEq.rfl,tL,Bool.and_true,zeroC];have e:∀ z:Int,decide (bs (z7 z)=bs (z7 0))=decide (z=0):=fun z=>by
  simp only[decide_eq_decide];exact⟨fun x=>pR (yP x),fun x=>by rw[x]⟩
 rw[e,e];by_cases a:c.m=0<;>by_cases b:c.r=0<;>simp[a,b]
def quoC(c d:Cg):Cg:=if c.em=true then Ec else if d.em=true then Ec else if zeroC d=true then Ec else if d.m≠0 then(if zeroC c=true then c else topC)else if dvd' d.r c.m=true then clsF (c.m.fdiv d.r) (c.r.fdiv d.r)else topC
def aby(lf:Nat){c:Cg}(h:c.em=false):iR.f lf (cc c)=some (zeroC c,()):=by
 rw[iR.f,dL h];simp only[beq0,zeroC];by_cases a:c.m=0
 ·rw[gP a,ff];simp[a]
 ·rw[gO a,fe];simp[a]
section
variable (lf:Nat)(hb:Big lf){c d:Cg}(hc:WfC c)(hd:WfC d)
include hb hc hd
theorem akg:qx.f lf (cc c) (cc d)=some (cc (quoC c d),0,()):=by
 obtain⟨b,i,v,a,w,y,z,A,B,g⟩:=bounds lf hb hc hd;have hlf:=hb.1;rw[qx.f,cboth lf hb hc hd,fa];unfold quoC;cases ec:c.em with
 | true=>rw[mJ ec];simp only[bne_self_eq_false,fe,ff,if_true,aT.f,fa];rfl
 | false=>cases ed:d.em with
  | true=>rw[dL ec,mJ ed];simp only[bne_self_eq_false,fe,ff,if_true,if_false,zg,aT.f,fa];rfl
  | false =>
   have t:=zero_eq ec;have u:=zero_eq ed;have j:(cc c).1=false:=by rw[dL ec]
   have k:(cc d).1=false:=by rw[dL ed]
   simp only[bne_self_eq_false,fe,j,k,if_false,zg];rw[rV.f,gU.f];simp only[fa,t,u,aT.f,gQ.f,ab5];cases e:zeroC d with
   | true=>simp only[ff,if_true,fa];rfl
   | false =>
    have l:(cc d).2.1=bs (z7 d.m):=by rw[dL ed]
    have n:(cc d).2.2.1=bs (z7 d.r):=by rw[dL ed]
    have o:(cc c).2.1=bs (z7 c.m):=by rw[dL ec]
    have p:(cc c).2.2.1=bs (z7 c.r):=by rw[dL ec]
    simp only[fe,if_false,zg,l,n,o,p,beq0];by_cases h:d.m=0
    ·rw[gP h,ze,fe,gR (by simpa using h),wE lf hlf a b,fa];have r0:d.r≠0:=fun x=>by unfold zeroC at e;simp[h,x]at e
     simp only;cases dv:dvd' d.r c.m with
     | true =>
      have q: -K < c.m.fdiv d.r∧c.m.fdiv d.r < K:=by have:=uG (x:=c.m) r0;have:=hc.m;have:=CC_K;have:=C_gt;have:=yf (show 0≤C from ω) (show 0≤C from ω);omega
      have s: -K < c.r.fdiv d.r∧c.r.fdiv d.r < K:=by have:=uG (x:=c.r) r0;have:=hc.r;have:=CC_K;have:=C_gt;have:=yf (show 0≤C from ω) (show 0≤C from ω);omega
      simp only[ff,if_true,uf lf hlf b a r0,uf lf hlf i a r0,fa,iL.f,wP lf hlf q s]
     | false=>simp only[fe,if_false,zg,fa]
    ·rw[gO h,zj,ff,gT h];cases D:zeroC c with
     | true=>simp only[ff,if_true,fa]
     | false=>simp only[fe,if_false,zg,fa]
theorem ajz:mZ.f lf (cc c) (cc d)=some (cc (quoC c d),()):=by
 obtain⟨b,g,t,i,u,v,w,z,A,e⟩:=bounds lf hb hc hd;have h3:200000≤lf:=by have:=hb.1;omega
 rw[mZ.f];unfold quoC;cases ec:c.em with
 | true=>rw[mJ ec];simp only[ff,if_true,aH.f,fa];rfl
 | false=>cases ed:d.em with
  | true=>rw[dL ec,mJ ed];simp only[fe,ff,if_true,if_false,zg,aH.f,fa];rfl
  | false =>
   have j:(cc c).1=false:=by rw[dL ec]
   have k:(cc d).1=false:=by rw[dL ed]
   have l:(cc d).2.1=bs (z7 d.m):=by rw[dL ed]
   have n:(cc d).2.2.1=bs (z7 d.r):=by rw[dL ed]
   have o:(cc c).2.1=bs (z7 c.m):=by rw[dL ec]
   have p:(cc c).2.2.1=bs (z7 c.r):=by rw[dL ec]
   simp only[fe,j,k,if_false,zg,aby lf ed,aby lf ec,fa,aH.f,dm.f,ab5,l,n,o,p,beq0];cases a:zeroC d with
   | true=>simp only[ff,if_true];rfl
   | false =>
    simp only[fe,if_false,zg];by_cases h:d.m=0
    ·have B:=szK b;have D:=szK g;have E:=szK i;rw[gP h,ff,gR (by simpa using h),vM lf h3 ω ω,fa];have r0:d.r≠0:=fun x=>by unfold zeroC at a;simp[h,x]at a
     simp only;cases dv:dvd' d.r c.m with
     | true =>
      have q: -K < c.m.fdiv d.r∧c.m.fdiv d.r < K:=by have:=uG (x:=c.m) r0;have:=hc.m;have:=CC_K;have:=C_gt;have:=yf (show 0≤C from ω) (show 0≤C from ω);omega
      have s: -K < c.r.fdiv d.r∧c.r.fdiv d.r < K:=by have:=uG (x:=c.r) r0;have:=hc.r;have:=CC_K;have:=C_gt;have:=yf (show 0≤C from ω) (show 0≤C from ω);omega
      simp only[ff,if_true,pV lf h3 (x:=c.m) (y:=d.r) ω ω r0,pV lf h3 (x:=c.r) (y:=d.r) ω ω r0,fa,pW lf h3 q s]
     | false=>simp only[fe,ze,if_false,zg]
    ·rw[gO h,fe,zj,ff,gT h];cases F:zeroC c with
     | true=>simp only[ff,if_true]
     | false=>simp only[fe,if_false,zg]
end
def restC(c d:Cg):Cg:=if c.em=true then Ec else if d.em=true then Ec else if zeroC d=true then Ec else if d.m=0∧dvd' d.r c.m=true then clsF 0 (c.r.fmod d.r)else clsF (z8 c.m (z8 d.m d.r)) c.r
section
variable (lf:Nat)(hb:Big lf){c d:Cg}(hc:WfC c)(hd:WfC d)
include hb hc hd
theorem akj:qy.f lf (cc c) (cc d)=some (cc (restC c d),0,()):=by
 obtain⟨b,e,g,a,w,y,z,A,B,k⟩:=bounds lf hb hc hd;have hlf:=hb.1;have i:=qU g a;have o:=qU b i;rw[qy.f,cboth lf hb hc hd,fa];unfold restC;cases ec:c.em with
 | true=>rw[mJ ec];simp only[bne_self_eq_false,fe,ff,if_true,aT.f,fa];rfl
 | false=>cases ed:d.em with
  | true=>rw[dL ec,mJ ed];simp only[bne_self_eq_false,fe,ff,if_true,if_false,zg,aT.f,fa];rfl
  | false =>
   have v:=zero_eq ed;have l:(cc c).1=false:=by rw[dL ec]
   have n:(cc d).1=false:=by rw[dL ed]
   simp only[bne_self_eq_false,fe,l,n,if_false,zg];rw[rC.f,gU.f];simp only[fa,v,aT.f];cases j:zeroC d with
   | true=>simp only[ff,if_true,fa];rfl
   | false =>
    have q:(cc d).2.1=bs (z7 d.m):=by rw[dL ed]
    have s:(cc d).2.2.1=bs (z7 d.r):=by rw[dL ed]
    have t:(cc c).2.1=bs (z7 c.m):=by rw[dL ec]
    have u:(cc c).2.2.1=bs (z7 c.r):=by rw[dL ec]
    simp only[fe,if_false,zg,q,s,t,u,beq0,yQ lf hb g a,yQ lf hb b i,fa,wP lf hlf o e];by_cases h:d.m=0
    ·rw[gP h,ff,wE lf hlf a b,fa];have r0:d.r≠0:=fun x=>by unfold zeroC at j;simp[h,x]at j
     have p: -K < (0:Int)∧(0:Int) < K:=by have:=K_gt;omega
     simp only;cases dv:dvd' d.r c.m with
     | true =>
      rw[gT ⟨h,rfl⟩];simp only[ff,oL lf hlf e a r0,fa,iL.f,i0,wP lf hlf p (xP e a r0)]
     | false=>rw[gR ψ];simp only[fe,fa]
    ·rw[gO h,fe,gR (fun x=>h x.1),fa]
theorem agR:lC.f lf (cc c) (cc d)=some (cc (restC c d),()):=by
 obtain⟨b,e,g,a,v,w,z,A,B,k⟩:=bounds lf hb hc hd;have h3:200000≤lf:=by have:=hb.1;omega
 have i:=qU g a;have o:=qU b i;rw[lC.f];unfold restC;cases ec:c.em with
 | true=>rw[mJ ec];simp only[ff,if_true,aH.f,fa];rfl
 | false=>cases ed:d.em with
  | true=>rw[dL ec,mJ ed];simp only[fe,ff,if_true,if_false,zg,aH.f,fa];rfl
  | false =>
   have l:(cc c).1=false:=by rw[dL ec]
   have n:(cc d).1=false:=by rw[dL ed]
   have q:(cc d).2.1=bs (z7 d.m):=by rw[dL ed]
   have s:(cc d).2.2.1=bs (z7 d.r):=by rw[dL ed]
   have t:(cc c).2.1=bs (z7 c.m):=by rw[dL ec]
   have u:(cc c).2.2.1=bs (z7 c.r):=by rw[dL ec]
   simp only[fe,l,n,if_false,zg,aby lf ed,fa,aH.f,q,s,t,u,beq0,rF lf hb g a,rF lf hb b i,pW lf h3 o e];cases j:zeroC d with
   | true=>simp only[ff,if_true];rfl
   | false =>
    simp only[fe,if_false,zg];by_cases h:d.m=0
    ·have C:=szK b;have D:=szK e;have E:=szK a;rw[gP h,ff,vM lf h3 ω ω,fa];have r0:d.r≠0:=fun x=>by unfold zeroC at j;simp[h,x]at j
     have p: -K < (0:Int)∧(0:Int) < K:=by have:=K_gt;omega
     simp only;cases dv:dvd' d.r c.m with
     | true =>
      rw[gT ⟨h,rfl⟩];simp only[ff,uO lf h3 (x:=c.r) (y:=d.r) ω ω r0,fa,iI.f,i0,pW lf h3 p (xP e a r0)]
     | false=>rw[gR ψ];simp only[fe]
    ·rw[gO h,fe,gR (fun x=>h x.1)]
end
def vJ{m r:Int}:WfC (clsF m r):=by
 have d:=C_gt;unfold clsF;by_cases h:sz (m.natAbs:Int) > 100∨sz (if m=0 then r else r.fmod (m.natAbs:Int)) > 100
 ·rw[gT h];exact⟨by simp only[topC];omega,by simp only[topC];omega,by simp[topC],fun _=>by simp[topC]⟩
 ·rw[gR h];have b:=(sz_C (m.natAbs:Int)).1 ω;have c:=(sz_C (if m=0 then r else r.fmod (m.natAbs:Int))).1 ω;refine⟨b,c,by simp only;omega,fun x=>?_⟩;simp only at x⊢;have a:m≠0:=ω;rw[gR a];exact⟨xd r ω,yW r ω⟩
def rQ:WfC Ec:=by
 have a:=C_gt;exact⟨by simp only[Ec];omega,by simp only[Ec];omega,by simp[Ec],fun x=>absurd rfl x⟩
def xu:WfC topC:=by
 have a:=C_gt;exact⟨by simp only[topC];omega,by simp only[topC];omega,by simp[topC],fun _=>by simp[topC]⟩
def ag5{c d:Cg}:WfC (plusC c d):=by unfold plusC;split;exact rQ;split;exact rQ;exact vJ
def afG{c d:Cg}:WfC (minusC c d):=by unfold minusC;split;exact rQ;split;exact rQ;exact vJ
def afU{c d:Cg}:WfC (timesC c d):=by unfold timesC;split;exact rQ;split;exact rQ;exact vJ
def aio{c d:Cg}(hc:WfC c):WfC (quoC c d):=by
 unfold quoC;split;exact rQ;split;exact rQ;split;exact rQ;split
 ·split;exact hc;exact xu
 ·split;exact vJ;exact xu
def ahf{c d:Cg}:WfC (restC c d):=by unfold restC;split;exact rQ;split;exact rQ;split;exact rQ;split;exact vJ;exact vJ
def inC(c:Cg)(a:Int):Bool:=!c.em&&dvd' c.m (a-c.r)
def rE(c d:Cg):Bool:=if c.em=true then true else if d.em=true then false else dvd' d.m c.m&&dvd' d.m (c.r-d.r)
section
variable (lf:Nat)(hb:Big lf){c d:Cg}(hc:WfC c)(hd:WfC d)
include hb hc hd
theorem ado:lF.f lf (cc c) (cc d)=some (rE c d,()):=by
 obtain⟨e,h,a,i,b,j,k,l,n,g⟩:=bounds lf hb hc hd;have hlf:=hb.1;rw[lF.f];unfold rE;cases ec:c.em with
 | true=>rw[mJ ec];simp only[ff,if_true]
 | false=>cases ed:d.em with
  | true=>rw[dL ec,mJ ed];simp only[fe,ff,if_true,if_false,zg]
  | false =>
   rw[dL ec,dL ed];simp only[fe,if_false,zg,wE lf hlf a e,aa4 lf hb h i b,wE lf hlf a b,fa];cases dvd' d.m c.m with
   | true=>simp only[ff,tL]
   | false=>simp only[fe,mB]
end
section
variable (lf:Nat)(hb:Big lf){c:Cg}(hc:WfC c)
include hb hc
theorem in_r{a:Int}(ha: -Dd < a∧a < Dd):jT.f lf (cc c) (bs (z7 a))=some (inC c a,()):=by
 have h3:200000≤lf:=by have:=hb.1;omega
 have i:=DD_K;have h:=C_gt;have e:=kJ;have g:0≤Dd*Dd:=yf ω ω;have b:=hc.m;have d:=hc.r;rw[jT.f];unfold inC;cases ec:c.em with
 | true=>rw[mJ ec];simp only[ze,fe,mB]
 | false =>
  rw[dL ec];have j:=szK (CK b);have k:=szK (z:=a-c.r) ω;simp only[zj,ff,tL,diffI lf h3 (x:=a) (y:=c.r) ω ω,fa,vM lf h3 (m:=c.m) (a:=a-c.r) ω ω]
end
def negC(c:Cg):Cg:=if c.em=true then Ec else clsF c.m (-c.r)
def agb(m r:Int):clsF (m.natAbs:Int) r=clsF m r:=by
 unfold clsF;have e:((m.natAbs:Int)).natAbs=m.natAbs:=ω;have z:((m.natAbs:Int)=0)=(m=0):=ψ;simp only[e,z]
def aiv:WfC ⟨false,0,0⟩:=by
 have a:=C_gt;exact⟨by simp only;omega,by simp only;omega,ψ,fun x=>absurd rfl x⟩
def afH(c:Cg):minusC ⟨false,0,0⟩ c=negC c:=by
 unfold minusC negC;rw[gR ψ];split
 ·rfl
 ·simp only[gF,mT,agb]
def zG{c:Cg}:WfC (negC c):=by unfold negC;split;exact rQ;exact vJ
section
variable (lf:Nat)(hb:Big lf){c:Cg}(hc:WfC c)
include hb hc
theorem akc:qw.f lf (cc c)=some (cc (negC c),0,()):=by
 have s:=aiW lf hb aiv hc;rw[afH]at s;have e:((false,(⟨#[48]⟩:ByteArray),(⟨#[48]⟩:ByteArray),()):IV)=cc ⟨false,0,0⟩:=by rw[dL rfl,i0]
 rw[qw.f,gU.f,fa];simp only[e,s,fa]
theorem abm:iQ.f lf (cc c)=some (cc (negC c),()):=by
 have h3:200000≤lf:=by have:=hb.1;omega
 have b:=CK hc.m;have a:=CK hc.r;rw[iQ.f];unfold negC;cases ec:c.em with
 | true=>rw[mJ ec];simp only[ff,if_true];rfl
 | false =>
  rw[dL ec];simp only[fe,if_false,zg,uM lf a,fa,pW lf h3 b (r:= -c.r) ω]
end
def aboveC(c:Cg)(a:Int):Option Int:=if c.m=0 then(if c.r < a then none else some c.r)else some (a+(c.r-a).fmod c.m)
def zA{x y m:Int}(h:0 < m):(x.fmod m-y.fmod m).fmod m=(x-y).fmod m:=by
 rw[sB _ (zR h),sB _ (zR h),sB _ (zR h),sB _ (zR h),←Int.sub_emod]
section
variable (lf:Nat)(hb:Big lf){c:Cg}(hc:WfC c)(he:c.em=false){a:Int}(ha: -Dd < a∧a < Dd)
include hb hc he ha
theorem ah8:oD.f lf (cc c) (bs (z7 a))=some (match aboveC c a with
  | none=>(bs [],6,())
  | some v=>(bs (z7 v),0,())):=by
 have hlf:=hb.1;have x:=DD_K;have w:=C_gt;have i:=kJ;have u:0≤Dd*Dd:=yf ω ω;have d: -K < a∧a < K:=ω;have A:=qO d;have B:=hc.m;have r1:=hc.r;have e:=CK hc.m;have b:=CK hc.r;rw[oD.f,ccheck lf hb hc,fa];simp only[bne_self_eq_false,fe,rU lf (z7 a) ω,chkK d,fa];rw[dL he];simp only[fe,beq0];unfold aboveC;by_cases z:c.m=0
 ·rw[gP z,ze,fe,gT z,abh lf _ _ (chkK b) (chkK d) ω,dR,dR,fa];simp only;by_cases h:c.r < a
  ·rw[gP h,ff,gT h]
  ·rw[gO h,fe,gR h]
 ·have p:0 < c.m:=by have:=hc.pos;omega
  have j:=xP b e z;have k:=xP d e z;have l:=xd c.r p;have n:=yW c.r p;have o:=xd a p;have q:=yW a p;have g: -K < c.r.fmod c.m-a.fmod c.m∧c.r.fmod c.m-a.fmod c.m < K:=ω;have s:=xd (c.r-a) p;have t:=yW (c.r-a) p;rw[gO z,zj,ff,gR z,jW.f,oL lf hlf b e z,fa];simp only[bne_self_eq_false,fe,oL lf hlf d e z,fa,aa4 lf hb j k g,oL lf hlf g e z,zA p,xW lf ω d (y:=(c.r-a).fmod c.m) ω ω]
theorem aeo:jG.f lf (cc c) (bs (z7 a))=some (match aboveC c a with
  | none=>(bs [],false,())
  | some v=>(bs (z7 v),true,())):=by
 have h3:200000≤lf:=by have:=hb.1;omega
 have n:=DD_K;have l:=C_gt;have g:=kJ;have k:0≤Dd*Dd:=yf ω ω;have d: -K < a∧a < K:=ω;have o:=hc.m;have r1:=hc.r;have e:=CK hc.m;have b:=CK hc.r;rw[jG.f,dL he];simp only[beq0];unfold aboveC;by_cases z:c.m=0
 ·rw[gP z,ff,gT z,lessI lf h3 b d,fa];simp only;by_cases h:c.r < a
  ·rw[gP h,ff,gT h]
  ·rw[gO h,fe,gR h]
 ·have p:0 < c.m:=by have:=hc.pos;omega
  have i:=xd (c.r-a) p;have j:=yW (c.r-a) p;have kd: -K < c.r-a∧c.r-a < K:=ω;have q:=szK kd;have s:=szK e;simp only[gO z,fe,gR z,diffI lf h3 b d,fa,uO lf h3 (x:=c.r-a) (y:=c.m) ω ω z,sumI lf h3 d (y:=(c.r-a).fmod c.m) ω]
end
def belowC(c:Cg)(a:Int):Option Int:=if c.m=0 then(if a < c.r then none else some c.r)else some (a-(a-c.r).fmod c.m)
def zk{m r:Int}(f:0≤m)(c: -C < m∧m < C)(d: -C < r∧r < C):clsF m r=⟨false,m,if m=0 then r else r.fmod m⟩:=by
 have e:(m.natAbs:Int)=m:=ω;unfold clsF;rw[e];have g:=(sz_C m).2 c;have h:sz (if m=0 then r else r.fmod m)≤100:=by
  apply (sz_C _).2;split
  ·exact d
  ·have a:=xd r (show 0 < m from ω);have b:=yW r (show 0 < m from ω);omega
 rw[gR ω]
def afu{c:Cg}(hc:WfC c)(he:c.em=false)(a:Int):belowC c a=(aboveC (negC c) (-a)).map fun v=> -v:=by
 have e:negC c=⟨false,c.m,if c.m=0 then -c.r else(-c.r).fmod c.m⟩:=by
  unfold negC;rw[gR (by simp[he])];exact zk hc.pos hc.m (by have:=hc.r;omega)
 rw[e];unfold belowC aboveC;simp only;by_cases z:c.m=0
 ·simp only[z,if_true];by_cases h:a < c.r
  ·rw[gT h,gT ω];rfl
  ·rw[gR h,gR ω];simp
 ·have p:0 < c.m:=by have:=hc.pos;omega
  simp only[gR z,wj];have k:((-c.r).fmod c.m - -a).fmod c.m=(a-c.r).fmod c.m:=by
   have b:=zA (x:=(-c.r).fmod c.m) (y:= -a) p;have d:=zA (x:= -c.r) (y:= -a) p;have h3:((-c.r).fmod c.m).fmod c.m=(-c.r).fmod c.m:=by
    rw[sB _ (zR p),sB _ (zR p),Int.emod_emod]
   rw[←b,h3,d];congr 1;omega
  rw[k];congr 1;omega
section
variable (lf:Nat)(hb:Big lf){c:Cg}(hc:WfC c)(he:c.em=false){a:Int}(ha: -Dd < a∧a < Dd)
include hb hc he ha
theorem ahU:kE.f lf (cc c) (bs (z7 a))=some (match belowC c a with
  | none=>(bs [],false,())
  | some v=>(bs (z7 v),true,())):=by
 have l:=DD_K;have k:=C_gt;have d:=kJ;have j:0≤Dd*Dd:=yf ω ω;have ne:(negC c).em=false:=by
  have:negC c=⟨false,c.m,if c.m=0 then -c.r else(-c.r).fmod c.m⟩:=by
   unfold negC;rw[gR (by simp[he])];exact zk hc.pos hc.m (by have:=hc.r;omega)
  rw[this]
 have b:=aeo lf hb zG ne (a:= -a) ω;rw[kE.f,abm lf hb hc,fa,uM lf (z:=a) ω,fa,b,fa,afu hc he];cases h:aboveC (negC c) (-a)with
 | none=>simp only[zj,ff,mj]
 | some v =>
  have e: -K < v∧v < K:=by
   unfold aboveC at h;have w:=zG (c:=c);have n:=w.m;have r1:=w.r;split at h
   ·split at h
    ·cases h
    ·injection h with h;omega
   ·rename_i z;have p:0 < (negC c).m:=by have:=w.pos;omega
    have g:=xd ((negC c).r - -a) p;have i:=yW ((negC c).r - -a) p;injection h with h
    omega
  simp only[ze,fe,wj,uM lf e,fa]
theorem ad3:jZ.f lf (cc c) (bs (z7 a))=some (match belowC c a with
  | none=>(bs [],6,())
  | some v=>(bs (z7 v),0,())):=by
 have hlf:=hb.1;have A:=DD_K;have y:=C_gt;have j:=kJ;have x:0≤Dd*Dd:=yf ω ω;have d: -K < a∧a < K:=ω;have B:=qO d;have C:=hc.m;have r1:=hc.r;have e:=CK hc.m;have b:=CK hc.r;rw[jZ.f,ccheck lf hb hc,fa];simp only[bne_self_eq_false,fe,rU lf (z7 a) ω,chkK d,fa];rw[dL he];simp only[fe,beq0];unfold belowC;by_cases z:c.m=0
 ·rw[gP z,ze,fe,gT z,abh lf _ _ (chkK d) (chkK b) ω,dR,dR,fa];simp only;by_cases h:a < c.r
  ·rw[gP h,ff,gT h]
  ·rw[gO h,fe,gR h]
 ·have p:0 < c.m:=by have:=hc.pos;omega
  have k:=xP b e z;have l:=xP d e z;have o:=xd c.r p;have q:=yW c.r p;have s:=xd a p;have t:=yW a p;have g: -K < a.fmod c.m-c.r.fmod c.m∧a.fmod c.m-c.r.fmod c.m < K:=ω;have u:=xd (a-c.r) p;have w:=yW (a-c.r) p;have n: -K < (a-c.r).fmod c.m∧(a-c.r).fmod c.m < K:=ω;have kd: -K < a-(a-c.r).fmod c.m∧a-(a-c.r).fmod c.m < K:=ω;have D:=(sz_K _).2 kd;have i:=afn lf _ _ (chkK d) (chkK n) ω;rw[dR,dR,rD,gR ω]at i;rw[gO z,zj,ff,gR z,jW.f,oL lf hlf d e z,fa];simp only[bne_self_eq_false,fe,oL lf hlf b e z,fa,aa4 lf hb l k g,oL lf hlf g e z,zA p,i]
end
def aj7(lf:Nat)(hb:Big lf){x y:Int}(hx:0 < x∧x < C)(hy:0 < y∧y < C):vk.f lf (bs (z7 x)) (bs (z7 y))=some (bs (z7 (x / (z8 x y:Int)*y)),0,()):=by
 have hlf:=hb.1;have hK:=hb.2;have L:=fO;have J:=CC_K;have Z:=C_gt;have kx: -K < x∧x < K:=ω;have O: -K < y∧y < K:=ω;obtain⟨p,q,e,c,i,_⟩:=wZ lf _ _ (chkK kx) (chkK O) ω;rw[dR]at c i;have n1:=dw (B:=G) δ c.dg;have n2:=dw (B:=G) δ i.dg;have l:lv G p.2.1=x:=by have:=c.val;split at this<;>omega
 have m:lv G q.2.1=y:=by have:=i.val;split at this<;>omega
 have P:p.2.1≠[]:=fun h=>by rw[h]at l;simp only[lv]at l;omega
 have S:q.2.1≠[]:=fun h=>by rw[h]at m;simp only[lv]at m;omega
 have pl:0 < p.2.1.length:=vj.2 P;have ql:0 < q.2.1.length:=vj.2 S;have l1:=c.len;have l2:=i.len;obtain⟨g,F,H,I,Y,j⟩:=abM lf hlf (lf+39) (lf+40) p.2.1 q.2.1 ω ω c.dg i.dg c.tr i.tr ω ω;rw[l,m]at j;have o:0 < (z8 x y:Int):=by
  have:=lz y (show x≠0 from ω);omega
 have g0:g≠[]:=fun h=>by rw[h]at j;simp only[lv]at j;omega
 obtain⟨Q,R,v,n,A,D,X,E,s⟩:=zq lf p.2.1 g c.dg H c.tr I g0 ω ω hlf;have W:=dw (B:=G) δ n;have u:=dw (B:=G) δ D;rw[l,j]at E;rw[j]at s;have dv:(z8 x y:Int)∣x:=qa x y;have T:lv G Q=x / (z8 x y:Int):=by
  obtain⟨k,N⟩:=dv;have w:=ac3 (M:=(z8 x y:Int)) (a:=lv G R) (d:=lv G Q-k) (b:=0) o (by rw[uC];omega) u s ω o;have:lv G Q=k:=ω;rw[this];exact(Int.ediv_eq_of_eq_mul_right (show(z8 x y:Int)≠0 by omega) N).symm
 have t:Q.length≤p.2.1.length:=by
  by_cases z:Q.length≤p.2.1.length
  ·exact z
  ·have:=oJ (B:=G) δ c.dg n A ω;have:=p8 (z8 x y:Int) (show 0≤x from ω);omega
 obtain⟨r,r1,r2,r3,r4,r5⟩:=acU lf Q q.2.1 n i.dg ω ω ω;rw[T,m]at r5;have U:RN (false,r,()) (x / (z8 x y:Int)*y) 8192:=⟨r2,r3,by simp only;omega,by simp only[zg,if_false];rw[r5]⟩
 have lt: -K < x / (z8 x y:Int)*y∧x / (z8 x y:Int)*y < K:=by
  have a:=p8 (z8 x y:Int) (show 0≤x from ω);have b:=vR (show 0≤x from ω) (zR o);have:=rJ (a:=x / (z8 x y:Int)) (b:=y) ω ω;omega
 have V:=(sz_K _).2 lt;rw[vk.f,e,fa];simp only[bne_self_eq_false,fe];rw[show((p.2.1.length:Int)==0)=false from beq_eq_false_iff_ne.2 ω,fe,show((q.2.1.length:Int)==0)=false from beq_eq_false_iff_ne.2 ω,fe,iF.f,F,fa,fa,v,fa,r1,fa,yG lf U ω ω,rD,gR ω,fa]
structure Bz(a b r s x z:Int):Prop where
 b0:0 < b
 r0:0 < r
 s0:0≤s
 xr:b∣x*a-r
 zs:b∣z*a-s
 sg:(0≤z∧x≤0∧z*r-x*s=b)∨(z≤0∧0≤x∧z*r-x*s= -b)
 xb: -b≤x∧x≤b
def Bz.zb{a b r s x z:Int}(h:Bz a b r s x z): -b≤z∧z≤b:=by
 have r0:=h.r0;have s0:=h.s0;have b0:=h.b0;rcases h.sg with⟨h1,h2,h3⟩ | ⟨h1,h2,h3⟩
 ·have c:z*1≤z*r:=xF ω h1;have d:0≤-x*s:=yf ω s0;rw[tQ]at d;omega
 ·have c: -z*1≤-z*r:=xF ω ω;have d:0≤x*s:=yf h2 s0;rw[tQ,tQ]at c;omega
def Bz.next{a b r s x z q t:Int}(h:Bz a b r s x z)(hs:0 < s)(c:r=s*q+t)(t0:0≤t)(d:0≤q):Bz a b s t z (x-q*z):=by
 have zb:=h.zb;refine⟨h.b0,hs,t0,h.zs,?_,?_,zb⟩
 ·have e:(x-q*z)*a-t=(x*a-r)-q*(z*a-s):=by
   subst c;rw[oc,uC,nq,wk q s];omega
  rw[e];exact om h.xr (lA h.zs (jx _ _))
 ·have e:(x-q*z)*s-z*t= -(z*r-x*s):=by
   subst c;rw[oc,vL,wk q z,nq z q s,wk q s];omega
  rw[e];rcases h.sg with⟨h1,h2,h3⟩ | ⟨h1,h2,h3⟩
  ·refine .inr ⟨?_,h1,by rw[h3]⟩;have:=yf d h1;omega
  ·refine .inl ⟨?_,h1,by rw[h3];omega⟩;have:=yf d (show 0≤-z from ω);rw[sY]at this;omega
def crt{a b g r1 r2 x k:Int}(g0:0 < g)(h:0 < a)(i:0 < b)(d:g∣a)(f:g∣b)(hx:b∣x*a-g)(c:r2-r1=g*k):b∣(r1+x*k*a)-r2:=by
 have e:(r1+x*k*a)-r2=k*(x*a-g):=by
  rw[uC,wk k g,←c,wk x k,nq];omega
 rw[e];exact lA hx (jx _ _)
def lcm_dvd{c m2 v:Int}(d:0 < c)(f:0 < m2)(a:c∣v)(b:m2∣v):c / (z8 c m2:Int)*m2∣v:=by
 have l:(Int.lcm c m2:Int)∣v:=Int.coe_lcm_dvd a b;have e:(Int.lcm c m2:Int)=c / (z8 c m2:Int)*m2:=by
  rw[Int.lcm_eq_mul_div,Int.natCast_ediv,sM,jz (zR d),jz (zR f),wk c m2,jN _ (qa c m2),wk]
 rw[←e];exact l
def aeR{b a:Int}(e:0 < b)(f:0 < a):b / (z8 b a:Int)*a=b*(a / (z8 b a:Int)):=by
 have c:=qa b a;have d:=oo b a;rw[←jN _ d,wk _ a,←jN _ c,wk]
def lcm_pos{a m2:Int}(b:0 < a)(c:0 < m2):0 < a / (z8 a m2:Int)*m2:=by
 have d:0 < (z8 a m2:Int):=by
  have:=lz m2 (show a≠0 from ω);omega
 have:0 < a / (z8 a m2:Int):=Int.ediv_pos_of_pos_of_dvd b ω (qa _ _);exact nW this c
def afC{L u v:Int}(h:0 < L)(d:L∣u-v):u.fmod L=v.fmod L:=by
 rw[sB _ (zR h),sB _ (zR h)];exact Int.emod_eq_emod_iff_emod_sub_eq_zero.2 (gH d)
abbrev Nb:Type:=Bool×(List Int×Unit)
def RN.natAbs{p:Nb}{z:Int}{k:Nat}(h:RN p z k):lv G p.2.1=(z.natAbs:Int):=by
 have:=h.val;have:=dw (B:=G) δ h.dg;split at*<;> omega
def RN.small(lf:Nat)(h3:200000≤lf){p:Nb}{z:Int}{k:Nat}(h:RN p z k)(hz: -K < z∧z < K):RN p z 4096:=by
 obtain⟨q,_,_,a,_⟩:=wZ lf _ _ (chkK hz) (chkK hz) h3;rw[dR]at a;refine⟨h.dg,h.tr,?_,h.val⟩;by_cases l:p.2.1.length≤4096
 ·exact l
 ·have:=oJ (B:=G) δ a.dg h.dg h.tr (by have:=a.len;omega);rw[h.natAbs,a.natAbs]at this;omega
def RN.nil{p:Nb}{k:Nat}(h:RN p 0 k):p.2.1=[]:=(yU (B:=G) δ h.dg h.tr).1 (by rw[h.natAbs];rfl)
def RN.ne{p:Nb}{z:Int}{k:Nat}(h:RN p z k)(a:z≠0):0 < p.2.1.length:=by
 refine vj.2 fun e=>a ?_;have:=h.natAbs;rw[e]at this;simp only[lv]at this;omega
def ag9(lf:Nat)(h3:200000≤lf){p q:Nb}{x y:Int}{k:Nat}(a:RN p x k)(b:RN q y k)(c:k≤50000):∃ s,dV.f lf p q=some (s,())∧RN s (x*y) (k+k):=by
 obtain⟨r,r1,r2,r3,r4,r5⟩:=acU lf p.2.1 q.2.1 a.dg b.dg (by have:=a.len;omega) (by have:=b.len;omega) h3;rw[dV.f,r1,fa];refine⟨_,rfl,r2,r3,by have:=a.len;have:=b.len;simp only;omega,?_⟩;simp only;rw[r5,a.val,b.val];cases p.1<;>cases q.1<;>simp[tQ,sY]
section
variable (lf:Nat)(hlf:2000000000≤lf){a b:Int}(hb:b < C)
include hlf hb
theorem ace{r s c e:Nb}{R S X Z:Int}(l:RN r R 4096)(o:RN s S 4096)(h3:RN c X 4096)(p:RN e Z 4096)(h:Bz a b R S X Z)(hs:S≠0):
  ∃ q t u v w,bZ.f lf r s=some (q,t,())∧dV.f lf q e=some (u,())∧dH.f lf u=some (v,())∧gJ.f lf c v=some (w,())∧
   RN t (R.fmod S) 4096∧RN w (X-R.fdiv S*Z) 4096∧Bz a b S (R.fmod S) Z (X-R.fdiv S*Z):=by
 have B:=fO;have sp:0 < S:=by have:=h.s0;omega
 obtain⟨q,t,g,x,y⟩:=xh lf hlf l o ω hs;obtain⟨u,i,z⟩:=ag9 lf ω x (p.mono ω) ω;obtain⟨v,j,A⟩:=yx lf z;obtain⟨w,k,d⟩:=adI lf (h3.mono (show 4096≤4096+1+(4096+1) by omega)) A ω ω;rw[←nL]at d;have m:=wh R S;have n:=h.next sp m.symm (xd R sp) (by
  rw[px _ (zR sp)];exact vR (zR h.r0) (zR sp))
 have zb:=n.zb;exact⟨q,t,u,v,w,g,i,j,k,y,d.small lf ω ω,n⟩
theorem ajR(z:Bool)(A:List Int)(B:Bool)(C D:List Int):∀ (k n:Nat) (r s bf nw:Nb) (R S X Z:Int),S≤k→k < n→RN r R 4096→RN s S 4096→RN bf X 4096→RN nw Z 4096→Bz a b R S X Z→
  ∃ (g c d:Nb) (e:Bool) (f:Int),dS.l2 lf z A B C D n r.1 r.2.1 s.1 s.2.1 bf.1 bf.2.1 nw.1 nw.2.1=some ((z,A,B,C,g.1,g.2.1,e,[],D,c.1,c.2.1,d.1,d.2.1,()),())∧
   RN g (z8 R S) 4096∧RN c f 4096∧b∣f*a-(z8 R S:Int)∧-b≤f∧f≤b:=by
 intro k
 induction k with
 | zero =>
  intro n r s bf nw R S X Z K L j i h3 l h;obtain⟨m,rfl⟩:=zv (show n≠0 from ω);have s0:=h.s0;obtain rfl:S=0:=ω;have e:=i.nil;have r0:=h.r0;have g:(z8 R 0:Int)=R:=by rw[ri];omega
  refine⟨r,bf,nw,s.1,X,?_,by rw[g];exact j,h3,by rw[g];exact h.xr,h.xb⟩;rw[dS.l2,dS.r2,e,gO ψ,fe]
 | succ k N =>
  intro n r s bf nw R S X Z K L j i h3 l h;obtain⟨m,rfl⟩:=zv (show n≠0 from ω);have s0:=h.s0;have r0:=h.r0;by_cases hs:S=0
  ·subst hs;have e:=i.nil;have g:(z8 R 0:Int)=R:=by rw[ri];omega
   refine⟨r,bf,nw,s.1,X,?_,by rw[g];exact j,h3,by rw[g];exact h.xr,h.xb⟩;rw[dS.l2,dS.r2,e,gO ψ,fe]
  ·obtain⟨q,t,u,v,w,E,F,G,H,O,P,x⟩:=ace lf hlf hb j i h3 l h hs;have y:0 < S:=ω;have I:=yW R y;have J:(z8 S (R.fmod S))=z8 R S:=vw (wh R S).symm y x.s0 I ω;obtain⟨g,c,d,e,f,i1,o,i3,p,M⟩:=N m s t nw w S (R.fmod S) Z _ ω ω i O l P x;rw[J]at o p;refine⟨g,c,d,e,f,?_,o,i3,p,M⟩;rw[dS.l2,dS.r2,gP (by have:=i.ne hs;omega),ff];have Q:((r.1,r.2.1,()):Nb)=r:=rfl;have T:((s.1,s.2.1,()):Nb)=s:=rfl;have U:((nw.1,nw.2.1,()):Nb)=nw:=rfl;have V:((bf.1,bf.2.1,()):Nb)=bf:=rfl;rw[Q,T,U,V,E,fa,F,fa,G,fa,H,fa];exact i1
end
def aev(lf:Nat)(hlf:2000000000≤lf){a b:Int}(ha:0 < a∧a < C)(hb:0 < b∧b < C){x y g l:Nb}{X:Int}(hx:RN x a 4096)(hy:RN y b 4096)(c:RN g (z8 a b) 4096)(Z:RN l X 4096)(Y:b∣X*a-(z8 a b:Int)):
  ∃ (Q R:List Int) (q u p m s t:Nb) (o:Nb),ay.f lf y.2.1 g.2.1=some (Q,R,())∧bZ.f lf l (false,Q,())=some (q,u,())∧dV.f lf x u=some (p,())∧dH.f lf p=some (m,())∧
   gJ.f lf g m=some (s,())∧bZ.f lf s y=some (t,o,())∧(∃ c1,aG.f lf g=some (c1,()))∧(∃ c2,aG.f lf t=some (c2,()))∧
   ∃ U:Int,aG.f lf u=some (bs (z7 U),())∧0≤U∧U < C∧b∣U*a-(z8 a b:Int):=by
 have V:=fO;have v:0 < (z8 a b:Int):=by
  have:=lz b (show a≠0 from ω);omega
 have g0:g.2.1≠[]:=fun e=>by have:=c.ne ω;rw[e]at this;simp at this
 obtain⟨Q,R,J,n,K,L,d5,N,r⟩:=zq lf y.2.1 g.2.1 hy.dg c.dg hy.tr c.tr g0 (by have:=hy.len;omega) (by have:=c.len;omega) hlf;have yv:lv G y.2.1=b:=by rw[hy.natAbs];omega
 have A:lv G g.2.1=(z8 a b:Int):=by rw[c.natAbs];omega
 rw[yv,A]at N;rw[A]at r;have H:=dw (B:=G) δ n;have I:=dw (B:=G) δ L;have dv:(z8 a b:Int)∣b:=oo a b;have F:(z8 a b:Int)*lv G Q=b:=by
  obtain⟨k,j⟩:=dv;have w:=ac3 (M:=(z8 a b:Int)) (a:=lv G R) (d:=lv G Q-k) (b:=0) v (by rw[uC];omega) I r ω v;have:lv G Q=k:=ω;rw[this];exact j.symm
 have E:0 < lv G Q:=by
  by_cases z:lv G Q=0
  ·rw[z,uc]at F;omega
  ·omega
 have qb:lv G Q≤b:=by
  have:=wA (show 1≤(z8 a b:Int) by omega) H;omega
 have W:RN (false,Q,()) (lv G Q) 4096:=(show RN (false,Q,()) (lv G Q) Q.length from⟨n,K,Nat.le_refl _,rfl⟩).small lf ω ω;obtain⟨q,u,h,k1,D⟩:=xh lf hlf Z W ω ω;have T:=xd X E;have f1:=yW X E;obtain⟨p,i,k3⟩:=ag9 lf ω hx D ω;obtain⟨m,O,k4⟩:=yx lf k3;obtain⟨s,P,k5⟩:=adI lf (c.mono (show 4096≤4096+4096 from ω)) k4 ω ω;obtain⟨t,o,S,k6,k7⟩:=xh lf hlf k5 (hy.mono ω) ω ω;refine⟨Q,R,q,u,p,m,s,t,o,J,h,i,O,P,S,⟨_,wX lf c ω ω⟩,⟨_,wX lf k6 ω ω⟩,X.fmod (lv G Q),wX lf D ω ω,T,ω,?_⟩;have mm:=wh X (lv G Q);obtain⟨k,j⟩:=qa a b;have e:X.fmod (lv G Q)*a-(z8 a b:Int)=(X*a-(z8 a b:Int))-b*(X.fdiv (lv G Q)*k):=by
  have h:X.fmod (lv G Q)=X-lv G Q*X.fdiv (lv G Q):=ω;have i:b*(X.fdiv (lv G Q)*k)=lv G Q*X.fdiv (lv G Q)*a:=by
   rw[←F];generalize X.fdiv (lv G Q)=w at *
   generalize lv G Q=z at *
   generalize (z8 a b:Int)=g at *
   rw[j];grind
  rw[h,i,oc];omega
 rw[e];exact om Y (gL _ _)
def af4(lf:Nat)(hb:Big lf){a b:Int}(ha:0 < a∧a < C)(hbb:0 < b∧b < C):
  ∃ (t1 t3:ByteArray) (U:Int),dS.f lf (bs (z7 a)) (bs (z7 b))=some (t1,bs (z7 U),t3,0,())∧0≤U∧U < C∧b∣U*a-(z8 a b:Int):=by
 have hlf:=hb.1;have hK:=hb.2;have hCK:=fO;have ka: -K < a∧a < K:=ω;have kb: -K < b∧b < K:=ω;obtain⟨x,y,e,j,c,n1,n2⟩:=wZ lf _ _ (chkK ka) (chkK kb) ω;rw[dR]at j c;have o:x.1=false:=by
  cases hx:x.1 with
  | false=>rfl
  | true =>
   have:=j.val;have:=dw (B:=G) δ j.dg;rw[hx,gT rfl]at *;omega
 have O:y.1=false:=by
  cases hx:y.1 with
  | false=>rfl
  | true =>
   have:=c.val;have:=dw (B:=G) δ c.dg;rw[hx,gT rfl]at *;omega
 have y0:=c.ne ω;have B0:Bz a b a b 1 0:=⟨hbb.1,ha.1,ω,ψ,ψ,.inr ⟨ω,ω,ψ⟩,ω⟩
 have one:RN (false,[1],()) 1 4096:=⟨by intro d hd;simp at hd;subst hd;decide,by unfold Tr;simp,ψ,δ⟩
 have i:RN (false,[],()) 0 4096:=⟨nofun,by unfold Tr;simp,ψ,δ⟩
 have x1:RN (false,x.2.1,()) a 4096:=by have h:=j;obtain⟨xn,xl,⟨⟩⟩:=x;simp only at o;subst o;exact h
 have S:RN (false,y.2.1,()) b 4096:=by have h:=c;obtain⟨xn,xl,⟨⟩⟩:=y;simp only at O;subst O;exact h
 obtain⟨q,t,u,v,w,W,Y,Z,s4,l,s6,p⟩:=ace lf hlf hbb.2 x1 S one i B0 ω;have k:(z8 b (a.fmod b))=z8 a b:=vw (wh a b).symm hbb.1 p.s0 (yW a hbb.1) ω;have T:(decide ((y.2.1.length:Int) > 0))=true:=gP ω;have e0:((y.2.1.length:Int)==0)=false:=beq_eq_false_iff_ne.2 ω;by_cases z:a.fmod b=0
 ·rw[z]at l p k;have tn:=l.nil;rw[ri,show b.natAbs=b.toNat by omega]at k;have hg:RN (false,y.2.1,()) (z8 a b) 4096:=by rw[←k,show((b.toNat:Nat):Int)=b by omega];exact S
  have hX:b∣0*a-(z8 a b:Int):=by
   rw[←k,show((b.toNat:Nat):Int)=b by omega,mU,mT];exact i6.2 (i7 _)
  obtain⟨Q,R,q',u',p',m',s',t',o',E,F,H,I,m,J,⟨c1,n⟩,⟨c2,L⟩,U,M,s,A,D⟩:=aev lf hlf ha hbb j c hg i hX;refine⟨c1,c2,U,?_,s,A,D⟩;rw[dS.f,e,fa];simp only[bne_self_eq_false,fe,e0];rw[show lf+40=lf+38+1+1 from rfl,dS.l0,dS.r0,T,ff,W,fa,Y,fa,Z,fa,s4,fa];simp only;rw[dS.l1,dS.r1,tn,gO ψ,fe];have P:((x.1,x.2.1,()):Nb)=x:=rfl;have r:((y.1,y.2.1,()):Nb)=y:=rfl;simp only[fa,ff,fe,o,O,zg]at *
  rw[r]at m n;simp only[P,r,E,F,H,I,m,J,n,L,M,fa]
 ·obtain⟨q2,t2,u2,v2,w2,r1,r2,r3,r4,r5,r6,V⟩:=ace lf hlf hbb.2 S l i s6 p z;have nx0:=p.s0;have sp:0 < a.fmod b:=ω;have fl:=yW b sp;have N:(z8 (a.fmod b) (b.fmod (a.fmod b)))=z8 b (a.fmod b):=vw (wh b (a.fmod b)).symm sp V.s0 fl ω;obtain⟨g,bf,nw,ee,X,l1,l2,l3,l4,l5,l6⟩:=ajR lf hlf hbb.2 x.1 x.2.1 y.1 y.2.1 [1] (lf+37) (lf+38) t t2 w w2 _ _ _ _ (by have:=yW a hbb.1;omega) ω l r5 s6 r6 V;rw[N,k]at l2 l4;obtain⟨Q,R,q',u',p',m',s',t',o',E,F,H,I,m,J,⟨c1,n⟩,⟨c2,L⟩,U,M,s,A,D⟩:=aev lf hlf ha hbb j c l2 l3 l4;refine⟨c1,c2,U,?_,s,A,D⟩;rw[dS.f,e,fa];simp only[bne_self_eq_false,fe,e0];rw[show lf+40=lf+38+1+1 from rfl,dS.l0,dS.r0,T,ff,W,fa,Y,fa,Z,fa,s4,fa];simp only;have te:((t.1,t.2.1,()):Nb)=t:=rfl;have we:((w.1,w.2.1,()):Nb)=w:=rfl;rw[dS.l1,dS.r1,gP (by have:=l.ne z;omega),ff,te,we,r1,fa,r2,fa,r3,fa,r4,fa];simp only;rw[l1];have P:((x.1,x.2.1,()):Nb)=x:=rfl;have r:((y.1,y.2.1,()):Nb)=y:=rfl;have ge:((g.1,g.2.1,()):Nb)=g:=rfl;have be:((bf.1,bf.2.1,()):Nb)=bf:=rfl;simp only[fa,ff,fe,P,r,ge,be,E,F,H,I,m,J,n,L,M];rw[o,fe]
structure Vl where
 a:A
 c:Cg
deriving DecidableEq
abbrev VV:Type:=IV×(IV×Unit)
def vc(v:Vl):VV:=(ac v.a,cc v.c,())
def Ev:Vl:=⟨E0,Ec⟩
def onev(z:Int):Vl:=⟨⟨false,some z,some z⟩,⟨false,0,z⟩⟩
def loC(c:Cg)(a:Int):Int:=a+(c.r-a).fmod c.m
def hiC(c:Cg)(a:Int):Int:=a-(a-c.r).fmod c.m
def fin3(x y:Option Int)(c:Cg):Vl:=match x,y with
 | some x,some y=>if y < x then Ev else if x=y then onev x else⟨⟨false,clip x,clip y⟩,c⟩
 | x,y=>⟨⟨false,x.bind clip,y.bind clip⟩,c⟩
def red(a:A)(c:Cg):Vl:=if a.em=true then Ev else if c.em=true then Ev else if c.m=0 then(if inS (ofA a) c.r=true then onev c.r else Ev)else fin3 (a.lo.map (loC c)) (a.hi.map (hiC c)) c
structure WfV(v:Vl):Prop where
 a:Wf v.a
 c:WfC v.c
 red:red v.a v.c=v
def lo_m{c:Cg}(p:0 < c.m)(a:Int):a≤loC c a∧loC c a < a+c.m:=by
 have:=xd (c.r-a) p;have:=yW (c.r-a) p;unfold loC;omega
def hi_m{c:Cg}(p:0 < c.m)(a:Int):hiC c a≤a∧a-c.m < hiC c a:=by
 have:=xd (a-c.r) p;have:=yW (a-c.r) p;unfold hiC;omega
def aeJ{m a:Int}(p:0 < m):a.fmod m=0↔m∣a:=by
 rw[sB _ (zR p)];exact⟨Int.dvd_of_emod_eq_zero,gH⟩
def abe{m:Int}(p:0 < m)(a:Int):m∣a-a.fmod m:=by
 rw[sB _ (zR p)];exact Int.dvd_self_sub_emod
def wV{c:Cg}(he:c.em=false)(a:0≤c.m){z:Int}:inC c z=true↔c.m∣z-c.r:=by
 unfold inC dvd';rw[he];by_cases h:c.m=0
 ·rw[gT h,h];simp
 ·rw[gR h];simp only[zj,tL,decide_eq_true_eq];exact aeJ ω
def agL{c:Cg}(p:0 < c.m)(a:Int):c.m∣loC c a-c.r:=by
 obtain⟨k,b⟩:=abe p (c.r-a);exact⟨-k,by unfold loC;rw[sY,←b];omega⟩
def agx{c:Cg}(p:0 < c.m)(a:Int):c.m∣hiC c a-c.r:=by
 obtain⟨k,b⟩:=abe p (a-c.r);exact⟨k,by unfold hiC;rw[←b];omega⟩
def agK{c:Cg}(p:0 < c.m){a:Int}(h:c.m∣a-c.r):loC c a=a:=by
 have:(c.r-a).fmod c.m=0:=(aeJ p).2 (by have:=i6.2 h;rwa [Int.neg_sub]at this);unfold loC;omega
def agw{c:Cg}(p:0 < c.m){a:Int}(h:c.m∣a-c.r):hiC c a=a:=by
 have:(a-c.r).fmod c.m=0:=(aeJ p).2 h;unfold hiC;omega
def uX{z:Int}(h: -C < z∧z < C):clip z=some z:=gT h
def abH{z:Int}(h:¬(-C < z∧z < C)):clip z=none:=gR h
def Wf.inS{a:A}(h:Wf a)(he:a.em=false){z:Int}(hz: -K < z∧z < K):inS (ofA a) z=true↔(∀ l,a.lo=some l→l≤z)∧∀ u,a.hi=some u→z≤u:=by
 unfold Go.N.inS ofA;rw[he,gR ψ];simp only[zm,decide_eq_true_eq];cases a.lo with
 | none=>cases a.hi with
  | none=>simp[lox,hix,key];omega
  | some u=>simp[lox,hix,key];omega
 | some l=>cases a.hi with
  | none=>simp[lox,hix,key];omega
  | some u=>simp[lox,hix,key]
def aeX{z:Int}(hz: -C < z∧z < C):Wf (onev z).a∧WfC (onev z).c:=by
 have b:=C_gt;exact⟨⟨fun h=>by simp[onev]at h,hz,hz,xp _⟩,⟨by simp only[onev];omega,hz,by simp[onev],fun h=>absurd rfl h⟩⟩
def aiJ:Wf Ev.a∧WfC Ev.c:=⟨ako,rQ⟩
def ag1{z:Int}(hz: -C < z∧z < C):red (onev z).a (onev z).c=onev z:=by
 have h:inS (ofA (onev z).a) z=true:=by
  unfold inS ofA onev;simp[lox,hix,key]
 unfold red;rw[gR (by simp[onev]),gR (by simp[onev]),gT (by rfl)];exact gT h
def ai2:red Ev.a Ev.c=Ev:=gT rfl
def aea{z:Int}(hz: -C < z∧z < C):WfV (onev z):=⟨(aeX hz).1,(aeX hz).2,ag1 hz⟩
def Ev_V:WfV Ev:=⟨aiJ.1,aiJ.2,ai2⟩
def ajj{c:Cg}(hc:WfC c)(he:c.em=false)(j:c.m≠0){x y:Option Int}(hx:∀ v,x=some v→c.m∣v-c.r)(hy:∀ v,y=some v→c.m∣v-c.r)(bd:∀ v u,x=some v→y=some u→v=u→-C < v∧v < C):WfV (fin3 x y c):=by
 have p:0 < c.m:=by have:=hc.pos;omega
 have a:∀ u v:Option Int,(∀ z,u=some z→(-C < z∧z < C)∧c.m∣z-c.r)→(∀ z,v=some z→(-C < z∧z < C)∧c.m∣z-c.r)→(∀ z w,u=some z→v=some w→z < w)→WfV ⟨⟨false,u,v⟩,c⟩:=by
  intro u v b d f;refine⟨⟨fun h=>by simp at h,?_,?_,?_⟩,hc,?_⟩
  ·cases u with
   | none=>trivial
   | some z=>exact(b z rfl).1
  ·cases v with
   | none=>trivial
   | some z=>exact(d z rfl).1
  ·cases u with
   | none=>trivial
   | some z=>cases v with
    | none=>trivial
    | some w=>exact zR (f z w rfl rfl)
  ·unfold red;rw[gR ψ,gR (by simp[he]),gR j];cases u with
   | none=>cases v with
    | none=>rfl
    | some w =>
     simp only[xf,agw p (d w rfl).2,fin3,ot,uX (d w rfl).1]
   | some z=>cases v with
    | none=>simp only[xf,agK p (b z rfl).2,fin3,ot,uX (b z rfl).1]
    | some w =>
     have:=f z w rfl rfl;simp only[xf,agK p (b z rfl).2,agw p (d w rfl).2,fin3,uX (b z rfl).1,uX (d w rfl).1];rw[gR ω,gR ω]
 have e:∀ z w,clip z=some w→w=z∧-C < z∧z < C:=by
  intro z w h;unfold clip at h;split at h
  ·cases h;exact⟨rfl,by assumption⟩
  ·cases h
 cases x with
 | none=>cases y with
  | none=>exact a none none (fun z h=>by cases h) (fun z h=>by cases h) (fun z w h=>by cases h)
  | some w=>exact a none (clip w) (fun z h=>by cases h) (fun z h=>by obtain⟨rfl,h⟩:=e _ _ h;exact⟨h,hy _ rfl⟩) (fun z w h=>by cases h)
 | some z=>cases y with
  | none=>exact a (clip z) none (fun z h=>by obtain⟨rfl,h⟩:=e _ _ h;exact⟨h,hx _ rfl⟩) (fun z h=>by cases h) (fun z w _ h=>by cases h)
  | some w =>
   unfold fin3;simp only;by_cases i:w < z
   ·rw[gT i];exact Ev_V
   ·rw[gR i];by_cases g:z=w
    ·rw[gT g];exact aea (bd z w rfl rfl g)
    ·rw[gR g];exact a (clip z) (clip w) (fun z h=>by obtain⟨rfl,h⟩:=e _ _ h;exact⟨h,hx _ rfl⟩) (fun z h=>by obtain⟨rfl,h⟩:=e _ _ h;exact⟨h,hy _ rfl⟩) (fun u v b d=>by obtain⟨rfl,_⟩:=e _ _ b;obtain⟨rfl,_⟩:=e _ _ d;omega)
def ae2{a:A}{c:Cg}(ha:Wf a)(hc:WfC c):WfV (red a c):=by
 unfold red;by_cases g:a.em=true
 ·rw[gT g];exact Ev_V
 ·by_cases d:c.em=true
  ·rw[gR g,gT d];exact Ev_V
  ·rw[gR g,gR d];by_cases z:c.m=0
   ·rw[gT z];split
    ·exact aea hc.r
    ·exact Ev_V
   ·rw[gR z];have p:0 < c.m:=by have:=hc.pos;omega
    have d:c.em=false:=by simpa using d
    refine ajj hc d z ?_ ?_ ?_
    ·intro v h;cases b:a.lo with
     | none=>rw[b]at h;cases h
     | some l=>rw[b]at h;cases h;exact agL p l
    ·intro v h;cases b:a.hi with
     | none=>rw[b]at h;cases h
     | some l=>rw[b]at h;cases h;exact agx p l
    ·intro v u e f h3;have n:=ha.lo;have j:=ha.hi;cases b:a.lo with
     | none=>rw[b]at e;cases e
     | some l =>
      cases i:a.hi with
      | none=>rw[i]at f;cases f
      | some k =>
       rw[b]at e n;rw[i]at f j;cases e;cases f;have:=lo_m p l;have:=hi_m p k;simp only[okb]at n j;omega
section
variable {c d:Cg}(hc:WfC c)(hd:WfC d){z w:Int}(hz:inC c z=true)(hw:inC d w=true)
include hc hd hz hw
end
def aaG(m a:Int)(h:0≤m):dvd' m a=true↔m∣a:=by
 unfold dvd';by_cases b:m=0
 ·rw[gT b,b];simp
 ·rw[gR b,decide_eq_true_eq];exact aeJ ω
def vz{c d:Cg}(hd:WfC d)(a:c.em=false)(b:d.em=false):rE c d=true↔d.m∣c.m∧d.m∣c.r-d.r:=by
 unfold rE;rw[gR (by simp[a]),gR (by simp[b]),zm,aaG _ _ hd.pos,aaG _ _ hd.pos]
def adp{c:Cg}(hc:WfC c):rE c c=true:=by
 cases e:c.em with
 | true=>unfold rE;rw[gT e]
 | false=>exact(vz hc e e).2 ⟨i7 _,ψ⟩
def ai8{c d:Cg}(h:cc c=cc d):c.em=d.em∧(c.em=false→c=d):=by
 unfold cc at h;cases b:c.em with
 | true=>cases a:d.em with
  | true=>exact⟨rfl,nofun⟩
  | false=>rw[gT b,gR (by simp[a])]at h;have:=congrArg Prod.fst h;simp at this
 | false=>cases a:d.em with
  | true=>rw[gR (by simp[b]),gT a]at h;have:=congrArg Prod.fst h;simp at this
  | false =>
   rw[gR (by simp[b]),gR (by simp[a])]at h;simp only[Prod.mk.injEq]at h;refine⟨rfl,fun _=>?_⟩;have e:=pR (yP h.2.1);have f:=pR (yP h.2.2.1);cases c;cases d;simp_all
noncomputable def metC (c d:Cg):Cg :=
 if c.em=true then Ec else if d.em=true then Ec
 else if c.m=0 then(if inC d c.r=true then c else Ec)
 else if d.m=0 then(if inC c d.r=true then d else Ec)
 else if dvd' (z8 c.m d.m) (d.r-c.r)=true then clsF (c.m / (z8 c.m d.m:Int)*d.m) (Classical.epsilon fun z=>c.m∣z-c.r∧d.m∣z-d.r)else Ec
def Cg.eta{c:Cg}(h:c.em=false):c=⟨false,c.m,c.r⟩:=by cases c;simp_all
def abI{L u v:Int}(h:0 < L)(d:L∣u-v):clsF L u=clsF L v:=by
 have e:(L.natAbs:Int)=L:=ω;unfold clsF;rw[gR (show L≠0 from ω),gR (show L≠0 from ω),e,afC h d]
def abJ{c:Cg}(hc:WfC c)(he:c.em=false){v:Int}(h:c.m≠0)(d:c.m∣v-c.r):clsF c.m v=c:=by
 have p:0 < c.m:=by have:=hc.pos;omega
 obtain⟨r0,r1⟩:=hc.rng h;rw[abI p d,zk hc.pos hc.m hc.r,gR h,sB _ hc.pos,p9 r0 r1];exact(Cg.eta he).symm
def ad8{c d:Cg}(ec:c.em=false)(ed:d.em=false)(e:0 < c.m)(f:0 < d.m){v:Int}(a:c.m∣v-c.r)(b:d.m∣v-d.r):metC c d=clsF (c.m / (z8 c.m d.m:Int)*d.m) v:=by
 have g:dvd' (z8 c.m d.m) (d.r-c.r)=true:=by
  refine(aaG _ _ (gM _)).2 ?_;have:=om (lA (qa c.m d.m) a) (lA (oo c.m d.m) b)
  rwa [show v-c.r-(v-d.r)=d.r-c.r by omega]at this
 unfold metC;rw[gR (by simp[ec]),gR (by simp[ed]),gR ω,gR ω,gT g];obtain⟨h,i⟩:=Classical.epsilon_spec (p:=fun z=>c.m∣z-c.r∧d.m∣z-d.r) ⟨v,a,b⟩;refine abI (lcm_pos e f) (lcm_dvd e f ?_ ?_)
 ·have:=om h a
  rwa [show ∀ x:Int,x-c.r-(v-c.r)=x-v from fun x=>ω]at this
 ·have:=om i b
  rwa [show ∀ x:Int,x-d.r-(v-d.r)=x-v from fun x=>ω]at this
def abf{a b:Int}(hb:0 < b)(h:b∣a):(z8 a b:Int)=b:=by
 have:z8 a b=b.natAbs:=by
  have:=Int.gcd_eq_right_iff_dvd (zR hb) (a:=a)
  first
   | exact Int.ofNat.inj (by have:=this.2 h;rw[←jz (zR hb)]at this;exact this)
   | omega
 omega
section
variable {c d:Cg}(hc:WfC c)(hd:WfC d)(ec:c.em=false)(ed:d.em=false)
include hc hd ec ed
theorem aau(h:rE c d=true):metC c d=c:=by
 obtain⟨a,b⟩:=(vz hd ec ed).1 h;by_cases z:c.m=0
 ·unfold metC;rw[gR (by simp[ec]),gR (by simp[ed]),gT z,gT ((wV ed hd.pos).2 b)]
 ·have g:0 < c.m:=by have:=hc.pos;omega
  have f:0 < d.m:=by
   have:=hd.pos;by_cases e:d.m=0
   ·rw[e]at a;have:=i8.1 a;omega
   ·omega
  rw[ad8 ec ed g f (v:=c.r) ψ b,abf f a,Int.ediv_mul_cancel a];exact abJ hc ec z ψ
theorem adx(h:rE d c=true):metC c d=d:=by
 obtain⟨a,b⟩:=(vz hc ed ec).1 h;by_cases z:c.m=0
 ·rw[z]at a b;have j:d.m=0:=i8.1 a;have k:d.r=c.r:=by have:=i8.1 b;omega
  have e:c=d:=by rw[Cg.eta ec,Cg.eta ed,z,j,k]
  subst e;exact aau hc hd ec ed (adp hc)
 ·by_cases i:d.m=0
  ·unfold metC;rw[gR (by simp[ec]),gR (by simp[ed]),gR z,gT i,gT ((wV ec hc.pos).2 b)]
  ·have f:0 < c.m:=by have:=hc.pos;omega
   have l:0 < d.m:=by have:=hd.pos;omega
   have g:(z8 c.m d.m:Int)=c.m:=by rw[Int.gcd_comm];exact abf f a
   rw[ad8 ec ed f l (v:=d.r) b ψ,g,Int.ediv_self ω,pZ];exact abJ hd ed i ψ
theorem agO(b:¬rE c d=true)(e:¬rE d c=true)(h:c.m=0∨d.m=0∨dvd' (z8 c.m d.m) (d.r-c.r)=false):metC c d=Ec:=by
 unfold metC;rw[gR (by simp[ec]),gR (by simp[ed])];by_cases z:c.m=0
 ·rw[gT z,gR];intro x;exact b ((vz hd ec ed).2 ⟨by rw[z];exact Int.dvd_zero _,(wV ed hd.pos).1 x⟩)
 ·rw[gR z];by_cases a:d.m=0
  ·rw[gT a,gR];intro x;exact e ((vz hc ed ec).2 ⟨by rw[a];exact Int.dvd_zero _,(wV ec hc.pos).1 x⟩)
  ·rw[gR a];rcases h with h | h | h
   ·exact absurd h z
   ·exact absurd h a
   ·rw[h,gR ψ]
end
def acE{c d:Cg}(hc:WfC c)(hd:WfC d):WfC (metC c d):=by
 unfold metC;split;exact rQ;split;exact rQ;split
 ·split;exact hc;exact rQ
 ·split
  ·split;exact hd;exact rQ
  ·split;exact vJ;exact rQ
def szKK{z:Int}(h: -K < z∧z < K):sz z≤20000:=by have:=szK h;omega
def ahe{a b g Q X:Int}(f:g∣a)(j:g*Q=b)(h:b∣X*a-g):b∣X.fmod Q*a-g:=by
 have l:=wh X Q;obtain⟨k,i⟩:=f;have e:X.fmod Q*a-g=(X*a-g)-b*(X.fdiv Q*k):=by
  have c:X.fmod Q=X-Q*X.fdiv Q:=ω;have d:b*(X.fdiv Q*k)=Q*X.fdiv Q*a:=by
   rw[←j];generalize X.fdiv Q=w at *
   rw[i];grind
  rw[c,d,oc];omega
 rw[e];exact om h (gL _ _)
def aeV{a b A B:Int}(ha: -A≤a∧a≤A)(hb: -B≤b∧b≤B): -(A*B)≤a*b∧a*b≤A*B:=by
 have c:=yf (show 0≤A-a from ω) (show 0≤B+b from ω);have d:=yf (show 0≤A+a from ω) (show 0≤B-b from ω);have h3:=yf (show 0≤A-a from ω) (show 0≤B-b from ω);have e:=yf (show 0≤A+a from ω) (show 0≤B+b from ω);rw[oc,vL,vL]at c;rw[m6,uC,uC]at d;rw[oc,uC,uC]at h3;rw[m6,vL,vL]at e;omega
set_option exponentiation.threshold 5000 in
def C4_K:C*(C+C)*C+C+10 < K∧C*(C+C)+10 < K:=by unfold C K;decide
def xH{a b:Int}(ha:0 < a):(z8 a b:Int)*b.fdiv (z8 a b:Int)=b∧b.fdiv (z8 a b:Int)=b / (z8 a b:Int)∧0 < (z8 a b:Int):=by
 have c:0 < (z8 a b:Int):=by
  have:=lz b (show a≠0 from ω);omega
 have e:b.fdiv (z8 a b:Int)=b / (z8 a b:Int):=px _ (zR c);exact⟨by rw[e];exact gN (oo _ _),e,c⟩
section
variable (lf:Nat)(hb:Big lf){a b:Int}(ha:0 < a∧a < C)(hbb:0 < b∧b < C)
include hb ha hbb
theorem ahX(H I:ByteArray):∀ (k n:Nat) (r s x z:Int),s≤k→k < n→r < C→s < C→Bz a b r s x z→
  ∃ X:Int,cZ.l0 lf H I n (bs (z7 r)) (bs (z7 s)) (bs (z7 x)) (bs (z7 z))=some ((bs (z7 (z8 r s)),bs (z7 X),()),())∧
   b∣X*a-(z8 r s:Int)∧-b≤X∧X≤b:=by
 have h3:200000≤lf:=by have:=hb.1;omega
 have w:=fO;have v:=CC_K;have L:=C_gt;have J:0≤C*C:=yf ω ω;intro k
 induction k with
 | zero =>
  intro n r s x z A B D c h;obtain⟨m,rfl⟩:=zv (show n≠0 from ω);have s0:=h.s0;have r0:=h.r0;obtain rfl:s=0:=ω;have g:(z8 r 0:Int)=r:=by rw[ri];omega
  rw[g];refine⟨x,?_,h.xr,h.xb⟩;rw[cZ.l0,cZ.r0,beq0,gP rfl,ze,fe]
 | succ k E =>
  intro n r s x z A B D c h;obtain⟨m,rfl⟩:=zv (show n≠0 from ω);have s0:=h.s0;have r0:=h.r0;have b0:=h.b0;by_cases hs:s=0
  ·subst hs;have g:(z8 r 0:Int)=r:=by rw[ri];omega
   rw[g];refine⟨x,?_,h.xr,h.xb⟩;rw[cZ.l0,cZ.r0,beq0,gP rfl,ze,fe]
  ·have sp:0 < s:=ω;have j:=wh r s;have i:=xd r sp;have t:=yW r sp;have l:0≤r.fdiv s:=by rw[px _ s0];exact vR (zR r0) s0
   have d:=h.next sp j.symm i l
   have zb:=h.zb;have xb:=h.xb;have M:=d.zb;have F:=d.xb;have N:r.fdiv s≤r:=by rw[px _ s0];exact p8 s (zR r0)
   have P:s*r.fdiv s≤r:=ω;have O: -(C*C) < r.fdiv s*z∧r.fdiv s*z < C*C:=rJ ω ω;have u:(z8 s (r.fmod s))=z8 r s:=vw j.symm sp i t ω;have o: -K < s∧s < K:=ω;obtain⟨X,e,f,q⟩:=E m s (r.fmod s) z (x-r.fdiv s*z) ω ω c ω d;rw[u]at e f;refine⟨X,?_,f,q⟩;have G: -K < r.fdiv s*s∧r.fdiv s*s < K:=by rw[wk];have:=yf s0 l;omega
   have p:r-r.fdiv s*s=r.fmod s:=by rw[wk];omega
   rw[cZ.l0,cZ.r0,beq0,gO hs,zj,ff,pV lf h3 (x:=r) (y:=s) (by have:=szKK (z:=r) ω;omega) (by have:=szKK o;omega) hs,fa];simp only[pU lf h3 (x:=r.fdiv s) (y:=s) ω o,fa,diffI lf h3 (x:=r) (y:=r.fdiv s*s) ω G,p,pU lf h3 (x:=r.fdiv s) (y:=z) ω ω,diffI lf h3 (x:=x) (y:=r.fdiv s*z) ω ω];exact e
theorem aja:∃ (U:Int) (t:ByteArray),cZ.f lf (bs (z7 a)) (bs (z7 b))=some (bs (z7 U),t,())∧0≤U∧U < C∧b∣U*a-(z8 a b:Int):=by
 have h3:200000≤lf:=by have:=hb.1;omega
 have k:=fO;have j:=CC_K;have r:=C_gt;have q:0≤C*C:=yf ω ω;have e:=xd a hbb.1;have g:=yW a hbb.1;have B0:Bz a b b (a.fmod b) 0 1:=by
  refine⟨hbb.1,hbb.1,e,?_,?_,.inl ⟨ω,ω,ω⟩,ω⟩
  ·rw[mU,mT];exact i6.2 (i7 _)
  ·rw[pZ];exact abe hbb.1 a
 obtain⟨X,c,d,o⟩:=ahX lf hb ha hbb (bs (z7 a)) (bs (z7 b)) (lf+39) (lf+40) b (a.fmod b) 0 1 (by have:=hb.2;omega) ω hbb.2 ω B0;have i:(z8 b (a.fmod b))=z8 a b:=vw (wh a b).symm hbb.1 e g ω;rw[i]at c d;obtain⟨m,s,h⟩:=xH (b:=b) ha.1;have Qp:0 < b.fdiv (z8 a b:Int):=by
  by_cases z:0 < b.fdiv (z8 a b:Int)
  ·exact z
  ·have:=yf (zR h) (show 0≤-b.fdiv (z8 a b:Int) by omega);rw[sY]at this;omega
 have n:b.fdiv (z8 a b:Int)≤b:=by
  have:=wA (show 1≤(z8 a b:Int) by omega) (zR Qp);omega
 have p:(z8 a b:Int)≤b:=Int.le_of_dvd hbb.1 (oo _ _);have u0:=xd X Qp;have u1:=yW X Qp;have pr:=rJ (a:=a) (b:=X.fmod (b.fdiv (z8 a b:Int))) ω ω;have i1:(⟨#[49]⟩:ByteArray)=bs (z7 1):=i1;have i0:(⟨#[48]⟩:ByteArray)=bs (z7 0):=i0;have l:((b.natAbs:Nat):Int)=b:=ω;refine⟨X.fmod (b.fdiv (z8 a b:Int)),?_⟩;rw[cZ.f,beq0,gO (show ¬b=0 from ω),fe,rq,fa];simp only[l,rq,fa,uO lf h3 (x:=a) (y:=b) (szKK ω) (szKK ω) ω,i0,i1,c,pV lf h3 (x:=b) (y:=(z8 a b:Int)) (by have:=szKK (z:=b) ω;omega) (by have:=szKK (z:=(z8 a b:Int)) ω;omega) ω,
  uO lf h3 (x:=X) (y:=b.fdiv (z8 a b:Int)) (szKK ω) (szKK ω) ω,pU lf h3 (x:=a) (y:=X.fmod (b.fdiv (z8 a b:Int))) ω ω,diffI lf h3 (x:=(z8 a b:Int)) (y:=a*X.fmod (b.fdiv (z8 a b:Int))) ω ω,
  pV lf h3 (x:=(z8 a b:Int)-a*X.fmod (b.fdiv (z8 a b:Int))) (y:=b) (by have:=szKK (z:=(z8 a b:Int)-a*X.fmod (b.fdiv (z8 a b:Int))) ω;omega) (by have:=szKK (z:=b) ω;omega) ω]
 exact⟨_,rfl,u0,ω,ahe (qa _ _) m d⟩
end
section
variable (lf:Nat)(hb:Big lf){c d:Cg}(hc:WfC c)(hd:WfC d)
include hb hc hd
theorem adw(ec:c.em=false)(ed:d.em=false)(a:0 < c.m)(f:0 < d.m)(dv:dvd' (z8 c.m d.m) (d.r-c.r)=true){U:Int}(h:d.m∣U*c.m-(z8 c.m d.m:Int)):
  metC c d=clsF (c.m / (z8 c.m d.m:Int)*d.m) (c.r+U*(d.r-c.r).fdiv (z8 c.m d.m:Int)*c.m):=by
 obtain⟨_,_,e⟩:=xH (b:=d.m) a;have g:=(aaG _ _ (gM _)).1 dv;have q:(d.r-c.r)=(z8 c.m d.m:Int)*(d.r-c.r).fdiv (z8 c.m d.m:Int):=by
  rw[px _ (zR e)];exact(gN g).symm
 refine ad8 ec ed a f ?_ (crt e a f (qa _ _) (oo _ _) h q);rw[show ∀ t:Int,c.r+t-c.r=t from fun t=>ω];exact jx _ _
theorem abU{U:Int}(u0:0≤U)(u1:U < C)(h:0 < c.m)(s:0 < d.m):
  (-K < (d.r-c.r).fdiv (z8 c.m d.m:Int)∧(d.r-c.r).fdiv (z8 c.m d.m:Int) < K)∧(-K < U*(d.r-c.r).fdiv (z8 c.m d.m:Int)∧U*(d.r-c.r).fdiv (z8 c.m d.m:Int) < K)∧
  (-K < U*(d.r-c.r).fdiv (z8 c.m d.m:Int)*c.m∧U*(d.r-c.r).fdiv (z8 c.m d.m:Int)*c.m < K)∧(-K < c.r+U*(d.r-c.r).fdiv (z8 c.m d.m:Int)*c.m∧c.r+U*(d.r-c.r).fdiv (z8 c.m d.m:Int)*c.m < K):=by
 obtain⟨o,p⟩:=C4_K;have n:=C_gt;have g:=fO;have f:=CC_K;have l:0≤C*C:=yf ω ω;obtain⟨_,_,k⟩:=xH (b:=d.m) h;have r1:=hc.r;have r2:=hd.r;have q:=hc.m;have i:=uG (x:=d.r-c.r) (y:=(z8 c.m d.m:Int)) ω;have e:=aeV (a:=U) (b:=(d.r-c.r).fdiv (z8 c.m d.m:Int)) (A:=C) (B:=C+C) ω ω;have j:=aeV (b:=c.m) (B:=C) e ω;refine⟨?_,?_,?_,?_⟩<;>omega
theorem ajs:pO.f lf (cc c) (cc d)=some (cc (metC c d),0,()):=by
 obtain⟨h,l,i,u,G,H,I,J,L,t⟩:=bounds lf hb hc hd;have hlf:=hb.1;rw[pO.f,cboth lf hb hc hd,fa];cases ec:c.em with
 | true =>
  have:metC c d=Ec:=by unfold metC;rw[gT ec]
  rw[this,mJ ec];simp only[bne_self_eq_false,fe,ff,aT.f,fa];rfl
 | false=>cases ed:d.em with
  | true =>
   have:metC c d=Ec:=by unfold metC;rw[gR (by simp[ec]),gT ed]
   rw[this,dL ec,mJ ed];simp only[bne_self_eq_false,fe,ff,aT.f,fa];rfl
  | false =>
   have v:(cc c).1=false:=by rw[dL ec]
   have w:(cc d).1=false:=by rw[dL ed]
   simp only[bne_self_eq_false,fe,v,w];rw[ru.f,ado lf hb hc hd,fa];cases i1:rE c d with
   | true=>simp only[ff,fa];rw[aau hc hd ec ed i1]
   | false =>
    simp only[fe,ado lf hb hd hc,fa];cases o:rE d c with
    | true=>simp only[ff,fa];rw[adx hc hd ec ed o]
    | false =>
     have A:(cc d).2.1=bs (z7 d.m):=by rw[dL ed]
     have B:(cc d).2.2.1=bs (z7 d.r):=by rw[dL ed]
     have C:(cc c).2.1=bs (z7 c.m):=by rw[dL ec]
     have D:(cc c).2.2.1=bs (z7 c.r):=by rw[dL ec]
     have r1:=hc.r;have r2:=hd.r;have O:=C_gt;have z:=fO;have a: -K < d.r-c.r∧d.r-c.r < K:=ω;have n:=agO hc hd ec ed (by simp[i1]) (by simp[o]);simp only[fe,A,B,C,D,yQ lf hb h i,aa4 lf hb u l a,fa,beq0,aT.f];by_cases j:c.m=0
     ·rw[n (.inl j),gP j,ff,fa];rfl
     ·rw[gO j,fe];by_cases k:d.m=0
      ·rw[n (.inr (.inl k)),gP k,ff,fa];rfl
      ·rw[gO k,fe,wE lf hlf (qU h i) a,fa];simp only;cases dv:dvd' (z8 c.m d.m) (d.r-c.r)with
       | false=>rw[n (.inr (.inr dv))];simp only[zj,ff,fa];rfl
       | true =>
        have e:0 < c.m:=by have:=hc.pos;omega
        have g:0 < d.m:=by have:=hd.pos;omega
        obtain⟨_,_,M⟩:=xH (b:=d.m) e;obtain⟨t1,t3,U,u1,u2,u3,u4⟩:=af4 lf hb ⟨e,hc.m.2⟩ ⟨g,hd.m.2⟩;obtain⟨F,p,q,s⟩:=abU lf hb hc hd u2 u3 e g;have E: -K < c.m / (z8 c.m d.m:Int)*d.m∧c.m / (z8 c.m d.m:Int)*d.m < K:=by
         have N:=lcm_pos e g;have x:=p8 (z8 c.m d.m:Int) (zR e);have:=wA x (zR g);omega
        simp only[ze,fe,u1,fa,uf lf hlf a (qU h i) ω,iL.f,aad lf hb (x:=U) (y:=(d.r-c.r).fdiv (z8 c.m d.m:Int)) ω F p,aj7 lf hb ⟨e,hc.m.2⟩ ⟨g,hd.m.2⟩,
         aad lf hb p h q,af7 lf hb l q s,wP lf hlf E s]
        rw[adw lf hb hc hd ec ed e g dv u4]
theorem aj9:nP.f lf (cc c) (cc d)=some (cc (metC c d),()):=by
 obtain⟨h,o,j,v,O,P,Q,R,S,u⟩:=bounds lf hb hc hd;have hlf:=hb.1;have h3:200000≤lf:=ω;have r1:=hc.r;have r2:=hd.r;have T:=C_gt;have D:=fO;have C:=kJ;rw[nP.f];cases ec:c.em with
 | true =>
  have:metC c d=Ec:=by unfold metC;rw[gT ec]
  rw[this,mJ ec];simp only[ff,aH.f,fa];rfl
 | false=>cases ed:d.em with
  | true =>
   have:metC c d=Ec:=by unfold metC;rw[gR (by simp[ec]),gT ed]
   rw[this,dL ec,mJ ed];simp only[fe,ff,aH.f,fa];rfl
  | false =>
   have w:(cc c).1=false:=by rw[dL ec]
   have z:(cc d).1=false:=by rw[dL ed]
   have E:(cc d).2.1=bs (z7 d.m):=by rw[dL ed]
   have F:(cc d).2.2.1=bs (z7 d.r):=by rw[dL ed]
   have G:(cc c).2.1=bs (z7 c.m):=by rw[dL ec]
   have H:(cc c).2.2.1=bs (z7 c.r):=by rw[dL ec]
   have i: -K < d.r-c.r∧d.r-c.r < K:=ω;simp only[fe,w,z,E,F,G,H,beq0,aH.f,fa,in_r lf hb hd (a:=c.r) ω,in_r lf hb hc (a:=d.r) ω];have M:metC c d=if c.m=0 then(if inC d c.r=true then c else Ec)else if d.m=0 then(if inC c d.r=true then d else Ec)else if dvd' (z8 c.m d.m) (d.r-c.r)=true then metC c d else Ec:=by
    unfold metC;rw[gR (by simp[ec]),gR (by simp[ed])];split
    ·rfl
    ·split
     ·rfl
     ·split<;>rfl
   by_cases l:c.m=0
   ·rw[gT l]at M;rw[M,gP l,ff,ze,fe];cases inC d c.r<;>simp only[ff,fe,if_true,if_false,zg]<;>rfl
   ·rw[gR l]at M;rw[gO l,fe];by_cases n:d.m=0
    ·rw[gT n]at M;rw[M,gP n,ff,zj,ff];cases inC c d.r<;>simp only[ff,fe,if_true,if_false,zg]<;>rfl
    ·rw[gR n]at M;rw[gO n,fe,rF lf hb h j,fa,diffI lf h3 v o,fa];simp only;rw[vM lf h3 (szKK (qU h j)) (szKK i),fa];simp only;cases dv:dvd' (z8 c.m d.m) (d.r-c.r)with
     | false=>rw[dv,gR ψ]at M;rw[M];simp only[zj,ff];rfl
     | true =>
      have g:0 < c.m:=by have:=hc.pos;omega
      have e:0 < d.m:=by have:=hd.pos;omega
      obtain⟨V,k,A⟩:=xH (b:=d.m) g;obtain⟨U,t,u1,u2,u3,u4⟩:=aja lf hb ⟨g,hc.m.2⟩ ⟨e,hd.m.2⟩;obtain⟨L,N,q,s⟩:=abU lf hb hc hd u2 u3 g e;have I: -K < c.m*d.m.fdiv (z8 c.m d.m:Int)∧c.m*d.m.fdiv (z8 c.m d.m:Int) < K:=by
       have B:=lcm_pos g e;rw[aeR g e,←k]at B;have x:=p8 (z8 c.m d.m:Int) (zR e);rw[←k]at x;have:=xF x (zR g);omega
      have J: -K < d.m.fdiv (z8 c.m d.m:Int)∧d.m.fdiv (z8 c.m d.m:Int) < K:=by
       have x:=p8 (z8 c.m d.m:Int) (zR e);have y:=vR (zR e) (zR A);rw[←k]at x y;omega
      have p:=qU h j;rw[wk (U*(d.r-c.r).fdiv (z8 c.m d.m:Int)) c.m]at q s;simp only[ze,fe,u1,fa,pV lf h3 (x:=d.r-c.r) (y:=(z8 c.m d.m:Int)) (by have:=szKK i;omega) (by have:=szKK p;omega) ω,pU lf h3 (x:=U) (y:=(d.r-c.r).fdiv (z8 c.m d.m:Int)) ω L,
       pV lf h3 (x:=d.m) (y:=(z8 c.m d.m:Int)) (by have:=szKK j;omega) (by have:=szKK p;omega) ω,pU lf h3 (x:=c.m) (y:=d.m.fdiv (z8 c.m d.m:Int)) h J,pU lf h3 (x:=c.m) h N,sumI lf h3 (x:=c.r) o q,pW lf h3 I s]
      rw[adw lf hb hc hd ec ed g e dv u4,aeR g e,←k,wk c.m (U*_)]
end
def clipV(lf:Nat){o:Option Int}(h:okb K o):dQ.f lf (ob o)=some (ob (o.bind clip),()):=by
 rw[dQ.f];cases o with
 | none=>rw[show ob none=bs [] from rfl,qQ,fa,jI,show body []=[] from rfl,gO ψ,fe];rfl
 | some z =>
  have a:=qO h;rw[show ob (some z)=bs (z7 z) from rfl,qQ,fa,jI];have e:(((body (z7 z)).length:Nat):Int)=(sz z:Int):=rfl;simp only[e,ot];by_cases c: -C < z∧z < C
  ·have:=(sz_C z).2 c;rw[gO ω,fe,uX c];rfl
  ·have:¬sz z≤100:=fun x=>c ((sz_C z).1 x);rw[gP ω,ff,abH c];rfl
set_option exponentiation.threshold 5000 in
def aiI:C+C < Dd:=by
 have e:(10 ^ 100+10 ^ 100:Nat) < 10 ^ 1000:=by
  have:(10:Nat) ^ 1000=10 ^ 100*10 ^ 900:=by rw[←jt]
  rw[this];have:(2:Nat) < 10 ^ 900:=Nat.lt_of_lt_of_le (show(2:Nat) < 10 ^ 1 by decide) (q6 δ δ);have h:=Nat.mul_lt_mul_of_pos_left this (show 0 < 10 ^ 100 by exact Nat.pow_pos δ);omega
 unfold C Dd;exact mN.2 e
def evV:((((true,(⟨#[]⟩:ByteArray),(⟨#[]⟩:ByteArray),()),(true,(⟨#[]⟩:ByteArray),(⟨#[]⟩:ByteArray),()),()):VV))=vc Ev:=rfl
def onV(z:Int):(((false,bs (z7 z),bs (z7 z),()),(false,(⟨#[48]⟩:ByteArray),bs (z7 z),()),()):VV)=vc (onev z):=by
 rw[i0];unfold vc onev;rw[dL rfl];rfl
def abY(x:Int):((bs (z7 x)).toList==(⟨#[]⟩:ByteArray).toList)=false:=by
 have:=jd (some x);rw[show ob (some x)=bs (z7 x) from rfl]at this;rw[this];exact gO nofun
def ob_e:((ob none).toList==(⟨#[]⟩:ByteArray).toList)=true:=by rw[jd];rfl
def aiu(x y:Int):decide (sgn (x-y) > 0)=decide (y < x):=aeg x y
def akl(x y:Int):(sgn (x-y)==0)=decide (x=y):=by
 rw[Bool.eq_iff_iff,beq_iff_eq,decide_eq_true_eq];unfold sgn;(repeat' split)<;>omega
section
variable (lf:Nat)(hb:Big lf){a:A}{c:Cg}(ha:Wf a)(hc:WfC c)
include hb ha hc
theorem lo_K{l:Int}(h: -C < l∧l < C)(p:0 < c.m): -K < loC c l∧loC c l < K∧-Dd < loC c l∧loC c l < Dd:=by
 have:=lo_m p l;have:=hc.m;have:=C_gt;have:=CC_K;have f:=DD_K;have a:=kJ;have b:C*2≤C*C:=xF ω ω;have d:=aiI;have e:=Dd_K;omega
theorem hi_K{l:Int}(h: -C < l∧l < C)(p:0 < c.m): -K < hiC c l∧hiC c l < K∧-Dd < hiC c l∧hiC c l < Dd:=by
 have:=hi_m p l;have:=hc.m;have:=C_gt;have a:=aiI;have b:=Dd_K;omega
theorem aao:dU.f lf (ac a) (cc c)=some (vc (red a c),()):=by
 have hlf:=hb.1;have h3:200000≤lf:=ω;have E:=kJ;rw[dU.f];simp only[show(ac a).1=a.em from rfl,show(ac a).2.1=ob a.lo from rfl,show(ac a).2.2.1=ob a.hi from rfl,kH.f,fa,evV,oN.f];unfold red;cases G:a.em with
 | true=>simp only[ff,if_true]
 | false =>
  cases ec:c.em with
  | true=>rw[mJ ec];simp only[ff,fe,if_true,if_false,zg]
  | false =>
   have A:(cc c).1=false:=by rw[dL ec]
   have B:(cc c).2.1=bs (z7 c.m):=by rw[dL ec]
   have D:(cc c).2.2.1=bs (z7 c.r):=by rw[dL ec]
   simp only[fe,if_false,zg,A,B,D,beq0];by_cases m:c.m=0
   ·rw[gP m,ff,gT m,agz lf h3 ha (CK hc.r),fa];simp only;cases hi:inS (ofA a) c.r with
    | true=>simp only[ze,fe,if_true,onV]
    | false=>simp only[zj,ff,if_false,zg]
   ·have p:0 < c.m:=by have:=hc.pos;omega
    rw[gO m,fe,gR m];have s:=ha.lo;have e:=ha.hi;have L:=fun {l:Int} (h: -C < l∧l < C)=>ah8 lf hb hc ec (a:=l) ω;have t:=fun {l:Int} (h: -C < l∧l < C)=>ad3 lf hb hc ec (a:=l) ω;have z:∀ l,aboveC c l=some (loC c l):=fun l=>gR m;have v:∀ l,belowC c l=some (hiC c l):=fun l=>gR m;have k:=clipV lf (o:=none) trivial;cases F:a.lo with
    | none=>cases q:a.hi with
     | none=>simp only[ob_e,ze,fe,k,fa,xf,fin3];rfl
     | some u =>
      rw[q]at e;have g:=t e;rw[v]at g;have d:=hi_K lf hb ha hc e p;have n:=clipV lf (o:=some (hiC c u)) ⟨d.1,d.2.1⟩;simp only[show ob (some u)=bs (z7 u) from rfl,show ob (some (hiC c u))=bs (z7 (hiC c u)) from rfl]at *
      simp only[ob_e,abY,ze,zj,fe,ff,g,k,n,fa,xf,fin3];rfl
    | some l =>
     rw[F]at s;have g:=L s;rw[z]at g;have d:=lo_K lf hb ha hc s p;have w:=clipV lf (o:=some (loC c l)) ⟨d.1,d.2.1⟩;cases q:a.hi with
     | none =>
      simp only[show ob (some l)=bs (z7 l) from rfl,show ob (some (loC c l))=bs (z7 (loC c l)) from rfl]at *
      simp only[ob_e,abY,ze,zj,fe,ff,g,k,w,fa,xf,fin3];rfl
     | some u =>
      rw[q]at e;have y:=t e;rw[v]at y;have b:=hi_K lf hb ha hc e p;have n:=clipV lf (o:=some (hiC c u)) ⟨b.1,b.2.1⟩;have x:=aae lf _ _ (chkK ⟨d.1,d.2.1⟩) (chkK ⟨b.1,b.2.1⟩) h3;rw[dR,dR]at x;simp only[show ob (some l)=bs (z7 l) from rfl,show ob (some (loC c l))=bs (z7 (loC c l)) from rfl,show ob (some u)=bs (z7 u) from rfl,show ob (some (hiC c u))=bs (z7 (hiC c u)) from rfl]at *
      simp only[ob_e,abY,ze,zj,fe,ff,g,y,x,fa,aiu,akl,xf,fin3];by_cases i:hiC c u < loC c l
      ·rw[gP i,ff,gT i]
      ·rw[gO i,fe,gR i];by_cases j:loC c l=hiC c u
       ·rw[gP j,ff,gT j,onV]
       ·rw[gO j,fe,gR j,w,fa,n,fa];rfl
theorem aal:bV.f lf (ac a) (cc c)=some (vc (red a c),()):=by
 have hlf:=hb.1;have h3:200000≤lf:=ω;have G:=kJ;rw[bV.f];simp only[show(ac a).1=a.em from rfl,show(ac a).2.1=ob a.lo from rfl,show(ac a).2.2.1=ob a.hi from rfl,gq.f,aX.f,aH.f,fa,evV];unfold red;cases J:a.em with
 | true=>simp only[ff,if_true]
 | false =>
  cases ec:c.em with
  | true=>rw[mJ ec];simp only[ff,fe,if_true,if_false,zg]
  | false =>
   have D:(cc c).1=false:=by rw[dL ec]
   have E:(cc c).2.1=bs (z7 c.m):=by rw[dL ec]
   have F:(cc c).2.2.1=bs (z7 c.r):=by rw[dL ec]
   simp only[fe,if_false,zg,D,E,F,beq0];by_cases m:c.m=0
   ·rw[gP m,ff,gT m,ajq lf h3 ha (CK hc.r),fa];simp only;cases hi:inS (ofA a) c.r with
    | true =>
     simp only[ze,fe,if_true,←onV];rw[dL ec,m,i0]
    | false=>simp only[zj,ff,if_false,zg]
   ·have p:0 < c.m:=by have:=hc.pos;omega
    rw[gO m,fe,gR m];have q:=ha.lo;have j:=ha.hi;have L:=fun {l:Int} (h: -C < l∧l < C)=>aeo lf hb hc ec (a:=l) ω;have v:=fun {l:Int} (h: -C < l∧l < C)=>ahU lf hb hc ec (a:=l) ω;have B:∀ l,aboveC c l=some (loC c l):=fun l=>gR m;have w:∀ l,belowC c l=some (hiC c l):=fun l=>gR m;have i:∀ x y:Option Int,okb K x→okb K y→gt? x y=false→toA ⟨lox x,hix y⟩=⟨false,x.bind clip,y.bind clip⟩:=by
     intro x y hx hy h;unfold toA;rw[agm hx hy,h,gR ψ,acY,acX]
    cases I:a.lo with
    | none=>cases t:a.hi with
     | none =>
      simp only[ob_e,ze,fe,nK lf h3 none none trivial trivial,i none none trivial trivial rfl,fa,xf,fin3];rfl
     | some u =>
      rw[t]at j;have g:=v j;rw[w]at g;have b:=hi_K lf hb ha hc j p;have k:=nK lf h3 none (some (hiC c u)) trivial ⟨b.1,b.2.1⟩;rw[i none (some (hiC c u)) trivial ⟨b.1,b.2.1⟩ rfl]at k;simp only[show ob (some u)=bs (z7 u) from rfl,show ob (some (hiC c u))=bs (z7 (hiC c u)) from rfl]at *
      simp only[ob_e,abY,ze,zj,fe,ff,g,k,fa,xf,fin3];rfl
    | some l =>
     rw[I]at q;have g:=L q;rw[B]at g;have b:=lo_K lf hb ha hc q p;cases t:a.hi with
     | none =>
      have k:=nK lf h3 (some (loC c l)) none ⟨b.1,b.2.1⟩ trivial;rw[i (some (loC c l)) none ⟨b.1,b.2.1⟩ trivial rfl]at k;simp only[show ob (some l)=bs (z7 l) from rfl,show ob (some (loC c l))=bs (z7 (loC c l)) from rfl]at *
      simp only[ob_e,abY,ze,zj,fe,ff,g,k,fa,xf,fin3];rfl
     | some u =>
      rw[t]at j;have z:=v j;rw[w]at z;have d:=hi_K lf hb ha hc j p;have ls:=lessI lf h3 (x:=hiC c u) (y:=loC c l) ⟨d.1,d.2.1⟩ ⟨b.1,b.2.1⟩;have k:=nK lf h3 (some (loC c l)) (some (hiC c u)) ⟨b.1,b.2.1⟩ ⟨d.1,d.2.1⟩;have T:=i (some (loC c l)) (some (hiC c u)) ⟨b.1,b.2.1⟩ ⟨d.1,d.2.1⟩;simp only[show ob (some l)=bs (z7 l) from rfl,show ob (some (loC c l))=bs (z7 (loC c l)) from rfl,show ob (some u)=bs (z7 u) from rfl,show ob (some (hiC c u))=bs (z7 (hiC c u)) from rfl]at *
      have s:((bs (z7 (loC c l))).toList==(bs (z7 (hiC c u))).toList)=decide (loC c l=hiC c u):=by
       rw[lS];simp only[decide_eq_decide];exact⟨pR,fun e=>by rw[e]⟩
      simp only[ob_e,abY,ze,zj,fe,ff,g,z,ls,fa,s,xf,fin3];by_cases n:hiC c u < loC c l
      ·rw[gP n,ff,gT n]
      ·rw[gO n,fe,gR n];by_cases o:loC c l=hiC c u
       ·have A: -C < loC c l∧loC c l < C:=by
         have:=lo_m p l;have:=hi_m p u;simp only[okb]at q j;omega
        have M:=C_gt;have H:=fO;rw[gP o,ff,gT o,fU.f,iI.f,i0,pW lf h3 (m:=0) ω (CK A),fa,fa];simp only;rw[zk (xp 0) ω A,gT rfl,dL rfl];simp only[←i0,BEq.rfl,ze,fe,fa];rw[onV]
       ·rw[gO o,fe,gR o,k,T (by unfold gt?;simp;omega),fa];rfl
end
def rX{s:Sp}{z:Int}:inS s z=true↔key s.lo≤z∧z≤key s.hi:=by unfold inS;simp
def uI{s:Sp}{z:Int}(h:inS s z=true):emp s=false:=afy h
def yh{s:Sp}{z:Int}(h:inS s z=true):inS (turn s) (-z)=true:=by
 have e:=uI h;rw[rX]at h⊢;unfold turn;rw[gR (by simp[e])];simp only[lV];omega
def adm{s t:Sp}{z:Int}(h:inS s z=true):inS (hull s t) z=true:=by
 have e:=uI h;rw[rX]at h⊢;unfold hull;rw[gR (by simp[e])];split
 ·exact h
 ·simp only[kX,lK];omega
def adn{s t:Sp}{z:Int}(h:inS t z=true):inS (hull s t) z=true:=by
 have e:=uI h;rw[rX]at h⊢;unfold hull;split
 ·exact h
 ·rw[gR (by simp[e])];simp only[kX,lK];omega
def acu{s:Sp}(hs:oks C s){z:Int}(h:inS s z=true)(a:1≤z):inS (posS s) z=true:=by
 have k:=uq hs;rw[rX]at h⊢;omega
section
variable {s t:Sp}(hs:oks C s)(ht:oks C t){x y:Int}(bx: -Dd < x∧x < Dd)(by': -Dd < y∧y < Dd)(hx:inS s x=true)(hy:inS t y=true)
include hs ht bx by' hx hy
theorem agD:inS (addS s t) (x+y)=true:=by
 have l:=DD_K;have j:=C_gt;have k:=kJ;have i:0≤Dd*Dd:=yf ω ω;have a:=uI hx;have b:=uI hy;rw[rX]at hx hy⊢;unfold addS;rw[gR (by simp[a]),gR (by simp[b])];obtain⟨sl,g⟩:=s;obtain⟨tl,h⟩:=t;simp only at hx hy⊢;have d:=hx.1;have c:=hx.2;have f:=hy.1;have e:=hy.2;constructor
 ·cases sl<;>cases tl<;>simp only[xadd,key]at d f⊢<;>omega
 ·cases g<;>cases h<;>simp only[xadd,key]at c e⊢<;>omega
theorem ajp:inS (apS xmul s t) (x*y)=true:=by
 have k:=uI hx;have l:=uI hy;rw[rX]at hx hy⊢;have c:=xE (o:=xmul) k l;obtain⟨⟨d,e,c1,c2,c3⟩,⟨i,j,f,g,h⟩⟩:=corner hs ht (x:=.fin x) (y:=.fin y) ⟨bx,hx⟩ ⟨by',hy⟩;have a:=c.1.2 d e c1 c2;have b:=c.2.2 i j f g;rw[uD,show key (X.fin (x*y))=x*y from rfl]at c3 h;omega
theorem aeP(h:1≤y)(p1:Po t.lo)(p2:Po t.hi):inS (apS xover s t) (x.fdiv y)=true:=by
 have f:=uI hx;have g:=uI hy;rw[rX]at hx hy⊢;have b:=xE (o:=xover) f g;have a:Po (.fin y):=h;have d:okx Dd (.fin y):=by'
 have e:okx Dd (.fin x):=bx;have kx:key (X.fin x)=x:=rfl;have c:key (X.fin y)=y:=rfl;have i:key (xover (.fin x) (.fin y))=x.fdiv y:=rfl;have lo:=aaY hs.1.D e a (by rw[kx];exact hx.1);have hi:=aaY e hs.2.D a (by rw[kx];exact hx.2);rw[i]at lo hi;constructor
 ·by_cases n:key s.lo < 0
  ·have:=ac5 hs.1.D p1 a ht.1.D d (by rw[c];exact hy.1) n;have:=b.1.2 s.lo t.lo (.inl rfl) (.inl rfl);omega
  ·have:=ac6 hs.1.D a p2 d ht.2.D (by rw[c];exact hy.2) ω;have:=b.1.2 s.lo t.hi (.inl rfl) (.inr rfl);omega
 ·by_cases n:key s.hi < 0
  ·have:=ac5 hs.2.D a p2 d ht.2.D (by rw[c];exact hy.2) n;have:=b.2.2 s.hi t.hi (.inr rfl) (.inr rfl);omega
  ·have:=ac6 hs.2.D p1 a ht.1.D d (by rw[c];exact hy.1) ω;have:=b.2.2 s.hi t.lo (.inr rfl) (.inl rfl);omega
theorem agE(d:1≤y):inS (remI s t) (x.fmod y)=true:=by
 have C:=Dd_K;have A:=C_gt;have B:=kJ;have m:=wh x y;have b:=uN x d;have f:0≤x→x.fmod y≤x:=fun k=>by
  have:=acr d k;have:=yf (show 0≤y from ω) this;omega
 have p:=uI hx;have u:=uI hy;rw[rX]at hx hy;rw[rX];unfold remI;split
 ·rename_i sg;obtain⟨tl,i⟩:=t;have j:∃ c,tl=.fin c∧i=.fin c:=by
   cases tl<;>cases i<;>simp[single]at sg;exact⟨_,rfl,by rw[sg]⟩
  obtain⟨c,rfl,rfl⟩:=j;simp only[key]at hy;obtain rfl:y=c:=ω;simp only[valX];have a:key (allS y).lo≤x.fmod y∧x.fmod y≤key (allS y).hi:=by simp only[allS,key];omega
  obtain⟨sl,o⟩:=s;cases sl with
  | ni=>simp only[resS];exact a
  | pi=>simp only[resS];exact a
  | fin l=>cases o with
   | ni=>simp only[resS];exact a
   | pi=>simp only[resS];exact a
   | fin h =>
    simp only[key]at hx;simp only[resS];rw[adE d ω];split
    ·rename_i q;have D:=wh l y;have n:=wh h y;have w:=wF d hx.1;have z:=wF d hx.2;have e:x.fdiv y=l.fdiv y:=ω;rw[e]at m;rw[←q]at n;simp only[key];omega
    ·exact a
 ·split
  ·rename_i c1 c2;have:x.fmod y=x:=by
    have:=(kZ (x:=x) (y:=y) (q:=0) (r:=x) (by rw[uc];omega) (.inl ω)).2;omega
   rw[this];exact hx
  ·rename_i c1 c2;refine⟨b.1,?_⟩;have kx:x.fmod y≤key (xsh t.hi (-1)):=by
    have g:=hy.2;cases e:t.hi with
    | ni=>rw[e]at g;simp only[key]at g;omega
    | pi=>simp only[xsh,key];omega
    | fin v=>rw[e]at g;simp only[xsh,key]at g⊢;omega
   simp only;split
   ·rename_i c3;rw[kX];have:=f ω;omega
   ·exact kx
end
section
variable {s t:Sp}(hs:oks C s)(ht:oks C t)(ps:Pr s)(pt':Pr t){x y:Int}(bx: -Dd < x∧x < Dd)(by': -Dd < y∧y < Dd)(hx:inS s x=true)(hy:inS t y=true)
include hs ht ps pt' bx by' hx hy
theorem ah4(f:y≠0):inS (quoS s t) (x.fdiv y)=true:=by
 have d:=uI hx;unfold quoS;rw[gR (by simp[d])];rcases pP f with z | z
 ·have c:=acu (gI ht) (yh hy) (show 1≤-y from ω);have e:=uI c;obtain⟨l,l1,l2,l3⟩:=qP e (gI ht) pt'.turn;rw[gR (show ¬emp (posS (turn t))=true by simp[e])];apply adn;have:=aeP (gI hs) (fQ (gI ht)) (x:= -x) (y:= -y) ω ω (yh hx) c ω (by rw[l1];exact l2) l3;have q:(-x).fdiv (-y)=x.fdiv y:=by
   have m:=wh x y;have a:=xd (-x) (show 0 < -y from ω);have b:=yW (-x) (show 0 < -y from ω);rw[m7]at a b;exact((kZ (x:= -x) (y:= -y) (q:=x.fdiv y) (r:= -x.fmod y) (by rw[tQ];omega) (.inl ω)).1).symm
  rw[q]at this;exact this
 ·have c:=acu ht hy (show 1≤y from ω);have e:=uI c;obtain⟨l,l1,l2,l3⟩:=qP e ht pt';rw[gR (show ¬emp (posS t)=true by simp[e])];apply adm;exact aeP hs (fQ ht) bx by' hx c ω (by rw[l1];exact l2) l3
theorem ah5(c:y≠0):inS (remS s t) (x.fmod y)=true:=by
 have b:=uI hx;unfold remS;rw[gR (by simp[b])];rcases pP c with z | z
 ·have a:=acu (gI ht) (yh hy) (show 1≤-y from ω);have e:=uI a;have:=yh (agE (gI hs) (fQ (gI ht)) (x:= -x) (y:= -y) ω ω (yh hx) a ω);rw[m7,Int.neg_neg]at this;split
  ·rw[gR (show ¬emp (posS (turn t))=true by simp[e])];exact this
  ·rw[gR (show ¬emp (posS (turn t))=true by simp[e])];exact adn this
 ·have a:=acu ht hy (show 1≤y from ω);have e:=uI a;have:=agE hs (fQ ht) bx by' hx a ω
  rw[gR (show ¬emp (posS t)=true by simp[e])];split
  ·exact this
  ·exact adm this
end
def valO(op x y:Int):Int:=if op=3 then x+y else if op=4 then x-y else if op=5 then x*y else if op=6 then x.fdiv y else x.fmod y
def aj0{s t:Sp}(hs:oks C s)(ht:oks C t)(ps:Pr s)(pt':Pr t){x y:Int}(bx: -Dd < x∧x < Dd)(by': -Dd < y∧y < Dd)(hx:inS s x=true)(hy:inS t y=true){op:Int}(b:3≤op∧op≤7)(a:op≤5∨y≠0):inS (opS op s t) (valO op x y)=true:=by
 rcases op3 b with rfl | rfl | rfl | rfl | rfl
 ·exact agD hs ht bx by' hx hy
 ·have:=agD hs (gI ht) bx (y:= -y) ω hx (yh hy);rw[←nL]at this;exact this
 ·exact ajp hs ht bx by' hx hy
 ·exact ah4 hs ht ps pt' bx by' hx hy (a.resolve_left δ)
 ·exact ah5 hs ht ps pt' bx by' hx hy (a.resolve_left δ)
def air{s t:Sp}(hs:oks C s)(ht:oks C t)(ps:Pr s)(pt':Pr t):oks K (remS s t):=by
 unfold remS;split
 ·exact jC
 ·split
  ·split
   ·exact jC
   ·rename_i e;exact(gI (vP (gI hs) (fQ (gI ht)) (oK (by simpa using e) (gI ht) pt'.turn))).K
  ·rename_i e;have a:=vP hs (fQ ht) (oK (by simpa using e) ht pt');split
   ·exact a.K
   ·rename_i b;exact jA a.K (gI (vP (gI hs) (fQ (gI ht)) (oK (by simpa using b) (gI ht) pt'.turn))).K
def aip{s t:Sp}(hs:oks C s)(ht:oks C t)(ps:Pr s)(pt':Pr t):oks K (quoS s t):=by
 unfold quoS;split
 ·exact jC
 ·apply jA
  ·split
   ·exact jC
   ·rename_i e;exact aa0 hs (oK (by simpa using e) ht pt')
  ·split
   ·exact jC
   ·rename_i e;exact aa0 (gI hs) (oK (by simpa using e) (gI ht) pt'.turn)
def ajx{s t:Sp}(hs:oks C s)(ht:oks C t)(ps:Pr s)(pt':Pr t){op:Int}:oks K (opS op s t):=by
 unfold opS;split
 ·exact aaB hs ht
 ·split
  ·exact aaB hs (gI ht)
  ·split
   ·exact aaL hs ht
   ·split
    ·exact aip hs ht ps pt'
    ·exact air hs ht ps pt'
def afm{a:A}(ha:Wf a)(he:a.em=false):∃ z,(-C < z∧z < C)∧inS (ofA a) z=true:=by
 have d:=C_gt;have e:=fO;have l:=ha.lo;have u:=ha.hi;have le:=ha.le;cases b:a.lo with
 | some z =>
  rw[b]at l le;refine⟨z,l,(Wf.inS ha he (CK l)).2 ⟨fun v h=>(by rw[b]at h;cases h;exact xp _),fun v h=>?_⟩⟩;rw[h]at le;exact le
 | none=>cases c:a.hi with
  | some z =>
   rw[c]at u;exact⟨z,u,(Wf.inS ha he (CK u)).2 ⟨fun v h=>(by rw[b]at h;cases h),fun v h=>(by rw[c]at h;cases h;exact xp _)⟩⟩
  | none=>exact⟨0,ω,(Wf.inS ha he ω).2 ⟨fun v h=>(by rw[b]at h;cases h),fun v h=>(by rw[c]at h;cases h)⟩⟩
def ahN{s:Sp}(h:oks K s){z:Int}(hz: -K < z∧z < K)(a:inS s z=true):Wf (toA s):=by
 refine sV h (.inr ⟨fun e=>?_,fun e=>?_⟩)
 ·have:=rX.1 a;rw[e]at this;simp only[key]at this;omega
 ·have:=rX.1 a;rw[e]at this;simp only[key]at this;omega
def ac2:Wf (toA non):=sV jC (.inl iG)
def agZ{a:A}(h:a.em=true):ofA a=non:=by unfold ofA;rw[gT h]
def ag8:emp (posS non)=true:=by
 have a:=K_gt;refine gP ?_;show key (xmax non.lo (.fin 1)) > key (xmin non.hi .pi);rw[lK,kX];simp only[non,key];omega
def afJ:emp (posS (⟨.fin 0,.fin 0⟩:Sp))=true:=by
 have a:=K_gt;refine gP ?_;show key (xmax (.fin 0) (.fin 1)) > key (xmin (.fin 0) .pi);rw[lK,kX];simp only[key];omega
def aiG{x y op:Int}(bx: -Dd < x∧x < Dd)(by': -Dd < y∧y < Dd)(b:3≤op∧op≤7)(a:op≤5∨y≠0): -K < valO op x y∧valO op x y < K:=by
 have f:=DD_K;have d:=C_gt;have e:=kJ;have c:0≤Dd*Dd:=yf ω ω;rcases op3 b with rfl | rfl | rfl | rfl | rfl
 ·show -K < x+y∧x+y < K;omega
 ·show -K < x-y∧x-y < K;omega
 ·have:=agT bx by';show -K < x*y∧x*y < K;omega
 ·have:=uG (x:=x) (a.resolve_left δ);show -K < x.fdiv y∧x.fdiv y < K;omega
 ·have:=abd (x:=x) (a.resolve_left δ);show -K < x.fmod y∧x.fmod y < K;omega
section
variable {a b:A}(ha:Wf a)(hb:Wf b)
include ha hb
theorem aa2:Wf (toA (common (ofA a) (ofA b))):=by
 have e:=K_gt;have c:key (common (ofA a) (ofA b)).lo=max (key (ofA a).lo) (key (ofA b).lo):=lK _ _;have d:key (common (ofA a) (ofA b)).hi=min (key (ofA a).hi) (key (ofA b).hi):=kX _ _;have f:=ha.ks.keys;have kb:=hb.ks.keys;exact aiD (wu ha.okK hb.okK) (by intro h;rw[c,d]at *;omega)
theorem non0(e:b.em=false):(∃ z,(-C < z∧z < C)∧z≠0∧inS (ofA b) z=true)∨ofA b=⟨.fin 0,.fin 0⟩:=by
 have g:=C_gt;have i:=fO;have l:=hb.lo;have u:=hb.hi;have le:=hb.le;have I:=fun z (hz: -C < z∧z < C)=>Wf.inS hb e (CK hz);cases c:b.lo with
 | some z =>
  rw[c]at l le;by_cases f:z=0
  ·subst f;cases a:b.hi with
   | some w =>
    rw[a]at u le;by_cases d:w=0
    ·subst d;right;unfold ofA;rw[e,gR ψ,c,a];rfl
    ·exact .inl ⟨w,u,d,(I w u).2 ⟨fun v h=>(by rw[c]at h;cases h;exact le),fun v h=>(by rw[a]at h;cases h;exact xp _)⟩⟩
   | none=>exact .inl ⟨1,ω,ω,(I 1 ω).2 ⟨fun v h=>(by rw[c]at h;cases h;omega),fun v h=>(by rw[a]at h;cases h)⟩⟩
  ·exact .inl ⟨z,l,f,(I z l).2 ⟨fun v h=>(by rw[c]at h;cases h;exact xp _),fun v h=>(by rw[h]at le;exact le)⟩⟩
 | none=>cases a:b.hi with
  | some w =>
   rw[a]at u;by_cases d:w=0
   ·subst d;exact .inl ⟨-1,ω,ω,(I (-1) ω).2 ⟨fun v h=>(by rw[c]at h;cases h),fun v h=>(by rw[a]at h;cases h;omega)⟩⟩
   ·exact .inl ⟨w,u,d,(I w u).2 ⟨fun v h=>(by rw[c]at h;cases h),fun v h=>(by rw[a]at h;cases h;exact xp _)⟩⟩
  | none=>exact .inl ⟨1,ω,ω,(I 1 ω).2 ⟨fun v h=>(by rw[c]at h;cases h),fun v h=>(by rw[a]at h;cases h)⟩⟩
theorem aii{op:Int}(h:a.em=true):opS op (ofA a) (ofA b)=non:=by
 rw[agZ h];unfold opS addS apS quoS remS;simp[iG]
theorem ag2{op:Int}(d:3≤op∧op≤7)(e:a.em=false)(h:b.em=true):opS op (ofA a) (ofA b)=non:=by
 rw[agZ h];have t:turn non=non:=by unfold turn;rw[gT iG]
 have p:=ag8;have c:=kK ha;rw[e]at c;rcases op3 d with rfl | rfl | rfl | rfl | rfl
 ·simp[opS,addS,c,iG]
 ·simp[opS,addS,c,iG,t]
 ·simp[opS,apS,c,iG]
 ·simp[opS,quoS,c,t,p,hull,iG]
 ·simp[opS,remS,c,t,p]
theorem ag3{op:Int}(h:3≤op∧op≤7):Wf (toA (opS op (ofA a) (ofA b))):=by
 have l:=kJ;cases f:a.em with
 | true=>rw[aii ha hb f];exact ac2
 | false=>cases g:b.em with
  | true=>rw[ag2 ha hb h f g];exact ac2
  | false =>
   obtain⟨x,hx,k⟩:=afm ha f;have ok:=ajx (op:=op) ha.okC hb.okC ha.pr hb.pr;have fin:∀ y,(-C < y∧y < C)→inS (ofA b) y=true→(op≤5∨y≠0)→Wf (toA (opS op (ofA a) (ofA b))):=fun y hy d i =>
    ahN ok (aiG (x:=x) (y:=y) ω ω h i) (aj0 ha.okC hb.okC ha.pr hb.pr ω ω k d h i)
   rcases non0 ha hb g with⟨y,hy,y0,d⟩ | e
   ·exact fin y hy d (.inr y0)
   ·by_cases j:op≤5
    ·obtain⟨y,hy,d⟩:=afm hb g;exact fin y hy d (.inl j)
    ·rw[e];have t:turn (⟨.fin 0,.fin 0⟩:Sp)=⟨.fin 0,.fin 0⟩:=δ;have p:=afJ;have c:=kK ha;rw[f]at c;have:op=6∨op=7:=ω;rcases this with rfl | rfl
     ·simp[opS,quoS,c,t,p,hull,iG];exact ac2
     ·simp[opS,remS,c,t,p];exact ac2
end
end Go.N
