import Derived.KernelRfl
import Derived.Test.YtgbokahnpmmfoaaGreatDoorChecked
import Derived.ProofKit
import Derived.OpenShut
import Derived.LaidMore
import Derived.Lay
import Derived.Carry
import Derived.SevenTiedAt
import Derived.Stop.Joined
import Derived.Lib.LaidTab
import Derived.LaidSub
import Derived.Test.YtgbokahnpmmfoaaGreatDoorSSE3
import Derived.Test.YtgbokahnpmmfoaaGreatDoorSSG10
import Derived.Test.YtgbokahnpmmfoaaGreatDoorSSG11
import Derived.Test.YtgbokahnpmmfoaaGreatDoorSSG5
import Derived.Test.YtgbokahnpmmfoaaGreatDoorSSG6
import Derived.Test.YtgbokahnpmmfoaaGreatDoorSSG7
import Derived.Test.YtgbokahnpmmfoaaGreatDoorSSG8
import Derived.Test.YtgbokahnpmmfoaaGreatDoorSSG9
import Derived.Test.YtgbokahnpmmfoaaGreatDoorSSN1
set_option linter.unusedVariables false
set_option linter.unusedSimpArgs false
set_option linter.unusedSectionVars false
set_option maxRecDepth 100000
namespace Go.N
open Go Go.Q Go.Rx
def ckc(em:Bool)(l h:List UInt8):Int :=
 if em=true then(if l≠[]∨h≠[]then 3 else 0)else if num l≠0 then num l else if num h≠0 then num h else if iv l < 0∨(iv l≠0∧(iv h < 0∨¬iv h < iv l))then 2 else 0
theorem aja(lf:Nat)(l:List UInt8)(hl:l.length≤9223372036854775807)(hf:l.length≤lf):gQ.f lf (bs l)=some (num l,()):=by
 rw[gQ.f,agC lf l hl hf,bdS]
 unfold num chk
 cases hc:can l with
 | false=>simp[brT]
 | true =>
  simp only[Bool.not_true,brF,if_true]
  rw[mO lf l (jr hc).2.2 hl,bdS]
  by_cases h:nlen l > 100
  ·rw[decide_eq_true (by omega),brT]
   by_cases h2:nlen l > 4096
   ·rw[if_pos h2];rfl
   ·rw[if_neg h2,if_neg (by simp),if_pos h]
  ·rw[decide_eq_false (by omega),brF,if_neg (show ¬nlen l > 4096 by omega),if_neg (by simp),if_neg h]
theorem agS(lf:Nat)(l:List UInt8)(hl:l.length≤9223372036854775807):eu.f lf (bs l)=some (decide (nlen l > 100),()):=by
 have:=yw l
 rw[eu.f,nK,bdS,fV]
 congr 2
 simp only[decide_eq_decide];unfold nlen;omega
theorem numC(lf:Nat)(l:List UInt8)(hl:l.length≤9223372036854775807):iV.f lf (bs l)=some (num l,()):=by
 rw[iV.f,nY lf l hl,bdS]
 simp only[agS lf l hl,bdS]
 unfold num
 by_cases h:chk l=0
 ·rw[h]
  simp only[show((0:Int)==10)=false from rfl,brF,BEq.rfl,brT,bne_self_eq_false,ne_eq,not_true,if_false]
  by_cases h2:nlen l > 100
  ·rw[decide_eq_true h2,brT,if_pos h2]
  ·rw[decide_eq_false h2,brF,if_neg h2]
 ·rw[if_pos h,show(chk l==0)=false from beq_eq_false_iff_ne.2 h,brF,bneT h,brT]
  by_cases h2:chk l=10
  ·rw[h2,BEq.rfl,brT]
  ·rw[show(chk l==10)=false from beq_eq_false_iff_ne.2 h2,brF]
theorem zA(lf:Nat)(l m:List UInt8)(h1:chk l=0)(h2:chk m=0)(h3:200000≤lf):dZ.f lf (bs l) (bs m)=some (decide (iv l < iv m),()):=by
 rw[dZ.f,wL lf l m h1 h2 h3,bdS]
 simp only
 rw[jS.f,bdS]
 congr 2
 simp only[decide_eq_decide];unfold sgn;(repeat' split)<;>omega
theorem ai8(lf:Nat)(h3:200000≤lf)(em:Bool)(l h:List UInt8)(hl:l.length≤9223372036854775807)(hh:h.length≤9223372036854775807):bI.f lf (em,bs l,bs h,())=some (ckc em l h,()):=by
 rw[bI.f]
 simp only[e0,kJ,numC lf l hl,numC lf h hh,bdS]
 unfold ckc
 cases em with
 | true =>
  rw[brT,if_pos rfl]
  by_cases c1:l=[]<;>by_cases c2:h=[]<;>simp[c1,c2,brT,brF]
 | false =>
  rw[brF,if_neg (by simp)]
  by_cases c1:num l=0
  ·rw[c1,bne_self_eq_false,brF,if_neg (by simp)]
   by_cases c2:num h=0
   ·rw[c2,bne_self_eq_false,brF,if_neg (by simp)]
    have k1:=ug c1
    have k2:=ug c2
    have z:(⟨#[48]⟩:ByteArray)=bs [48]:=rfl
    rw[z,zA lf l [48] k1 ai5 h3,bdS,zA lf h [48] k2 ai5 h3,zA lf h l k2 k1 h3,iv48]
    simp only[bdS]
    have e:l=[48]↔iv l=0:=(yj (jW.1 k1).1).symm
    by_cases a:iv l < 0
    ·rw[decide_eq_true a,brT,if_pos (.inl a)]
    ·rw[decide_eq_false a,brF]
     by_cases b:iv l=0
     ·rw[decide_eq_true (e.2 b),Bool.not_true,brF,if_neg (by omega)]
     ·rw[decide_eq_false (fun x=>b (e.1 x)),Bool.not_false,brT]
      by_cases c:iv h < 0
      ·rw[decide_eq_true c,brT,if_pos (.inr ⟨b,.inl c⟩)]
      ·rw[decide_eq_false c,brF]
       by_cases d:iv h < iv l
       ·rw[decide_eq_true d,Bool.not_true,brF,if_neg (by omega)]
       ·rw[decide_eq_false d,Bool.not_false,brT,if_pos (.inr ⟨b,.inr d⟩)]
   ·rw[bneT c2,brT,if_pos c2]
  ·rw[bneT c1,brT,if_pos c1]
theorem aes(lf:Nat)(h3:200000≤lf)(em:Bool)(l h:List UInt8)(hl:l.length≤9223372036854775807)(hh:h.length≤9223372036854775807)(fl:l.length≤lf)(fh:h.length≤lf):iD.f lf (em,bs l,bs h,())=some (ckc em l h,()):=by
 rw[iD.f]
 simp only[e0,kJ,aja lf l hl fl,aja lf h hh fh,bdS]
 unfold ckc
 cases em with
 | true =>
  rw[brT,if_pos rfl]
  by_cases c1:l=[]<;>by_cases c2:h=[]<;>simp[c1,c2,brT,brF]
 | false =>
  rw[brF,if_neg (by simp)]
  by_cases c1:num l=0
  ·rw[c1,bne_self_eq_false,brF,if_neg (by simp)]
   by_cases c2:num h=0
   ·rw[c2,bne_self_eq_false,brF,if_neg (by simp)]
    have k1:=ug c1
    have k2:=ug c2
    have l1:=qY c1
    have l2:=qY c2
    have z:(⟨#[48]⟩:ByteArray)=bs [48]:=rfl
    rw[wu lf l (jW.1 k1).1,bdS,wu lf h (jW.1 k2).1,adW lf h l (jW.1 k2).1 (jW.1 k1).1 (by omega) (by omega) h3]
    simp only[bdS,aiL]
    have e:l=[48]↔iv l=0:=(yj (jW.1 k1).1).symm
    by_cases a:iv l < 0
    ·rw[decide_eq_true a,brT,if_pos (.inl a)]
    ·rw[decide_eq_false a,brF]
     by_cases b:iv l=0
     ·rw[decide_eq_true (e.2 b),Bool.not_true,brF,if_neg (by omega)]
     ·rw[decide_eq_false (fun x=>b (e.1 x)),Bool.not_false,brT]
      by_cases c:iv h < 0
      ·rw[decide_eq_true c,brT,if_pos (.inr ⟨b,.inl c⟩)]
      ·rw[decide_eq_false c,brF]
       by_cases d:iv h < iv l
       ·rw[decide_eq_true d,Bool.not_true,brF,if_neg (by omega)]
       ·rw[decide_eq_false d,Bool.not_false,brT,if_pos (.inr ⟨b,.inr d⟩)]
   ·rw[bneT c2,brT,if_pos c2]
  ·rw[bneT c1,brT,if_pos c1]
structure Cg where
 em:Bool
 m:Int
 r:Int
deriving DecidableEq
def cc(c:Cg):IV:=if c.em=true then(true,bs [],bs [],())else(false,bs (Lib.itoa c.m),bs (Lib.itoa c.r),())
structure WfC(c:Cg):Prop where
 m: -C < c.m∧c.m < C
 r: -C < c.r∧c.r < C
 pos:0≤c.m
 rng:c.m≠0→0≤c.r∧c.r < c.m
def Ec:Cg:=⟨true,0,0⟩
def topC:Cg:=⟨false,1,0⟩
theorem ajr{em:Bool}{l h:List UInt8}(hc:ckc em l h=0):∃ c:Cg,((em,bs l,bs h,()):IV)=cc c∧WfC c:=by
 have hC:=C_gt
 unfold ckc at hc
 cases em with
 | true =>
  rw[if_pos rfl]at hc
  have:¬(l≠[]∨h≠[]):=fun x=>by rw[if_pos x]at hc;cases hc
  have l0:l=[]:=by simpa using fun x=>this (.inl x)
  have h0:h=[]:=by simpa using fun x=>this (.inr x)
  subst l0 h0
  exact⟨Ec,rfl,⟨by simp only[Ec];omega,by simp only[Ec];omega,by simp[Ec],fun x=>absurd rfl x⟩⟩
 | false =>
  rw[if_neg (by simp)]at hc
  by_cases c1:num l=0
  ·rw[if_neg (by simp[c1])]at hc
   by_cases c2:num h=0
   ·rw[if_neg (by simp[c2])]at hc
    have n:¬(iv l < 0∨(iv l≠0∧(iv h < 0∨¬iv h < iv l))):=fun x=>by rw[if_pos x]at hc;cases hc
    have i1:=vM (nG.1 c1).1
    have i2:=vM (nG.1 c2).1
    refine⟨⟨false,iv l,iv h⟩,by unfold cc;rw[if_neg (by simp)];simp only;rw[←i1,←i2],?_⟩
    rw[i1,qo]at c1
    rw[i2,qo]at c2
    exact⟨c1,c2,by simp only;omega,fun x=>by simp only at x⊢;omega⟩
   ·rw[if_pos c2]at hc;exact absurd hc c2
  ·rw[if_pos c1]at hc;exact absurd hc c1
def clsF(m r:Int):Cg :=
 if sz (m.natAbs:Int) > 100∨sz (if m=0 then r else r.fmod (m.natAbs:Int)) > 100 then topC else⟨false,(m.natAbs:Int),if m=0 then r else r.fmod (m.natAbs:Int)⟩
theorem longI(lf:Nat){z:Int}(hz: -K < z∧z < K):eu.f lf (bs (Lib.itoa z))=some (decide (sz z > 100),()):=by
 have:=lJ hz
 rw[agS lf _ (by omega)];rfl
theorem aj3(lf:Nat){z:Int}(hz: -K < z∧z < K):oW.f lf (bs (Lib.itoa z))=some (bs (Lib.itoa (z.natAbs:Int)),0,()):=by
 have:=lJ hz
 rw[oW.f,nY lf _ (by omega),bdS]
 simp only[chkK hz,bne_self_eq_false,brF]
 rw[nK,bdS,wE]
 have e':Lib.itoa (z.natAbs:Int)=D z.natAbs:=by unfold Lib.itoa;rw[if_neg (by omega)];rfl
 rw[e']
theorem ajf:((false,(⟨#[49]⟩:ByteArray),(⟨#[48]⟩:ByteArray),()):IV)=cc topC:=by
 unfold cc topC;rw[if_neg (by simp)];simp only;rw[i1,i0]
theorem xA{x m:Int}(hx: -K < x∧x < K)(hm: -K < m∧m < K)(h0:m≠0): -K < x.fmod m∧x.fmod m < K:=by
 have:=acJ (x:=x) h0
 omega
theorem aev(lf:Nat)(hlf:2000000000≤lf){m r:Int}(hm: -K < m∧m < K)(hr: -K < r∧r < K):iF.f lf (bs (Lib.itoa m)) (bs (Lib.itoa r))=some (cc (clsF m r),()):=by
 have ha: -K < (m.natAbs:Int)∧(m.natAbs:Int) < K:=by omega
 rw[iF.f,aj3 lf hm,bdS]
 simp only[fG.f,bdS,beq0,longI lf ha,jB.f,ajf]
 unfold clsF
 by_cases h:m=0
 ·subst h
  simp only[longI lf hr,bdS]
  rw[decide_eq_true (by trivial),Bool.not_true,brF]
  by_cases c1:sz ((0:Int).natAbs:Int) > 100
  ·rw[decide_eq_true c1,brT,if_pos (.inl c1)]
  ·rw[decide_eq_false c1,brF]
   by_cases c2:sz r > 100
   ·rw[decide_eq_true c2,brT,if_pos (.inr (by rw[if_pos trivial];exact c2))]
   ·rw[decide_eq_false c2,brF,if_neg (by rw[if_pos trivial];exact fun x=>x.elim c1 c2),if_pos trivial]
    unfold cc;rw[if_neg (by simp)]
 ·have h':(m.natAbs:Int)≠0:=by omega
  have rk:=xA hr ha h'
  simp only[lK lf hlf hr ha h',bdS,longI lf rk]
  rw[decide_eq_false h',Bool.not_false,brT]
  by_cases c1:sz (m.natAbs:Int) > 100
  ·rw[decide_eq_true c1,brT,if_pos (.inl c1)]
  ·rw[decide_eq_false c1,brF]
   by_cases c2:sz (r.fmod (m.natAbs:Int)) > 100
   ·rw[decide_eq_true c2,brT,if_pos (.inr (by rw[if_neg h];exact c2))]
   ·rw[decide_eq_false c2,brF,if_neg (by rw[if_neg h];exact fun x=>x.elim c1 c2),if_neg h]
    unfold cc;rw[if_neg (by simp)]
theorem abj(lf:Nat){z:Int}(hz: -K < z∧z < K):aC.f lf (bs (Lib.itoa z))=some ((sz z:Int),()):=by
 have:=lJ hz
 exact mO lf _ (jF z) (by omega)
theorem agF(n:Nat):decide (((n:Nat):Int) > 100)=decide (n > 100):=by simp only[decide_eq_decide];omega
theorem wJ(lf:Nat)(h3:200000≤lf){m r:Int}(hm: -K < m∧m < K)(hr: -K < r∧r < K):fK.f lf (bs (Lib.itoa m)) (bs (Lib.itoa r))=some (cc (clsF m r),()):=by
 have ha: -K < (m.natAbs:Int)∧(m.natAbs:Int) < K:=by omega
 rw[fK.f,aac,bdS]
 simp only[beq0,abj lf ha,bdS,dU.f,ajf,agF]
 unfold clsF
 by_cases h:m=0
 ·subst h
  simp only[abj lf hr,bdS,agF]
  rw[decide_eq_true (by trivial),Bool.not_true,brF]
  by_cases c1:sz ((0:Int).natAbs:Int) > 100
  ·rw[decide_eq_true c1,brT,if_pos (.inl c1)]
  ·rw[decide_eq_false c1,brF]
   by_cases c2:sz r > 100
   ·rw[decide_eq_true c2,brT,if_pos (.inr (by rw[if_pos trivial];exact c2))]
   ·rw[decide_eq_false c2,brF,if_neg (by rw[if_pos trivial];exact fun x=>x.elim c1 c2),if_pos trivial]
    unfold cc;rw[if_neg (by simp)]
 ·have h':(m.natAbs:Int)≠0:=by omega
  have rk:=xA hr ha h'
  have s1:=szK hr
  have s2:=szK ha
  simp only[ado lf h3 (x:=r) (y:=(m.natAbs:Int)) (by omega) (by omega) h',bdS,abj lf rk,agF]
  rw[decide_eq_false h,Bool.not_false,brT]
  by_cases c1:sz (m.natAbs:Int) > 100
  ·rw[decide_eq_true c1,brT,if_pos (.inl c1)]
  ·rw[decide_eq_false c1,brF]
   by_cases c2:sz (r.fmod (m.natAbs:Int)) > 100
   ·rw[decide_eq_true c2,brT,if_pos (.inr (by rw[if_neg h];exact c2))]
   ·rw[decide_eq_false c2,brF,if_neg (by rw[if_neg h];exact fun x=>x.elim c1 c2),if_neg h]
    unfold cc;rw[if_neg (by simp)]
def dvd'(m a:Int):Bool:=if m=0 then decide (a=0)else decide (a.fmod m=0)
theorem wP(lf:Nat)(hlf:2000000000≤lf){m a:Int}(hm: -K < m∧m < K)(ha: -K < a∧a < K):fB.f lf (bs (Lib.itoa m)) (bs (Lib.itoa a))=some (dvd' m a,()):=by
 rw[fB.f,beq0]
 unfold dvd'
 by_cases h:m=0
 ·rw[decide_eq_true h,brT,if_pos h,beq0]
 ·rw[decide_eq_false h,brF,if_neg h,lK lf hlf ha hm h,bdS,fG.f,bdS,beq0]
end Go.N
namespace Go.N
open Go Go.Q Go.Rx
theorem abr{k x y:Int}(hx: -k < x∧x < k)(hy: -k < y∧y < k): -k < (Int.gcd x y:Int)∧(Int.gcd x y:Int) < k:=by
 by_cases h:x=0
 ·subst h;rw[Int.gcd_zero_left];omega
 ·have:=Nat.gcd_le_left y.natAbs (show 0 < x.natAbs by omega)
  have e:Int.gcd x y=Nat.gcd x.natAbs y.natAbs:=rfl
  omega
section
variable (lf:Nat)(hb:Big lf)
include hb
theorem adI{x y:Int}(hx: -K < x∧x < K)(hy: -K < y∧y < K):iM.f lf (bs (Lib.itoa x)) (bs (Lib.itoa y))=some (bs (Lib.itoa (Int.gcd x y)),()):=by
 rw[iM.f,akf lf hb hx hy,bdS,fG.f,bdS]
theorem yU{x y:Int}(hx: -K < x∧x < K)(hy: -K < y∧y < K)(h: -K < x-y∧x-y < K):fC.f lf (bs (Lib.itoa x)) (bs (Lib.itoa y))=some (bs (Lib.itoa (x-y)),()):=by
 have:=(sz_K (x-y)).2 h
 rw[fC.f,aje lf _ _ (chkK hx) (chkK hy) (by have:=hb.1;omega),dH,dH,pU,if_neg (by omega),bdS,fG.f,bdS]
theorem ajo{x y:Int}(hx: -K < x∧x < K)(hy: -K < y∧y < K)(h: -K < x+y∧x+y < K):lg.f lf (bs (Lib.itoa x)) (bs (Lib.itoa y))=some (bs (Lib.itoa (x+y)),()):=by
 rw[lg.f,aah lf (by have:=hb.1;omega) hx hy h,bdS,fG.f,bdS]
theorem agq{x y:Int}(hx: -K < x∧x < K)(hy: -K < y∧y < K)(h: -K < x*y∧x*y < K):jZ.f lf (bs (Lib.itoa x)) (bs (Lib.itoa y))=some (bs (Lib.itoa (x*y)),()):=by
 rw[jZ.f,afV lf (by have:=hb.1;omega) hx hy h,bdS,fG.f,bdS]
end
def joinC(c d:Cg):Cg:=if c.em=true then d else if d.em=true then c else clsF (Int.gcd (Int.gcd c.m d.m) (c.r-d.r)) c.r
theorem jo{c:Cg}(h:c.em=false):cc c=(false,bs (Lib.itoa c.m),bs (Lib.itoa c.r),()):=by unfold cc;rw[if_neg (by simp[h])]
theorem rH{c:Cg}(h:c.em=true):cc c=(true,bs [],bs [],()):=by unfold cc;rw[if_pos h]
theorem aem{c:Cg}(h:WfC c):∃ (l m:List UInt8),cc c=(c.em,bs l,bs m,())∧ckc c.em l m=0∧l.length≤101∧m.length≤101:=by
 have hK:=kY
 cases e:c.em with
 | true=>exact⟨[],[],rH e,by simp[ckc],by simp,by simp⟩
 | false =>
  have n1:=(qo c.m).2 h.m
  have n2:=(qo c.r).2 h.r
  refine⟨Lib.itoa c.m,Lib.itoa c.r,jo e,?_,qY n1,qY n2⟩
  unfold ckc
  rw[if_neg (by simp),n1,n2,dH,dH,if_neg (by simp),if_neg (by simp),if_neg]
  have a:=h.pos
  have b:=h.rng
  intro x
  rcases x with x | ⟨x,y⟩
  ·omega
  ·have:=b x;omega
section
variable (lf:Nat)(hb:Big lf){c d:Cg}(hc:WfC c)(hd:WfC d)
include hb hc
theorem ccheck:bI.f lf (cc c)=some (0,()):=by
 obtain⟨l,m,e,h,a,b⟩:=aem hc
 rw[e,ai8 lf (by have:=hb.1;omega) _ _ _ (by omega) (by omega),h]
theorem rcheck:iD.f lf (cc c)=some (0,()):=by
 obtain⟨l,m,e,h,a,b⟩:=aem hc
 have:=hb.1
 rw[e,aes lf (by omega) _ _ _ (by omega) (by omega) (by omega) (by omega),h]
include hd
theorem cboth:jd.f lf (cc c) (cc d)=some (0,()):=by
 rw[jd.f,ccheck lf hb hc,bdS]
 simp only[bne_self_eq_false,brF]
 rw[ccheck lf hb hd,bdS]
theorem bounds:(-K < c.m∧c.m < K)∧(-K < c.r∧c.r < K)∧(-K < d.m∧d.m < K)∧(-K < d.r∧d.r < K)∧(-K < c.r-d.r∧c.r-d.r < K)∧(-K < c.r+d.r∧c.r+d.r < K)∧(-K < c.m*d.m∧c.m*d.m < K)∧(-K < c.m*d.r∧c.m*d.r < K)∧(-K < d.m*c.r∧d.m*c.r < K)∧(-K < c.r*d.r∧c.r*d.r < K):=by
 have hK:=CC_K
 have hC:=C_gt
 have hCK:=kY
 have h4:0≤C*C:=Int.mul_nonneg (by omega) (by omega)
 have a1:=hc.m
 have a2:=hc.r
 have a3:=hd.m
 have a4:=hd.r
 have m1:=aaH a1 a3
 have m2:=aaH a1 a4
 have m3:=aaH a3 a2
 have m4:=aaH a2 a4
 refine⟨by omega,by omega,by omega,by omega,by omega,by omega,by omega,by omega,by omega,by omega⟩
theorem ajG:kQ.f lf (cc c) (cc d)=some (cc (joinC c d),0,()):=by
 obtain⟨b1,b2,b3,b4,b5,b6,b7,b8,b9,b10⟩:=bounds lf hb hc hd
 rw[kQ.f,cboth lf hb hc hd,bdS]
 unfold joinC
 cases ec:c.em with
 | true=>rw[rH ec];simp only[bne_self_eq_false,brF,brT,if_true]
 | false=>cases ed:d.em with
  | true=>rw[jo ec,rH ed];simp only[bne_self_eq_false,brF,brT,if_true,if_false,Bool.false_eq_true];rw[jo ec]
  | false =>
   rw[jo ec,jo ed]
   have g1:=abr b1 b3
   simp only[bne_self_eq_false,brF,if_false,Bool.false_eq_true,adI lf hb b1 b3,yU lf hb b2 b4 b5,bdS,adI lf hb g1 b5,aev lf hb.1 (abr g1 b5) b2]
end
end Go.N
namespace Go.N
open Go Go.Q Go.Rx
section
variable (lf:Nat)(hb:Big lf){c d:Cg}(hc:WfC c)(hd:WfC d)
include hb hc hd
end
end Go.N
namespace Go.N
open Go Go.Q Go.Rx
section
variable (lf:Nat)(hb:Big lf){c d:Cg}(hc:WfC c)(hd:WfC d)
include hb hc hd
end
end Go.N
namespace Go.N
open Go Go.Q Go.Rx
theorem abb{m r:Int}:WfC (clsF m r):=by
 have hC:=C_gt
 unfold clsF
 by_cases h:sz (m.natAbs:Int) > 100∨sz (if m=0 then r else r.fmod (m.natAbs:Int)) > 100
 ·rw[if_pos h]
  exact⟨by simp only[topC];omega,by simp only[topC];omega,by simp[topC],fun _=>by simp[topC]⟩
 ·rw[if_neg h]
  have h1:=(sz_C (m.natAbs:Int)).1 (by omega)
  have h2:=(sz_C (if m=0 then r else r.fmod (m.natAbs:Int))).1 (by omega)
  refine⟨h1,h2,by simp only;omega,fun x=>?_⟩
  simp only at x⊢
  have h0:m≠0:=by omega
  rw[if_neg h0]
  exact⟨Int.fmod_nonneg_of_pos r (by omega),Int.fmod_lt_of_pos r (by omega)⟩
theorem yK:WfC Ec:=by
 have hC:=C_gt
 exact⟨by simp only[Ec];omega,by simp only[Ec];omega,by simp[Ec],fun x=>absurd rfl x⟩
theorem aiS:WfC topC:=by
 have hC:=C_gt
 exact⟨by simp only[topC];omega,by simp only[topC];omega,by simp[topC],fun _=>by simp[topC]⟩
theorem acY{c d:Cg}(hc:WfC c)(hd:WfC d):WfC (joinC c d):=by
 unfold joinC;split
 ·exact hd
 ·split
  ·exact hc
  ·exact abb
def inC(c:Cg)(a:Int):Bool:=!c.em&&dvd' c.m (a-c.r)
def mg(c d:Cg):Bool:=if c.em=true then true else if d.em=true then false else dvd' d.m c.m&&dvd' d.m (c.r-d.r)
section
variable (lf:Nat)(hb:Big lf){c d:Cg}(hc:WfC c)(hd:WfC d)
include hb hc hd
theorem acS:iU.f lf (cc c) (cc d)=some (mg c d,()):=by
 obtain⟨b1,b2,b3,b4,b5,b6,b7,b8,b9,b10⟩:=bounds lf hb hc hd
 have hlf:=hb.1
 rw[iU.f]
 unfold mg
 cases ec:c.em with
 | true=>rw[rH ec];simp only[brT,if_true]
 | false=>cases ed:d.em with
  | true=>rw[jo ec,rH ed];simp only[brF,brT,if_true,if_false,Bool.false_eq_true]
  | false =>
   rw[jo ec,jo ed]
   simp only[brF,if_false,Bool.false_eq_true,wP lf hlf b3 b1,yU lf hb b2 b4 b5,wP lf hlf b3 b5,bdS]
   cases dvd' d.m c.m with
   | true=>simp only[brT,Bool.true_and]
   | false=>simp only[brF,Bool.false_and]
end
theorem ajD{c:Cg}(hc:WfC c)(h:c.em=false)(a:Int):inC c a=if c.m=0 then decide (a=c.r)else decide (a.fmod c.m=c.r):=by
 unfold inC dvd'
 rw[h,Bool.not_false,Bool.true_and]
 by_cases z:c.m=0
 ·rw[if_pos z,if_pos z];simp only[decide_eq_decide];omega
 ·rw[if_neg z,if_neg z]
  have r:=hc.rng z
  have p:0 < c.m:=by have:=hc.pos;omega
  simp only[decide_eq_decide]
  have m1:=Int.mul_fdiv_add_fmod a c.m
  have m2:=Int.mul_fdiv_add_fmod (a-c.r) c.m
  constructor
  ·intro e
   exact((iO (x:=a) (y:=c.m) (q:=(a-c.r).fdiv c.m) (r:=c.r) (by omega) (.inl r)).2).symm
  ·intro e
   exact((iO (x:=a-c.r) (y:=c.m) (q:=a.fdiv c.m) (r:=0) (by omega) (.inl (by omega))).2).symm
section
variable (lf:Nat)(hb:Big lf){c:Cg}(hc:WfC c)
include hb hc
theorem ah9{a:Int}(ha: -K < a∧a < K):jX.f lf (cc c) (bs (Lib.itoa a))=some (inC c a,0,()):=by
 have hlf:=hb.1
 have hl:=lJ ha
 have bm:=CK hc.m
 rw[jX.f,ccheck lf hb hc,bdS]
 simp only[bne_self_eq_false,brF,nY lf (Lib.itoa a) (by omega),chkK ha,bdS]
 cases ec:c.em with
 | true=>rw[rH ec];simp only[brT,inC,ec,Bool.not_true,Bool.false_and]
 | false =>
  rw[ajD hc ec,jo ec]
  simp only[brF,beq0]
  have bq:∀ x y:Int,((bs (Lib.itoa x)).toList==(bs (Lib.itoa y)).toList)=decide (x=y):=fun x y=>by
   rw[kJ];simp only[decide_eq_decide];exact⟨fun e=>mZ e,fun e=>by rw[e]⟩
  by_cases z:c.m=0
  ·rw[decide_eq_true z,brT,if_pos z,bq]
  ·rw[decide_eq_false z,brF,if_neg z,lK lf hlf ha bm z,bdS,fG.f,bdS,bq]
end
end Go.N
namespace Go.N
open Go Go.Q Go.Rx
def negC(c:Cg):Cg:=if c.em=true then Ec else clsF c.m (-c.r)
theorem aeU{c:Cg}:WfC (negC c):=by unfold negC;split;exact yK;exact abb
section
variable (lf:Nat)(hb:Big lf){c:Cg}(hc:WfC c)
include hb hc
theorem ad1:gY.f lf (cc c)=some (cc (negC c),()):=by
 have h3:200000≤lf:=by have:=hb.1;omega
 have bm:=CK hc.m
 have br':=CK hc.r
 rw[gY.f]
 unfold negC
 cases ec:c.em with
 | true=>rw[rH ec];simp only[brT,if_true];rfl
 | false =>
  rw[jo ec]
  simp only[brF,if_false,Bool.false_eq_true,sJ lf br',bdS,wJ lf h3 bm (r:= -c.r) (by omega)]
end
end Go.N
namespace Go.N
open Go Go.Q Go.Rx
def aboveC(c:Cg)(a:Int):Option Int:=if c.m=0 then(if c.r < a then none else some c.r)else some (a+(c.r-a).fmod c.m)
theorem vI{x y m:Int}(h:0 < m):(x.fmod m-y.fmod m).fmod m=(x-y).fmod m:=by
 rw[Int.fmod_eq_emod_of_nonneg _ (Int.le_of_lt h),Int.fmod_eq_emod_of_nonneg _ (Int.le_of_lt h),Int.fmod_eq_emod_of_nonneg _ (Int.le_of_lt h),Int.fmod_eq_emod_of_nonneg _ (Int.le_of_lt h),←Int.sub_emod]
section
variable (lf:Nat)(hb:Big lf){c:Cg}(hc:WfC c)(he:c.em=false){a:Int}(ha: -Dd < a∧a < Dd)
include hb hc he ha
theorem aif:jY.f lf (cc c) (bs (Lib.itoa a))=some (match aboveC c a with
  | none=>(bs [],6,())
  | some v=>(bs (Lib.itoa v),0,())):=by
 have hlf:=hb.1
 have hD:=DD_K
 have hC:=C_gt
 have hCD:=lY
 have h4:0≤Dd*Dd:=Int.mul_nonneg (by omega) (by omega)
 have ka: -K < a∧a < K:=by omega
 have hl:=lJ ka
 have m1:=hc.m
 have r1:=hc.r
 have bm:=CK hc.m
 have br':=CK hc.r
 rw[jY.f,ccheck lf hb hc,bdS]
 simp only[bne_self_eq_false,brF,nY lf (Lib.itoa a) (by omega),chkK ka,bdS]
 rw[jo he]
 simp only[brF,beq0]
 unfold aboveC
 by_cases z:c.m=0
 ·rw[decide_eq_true z,Bool.not_true,brF,if_pos z,zA lf _ _ (chkK br') (chkK ka) (by omega),dH,dH,bdS]
  simp only
  by_cases h:c.r < a
  ·rw[decide_eq_true h,brT,if_pos h]
  ·rw[decide_eq_false h,brF,if_neg h]
 ·have p:0 < c.m:=by have:=hc.pos;omega
  have k1:=xA br' bm z
  have k2:=xA ka bm z
  have g1:=Int.fmod_nonneg_of_pos c.r p
  have g2:=Int.fmod_lt_of_pos c.r p
  have g3:=Int.fmod_nonneg_of_pos a p
  have g4:=Int.fmod_lt_of_pos a p
  have k3: -K < c.r.fmod c.m-a.fmod c.m∧c.r.fmod c.m-a.fmod c.m < K:=by omega
  have g5:=Int.fmod_nonneg_of_pos (c.r-a) p
  have g6:=Int.fmod_lt_of_pos (c.r-a) p
  rw[decide_eq_false z,Bool.not_false,brT,if_neg z,gW.f,lK lf hlf br' bm z,bdS]
  simp only[bne_self_eq_false,brF,lK lf hlf ka bm z,bdS,yU lf hb k1 k2 k3,lK lf hlf k3 bm z,vI p,aah lf (by omega) ka (y:=(c.r-a).fmod c.m) (by omega) (by omega)]
theorem aen:fJ.f lf (cc c) (bs (Lib.itoa a))=some (match aboveC c a with
  | none=>(bs [],false,())
  | some v=>(bs (Lib.itoa v),true,())):=by
 have h3:200000≤lf:=by have:=hb.1;omega
 have hD:=DD_K
 have hC:=C_gt
 have hCD:=lY
 have h4:0≤Dd*Dd:=Int.mul_nonneg (by omega) (by omega)
 have ka: -K < a∧a < K:=by omega
 have m1:=hc.m
 have r1:=hc.r
 have bm:=CK hc.m
 have br':=CK hc.r
 rw[fJ.f,jo he]
 simp only[beq0]
 unfold aboveC
 by_cases z:c.m=0
 ·rw[decide_eq_true z,brT,if_pos z,lessI lf h3 br' ka,bdS]
  simp only
  by_cases h:c.r < a
  ·rw[decide_eq_true h,brT,if_pos h]
  ·rw[decide_eq_false h,brF,if_neg h]
 ·have p:0 < c.m:=by have:=hc.pos;omega
  have g5:=Int.fmod_nonneg_of_pos (c.r-a) p
  have g6:=Int.fmod_lt_of_pos (c.r-a) p
  have kd: -K < c.r-a∧c.r-a < K:=by omega
  have s1:=szK kd
  have s2:=szK bm
  simp only[decide_eq_false z,brF,if_neg z,diffI lf h3 br' ka,bdS,ado lf h3 (x:=c.r-a) (y:=c.m) (by omega) (by omega) z,sumI lf h3 ka (y:=(c.r-a).fmod c.m) (by omega)]
end
end Go.N
namespace Go.N
open Go Go.Q Go.Rx
def belowC(c:Cg)(a:Int):Option Int:=if c.m=0 then(if a < c.r then none else some c.r)else some (a-(a-c.r).fmod c.m)
theorem vk{m r:Int}(h0:0≤m)(hm: -C < m∧m < C)(hr: -C < r∧r < C):clsF m r=⟨false,m,if m=0 then r else r.fmod m⟩:=by
 have e:(m.natAbs:Int)=m:=by omega
 unfold clsF
 rw[e]
 have s1:=(sz_C m).2 hm
 have s2:sz (if m=0 then r else r.fmod m)≤100:=by
  apply (sz_C _).2
  split
  ·exact hr
  ·have a:=Int.fmod_nonneg_of_pos r (show 0 < m by omega)
   have b:=Int.fmod_lt_of_pos r (show 0 < m by omega)
   omega
 rw[if_neg (by omega)]
theorem afv{c:Cg}(hc:WfC c)(he:c.em=false)(a:Int):belowC c a=(aboveC (negC c) (-a)).map fun v=> -v:=by
 have e:negC c=⟨false,c.m,if c.m=0 then -c.r else(-c.r).fmod c.m⟩:=by
  unfold negC
  rw[if_neg (by simp[he])]
  exact vk hc.pos hc.m (by have:=hc.r;omega)
 rw[e]
 unfold belowC aboveC
 simp only
 by_cases z:c.m=0
 ·simp only[z,if_true]
  by_cases h:a < c.r
  ·rw[if_pos h,if_pos (by omega)];rfl
  ·rw[if_neg h,if_neg (by omega)];simp
 ·have p:0 < c.m:=by have:=hc.pos;omega
  simp only[if_neg z,Option.map_some]
  have k:((-c.r).fmod c.m - -a).fmod c.m=(a-c.r).fmod c.m:=by
   have h1:=vI (x:=(-c.r).fmod c.m) (y:= -a) p
   have h2:=vI (x:= -c.r) (y:= -a) p
   have h3:((-c.r).fmod c.m).fmod c.m=(-c.r).fmod c.m:=by
    rw[Int.fmod_eq_emod_of_nonneg _ (Int.le_of_lt p),Int.fmod_eq_emod_of_nonneg _ (Int.le_of_lt p),Int.emod_emod]
   rw[←h1,h3,h2]
   congr 1;omega
  rw[k]
  congr 1;omega
section
variable (lf:Nat)(hb:Big lf){c:Cg}(hc:WfC c)(he:c.em=false){a:Int}(ha: -Dd < a∧a < Dd)
include hb hc he ha
theorem ahZ:iC.f lf (cc c) (bs (Lib.itoa a))=some (match belowC c a with
  | none=>(bs [],false,())
  | some v=>(bs (Lib.itoa v),true,())):=by
 have hD:=DD_K
 have hC:=C_gt
 have hCD:=lY
 have h4:0≤Dd*Dd:=Int.mul_nonneg (by omega) (by omega)
 have ne:(negC c).em=false:=by
  have:negC c=⟨false,c.m,if c.m=0 then -c.r else(-c.r).fmod c.m⟩:=by
   unfold negC
   rw[if_neg (by simp[he])]
   exact vk hc.pos hc.m (by have:=hc.r;omega)
  rw[this]
 have ab:=aen lf hb aeU ne (a:= -a) (by omega)
 rw[iC.f,ad1 lf hb hc,bdS,sJ lf (z:=a) (by omega),bdS,ab,bdS,afv hc he]
 cases h:aboveC (negC c) (-a)with
 | none=>simp only[Bool.not_false,brT,Option.map_none]
 | some v =>
  have kv: -K < v∧v < K:=by
   unfold aboveC at h
   have w:=aeU (c:=c)
   have m1:=w.m
   have r1:=w.r
   split at h
   ·split at h
    ·cases h
    ·injection h with h;omega
   ·rename_i z
    have p:0 < (negC c).m:=by have:=w.pos;omega
    have g5:=Int.fmod_nonneg_of_pos ((negC c).r - -a) p
    have g6:=Int.fmod_lt_of_pos ((negC c).r - -a) p
    injection h with h
    omega
  simp only[Bool.not_true,brF,Option.map_some,sJ lf kv,bdS]
theorem adR:iw.f lf (cc c) (bs (Lib.itoa a))=some (match belowC c a with
  | none=>(bs [],6,())
  | some v=>(bs (Lib.itoa v),0,())):=by
 have hlf:=hb.1
 have hD:=DD_K
 have hC:=C_gt
 have hCD:=lY
 have h4:0≤Dd*Dd:=Int.mul_nonneg (by omega) (by omega)
 have ka: -K < a∧a < K:=by omega
 have hl:=lJ ka
 have m1:=hc.m
 have r1:=hc.r
 have bm:=CK hc.m
 have br':=CK hc.r
 rw[iw.f,ccheck lf hb hc,bdS]
 simp only[bne_self_eq_false,brF,nY lf (Lib.itoa a) (by omega),chkK ka,bdS]
 rw[jo he]
 simp only[brF,beq0]
 unfold belowC
 by_cases z:c.m=0
 ·rw[decide_eq_true z,Bool.not_true,brF,if_pos z,zA lf _ _ (chkK ka) (chkK br') (by omega),dH,dH,bdS]
  simp only
  by_cases h:a < c.r
  ·rw[decide_eq_true h,brT,if_pos h]
  ·rw[decide_eq_false h,brF,if_neg h]
 ·have p:0 < c.m:=by have:=hc.pos;omega
  have k1:=xA br' bm z
  have k2:=xA ka bm z
  have g1:=Int.fmod_nonneg_of_pos c.r p
  have g2:=Int.fmod_lt_of_pos c.r p
  have g3:=Int.fmod_nonneg_of_pos a p
  have g4:=Int.fmod_lt_of_pos a p
  have k3: -K < a.fmod c.m-c.r.fmod c.m∧a.fmod c.m-c.r.fmod c.m < K:=by omega
  have g5:=Int.fmod_nonneg_of_pos (a-c.r) p
  have g6:=Int.fmod_lt_of_pos (a-c.r) p
  have kf: -K < (a-c.r).fmod c.m∧(a-c.r).fmod c.m < K:=by omega
  have kd: -K < a-(a-c.r).fmod c.m∧a-(a-c.r).fmod c.m < K:=by omega
  have sd:=(sz_K _).2 kd
  have sb:=aje lf _ _ (chkK ka) (chkK kf) (by omega)
  rw[dH,dH,pU,if_neg (by omega)]at sb
  rw[decide_eq_false z,Bool.not_false,brT,if_neg z,gW.f,lK lf hlf ka bm z,bdS]
  simp only[bne_self_eq_false,brF,lK lf hlf br' bm z,bdS,yU lf hb k2 k1 k3,lK lf hlf k3 bm z,vI p,sb]
end
end Go.N
namespace Go.N
open Go Go.Q Go.Rx
theorem akk(lf:Nat)(hb:Big lf){x y:Int}(hx:0 < x∧x < C)(hy:0 < y∧y < C):pq.f lf (bs (Lib.itoa x)) (bs (Lib.itoa y))=some (bs (Lib.itoa (x / (Int.gcd x y:Int)*y)),0,()):=by
 have hlf:=hb.1
 have hK:=hb.2
 have hCK:=kY
 have hCC:=CC_K
 have hC:=C_gt
 have kx: -K < x∧x < K:=by omega
 have ky: -K < y∧y < K:=by omega
 obtain⟨p,q,e,k1,k2,_⟩:=qZ lf _ _ (chkK kx) (chkK ky) (by omega)
 rw[dH]at k1 k2
 have n1:=aS (B:=G) (by decide) k1.dg
 have n2:=aS (B:=G) (by decide) k2.dg
 have vx:lv G p.2.1=x:=by have:=k1.val;split at this<;>omega
 have vy:lv G q.2.1=y:=by have:=k2.val;split at this<;>omega
 have p0:p.2.1≠[]:=fun h=>by rw[h]at vx;simp only[lv]at vx;omega
 have q0:q.2.1≠[]:=fun h=>by rw[h]at vy;simp only[lv]at vy;omega
 have pl:0 < p.2.1.length:=List.length_pos_iff.2 p0
 have ql:0 < q.2.1.length:=List.length_pos_iff.2 q0
 have l1:=k1.len
 have l2:=k2.len
 obtain⟨g,g1,g2,g3,g4,g5⟩:=aap lf hlf (lf+39) (lf+40) p.2.1 q.2.1 (by omega) (by omega) k1.dg k2.dg k1.tr k2.tr (by omega) (by omega)
 rw[vx,vy]at g5
 have gp:0 < (Int.gcd x y:Int):=by
  have:=Int.gcd_pos_of_ne_zero_left y (show x≠0 by omega)
  omega
 have g0:g≠[]:=fun h=>by rw[h]at g5;simp only[lv]at g5;omega
 obtain⟨Q,R,d1,d2,d3,d4,d5,d6,d7⟩:=vz lf p.2.1 g k1.dg g2 k1.tr g3 g0 (by omega) (by omega) hlf
 have Q0:=aS (B:=G) (by decide) d2
 have R0:=aS (B:=G) (by decide) d4
 rw[vx,g5]at d6
 rw[g5]at d7
 have dv:(Int.gcd x y:Int)∣x:=Int.gcd_dvd_left x y
 have qv:lv G Q=x / (Int.gcd x y:Int):=by
  obtain⟨k,hk⟩:=dv
  have w:=ab7 (M:=(Int.gcd x y:Int)) (a:=lv G R) (d:=lv G Q-k) (b:=0) gp (by rw[Int.mul_sub];omega) R0 d7 (by omega) gp
  have:lv G Q=k:=by omega
  rw[this]
  exact(Int.ediv_eq_of_eq_mul_right (show(Int.gcd x y:Int)≠0 by omega) hk).symm
 have qlen:Q.length≤p.2.1.length:=by
  by_cases z:Q.length≤p.2.1.length
  ·exact z
  ·have:=kD (B:=G) (by decide) k1.dg d2 d3 (by omega)
   have:=Int.ediv_le_self (Int.gcd x y:Int) (show 0≤x by omega)
   omega
 obtain⟨r,r1,r2,r3,r4,r5⟩:=abY lf Q q.2.1 d2 k2.dg (by omega) (by omega) (by omega)
 rw[qv,vy]at r5
 have rn:RN (false,r,()) (x / (Int.gcd x y:Int)*y) 8192:=⟨r2,r3,by simp only;omega,by simp only[Bool.false_eq_true,if_false];rw[r5]⟩
 have lt: -K < x / (Int.gcd x y:Int)*y∧x / (Int.gcd x y:Int)*y < K:=by
  have a:=Int.ediv_le_self (Int.gcd x y:Int) (show 0≤x by omega)
  have b:=Int.ediv_nonneg (show 0≤x by omega) (Int.le_of_lt gp)
  have:=aaH (a:=x / (Int.gcd x y:Int)) (b:=y) (by omega) (by omega)
  omega
 have sz':=(sz_K _).2 lt
 rw[pq.f,e,bdS]
 simp only[bne_self_eq_false,brF]
 rw[show(((p.2.1.length:Nat):Int)==0)=false from beq_eq_false_iff_ne.2 (by omega),brF,show(((q.2.1.length:Nat):Int)==0)=false from beq_eq_false_iff_ne.2 (by omega),brF,dR.f,g1,bdS,bdS,d1,bdS,r1,bdS,uy lf rn (by omega) (by omega),pU,if_neg (by omega),bdS]
end Go.N
namespace Go.N
open Go Go.Q Go.Rx
structure Bz(a b r s x z:Int):Prop where
 b0:0 < b
 r0:0 < r
 s0:0≤s
 xr:b∣x*a-r
 zs:b∣z*a-s
 sg:(0≤z∧x≤0∧z*r-x*s=b)∨(z≤0∧0≤x∧z*r-x*s= -b)
 xb: -b≤x∧x≤b
theorem Bz.zb{a b r s x z:Int}(h:Bz a b r s x z): -b≤z∧z≤b:=by
 have r0:=h.r0
 have s0:=h.s0
 have b0:=h.b0
 rcases h.sg with⟨h1,h2,h3⟩ | ⟨h1,h2,h3⟩
 ·have a1:z*1≤z*r:=Int.mul_le_mul_of_nonneg_left (by omega) h1
  have a2:0≤-x*s:=Int.mul_nonneg (by omega) s0
  rw[Int.neg_mul]at a2
  omega
 ·have a1: -z*1≤-z*r:=Int.mul_le_mul_of_nonneg_left (by omega) (by omega)
  have a2:0≤x*s:=Int.mul_nonneg h2 s0
  rw[Int.neg_mul,Int.neg_mul]at a1
  omega
theorem Bz.next{a b r s x z q t:Int}(h:Bz a b r s x z)(hs:0 < s)(hq:r=s*q+t)(t0:0≤t)(q0:0≤q):Bz a b s t z (x-q*z):=by
 have zb:=h.zb
 refine⟨h.b0,hs,t0,h.zs,?_,?_,zb⟩
 ·have e:(x-q*z)*a-t=(x*a-r)-q*(z*a-s):=by
   subst hq;rw[Int.sub_mul,Int.mul_sub,Int.mul_assoc,Int.mul_comm q s];omega
  rw[e]
  exact Int.dvd_sub h.xr (Int.dvd_trans h.zs (Int.dvd_mul_left _ _))
 ·have e:(x-q*z)*s-z*t= -(z*r-x*s):=by
   subst hq;rw[Int.sub_mul,Int.mul_add,Int.mul_comm q z,Int.mul_assoc z q s,Int.mul_comm q s];omega
  rw[e]
  rcases h.sg with⟨h1,h2,h3⟩ | ⟨h1,h2,h3⟩
  ·refine .inr ⟨?_,h1,by rw[h3]⟩
   have:=Int.mul_nonneg q0 h1
   omega
  ·refine .inl ⟨?_,h1,by rw[h3];omega⟩
   have:=Int.mul_nonneg q0 (show 0≤-z by omega)
   rw[Int.mul_neg]at this
   omega
theorem crt{m1 m2 g r1 r2 x k:Int}(g0:0 < g)(h1:0 < m1)(h2:0 < m2)(d1:g∣m1)(d2:g∣m2)(hx:m2∣x*m1-g)(hk:r2-r1=g*k):m2∣(r1+x*k*m1)-r2:=by
 have e:(r1+x*k*m1)-r2=k*(x*m1-g):=by
  rw[Int.mul_sub,Int.mul_comm k g,←hk,Int.mul_comm x k,Int.mul_assoc];omega
 rw[e]
 exact Int.dvd_trans hx (Int.dvd_mul_left _ _)
theorem lcm_dvd{m1 m2 v:Int}(h1:0 < m1)(h2:0 < m2)(a:m1∣v)(b:m2∣v):m1 / (Int.gcd m1 m2:Int)*m2∣v:=by
 have l:(Int.lcm m1 m2:Int)∣v:=Int.coe_lcm_dvd a b
 have e:(Int.lcm m1 m2:Int)=m1 / (Int.gcd m1 m2:Int)*m2:=by
  rw[Int.lcm_eq_mul_div,Int.natCast_ediv,Int.natCast_mul,Int.natAbs_of_nonneg (Int.le_of_lt h1),Int.natAbs_of_nonneg (Int.le_of_lt h2),Int.mul_comm m1 m2,Int.mul_ediv_assoc _ (Int.gcd_dvd_left m1 m2),Int.mul_comm]
 rw[←e];exact l
theorem lcm_pos{m1 m2:Int}(h1:0 < m1)(h2:0 < m2):0 < m1 / (Int.gcd m1 m2:Int)*m2:=by
 have gp:0 < (Int.gcd m1 m2:Int):=by
  have:=Int.gcd_pos_of_ne_zero_left m2 (show m1≠0 by omega)
  omega
 have:0 < m1 / (Int.gcd m1 m2:Int):=Int.ediv_pos_of_pos_of_dvd h1 (by omega) (Int.gcd_dvd_left _ _)
 exact Int.mul_pos this h2
theorem afL{L u v:Int}(h:0 < L)(d:L∣u-v):u.fmod L=v.fmod L:=by
 rw[Int.fmod_eq_emod_of_nonneg _ (Int.le_of_lt h),Int.fmod_eq_emod_of_nonneg _ (Int.le_of_lt h)]
 exact Int.emod_eq_emod_iff_emod_sub_eq_zero.2 (Int.emod_eq_zero_of_dvd d)
end Go.N
namespace Go.N
open Go Go.Q Go.Rx
abbrev Nb:Type:=Bool×(List Int×Unit)
theorem RN.natAbs{p:Nb}{z:Int}{k:Nat}(h:RN p z k):lv G p.2.1=(z.natAbs:Int):=by
 have:=h.val
 have:=aS (B:=G) (by decide) h.dg
 split at*<;> omega
theorem RN.small(lf:Nat)(h3:200000≤lf){p:Nb}{z:Int}{k:Nat}(h:RN p z k)(hz: -K < z∧z < K):RN p z 4096:=by
 obtain⟨q,_,_,k1,_⟩:=qZ lf _ _ (chkK hz) (chkK hz) h3
 rw[dH]at k1
 refine⟨h.dg,h.tr,?_,h.val⟩
 by_cases l:p.2.1.length≤4096
 ·exact l
 ·have:=kD (B:=G) (by decide) k1.dg h.dg h.tr (by have:=k1.len;omega)
  rw[h.natAbs,k1.natAbs]at this
  omega
theorem RN.nil{p:Nb}{k:Nat}(h:RN p 0 k):p.2.1=[]:=(uP (B:=G) (by decide) h.dg h.tr).1 (by rw[h.natAbs];rfl)
theorem RN.ne{p:Nb}{z:Int}{k:Nat}(h:RN p z k)(h0:z≠0):0 < p.2.1.length:=by
 refine List.length_pos_iff.2 fun e=>h0 ?_
 have:=h.natAbs
 rw[e]at this
 simp only[lv]at this
 omega
theorem aha(lf:Nat)(h3:200000≤lf){p q:Nb}{x y:Int}{k:Nat}(h1:RN p x k)(h2:RN q y k)(hk:k≤50000):∃ s,bn.f lf p q=some (s,())∧RN s (x*y) (k+k):=by
 obtain⟨r,r1,r2,r3,r4,r5⟩:=abY lf p.2.1 q.2.1 h1.dg h2.dg (by have:=h1.len;omega) (by have:=h2.len;omega) h3
 rw[bn.f,r1,bdS]
 refine⟨_,rfl,r2,r3,by have:=h1.len;have:=h2.len;simp only;omega,?_⟩
 simp only
 rw[r5,h1.val,h2.val]
 cases p.1<;>cases q.1<;>simp[Int.neg_mul,Int.mul_neg]
section
variable (lf:Nat)(hlf:2000000000≤lf){a b:Int}(hb:b < C)
include hlf hb
theorem aa7{r s bf nw:Nb}{R S X Z:Int}(h1:RN r R 4096)(h2:RN s S 4096)(h3:RN bf X 4096)(h4:RN nw Z 4096)(h:Bz a b R S X Z)(hs:S≠0):
  ∃ q t u v w,aP.f lf r s=some (q,t,())∧bn.f lf q nw=some (u,())∧aU.f lf u=some (v,())∧dB.f lf bf v=some (w,())∧
   RN t (R.fmod S) 4096∧RN w (X-R.fdiv S*Z) 4096∧Bz a b S (R.fmod S) Z (X-R.fdiv S*Z):=by
 have hC:=kY
 have sp:0 < S:=by have:=h.s0;omega
 obtain⟨q,t,e1,k1,k2⟩:=rf lf hlf h1 h2 (by omega) hs
 obtain⟨u,e2,k3⟩:=aha lf (by omega) k1 (h4.mono (by omega)) (by omega)
 obtain⟨v,e3,k4⟩:=uf lf k3
 obtain⟨w,e4,k5⟩:=adu lf (h3.mono (show 4096≤4096+1+(4096+1) by omega)) k4 (by omega) (by omega)
 rw[←Int.sub_eq_add_neg]at k5
 have m:=Int.mul_fdiv_add_fmod R S
 have n:=h.next sp m.symm (Int.fmod_nonneg_of_pos R sp) (by
  rw[Int.fdiv_eq_ediv_of_nonneg _ (Int.le_of_lt sp)];exact Int.ediv_nonneg (Int.le_of_lt h.r0) (Int.le_of_lt sp))
 have zb:=n.zb
 exact⟨q,t,u,v,w,e1,e2,e3,e4,k2,k5.small lf (by omega) (by omega),n⟩
theorem aj7(v0:Bool)(v1:List Int)(v2:Bool)(v3 v8:List Int):∀ (k n:Nat) (r s bf nw:Nb) (R S X Z:Int),S≤k→k < n→RN r R 4096→RN s S 4096→RN bf X 4096→RN nw Z 4096→Bz a b R S X Z→
  ∃ (g bf' nw':Nb) (e:Bool) (X':Int),bg.l2 lf v0 v1 v2 v3 v8 n r.1 r.2.1 s.1 s.2.1 bf.1 bf.2.1 nw.1 nw.2.1=some ((v0,v1,v2,v3,g.1,g.2.1,e,[],v8,bf'.1,bf'.2.1,nw'.1,nw'.2.1,()),())∧
   RN g (Int.gcd R S) 4096∧RN bf' X' 4096∧b∣X'*a-(Int.gcd R S:Int)∧-b≤X'∧X'≤b:=by
 intro k
 induction k with
 | zero =>
  intro n r s bf nw R S X Z hk hn h1 h2 h3 h4 h
  obtain⟨m,rfl⟩:=Nat.exists_eq_succ_of_ne_zero (show n≠0 by omega)
  have s0:=h.s0
  obtain rfl:S=0:=by omega
  have e:=h2.nil
  have r0:=h.r0
  have g:(Int.gcd R 0:Int)=R:=by rw[Int.gcd_zero_right];omega
  refine⟨r,bf,nw,s.1,X,?_,by rw[g];exact h1,h3,by rw[g];exact h.xr,h.xb⟩
  rw[bg.l2,bg.r2,e,decide_eq_false (by simp),brF]
 | succ k ih =>
  intro n r s bf nw R S X Z hk hn h1 h2 h3 h4 h
  obtain⟨m,rfl⟩:=Nat.exists_eq_succ_of_ne_zero (show n≠0 by omega)
  have s0:=h.s0
  have r0:=h.r0
  by_cases hs:S=0
  ·subst hs
   have e:=h2.nil
   have g:(Int.gcd R 0:Int)=R:=by rw[Int.gcd_zero_right];omega
   refine⟨r,bf,nw,s.1,X,?_,by rw[g];exact h1,h3,by rw[g];exact h.xr,h.xb⟩
   rw[bg.l2,bg.r2,e,decide_eq_false (by simp),brF]
  ·obtain⟨q,t,u,v,w,e1,e2,e3,e4,k1,k2,nx⟩:=aa7 lf hlf hb h1 h2 h3 h4 h hs
   have sp:0 < S:=by omega
   have f1:=Int.fmod_lt_of_pos R sp
   have gs:(Int.gcd S (R.fmod S))=Int.gcd R S:=vJ (Int.mul_fdiv_add_fmod R S).symm sp nx.s0 f1 (by omega)
   obtain⟨g,bf',nw',e,X',i1,i2,i3,i4,i5⟩:=ih m s t nw w S (R.fmod S) Z _ (by omega) (by omega) h2 k1 h4 k2 nx
   rw[gs]at i2 i4
   refine⟨g,bf',nw',e,X',?_,i2,i3,i4,i5⟩
   rw[bg.l2,bg.r2,decide_eq_true (by have:=h2.ne hs;omega),brT]
   have x1:((r.1,r.2.1,()):Nb)=r:=rfl
   have x2:((s.1,s.2.1,()):Nb)=s:=rfl
   have x3:((nw.1,nw.2.1,()):Nb)=nw:=rfl
   have x4:((bf.1,bf.2.1,()):Nb)=bf:=rfl
   rw[x1,x2,x3,x4,e1,bdS,e2,bdS,e3,bdS,e4,bdS]
   exact i1
end
theorem aer(lf:Nat)(hlf:2000000000≤lf){a b:Int}(ha:0 < a∧a < C)(hb:0 < b∧b < C){x y g bf:Nb}{X:Int}(hx:RN x a 4096)(hy:RN y b 4096)(hg:RN g (Int.gcd a b) 4096)(hf:RN bf X 4096)(hX:b∣X*a-(Int.gcd a b:Int)):
  ∃ (Q R:List Int) (q u p m s t:Nb) (o:Nb),af.f lf y.2.1 g.2.1=some (Q,R,())∧aP.f lf bf (false,Q,())=some (q,u,())∧bn.f lf x u=some (p,())∧aU.f lf p=some (m,())∧
   dB.f lf g m=some (s,())∧aP.f lf s y=some (t,o,())∧(∃ c1,ak.f lf g=some (c1,()))∧(∃ c2,ak.f lf t=some (c2,()))∧
   ∃ U:Int,ak.f lf u=some (bs (Lib.itoa U),())∧0≤U∧U < C∧b∣U*a-(Int.gcd a b:Int):=by
 have hCK:=kY
 have gp:0 < (Int.gcd a b:Int):=by
  have:=Int.gcd_pos_of_ne_zero_left b (show a≠0 by omega)
  omega
 have g0:g.2.1≠[]:=fun e=>by have:=hg.ne (by omega);rw[e]at this;simp at this
 obtain⟨Q,R,d1,d2,d3,d4,d5,d6,d7⟩:=vz lf y.2.1 g.2.1 hy.dg hg.dg hy.tr hg.tr g0 (by have:=hy.len;omega) (by have:=hg.len;omega) hlf
 have yv:lv G y.2.1=b:=by rw[hy.natAbs];omega
 have gv:lv G g.2.1=(Int.gcd a b:Int):=by rw[hg.natAbs];omega
 rw[yv,gv]at d6
 rw[gv]at d7
 have Q0:=aS (B:=G) (by decide) d2
 have R0:=aS (B:=G) (by decide) d4
 have dv:(Int.gcd a b:Int)∣b:=Int.gcd_dvd_right a b
 have qv:(Int.gcd a b:Int)*lv G Q=b:=by
  obtain⟨k,hk⟩:=dv
  have w:=ab7 (M:=(Int.gcd a b:Int)) (a:=lv G R) (d:=lv G Q-k) (b:=0) gp (by rw[Int.mul_sub];omega) R0 d7 (by omega) gp
  have:lv G Q=k:=by omega
  rw[this];exact hk.symm
 have qp:0 < lv G Q:=by
  by_cases z:lv G Q=0
  ·rw[z,Int.mul_zero]at qv;omega
  ·omega
 have qb:lv G Q≤b:=by
  have:=Int.mul_le_mul_of_nonneg_right (show 1≤(Int.gcd a b:Int) by omega) Q0
  omega
 have hQ:RN (false,Q,()) (lv G Q) 4096:=(show RN (false,Q,()) (lv G Q) Q.length from⟨d2,d3,Nat.le_refl _,rfl⟩).small lf (by omega) (by omega)
 obtain⟨q,u,e1,k1,k2⟩:=rf lf hlf hf hQ (by omega) (by omega)
 have f0:=Int.fmod_nonneg_of_pos X qp
 have f1:=Int.fmod_lt_of_pos X qp
 obtain⟨p,e2,k3⟩:=aha lf (by omega) hx k2 (by omega)
 obtain⟨m,e3,k4⟩:=uf lf k3
 obtain⟨s,e4,k5⟩:=adu lf (hg.mono (show 4096≤4096+4096 by omega)) k4 (by omega) (by omega)
 obtain⟨t,o,e5,k6,k7⟩:=rf lf hlf k5 (hy.mono (by omega)) (by omega) (by omega)
 refine⟨Q,R,q,u,p,m,s,t,o,d1,e1,e2,e3,e4,e5,⟨_,qX lf hg (by omega) (by omega)⟩,⟨_,qX lf k6 (by omega) (by omega)⟩,X.fmod (lv G Q),qX lf k2 (by omega) (by omega),f0,by omega,?_⟩
 have mm:=Int.mul_fdiv_add_fmod X (lv G Q)
 obtain⟨k,hk⟩:=Int.gcd_dvd_left a b
 have e:X.fmod (lv G Q)*a-(Int.gcd a b:Int)=(X*a-(Int.gcd a b:Int))-b*(X.fdiv (lv G Q)*k):=by
  have e1:X.fmod (lv G Q)=X-lv G Q*X.fdiv (lv G Q):=by omega
  have e2:b*(X.fdiv (lv G Q)*k)=lv G Q*X.fdiv (lv G Q)*a:=by
   rw[←qv]
   generalize X.fdiv (lv G Q)=w at *
   generalize lv G Q=z at *
   generalize (Int.gcd a b:Int)=g at *
   rw[hk];grind
  rw[e1,e2,Int.sub_mul];omega
 rw[e]
 exact Int.dvd_sub hX (Int.dvd_mul_right _ _)
theorem agk(lf:Nat)(hb:Big lf){a b:Int}(ha:0 < a∧a < C)(hbb:0 < b∧b < C):
  ∃ (t1 t3:ByteArray) (U:Int),bg.f lf (bs (Lib.itoa a)) (bs (Lib.itoa b))=some (t1,bs (Lib.itoa U),t3,0,())∧0≤U∧U < C∧b∣U*a-(Int.gcd a b:Int):=by
 have hlf:=hb.1
 have hK:=hb.2
 have hCK:=kY
 have ka: -K < a∧a < K:=by omega
 have kb: -K < b∧b < K:=by omega
 obtain⟨x,y,e,k1,k2,n1,n2⟩:=qZ lf _ _ (chkK ka) (chkK kb) (by omega)
 rw[dH]at k1 k2
 have na:x.1=false:=by
  cases hx:x.1 with
  | false=>rfl
  | true =>
   have:=k1.val
   have:=aS (B:=G) (by decide) k1.dg
   rw[hx,if_pos rfl]at *;omega
 have nb:y.1=false:=by
  cases hx:y.1 with
  | false=>rfl
  | true =>
   have:=k2.val
   have:=aS (B:=G) (by decide) k2.dg
   rw[hx,if_pos rfl]at *;omega
 have y0:=k2.ne (by omega)
 have B0:Bz a b a b 1 0:=⟨hbb.1,ha.1,by omega,by simp,by simp,.inr ⟨by omega,by omega,by simp⟩,by omega⟩
 have one:RN (false,[1],()) 1 4096:=⟨by intro d hd;simp at hd;subst hd;decide,by unfold Tr;simp,by simp,by decide⟩
 have zer:RN (false,[],()) 0 4096:=⟨nofun,by unfold Tr;simp,by simp,by decide⟩
 have x1:RN (false,x.2.1,()) a 4096:=by have h:=k1;obtain⟨xn,xl,⟨⟩⟩:=x;simp only at na;subst na;exact h
 have y1:RN (false,y.2.1,()) b 4096:=by have h:=k2;obtain⟨xn,xl,⟨⟩⟩:=y;simp only at nb;subst nb;exact h
 obtain⟨q,t,u,v,w,s1,s2,s3,s4,s5,s6,nx⟩:=aa7 lf hlf hbb.2 x1 y1 one zer B0 (by omega)
 have gs:(Int.gcd b (a.fmod b))=Int.gcd a b:=vJ (Int.mul_fdiv_add_fmod a b).symm hbb.1 nx.s0 (Int.fmod_lt_of_pos a hbb.1) (by omega)
 have f1:(decide (((y.2.1.length:Nat):Int) > 0))=true:=decide_eq_true (by omega)
 have e0:(((y.2.1.length:Nat):Int)==0)=false:=beq_eq_false_iff_ne.2 (by omega)
 by_cases z:a.fmod b=0
 ·rw[z]at s5 nx gs
  have tn:=s5.nil
  rw[Int.gcd_zero_right,show b.natAbs=b.toNat by omega]at gs
  have hg:RN (false,y.2.1,()) (Int.gcd a b) 4096:=by rw[←gs,show((b.toNat:Nat):Int)=b by omega];exact y1
  have hX:b∣0*a-(Int.gcd a b:Int):=by
   rw[←gs,show((b.toNat:Nat):Int)=b by omega,Int.zero_mul,Int.zero_sub];exact Int.dvd_neg.2 (Int.dvd_refl _)
  obtain⟨Q,R,q',u',p',m',s',t',o',g1,g2,g3,g4,g5,g6,⟨c1,g7⟩,⟨c2,g8⟩,U,g9,U0,U1,U2⟩:=aer lf hlf ha hbb k1 k2 hg zer hX
  refine⟨c1,c2,U,?_,U0,U1,U2⟩
  rw[bg.f,e,bdS]
  simp only[bne_self_eq_false,brF,e0]
  rw[show lf+40=lf+38+1+1 from rfl,bg.l0,bg.r0,f1,brT,s1,bdS,s2,bdS,s3,bdS,s4,bdS]
  simp only
  rw[bg.l1,bg.r1,tn,decide_eq_false (by simp),brF]
  have xe:((x.1,x.2.1,()):Nb)=x:=rfl
  have ye:((y.1,y.2.1,()):Nb)=y:=rfl
  simp only[bdS,brT,brF,na,nb,Bool.false_eq_true]at *
  rw[ye]at g5 g7
  simp only[xe,ye,g1,g2,g3,g4,g5,g6,g7,g8,g9,bdS]
 ·obtain⟨q2,t2,u2,v2,w2,r1,r2,r3,r4,r5,r6,ny⟩:=aa7 lf hlf hbb.2 y1 s5 zer s6 nx z
  have nx0:=nx.s0
  have sp:0 < a.fmod b:=by omega
  have fl:=Int.fmod_lt_of_pos b sp
  have gs2:(Int.gcd (a.fmod b) (b.fmod (a.fmod b)))=Int.gcd b (a.fmod b):=vJ (Int.mul_fdiv_add_fmod b (a.fmod b)).symm sp ny.s0 fl (by omega)
  obtain⟨g,bf,nw,ee,X,l1,l2,l3,l4,l5,l6⟩:=aj7 lf hlf hbb.2 x.1 x.2.1 y.1 y.2.1 [1] (lf+37) (lf+38) t t2 w w2 _ _ _ _ (by have:=Int.fmod_lt_of_pos a hbb.1;omega) (by omega) s5 r5 s6 r6 ny
  rw[gs2,gs]at l2 l4
  obtain⟨Q,R,q',u',p',m',s',t',o',g1,g2,g3,g4,g5,g6,⟨c1,g7⟩,⟨c2,g8⟩,U,g9,U0,U1,U2⟩:=aer lf hlf ha hbb k1 k2 l2 l3 l4
  refine⟨c1,c2,U,?_,U0,U1,U2⟩
  rw[bg.f,e,bdS]
  simp only[bne_self_eq_false,brF,e0]
  rw[show lf+40=lf+38+1+1 from rfl,bg.l0,bg.r0,f1,brT,s1,bdS,s2,bdS,s3,bdS,s4,bdS]
  simp only
  have te:((t.1,t.2.1,()):Nb)=t:=rfl
  have we:((w.1,w.2.1,()):Nb)=w:=rfl
  rw[bg.l1,bg.r1,decide_eq_true (by have:=s5.ne z;omega),brT,te,we,r1,bdS,r2,bdS,r3,bdS,r4,bdS]
  simp only
  rw[l1]
  have xe:((x.1,x.2.1,()):Nb)=x:=rfl
  have ye:((y.1,y.2.1,()):Nb)=y:=rfl
  have ge:((g.1,g.2.1,()):Nb)=g:=rfl
  have be:((bf.1,bf.2.1,()):Nb)=bf:=rfl
  simp only[bdS,brT,brF,xe,ye,ge,be,g1,g2,g3,g4,g5,g6,g7,g8,g9]
  rw[na,brF]
end Go.N
namespace Go.N
open Go Go.Q Go.Rx
structure Vl where
 a:A
 c:Cg
deriving DecidableEq
abbrev VV:Type:=IV×(IV×Unit)
def vc(v:Vl):VV:=(ac v.a,cc v.c,())
def Ev:Vl:=⟨E0,Ec⟩
def onev(z:Int):Vl:=⟨⟨false,some z,some z⟩,⟨false,0,z⟩⟩
def loC(c:Cg)(a:Int):Int:=a+(c.r-a).fmod c.m
def hiC(c:Cg)(a:Int):Int:=a-(a-c.r).fmod c.m
def fin3(x y:Option Int)(c:Cg):Vl:=match x,y with
 | some x,some y=>if y < x then Ev else if x=y then onev x else⟨⟨false,clip x,clip y⟩,c⟩
 | x,y=>⟨⟨false,x.bind clip,y.bind clip⟩,c⟩
def red(a:A)(c:Cg):Vl:=if a.em=true then Ev else if c.em=true then Ev else if c.m=0 then(if inS (ofA a) c.r=true then onev c.r else Ev)else fin3 (a.lo.map (loC c)) (a.hi.map (hiC c)) c
def inV(v:Vl)(z:Int):Bool:=inS (ofA v.a) z&&inC v.c z
structure WfV(v:Vl):Prop where
 a:Wf v.a
 c:WfC v.c
 red:red v.a v.c=v
theorem lo_m{c:Cg}(p:0 < c.m)(a:Int):a≤loC c a∧loC c a < a+c.m:=by
 have:=Int.fmod_nonneg_of_pos (c.r-a) p
 have:=Int.fmod_lt_of_pos (c.r-a) p
 unfold loC;omega
theorem hi_m{c:Cg}(p:0 < c.m)(a:Int):hiC c a≤a∧a-c.m < hiC c a:=by
 have:=Int.fmod_nonneg_of_pos (a-c.r) p
 have:=Int.fmod_lt_of_pos (a-c.r) p
 unfold hiC;omega
theorem aeF{m a:Int}(p:0 < m):a.fmod m=0↔m∣a:=by
 rw[Int.fmod_eq_emod_of_nonneg _ (Int.le_of_lt p)]
 exact⟨Int.dvd_of_emod_eq_zero,Int.emod_eq_zero_of_dvd⟩
theorem acK{m:Int}(p:0 < m)(a:Int):m∣a-a.fmod m:=by
 rw[Int.fmod_eq_emod_of_nonneg _ (Int.le_of_lt p)]
 exact Int.dvd_self_sub_emod
theorem qP{c:Cg}(he:c.em=false)(hp:0≤c.m){z:Int}:inC c z=true↔c.m∣z-c.r:=by
 unfold inC dvd'
 rw[he]
 by_cases h:c.m=0
 ·rw[if_pos h,h];simp
 ·rw[if_neg h]
  simp only[Bool.not_false,Bool.true_and,decide_eq_true_eq]
  exact aeF (by omega)
theorem agQ{c:Cg}(p:0 < c.m)(a:Int):c.m∣loC c a-c.r:=by
 obtain⟨k,hk⟩:=acK p (c.r-a)
 exact⟨-k,by unfold loC;rw[Int.mul_neg,←hk];omega⟩
theorem agH{c:Cg}(p:0 < c.m)(a:Int):c.m∣hiC c a-c.r:=by
 obtain⟨k,hk⟩:=acK p (a-c.r)
 exact⟨k,by unfold hiC;rw[←hk];omega⟩
theorem agP{c:Cg}(p:0 < c.m){a:Int}(h:c.m∣a-c.r):loC c a=a:=by
 have:(c.r-a).fmod c.m=0:=(aeF p).2 (by have:=Int.dvd_neg.2 h;rwa [Int.neg_sub]at this)
 unfold loC;omega
theorem agG{c:Cg}(p:0 < c.m){a:Int}(h:c.m∣a-c.r):hiC c a=a:=by
 have:(a-c.r).fmod c.m=0:=(aeF p).2 h
 unfold hiC;omega
theorem oP{z:Int}(h: -C < z∧z < C):clip z=some z:=if_pos h
theorem aam{z:Int}(h:¬(-C < z∧z < C)):clip z=none:=if_neg h
theorem Wf.inS{a:A}(h:Wf a)(he:a.em=false){z:Int}(hz: -K < z∧z < K):inS (ofA a) z=true↔(∀ l,a.lo=some l→l≤z)∧∀ u,a.hi=some u→z≤u:=by
 unfold Go.N.inS ofA
 rw[he,if_neg (by simp)]
 simp only[Bool.and_eq_true,decide_eq_true_eq]
 cases a.lo with
 | none=>cases a.hi with
  | none=>simp[lox,hix,key];omega
  | some u=>simp[lox,hix,key];omega
 | some l=>cases a.hi with
  | none=>simp[lox,hix,key];omega
  | some u=>simp[lox,hix,key]
theorem aeX{z:Int}(hz: -C < z∧z < C):Wf (onev z).a∧WfC (onev z).c:=by
 have hC:=C_gt
 exact⟨⟨fun h=>by simp[onev]at h,hz,hz,Int.le_refl _⟩,⟨by simp only[onev];omega,hz,by simp[onev],fun h=>absurd rfl h⟩⟩
theorem aiZ:Wf Ev.a∧WfC Ev.c:=⟨akA,yK⟩
theorem ag5{z:Int}(hz: -C < z∧z < C):red (onev z).a (onev z).c=onev z:=by
 have h:inS (ofA (onev z).a) z=true:=by
  unfold inS ofA onev
  simp[lox,hix,key]
 unfold red
 rw[if_neg (by simp[onev]),if_neg (by simp[onev]),if_pos (by rfl)]
 exact if_pos h
theorem ajh:red Ev.a Ev.c=Ev:=if_pos rfl
theorem ad5{z:Int}(hz: -C < z∧z < C):WfV (onev z):=⟨(aeX hz).1,(aeX hz).2,ag5 hz⟩
theorem Ev_V:WfV Ev:=⟨aiZ.1,aiZ.2,ajh⟩
theorem ajB{c:Cg}(hc:WfC c)(he:c.em=false)(hm:c.m≠0){x y:Option Int}(hx:∀ v,x=some v→c.m∣v-c.r)(hy:∀ v,y=some v→c.m∣v-c.r)(bd:∀ v u,x=some v→y=some u→v=u→-C < v∧v < C):WfV (fin3 x y c):=by
 have p:0 < c.m:=by have:=hc.pos;omega
 have key3:∀ u v:Option Int,(∀ z,u=some z→(-C < z∧z < C)∧c.m∣z-c.r)→(∀ z,v=some z→(-C < z∧z < C)∧c.m∣z-c.r)→(∀ z w,u=some z→v=some w→z < w)→WfV ⟨⟨false,u,v⟩,c⟩:=by
  intro u v hu hv huv
  refine⟨⟨fun h=>by simp at h,?_,?_,?_⟩,hc,?_⟩
  ·cases u with
   | none=>trivial
   | some z=>exact(hu z rfl).1
  ·cases v with
   | none=>trivial
   | some z=>exact(hv z rfl).1
  ·cases u with
   | none=>trivial
   | some z=>cases v with
    | none=>trivial
    | some w=>exact Int.le_of_lt (huv z w rfl rfl)
  ·unfold red
   rw[if_neg (by simp),if_neg (by simp[he]),if_neg hm]
   cases u with
   | none=>cases v with
    | none=>rfl
    | some w =>
     simp only[Option.map,agG p (hv w rfl).2,fin3,Option.bind,oP (hv w rfl).1]
   | some z=>cases v with
    | none=>simp only[Option.map,agP p (hu z rfl).2,fin3,Option.bind,oP (hu z rfl).1]
    | some w =>
     have:=huv z w rfl rfl
     simp only[Option.map,agP p (hu z rfl).2,agG p (hv w rfl).2,fin3,oP (hu z rfl).1,oP (hv w rfl).1]
     rw[if_neg (by omega),if_neg (by omega)]
 have cl:∀ z w,clip z=some w→w=z∧-C < z∧z < C:=by
  intro z w h
  unfold clip at h;split at h
  ·cases h;exact⟨rfl,by assumption⟩
  ·cases h
 cases x with
 | none=>cases y with
  | none=>exact key3 none none (fun z h=>by cases h) (fun z h=>by cases h) (fun z w h=>by cases h)
  | some w=>exact key3 none (clip w) (fun z h=>by cases h) (fun z h=>by obtain⟨rfl,h⟩:=cl _ _ h;exact⟨h,hy _ rfl⟩) (fun z w h=>by cases h)
 | some z=>cases y with
  | none=>exact key3 (clip z) none (fun z h=>by obtain⟨rfl,h⟩:=cl _ _ h;exact⟨h,hx _ rfl⟩) (fun z h=>by cases h) (fun z w _ h=>by cases h)
  | some w =>
   unfold fin3
   simp only
   by_cases h1:w < z
   ·rw[if_pos h1];exact Ev_V
   ·rw[if_neg h1]
    by_cases h2:z=w
    ·rw[if_pos h2];exact ad5 (bd z w rfl rfl h2)
    ·rw[if_neg h2]
     exact key3 (clip z) (clip w) (fun z h=>by obtain⟨rfl,h⟩:=cl _ _ h;exact⟨h,hx _ rfl⟩) (fun z h=>by obtain⟨rfl,h⟩:=cl _ _ h;exact⟨h,hy _ rfl⟩) (fun u v hu hv=>by obtain⟨rfl,_⟩:=cl _ _ hu;obtain⟨rfl,_⟩:=cl _ _ hv;omega)
theorem aku{a:A}{c:Cg}(ha:Wf a)(hc:WfC c):WfV (red a c):=by
 unfold red
 by_cases e1:a.em=true
 ·rw[if_pos e1];exact Ev_V
 ·by_cases e2:c.em=true
  ·rw[if_neg e1,if_pos e2];exact Ev_V
  ·rw[if_neg e1,if_neg e2]
   by_cases z:c.m=0
   ·rw[if_pos z]
    split
    ·exact ad5 hc.r
    ·exact Ev_V
   ·rw[if_neg z]
    have p:0 < c.m:=by have:=hc.pos;omega
    have e2:c.em=false:=by simpa using e2
    refine ajB hc e2 z ?_ ?_ ?_
    ·intro v h
     cases hl:a.lo with
     | none=>rw[hl]at h;cases h
     | some l=>rw[hl]at h;cases h;exact agQ p l
    ·intro v h
     cases hl:a.hi with
     | none=>rw[hl]at h;cases h
     | some l=>rw[hl]at h;cases h;exact agH p l
    ·intro v u h1 h2 h3
     have lk:=ha.lo
     have hk:=ha.hi
     cases hl:a.lo with
     | none=>rw[hl]at h1;cases h1
     | some l =>
      cases hh:a.hi with
      | none=>rw[hh]at h2;cases h2
      | some k =>
       rw[hl]at h1 lk;rw[hh]at h2 hk
       cases h1;cases h2
       have:=lo_m p l
       have:=hi_m p k
       simp only[okb]at lk hk
       omega
end Go.N
namespace Go.N
open Go Go.Q Go.Rx
section
variable {c d:Cg}(hc:WfC c)(hd:WfC d){z w:Int}(hz:inC c z=true)(hw:inC d w=true)
include hc hd hz hw
end
theorem yg(m a:Int)(h:0≤m):dvd' m a=true↔m∣a:=by
 unfold dvd'
 by_cases h0:m=0
 ·rw[if_pos h0,h0];simp
 ·rw[if_neg h0,decide_eq_true_eq];exact aeF (by omega)
theorem pG{c d:Cg}(hd:WfC d)(h1:c.em=false)(h2:d.em=false):mg c d=true↔d.m∣c.m∧d.m∣c.r-d.r:=by
 unfold mg
 rw[if_neg (by simp[h1]),if_neg (by simp[h2]),Bool.and_eq_true,yg _ _ hd.pos,yg _ _ hd.pos]
theorem acT{c:Cg}(hc:WfC c):mg c c=true:=by
 cases e:c.em with
 | true=>unfold mg;rw[if_pos e]
 | false=>exact(pG hc e e).2 ⟨Int.dvd_refl _,by simp⟩
theorem ajp{c d:Cg}(h:cc c=cc d):c.em=d.em∧(c.em=false→c=d):=by
 unfold cc at h
 cases e1:c.em with
 | true=>cases e2:d.em with
  | true=>exact⟨rfl,nofun⟩
  | false=>rw[if_pos e1,if_neg (by simp[e2])]at h;have:=congrArg Prod.fst h;simp at this
 | false=>cases e2:d.em with
  | true=>rw[if_neg (by simp[e1]),if_pos e2]at h;have:=congrArg Prod.fst h;simp at this
  | false =>
   rw[if_neg (by simp[e1]),if_neg (by simp[e2])]at h
   simp only[Prod.mk.injEq]at h
   refine⟨rfl,fun _=>?_⟩
   have h1:=mZ (yO h.2.1)
   have h2:=mZ (yO h.2.2.1)
   cases c;cases d;simp_all
end Go.N
namespace Go.N
open Go Go.Q Go.Rx
noncomputable def metC (c d:Cg):Cg :=
 if c.em=true then Ec else if d.em=true then Ec
 else if c.m=0 then(if inC d c.r=true then c else Ec)
 else if d.m=0 then(if inC c d.r=true then d else Ec)
 else if dvd' (Int.gcd c.m d.m) (d.r-c.r)=true then clsF (c.m / (Int.gcd c.m d.m:Int)*d.m) (Classical.epsilon fun z=>c.m∣z-c.r∧d.m∣z-d.r)else Ec
theorem Cg.eta{c:Cg}(h:c.em=false):c=⟨false,c.m,c.r⟩:=by cases c;simp_all
theorem aan{L u v:Int}(h:0 < L)(d:L∣u-v):clsF L u=clsF L v:=by
 have e:(L.natAbs:Int)=L:=by omega
 unfold clsF
 rw[if_neg (show L≠0 by omega),if_neg (show L≠0 by omega),e,afL h d]
theorem aao{c:Cg}(hc:WfC c)(he:c.em=false){v:Int}(h:c.m≠0)(d:c.m∣v-c.r):clsF c.m v=c:=by
 have p:0 < c.m:=by have:=hc.pos;omega
 obtain⟨r0,r1⟩:=hc.rng h
 rw[aan p d,vk hc.pos hc.m hc.r,if_neg h,Int.fmod_eq_emod_of_nonneg _ hc.pos,Int.emod_eq_of_lt r0 r1]
 exact(Cg.eta he).symm
theorem adZ{c d:Cg}(ec:c.em=false)(ed:d.em=false)(pc:0 < c.m)(pd:0 < d.m){v:Int}(h1:c.m∣v-c.r)(h2:d.m∣v-d.r):metC c d=clsF (c.m / (Int.gcd c.m d.m:Int)*d.m) v:=by
 have g:dvd' (Int.gcd c.m d.m) (d.r-c.r)=true:=by
  refine(yg _ _ (Int.natCast_nonneg _)).2 ?_
  have:=Int.dvd_sub (Int.dvd_trans (Int.gcd_dvd_left c.m d.m) h1) (Int.dvd_trans (Int.gcd_dvd_right c.m d.m) h2)
  rwa [show v-c.r-(v-d.r)=d.r-c.r by omega]at this
 unfold metC
 rw[if_neg (by simp[ec]),if_neg (by simp[ed]),if_neg (by omega),if_neg (by omega),if_pos g]
 obtain⟨k1,k2⟩:=Classical.epsilon_spec (p:=fun z=>c.m∣z-c.r∧d.m∣z-d.r) ⟨v,h1,h2⟩
 refine aan (lcm_pos pc pd) (lcm_dvd pc pd ?_ ?_)
 ·have:=Int.dvd_sub k1 h1
  rwa [show ∀ x:Int,x-c.r-(v-c.r)=x-v from fun x=>by omega]at this
 ·have:=Int.dvd_sub k2 h2
  rwa [show ∀ x:Int,x-d.r-(v-d.r)=x-v from fun x=>by omega]at this
theorem zo{a b:Int}(hb:0 < b)(h:b∣a):(Int.gcd a b:Int)=b:=by
 have:Int.gcd a b=b.natAbs:=by
  have:=Int.gcd_eq_right_iff_dvd (Int.le_of_lt hb) (a:=a)
  first
   | exact Int.ofNat.inj (by have:=this.2 h;rw[←Int.natAbs_of_nonneg (Int.le_of_lt hb)]at this;exact this)
   | omega
 omega
section
variable {c d:Cg}(hc:WfC c)(hd:WfC d)(ec:c.em=false)(ed:d.em=false)
include hc hd ec ed
theorem xM(h:mg c d=true):metC c d=c:=by
 obtain⟨a,b⟩:=(pG hd ec ed).1 h
 by_cases z:c.m=0
 ·unfold metC
  rw[if_neg (by simp[ec]),if_neg (by simp[ed]),if_pos z,if_pos ((qP ed hd.pos).2 b)]
 ·have pc:0 < c.m:=by have:=hc.pos;omega
  have pd:0 < d.m:=by
   have:=hd.pos
   by_cases e:d.m=0
   ·rw[e]at a;have:=Int.zero_dvd.1 a;omega
   ·omega
  rw[adZ ec ed pc pd (v:=c.r) (by simp) b,zo pd a,Int.ediv_mul_cancel a]
  exact aao hc ec z (by simp)
theorem ac7(h:mg d c=true):metC c d=d:=by
 obtain⟨a,b⟩:=(pG hc ed ec).1 h
 by_cases z:c.m=0
 ·rw[z]at a b
  have k1:d.m=0:=Int.zero_dvd.1 a
  have k2:d.r=c.r:=by have:=Int.zero_dvd.1 b;omega
  have e:c=d:=by rw[Cg.eta ec,Cg.eta ed,z,k1,k2]
  subst e
  exact xM hc hd ec ed (acT hc)
 ·by_cases z':d.m=0
  ·unfold metC
   rw[if_neg (by simp[ec]),if_neg (by simp[ed]),if_neg z,if_pos z',if_pos ((qP ec hc.pos).2 b)]
  ·have pc:0 < c.m:=by have:=hc.pos;omega
   have pd:0 < d.m:=by have:=hd.pos;omega
   have g:(Int.gcd c.m d.m:Int)=c.m:=by rw[Int.gcd_comm];exact zo pc a
   rw[adZ ec ed pc pd (v:=d.r) b (by simp),g,Int.ediv_self (by omega),Int.one_mul]
   exact aao hd ed z' (by simp)
theorem agV(h1:¬mg c d=true)(h2:¬mg d c=true)(h:c.m=0∨d.m=0∨dvd' (Int.gcd c.m d.m) (d.r-c.r)=false):metC c d=Ec:=by
 unfold metC
 rw[if_neg (by simp[ec]),if_neg (by simp[ed])]
 by_cases z:c.m=0
 ·rw[if_pos z,if_neg]
  intro x
  exact h1 ((pG hd ec ed).2 ⟨by rw[z];exact Int.dvd_zero _,(qP ed hd.pos).1 x⟩)
 ·rw[if_neg z]
  by_cases z':d.m=0
  ·rw[if_pos z',if_neg]
   intro x
   exact h2 ((pG hc ed ec).2 ⟨by rw[z'];exact Int.dvd_zero _,(qP ec hc.pos).1 x⟩)
  ·rw[if_neg z']
   rcases h with h | h | h
   ·exact absurd h z
   ·exact absurd h z'
   ·rw[h,if_neg (by simp)]
end
theorem aiq{c d:Cg}(hc:WfC c)(hd:WfC d):WfC (metC c d):=by
 unfold metC;split;exact yK;split;exact yK;split
 ·split;exact hc;exact yK
 ·split
  ·split;exact hd;exact yK
  ·split;exact abb;exact yK
end Go.N
namespace Go.N
open Go Go.Q Go.Rx
theorem aeT{a b A B:Int}(ha: -A≤a∧a≤A)(hb: -B≤b∧b≤B): -(A*B)≤a*b∧a*b≤A*B:=by
 have h1:=Int.mul_nonneg (show 0≤A-a by omega) (show 0≤B+b by omega)
 have h2:=Int.mul_nonneg (show 0≤A+a by omega) (show 0≤B-b by omega)
 have h3:=Int.mul_nonneg (show 0≤A-a by omega) (show 0≤B-b by omega)
 have h4:=Int.mul_nonneg (show 0≤A+a by omega) (show 0≤B+b by omega)
 rw[Int.sub_mul,Int.mul_add,Int.mul_add]at h1
 rw[Int.add_mul,Int.mul_sub,Int.mul_sub]at h2
 rw[Int.sub_mul,Int.mul_sub,Int.mul_sub]at h3
 rw[Int.add_mul,Int.mul_add,Int.mul_add]at h4
 omega
set_option exponentiation.threshold 5000 in
theorem C4_K:C*(C+C)*C+C+10 < K∧C*(C+C)+10 < K:=by unfold C K;decide
theorem zh{a b:Int}(ha:0 < a):(Int.gcd a b:Int)*b.fdiv (Int.gcd a b:Int)=b∧b.fdiv (Int.gcd a b:Int)=b / (Int.gcd a b:Int)∧0 < (Int.gcd a b:Int):=by
 have gp:0 < (Int.gcd a b:Int):=by
  have:=Int.gcd_pos_of_ne_zero_left b (show a≠0 by omega)
  omega
 have e:b.fdiv (Int.gcd a b:Int)=b / (Int.gcd a b:Int):=Int.fdiv_eq_ediv_of_nonneg _ (Int.le_of_lt gp)
 exact⟨by rw[e];exact Int.mul_ediv_cancel' (Int.gcd_dvd_right _ _),e,gp⟩
section
variable (lf:Nat)(hb:Big lf){a b:Int}(ha:0 < a∧a < C)(hbb:0 < b∧b < C)
include hb ha hbb
end
section
variable (lf:Nat)(hb:Big lf){c d:Cg}(hc:WfC c)(hd:WfC d)
include hb hc hd
theorem agU(ec:c.em=false)(ed:d.em=false)(pc:0 < c.m)(pd:0 < d.m)(dv:dvd' (Int.gcd c.m d.m) (d.r-c.r)=true){U:Int}(h:d.m∣U*c.m-(Int.gcd c.m d.m:Int)):
  metC c d=clsF (c.m / (Int.gcd c.m d.m:Int)*d.m) (c.r+U*(d.r-c.r).fdiv (Int.gcd c.m d.m:Int)*c.m):=by
 obtain⟨_,_,gp⟩:=zh (b:=d.m) pc
 have dd:=(yg _ _ (Int.natCast_nonneg _)).1 dv
 have q:(d.r-c.r)=(Int.gcd c.m d.m:Int)*(d.r-c.r).fdiv (Int.gcd c.m d.m:Int):=by
  rw[Int.fdiv_eq_ediv_of_nonneg _ (Int.le_of_lt gp)];exact(Int.mul_ediv_cancel' dd).symm
 refine adZ ec ed pc pd ?_ (crt gp pc pd (Int.gcd_dvd_left _ _) (Int.gcd_dvd_right _ _) h q)
 rw[show ∀ t:Int,c.r+t-c.r=t from fun t=>by omega]
 exact Int.dvd_mul_left _ _
theorem afU{U:Int}(u0:0≤U)(u1:U < C)(pc:0 < c.m)(pd:0 < d.m):
  (-K < (d.r-c.r).fdiv (Int.gcd c.m d.m:Int)∧(d.r-c.r).fdiv (Int.gcd c.m d.m:Int) < K)∧(-K < U*(d.r-c.r).fdiv (Int.gcd c.m d.m:Int)∧U*(d.r-c.r).fdiv (Int.gcd c.m d.m:Int) < K)∧
  (-K < U*(d.r-c.r).fdiv (Int.gcd c.m d.m:Int)*c.m∧U*(d.r-c.r).fdiv (Int.gcd c.m d.m:Int)*c.m < K)∧(-K < c.r+U*(d.r-c.r).fdiv (Int.gcd c.m d.m:Int)*c.m∧c.r+U*(d.r-c.r).fdiv (Int.gcd c.m d.m:Int)*c.m < K):=by
 obtain⟨k1,k2⟩:=C4_K
 have hC:=C_gt
 have hCK:=kY
 have hCC:=CC_K
 have h4:0≤C*C:=Int.mul_nonneg (by omega) (by omega)
 obtain⟨_,_,gp⟩:=zh (b:=d.m) pc
 have r1:=hc.r
 have r2:=hd.r
 have m1:=hc.m
 have e1:=acG (x:=d.r-c.r) (y:=(Int.gcd c.m d.m:Int)) (by omega)
 have e2:=aeT (a:=U) (b:=(d.r-c.r).fdiv (Int.gcd c.m d.m:Int)) (A:=C) (B:=C+C) (by omega) (by omega)
 have e3:=aeT (b:=c.m) (B:=C) e2 (by omega)
 refine⟨?_,?_,?_,?_⟩<;>omega
theorem ajK:kR.f lf (cc c) (cc d)=some (cc (metC c d),0,()):=by
 obtain⟨b1,b2,b3,b4,b5,b6,b7,b8,b9,b10⟩:=bounds lf hb hc hd
 have hlf:=hb.1
 rw[kR.f,cboth lf hb hc hd,bdS]
 cases ec:c.em with
 | true =>
  have:metC c d=Ec:=by unfold metC;rw[if_pos ec]
  rw[this,rH ec];simp only[bne_self_eq_false,brF,brT,eF.f,bdS];rfl
 | false=>cases ed:d.em with
  | true =>
   have:metC c d=Ec:=by unfold metC;rw[if_neg (by simp[ec]),if_pos ed]
   rw[this,jo ec,rH ed];simp only[bne_self_eq_false,brF,brT,eF.f,bdS];rfl
  | false =>
   have e1:(cc c).1=false:=by rw[jo ec]
   have e2:(cc d).1=false:=by rw[jo ed]
   simp only[bne_self_eq_false,brF,e1,e2]
   rw[lZ.f,acS lf hb hc hd,bdS]
   cases i1:mg c d with
   | true=>simp only[brT,bdS];rw[xM hc hd ec ed i1]
   | false =>
    simp only[brF,acS lf hb hd hc,bdS]
    cases i2:mg d c with
    | true=>simp only[brT,bdS];rw[ac7 hc hd ec ed i2]
    | false =>
     have k1:(cc d).2.1=bs (Lib.itoa d.m):=by rw[jo ed]
     have k2:(cc d).2.2.1=bs (Lib.itoa d.r):=by rw[jo ed]
     have k3:(cc c).2.1=bs (Lib.itoa c.m):=by rw[jo ec]
     have k4:(cc c).2.2.1=bs (Lib.itoa c.r):=by rw[jo ec]
     have r1:=hc.r
     have r2:=hd.r
     have hC:=C_gt
     have hCK:=kY
     have b5': -K < d.r-c.r∧d.r-c.r < K:=by omega
     have n:=agV hc hd ec ed (by simp[i1]) (by simp[i2])
     simp only[brF,k1,k2,k3,k4,adI lf hb b1 b3,yU lf hb b4 b2 b5',bdS,beq0,eF.f]
     by_cases z1:c.m=0
     ·rw[n (.inl z1),decide_eq_true z1,brT,bdS];rfl
     ·rw[decide_eq_false z1,brF]
      by_cases z2:d.m=0
      ·rw[n (.inr (.inl z2)),decide_eq_true z2,brT,bdS];rfl
      ·rw[decide_eq_false z2,brF,wP lf hlf (abr b1 b3) b5',bdS]
       simp only
       cases dv:dvd' (Int.gcd c.m d.m) (d.r-c.r)with
       | false=>rw[n (.inr (.inr dv))];simp only[Bool.not_false,brT,bdS];rfl
       | true =>
        have pc:0 < c.m:=by have:=hc.pos;omega
        have pd:0 < d.m:=by have:=hd.pos;omega
        obtain⟨_,_,gp⟩:=zh (b:=d.m) pc
        obtain⟨t1,t3,U,u1,u2,u3,u4⟩:=agk lf hb ⟨pc,hc.m.2⟩ ⟨pd,hd.m.2⟩
        obtain⟨s1,s2,s3,s4⟩:=afU lf hb hc hd u2 u3 pc pd
        have lc: -K < c.m / (Int.gcd c.m d.m:Int)*d.m∧c.m / (Int.gcd c.m d.m:Int)*d.m < K:=by
         have h1:=lcm_pos pc pd
         have x:=Int.ediv_le_self (Int.gcd c.m d.m:Int) (Int.le_of_lt pc)
         have:=Int.mul_le_mul_of_nonneg_right x (Int.le_of_lt pd)
         omega
        simp only[Bool.not_true,brF,u1,bdS,af0 lf hlf b5' (abr b1 b3) (by omega),fG.f,agq lf hb (x:=U) (y:=(d.r-c.r).fdiv (Int.gcd c.m d.m:Int)) (by omega) s1 s2,akk lf hb ⟨pc,hc.m.2⟩ ⟨pd,hd.m.2⟩,
         agq lf hb s2 b1 s3,ajo lf hb b2 s3 s4,aev lf hlf lc s4]
        rw[agU lf hb hc hd ec ed pc pd dv u4]
end
end Go.N
namespace Go.N
open Go Go.Q Go.Rx
theorem clipV(lf:Nat){o:Option Int}(h:okb K o):aY.f lf (ob o)=some (ob (o.bind clip),()):=by
 rw[aY.f]
 cases o with
 | none=>rw[show ob none=bs [] from rfl,nK,bdS,fV,show body []=[] from rfl,decide_eq_false (by simp),brF];rfl
 | some z =>
  have hl:=lJ h
  rw[show ob (some z)=bs (Lib.itoa z) from rfl,nK,bdS,fV]
  have e:(((body (Lib.itoa z)).length:Nat):Int)=(sz z:Int):=rfl
  simp only[e,Option.bind]
  by_cases c: -C < z∧z < C
  ·have:=(sz_C z).2 c
   rw[decide_eq_false (by omega),brF,oP c];rfl
  ·have:¬sz z≤100:=fun x=>c ((sz_C z).1 x)
   rw[decide_eq_true (by omega),brT,aam c];rfl
set_option exponentiation.threshold 5000 in
theorem aiX:C+C < Dd:=by
 have e:(10 ^ 100+10 ^ 100:Nat) < 10 ^ 1000:=by
  have:(10:Nat) ^ 1000=10 ^ 100*10 ^ 900:=by rw[←Nat.pow_add]
  rw[this]
  have:(2:Nat) < 10 ^ 900:=Nat.lt_of_lt_of_le (show(2:Nat) < 10 ^ 1 by decide) (Nat.pow_le_pow_right (by decide) (by decide))
  have h:=Nat.mul_lt_mul_of_pos_left this (show 0 < 10 ^ 100 by exact Nat.pow_pos (by decide))
  omega
 unfold C Dd;exact Int.ofNat_lt.2 e
theorem evV:((((true,(⟨#[]⟩:ByteArray),(⟨#[]⟩:ByteArray),()),(true,(⟨#[]⟩:ByteArray),(⟨#[]⟩:ByteArray),()),()):VV))=vc Ev:=rfl
theorem onV(z:Int):(((false,bs (Lib.itoa z),bs (Lib.itoa z),()),(false,(⟨#[48]⟩:ByteArray),bs (Lib.itoa z),()),()):VV)=vc (onev z):=by
 rw[i0];unfold vc onev;rw[jo rfl];rfl
theorem aaJ(x:Int):((bs (Lib.itoa x)).toList==(⟨#[]⟩:ByteArray).toList)=false:=by
 have:=uQ (some x)
 rw[show ob (some x)=bs (Lib.itoa x) from rfl]at this
 rw[this];exact decide_eq_false nofun
theorem ob_e:((ob none).toList==(⟨#[]⟩:ByteArray).toList)=true:=by rw[uQ];rfl
theorem aiK(x y:Int):decide (sgn (x-y) > 0)=decide (y < x):=ahv x y
theorem akx(x y:Int):(sgn (x-y)==0)=decide (x=y):=by
 rw[Bool.eq_iff_iff,beq_iff_eq,decide_eq_true_eq]
 unfold sgn;(repeat' split)<;>omega
section
variable (lf:Nat)(hb:Big lf){a:A}{c:Cg}(ha:Wf a)(hc:WfC c)
include hb ha hc
theorem lo_K{l:Int}(h: -C < l∧l < C)(p:0 < c.m): -K < loC c l∧loC c l < K∧-Dd < loC c l∧loC c l < Dd:=by
 have:=lo_m p l
 have:=hc.m
 have:=C_gt
 have:=CC_K
 have hD:=DD_K
 have hCD:=lY
 have h4:C*2≤C*C:=Int.mul_le_mul_of_nonneg_left (by omega) (by omega)
 have h5:=aiX
 have h6:=Dd_K
 omega
theorem hi_K{l:Int}(h: -C < l∧l < C)(p:0 < c.m): -K < hiC c l∧hiC c l < K∧-Dd < hiC c l∧hiC c l < Dd:=by
 have:=hi_m p l
 have:=hc.m
 have:=C_gt
 have h5:=aiX
 have h6:=Dd_K
 omega
theorem ab5:iK.f lf (ac a) (cc c)=some (vc (red a c),()):=by
 have hlf:=hb.1
 have h3:200000≤lf:=by omega
 have hCD:=lY
 rw[iK.f]
 simp only[show(ac a).1=a.em from rfl,show(ac a).2.1=ob a.lo from rfl,show(ac a).2.2.1=ob a.hi from rfl,jq.f,bdS,evV,kF.f]
 unfold red
 cases ea:a.em with
 | true=>simp only[brT,if_true]
 | false =>
  cases ec:c.em with
  | true=>rw[rH ec];simp only[brT,brF,if_true,if_false,Bool.false_eq_true]
  | false =>
   have e1:(cc c).1=false:=by rw[jo ec]
   have e2:(cc c).2.1=bs (Lib.itoa c.m):=by rw[jo ec]
   have e3:(cc c).2.2.1=bs (Lib.itoa c.r):=by rw[jo ec]
   simp only[brF,if_false,Bool.false_eq_true,e1,e2,e3,beq0]
   by_cases m:c.m=0
   ·rw[decide_eq_true m,brT,if_pos m,acP lf h3 ha (CK hc.r),bdS]
    simp only
    cases hi:inS (ofA a) c.r with
    | true=>simp only[Bool.not_true,brF,if_true,onV]
    | false=>simp only[Bool.not_false,brT,if_false,Bool.false_eq_true]
   ·have p:0 < c.m:=by have:=hc.pos;omega
    rw[decide_eq_false m,brF,if_neg m]
    have kl:=ha.lo
    have kh:=ha.hi
    have L:=fun {l:Int} (h: -C < l∧l < C)=>aif lf hb hc ec (a:=l) (by omega)
    have G':=fun {l:Int} (h: -C < l∧l < C)=>adR lf hb hc ec (a:=l) (by omega)
    have ab:∀ l,aboveC c l=some (loC c l):=fun l=>if_neg m
    have be:∀ l,belowC c l=some (hiC c l):=fun l=>if_neg m
    have cN:=clipV lf (o:=none) trivial
    cases hl:a.lo with
    | none=>cases hh:a.hi with
     | none=>simp only[ob_e,Bool.not_true,brF,cN,bdS,Option.map,fin3];rfl
     | some u =>
      rw[hh]at kh
      have g:=G' kh
      rw[be]at g
      have kk:=hi_K lf hb ha hc kh p
      have cU:=clipV lf (o:=some (hiC c u)) ⟨kk.1,kk.2.1⟩
      simp only[show ob (some u)=bs (Lib.itoa u) from rfl,show ob (some (hiC c u))=bs (Lib.itoa (hiC c u)) from rfl]at *
      simp only[ob_e,aaJ,Bool.not_true,Bool.not_false,brF,brT,g,cN,cU,bdS,Option.map,fin3];rfl
    | some l =>
     rw[hl]at kl
     have g:=L kl
     rw[ab]at g
     have kk:=lo_K lf hb ha hc kl p
     have cL:=clipV lf (o:=some (loC c l)) ⟨kk.1,kk.2.1⟩
     cases hh:a.hi with
     | none =>
      simp only[show ob (some l)=bs (Lib.itoa l) from rfl,show ob (some (loC c l))=bs (Lib.itoa (loC c l)) from rfl]at *
      simp only[ob_e,aaJ,Bool.not_true,Bool.not_false,brF,brT,g,cN,cL,bdS,Option.map,fin3];rfl
     | some u =>
      rw[hh]at kh
      have g2:=G' kh
      rw[be]at g2
      have kk2:=hi_K lf hb ha hc kh p
      have cU:=clipV lf (o:=some (hiC c u)) ⟨kk2.1,kk2.2.1⟩
      have cm:=wL lf _ _ (chkK ⟨kk.1,kk.2.1⟩) (chkK ⟨kk2.1,kk2.2.1⟩) h3
      rw[dH,dH]at cm
      simp only[show ob (some l)=bs (Lib.itoa l) from rfl,show ob (some (loC c l))=bs (Lib.itoa (loC c l)) from rfl,show ob (some u)=bs (Lib.itoa u) from rfl,show ob (some (hiC c u))=bs (Lib.itoa (hiC c u)) from rfl]at *
      simp only[ob_e,aaJ,Bool.not_true,Bool.not_false,brF,brT,g,g2,cm,bdS,aiK,akx,Option.map,fin3]
      by_cases h1:hiC c u < loC c l
      ·rw[decide_eq_true h1,brT,if_pos h1]
      ·rw[decide_eq_false h1,brF,if_neg h1]
       by_cases h2:loC c l=hiC c u
       ·rw[decide_eq_true h2,brT,if_pos h2,onV]
       ·rw[decide_eq_false h2,brF,if_neg h2,cL,bdS,cU,bdS];rfl
theorem ahi:dh.f lf (ac a) (cc c)=some (vc (red a c),()):=by
 have hlf:=hb.1
 have h3:200000≤lf:=by omega
 have hCD:=lY
 rw[dh.f]
 simp only[show(ac a).1=a.em from rfl,show(ac a).2.1=ob a.lo from rfl,show(ac a).2.2.1=ob a.hi from rfl,dw.f,gI.f,jU.f,bdS,evV]
 unfold red
 cases ea:a.em with
 | true=>simp only[brT,if_true]
 | false =>
  cases ec:c.em with
  | true=>rw[rH ec];simp only[brT,brF,if_true,if_false,Bool.false_eq_true]
  | false =>
   have e1:(cc c).1=false:=by rw[jo ec]
   have e2:(cc c).2.1=bs (Lib.itoa c.m):=by rw[jo ec]
   have e3:(cc c).2.2.1=bs (Lib.itoa c.r):=by rw[jo ec]
   simp only[brF,if_false,Bool.false_eq_true,e1,e2,e3,beq0]
   by_cases m:c.m=0
   ·rw[decide_eq_true m,brT,if_pos m,ajE lf h3 ha (CK hc.r),bdS]
    simp only
    cases hi:inS (ofA a) c.r with
    | true =>
     simp only[Bool.not_true,brF,if_true,←onV]
     rw[jo ec,m,i0]
    | false=>simp only[Bool.not_false,brT,if_false,Bool.false_eq_true]
   ·have p:0 < c.m:=by have:=hc.pos;omega
    rw[decide_eq_false m,brF,if_neg m]
    have kl:=ha.lo
    have kh:=ha.hi
    have L:=fun {l:Int} (h: -C < l∧l < C)=>aen lf hb hc ec (a:=l) (by omega)
    have G':=fun {l:Int} (h: -C < l∧l < C)=>ahZ lf hb hc ec (a:=l) (by omega)
    have ab:∀ l,aboveC c l=some (loC c l):=fun l=>if_neg m
    have be:∀ l,belowC c l=some (hiC c l):=fun l=>if_neg m
    have toL:∀ x y:Option Int,okb K x→okb K y→gt? x y=false→toA ⟨lox x,hix y⟩=⟨false,x.bind clip,y.bind clip⟩:=by
     intro x y hx hy h
     unfold toA;rw[agA hx hy,h,if_neg (by simp),aej,aei]
    cases hl:a.lo with
    | none=>cases hh:a.hi with
     | none =>
      simp only[ob_e,Bool.not_true,brF,vP lf h3 none none trivial trivial,toL none none trivial trivial rfl,bdS,Option.map,fin3];rfl
     | some u =>
      rw[hh]at kh
      have g:=G' kh
      rw[be]at g
      have kk:=hi_K lf hb ha hc kh p
      have rg:=vP lf h3 none (some (hiC c u)) trivial ⟨kk.1,kk.2.1⟩
      rw[toL none (some (hiC c u)) trivial ⟨kk.1,kk.2.1⟩ rfl]at rg
      simp only[show ob (some u)=bs (Lib.itoa u) from rfl,show ob (some (hiC c u))=bs (Lib.itoa (hiC c u)) from rfl]at *
      simp only[ob_e,aaJ,Bool.not_true,Bool.not_false,brF,brT,g,rg,bdS,Option.map,fin3];rfl
    | some l =>
     rw[hl]at kl
     have g:=L kl
     rw[ab]at g
     have kk:=lo_K lf hb ha hc kl p
     cases hh:a.hi with
     | none =>
      have rg:=vP lf h3 (some (loC c l)) none ⟨kk.1,kk.2.1⟩ trivial
      rw[toL (some (loC c l)) none ⟨kk.1,kk.2.1⟩ trivial rfl]at rg
      simp only[show ob (some l)=bs (Lib.itoa l) from rfl,show ob (some (loC c l))=bs (Lib.itoa (loC c l)) from rfl]at *
      simp only[ob_e,aaJ,Bool.not_true,Bool.not_false,brF,brT,g,rg,bdS,Option.map,fin3];rfl
     | some u =>
      rw[hh]at kh
      have g2:=G' kh
      rw[be]at g2
      have kk2:=hi_K lf hb ha hc kh p
      have ls:=lessI lf h3 (x:=hiC c u) (y:=loC c l) ⟨kk2.1,kk2.2.1⟩ ⟨kk.1,kk.2.1⟩
      have rg:=vP lf h3 (some (loC c l)) (some (hiC c u)) ⟨kk.1,kk.2.1⟩ ⟨kk2.1,kk2.2.1⟩
      have T:=toL (some (loC c l)) (some (hiC c u)) ⟨kk.1,kk.2.1⟩ ⟨kk2.1,kk2.2.1⟩
      simp only[show ob (some l)=bs (Lib.itoa l) from rfl,show ob (some (loC c l))=bs (Lib.itoa (loC c l)) from rfl,show ob (some u)=bs (Lib.itoa u) from rfl,show ob (some (hiC c u))=bs (Lib.itoa (hiC c u)) from rfl]at *
      have eqt:((bs (Lib.itoa (loC c l))).toList==(bs (Lib.itoa (hiC c u))).toList)=decide (loC c l=hiC c u):=by
       rw[kJ];simp only[decide_eq_decide];exact⟨mZ,fun e=>by rw[e]⟩
      simp only[ob_e,aaJ,Bool.not_true,Bool.not_false,brF,brT,g,g2,ls,bdS,eqt,Option.map,fin3]
      by_cases h1:hiC c u < loC c l
      ·rw[decide_eq_true h1,brT,if_pos h1]
      ·rw[decide_eq_false h1,brF,if_neg h1]
       by_cases h2:loC c l=hiC c u
       ·have kC: -C < loC c l∧loC c l < C:=by
         have:=lo_m p l
         have:=hi_m p u
         simp only[okb]at kl kh
         omega
        have hC:=C_gt
        have hCK:=kY
        rw[decide_eq_true h2,brT,if_pos h2,bQ.f,iT.f,i0,wJ lf h3 (m:=0) (by omega) (CK kC),bdS,bdS]
        simp only
        rw[vk (Int.le_refl 0) (by omega) kC,if_pos rfl,jo rfl]
        simp only[←i0,BEq.rfl,Bool.not_true,brF,bdS]
        rw[onV]
       ·rw[decide_eq_false h2,brF,if_neg h2,rg,T (by unfold gt?;simp;omega),bdS];rfl
end
end Go.N
namespace Go.N
open Go Go.Q Go.Rx
section
variable (lf:Nat)(h3:200000≤lf)
include h3
end
theorem ais{s:Sp}(h:oks C s):oks C (negS s):=qg h ⟨trivial,yx (by decide) (by decide)⟩
theorem aiW{s:Sp}(h:oks C s):oks C (zerS s):=qg h ⟨yx (by decide) (by decide),yx (by decide) (by decide)⟩
section
variable (lf:Nat)(h3:200000≤lf)
include h3
end
end Go.N
namespace Go.N
open Go Go.Q Go.Rx
theorem ajR(x:X):sg (xneg x)= -sg x:=by
 cases x with
 | ni=>rfl
 | pi=>rfl
 | fin z=>simp only[xneg,sg,sgn];(repeat' split)<;>omega
theorem kV(x y:X):xmul x y=xmul y x:=by
 unfold xmul
 rw[Int.mul_comm (sg y) (sg x)]
 split
 ·rfl
 ·cases x<;>cases y<;>simp only[Int.mul_comm]
theorem ahQ(x y:X):xmul (xneg x) y=xneg (xmul x y):=by
 unfold xmul
 rw[ajR,Int.neg_mul]
 have a:=sg3 x
 have b:=sg3 y
 by_cases h:sg x*sg y=0
 ·rw[h,if_pos (by decide),if_pos rfl];rfl
 ·rw[if_neg (by omega),if_neg h]
  have one:sg x*sg y=1∨sg x*sg y= -1:=by
   rcases a with a | a | a<;>rcases b with b | b | b<;>rw[a,b]at h⊢<;>simp at h⊢
  cases x<;>cases y<;>simp only[xneg,Int.neg_mul]<;>rcases one with o | o<;>rw[o]<;>rfl
theorem aa2(x y:X):xmul x (xneg y)=xneg (xmul x y):=by rw[kV,ahQ,kV]
theorem uO{x y:X}:(key (xmul x y) < 0↔sg x*sg y < 0)∧(key (xmul x y)=0↔sg x*sg y=0):=by
 have hK:=K_gt
 have a:=sg3 x
 have b:=sg3 y
 unfold xmul
 by_cases h:sg x*sg y=0
 ·rw[if_pos h,h];simp[key]
 ·rw[if_neg h]
  have one:sg x*sg y=1∨sg x*sg y= -1:=by
   rcases a with a | a | a<;>rcases b with b | b | b<;>rw[a,b]at h⊢<;>simp at h⊢
  have inf:(key (if sg x*sg y=1 then X.pi else X.ni) < 0↔sg x*sg y < 0)∧(key (if sg x*sg y=1 then X.pi else X.ni)=0↔sg x*sg y=0):=by
   rcases one with o | o<;>rw[o]
   ·rw[if_pos rfl,show key X.pi=K from rfl];omega
   ·rw[if_neg (by decide),show key X.ni= -K from rfl];omega
  cases x with
  | fin u=>cases y with
   | fin v =>
    simp only[key]
    have ku:=sQ (.fin u)
    have kv:=sQ (.fin v)
    simp only[key]at ku kv
    rcases a with a | a | a<;>rcases b with b | b | b<;>rw[a,b]at h⊢<;>simp at h⊢
    ·have:=Int.mul_pos_of_neg_of_neg (show u < 0 by omega) (show v < 0 by omega);omega
    ·have:=Int.mul_neg_of_neg_of_pos (show u < 0 by omega) (show 0 < v by omega);omega
    ·have:=Int.mul_neg_of_pos_of_neg (show 0 < u by omega) (show v < 0 by omega);omega
    ·have:=Int.mul_pos (show 0 < u by omega) (show 0 < v by omega);omega
   | ni=>exact inf
   | pi=>exact inf
  | ni=>exact inf
  | pi=>exact inf
theorem afo{a b:Int}:xmul (.fin a) (.fin b)=.fin (a*b):=by
 unfold xmul
 split
 ·rename_i h
  have:=(uO (x:=.fin a) (y:=.fin b)).2
  have ka:=sQ (.fin a)
  have kb:=sQ (.fin b)
  simp only[key]at ka kb
  rcases Int.mul_eq_zero.1 h with z | z
  ·rw[ka.2.1.1 z,Int.zero_mul]
  ·rw[kb.2.1.1 z,Int.mul_zero]
 ·rfl
theorem mV{x x' y:X}(hx:okx Dd x)(hx':okx Dd x')(hy:okx Dd y)(h:key x≤key x')(h0:0≤key y):key (xmul x y)≤key (xmul x' y):=by
 have hK:=K_gt
 have hC:=Dd_K
 have k1:=abw (adA hx hy)
 have k2:=abw (adA hx' hy)
 have s1:=uO (x:=x) (y:=y)
 have s2:=uO (x:=x') (y:=y)
 have gx:=sQ x
 have gx':=sQ x'
 have gy:=sQ y
 have a:=sg3 x
 have a':=sg3 x'
 have b:=sg3 y
 have inf:∀ {u v:X},(u=.ni∨u=.pi∨v=.ni∨v=.pi)→key (xmul u v)=sg u*sg v*K:=by
  intro u v hu
  have c:=sg3 u
  have d:=sg3 v
  unfold xmul
  by_cases hz:sg u*sg v=0
  ·rw[if_pos hz,hz];simp[key]
  ·rw[if_neg hz]
   have one:sg u*sg v=1∨sg u*sg v= -1:=by
    rcases c with c | c | c<;>rcases d with d | d | d<;>rw[c,d]at hz⊢<;>simp at hz⊢
   have f:key (if sg u*sg v=1 then X.pi else X.ni)=sg u*sg v*K:=by
    rcases one with o | o<;>rw[o]
    ·rw[if_pos rfl,show key X.pi=K from rfl];omega
    ·rw[if_neg (by decide),show key X.ni= -K from rfl];omega
   rcases hu with rfl | rfl | rfl | rfl
   ·exact f
   ·exact f
   ·cases u<;>exact f
   ·cases u<;>exact f
 by_cases y0:key y=0
 ·have:sg y=0:=by omega
  have e1:key (xmul x y)=0:=s1.2.2 (by rw[this,Int.mul_zero])
  have e2:key (xmul x' y)=0:=s2.2.2 (by rw[this,Int.mul_zero])
  omega
 have y1:sg y=1:=by omega
 rw[y1,Int.mul_one]at s1 s2
 cases y with
 | ni=>simp only[key]at h0;omega
 | pi =>
  rw[inf (.inr (.inr (.inr rfl))),inf (.inr (.inr (.inr rfl))),y1,Int.mul_one,Int.mul_one]
  exact Int.mul_le_mul_of_nonneg_right (by omega) (by omega)
 | fin v =>
  cases x with
  | ni =>
   rw[inf (.inl rfl),y1,Int.mul_one,show sg X.ni= -1 from rfl];omega
  | pi =>
   cases x' with
   | pi=>exact Int.le_refl _
   | ni=>simp only[key]at h;omega
   | fin w=>simp only[key,okx]at h hx';omega
  | fin u=>cases x' with
   | pi =>
    rw[inf (u:=X.pi) (.inr (.inl rfl)),y1,Int.mul_one,show sg X.pi=1 from rfl];omega
   | ni=>simp only[key,okx]at h hx;omega
   | fin w =>
    rw[afo,afo]
    simp only[key]at h h0⊢
    exact Int.mul_le_mul_of_nonneg_right h h0
theorem nX{x x' y:X}(hx:okx Dd x)(hx':okx Dd x')(hy:okx Dd y)(h:key x≤key x')(h0:key y≤0):key (xmul x' y)≤key (xmul x y):=by
 have:=mV hx hx' (aiV hy) h (by rw[zu];omega)
 rw[aa2,aa2,zu,zu]at this
 omega
def El(s:Sp)(x:X):Prop:=okx Dd x∧key s.lo≤key x∧key x≤key s.hi
theorem aaf{s:Sp}(hs:oks C s)(he:emp s=false):El s s.lo:=⟨hs.1.D,Int.le_refl _,by have:=of_decide_eq_false he;omega⟩
theorem aae{s:Sp}(hs:oks C s)(he:emp s=false):El s s.hi:=⟨hs.2.D,by have:=of_decide_eq_false he;omega,Int.le_refl _⟩
theorem corner{s t:Sp}(hs:oks C s)(ht:oks C t){x y:X}(hx:El s x)(hy:El t y):
  (∃ cx cy,(cx=s.lo∨cx=s.hi)∧(cy=t.lo∨cy=t.hi)∧key (xmul cx cy)≤key (xmul x y))∧(∃ cx cy,(cx=s.lo∨cx=s.hi)∧(cy=t.lo∨cy=t.hi)∧key (xmul x y)≤key (xmul cx cy)):=by
 have one:∀ {s:Sp} {x y:X},oks C s→El s x→okx Dd y→(∃ cx,(cx=s.lo∨cx=s.hi)∧key (xmul cx y)≤key (xmul x y))∧(∃ cx,(cx=s.lo∨cx=s.hi)∧key (xmul x y)≤key (xmul cx y)):=by
  intro s x y hs hx hy
  by_cases h:0≤key y
  ·exact⟨⟨_,.inl rfl,mV hs.1.D hx.1 hy hx.2.1 h⟩,⟨_,.inr rfl,mV hx.1 hs.2.D hy hx.2.2 h⟩⟩
  ·exact⟨⟨_,.inr rfl,nX hx.1 hs.2.D hy hx.2.2 (by omega)⟩,⟨_,.inl rfl,nX hs.1.D hx.1 hy hx.2.1 (by omega)⟩⟩
 obtain⟨⟨cx,c1,c2⟩,⟨dx,d1,d2⟩⟩:=one hs hx hy.1
 have okc:∀ {c:X},(c=s.lo∨c=s.hi)→okx Dd c:=fun h=>by rcases h with rfl | rfl;exact hs.1.D;exact hs.2.D
 obtain⟨⟨cy,e1,e2⟩,_⟩:=one ht hy (okc c1)
 obtain⟨_,⟨dy,f1,f2⟩⟩:=one ht hy (okc d1)
 rw[kV cy,kV y]at e2
 rw[kV dy,kV y]at f2
 exact⟨⟨cx,cy,c1,e1,by omega⟩,⟨dx,dy,d1,f1,by omega⟩⟩
theorem ab9(x y:X):xmin x y=x∨xmin x y=y:=by unfold xmin;split;exact .inr rfl;exact .inl rfl
theorem ab8(x y:X):xmax x y=x∨xmax x y=y:=by unfold xmax;split;exact .inr rfl;exact .inl rfl
theorem ace{o:X→X→X}{s t:Sp}(hs:emp s=false)(ht:emp t=false):
  ((∃ x y,(x=s.lo∨x=s.hi)∧(y=t.lo∨y=t.hi)∧(apS o s t).lo=o x y)∧(∀ x y,(x=s.lo∨x=s.hi)→(y=t.lo∨y=t.hi)→key (apS o s t).lo≤key (o x y)))∧
  ((∃ x y,(x=s.lo∨x=s.hi)∧(y=t.lo∨y=t.hi)∧(apS o s t).hi=o x y)∧(∀ x y,(x=s.lo∨x=s.hi)→(y=t.lo∨y=t.hi)→key (o x y)≤key (apS o s t).hi)):=by
 have e:apS o s t=⟨xmin (xmin (xmin (o s.lo t.lo) (o s.lo t.hi)) (o s.hi t.lo)) (o s.hi t.hi),xmax (xmax (xmax (o s.lo t.lo) (o s.lo t.hi)) (o s.hi t.lo)) (o s.hi t.hi)⟩:=by
  unfold apS
  rw[if_neg (by simp[hs]),if_neg (by simp[ht]),agZ,hullNE (tJ _) (tJ _)]
  have e1:=tJ (o s.lo t.lo)
  have e2:=tJ (o s.lo t.hi)
  have e3:=tJ (o s.hi t.lo)
  have e4:=tJ (o s.hi t.hi)
  have n1:=acQ e1 e2
  rw[hullNE e1 e2]at n1
  rw[hullNE n1 e3]
  have n2:=acQ n1 e3
  rw[hullNE n1 e3]at n2
  rw[hullNE n2 e4]
  rfl
 rw[e]
 refine⟨⟨?_,?_⟩,⟨?_,?_⟩⟩
 ·simp only
  rcases ab9 (xmin (xmin (o s.lo t.lo) (o s.lo t.hi)) (o s.hi t.lo)) (o s.hi t.hi)with h | h<;>rw[h]
  ·rcases ab9 (xmin (o s.lo t.lo) (o s.lo t.hi)) (o s.hi t.lo)with h | h<;>rw[h]
   ·rcases ab9 (o s.lo t.lo) (o s.lo t.hi)with h | h<;>rw[h]
    ·exact⟨_,_,.inl rfl,.inl rfl,rfl⟩
    ·exact⟨_,_,.inl rfl,.inr rfl,rfl⟩
   ·exact⟨_,_,.inr rfl,.inl rfl,rfl⟩
  ·exact⟨_,_,.inr rfl,.inr rfl,rfl⟩
 ·intro x y hx hy
  simp only[qU]
  rcases hx with rfl | rfl<;>rcases hy with rfl | rfl<;>omega
 ·simp only
  rcases ab8 (xmax (xmax (o s.lo t.lo) (o s.lo t.hi)) (o s.hi t.lo)) (o s.hi t.hi)with h | h<;>rw[h]
  ·rcases ab8 (xmax (o s.lo t.lo) (o s.lo t.hi)) (o s.hi t.lo)with h | h<;>rw[h]
   ·rcases ab8 (o s.lo t.lo) (o s.lo t.hi)with h | h<;>rw[h]
    ·exact⟨_,_,.inl rfl,.inl rfl,rfl⟩
    ·exact⟨_,_,.inl rfl,.inr rfl,rfl⟩
   ·exact⟨_,_,.inr rfl,.inl rfl,rfl⟩
  ·exact⟨_,_,.inr rfl,.inr rfl,rfl⟩
 ·intro x y hx hy
  simp only[qR]
  rcases hx with rfl | rfl<;>rcases hy with rfl | rfl<;>omega
end Go.N
namespace Go.N
open Go Go.Q Go.Rx
def pt(i:Nat)(s:Sp):Sp:=if i=0 then negS s else if i=1 then zerS s else posS s
def Qp(i k:Nat)(p q:Sp):Sp:=if i=1∨k=1 then⟨.fin 0,.fin 0⟩else if i=0 then(if k=0 then⟨xmul p.hi q.hi,xmul p.lo q.lo⟩else⟨xmul p.lo q.hi,xmul p.hi q.lo⟩)else(if k=0 then⟨xmul p.hi q.lo,xmul p.lo q.hi⟩else⟨xmul p.lo q.lo,xmul p.hi q.hi⟩)
theorem xQ{s:Sp}(h:oks C s)(i:Nat):oks C (pt i s):=by
 unfold pt;split
 ·exact ais h
 ·split
  ·exact aiW h
  ·exact aiB h
theorem i3{i:Nat}(h:i < 3):i=0∨i=1∨i=2:=by omega
theorem abL{s:Sp}(h:oks C s):(key (negS s).lo=key s.lo∧key (negS s).hi=min (key s.hi) (-1))∧(key (zerS s).lo=max (key s.lo) 0∧key (zerS s).hi=min (key s.hi) 0)∧(key (posS s).lo=max (key s.lo) 1∧key (posS s).hi=key s.hi):=by
 have a:=abw h.K.1
 have b:=abw h.K.2
 have h1:key (negS s).lo=max (key s.lo) (-K):=qR s.lo .ni
 have h2:key (negS s).hi=min (key s.hi) (-1):=qU s.hi (.fin (-1))
 have h3:key (zerS s).lo=max (key s.lo) 0:=qR s.lo (.fin 0)
 have h4:key (zerS s).hi=min (key s.hi) 0:=qU s.hi (.fin 0)
 have h5:key (posS s).lo=max (key s.lo) 1:=qR s.lo (.fin 1)
 have h6:key (posS s).hi=min (key s.hi) K:=qU s.hi .pi
 omega
theorem aa4{s:Sp}(hs:oks C s){i:Nat}{x:X}(h:El (pt i s) x):El s x:=by
 have k:=abL hs
 obtain⟨h1,h2,h3⟩:=h
 refine⟨h1,?_,?_⟩<;>unfold pt at h2 h3<;>split at h2<;>(try split at h2)<;>simp_all<;>omega
theorem aag{s:Sp}{x:X}(h:El s x):emp s=false:=decide_eq_false (by have:=h.2;omega)
theorem xY{s:Sp}(hs:oks C s){x:X}:(El (pt 0 s) x→key x≤-1)∧(El (pt 1 s) x→key x=0)∧(El (pt 2 s) x→1≤key x):=by
 have k:=abL hs
 refine⟨fun h=>?_,fun h=>?_,fun h=>?_⟩
 ·have:=h.2.2;simp only[pt,if_true]at this;omega
 ·have a:=h.2.1
  have b:=h.2.2
  simp only[pt,Nat.one_ne_zero,if_true,if_false]at a b;omega
 ·have:=h.2.1
  simp only[pt,show ¬(2=0) by omega,show ¬(2=1) by omega,if_false]at this;omega
theorem cls{s:Sp}(hs:oks C s){x:X}(h:El s x):∃ i,i < 3∧El (pt i s) x:=by
 have k:=abL hs
 obtain⟨h1,h2,h3⟩:=h
 rcases Int.lt_trichotomy (key x) 0 with z | z | z
 ·exact⟨0,by omega,h1,by simp only[pt,if_true];omega,by simp only[pt,if_true];omega⟩
 ·exact⟨1,by omega,h1,by simp only[pt,Nat.one_ne_zero,if_true,if_false];omega,by simp only[pt,Nat.one_ne_zero,if_true,if_false];omega⟩
 ·exact⟨2,by omega,h1,by simp only[pt,show ¬(2=0) by omega,show ¬(2=1) by omega,if_false];omega,by simp only[pt,show ¬(2=0) by omega,show ¬(2=1) by omega,if_false];omega⟩
theorem sg0{x:X}(h:key x=0):sg x=0:=(sQ x).2.1.2 h
theorem vN{x y:X}(h:key x=0∨key y=0):xmul x y=.fin 0:=by
 unfold xmul
 rw[if_pos]
 rcases h with h | h
 ·rw[sg0 h,Int.zero_mul]
 ·rw[sg0 h,Int.mul_zero]
theorem upr{x y y':X}(hx:okx Dd x)(hy:okx Dd y)(hy':okx Dd y')(h:key y≤key y')(h0:0≤key x):key (xmul x y)≤key (xmul x y'):=by rw[kV x y,kV x y'];exact mV hy hy' hx h h0
theorem dnr{x y y':X}(hx:okx Dd x)(hy:okx Dd y)(hy':okx Dd y')(h:key y≤key y')(h0:key x≤0):key (xmul x y')≤key (xmul x y):=by rw[kV x y,kV x y'];exact nX hy hy' hx h h0
theorem ai1{s t:Sp}(hs:oks C s)(ht:oks C t){i k:Nat}(hi:i < 3)(hk:k < 3){x y:X}(hx:El (pt i s) x)(hy:El (pt k t) y):
  key (Qp i k (pt i s) (pt k t)).lo≤key (xmul x y)∧key (xmul x y)≤key (Qp i k (pt i s) (pt k t)).hi:=by
 have ps:=xQ hs i
 have qs:=xQ ht k
 have pe:=aag hx
 have qe:=aag hy
 have a:=aaf ps pe
 have b:=aae ps pe
 have c:=aaf qs qe
 have d:=aae qs qe
 have S:=@xY s hs
 have T:=@xY t ht
 rcases i3 hi with rfl | rfl | rfl
 ·have sx:=S.1 hx
  have sa:=S.1 a
  have sb:=S.1 b
  rcases i3 hk with rfl | rfl | rfl
  ·have sy:=T.1 hy
   have sc:=T.1 c
   have sd:=T.1 d
   simp only[Qp,Nat.zero_ne_one,or_self,if_false,if_true]
   exact⟨Int.le_trans (nX hx.1 b.1 d.1 hx.2.2 (by omega)) (dnr hx.1 hy.1 d.1 hy.2.2 (by omega)),Int.le_trans (nX a.1 hx.1 hy.1 hx.2.1 (by omega)) (dnr a.1 c.1 hy.1 hy.2.1 (by omega))⟩
  ·have sy:=T.2.1 hy
   simp only[Qp,or_true,if_true]
   rw[vN (.inr sy)];exact⟨Int.le_refl _,Int.le_refl _⟩
  ·have sy:=T.2.2 hy
   have sc:=T.2.2 c
   have sd:=T.2.2 d
   simp only[Qp,Nat.zero_ne_one,show ¬(2=1) by omega,show ¬(2=0) by omega,or_self,if_false,if_true]
   exact⟨Int.le_trans (dnr a.1 hy.1 d.1 hy.2.2 (by omega)) (mV a.1 hx.1 hy.1 hx.2.1 (by omega)),Int.le_trans (mV hx.1 b.1 hy.1 hx.2.2 (by omega)) (dnr b.1 c.1 hy.1 hy.2.1 (by omega))⟩
 ·have sx:=S.2.1 hx
  simp only[Qp,true_or,if_true]
  rw[vN (.inl sx)];exact⟨Int.le_refl _,Int.le_refl _⟩
 ·have sx:=S.2.2 hx
  have sa:=S.2.2 a
  have sb:=S.2.2 b
  rcases i3 hk with rfl | rfl | rfl
  ·have sy:=T.1 hy
   have sc:=T.1 c
   have sd:=T.1 d
   simp only[Qp,Nat.zero_ne_one,show ¬(2=1) by omega,show ¬(2=0) by omega,or_self,if_false,if_true]
   exact⟨Int.le_trans (nX hx.1 b.1 c.1 hx.2.2 (by omega)) (upr hx.1 c.1 hy.1 hy.2.1 (by omega)),Int.le_trans (nX a.1 hx.1 hy.1 hx.2.1 (by omega)) (upr a.1 hy.1 d.1 hy.2.2 (by omega))⟩
  ·have sy:=T.2.1 hy
   simp only[Qp,or_true,if_true]
   rw[vN (.inr sy)];exact⟨Int.le_refl _,Int.le_refl _⟩
  ·have sy:=T.2.2 hy
   have sc:=T.2.2 c
   have sd:=T.2.2 d
   simp only[Qp,show ¬(2=1) by omega,show ¬(2=0) by omega,or_self,if_false]
   exact⟨Int.le_trans (mV a.1 hx.1 c.1 hx.2.1 (by omega)) (upr hx.1 c.1 hy.1 hy.2.1 (by omega)),Int.le_trans (mV hx.1 b.1 hy.1 hx.2.2 (by omega)) (upr b.1 hy.1 d.1 hy.2.2 (by omega))⟩
theorem ahT{s t:Sp}(hs:oks C s)(ht:oks C t){i k:Nat}(hi:i < 3)(hk:k < 3)(ei:emp (pt i s)=false)(ek:emp (pt k t)=false):
  (∃ x y,El (pt i s) x∧El (pt k t) y∧(Qp i k (pt i s) (pt k t)).lo=xmul x y)∧(∃ x y,El (pt i s) x∧El (pt k t) y∧(Qp i k (pt i s) (pt k t)).hi=xmul x y):=by
 have a:=aaf (xQ hs i) ei
 have b:=aae (xQ hs i) ei
 have c:=aaf (xQ ht k) ek
 have d:=aae (xQ ht k) ek
 by_cases z:i=1∨k=1
 ·have e:xmul (pt i s).lo (pt k t).lo=.fin 0:=by
   apply vN
   rcases z with rfl | rfl
   ·exact .inl ((xY hs).2.1 a)
   ·exact .inr ((xY ht).2.1 c)
  simp only[Qp,if_pos z]
  exact⟨⟨_,_,a,c,e.symm⟩,⟨_,_,a,c,e.symm⟩⟩
 ·unfold Qp
  rw[if_neg z]
  split<;>split
  ·exact⟨⟨_,_,b,d,rfl⟩,⟨_,_,a,c,rfl⟩⟩
  ·exact⟨⟨_,_,a,d,rfl⟩,⟨_,_,b,c,rfl⟩⟩
  ·exact⟨⟨_,_,b,c,rfl⟩,⟨_,_,a,d,rfl⟩⟩
  ·exact⟨⟨_,_,a,c,rfl⟩,⟨_,_,b,d,rfl⟩⟩
theorem ai2{s t:Sp}(hs:oks C s)(ht:oks C t)(i k:Nat):oks K (Qp i k (pt i s) (pt k t)):=by
 have hK:=K_gt
 have p:=xQ hs i
 have q:=xQ ht k
 have z:okx K (.fin 0):=by simp only[okx];omega
 unfold Qp
 split
 ·exact⟨z,z⟩
 ·split<;>split
  ·exact⟨oO p.2 q.2,oO p.1 q.1⟩
  ·exact⟨oO p.1 q.2,oO p.2 q.1⟩
  ·exact⟨oO p.2 q.1,oO p.1 q.2⟩
  ·exact⟨oO p.1 q.1,oO p.2 q.2⟩
section
variable {s t:Sp}(hs:oks C s)(ht:oks C t)(es:emp s=false)(et:emp t=false)(ps:Pr s)(pt':Pr t)
include hs ht es et
theorem aas{x y:X}(hx:x=s.lo∨x=s.hi)(hy:y=t.lo∨y=t.hi):El s x∧El t y:=by
 constructor
 ·rcases hx with rfl | rfl
  ·exact aaf hs es
  ·exact aae hs es
 ·rcases hy with rfl | rfl
  ·exact aaf ht et
  ·exact aae ht et
theorem F1{i k:Nat}(hi:i < 3)(hk:k < 3)(ei:emp (pt i s)=false)(ek:emp (pt k t)=false):
  key (apS xmul s t).lo≤key (Qp i k (pt i s) (pt k t)).lo∧key (Qp i k (pt i s) (pt k t)).hi≤key (apS xmul s t).hi:=by
 obtain⟨⟨x,y,hx,hy,e⟩,⟨x',y',hx',hy',e'⟩⟩:=ahT hs ht hi hk ei ek
 have en:=ace (o:=xmul) es et
 obtain⟨⟨cx,cy,c1,c2,c3⟩,_⟩:=corner hs ht (aa4 hs hx) (aa4 ht hy)
 obtain⟨_,⟨dx,dy,d1,d2,d3⟩⟩:=corner hs ht (aa4 hs hx') (aa4 ht hy')
 have a:=en.1.2 cx cy c1 c2
 have b:=en.2.2 dx dy d1 d2
 rw[e,e']
 omega
theorem F2:(∃ i k,i < 3∧k < 3∧emp (pt i s)=false∧emp (pt k t)=false∧(Qp i k (pt i s) (pt k t)).lo=(apS xmul s t).lo)∧
  (∃ i k,i < 3∧k < 3∧emp (pt i s)=false∧emp (pt k t)=false∧(Qp i k (pt i s) (pt k t)).hi=(apS xmul s t).hi):=by
 have en:=ace (o:=xmul) es et
 have ok:=air hs ht
 constructor
 ·obtain⟨cx,cy,c1,c2,c3⟩:=en.1.1
  have co:=aas hs ht es et c1 c2
  obtain⟨i,hi,xi⟩:=cls hs co.1
  obtain⟨k,hk,yk⟩:=cls ht co.2
  have ei:=aag xi
  have ek:=aag yk
  have q:=ai1 hs ht hi hk xi yk
  have f:=F1 hs ht es et hi hk ei ek
  refine⟨i,k,hi,hk,ei,ek,key_inj (ai2 hs ht i k).1 ok.1 ?_⟩
  rw[←c3]at q
  omega
 ·obtain⟨cx,cy,c1,c2,c3⟩:=en.2.1
  have co:=aas hs ht es et c1 c2
  obtain⟨i,hi,xi⟩:=cls hs co.1
  obtain⟨k,hk,yk⟩:=cls ht co.2
  have ei:=aag xi
  have ek:=aag yk
  have q:=ai1 hs ht hi hk xi yk
  have f:=F1 hs ht es et hi hk ei ek
  refine⟨i,k,hi,hk,ei,ek,key_inj (ai2 hs ht i k).2 ok.2 ?_⟩
  rw[←c3]at q
  omega
end
section
variable {s t:Sp}(hs:oks C s)(ht:oks C t)(es:emp s=false)(et:emp t=false)(ps:Pr s)(pt':Pr t)
include hs ht es et ps pt'
end
section
variable {s t:Sp}(hs:oks C s)(ht:oks C t)(es:emp s=false)(et:emp t=false)(ps:Pr s)(pt':Pr t)
include hs ht es et ps pt'
end
end Go.N
namespace Go.N
open Go Go.Q Go.Rx
def pp(i:Nat)(s:Sp):Sp:=if i=0 then⟨xneg (negS s).hi,xneg (negS s).lo⟩else posS s
section
variable (lf:Nat)(h3:200000≤lf){s t:Sp}(hs:oks C s)(ht:oks C t)(ps:Pr s)(pt':Pr t)
include h3 hs ht ps pt'
def sv(s:Sp):List IV:=[ac (toA (negS s)),ac (toA (zerS s)),ac (toA (posS s))]
end
end Go.N
namespace Go.N
open Go Go.Q Go.Rx
section
variable {s t:Sp}(hs:oks C s)(ht:oks C t){x y:Int}(bx: -Dd < x∧x < Dd)(by': -Dd < y∧y < Dd)(hx:inS s x=true)(hy:inS t y=true)
include hs ht bx by' hx hy
end
section
variable {s t:Sp}(hs:oks C s)(ht:oks C t)(ps:Pr s)(pt':Pr t){x y:Int}(bx: -Dd < x∧x < Dd)(by': -Dd < y∧y < Dd)(hx:inS s x=true)(hy:inS t y=true)
include hs ht ps pt' bx by' hx hy
end
end Go.N
namespace Go.N
open Go Go.Q Go.Rx
section
variable {a b:A}(ha:Wf a)(hb:Wf b)
include ha hb
theorem agJ:Wf (toA (hull (ofA a) (ofA b))):=by
 have hK:=K_gt
 have kh:=agL (ofA a) (ofA b)
 have ka:=ha.ks.keys
 have kb:=hb.ks.keys
 exact afi (tX ha.okK hb.okK) (by intro h;rw[kh.1,kh.2]at *;split at*<;>(try split at *)<;>omega)
theorem ags:Wf (toA (common (ofA a) (ofA b))):=by
 have hK:=K_gt
 have k1:key (common (ofA a) (ofA b)).lo=max (key (ofA a).lo) (key (ofA b).lo):=qR _ _
 have k2:key (common (ofA a) (ofA b)).hi=min (key (ofA a).hi) (key (ofA b).hi):=qU _ _
 have ka:=ha.ks.keys
 have kb:=hb.ks.keys
 exact afi (qg ha.okK hb.okK) (by intro h;rw[k1,k2]at *;omega)
end
end Go.N
namespace Go.N
open Go Go.Q Go.Rx
namespace WfV
variable {v:Vl}(h:WfV v)
include h
theorem em:v.a.em=v.c.em:=by
 have r:=h.red
 unfold Go.N.red at r
 cases e1:v.a.em with
 | true =>
  rw[if_pos e1]at r
  rw[←r];rfl
 | false=>cases e2:v.c.em with
  | false=>rfl
  | true =>
   rw[if_neg (by simp[e1]),if_pos e2]at r
   rw[←r]at e1;simp[Ev,E0]at e1
theorem ev(e:v.a.em=true):v=Ev:=by
 have r:=h.red
 unfold Go.N.red at r
 rw[if_pos e]at r
 exact r.symm
theorem one(e:v.a.em=false)(m:v.c.m=0):v=onev v.c.r∧inS (ofA v.a) v.c.r=true:=by
 have r:=h.red
 have e2:v.c.em=false:=by rw[←h.em,e]
 unfold Go.N.red at r
 rw[if_neg (by simp[e]),if_neg (by simp[e2]),if_pos m]at r
 split at r
 ·exact⟨r.symm,by assumption⟩
 ·rw[←r]at e;simp[Ev,E0]at e
theorem fin(e:v.a.em=false)(m:v.c.m≠0):fin3 (v.a.lo.map (loC v.c)) (v.a.hi.map (hiC v.c)) v.c=v:=by
 have r:=h.red
 have e2:v.c.em=false:=by rw[←h.em,e]
 unfold Go.N.red at r
 rwa [if_neg (by simp[e]),if_neg (by simp[e2]),if_neg m]at r
theorem bnd(e:v.a.em=false):(∀ l,v.a.lo=some l→inC v.c l=true)∧∀ l,v.a.hi=some l→inC v.c l=true:=by
 have e2:v.c.em=false:=by rw[←h.em,e]
 by_cases m:v.c.m=0
 ·obtain⟨o,i⟩:=h.one e m
  have hs:inC v.c v.c.r=true:=(qP e2 h.c.pos).2 (by simp)
  constructor
  ·intro l hl
   rw[o]at hl;cases hl;exact hs
  ·intro l hl
   rw[o]at hl;cases hl;exact hs
 ·have p:0 < v.c.m:=by have:=h.c.pos;omega
  have f:=h.fin e m
  have ck:=h.a
  have lo:=ck.lo
  have hi:=ck.hi
  revert f lo hi
  cases hl:v.a.lo with
  | none=>cases hh:v.a.hi with
   | none=>intro _ _ _;exact⟨nofun,nofun⟩
   | some u =>
    intro f lo hi
    have f2:=congrArg (fun x=>x.a.hi) f
    simp only[Option.map,fin3,Option.bind,hh]at f2
    have hu:hiC v.c u=u:=by
     unfold clip at f2;split at f2
     ·exact Option.some.inj f2
     ·cases f2
    exact⟨nofun,fun l x=>by cases x;exact(qP e2 h.c.pos).2 (by have:=agH p u;rwa [hu]at this)⟩
  | some l=>cases hh:v.a.hi with
   | none =>
    intro f lo hi
    have f2:=congrArg (fun x=>x.a.lo) f
    simp only[Option.map,fin3,Option.bind,hl]at f2
    have hu:loC v.c l=l:=by
     unfold clip at f2;split at f2
     ·exact Option.some.inj f2
     ·cases f2
    exact⟨fun l x=>(by cases x;exact(qP e2 h.c.pos).2 (by have:=agQ p l;rwa [hu]at this)),nofun⟩
   | some u =>
    intro f lo hi
    simp only[Option.map,fin3]at f
    split at f
    ·rw[←f]at e;simp[Ev,E0]at e
    ·split at f
     ·rw[←f]at m;simp[onev]at m
     ·have f1:=congrArg (fun x=>x.a.lo) f
      have f2:=congrArg (fun x=>x.a.hi) f
      simp only[hl,hh]at f1 f2
      have h1:loC v.c l=l:=by
       unfold clip at f1;split at f1
       ·exact Option.some.inj f1
       ·cases f1
      have h2:hiC v.c u=u:=by
       unfold clip at f2;split at f2
       ·exact Option.some.inj f2
       ·cases f2
      exact⟨fun k x=>(by cases x;exact(qP e2 h.c.pos).2 (by have:=agQ p l;rwa [h1]at this)),fun k x=>(by cases x;exact(qP e2 h.c.pos).2 (by have:=agH p u;rwa [h2]at this))⟩
end WfV
end Go.N
namespace Go.N
open Go Go.Q Go.Rx
def joinV(a b:Vl):Vl:=red (toA (hull (ofA a.a) (ofA b.a))) (joinC a.c b.c)
noncomputable def metV (a b:Vl):Vl:=red (toA (common (ofA a.a) (ofA b.a))) (metC a.c b.c)
section
variable {a b:Vl}(ha:WfV a)(hb:WfV b)
include ha hb
theorem aic:WfV (joinV a b):=aku (agJ ha.a hb.a) (acY ha.c hb.c)
end
section
variable {a b:Vl}(ha:WfV a)(hb:WfV b)
include ha hb
end
end Go.N
namespace Go.N
open Go Go.Q Go.Rx
abbrev tb(b:ByteArray):Nat:=b.data.toList.length
def SmV(x:VV):Prop:=tb x.1.2.1≤100000∧tb x.1.2.2.1≤100000∧tb x.2.1.2.1≤100000∧tb x.2.1.2.2.1≤100000
theorem uY(x y:VV):(((x.1.1==y.1.1)&&((x.1.2.1==y.1.2.1)&&((x.1.2.2.1==y.1.2.2.1)&&true)))&&(((x.2.1.1==y.2.1.1)&&((x.2.1.2.1==y.2.1.2.1)&&((x.2.1.2.2.1==y.2.1.2.2.1)&&true)))&&true))=decide (x=y):=by
 obtain⟨⟨e1,l1,m1,⟨⟩⟩,⟨e2,l2,m2,⟨⟩⟩,⟨⟩⟩:=x
 obtain⟨⟨f1,p1,q1,⟨⟩⟩,⟨f2,p2,q2,⟨⟩⟩,⟨⟩⟩:=y
 rw[Bool.eq_iff_iff]
 simp only[ajk,Bool.and_eq_true,beq_iff_eq,decide_eq_true_eq,Bool.and_true,Prod.mk.injEq,and_true]
theorem akz{a:A}{c:Cg}(ha:Wf a)(hc:WfC c)(h:vc (red a c)=vc ⟨a,c⟩):∃ v,vc ⟨a,c⟩=vc v∧WfV v:=by
 simp only[vc,Prod.mk.injEq]at h
 have e1:=aji h.1
 obtain⟨e2,e3⟩:=ajp h.2.1
 cases ec:c.em with
 | true =>
  have hE:red a c=Ev:=by
   unfold red
   by_cases e:a.em=true
   ·rw[if_pos e]
   ·rw[if_neg e,if_pos ec]
  refine⟨Ev,?_,Ev_V⟩
  rw[hE]at e1
  simp only[vc,←e1]
  rw[rH ec];rfl
 | false =>
  rw[ec]at e2
  refine⟨⟨a,c⟩,rfl,ha,hc,?_⟩
  have e4:=e3 e2
  show red a c=⟨a,c⟩
  generalize red a c=r at *
  cases r;simp_all
section
variable (lf:Nat)(hb:Big lf)
include hb
theorem chkV{x:VV}(hx:SmV x):∃ n:Int,dn.f lf x=some (n,())∧dP.f lf x=some (n,())∧(n=0→∃ v,x=vc v∧WfV v):=by
 have hlf:=hb.1
 have h3:200000≤lf:=by omega
 obtain⟨⟨e1,l1,m1,⟨⟩⟩,⟨e2,l2,m2,⟨⟩⟩,⟨⟩⟩:=x
 obtain⟨x1,x2,x3,x4⟩:=hx
 rw[←yN l1,←yN m1,←yN l2,←yN m2]
 simp only[tb]at x1 x2 x3 x4
 revert x1 x2 x3 x4
 generalize l1.data.toList=l1
 generalize m1.data.toList=m1
 generalize l2.data.toList=l2
 generalize m2.data.toList=m2
 intro x1 x2 x3 x4
 have p1:=acr lf h3 e1 l1 m1 (by omega) (by omega)
 have p2:=aak lf h3 e1 l1 m1 (by omega) (by omega) (by omega) (by omega)
 have q1:=ai8 lf h3 e2 l2 m2 (by omega) (by omega)
 have q2:=aes lf h3 e2 l2 m2 (by omega) (by omega) (by omega) (by omega)
 rw[dn.f,oG.f,dP.f]
 simp only[p1,p2,bdS]
 by_cases k1:ck e1 l1 m1=0
 ·rw[k1]
  simp only[bne_self_eq_false,brF,q1,q2,bdS]
  by_cases k2:ckc e2 l2 m2=0
  ·obtain⟨a,ea,ha⟩:=aj8 k1
   obtain⟨c,ec,hc⟩:=ajr k2
   rw[k2]
   have r1:=ab5 lf hb ha hc
   have r2:=ahi lf hb ha hc
   rw[←ea,←ec]at r1 r2
   simp only[bne_self_eq_false,brF,r1,r2,bdS]
   have bq:=uY (vc (red a c)) ((e1,bs l1,bs m1,()),(e2,bs l2,bs m2,()),())
   simp only at bq
   rw[bq,ea,ec]
   by_cases h:vc (red a c)=(ac a,cc c,())
   ·rw[decide_eq_true h,Bool.not_true,brF]
    exact⟨0,rfl,rfl,fun _=>akz ha hc h⟩
   ·rw[decide_eq_false h,Bool.not_false,brT]
    exact⟨3,rfl,rfl,nofun⟩
  ·simp only[bneT k2,brT]
   exact⟨_,rfl,rfl,fun h=>absurd h k2⟩
 ·simp only[bneT k1,brT,bdS]
  exact⟨_,rfl,rfl,fun h=>absurd h k1⟩
theorem smV{v:Vl}(h:WfV v):SmV (vc v):=by
 obtain⟨l,m,e1,_,a1,a2⟩:=ahO h.a
 obtain⟨l',m',e2,_,b1,b2⟩:=aem h.c
 unfold SmV vc
 rw[e1,e2]
 simp only[tb];omega
theorem chk_wf{v:Vl}(h:WfV v):dn.f lf (vc v)=some (0,())∧dP.f lf (vc v)=some (0,()):=by
 have hlf:=hb.1
 have h3:200000≤lf:=by omega
 have p1:=qf lf h3 h.a
 have p2:=aa8 lf h3 h.a
 have q1:=ccheck lf hb h.c
 have q2:=rcheck lf hb h.c
 have r1:=ab5 lf hb h.a h.c
 have r2:=ahi lf hb h.a h.c
 rw[h.red]at r1 r2
 have bq:=uY (vc v) (vc v)
 rw[decide_eq_true rfl]at bq
 constructor
 ·rw[dn.f,oG.f]
  simp only[show(vc v).1=ac v.a from rfl,show(vc v).2.1=cc v.c from rfl]at bq⊢
  simp only[p1,q1,r1,bdS,bne_self_eq_false,brF]
  simp only[show(vc v).1=ac v.a from rfl,show(vc v).2.1=cc v.c from rfl,bq,Bool.not_true,brF]
 ·rw[dP.f]
  simp only[show(vc v).1=ac v.a from rfl,show(vc v).2.1=cc v.c from rfl]at bq⊢
  simp only[p2,q2,r2,bdS,bne_self_eq_false,brF]
  simp only[show(vc v).1=ac v.a from rfl,show(vc v).2.1=cc v.c from rfl,bq,Bool.not_true,brF]
theorem agl{v w:Vl}(h:WfV v)(k:WfV w):kP.f lf (vc v) (vc w)=some (0,()):=by
 rw[kP.f,(chk_wf lf hb h).1,bdS]
 simp only[bne_self_eq_false,brF,(chk_wf lf hb k).1,bdS]
end
end Go.N
namespace Go.N
open Go Go.Q Go.Rx
section
variable (lf:Nat)(hb:Big lf){v w:Vl}(hv:WfV v)(hw:WfV w)
include hb hv hw
theorem aeM:ig.f lf (vc v) (vc w)=some (vc (joinV v w),0,()):=by
 have h3:200000≤lf:=by have:=hb.1;omega
 rw[ig.f,agl lf hb hv hw,bdS]
 simp only[bne_self_eq_false,brF]
 simp only[show(vc v).1=ac v.a from rfl,show(vc v).2.1=cc v.c from rfl,show(vc w).1=ac w.a from rfl,show(vc w).2.1=cc w.c from rfl,ajH lf h3 hv.a hw.a,ajG lf hb hv.c hw.c,bdS,bne_self_eq_false,brF,ab5 lf hb (agJ hv.a hw.a) (acY hv.c hw.c)]
 rfl
theorem ajM:lF.f lf (vc v) (vc w)=some (vc (metV v w),0,()):=by
 have h3:200000≤lf:=by have:=hb.1;omega
 rw[lF.f,agl lf hb hv hw,bdS]
 simp only[bne_self_eq_false,brF]
 simp only[show(vc v).1=ac v.a from rfl,show(vc v).2.1=cc v.c from rfl,show(vc w).1=ac w.a from rfl,show(vc w).2.1=cc w.c from rfl,ajL lf h3 hv.a hw.a,ajK lf hb hv.c hw.c,bdS,bne_self_eq_false,brF,ab5 lf hb (ags hv.a hw.a) (aiq hv.c hw.c)]
 rfl
end
section
variable (lf:Nat)(hb:Big lf){v:Vl}(hv:WfV v)
include hb hv
end
section
variable (lf:Nat)(hb:Big lf){x y:VV}(hx:SmV x)(hy:SmV y)
include hb hx hy
end
end Go.N
namespace Go.N
open Go Go.Q Go.Rx
theorem aeD(lf:Nat)(x:IV):∃ b,ja.f lf x=some (b,())∧(b=true→tb x.2.1≤100000∧tb x.2.2.1≤100000):=by
 rw[ja.f]
 simp only[jJ.f,bdS]
 by_cases h:((x.2.1.size:Nat):Int)≤250
 ·rw[decide_eq_true h,brT]
  refine⟨_,rfl,fun k=>?_⟩
  have k:=of_decide_eq_true k
  rw[Lib.size_eq]at h k
  exact⟨by simp only[tb];omega,by simp only[tb];omega⟩
 ·rw[decide_eq_false h,brF]
  exact⟨_,rfl,nofun⟩
theorem ah5(lf:Nat)(x y:IV):∃ b,jK.f lf x y=some (b,())∧(b=true→(tb x.2.1≤100000∧tb x.2.2.1≤100000)∧(tb y.2.1≤100000∧tb y.2.2.1≤100000)):=by
 rw[jK.f]
 by_cases h1:((x.2.1.size:Nat):Int)≤450
 ·rw[decide_eq_true h1,brT]
  by_cases h2:((x.2.2.1.size:Nat):Int)≤450
  ·rw[decide_eq_true h2,brT]
   by_cases h3:((y.2.1.size:Nat):Int)≤450
   ·rw[decide_eq_true h3,brT]
    refine⟨_,rfl,fun k=>?_⟩
    have k:=of_decide_eq_true k
    rw[Lib.size_eq]at h1 h2 h3 k
    exact⟨⟨by simp only[tb];omega,by simp only[tb];omega⟩,by simp only[tb];omega,by simp only[tb];omega⟩
   ·rw[decide_eq_false h3,brF];exact⟨_,rfl,nofun⟩
  ·rw[decide_eq_false h2,brF];exact⟨_,rfl,nofun⟩
 ·rw[decide_eq_false h1,brF];exact⟨_,rfl,nofun⟩
theorem ajA(lf:Nat)(x y:VV):∃ b,jb.f lf x y=some (b,())∧(b=true→SmV x∧SmV y):=by
 obtain⟨a,a1,a2⟩:=ah5 lf x.1 y.1
 obtain⟨b,b1,b2⟩:=aeD lf x.2.1
 obtain⟨c,c1,c2⟩:=aeD lf y.2.1
 rw[jb.f,a1,bdS]
 cases a with
 | false=>simp only[brF];exact⟨_,rfl,nofun⟩
 | true =>
  simp only[brT,b1,bdS]
  cases b with
  | false=>simp only[brF];exact⟨_,rfl,nofun⟩
  | true =>
   simp only[brT,c1,bdS]
   refine⟨_,rfl,fun k=>?_⟩
   obtain⟨q1,q2⟩:=a2 rfl
   have q3:=b2 rfl
   have q4:=c2 k
   exact⟨⟨q1.1,q1.2,q3.1,q3.2⟩,q2.1,q2.2,q4.1,q4.2⟩
theorem bigN(n:Nat):∃ lf,Big lf∧n≤lf:=⟨2000000000+K.toNat+n,⟨by omega,by omega⟩,by omega⟩
theorem bigE:∃ lf,Big lf:=⟨_,(bigN 0).choose_spec.1⟩
end Go.N
namespace Go.N
open Go Go.Q Go.Rx
def GoodV(x:VV):Prop:=∃ v,x=vc v∧WfV v∧v.a.em=false
noncomputable def fulN (lf:Nat) (x:VV):Int:=((iJ.f lf x).getD (0,())).1
section
variable (lf:Nat)(hb:Big lf)
include hb
theorem wU{x:VV}(hx:SmV x):iJ.f lf x=some (fulN lf x,())∧(bd (dP.f lf x) fun r1=>br (r1.1 != 0) (some (r1.1,())) (bd (gU.f lf x) fun r2=>br r2.1 (some (16,())) (some (0,()))))=some (fulN lf x,())∧(fulN lf x=0↔GoodV x):=by
 have key:∃ n:Int,iJ.f lf x=some (n,())∧(bd (dP.f lf x) fun r1=>br (r1.1 != 0) (some (r1.1,())) (bd (gU.f lf x) fun r2=>br r2.1 (some (16,())) (some (0,()))))=some (n,())∧(n=0↔GoodV x):=by
  obtain⟨n,h1,h2,h3⟩:=chkV lf hb hx
  unfold iJ.f
  rw[h1,h2,bdS,bdS]
  by_cases hn:n=0
  ·subst hn
   obtain⟨v,rfl,hv⟩:=h3 rfl
   rw[show(((0:Int),()).1 != 0)=false from rfl,brF,brF,show fE.f lf (vc v)=some (v.a.em,()) from rfl,show gU.f lf (vc v)=some (v.a.em,()) from rfl,bdS]
   cases he:v.a.em with
   | true =>
    refine⟨16,by rw[brT],by rw[brT],fun h=>(by omega),fun⟨w,e,hw,e2⟩=>?_⟩
    have:=congrArg (fun x:VV=>x.1.1) e
    have:v.a.em=w.a.em:=this
    rw[he,e2]at this;cases this
   | false=>exact⟨0,by rw[brF],by rw[brF],fun _=>⟨v,rfl,hv,he⟩,fun _=>rfl⟩
  ·rw[show((n,()).1 != 0)=true by simpa using hn,brT,brT]
   refine⟨n,rfl,rfl,fun h=>absurd h hn,fun⟨v,e,hv,_⟩=>?_⟩
   subst e
   have:=(chk_wf lf hb hv).1
   rw[h1]at this
   simp at this;exact this
 obtain⟨n,h1,h2,h3⟩:=key
 have e:fulN lf x=n:=by unfold fulN;rw[h1];rfl
 rw[e];exact⟨h1,h2,h3⟩
end
noncomputable def ckS (lf:Nat) (N:Int):Option VV→Int→List Sg3→Int×Int
 | _,e,[]=>(0,e)
 | p,e,s::r=>if s.1≠e then(20,e)else if s.2.1≤s.1 then(15,e)else if N < s.2.1 then(15,e)else if fulN lf s.2.2.1≠0 then(fulN lf s.2.2.1,e)else if p=some s.2.2.1 then(7,e)else ckS lf N (some s.2.2.1) s.2.1 r
def RS(N:Int):Option VV→Int→List Sg3→Prop
 | _,e,[]=>e=N
 | p,e,s::r=>s.1=e∧e < s.2.1∧s.2.1≤N∧GoodV s.2.2.1∧p≠some s.2.2.1∧RS N (some s.2.2.1) s.2.1 r
theorem RS.chn{N:Int}:∀ {l:List Sg3} {p:Option VV} {e:Int},RS N p e l→Chn N e l
 | [],p,e,h=>h
 | s::r,p,e,⟨h1,h2,h3,_,_,h6⟩=>⟨h1,h2,h3,h6.chn⟩
theorem RS.good{N:Int}:∀ {l:List Sg3} {p:Option VV} {e:Int},RS N p e l→∀ s∈l,GoodV s.2.2.1
 | [],p,e,h,s,hs=>by cases hs
 | s::r,p,e,⟨_,_,_,h4,_,h6⟩,q,hq=>by
  rcases List.mem_cons.1 hq with rfl | hq
  ·exact h4
  ·exact h6.good q hq
structure Right(l:List Sg3)(n:Int):Prop where
 n1:1≤n
 n2:n≤32
 ne:l≠[]
 rs:RS n none 0 l
theorem acF{l:List Sg3}(h:∀ s∈l,GoodV s.2.2.1):∀ x∈expand l,GoodV x:=by
 intro x hx
 obtain⟨s,hs,hx⟩:=List.mem_flatMap.1 hx
 rw[(List.mem_replicate.1 hx).2];exact h s hs
theorem afN{l:List VV}(h:∀ x∈l,GoodV x):∃ vs:List Vl,l=vs.map vc∧(∀ v∈vs,WfV v∧v.a.em=false):=by
 induction l with
 | nil=>exact⟨[],rfl,fun v hv=>by cases hv⟩
 | cons x l ih =>
  obtain⟨vs,rfl,h2⟩:=ih fun y hy=>h y (List.mem_cons_of_mem _ hy)
  obtain⟨v,rfl,h3,h4⟩:=h x (List.mem_cons_self ..)
  exact⟨v::vs,rfl,fun w hw=>by
   rcases List.mem_cons.1 hw with rfl | hw
   ·exact⟨h3,h4⟩
   ·exact h2 w hw⟩
theorem Right.vals{l:List Sg3}{n:Int}(h:Right l n):∃ vs:List Vl,expand l=vs.map vc∧(∀ v∈vs,WfV v∧v.a.em=false)∧(vs.length:Int)=n:=by
 obtain⟨vs,h1,h2⟩:=afN (acF h.rs.good)
 refine⟨vs,h1,h2,?_⟩
 have:=h.rs.chn.len.1
 rw[h1,List.length_map]at this
 omega
def prv(l:List Sg3)(j:Nat):Option VV:=if j=0 then none else(l[j-1]?).map fun s=>s.2.2.1
section
variable (lf:Nat)(hb:Big lf)
include hb
theorem aal{N:Int}:∀ {l:List Sg3} {p:Option VV} {e:Int},(∀ s∈l,SmV s.2.2.1)→(((ckS lf N p e l).1=0∧(ckS lf N p e l).2=N)↔RS N p e l)
 | [],p,e,_=>by simp[ckS,RS]
 | s::r,p,e,hs=>by
  have hf:=(wU lf hb (hs s (List.mem_cons_self ..))).2.2
  have ih:=aal (N:=N) (l:=r) (p:=some s.2.2.1) (e:=s.2.1) fun q hq=>hs q (List.mem_cons_of_mem _ hq)
  simp only[ckS,RS]
  split
  ·rename_i h;constructor
   ·intro h';have:(20:Int)=0:=h'.1;omega
   ·intro h';exact absurd h'.1 h
  rename_i h1
  have h1:s.1=e:=Classical.not_not.1 h1
  split
  ·constructor
   ·intro h';have:(15:Int)=0:=h'.1;omega
   ·intro h';omega
  split
  ·constructor
   ·intro h';have:(15:Int)=0:=h'.1;omega
   ·intro h';omega
  split
  ·rename_i h
   constructor
   ·intro h';exact absurd h'.1 h
   ·intro h';exact absurd (hf.2 h'.2.2.2.1) h
  rename_i h4
  split
  ·rename_i h;constructor
   ·intro h';have:(7:Int)=0:=h'.1;omega
   ·intro h';exact absurd h h'.2.2.2.2.1
  ·rename_i h
   rw[ih]
   exact⟨fun h'=>⟨h1,by omega,by omega,hf.1 (Classical.not_not.1 h4),h,h'⟩,fun h'=>h'.2.2.2.2.2⟩
def ckZ(p:Int×Int):Bool×(Int×Int×Unit)×(Int×Unit)×Unit:=if p.1=0 then(false,(0,0,()),((p.2,()),()))else(true,(p.1,p.2,()),((0,()),()))
omit hb in
theorem adh{l:List Sg3}{j:Nat}(h:j < l.length):prv l (j+1)=some l[j].2.2.1:=by
 unfold prv;simp[h]
theorem ai6{l:List Sg3}{N:Int}(hs:∀ s∈l,SmV s.2.2.1)(hl:l.length≤1000):∀ (d n j:Nat) (e:Int),j+d=l.length→d < n→
  bK.l0 lf l N l (l.length:Nat) n e j=some (ckZ (ckS lf N (prv l j) e (l.drop j)))
 | 0,n,j,e,hd,hn=>by
  obtain⟨n,rfl⟩:∃ q,n=q+1:=⟨n-1,by omega⟩
  rw[bK.l0,bK.r0,show decide ((j:Int) < ((l.length:Nat):Int))=false by simp;omega,brF,List.drop_eq_nil_of_le (by omega)]
  rfl
 | d+1,n,j,e,hd,hn=>by
  obtain⟨n,rfl⟩:∃ q,n=q+1:=⟨n-1,by omega⟩
  have hj:j < l.length:=by omega
  have hf:=wU lf hb (hs l[j] (List.getElem_mem hj))
  rw[bK.l0,bK.r0,show decide ((j:Int) < ((l.length:Nat):Int))=true by simp;omega,brT,dA l j hj,bdS,List.drop_eq_getElem_cons hj,ckS]
  by_cases h1:l[j].1=e
  ·rw[show(l[j].1 != e)=false by simpa using h1,brF,if_neg (by simpa using h1)]
   by_cases h2:l[j].2.1≤l[j].1
   ·rw[show decide (l[j].1≥l[j].2.1)=true by simpa using h2,brT,if_pos h2];rfl
   ·rw[show decide (l[j].1≥l[j].2.1)=false by simpa using h2,brF,if_neg h2]
    by_cases h3:N < l[j].2.1
    ·rw[show decide (l[j].2.1 > N)=true by simpa using h3,brT,if_pos h3];rfl
    ·rw[show decide (l[j].2.1 > N)=false by simpa using h3,brF,if_neg h3,hf.1,bdS]
     by_cases h4:fulN lf l[j].2.2.1=0
     ·rw[show((fulN lf l[j].2.2.1,()).1 != 0)=false by simpa using h4,brF,if_neg (by simpa using h4)]
      rw[w64 (n:=(j:Int)+1) (by omega) (by omega),show(j:Int)+1=((j+1:Nat):Int) by omega,ai6 hs hl d n (j+1) l[j].2.1 (by omega) (by omega),adh hj]
      by_cases h5:j=0
      ·subst h5
       rw[show decide (((0:Nat):Int) > 0)=false by rfl,brF,if_neg (by simp[prv])]
      ·rw[show decide ((j:Int) > 0)=true by simp;omega,brT,w64 (by omega) (by omega),pF l ((j:Int)-1) (j-1) (by omega) (by omega),bdS,uY,bdS]
       have hp:prv l j=some l[j-1].2.2.1:=by unfold prv;rw[if_neg h5,List.getElem?_eq_getElem (by omega)];rfl
       rw[hp]
       by_cases h6:l[j].2.2.1=l[j-1].2.2.1
       ·rw[decide_eq_true h6,brT,if_pos (by rw[h6])];rfl
       ·rw[decide_eq_false h6,brF,if_neg (fun h=>h6 (Option.some.inj h).symm)]
     ·rw[show((fulN lf l[j].2.2.1,()).1 != 0)=true by simpa using h4,brT,if_pos h4]
      unfold ckZ;rw[if_neg h4]
  ·rw[show(l[j].1 != e)=true by simpa using h1,brT,if_pos h1];rfl
theorem aks{s:Sg3}{e N:Int}(hs:SmV s.2.2.1):jc.f lf s e N=some (if s.1≠e then 20 else if s.2.1≤s.1 then 15 else if N < s.2.1 then 15 else fulN lf s.2.2.1,()):=by
 have hf:=(wU lf hb hs).2.1
 unfold jc.f
 by_cases h1:s.1=e
 ·rw[show(s.1 != e)=false by simpa using h1,brF,if_neg (by simpa using h1)]
  by_cases h2:s.2.1≤s.1
  ·rw[decide_eq_true h2,brT,if_pos h2]
  ·rw[decide_eq_false h2,brF,if_neg h2]
   by_cases h3:N < s.2.1
   ·rw[show decide (s.2.1 > N)=true by simpa using h3,brT,if_pos h3]
   ·rw[show decide (s.2.1 > N)=false by simpa using h3,brF,if_neg h3];exact hf
 ·rw[show(s.1 != e)=true by simpa using h1,brT,if_pos h1]
theorem ai7{l:List Sg3}{N:Int}(hs:∀ s∈l,SmV s.2.2.1)(hl:l.length≤1000):∀ (d n j:Nat) (e:Int),j+d=l.length→d < n→
  bJ.l0 lf l N n e j=some (ckZ (ckS lf N (prv l j) e (l.drop j)))
 | 0,n,j,e,hd,hn=>by
  obtain⟨n,rfl⟩:∃ q,n=q+1:=⟨n-1,by omega⟩
  rw[bJ.l0,bJ.r0,show decide ((j:Int) < ((l.length:Nat):Int))=false by simp;omega,brF,List.drop_eq_nil_of_le (by omega)]
  rfl
 | d+1,n,j,e,hd,hn=>by
  obtain⟨n,rfl⟩:∃ q,n=q+1:=⟨n-1,by omega⟩
  have hj:j < l.length:=by omega
  rw[bJ.l0,bJ.r0,show decide ((j:Int) < ((l.length:Nat):Int))=true by simp;omega,brT,dA l j hj,bdS,aks lf hb (hs l[j] (List.getElem_mem hj)),bdS,List.drop_eq_getElem_cons hj,ckS]
  by_cases h1:l[j].1=e
  ·have h1':¬(l[j].1≠e):=fun h=>h h1
   rw[if_neg h1',if_neg h1']
   by_cases h2:l[j].2.1≤l[j].1
   ·rw[if_pos h2,if_pos h2,show(((15:Int),()).1 != 0)=true from rfl,brT];rfl
   ·rw[if_neg h2,if_neg h2]
    by_cases h3:N < l[j].2.1
    ·rw[if_pos h3,if_pos h3,show(((15:Int),()).1 != 0)=true from rfl,brT];rfl
    ·rw[if_neg h3,if_neg h3]
     by_cases h4:fulN lf l[j].2.2.1=0
     ·rw[show((fulN lf l[j].2.2.1,()).1 != 0)=false by simpa using h4,brF,if_neg (show ¬(fulN lf l[j].2.2.1≠0) from fun h=>h h4)]
      simp only[bdS]
      rw[w64 (n:=(j:Int)+1) (by omega) (by omega),show(j:Int)+1=((j+1:Nat):Int) by omega,ai7 hs hl d n (j+1) l[j].2.1 (by omega) (by omega),adh hj]
      by_cases h5:j=0
      ·subst h5
       rw[show decide (((0:Nat):Int) > 0)=false by rfl,brF,if_neg (by simp[prv])]
      ·rw[show decide ((j:Int) > 0)=true by simp;omega,brT,w64 (by omega) (by omega),pF l ((j:Int)-1) (j-1) (by omega) (by omega),bdS,uY]
       have hp:prv l j=some l[j-1].2.2.1:=by unfold prv;rw[if_neg h5,List.getElem?_eq_getElem (by omega)];rfl
       rw[hp]
       by_cases h6:l[j-1].2.2.1=l[j].2.2.1
       ·rw[decide_eq_true h6,brT,if_pos (by rw[h6])];rfl
       ·rw[decide_eq_false h6,brF,if_neg (fun h=>h6 (Option.some.inj h))]
     ·rw[show((fulN lf l[j].2.2.1,()).1 != 0)=true by simpa using h4,brT,if_pos h4]
      unfold ckZ;rw[if_neg h4]
  ·rw[if_pos h1,if_pos h1,show(((20:Int),()).1 != 0)=true from rfl,brT];rfl
noncomputable def ckN (l:List Sg3) (n:Int):Int:=if n < 1 then 2 else if 32 < n then 2 else if l=[]then 20 else if(ckS lf n none 0 l).1≠0 then(ckS lf n none 0 l).1 else if(ckS lf n none 0 l).2≠n then 20 else 0
omit hb in
theorem ah2{p:Int×Int}{n:Int}:br (ckZ p).1 (some ((ckZ p).2.1.1,())) (br ((ckZ p).2.2.1.1 != n) (some ((20:Int),())) (some (0,())))=some (if p.1≠0 then p.1 else if p.2≠n then 20 else 0,()):=by
 unfold ckZ
 by_cases h:p.1=0
 ·rw[if_pos h,if_neg (by simpa using h),brF]
  simp only
  by_cases h2:p.2=n
  ·rw[show(p.2 != n)=false by simpa using h2,brF,if_neg (by simpa using h2)]
  ·rw[show(p.2 != n)=true by simpa using h2,brT,if_pos h2]
 ·rw[if_neg h,if_pos h,brT]
theorem yR{l:List Sg3}{n:Int}(hs:∀ s∈l,SmV s.2.2.1)(hl:l.length≤1000):bK.f lf l n=some (ckN lf l n,())∧bJ.f lf l n=some (ckN lf l n,())∧(ckN lf l n=0↔Right l n):=by
 have hlf:l.length < lf+40:=by have:=hb.1;omega
 have h1:=ai6 lf hb (N:=n) hs hl l.length (lf+40) 0 0 (by omega) hlf
 have h2:=ai7 lf hb (N:=n) hs hl l.length (lf+40) 0 0 (by omega) hlf
 have hR:=aal lf hb (N:=n) (p:=none) (e:=0) hs
 rw[List.drop_zero,show prv l 0=none from rfl]at h1 h2
 have h0:((0:Nat):Int)=0:=rfl
 rw[h0]at h1 h2
 unfold bK.f bJ.f ckN
 rw[h1,h2,bdS,ah2]
 by_cases c1:n < 1
 ·rw[decide_eq_true c1,brT,if_pos c1]
  exact⟨rfl,rfl,fun h=>by omega,fun h=>by have:=h.n1;omega⟩
 rw[decide_eq_false c1,brF,if_neg c1]
 by_cases c2:32 < n
 ·rw[show decide (n > 32)=true by simpa using c2,brT,if_pos c2]
  exact⟨rfl,rfl,fun h=>by omega,fun h=>by have:=h.n2;omega⟩
 rw[show decide (n > 32)=false by simpa using c2,brF,if_neg c2]
 by_cases c3:l=[]
 ·subst c3
  rw[show((((([]:List Sg3).length:Nat):Int))==0)=true from rfl,brT,if_pos rfl]
  exact⟨rfl,rfl,fun h=>by omega,fun h=>absurd rfl h.ne⟩
 have:((l.length:Nat):Int)≠0:=fun h=>c3 (List.length_eq_zero_iff.1 (by omega))
 rw[show(((l.length:Nat):Int)==0)=false by simpa using this,brF,if_neg c3]
 refine⟨rfl,rfl,fun h=>?_,fun h=>?_⟩
 ·refine⟨by omega,by omega,c3,hR.1 ?_⟩
  split at h
  ·rename_i hc;exact absurd h hc
  ·rename_i hc
   split at h
   ·omega
   ·rename_i hd;exact⟨Classical.not_not.1 hc,Classical.not_not.1 hd⟩
 ·obtain⟨r1,r2⟩:=hR.2 h.rs
  rw[if_neg (by simpa using r1),if_neg (by simpa using r2)]
theorem rU{l:List Sg3}{n:Int}(h:Right l n)(hl:l.length≤1000):bK.f lf l n=some (0,())∧bJ.f lf l n=some (0,()):=by
 have hs:∀ s∈l,SmV s.2.2.1:=fun s hs=>by
  obtain⟨v,e,hv,_⟩:=h.rs.good s hs
  rw[e];exact smV lf hb hv
 obtain⟨h1,h2,h3⟩:=yR lf hb (n:=n) hs hl
 rw[h3.2 h]at h1 h2
 exact⟨h1,h2⟩
end
end Go.N
namespace Go.N
open Go.IntKind (i64)
open Go Go.Q Go.Rx
def apS1(b:Nat)(_:Int)(v:V33)(a:List V33):Option (Empty ⊕ List V33):=bd (apL true b a [v]) fun q=>some (.inr q)
theorem ae1(b:Nat)(hb:b≤1000):∀ (l:List V33) (i:Int) (a:List V33),a.length+l.length≤1000000→runE (apS1 b) i l a=some (.inr (a++l))
 | [],i,a,h=>by simp[runE]
 | v::l,i,a,h=>by
  simp only[List.length_cons]at h
  rw[zK,apS1,acw,adB b a [v] hb (by simp;omega),bdS,kT,ae1 b hb l (i+1) (a++[v]) (by simp;omega)]
  simp
section
variable (lf:Nat)(hb:Big lf)
include hb
theorem adx{l:List Sg3}{n:Int}(h:Chn n 0 l)(hn:n≤1000)(hl:l.length≤1000):bY.f lf l=some (expand l,()):=by
 have hlen:=h.len
 have:=uj (S:=apS1 80) (l:=l) (R:=Empty) (L0:=fun n j a=>bY.l0 lf l (l.length:Nat) l n j a)
  (L1:=fun j y n i a=>bY.l1 lf l (l.length:Nat) j l y.1 y.2.1 y.2.2.1.1.1 y.2.2.1.1.2.1 y.2.2.1.1.2.2.1 y.2.2.1.2.1.1 y.2.2.1.2.1.2.1 y.2.2.1.2.1.2.2.1 n i a)
  (D:=fun z n j=>bY.l0 lf l (l.length:Nat) l n (i64.wrap (j+1)) z.1.1) (k1:=fun a=>((a,()),())) (e1:=fun r=>nomatch r) (k0:=fun a=>((a,()),())) (e0:=fun r=>nomatch r)
  (N:=n) (by omega) (q:=lf+40) (by have:=hb.1;omega) (by omega)
  (fun j s _ n i a=>by rw[bY.l1,bY.r1,apS1,acw];simp only[kT])
  (fun n j a=>by rw[bY.l0,bY.r0])
  (fun r=>nomatch r) (fun a n j=>rfl) l.length (lf+40) 0 0 [] (by omega) (by have:=hb.1;omega) (by simpa using h) (Int.le_refl _)
 rw[bY.f]
 rw[show(((0:Nat):Int))=0 from rfl]at this
 rw[this,List.drop_zero,ae1 80 (by omega) _ _ _ (by simp;omega),kT,bdS]
 rfl
end
def ofStep(i:Int)(v:V33)(out:List Sg3):List Sg3:=match out.getLast? with
 | some s=>if s.2.2.1=v then out.dropLast++[(s.1,i+1,s.2.2.1,())]else out++[(i,i+1,v,())]
 | none=>out++[(i,i+1,v,())]
def ofL:Int→List V33→List Sg3→List Sg3
 | _,[],out=>out
 | i,v::l,out=>ofL (i+1) l (ofStep i v out)
theorem ahu{α:Type}(l:List α)(z:α)(h:l≠[]):l.set (l.length-1) z=l.dropLast++[z]:=by
 obtain⟨m,x,rfl⟩:∃ m x,l=m++[x]:=⟨l.dropLast,l.getLast h,(List.dropLast_concat_getLast h).symm⟩
 simp[List.set_append]
theorem ajZ{α:Type}(l:List α)(i:Nat)(f:α→Option α)(h:i < l.length){z:α}(hz:f l[i]=some z):upE l i f=some (l.set i z):=by
 unfold upE
 rw[List.getElem?_eq_getElem h]
 simp only[hz]
theorem last_at{α:Type}(l:List α)(h:l≠[]):l.getLast? = some (l[l.length-1]'(by have:=List.length_pos_iff.2 h;omega)):=by
 rw[List.getLast?_eq_getElem?,List.getElem?_eq_getElem (by have:=List.length_pos_iff.2 h;omega)]
theorem ad2(i:Int)(v:V33)(out:List Sg3):(ofStep i v out).length≤out.length+1:=by
 unfold ofStep
 split
 ·split
  ·simp
   try omega
  ·simp
 ·simp
section
variable (lf:Nat)(hb:Big lf)
include hb
theorem ajb{l:List V33}(hl:l.length≤1000):∀ (d n j:Nat) (out:List Sg3),j+d=l.length→d < n→out.length≤j→gB.l0 lf l (l.length:Nat) n j out=some ((ofL j (l.drop j) out,()),())
 | 0,n,j,out,hd,hn,ho=>by
  obtain⟨n,rfl⟩:∃ q,n=q+1:=⟨n-1,by omega⟩
  rw[gB.l0,gB.r0,show decide ((j:Int) < ((l.length:Nat):Int))=false by simp;omega,brF,List.drop_eq_nil_of_le (by omega)]
  rfl
 | d+1,n,j,out,hd,hn,ho=>by
  obtain⟨n,rfl⟩:∃ q,n=q+1:=⟨n-1,by omega⟩
  have hj:j < l.length:=by omega
  rw[gB.l0,gB.r0,show decide ((j:Int) < ((l.length:Nat):Int))=true by simp;omega,brT,dA l j hj,bdS,List.drop_eq_getElem_cons hj,ofL]
  have go:∀ out',out'.length≤j+1→gB.l0 lf l (l.length:Nat) n (i64.wrap ((j:Int)+1)) out'=some ((ofL ((j:Int)+1) (l.drop (j+1)) out',()),()):=fun out' h=>by
   rw[w64 (by omega) (by omega),show(j:Int)+1=((j+1:Nat):Int) by omega]
   exact ajb hl d n (j+1) out' (by omega) (by omega) h
  have hw:i64.wrap ((j:Int)+1)=(j:Int)+1:=w64 (by omega) (by omega)
  by_cases h0:out=[]
  ·subst h0
   rw[show decide (((([]:List Sg3).length:Nat):Int) > 0)=false from rfl,brF,adB 96 _ _ (by omega) (by simp),bdS,go _ (by simp),hw]
   rfl
  ·have hp:0 < out.length:=List.length_pos_iff.2 h0
   have hlast:=last_at out h0
   rw[show decide (((out.length:Nat):Int) > 0)=true by simp;omega,brT,w64 (n:=((out.length:Nat):Int)-1) (by omega) (by omega),show((out.length:Nat):Int)-1=((out.length-1:Nat):Int) by omega,bP _ _ (by omega),bdS,List.getElem?_eq_getElem (by omega),bdS,uY,bdS]
   unfold ofStep
   rw[hlast]
   simp only
   by_cases he:out[out.length-1].2.2.1=l[j]
   ·rw[decide_eq_true he,brT,if_pos he]
    rw[show acz out.length ((out.length-1:Nat):Int) ((out.length:Nat):Int) ((out.length:Nat):Int)=some (out.length-1,1) by
     unfold acz;simp;omega,bdS]
    simp only
    rw[show idxB 1 0=some 0 from rfl,bdS,ajZ out (out.length-1+0) (fun y:Sg3=>some (y.1,i64.wrap ((j:Int)+1),y.2.2.1,())) (by omega) rfl,bdS,go _ (by simp;omega),hw]
    simp only[Nat.add_zero]
    rw[ahu _ _ h0]
   ·rw[decide_eq_false he,brF,if_neg he,adB 96 _ _ (by omega) (by simp;omega),bdS,go _ (by simp;omega),hw]
theorem of_p{l:List V33}(hl:l.length≤1000):gB.f lf l=some (ofL 0 l [],()):=by
 rw[gB.f]
 have:=ajb lf hb hl l.length (lf+40) 0 [] (by omega) (by have:=hb.1;omega) (by simp)
 rw[show(((0:Nat):Int))=0 from rfl,List.drop_zero]at this
 rw[this,bdS]
end
end Go.N
namespace Go.N
open Go Go.Q Go.Rx
theorem ltd{j:Nat}{k:Nat}:decide ((j:Int) < ((k:Nat):Int))=decide (j < k):=by simp
section
variable (lf:Nat)(hb:Big lf)
include hb
theorem aeE{l:List Sg3}(hl:l.length≤40):∀ (d n j:Nat),j+d=l.length→d < n→∃ b,dJ.l0 lf l n j=some (b,(),(),())∧(b=false→∀ s∈l.drop j,SmV s.2.2.1)
 | 0,n,j,hd,hn=>by
  obtain⟨n,rfl⟩:∃ q,n=q+1:=⟨n-1,by omega⟩
  refine⟨false,?_,fun _ s hs=>?_⟩
  ·rw[dJ.l0,dJ.r0,ltd,decide_eq_false (by omega),brF]
  ·rw[List.drop_eq_nil_of_le (by omega)]at hs;cases hs
 | d+1,n,j,hd,hn=>by
  obtain⟨n,rfl⟩:∃ q,n=q+1:=⟨n-1,by omega⟩
  have hj:j < l.length:=by omega
  obtain⟨b,b1,b2⟩:=ajA lf l[j].2.2.1 l[j].2.2.1
  obtain⟨c,c1,c2⟩:=aeE hl d n (j+1) (by omega) (by omega)
  rw[dJ.l0,dJ.r0,ltd,decide_eq_true hj,brT,dA l j hj,bdS,bdS,b1,bdS,w64 (by omega) (by omega),show(j:Int)+1=((j+1:Nat):Int) by omega,c1]
  cases b with
  | false=>exact⟨true,by rw[Bool.not_false,brT],fun h=>by cases h⟩
  | true =>
   refine⟨c,by rw[Bool.not_true,brF],fun h s hs=>?_⟩
   rw[List.drop_eq_getElem_cons hj]at hs
   rcases List.mem_cons.1 hs with rfl | hs
   ·exact(b2 rfl).1
   ·exact c2 h s hs
theorem ake(l:List Sg3):∃ b,dJ.f lf l=some (b,())∧(b=true→l.length≤40∧∀ s∈l,SmV s.2.2.1):=by
 rw[dJ.f]
 by_cases h:40 < l.length
 ·exact⟨false,by rw[show decide (((l.length:Nat):Int) > 40)=true by simp;omega,brT],fun h=>by cases h⟩
 ·rw[show decide (((l.length:Nat):Int) > 40)=false by simp;omega,brF]
  obtain⟨b,b1,b2⟩:=aeE lf hb (l:=l) (by omega) l.length (lf+40) 0 (by omega) (by have:=hb.1;omega)
  rw[show((0:Nat):Int)=0 from rfl]at b1
  rw[b1,bdS]
  cases b with
  | true=>exact⟨false,by rw[brT],fun h=>by cases h⟩
  | false=>exact⟨true,by rw[brF],fun _=>⟨by omega,fun s hs=>b2 rfl s (by simpa using hs)⟩⟩
omit hb in
theorem aeV:∀ (l:List V33) (i:Int) (out:List Sg3),(ofL i l out).length≤out.length+l.length
 | [],i,out=>by simp[ofL]
 | v::l,i,out=>by
  rw[ofL]
  have:=aeV l (i+1) (ofStep i v out)
  have:=ad2 i v out
  simp only[List.length_cons];omega
end
end Go.N
namespace Go.N
open Go Go.Q Go.Rx
section
variable (lf:Nat)(hb:Big lf){v w:Vl}(hv:WfV v)(hw:WfV w)
include hb hv hw
end
section
variable (lf:Nat)(hb:Big lf){x y:VV}(hx:SmV x)(hy:SmV y)
include hb hx hy
end
section
variable (lf:Nat)(hb:Big lf){x:VV}(hx:SmV x)
include hb hx
end
end Go.N
namespace Go.N
open Go Go.Q Go.Rx
theorem aaq{A R Z α:Type}(x:Option α)(f:α→Option (R ⊕ A))(e:R→Option Z)(g:A→Option Z):contS (bd x f) e g=bd x fun y=>contS (f y) e g:=by
 rw[iH,iH];cases x<;>rfl
section
variable (lf:Nat)(hb:Big lf)
include hb
end
end Go.N
namespace Go.N
open Go Go.Q Go.Rx
section
variable (lf:Nat)(hb:Big lf)
include hb
end
section
variable (lf:Nat)(hb:Big lf)
include hb
end
end Go.N
namespace Go.N
open Go Go.Q Go.Rx
section
variable (lf:Nat)(hb:Big lf)
include hb
end
end Go.N
namespace Go.N
open Go Go.Q Go.Rx
section
variable (lf:Nat)(hb:Big lf)
include hb
theorem acO{v:Vl}(hv:WfV v){z:Int}(hz: -Dd < z∧z < Dd):fU.f lf (vc v) (bs (Lib.itoa z))=some (inV v z,0,()):=by
 have h3:200000≤lf:=by have:=hb.1;omega
 have hk: -K < z∧z < K:=by have:=Dd_K;omega
 rw[fU.f,(chk_wf lf hb hv).1,bdS]
 simp only[bne_self_eq_false,brF]
 simp only[show(vc v).1=ac v.a from rfl,show(vc v).2.1=cc v.c from rfl,acP lf h3 hv.a hk,ah9 lf hb hv.c hk,bdS,bne_self_eq_false,brF]
 unfold inV
 cases inS (ofA v.a) z with
 | false=>simp only[brF,Bool.false_and]
 | true =>
  cases inC v.c z with
  | false=>simp only[brT,brF,Bool.true_and]
  | true=>simp only[brT,BEq.rfl,Bool.true_and]
theorem topV:(((false,(⟨#[]⟩:ByteArray),(⟨#[]⟩:ByteArray),()),(false,(⟨#[49]⟩:ByteArray),(⟨#[48]⟩:ByteArray),()),()):VV)=vc ⟨⟨false,none,none⟩,topC⟩:=by
 unfold vc;rw[jo rfl];simp only[topC];rw[←i1,←i0];rfl
def oneV(z:Int):Vl:=if -C < z∧z < C then onev z else⟨⟨false,none,none⟩,topC⟩
theorem abJ(z:Int):WfV (oneV z):=by
 unfold oneV
 split
 ·exact ad5 (by assumption)
 ·exact⟨⟨nofun,trivial,trivial,trivial⟩,aiS,rfl⟩
theorem akr{z:Int}(hz: -K < z∧z < K):sV.f lf (bs (Lib.itoa z))=some (vc (oneV z),0,()):=by
 have hl:=lJ hz
 rw[sV.f,nY lf _ (by omega),(mW z).2 hz,bdS]
 simp only[bne_self_eq_false,brF,show bs (Lib.itoa z)=ob (some z) from rfl,clipV lf (o:=some z) hz,bdS,Option.bind,uQ,uq.f,kF.f]
 unfold oneV
 by_cases c: -C < z∧z < C
 ·rw[oP c,if_pos c,decide_eq_false nofun,brF]
  simp only[show ob (some z)=bs (Lib.itoa z) from rfl,onV]
 ·rw[aam c,if_neg c,decide_eq_true rfl,brT,topV lf hb]
theorem ajc{z:Int}(hz: -K < z∧z < K):bQ.f lf (bs (Lib.itoa z))=some (vc (oneV z),()):=by
 have h3:200000≤lf:=by have:=hb.1;omega
 have hK:=K_gt
 rw[bQ.f,iT.f,i0,wJ lf h3 (m:=0) (by omega) hz,bdS,bdS]
 simp only[fQ.f,dU.f,bdS]
 unfold oneV
 by_cases c: -C < z∧z < C
 ·have hC:=C_gt
  rw[vk (Int.le_refl 0) (by omega) c,if_pos rfl,if_pos c,jo rfl]
  simp only[BEq.rfl,Bool.not_true,brF]
  rw[←onV,i0]
 ·have e:clsF 0 z=topC:=by
   have:¬sz z≤100:=fun x=>c ((sz_C z).1 x)
   unfold clsF;rw[if_pos (.inr (by rw[if_pos rfl];omega))]
  rw[e,if_neg c,jo rfl]
  have e1:((bs (Lib.itoa topC.m)).toList==(bs (Lib.itoa 0)).toList)=false:=by
   rw[kJ];exact decide_eq_false fun x=>by have:=mZ x;simp[topC]at this
  rw[e1,Bool.not_false,brT,topV lf hb]
end
end Go.N
namespace Go.N
open Go Go.Q Go.Rx
theorem Chn.bnd{n:Int}:∀ {l:List Sg3} {e:Int},Chn n e l→0≤e→∀ s∈l,0≤s.1∧s.1 < s.2.1∧s.2.1≤n
 | [],e,h,he,s,hs=>by cases hs
 | x::r,e,⟨h1,h2,h3,h4⟩,he,s,hs=>by
  rcases List.mem_cons.1 hs with rfl | hs
  ·exact⟨by omega,by omega,h3⟩
  ·exact h4.bnd (by omega) s hs
section
variable (lf:Nat)(hb:Big lf)
include hb
end
section
variable (lf:Nat)(hb:Big lf)
include hb
omit hb in
theorem itoaB{z:Int}(h1:0≤z)(h2:z≤1000):B.Itoa.f lf z=some (bs (Lib.itoa z),()):=by
 unfold B.Itoa.f;rw[if_pos ⟨by omega,by omega⟩]
end
end Go.N
namespace Go.N
open Go.IntKind (i64)
open Go Go.Q Go.Rx
def ixL(x:Vl):Nat→Nat→List Int
 | _,0=>[]
 | k,d+1=>if inV x k=true then(k:Int)::ixL x (k+1) d else ixL x (k+1) d
def ixF{B:Type}(x:Vl)(G:B→Nat→B):Nat→Nat→B→B
 | _,0,b=>b
 | k,d+1,b=>ixF x G (k+1) d (if inV x k=true then G b k else b)
theorem aeK(x:Vl):∀ (d k:Nat),(ixL x k d).length≤d
 | 0,k=>by simp[ixL]
 | d+1,k=>by
  have:=aeK x d (k+1)
  rw[ixL];split
  ·simp only[List.length_cons];omega
  ·omega
theorem aeJ{B:Type}{x:Vl}{G:B→Nat→B}:∀ (d k:Nat) (b:B),ixL x k d=[]→ixF x G k d b=b
 | 0,k,b,h=>rfl
 | d+1,k,b,h=>by
  rw[ixL]at h
  split at h
  ·cases h
  ·rename_i c
   rw[ixF,if_neg c];exact aeJ d (k+1) b h
theorem abv{B:Type}{x:Vl}{G:B→Nat→B}:∀ (d k:Nat),(ixL x k d).length=1→∃ i:Nat,k≤i∧i < k+d∧ixL x k d=[(i:Int)]∧∀ b,ixF x G k d b=G b i
 | 0,k,h=>by simp[ixL]at h
 | d+1,k,h=>by
  rw[ixL]at h⊢
  split at h
  ·rename_i c
   rw[if_pos c]
   have h0:ixL x (k+1) d=[]:=List.eq_nil_of_length_eq_zero (by simpa using h)
   exact⟨k,Nat.le_refl _,by omega,by rw[h0],fun b=>by rw[ixF,if_pos c,aeJ d _ _ h0]⟩
  ·rename_i c
   rw[if_neg c]
   obtain⟨i,i1,i2,i3,i4⟩:=abv (G:=G) d (k+1) h
   exact⟨i,by omega,by omega,i3,fun b=>by rw[ixF,if_neg c,i4]⟩
section
variable {A B R:Type}{x:Vl}{G:B→Nat→B}{rep:B→A}{I:Nat→B→Prop}
theorem aea{S:Int→V33→A→Option (R ⊕ A)}{vs:List Vl}
  (hS:∀ (k:Nat) (hk:k < vs.length) b,I k b→S k (vc vs[k]) (rep b)=some (.inr (rep (if inV x k=true then G b k else b))))
  (hI:∀ (k:Nat) b,k < vs.length→I k b→I (k+1) (if inV x k=true then G b k else b)):∀ (d k:Nat) (b:B),k+d=vs.length→I k b→
  runE S k ((vs.drop k).map vc) (rep b)=some (.inr (rep (ixF x G k d b)))
 | 0,k,b,hk,hb=>by rw[List.drop_eq_nil_of_le (by omega)];rfl
 | d+1,k,b,hk,hb=>by
  have h:k < vs.length:=by omega
  rw[List.drop_eq_getElem_cons h,List.map_cons,zK,hS k h b hb,kT,show(k:Int)+1=((k+1:Nat):Int) by omega,aea hS hI d (k+1) _ (by omega) (hI k b h hb),ixF]
end
abbrev flat(a:V33):(Bool×ByteArray×ByteArray×Bool×ByteArray×ByteArray×Unit)×Unit:=((a.1.1,a.1.2.1,a.1.2.2.1,a.2.1.1,a.2.1.2.1,a.2.1.2.2.1,()),())
theorem aiY:1000 < Dd:=by
 have:=C_gt
 have:=(sz_C 1000).2 ⟨by omega,by omega⟩
 have:=(aky 1000).1 (by omega)
 omega
theorem ajJ:metV (oneV 0) (oneV 1)=Ev:=by
 have:=C_gt
 unfold oneV
 rw[if_pos ⟨by omega,by omega⟩,if_pos ⟨by omega,by omega⟩]
 unfold metV
 have:(toA (common (ofA (onev 0).a) (ofA (onev 1).a))).em=true:=by decide
 unfold red
 rw[if_pos this]
section
variable (lf:Nat)(hb:Big lf)
include hb
omit hb in
theorem bigOf{z:Int}(h1:0≤z)(h2:z≤1000):fH.f lf z=some (bs (Lib.itoa z),()):=by
 rw[fH.f,itoaB lf h1 h2,bdS]
theorem oneP{z:Int}(h1:0≤z)(h2:z≤1000):gX.f lf z=some (vc (oneV z),()):=by
 have:=K_gt
 rw[gX.f,bigOf lf h1 h2,bdS,akr lf hb ⟨by omega,by omega⟩,bdS,eH.f,bdS]
theorem afW:gq.f lf=some (vc Ev,()):=by
 rw[gq.f,oneP lf hb (z:=0) (by omega) (by omega),oneP lf hb (z:=1) (by omega) (by omega),bdS,bdS,ajM lf hb (abJ lf hb 0) (abJ lf hb 1),bdS,ajJ,eH.f,bdS]
theorem aiI{l:List Sg3}{n c:Int}{y:V33}(h:bK.f lf l n=some (0,()))(hc:dn.f lf y=some (c,())):aV.f lf l n [y]=some (c,()):=by
 rw[aV.f,h,bdS,show(((0:Int),()).1 != 0)=false from rfl,brF,show lf+40=lf+38+1+1 from rfl,aV.l0,aV.r0,show decide ((0:Int) < (([y].length:Nat):Int))=true from rfl,brT,show idxL [y] 0=some y from rfl,bdS,hc,bdS]
 by_cases h0:c=0
 ·subst h0
  rw[show(((0:Int),()).1 != 0)=false from rfl,brF,aV.l0,aV.r0,show decide (i64.wrap (0+1) < (([y].length:Nat):Int))=false from rfl,brF,bdS,brF]
 ·rw[show((c,()).1 != 0)=true by simpa using h0,brT,bdS,brT]
theorem aiJ{l:List Sg3}{n c d:Int}{y z:V33}(h:bK.f lf l n=some (0,()))(hc:dn.f lf y=some (c,()))(hd:dn.f lf z=some (d,())):aV.f lf l n [y,z]=some (if c≠0 then c else d,()):=by
 rw[aV.f,h,bdS,show(((0:Int),()).1 != 0)=false from rfl,brF,show lf+40=lf+37+1+1+1 from rfl,aV.l0,aV.r0,show decide ((0:Int) < (([y,z].length:Nat):Int))=true from rfl,brT,show idxL [y,z] 0=some y from rfl,bdS,hc,bdS]
 by_cases h0:c=0
 ·subst h0
  rw[show(((0:Int),()).1 != 0)=false from rfl,brF,aV.l0,aV.r0,show decide (i64.wrap (0+1) < (([y,z].length:Nat):Int))=true from rfl,brT,show idxL [y,z] (i64.wrap (0+1))=some z from rfl,bdS,hd,bdS,if_neg (by simp)]
  by_cases h1:d=0
  ·subst h1
   rw[show(((0:Int),()).1 != 0)=false from rfl,brF,aV.l0,aV.r0,show decide (i64.wrap (i64.wrap (0+1)+1) < (([y,z].length:Nat):Int))=false from rfl,brF,bdS,brF]
  ·rw[show((d,()).1 != 0)=true by simpa using h1,brT,bdS,brT]
 ·rw[show((c,()).1 != 0)=true by simpa using h0,brT,bdS,brT,if_pos h0]
end
end Go.N
namespace Go.N
open Go.IntKind (i64)
open Go Go.Q Go.Rx
noncomputable def ldS (lf:Nat) (x:V33) (i:Int) (v:V33) (a:V33):Option (Empty ⊕ V33) :=
 bd (fH.f lf i) fun r4=>bd (fU.f lf x r4.1) fun r5=>bd (bH.f lf r5.1 r5.2.1) fun r6=>br r6.1 (bd (ig.f lf a v) fun r7=>bd (eH.f lf r7.1 r7.2.1) fun r8=>some (.inr r8.1)) (some (.inr a))
theorem yh{vs:List Vl}{k:Nat}(h:k < vs.length):vs.getD k Ev=vs[k]:=by simp[List.getD,h]
def ldG(vs:List Vl)(b:Vl)(k:Nat):Vl:=joinV b (vs.getD k Ev)
section
variable (lf:Nat)(hb:Big lf)
include hb
theorem aik{l:List Sg3}{n:Int}(x a:V33)(h:Chn n 0 l)(hn:n≤1000)(hl:l.length≤1000):
  dI.l0 lf l (l.length:Nat) x.1.1 x.1.2.1 x.1.2.2.1 x.2.1.1 x.2.1.2.1 x.2.1.2.2.1 false ⟨#[]⟩ ⟨#[]⟩ false ⟨#[]⟩ ⟨#[]⟩ [x] l x.1.1 x.1.2.1 x.1.2.2.1 x.2.1.1 x.2.1.2.1 x.2.1.2.2.1 l (lf+40) 0 a.1.1 a.1.2.1 a.1.2.2.1 a.2.1.1 a.2.1.2.1 a.2.1.2.2.1
   = contS (runE (ldS lf x) 0 (expand l) a) (fun r=>some (Empty.elim r)) fun a'=>some (flat a'):=by
 have:=uj (S:=ldS lf x) (l:=l) (L0:=fun n j a=>dI.l0 lf l (l.length:Nat) x.1.1 x.1.2.1 x.1.2.2.1 x.2.1.1 x.2.1.2.1 x.2.1.2.2.1 false ⟨#[]⟩ ⟨#[]⟩ false ⟨#[]⟩ ⟨#[]⟩ [x] l x.1.1 x.1.2.1 x.1.2.2.1 x.2.1.1 x.2.1.2.1 x.2.1.2.2.1 l n j a.1.1 a.1.2.1 a.1.2.2.1 a.2.1.1 a.2.1.2.1 a.2.1.2.2.1)
  (L1:=fun j y n i a=>dI.l1 lf l (l.length:Nat) j x.1.1 x.1.2.1 x.1.2.2.1 x.2.1.1 x.2.1.2.1 x.2.1.2.2.1 false ⟨#[]⟩ ⟨#[]⟩ false ⟨#[]⟩ ⟨#[]⟩ [x] l x.1.1 x.1.2.1 x.1.2.2.1 x.2.1.1 x.2.1.2.1 x.2.1.2.2.1 l y.1 y.2.1 y.2.2.1.1.1 y.2.2.1.1.2.1 y.2.2.1.1.2.2.1 y.2.2.1.2.1.1 y.2.2.1.2.1.2.1 y.2.2.1.2.1.2.2.1 n i a.1.1 a.1.2.1 a.1.2.2.1 a.2.1.1 a.2.1.2.1 a.2.1.2.2.1)
  (D:=fun z n j=>dI.l0 lf l (l.length:Nat) x.1.1 x.1.2.1 x.1.2.2.1 x.2.1.1 x.2.1.2.1 x.2.1.2.2.1 false ⟨#[]⟩ ⟨#[]⟩ false ⟨#[]⟩ ⟨#[]⟩ [x] l x.1.1 x.1.2.1 x.1.2.2.1 x.2.1.1 x.2.1.2.1 x.2.1.2.2.1 l n (i64.wrap (j+1)) z.1.1 z.1.2.1 z.1.2.2.1 z.1.2.2.2.1 z.1.2.2.2.2.1 z.1.2.2.2.2.2.1)
  (k1:=flat) (e1:=fun r=>r.elim) (k0:=flat) (e0:=fun r=>r.elim)
  (N:=n) (by omega) (q:=lf+40) (by have:=hb.1;omega) (by omega)
  (fun j s _ n i a=>by rw[dI.l1,dI.r1,ldS];simp only[aaq,acy,aar,kT])
  (fun n j a=>by rw[dI.l0,dI.r0])
  (fun r n j=>r.elim) (fun a n j=>rfl) l.length (lf+40) 0 0 a (by omega) (by have:=hb.1;omega) (by simpa using h) (Int.le_refl _)
 rw[List.drop_zero]at this
 exact this
theorem akm{x v b:Vl}(hx:WfV x)(hv:WfV v)(hw:WfV b){k:Nat}(hk:k≤900):ldS lf (vc x) k (vc v) (vc b)=some (.inr (vc (if inV x k=true then joinV b v else b))):=by
 have hD:=aiY
 rw[ldS,bigOf lf (by omega) (by omega),bdS,acO lf hb hx ⟨by omega,by omega⟩,bdS,bH.f,bdS,aeM lf hb hw hv,bdS,eH.f,bdS]
 cases inV x k with
 | true=>rw[brT,if_pos rfl]
 | false=>rw[brF,if_neg (by simp)]
theorem akl{vs:List Vl}(h:∀ v∈vs,WfV v∧v.a.em=false){x:Vl}(k:Nat)(b:Vl)(hk:k < vs.length)(hw:WfV b):WfV (if inV x k=true then ldG vs b k else b):=by
 split
 ·unfold ldG
  rw[yh hk]
  exact aic hw (h _ (List.getElem_mem hk)).1
 ·exact hw
theorem ajI{l:List Sg3}{n:Int}{vs:List Vl}{x:Vl}(hx:WfV x)(hR:Right l n)(hl:l.length≤1000)(v1:expand l=vs.map vc)(v2:∀ v∈vs,WfV v∧v.a.em=false)(v3:(vs.length:Int)=n):
  dI.f lf l n (vc x)=some (vc (ixF x (ldG vs) 0 vs.length Ev),0,()):=by
 have hn:=hR.n2
 have hlf:=hb.1
 have hck:=rU lf hb hR hl
 have run:=aea (S:=ldS lf (vc x)) (rep:=vc) (x:=x) (G:=ldG vs) (I:=fun _ b=>WfV b) (vs:=vs)
  (fun k hk b hw=>by rw[akm lf hb hx (v2 _ (List.getElem_mem hk)).1 hw (by omega),ldG,yh hk])
  (fun k b hk hw=>akl lf hb v2 k b hk hw) vs.length 0 Ev (by omega) Ev_V
 rw[List.drop_zero,show((0:Nat):Int)=0 from rfl]at run
 rw[dI.f,aiI lf hb hck.1 (chk_wf lf hb hx).1,bdS,show(((0:Int),()).1 != 0)=false from rfl,brF,afW lf hb,bdS,aik lf hb (n:=n) (vc x) (vc Ev) hR.rs.chn (by omega) hl,v1,run,kT,bdS]
end
end Go.N
namespace Go.N
open Go.IntKind (i64)
open Go Go.Q Go.Rx
abbrev St3:Type:=List V33×Int×Int
noncomputable def stS (lf:Nat) (x u:V33) (i:Int) (v:V33) (a:St3):Option (Empty ⊕ St3) :=
 bd (fH.f lf i) fun r4=>bd (fU.f lf x r4.1) fun r5=>bd (bH.f lf r5.1 r5.2.1) fun r6=>br r6.1 (bd (ig.f lf v u) fun r7=>bd (eH.f lf r7.1 r7.2.1) fun r8=>bd (idxB a.1.length i) fun j9=>bd (upE a.1 j9 fun _=>some r8.1) fun q10=>some (.inr (q10,i64.wrap (a.2.1+1),i))) (some (.inr a))
def stG(vs:List Vl)(u:Vl)(b:List Vl×Nat×Nat)(k:Nat):List Vl×Nat×Nat:=(b.1.set k (joinV (vs.getD k Ev) u),b.2.1+1,k)
def stR(b:List Vl×Nat×Nat):St3:=(b.1.map vc,(b.2.1:Int),(b.2.2:Int))
def stI(vs:List Vl)(k:Nat)(b:List Vl×Nat×Nat):Prop:=b.1.length=vs.length∧b.1.drop k=vs.drop k∧b.2.1≤k
theorem ahA{vs:List Vl}{u x:Vl}(k:Nat)(b:List Vl×Nat×Nat)(hk:k < vs.length)(h:stI vs k b):stI vs (k+1) (if inV x k=true then stG vs u b k else b):=by
 obtain⟨h1,h2,h3⟩:=h
 have hd:b.1.drop (k+1)=vs.drop (k+1):=by
  have:=congrArg (List.drop 1) h2
  rwa [List.drop_drop,List.drop_drop]at this
 split
 ·refine⟨by simp[stG,h1],?_,by simp[stG];omega⟩
  simp only[stG]
  rw[List.drop_set_of_lt (by omega),hd]
 ·exact⟨h1,hd,by omega⟩
theorem aaB{vs:List Vl}{u x:Vl}:∀ (d k:Nat) (b:List Vl×Nat×Nat),(ixF x (stG vs u) k d b).2.1=b.2.1+(ixL x k d).length
 | 0,k,b=>by simp[ixF,ixL]
 | d+1,k,b=>by
  rw[ixF,aaB d (k+1),ixL]
  split
  ·simp[stG];omega
  ·rfl
theorem aeI{vs:List Vl}{u x:Vl}:∀ (d k:Nat) (b:List Vl×Nat×Nat),(ixF x (stG vs u) k d b).1.length=b.1.length
 | 0,k,b=>rfl
 | d+1,k,b=>by
  rw[ixF,aeI d (k+1)]
  split
  ·simp[stG]
  ·rfl
abbrev flat3(a:St3):(List V33×Int×Int×Unit)×Unit:=((a.1,a.2.1,a.2.2,()),())
def stZ(vs:List Vl)(x u:Vl):List Sg3×Bool×Unit:=if(ixL x 0 vs.length).length=0∨u.a.em=true then([],false,())else(ofL 0 ((if(ixL x 0 vs.length).length=1 then vs.set ((ixL x 0 vs.length).headD 0).toNat u else(ixF x (stG vs u) 0 vs.length (vs,0,0)).1).map vc) [],true,())
section
variable (lf:Nat)(hb:Big lf)
include hb
theorem ahB{l:List Sg3}{n:Int}(x u:V33)(a:St3)(h:Chn n 0 l)(hn:n≤1000)(hl:l.length≤1000):
  bM.l0 lf l (l.length:Nat) x.1.1 x.1.2.1 x.1.2.2.1 x.2.1.1 x.2.1.2.1 x.2.1.2.2.1 u.1.1 u.1.2.1 u.1.2.2.1 u.2.1.1 u.2.1.2.1 u.2.1.2.2.1 [x,u] l x.1.1 x.1.2.1 x.1.2.2.1 x.2.1.1 x.2.1.2.1 x.2.1.2.2.1 l (lf+40) 0 a.1 a.2.1 a.2.2
   = contS (runE (stS lf x u) 0 (expand l) a) (fun r=>some (Empty.elim r)) fun a'=>some (flat3 a'):=by
 have:=uj (S:=stS lf x u) (l:=l) (L0:=fun n j a=>bM.l0 lf l (l.length:Nat) x.1.1 x.1.2.1 x.1.2.2.1 x.2.1.1 x.2.1.2.1 x.2.1.2.2.1 u.1.1 u.1.2.1 u.1.2.2.1 u.2.1.1 u.2.1.2.1 u.2.1.2.2.1 [x,u] l x.1.1 x.1.2.1 x.1.2.2.1 x.2.1.1 x.2.1.2.1 x.2.1.2.2.1 l n j a.1 a.2.1 a.2.2)
  (L1:=fun j y n i a=>bM.l1 lf l (l.length:Nat) j x.1.1 x.1.2.1 x.1.2.2.1 x.2.1.1 x.2.1.2.1 x.2.1.2.2.1 u.1.1 u.1.2.1 u.1.2.2.1 u.2.1.1 u.2.1.2.1 u.2.1.2.2.1 [x,u] l x.1.1 x.1.2.1 x.1.2.2.1 x.2.1.1 x.2.1.2.1 x.2.1.2.2.1 l y.1 y.2.1 y.2.2.1.1.1 y.2.2.1.1.2.1 y.2.2.1.1.2.2.1 y.2.2.1.2.1.1 y.2.2.1.2.1.2.1 y.2.2.1.2.1.2.2.1 n i a.1 a.2.1 a.2.2)
  (D:=fun z n j=>bM.l0 lf l (l.length:Nat) x.1.1 x.1.2.1 x.1.2.2.1 x.2.1.1 x.2.1.2.1 x.2.1.2.2.1 u.1.1 u.1.2.1 u.1.2.2.1 u.2.1.1 u.2.1.2.1 u.2.1.2.2.1 [x,u] l x.1.1 x.1.2.1 x.1.2.2.1 x.2.1.1 x.2.1.2.1 x.2.1.2.2.1 l n (i64.wrap (j+1)) z.1.1 z.1.2.1 z.1.2.2.1)
  (k1:=flat3) (e1:=fun r=>r.elim) (k0:=flat3) (e0:=fun r=>r.elim)
  (N:=n) (by omega) (q:=lf+40) (by have:=hb.1;omega) (by omega)
  (fun j s _ n i a=>by rw[bM.l1,bM.r1,stS];simp only[aaq,acy,aar,kT])
  (fun n j a=>by rw[bM.l0,bM.r0])
  (fun r n j=>r.elim) (fun a n j=>rfl) l.length (lf+40) 0 0 a (by omega) (by have:=hb.1;omega) (by simpa using h) (Int.le_refl _)
 rw[List.drop_zero]at this
 exact this
theorem aiN{l:List Sg3}{n:Int}{vs:List Vl}{x u:Vl}(hx:WfV x)(hu:WfV u)(hR:Right l n)(hl:l.length≤1000)(v1:expand l=vs.map vc)(v2:∀ v∈vs,WfV v∧v.a.em=false)(v3:(vs.length:Int)=n):
  bM.f lf l n (vc x) (vc u)=some ((stZ vs x u).1,(stZ vs x u).2.1,0,()):=by
 have hn:=hR.n2
 have hlf:=hb.1
 have hD:=aiY
 have hI0:stI vs 0 (vs,0,0):=⟨rfl,rfl,Nat.le_refl _⟩
 have hxl:=aeK x vs.length 0
 have hck:=rU lf hb hR hl
 have run:=aea (S:=stS lf (vc x) (vc u)) (rep:=stR) (x:=x) (G:=stG vs u) (I:=stI vs) (vs:=vs)
  (fun k hk b hw=>by
   obtain⟨w1,w2,w3⟩:=hw
   rw[stS,bigOf lf (by omega) (by omega),bdS,acO lf hb hx ⟨by omega,by omega⟩,bdS,bH.f,bdS,aeM lf hb (v2 _ (List.getElem_mem hk)).1 hu,bdS,eH.f,bdS]
   rw[show(stR b).1.length=b.1.length from List.length_map ..,bP _ _ (by omega),bdS,jL _ _ _ (by rw[show(stR b).1.length=b.1.length from List.length_map ..];omega),bdS]
   cases inV x k with
   | true =>
    rw[brT,if_pos rfl]
    simp only[stR,stG,List.map_set,yh hk]
    rw[w64 (by omega) (by omega)]
    rfl
   | false=>rw[brF,if_neg (by simp)])
  (fun k b hk hw=>ahA k b hk hw) vs.length 0 (vs,0,0) (by omega) hI0
 rw[List.drop_zero,show((0:Nat):Int)=0 from rfl]at run
 have e0:bM.l0 lf l (l.length:Nat) (vc x).1.1 (vc x).1.2.1 (vc x).1.2.2.1 (vc x).2.1.1 (vc x).2.1.2.1 (vc x).2.1.2.2.1 (vc u).1.1 (vc u).1.2.1 (vc u).1.2.2.1 (vc u).2.1.1 (vc u).2.1.2.1 (vc u).2.1.2.2.1 [vc x,vc u] l (vc x).1.1 (vc x).1.2.1 (vc x).1.2.2.1 (vc x).2.1.1 (vc x).2.1.2.1 (vc x).2.1.2.2.1 l (lf+40) 0 (vs.map vc) 0 0=some (flat3 (stR (ixF x (stG vs u) 0 vs.length (vs,0,0)))):=by
  have:=ahB lf hb (n:=n) (vc x) (vc u) (stR (vs,0,0)) hR.rs.chn (by omega) hl
  rw[v1,run,kT]at this
  exact this
 have hcnt:=aaB (vs:=vs) (u:=u) (x:=x) vs.length 0 (vs,0,0)
 rw[Nat.zero_add]at hcnt
 have hlen:=aeI (vs:=vs) (u:=u) (x:=x) vs.length 0 (vs,0,0)
 have hone:=abv (x:=x) (G:=stG vs u) vs.length 0
 rw[bM.f,aiJ lf hb hck.1 (chk_wf lf hb hx).1 (chk_wf lf hb hu).1,bdS,if_neg (by simp),show(((0:Int),()).1 != 0)=false from rfl,brF,adx lf hb hR.rs.chn (by omega) hl,bdS,v1,e0,bdS,show fE.f lf (vc u)=some (u.a.em,()) from rfl,bdS,stZ]
 simp only[flat3,stR,hcnt]
 by_cases h0:(ixL x 0 vs.length).length=0
 ·rw[show((((ixL x 0 vs.length).length:Nat):Int)==0)=true by simp[h0],brT,if_pos (.inl h0)]
 rw[show((((ixL x 0 vs.length).length:Nat):Int)==0)=false by simp;intro h;rw[h]at h0;exact h0 rfl,brF]
 cases hem:u.a.em with
 | true=>rw[brT,if_pos (.inr rfl)]
 | false =>
  rw[brF,if_neg (by simp;intro h;rw[h]at h0;exact h0 rfl)]
  by_cases h1:(ixL x 0 vs.length).length=1
  ·obtain⟨i,i1,i2,i3,i4⟩:=hone h1
   have hi:i < vs.length:=by omega
   have hset:((stG vs u (vs,0,0) i).1.map vc).set i (vc u)=(vs.set i u).map vc:=by
    simp only[stG,List.map_set,List.set_set]
   rw[i4,i3,show(((([(i:Int)]:List Int).length:Nat):Int)==1)=true from rfl,brT,if_pos (show([(i:Int)]:List Int).length=1 from rfl)]
   simp only[List.headD_cons,Int.toNat_natCast]
   rw[show(stG vs u (vs,0,0) i).2.2=i from rfl,List.length_map,show(stG vs u (vs,0,0) i).1.length=vs.length by simp[stG],bP _ _ hi,bdS,jL _ _ _ (by simp[stG];exact hi),bdS,hset,of_p lf hb (by simp;omega),bdS]
  ·rw[show((((ixL x 0 vs.length).length:Nat):Int)==1)=false by simp;omega,brF,if_neg h1,of_p lf hb (by rw[List.length_map,hlen];simp;omega),bdS]
end
end Go.N
namespace Go.N
open Go Go.Q Go.Rx
theorem ad3(i:Int)(v:V33):ofStep i v []=[(i,i+1,v,())]:=rfl
theorem ad4(i:Int)(v:V33)(s:Sg3):ofStep i v [s]=if s.2.2.1=v then [(s.1,i+1,s.2.2.1,())]else [s,(i,i+1,v,())]:=rfl
theorem adb(i:Int)(v:V33)(s t:Sg3)(r:List Sg3):ofStep i v (s::t::r)=s::ofStep i v (t::r):=by
 unfold ofStep
 rw[List.getLast?_cons_cons]
 cases (t::r).getLast? with
 | none=>rfl
 | some q =>
  simp only
  split<;>rfl
theorem step_ok{i:Int}{v:V33}(hv:GoodV v):∀ (out:List Sg3) (p:Option V33) (e:Int),RS i p e out→(out=[]→p≠some v)→RS (i+1) p e (ofStep i v out)∧expand (ofStep i v out)=expand out++[v]
 | [],p,e,h,hp=>by
  have h:e=i:=h
  subst h
  refine⟨⟨rfl,by show e < e+1;omega,Int.le_refl _,hv,hp rfl,rfl⟩,?_⟩
  simp only[ad3,expand,List.flatMap_cons,List.flatMap_nil,show(e+1-e).toNat=1 by omega]
  rfl
 | [s],p,e,⟨h1,h2,h3,h4,h5,h6⟩,hp=>by
  have h6:s.2.1=i:=h6
  rw[ad4]
  by_cases hs:s.2.2.1=v
  ·rw[if_pos hs]
   refine⟨⟨h1,by show e < i+1;omega,Int.le_refl _,h4,h5,rfl⟩,?_⟩
   simp only[expand,List.flatMap_cons,List.flatMap_nil,List.append_nil]
   rw[show(i+1-s.1).toNat=(s.2.1-s.1).toNat+1 by omega,List.replicate_succ',hs]
  ·rw[if_neg hs]
   refine⟨⟨h1,h2,by omega,h4,h5,⟨h6.symm,by show s.2.1 < i+1;omega,Int.le_refl _,hv,fun h=>hs (Option.some.inj h),rfl⟩⟩,?_⟩
   simp only[expand,List.flatMap_cons,List.flatMap_nil,List.append_nil,show(i+1-i).toNat=1 by omega]
   rfl
 | s::t::r,p,e,⟨h1,h2,h3,h4,h5,h6⟩,hp=>by
  rw[adb]
  obtain⟨a,b⟩:=step_ok hv (t::r) (some s.2.2.1) s.2.1 h6 (fun h=>by cases h)
  refine⟨⟨h1,h2,by omega,h4,h5,a⟩,?_⟩
  unfold expand at b⊢
  rw[List.flatMap_cons,b,List.flatMap_cons (x:=s) (xs:=t::r),List.append_assoc]
theorem ag2:∀ (l:List V33) (i:Int) (out:List Sg3),RS i none 0 out→(∀ x∈l,GoodV x)→RS (i+l.length) none 0 (ofL i l out)∧expand (ofL i l out)=expand out++l
 | [],i,out,h,hg=>by simpa [ofL]using h
 | v::l,i,out,h,hg=>by
  obtain⟨a,b⟩:=step_ok (hg v (List.mem_cons_self ..)) out none 0 h (fun _=>by simp)
  obtain⟨c,d⟩:=ag2 l (i+1) _ a fun x hx=>hg x (List.mem_cons_of_mem _ hx)
  rw[ofL]
  refine⟨?_,by rw[d,b,List.append_assoc];rfl⟩
  rw[show i+((v::l).length:Nat)=i+1+(l.length:Nat) by simp;omega]
  exact c
theorem ag3{l:List V33}{n:Int}(h1:1≤n)(h2:n≤32)(hl:(l.length:Int)=n)(hg:∀ x∈l,GoodV x):Right (ofL 0 l []) n∧expand (ofL 0 l [])=l:=by
 obtain⟨a,b⟩:=ag2 l 0 [] rfl hg
 rw[Int.zero_add,hl]at a
 have b:expand (ofL 0 l [])=l:=b
 refine⟨⟨h1,h2,fun e=>?_,a⟩,b⟩
 rw[e]at b
 have:=congrArg List.length b
 simp[expand]at this;omega
theorem aeW{z:Int}(h: -1000000≤z∧z≤1000000):oneV z=onev z:=by
 have:=C_gt
 unfold oneV
 rw[if_pos ⟨by omega,by omega⟩]
theorem aia{z w:Int}(h: -1000000≤z∧z≤1000000):inV (oneV z) w=decide (w=z):=by
 rw[aeW h]
 unfold inV onev
 by_cases hw:w=z
 ·subst hw
  simp[inS,inC,ofA,lox,hix,key,dvd']
 ·have:inS (ofA ⟨false,some z,some z⟩) w=false:=by
   simp[inS,ofA,lox,hix,key];omega
  rw[this,Bool.false_and,decide_eq_false hw]
theorem acX{x:Vl}{i:Nat}(h:∀ k:Nat,inV x k=decide ((k:Int)=i)):∀ (d k:Nat),i < k→ixL x k d=[]
 | 0,k,hk=>rfl
 | d+1,k,hk=>by
  rw[ixL,if_neg (by rw[h,decide_eq_true_iff];omega),acX h d (k+1) (by omega)]
theorem aeL{x:Vl}{i:Nat}(h:∀ k:Nat,inV x k=decide ((k:Int)=i)):∀ (d k:Nat),k≤i→i < k+d→ixL x k d=[(i:Int)]
 | 0,k,hk,hd=>by omega
 | d+1,k,hk,hd=>by
  rw[ixL]
  by_cases c:k=i
  ·subst c
   rw[if_pos (by rw[h,decide_eq_true_iff]),acX h d (k+1) (by omega)]
  ·rw[if_neg (by rw[h,decide_eq_true_iff];omega)]
   exact aeL h d (k+1) (by omega) (by omega)
theorem aid{v:Vl}(h:WfV v):joinV Ev v=v:=by
 unfold joinV
 have e1:toA (hull (ofA Ev.a) (ofA v.a))=v.a:=by
  unfold hull
  rw[show ofA Ev.a=non from rfl,if_pos abk,aiR h.a]
 have e2:joinC Ev.c v.c=v.c:=by
  unfold joinC
  exact if_pos rfl
 rw[e1,e2]
 exact h.red
end Go.N
namespace Go.N
open Go Go.Q
theorem ahV(lf:Nat):dN.f lf=some (true,()):=by kernel_rfl
end Go.N
namespace Go.Q
open Go Go.RowKit Go.ChangeShapes Go.WideShapes
def flat:Ty→Bool
 | .sl _=>false
 | .pair a b=>flat a&&flat b
 | _=>true
def partsOf(P:Program)(t:TypeId):List (TypeId×Nat):=match P.underlying t with
 | some (.struct fs)=>fs.toList.map fun f=>(f.type,f.offset)
 | some (.array n e)=>(List.range n).map fun i=>(e,i*P.cellsOf e)
 | _=>[]
mutual
def fitT(P:Program):Ty→TypeId→Bool
 | .int k,t=>match P.underlying t with
  | some (.int k')=>decide (k'=k)
  | _=>false
 | .bool,t=>match P.underlying t with
  | some .bool=>true
  | _=>false
 | .str,t=>match P.underlying t with
  | some .string=>true
  | _=>false
 | .unit,_=>false
 | .nul,_=>false
 | .pair a b,t=>match partsOf P t with
  | p::r=>p.2==0&&(fitT P a p.1&&(P.cellsOf p.1==a.n&&(fitL P b r a.n&&P.cellsOf t==a.n+b.n)))
  | []=>false
 | .sl e,t=>match P.underlying t with
  | some (.slice e')=>fitT P e e'&&(flat e&&P.cellsOf e'==e.n)
  | _=>false
def fitL(P:Program):Ty→List (TypeId×Nat)→Nat→Bool
 | .unit,l,_=>match l with
  | []=>true
  | _=>false
 | .pair a b,l,k=>match l with
  | p::r=>p.2==k&&(fitT P a p.1&&(P.cellsOf p.1==a.n&&fitL P b r (k+a.n)))
  | []=>false
 | _,_,_=>false
end
def Bnd:(T:Ty)→T.α→Prop
 | .int k,x=>k.min≤x∧x≤k.max
 | .str,x=>x.size≤9223372036854775807
 | .pair a b,x=>Bnd a x.1∧Bnd b x.2
 | .sl e,l=>l.length≤9223372036854775807∧∀ y∈l,Bnd e y
 | _,_=>True
def Bnds:(ps:List Ty)→Tys ps→Prop
 | [],_=>True
 | t::ts,x=>Bnd t x.1∧Bnds ts x.2
section
variable {H:Type}{enc:TypeId×Value→H}{P:Program}{w:World}{F:Nat→Prop}{sp:Nat→Bool}{held:Bool}
theorem aeh{t:TypeId}{fuel:Nat}{cs:List Value}{x:DataW H×List MemPlace}(hp:partsOf P t≠[])(h:DataW.trod enc P w 0 sp held fuel t cs=some x):
  cs.length=P.cellsOf t∧∃ n,∀ p∈partsOf P t,∃ y,DataW.trod enc P w 0 sp held n p.1 ((cs.drop p.2).take (P.cellsOf p.1))=some y:=by
 unfold partsOf at hp⊢
 split at hp
 ·rename_i fs hu
  obtain⟨xs,n,_,_,hl,hxl,hf⟩:=DataW.trod_struct hu h
  refine⟨hl,n,fun p hm=>?_⟩
  simp only[List.mem_map]at hm
  obtain⟨f,hfm,rfl⟩:=hm
  obtain⟨i,hi,he⟩:=List.mem_iff_getElem.1 hfm
  have h1:fs[i]? = some f:=by
   have:fs.toList[i]? = some f:=by rw[List.getElem?_eq_getElem hi,he]
   simpa using this
  have h2:i < xs.length:=by
   rw[hxl];simpa using hi
  exact⟨xs[i],by rw[hf i f h1,List.getElem?_eq_getElem h2]⟩
 ·rename_i n e hu
  obtain⟨xs,m,_,_,hl,hxl,hf⟩:=DataW.trod_array hu h
  refine⟨hl,m,fun p hm=>?_⟩
  simp only[List.mem_map,List.mem_range]at hm
  obtain⟨i,hi,rfl⟩:=hm
  exact⟨xs[i],by rw[hf i hi,List.getElem?_eq_getElem (by omega)]⟩
 ·exact absurd rfl hp
mutual
theorem qK:∀ (T:Ty) (t:TypeId) (cs:List Value) (x:DataW H×List MemPlace) (fuel:Nat),flat T=true→fitT P T t=true→DataW.trod enc P w 0 sp held fuel t cs=some x→∃ y:T.α,DR F w T y cs∧Bnd T y
 | .int k,t,cs,x,fuel,_,hf,h=>by
  unfold fitT at hf
  split at hf
  ·rename_i k' hu
   obtain rfl:k'=k:=by simpa using hf
   obtain⟨n,rfl,_,hw⟩:=DataW.trod_int hu h
   exact⟨n,rfl,by simpa [Lit.wf,Bnd]using hw⟩
  ·cases hf
 | .bool,t,cs,x,fuel,_,hf,h=>by
  unfold fitT at hf
  split at hf
  ·rename_i hu
   obtain⟨b,rfl,_⟩:=DataW.trod_bool hu h
   exact⟨b,rfl,trivial⟩
  ·cases hf
 | .str,t,cs,x,fuel,_,hf,h=>by
  unfold fitT at hf
  split at hf
  ·rename_i hu
   obtain⟨s,rfl,_,hs⟩:=DataW.trod_string hu h
   exact⟨s,rfl,by simpa [maxLen,Bnd]using hs⟩
  ·cases hf
 | .unit,t,cs,x,fuel,_,hf,h=>by simp[fitT]at hf
 | .nul,t,cs,x,fuel,_,hf,h=>by simp[fitT]at hf
 | .sl e,t,cs,x,fuel,hfl,_,_=>by simp[flat]at hfl
 | .pair a b,t,cs,x,fuel,hfl,hf,h=>by
  unfold fitT at hf
  split at hf
  ·rename_i p r hp
   simp only[Bool.and_eq_true,beq_iff_eq]at hf
   obtain⟨h0,h1,h2,h3,h4⟩:=hf
   simp only[flat,Bool.and_eq_true]at hfl
   obtain⟨hl,n,hm⟩:=aeh (by rw[hp];simp) h
   rw[hp]at hm
   obtain⟨y0,hy0⟩:=hm p (by simp)
   rw[h0,h2]at hy0
   obtain⟨u,d1,b1⟩:=qK a p.1 _ _ n hfl.1 h1 hy0
   obtain⟨v,d2,b2⟩:=acB b r a.n cs n hfl.2 h3 (fun q hq=>hm q (by simp[hq])) (by omega)
   refine⟨(u,v),⟨_,_,?_,d1,d2⟩,b1,b2⟩
   have e:(cs.drop a.n).take b.n=cs.drop a.n:=List.take_of_length_le (by rw[List.length_drop];omega)
   rw[e];simp
  ·cases hf
theorem acB:∀ (T:Ty) (l:List (TypeId×Nat)) (k:Nat) (cs:List Value) (n:Nat),flat T=true→fitL P T l k=true→(∀ p∈l,∃ y,DataW.trod enc P w 0 sp held n p.1 ((cs.drop p.2).take (P.cellsOf p.1))=some y)→k+T.n≤cs.length→∃ y:T.α,DR F w T y ((cs.drop k).take T.n)∧Bnd T y
 | .int k',l,k,cs,n,_,hf,_,_=>by simp[fitL]at hf
 | .bool,l,k,cs,n,_,hf,_,_=>by simp[fitL]at hf
 | .str,l,k,cs,n,_,hf,_,_=>by simp[fitL]at hf
 | .nul,l,k,cs,n,_,hf,_,_=>by simp[fitL]at hf
 | .sl _,l,k,cs,n,_,hf,_,_=>by simp[fitL]at hf
 | .unit,l,k,cs,n,_,hf,_,_=>⟨(),by simp[DR,Ty.n],trivial⟩
 | .pair a b,l,k,cs,n,hfl,hf,hm,hk=>by
  unfold fitL at hf
  split at hf
  ·rename_i p r
   simp only[Bool.and_eq_true,beq_iff_eq]at hf
   obtain⟨h0,h1,h2,h3⟩:=hf
   simp only[flat,Bool.and_eq_true]at hfl
   simp only[Ty.n]at hk
   obtain⟨y0,hy0⟩:=hm p (by simp)
   rw[h0,h2]at hy0
   obtain⟨u,d1,b1⟩:=qK a p.1 _ _ n hfl.1 h1 hy0
   obtain⟨v,d2,b2⟩:=acB b r (k+a.n) cs n hfl.2 h3 (fun q hq=>hm q (by simp[hq])) (by omega)
   refine⟨(u,v),⟨_,_,?_,d1,d2⟩,b1,b2⟩
   simp only[Ty.n]
   rw[List.take_add,List.drop_drop]
  ·cases hf
end
theorem aeO{α:Type}{R:Nat→α→Prop}:∀ (n:Nat),(∀ i,i < n→∃ y,R i y)→∃ l:List α,l.length=n∧∀ (i:Nat) (y:α),l[i]? = some y→R i y
 | 0,_=>⟨[],rfl,fun i y h=>by simp at h⟩
 | n+1,h=>by
  obtain⟨l,hl,hr⟩:=aeO n fun i hi=>h i (by omega)
  obtain⟨y,hy⟩:=h n (by omega)
  refine⟨l++[y],by simp[hl],fun i z hz=>?_⟩
  by_cases hi:i < l.length
  ·rw[List.getElem?_append_left hi]at hz;exact hr i z hz
  ·rw[List.getElem?_append_right (by omega)]at hz
   have:i=l.length:=by
    by_cases e:i-l.length=0
    ·omega
    ·obtain⟨q,hq⟩:=Nat.exists_eq_succ_of_ne_zero e
     rw[hq]at hz;simp at hz
   subst this
   simp only[Nat.sub_self,List.getElem?_cons_zero,Option.some.injEq]at hz
   subst hz;rw[hl];exact hy
def topOK:Ty→Bool
 | .sl e=>flat e
 | T=>flat T
theorem acd(b o n:Nat):(Addr.add ⟨b,o,none⟩ n)=⟨b,o+n,none⟩:=by
 unfold Addr.add;split
 ·rename_i h;rw[h];rfl
 ·rfl
theorem afP{i:Nat}{q:TypeId×Nat}(h:w.shape? i=some q):IsC w i:=by
 unfold World.shape? at h
 unfold IsC
 cases hb:w.heap[i]? with
 | none=>rw[hb]at h;simp at h
 | some o=>cases o<;>rw[hb]at h<;>simp_all
theorem ab4{T:Ty}{t:TypeId}{v:Value}{d:DataW H}{p:List MemPlace}{base:Nat}(ht:topOK T=true)(hf:fitT P T t=true)(hv:Value.okWide P w .any base t v)(h:DataW.Trod enc P w 0 sp held t v d p):∃ y:T.α,ValR (IsC w) w T y v∧Bnd T y:=by
 obtain⟨fuel,h⟩:=h
 unfold ValR
 cases T with
 | int k =>
  obtain⟨y,h1,h2⟩:=qK (F:=IsC w) (.int k) t _ _ fuel rfl hf h
  unfold fitT at hf
  split at hf
  ·rename_i k' hu
   obtain⟨n,rfl⟩:=okWide_int hu hv
   exact⟨y,by rw[if_neg (by simp[isSt])];simpa [Value.cells]using h1,h2⟩
  ·cases hf
 | bool =>
  obtain⟨y,h1,h2⟩:=qK (F:=IsC w) .bool t _ _ fuel rfl hf h
  unfold fitT at hf
  split at hf
  ·rename_i hu
   obtain⟨n,rfl⟩:=okWide_bool hu hv
   exact⟨y,by rw[if_neg (by simp[isSt])];simpa [Value.cells]using h1,h2⟩
  ·cases hf
 | str =>
  obtain⟨y,h1,h2⟩:=qK (F:=IsC w) .str t _ _ fuel rfl hf h
  unfold fitT at hf
  split at hf
  ·rename_i hu
   obtain⟨n,rfl⟩:=okWide_string hu hv
   exact⟨y,by rw[if_neg (by simp[isSt])];simpa [Value.cells]using h1,h2⟩
  ·cases hf
 | unit=>simp[fitT]at hf
 | nul=>simp[fitT]at hf
 | pair a b =>
  obtain⟨y,h1,h2⟩:=qK (F:=IsC w) (.pair a b) t _ _ fuel ht hf h
  obtain⟨cs,rfl⟩:∃ cs,v=.agg cs:=by
   unfold fitT at hf
   split at hf
   ·rename_i q r hp
    unfold partsOf at hp
    unfold Value.okWide at hv
    split at hp
    ·rename_i fs hu
     rw[hu]at hv
     obtain⟨cs,e,_⟩:=hv
     exact⟨cs,e⟩
    ·rename_i n e hu
     rw[hu]at hv
     obtain⟨cs,e,_⟩:=hv
     exact⟨cs,e⟩
    ·cases hp
   ·cases hf
  exact⟨y,by rw[if_pos (show isSt (.pair a b)=true from rfl)];exact⟨cs.toList,by simp,h1⟩,h2⟩
 | sl e =>
  unfold fitT at hf
  split at hf
  ·rename_i e' hu
   simp only[Bool.and_eq_true,beq_iff_eq]at hf
   obtain⟨h1,h2,h3⟩:=hf
   obtain⟨a,len,cap,rfl⟩:=okWide_slice hu hv
   rcases DataW.trod_slice hu h with⟨hc,_⟩ | ⟨a',len',cap',elems,rest,n,_,hc,_,_,hle,hcm,hel,hread,_⟩
   ·simp only[Value.cells,List.cons.injEq,Value.slice.injEq,and_true]at hc
    obtain⟨rfl,rfl,rfl⟩:=hc
    exact⟨[],by rw[if_neg (by simp[isSt])];exact⟨_,rfl,.inl ⟨rfl,rfl⟩⟩,by simp[Bnd]⟩
   ·simp only[Value.cells,List.cons.injEq,Value.slice.injEq,and_true]at hc
    obtain⟨rfl,rfl,rfl⟩:=hc
    have hhas:w.has P .any base a' e' cap:=by
     unfold Value.okWide Cell.okWide Cell.ok at hv
     rw[hu]at hv
     exact hv.2.2
    obtain⟨_,hspot,row,cells,hsh,_⟩:=hhas
    obtain⟨b,o,s⟩:=a'
    simp only at hspot;subst hspot
    have hisc:IsC w b:=afP hsh
    obtain⟨l,hl,hr⟩:=aeO (α:=e.α) (R:=fun i y=>(∃ ds:List Value,DR (IsC w) w e y ds∧∀ (j:Nat) (d:Value),ds[j]? = some d→w.cell? ⟨b,o+(i*e.n+j),none⟩=some d)∧Bnd e y) len fun i hi=>by
     have hq:=hread i hi
     rw[List.getElem?_eq_getElem (by omega),Option.bind_eq_some_iff]at hq
     obtain⟨cs,c1,c2⟩:=hq
     obtain⟨y,k1,k2⟩:=qK (F:=IsC w) e e' cs _ n h2 h1 c2
     refine⟨y,⟨cs,k1,fun j d' hd=>?_⟩,k2⟩
     obtain⟨_,m1,m2⟩:=World.cells?_some c1
     have hj:j < cs.length:=(List.getElem?_eq_some_iff.1 hd).1
     have:=m2 j (by omega)
     rw[acd,acd,h3]at this
     rw[←Nat.add_assoc,this];exact hd
    refine⟨l,?_,?_,?_⟩
    ·rw[if_neg (by simp[isSt])]
     refine⟨_,rfl,.inr ⟨b,o,cap,by rw[hl],hisc,by omega,fun i x hx=>(hr i x hx).1⟩⟩
    ·rw[hl];simp only[maxLen]at hcm;omega
    ·intro y hy
     obtain⟨i,hi,he⟩:=List.mem_iff_getElem.1 hy
     exact(hr i y (by rw[List.getElem?_eq_getElem hi,he])).2
  ·cases hf
def fitAll(P:Program):List Ty→List TypeId→Bool
 | [],[]=>true
 | T::Ts,t::ts=>(topOK T&&fitT P T t)&&fitAll P Ts ts
 | _,_=>false
theorem uD:∀ {Ts:List Ty} {ts:List TypeId} {vs:List Value} {ds:List (DataW H)} {p:List MemPlace} {base:Nat},fitAll P Ts ts=true→(∀ (j:Nat) t v,ts[j]? = some t→vs[j]? = some v→Value.okWide P w .any base t v)→
  DataW.TrodAll enc P w 0 sp held ts vs ds p→∃ x:Tys Ts,ArgsR (IsC w) w Ts x vs∧Bnds Ts x
 | [],[],vs,ds,p,base,_,_,h=>by
  cases vs with
  | nil=>exact⟨(),rfl,trivial⟩
  | cons _ _=>cases ds<;>exact absurd h (by simp[DataW.TrodAll])
 | [],_::_,vs,ds,p,base,hf,_,h=>by simp[fitAll]at hf
 | _::_,[],vs,ds,p,base,hf,_,h=>by simp[fitAll]at hf
 | T::Ts,t::ts,vs,ds,p,base,hf,hv,h=>by
  simp only[fitAll,Bool.and_eq_true]at hf
  cases vs with
  | nil=>cases ds<;>exact absurd h (by simp[DataW.TrodAll])
  | cons v vs =>
   cases ds with
   | nil=>exact absurd h (by simp[DataW.TrodAll])
   | cons d ds =>
    obtain⟨p1,p2,h1,h2,_⟩:=h
    obtain⟨y,k1,k2⟩:=ab4 hf.1.1 hf.1.2 (hv 0 t v rfl rfl) h1
    obtain⟨x,m1,m2⟩:=uD hf.2 (fun j t' v' a b=>hv (j+1) t' v' (by simpa using a) (by simpa using b)) h2
    exact⟨(y,x),⟨v,vs,rfl,k1,m1⟩,k2,m2⟩
theorem uH{W W':World}(hl:laidOutB P=true)(hb:Below W.heap.size W W'):∀ {ts:List TypeId} {vs:List Value} {ds:List (DataW H)} {p:List MemPlace},(ts.all fun t=>P.readableRec t&&decide (t < P.types.size))=true→
  DataW.TrodAll enc P W 0 (fun _=>true) true ts vs ds p→DataW.TrodAll enc P W' 0 (fun b=>decide (b < W.heap.size)) true ts vs ds p
 | [],vs,ds,p,_,h=>by cases vs<;>cases ds<;>simp_all [DataW.TrodAll]
 | t::ts,vs,ds,p,ha,h=>by
  cases vs with
  | nil=>cases ds<;>exact absurd h (by simp[DataW.TrodAll])
  | cons v vs =>
   cases ds with
   | nil=>exact absurd h (by simp[DataW.TrodAll])
   | cons d ds =>
    simp only[List.all_cons,Bool.and_eq_true,decide_eq_true_eq]at ha
    obtain⟨p1,p2,h1,h2,rfl⟩:=h
    have hlt:∀ x∈p1,x.block < W.heap.size:=by
     obtain⟨m,hm⟩:=h1
     exact DataW.trod_lt m _ _ _ hm
    exact⟨p1,p2,Below.trod hl ha.1.1 ha.1.2 h1 hb hlt,uH hl hb ha.2 h2,rfl⟩
theorem adv{ts:List TypeId}:∀ {vs:List Value} {ds:List (DataW H)} {p:List MemPlace},DataW.TrodAll enc P w 0 sp held ts vs ds p→ds.length=ts.length:=by
 induction ts with
 | nil=>intro vs ds p h;cases vs<;>cases ds<;>simp_all [DataW.TrodAll]
 | cons t ts ih =>
  intro vs ds p h
  cases vs with
  | nil=>cases ds<;>exact absurd h (by simp[DataW.TrodAll])
  | cons v vs =>
   cases ds with
   | nil=>exact absurd h (by simp[DataW.TrodAll])
   | cons d ds=>obtain⟨_,_,_,h2,_⟩:=h;simp[ih h2]
end
section
variable {H:Type}{enc:TypeId×Value→H}
theorem agN(hl:laidOutB Proofs.Tryz.prog=true){n:FuncId}{fn:Func}{s:ChangeSpec}{Ts:List Ty}{f:Nat→Tys Ts→Option (Bool×Unit)}(hE:∀ lf,kX Proofs.Tryz.prog TabG n ⟨Ts,[.bool],f lf⟩)
  (hf:fitAll Proofs.Tryz.prog Ts fn.params.toList=true) (hrd:(fn.params.toList.all fun t=>Proofs.Tryz.prog.readableRec t&&decide (t < Proofs.Tryz.prog.types.size))=true)
  {rt:TypeId} (hrt:fn.resultTypes=#[rt]) (hub:Proofs.Tryz.prog.underlying rt=some .bool) (hsv:s.vars=[])
  (hs:∀ ds:List (DataW H),ds.length=fn.params.toList.length→s.fn H ds={ results:=[.lit (.bool true)],args:=ds })
  (hpure:∀ x:Tys Ts,Bnds Ts x→∃ lf,f lf x=some (true,()))
  {W:World} {base:Nat} {args:Array Value} {ds gs:List (DataW H)} {before:List MemPlace} {apart fresh handsOn:Bool}
  (hval:∀ (j:Nat) t v,fn.params[j]? = some t→args[j]? = some v→Value.okWide Proofs.Tryz.prog W .any base t v)
  (hW:DataW.Whole enc Proofs.Tryz.prog fn.params.toList s.vars apart W args.toList ds gs before) (hG:TabG W) :
  Calls Proofs.Tryz.prog n args W fun e W'=>∃ v,e=.returned v∧s.post enc Proofs.Tryz.prog fn apart fresh handsOn false W args v W':=by
 have hW':=hW
 obtain⟨p,q,hA,hV,rfl,_,_⟩:=hW
 rw[hsv]at hV
 obtain⟨rfl,rfl⟩:=trodVars_none hV
 have hv':∀ (j:Nat) (t:TypeId) (v:Value),fn.params.toList[j]? = some t→args.toList[j]? = some v→Value.okWide Proofs.Tryz.prog W .any base t v:=by
  intro j t v a b
  rw[Array.getElem?_toList]at a b
  exact hval j t v a b
 obtain⟨x,k1,k2⟩:=uD hf hv' hA
 obtain⟨lf,hlf⟩:=hpure x k2
 have hlen:=adv hA
 have h:=hE lf x (true,()) hlf (IsC W) W args.toList hG (fun i hi=>hi) k1
 rw[Array.toArray_toList]at h
 refine h.mono ?_
 rintro e W' ⟨v,rfl,hb,hr⟩
 obtain⟨vs,⟨u,r,rfl,h1,h2⟩,rfl⟩:=hr
 obtain rfl:r=[]:=h2
 have hu:u=.bool true:=by
  unfold ValR at h1
  rw[if_neg (by simp[isSt])]at h1
  simpa [DR]using h1
 subst hu
 refine⟨_,rfl,ds,[],p++[],[],p,[],hW',?_,?_,?_,hb.frame _,fun h=>by cases h⟩
 ·rw[List.append_nil,hs ds hlen,hrt]
  exact trodAll_mk1 (shut_bool hub true)
 ·rw[List.append_nil,hs ds hlen]
  exact uH hl hb hrd hA
 ·rw[List.append_nil,hs ds hlen,hsv]
  rfl
end
theorem abX{laid:List (String×DataW Unit)}{W:World}(hp:(laid.all fun x=>x.2.handleName?.isNone)=true){g:Nat}{t e:TypeId}{n:Nat}{rest:List (String×DataW Unit)}
  (hg:Proofs.Tryz.prog.globalNamed "internal/strconv.uint64pow10" = some g) (hty:(Proofs.Tryz.prog.globals[g]?).map (·.type)=some t) (ht:Proofs.Tryz.prog.underlying t=some (.array n e)) (he:Proofs.Tryz.prog.underlying e=some (.int .u64))
  (hce:Proofs.Tryz.prog.cellsOf e=1) (hct:Proofs.Tryz.prog.cellsOf t=n)
  (hh:(laid.filter fun x=>x.1 == "internal/strconv.uint64pow10")=("internal/strconv.uint64pow10",Lib.tabData .u64 Lib.pow10Tab)::rest)
  (h:laidMetH Proofs.Tryz.prog laid W):TabG W:=by
 rw[MakeChecks.laidMetH_plain _ _ _ hp]at h
 have h':=laidMet.filter (fun x=>x.1 == "internal/strconv.uint64pow10") h
 rw[hh]at h'
 exact Lib.tabIs_of_head hg hty ht he hce hct h'
theorem ah6{P:Program}{c:OpenClaim}(h:P.funcs.any Func.goes=false)(hs:c.start=.entering):false=c.goesBy P:=by
 have key:∀ (g:Nat) (fn:Func),P.funcs[g]? = some fn→fn.goes=false:=by
  intro g fn hg
  have:=Array.any_eq_false.1 h
  obtain⟨hlt,e⟩:=Array.getElem?_eq_some_iff.1 hg
  have:=this g hlt
  rw[e]at this
  simpa using this
 have k2:∀ g:Nat,(P.funcs[g]?).any Func.goes=false:=by
  intro g
  cases hg:P.funcs[g]? with
  | none=>rfl
  | some fn=>simp[key g fn hg]
 unfold OpenClaim.goesBy Program.goesAt Program.goesFrom
 rw[hs]
 have k3:∀ f,P.goes f=false:=by
  intro f
  unfold Program.goes
  rw[h,Bool.and_false,Bool.or_false]
  simp only[k2]
  simp
 cases P.funcNamed c.func with
 | none=>rfl
 | some f=>simp[k3]
end Go.Q
namespace Go.N
open Go Go.Q Go.Rx
theorem ajO:(⟨#[49,50,51,52,53]⟩:ByteArray)=bs (Lib.itoa 12345):=by kernel_rfl
section
variable (lf:Nat)(hb:Big lf)
include hb
theorem ai3{l:List Sg3}{n:Int}{vs:List Vl}(hR:Right l n)(hl:l.length≤1000)(v1:expand l=vs.map vc)(v3:(vs.length:Int)=n){k:Nat}(hk:k < vs.length):mD.f lf l n k=some (vc vs[k],0,()):=by
 have hn:=hR.n2
 rw[mD.f,(rU lf hb hR hl).1,bdS,show(((0:Int),()).1 != 0)=false from rfl,brF,decide_eq_false (by omega),brF,decide_eq_false (by omega),brF,adx lf hb hR.rs.chn (by omega) hl,bdS,v1]
 simp only
 rw[List.length_map,bP _ _ hk,bdS,List.getElem?_map,List.getElem?_eq_getElem hk,Option.map_some,bdS]
theorem adt{l m:List Sg3}{n:Int}{vs:List Vl}{u:Vl}{i:Nat}(hR:Right l n)(hl:l.length≤1000)(v1:expand l=vs.map vc)(v3:(vs.length:Int)=n)(hi:i < vs.length)
  (hR':Right m n) (hm:m.length≤1000) (w1:expand m=(vs.set i u).map vc):∀ (d q k:Nat),k+d=vs.length→d < q→
  aK.l0 lf l n i m n (vc u).1.1 (vc u).1.2.1 (vc u).1.2.2.1 (vc u).2.1.1 (vc u).2.1.2.1 (vc u).2.1.2.2.1 q k=some (false,(),(),())
 | 0,q,k,hk,hq=>by
  obtain⟨q,rfl⟩:∃ z,q=z+1:=⟨q-1,by omega⟩
  rw[aK.l0,aK.r0,decide_eq_false (by omega),brF]
 | d+1,q,k,hk,hq=>by
  obtain⟨q,rfl⟩:∃ z,q=z+1:=⟨q-1,by omega⟩
  have hn:=hR.n2
  have hkv:k < vs.length:=by omega
  rw[aK.l0,aK.r0,decide_eq_true (by omega),brT,ai3 lf hb hR hl v1 v3 hkv,ai3 lf hb hR' hm w1 (by simpa using v3) (k:=k) (by simpa using hkv),bdS,bdS]
  simp only[bne_self_eq_false,brF,uY,bdS]
  have ih:=adt hR hl v1 v3 hi hR' hm w1 d q (k+1) (by omega) (by omega)
  rw[w64 (by omega) (by omega),show(k:Int)+1=((k+1:Nat):Int) by omega,ih]
  by_cases c:k=i
  ·subst c
   simp only[bne_self_eq_false,brF,BEq.rfl,brT,List.getElem_set_self,decide_true,Bool.not_true]
  ·rw[show((k:Int) != i)=true by simp;omega,brT,show((k:Int)==i)=false by simp;omega,brF]
   simp only[List.getElem_set_ne (show i≠k by omega),decide_true,Bool.not_true,brF]
end
theorem ahC(l:List Sg3)(n i:Int):∃ lf,aK.f lf l n i=some (true,()):=by
 obtain⟨lf,hb⟩:=bigE
 refine⟨lf,?_⟩
 obtain⟨c,c1,c2⟩:=ake lf hb l
 rw[aK.f]
 simp only[c1,bdS,ahV]
 cases c with
 | false=>simp only[Bool.not_false,brT]
 | true =>
  simp only[Bool.not_true,brF]
  obtain⟨hl,hs⟩:=c2 rfl
  obtain⟨a1,a2,a3⟩:=yR lf hb (n:=n) hs (by omega)
  rw[a2,bdS]
  by_cases h0:ckN lf l n=0
  ·rw[show((ckN lf l n,()).1 != 0)=false by simpa using h0,brF]
   have hR:=a3.1 h0
   by_cases h1:i < 0
   ·rw[decide_eq_true h1,brT]
   rw[decide_eq_false h1,brF]
   by_cases h2:i≥n
   ·rw[decide_eq_true h2,brT]
   rw[decide_eq_false h2,brF]
   obtain⟨i,rfl⟩:=Int.eq_ofNat_of_zero_le (Int.not_lt.1 h1)
   obtain⟨vs,v1,v2,v3⟩:=hR.vals
   have hn:=hR.n2
   have hn1:=hR.n1
   have hK:=K_gt
   have hlf:=hb.1
   have hi:i < vs.length:=by omega
   have hu:WfV (oneV 12345):=abJ lf hb _
   have hue:(oneV 12345).a.em=false:=by rw[aeW (by omega)];rfl
   have hx:WfV (oneV i):=abJ lf hb _
   have hix:=aeL (x:=oneV i) (i:=i) (fun k=>aia (by omega)) vs.length 0 (by omega) (by omega)
   have s1:=aiN lf hb hx hu hR (by omega) v1 v2 v3
   rw[stZ,hix,hue,if_neg (by simp),if_pos (show([(i:Int)]:List Int).length=1 from rfl)]at s1
   simp only[List.headD_cons,Int.toNat_natCast]at s1
   have hg:∀ v∈vs.set i (oneV 12345),WfV v∧v.a.em=false:=fun v hv=>by
    rcases List.mem_or_eq_of_mem_set hv with h | h
    ·exact v2 v h
    ·subst h;exact⟨hu,hue⟩
   have hlen:((vs.set i (oneV 12345)).length:Int)=n:=by simpa using v3
   obtain⟨hR',w1⟩:=ag3 (l:=(vs.set i (oneV 12345)).map vc) hn1 hn (by rw[List.length_map];exact hlen) (fun y hy=>by
    obtain⟨v,hv,rfl⟩:=List.mem_map.1 hy
    exact⟨v,rfl,hg v hv⟩)
   have hm:=aeV ((vs.set i (oneV 12345)).map vc) 0 []
   simp only[List.length_map,List.length_set,List.length_nil]at hm
   have hld:=ajI lf hb hx hR' (by omega) w1 hg hlen
   obtain⟨j,j1,j2,j3,j4⟩:=abv (x:=oneV i) (G:=ldG (vs.set i (oneV 12345))) vs.length 0 (by rw[hix];rfl)
   have hji:j=i:=by rw[hix]at j3;have:=j3.symm;simp at this;omega
   subst hji
   rw[List.length_set,j4,ldG,yh (by simpa using hi),List.getElem_set_self,aid hu]at hld
   rw[uw lf (by omega) (by omega) (by omega),bdS,ajc lf hb ⟨by omega,by omega⟩,bdS,ajO,ajc lf hb ⟨by omega,by omega⟩,bdS,s1,bdS,hld,bdS]
   simp only[bne_self_eq_false,brF,Bool.not_true,uY,bdS,decide_true]
   have hloop:=adt lf hb hR (by omega) v1 v3 hi hR' (by omega) w1 vs.length (lf+40) 0 (by omega) (by omega)
   rw[show((0:Nat):Int)=0 from rfl]at hloop
   rw[hloop,bdS,brF]
  ·rw[show((ckN lf l n,()).1 != 0)=true by simpa using h0,brT]
end Go.N
namespace Go.Q
open Go.N
theorem Pure.SegmentStrong(x:Tys (aK.E 0).ps)(h:Bnds (aK.E 0).ps x):∃ lf,aK.f lf x.1 x.2.1 x.2.2.1=some (true,()):=ahC x.1 x.2.1 x.2.2.1
end Go.Q
