import Derived.KernelRfl
import Derived.Test.YtgbokahnpmmfoaaGreatDoorChecked
import Derived.ProofKit
import Derived.OpenShut
import Derived.LaidMore
import Derived.Lay
import Derived.Carry
import Derived.SevenTiedAt
import Derived.Stop.Joined
import Derived.Lib.LaidTab
import Derived.LaidSub
import Derived.Test.YtgbokahnpmmfoaaGreatDoorSZE3
import Derived.Test.YtgbokahnpmmfoaaGreatDoorSZG10
import Derived.Test.YtgbokahnpmmfoaaGreatDoorSZG11
import Derived.Test.YtgbokahnpmmfoaaGreatDoorSZG12
import Derived.Test.YtgbokahnpmmfoaaGreatDoorSZG5
import Derived.Test.YtgbokahnpmmfoaaGreatDoorSZG6
import Derived.Test.YtgbokahnpmmfoaaGreatDoorSZG7
import Derived.Test.YtgbokahnpmmfoaaGreatDoorSZG8
import Derived.Test.YtgbokahnpmmfoaaGreatDoorSZG9
import Derived.Test.YtgbokahnpmmfoaaGreatDoorSZN1
set_option linter.unusedVariables false
set_option linter.unusedSimpArgs false
set_option linter.unusedSectionVars false
set_option maxRecDepth 100000
namespace Go.N
open Go Go.Q Go.Rx
def ckc(em:Bool)(l h:List UInt8):Int :=
 if em=true then(if l≠[]∨h≠[]then 3 else 0)else if num l≠0 then num l else if num h≠0 then num h else if iv l < 0∨(iv l≠0∧(iv h < 0∨¬iv h < iv l))then 2 else 0
theorem ako(lf:Nat)(l:List UInt8)(hl:l.length≤9223372036854775807)(hf:l.length≤lf):iC.f lf (bs l)=some (num l,()):=by
 rw[iC.f,ahB lf l hl hf,bdS]
 unfold num chk
 cases hc:can l with
 | false=>simp[brT]
 | true =>
  simp only[Bool.not_true,brF,if_true]
  rw[nH lf l (jK hc).2.2 hl,bdS]
  by_cases h:nlen l > 100
  ·rw[decide_eq_true (by omega),brT]
   by_cases h2:nlen l > 4096
   ·rw[if_pos h2];rfl
   ·rw[if_neg h2,if_neg (by simp),if_pos h]
  ·rw[decide_eq_false (by omega),brF,if_neg (show ¬nlen l > 4096 by omega),if_neg (by simp),if_neg h]
theorem ahW(lf:Nat)(l:List UInt8)(hl:l.length≤9223372036854775807):fB.f lf (bs l)=some (decide (nlen l > 100),()):=by
 have:=wO l
 rw[fB.f,nY,bdS,gU]
 congr 2
 simp only[decide_eq_decide];unfold nlen;omega
theorem numC(lf:Nat)(l:List UInt8)(hl:l.length≤9223372036854775807):jk.f lf (bs l)=some (num l,()):=by
 rw[jk.f,nM lf l hl,bdS]
 simp only[ahW lf l hl,bdS]
 unfold num
 by_cases h:chk l=0
 ·rw[h]
  simp only[show((0:Int)==10)=false from rfl,brF,BEq.rfl,brT,bne_self_eq_false,ne_eq,not_true,if_false]
  by_cases h2:nlen l > 100
  ·rw[decide_eq_true h2,brT,if_pos h2]
  ·rw[decide_eq_false h2,brF,if_neg h2]
 ·rw[if_pos h,show(chk l==0)=false from beq_eq_false_iff_ne.2 h,brF,bneT h,brT]
  by_cases h2:chk l=10
  ·rw[h2,BEq.rfl,brT]
  ·rw[show(chk l==10)=false from beq_eq_false_iff_ne.2 h2,brF]
theorem aak(lf:Nat)(l m:List UInt8)(h1:chk l=0)(h2:chk m=0)(h3:200000≤lf):fA.f lf (bs l) (bs m)=some (decide (iv l < iv m),()):=by
 rw[fA.f,xI lf l m h1 h2 h3,bdS]
 simp only
 rw[kH.f,bdS]
 congr 2
 simp only[decide_eq_decide];unfold sgn;(repeat' split)<;>omega
theorem akl(lf:Nat)(h3:200000≤lf)(em:Bool)(l h:List UInt8)(hl:l.length≤9223372036854775807)(hh:h.length≤9223372036854775807):bT.f lf (em,bs l,bs h,())=some (ckc em l h,()):=by
 rw[bT.f]
 simp only[e0,kX,numC lf l hl,numC lf h hh,bdS]
 unfold ckc
 cases em with
 | true =>
  rw[brT,if_pos rfl]
  by_cases c1:l=[]<;>by_cases c2:h=[]<;>simp[c1,c2,brT,brF]
 | false =>
  rw[brF,if_neg (by simp)]
  by_cases c1:num l=0
  ·rw[c1,bne_self_eq_false,brF,if_neg (by simp)]
   by_cases c2:num h=0
   ·rw[c2,bne_self_eq_false,brF,if_neg (by simp)]
    have k1:=uN c1
    have k2:=uN c2
    have z:(⟨#[48]⟩:ByteArray)=bs [48]:=rfl
    rw[z,aak lf l [48] k1 aki h3,bdS,aak lf h [48] k2 aki h3,aak lf h l k2 k1 h3,iv48]
    simp only[bdS]
    have e:l=[48]↔iv l=0:=(zl (jW.1 k1).1).symm
    by_cases a:iv l < 0
    ·rw[decide_eq_true a,brT,if_pos (.inl a)]
    ·rw[decide_eq_false a,brF]
     by_cases b:iv l=0
     ·rw[decide_eq_true (e.2 b),Bool.not_true,brF,if_neg (by omega)]
     ·rw[decide_eq_false (fun x=>b (e.1 x)),Bool.not_false,brT]
      by_cases c:iv h < 0
      ·rw[decide_eq_true c,brT,if_pos (.inr ⟨b,.inl c⟩)]
      ·rw[decide_eq_false c,brF]
       by_cases d:iv h < iv l
       ·rw[decide_eq_true d,Bool.not_true,brF,if_neg (by omega)]
       ·rw[decide_eq_false d,Bool.not_false,brT,if_pos (.inr ⟨b,.inr d⟩)]
   ·rw[bneT c2,brT,if_pos c2]
  ·rw[bneT c1,brT,if_pos c1]
theorem afc(lf:Nat)(h3:200000≤lf)(em:Bool)(l h:List UInt8)(hl:l.length≤9223372036854775807)(hh:h.length≤9223372036854775807)(fl:l.length≤lf)(fh:h.length≤lf):iO.f lf (em,bs l,bs h,())=some (ckc em l h,()):=by
 rw[iO.f]
 simp only[e0,kX,ako lf l hl fl,ako lf h hh fh,bdS]
 unfold ckc
 cases em with
 | true =>
  rw[brT,if_pos rfl]
  by_cases c1:l=[]<;>by_cases c2:h=[]<;>simp[c1,c2,brT,brF]
 | false =>
  rw[brF,if_neg (by simp)]
  by_cases c1:num l=0
  ·rw[c1,bne_self_eq_false,brF,if_neg (by simp)]
   by_cases c2:num h=0
   ·rw[c2,bne_self_eq_false,brF,if_neg (by simp)]
    have k1:=uN c1
    have k2:=uN c2
    have l1:=rQ c1
    have l2:=rQ c2
    have z:(⟨#[48]⟩:ByteArray)=bs [48]:=rfl
    rw[xg lf l (jW.1 k1).1,bdS,xg lf h (jW.1 k2).1,aeJ lf h l (jW.1 k2).1 (jW.1 k1).1 (by omega) (by omega) h3]
    simp only[bdS,ajY]
    have e:l=[48]↔iv l=0:=(zl (jW.1 k1).1).symm
    by_cases a:iv l < 0
    ·rw[decide_eq_true a,brT,if_pos (.inl a)]
    ·rw[decide_eq_false a,brF]
     by_cases b:iv l=0
     ·rw[decide_eq_true (e.2 b),Bool.not_true,brF,if_neg (by omega)]
     ·rw[decide_eq_false (fun x=>b (e.1 x)),Bool.not_false,brT]
      by_cases c:iv h < 0
      ·rw[decide_eq_true c,brT,if_pos (.inr ⟨b,.inl c⟩)]
      ·rw[decide_eq_false c,brF]
       by_cases d:iv h < iv l
       ·rw[decide_eq_true d,Bool.not_true,brF,if_neg (by omega)]
       ·rw[decide_eq_false d,Bool.not_false,brT,if_pos (.inr ⟨b,.inr d⟩)]
   ·rw[bneT c2,brT,if_pos c2]
  ·rw[bneT c1,brT,if_pos c1]
structure Cg where
 em:Bool
 m:Int
 r:Int
deriving DecidableEq
def cc(c:Cg):IV:=if c.em=true then(true,bs [],bs [],())else(false,bs (Lib.itoa c.m),bs (Lib.itoa c.r),())
structure WfC(c:Cg):Prop where
 m: -C < c.m∧c.m < C
 r: -C < c.r∧c.r < C
 pos:0≤c.m
 rng:c.m≠0→0≤c.r∧c.r < c.m
def Ec:Cg:=⟨true,0,0⟩
def topC:Cg:=⟨false,1,0⟩
theorem akE{em:Bool}{l h:List UInt8}(hc:ckc em l h=0):∃ c:Cg,((em,bs l,bs h,()):IV)=cc c∧WfC c:=by
 have hC:=C_gt
 unfold ckc at hc
 cases em with
 | true =>
  rw[if_pos rfl]at hc
  have:¬(l≠[]∨h≠[]):=fun x=>by rw[if_pos x]at hc;cases hc
  have l0:l=[]:=by simpa using fun x=>this (.inl x)
  have h0:h=[]:=by simpa using fun x=>this (.inr x)
  subst l0 h0
  exact⟨Ec,rfl,⟨by simp only[Ec];omega,by simp only[Ec];omega,by simp[Ec],fun x=>absurd rfl x⟩⟩
 | false =>
  rw[if_neg (by simp)]at hc
  by_cases c1:num l=0
  ·rw[if_neg (by simp[c1])]at hc
   by_cases c2:num h=0
   ·rw[if_neg (by simp[c2])]at hc
    have n:¬(iv l < 0∨(iv l≠0∧(iv h < 0∨¬iv h < iv l))):=fun x=>by rw[if_pos x]at hc;cases hc
    have i1:=uH (nT.1 c1).1
    have i2:=uH (nT.1 c2).1
    refine⟨⟨false,iv l,iv h⟩,by unfold cc;rw[if_neg (by simp)];simp only;rw[←i1,←i2],?_⟩
    rw[i1,qO]at c1
    rw[i2,qO]at c2
    exact⟨c1,c2,by simp only;omega,fun x=>by simp only at x⊢;omega⟩
   ·rw[if_pos c2]at hc;exact absurd hc c2
  ·rw[if_pos c1]at hc;exact absurd hc c1
def clsF(m r:Int):Cg :=
 if sz (m.natAbs:Int) > 100∨sz (if m=0 then r else r.fmod (m.natAbs:Int)) > 100 then topC else⟨false,(m.natAbs:Int),if m=0 then r else r.fmod (m.natAbs:Int)⟩
theorem longI(lf:Nat){z:Int}(hz: -K < z∧z < K):fB.f lf (bs (Lib.itoa z))=some (decide (sz z > 100),()):=by
 have:=mr hz
 rw[ahW lf _ (by omega)];rfl
theorem alh(lf:Nat){z:Int}(hz: -K < z∧z < K):pY.f lf (bs (Lib.itoa z))=some (bs (Lib.itoa (z.natAbs:Int)),0,()):=by
 have:=mr hz
 rw[pY.f,nM lf _ (by omega),bdS]
 simp only[chkK hz,bne_self_eq_false,brF]
 rw[nY,bdS,xw]
 have e':Lib.itoa (z.natAbs:Int)=D z.natAbs:=by unfold Lib.itoa;rw[if_neg (by omega)];rfl
 rw[e']
theorem aks:((false,(⟨#[49]⟩:ByteArray),(⟨#[48]⟩:ByteArray),()):IV)=cc topC:=by
 unfold cc topC;rw[if_neg (by simp)];simp only;rw[i1,i0]
theorem yx{x m:Int}(hx: -K < x∧x < K)(hm: -K < m∧m < K)(h0:m≠0): -K < x.fmod m∧x.fmod m < K:=by
 have:=ady (x:=x) h0
 omega
theorem afe(lf:Nat)(hlf:2000000000≤lf){m r:Int}(hm: -K < m∧m < K)(hr: -K < r∧r < K):iR.f lf (bs (Lib.itoa m)) (bs (Lib.itoa r))=some (cc (clsF m r),()):=by
 have ha: -K < (m.natAbs:Int)∧(m.natAbs:Int) < K:=by omega
 rw[iR.f,alh lf hm,bdS]
 simp only[fZ.f,bdS,beq0,longI lf ha,jP.f,aks]
 unfold clsF
 by_cases h:m=0
 ·subst h
  simp only[longI lf hr,bdS]
  rw[decide_eq_true (by trivial),Bool.not_true,brF]
  by_cases c1:sz ((0:Int).natAbs:Int) > 100
  ·rw[decide_eq_true c1,brT,if_pos (.inl c1)]
  ·rw[decide_eq_false c1,brF]
   by_cases c2:sz r > 100
   ·rw[decide_eq_true c2,brT,if_pos (.inr (by rw[if_pos trivial];exact c2))]
   ·rw[decide_eq_false c2,brF,if_neg (by rw[if_pos trivial];exact fun x=>x.elim c1 c2),if_pos trivial]
    unfold cc;rw[if_neg (by simp)]
 ·have h':(m.natAbs:Int)≠0:=by omega
  have rk:=yx hr ha h'
  simp only[mD lf hlf hr ha h',bdS,longI lf rk]
  rw[decide_eq_false h',Bool.not_false,brT]
  by_cases c1:sz (m.natAbs:Int) > 100
  ·rw[decide_eq_true c1,brT,if_pos (.inl c1)]
  ·rw[decide_eq_false c1,brF]
   by_cases c2:sz (r.fmod (m.natAbs:Int)) > 100
   ·rw[decide_eq_true c2,brT,if_pos (.inr (by rw[if_neg h];exact c2))]
   ·rw[decide_eq_false c2,brF,if_neg (by rw[if_neg h];exact fun x=>x.elim c1 c2),if_neg h]
    unfold cc;rw[if_neg (by simp)]
theorem abW(lf:Nat){z:Int}(hz: -K < z∧z < K):aG.f lf (bs (Lib.itoa z))=some ((sz z:Int),()):=by
 have:=mr hz
 exact nH lf _ (jT z) (by omega)
theorem ahE(n:Nat):decide (((n:Nat):Int) > 100)=decide (n > 100):=by simp only[decide_eq_decide];omega
theorem xG(lf:Nat)(h3:200000≤lf){m r:Int}(hm: -K < m∧m < K)(hr: -K < r∧r < K):gu.f lf (bs (Lib.itoa m)) (bs (Lib.itoa r))=some (cc (clsF m r),()):=by
 have ha: -K < (m.natAbs:Int)∧(m.natAbs:Int) < K:=by omega
 rw[gu.f,aaJ,bdS]
 simp only[beq0,abW lf ha,bdS,eG.f,aks,ahE]
 unfold clsF
 by_cases h:m=0
 ·subst h
  simp only[abW lf hr,bdS,ahE]
  rw[decide_eq_true (by trivial),Bool.not_true,brF]
  by_cases c1:sz ((0:Int).natAbs:Int) > 100
  ·rw[decide_eq_true c1,brT,if_pos (.inl c1)]
  ·rw[decide_eq_false c1,brF]
   by_cases c2:sz r > 100
   ·rw[decide_eq_true c2,brT,if_pos (.inr (by rw[if_pos trivial];exact c2))]
   ·rw[decide_eq_false c2,brF,if_neg (by rw[if_pos trivial];exact fun x=>x.elim c1 c2),if_pos trivial]
    unfold cc;rw[if_neg (by simp)]
 ·have h':(m.natAbs:Int)≠0:=by omega
  have rk:=yx hr ha h'
  have s1:=szK hr
  have s2:=szK ha
  simp only[aas lf h3 (x:=r) (y:=(m.natAbs:Int)) (by omega) (by omega) h',bdS,abW lf rk,ahE]
  rw[decide_eq_false h,Bool.not_false,brT]
  by_cases c1:sz (m.natAbs:Int) > 100
  ·rw[decide_eq_true c1,brT,if_pos (.inl c1)]
  ·rw[decide_eq_false c1,brF]
   by_cases c2:sz (r.fmod (m.natAbs:Int)) > 100
   ·rw[decide_eq_true c2,brT,if_pos (.inr (by rw[if_neg h];exact c2))]
   ·rw[decide_eq_false c2,brF,if_neg (by rw[if_neg h];exact fun x=>x.elim c1 c2),if_neg h]
    unfold cc;rw[if_neg (by simp)]
def dvd'(m a:Int):Bool:=if m=0 then decide (a=0)else decide (a.fmod m=0)
theorem xM(lf:Nat)(hlf:2000000000≤lf){m a:Int}(hm: -K < m∧m < K)(ha: -K < a∧a < K):fP.f lf (bs (Lib.itoa m)) (bs (Lib.itoa a))=some (dvd' m a,()):=by
 rw[fP.f,beq0]
 unfold dvd'
 by_cases h:m=0
 ·rw[decide_eq_true h,brT,if_pos h,beq0]
 ·rw[decide_eq_false h,brF,if_neg h,mD lf hlf ha hm h,bdS,fZ.f,bdS,beq0]
theorem ado(lf:Nat)(h3:200000≤lf){m a:Int}(hm:sz m≤20000)(ha:sz a≤20000):iQ.f lf (bs (Lib.itoa m)) (bs (Lib.itoa a))=some (dvd' m a,()):=by
 rw[iQ.f,beq0]
 unfold dvd'
 by_cases h:m=0
 ·rw[decide_eq_true h,brT,if_pos h,beq0]
 ·rw[decide_eq_false h,brF,if_neg h,aas lf h3 ha hm h,bdS,beq0]
end Go.N
namespace Go.N
open Go Go.Q Go.Rx
theorem ab4{k x y:Int}(hx: -k < x∧x < k)(hy: -k < y∧y < k): -k < (Int.gcd x y:Int)∧(Int.gcd x y:Int) < k:=by
 by_cases h:x=0
 ·subst h;rw[Int.gcd_zero_left];omega
 ·have:=Nat.gcd_le_left y.natAbs (show 0 < x.natAbs by omega)
  have e:Int.gcd x y=Nat.gcd x.natAbs y.natAbs:=rfl
  omega
section
variable (lf:Nat)(hb:Big lf)
include hb
theorem aeu{x y:Int}(hx: -K < x∧x < K)(hy: -K < y∧y < K):jc.f lf (bs (Lib.itoa x)) (bs (Lib.itoa y))=some (bs (Lib.itoa (Int.gcd x y)),()):=by
 rw[jc.f,alu lf hb hx hy,bdS,fZ.f,bdS]
theorem zQ{x y:Int}(hx: -K < x∧x < K)(hy: -K < y∧y < K)(h: -K < x-y∧x-y < K):fQ.f lf (bs (Lib.itoa x)) (bs (Lib.itoa y))=some (bs (Lib.itoa (x-y)),()):=by
 have:=(sz_K (x-y)).2 h
 rw[fQ.f,akr lf _ _ (chkK hx) (chkK hy) (by have:=hb.1;omega),dN,dN,qy,if_neg (by omega),bdS,fZ.f,bdS]
theorem akB{x y:Int}(hx: -K < x∧x < K)(hy: -K < y∧y < K)(h: -K < x+y∧x+y < K):lS.f lf (bs (Lib.itoa x)) (bs (Lib.itoa y))=some (bs (Lib.itoa (x+y)),()):=by
 rw[lS.f,aaO lf (by have:=hb.1;omega) hx hy h,bdS,fZ.f,bdS]
theorem ahn{x y:Int}(hx: -K < x∧x < K)(hy: -K < y∧y < K)(h: -K < x*y∧x*y < K):kP.f lf (bs (Lib.itoa x)) (bs (Lib.itoa y))=some (bs (Lib.itoa (x*y)),()):=by
 rw[kP.f,agX lf (by have:=hb.1;omega) hx hy h,bdS,fZ.f,bdS]
end
def joinC(c d:Cg):Cg:=if c.em=true then d else if d.em=true then c else clsF (Int.gcd (Int.gcd c.m d.m) (c.r-d.r)) c.r
theorem jC{c:Cg}(h:c.em=false):cc c=(false,bs (Lib.itoa c.m),bs (Lib.itoa c.r),()):=by unfold cc;rw[if_neg (by simp[h])]
theorem qH{c:Cg}(h:c.em=true):cc c=(true,bs [],bs [],()):=by unfold cc;rw[if_pos h]
theorem ae7{c:Cg}(h:WfC c):∃ (l m:List UInt8),cc c=(c.em,bs l,bs m,())∧ckc c.em l m=0∧l.length≤101∧m.length≤101:=by
 have hK:=lM
 cases e:c.em with
 | true=>exact⟨[],[],qH e,by simp[ckc],by simp,by simp⟩
 | false =>
  have n1:=(qO c.m).2 h.m
  have n2:=(qO c.r).2 h.r
  refine⟨Lib.itoa c.m,Lib.itoa c.r,jC e,?_,rQ n1,rQ n2⟩
  unfold ckc
  rw[if_neg (by simp),n1,n2,dN,dN,if_neg (by simp),if_neg (by simp),if_neg]
  have a:=h.pos
  have b:=h.rng
  intro x
  rcases x with x | ⟨x,y⟩
  ·omega
  ·have:=b x;omega
section
variable (lf:Nat)(hb:Big lf){c d:Cg}(hc:WfC c)(hd:WfC d)
include hb hc
theorem ccheck:bT.f lf (cc c)=some (0,()):=by
 obtain⟨l,m,e,h,a,b⟩:=ae7 hc
 rw[e,akl lf (by have:=hb.1;omega) _ _ _ (by omega) (by omega),h]
theorem rcheck:iO.f lf (cc c)=some (0,()):=by
 obtain⟨l,m,e,h,a,b⟩:=ae7 hc
 have:=hb.1
 rw[e,afc lf (by omega) _ _ _ (by omega) (by omega) (by omega) (by omega),h]
include hd
theorem cboth:jy.f lf (cc c) (cc d)=some (0,()):=by
 rw[jy.f,ccheck lf hb hc,bdS]
 simp only[bne_self_eq_false,brF]
 rw[ccheck lf hb hd,bdS]
theorem bounds:(-K < c.m∧c.m < K)∧(-K < c.r∧c.r < K)∧(-K < d.m∧d.m < K)∧(-K < d.r∧d.r < K)∧(-K < c.r-d.r∧c.r-d.r < K)∧(-K < c.r+d.r∧c.r+d.r < K)∧(-K < c.m*d.m∧c.m*d.m < K)∧(-K < c.m*d.r∧c.m*d.r < K)∧(-K < d.m*c.r∧d.m*c.r < K)∧(-K < c.r*d.r∧c.r*d.r < K):=by
 have hK:=CC_K
 have hC:=C_gt
 have hCK:=lM
 have h4:0≤C*C:=Int.mul_nonneg (by omega) (by omega)
 have a1:=hc.m
 have a2:=hc.r
 have a3:=hd.m
 have a4:=hd.r
 have m1:=abj a1 a3
 have m2:=abj a1 a4
 have m3:=abj a3 a2
 have m4:=abj a2 a4
 refine⟨by omega,by omega,by omega,by omega,by omega,by omega,by omega,by omega,by omega,by omega⟩
theorem akU:lD.f lf (cc c) (cc d)=some (cc (joinC c d),0,()):=by
 obtain⟨b1,b2,b3,b4,b5,b6,b7,b8,b9,b10⟩:=bounds lf hb hc hd
 rw[lD.f,cboth lf hb hc hd,bdS]
 unfold joinC
 cases ec:c.em with
 | true=>rw[qH ec];simp only[bne_self_eq_false,brF,brT,if_true]
 | false=>cases ed:d.em with
  | true=>rw[jC ec,qH ed];simp only[bne_self_eq_false,brF,brT,if_true,if_false,Bool.false_eq_true];rw[jC ec]
  | false =>
   rw[jC ec,jC ed]
   have g1:=ab4 b1 b3
   simp only[bne_self_eq_false,brF,if_false,Bool.false_eq_true,aeu lf hb b1 b3,zQ lf hb b2 b4 b5,bdS,aeu lf hb g1 b5,afe lf hb.1 (ab4 g1 b5) b2]
end
end Go.N
namespace Go.N
open Go Go.Q Go.Rx
section
variable (lf:Nat)(hb:Big lf){c d:Cg}(hc:WfC c)(hd:WfC d)
include hb hc hd
end
end Go.N
namespace Go.N
open Go Go.Q Go.Rx
section
variable (lf:Nat)(hb:Big lf){c d:Cg}(hc:WfC c)(hd:WfC d)
include hb hc hd
end
end Go.N
namespace Go.N
open Go Go.Q Go.Rx
theorem y9{m r:Int}:WfC (clsF m r):=by
 have hC:=C_gt
 unfold clsF
 by_cases h:sz (m.natAbs:Int) > 100∨sz (if m=0 then r else r.fmod (m.natAbs:Int)) > 100
 ·rw[if_pos h]
  exact⟨by simp only[topC];omega,by simp only[topC];omega,by simp[topC],fun _=>by simp[topC]⟩
 ·rw[if_neg h]
  have h1:=(sz_C (m.natAbs:Int)).1 (by omega)
  have h2:=(sz_C (if m=0 then r else r.fmod (m.natAbs:Int))).1 (by omega)
  refine⟨h1,h2,by simp only;omega,fun x=>?_⟩
  simp only at x⊢
  have h0:m≠0:=by omega
  rw[if_neg h0]
  exact⟨Int.fmod_nonneg_of_pos r (by omega),Int.fmod_lt_of_pos r (by omega)⟩
theorem zG:WfC Ec:=by
 have hC:=C_gt
 exact⟨by simp only[Ec];omega,by simp only[Ec];omega,by simp[Ec],fun x=>absurd rfl x⟩
theorem aga:WfC topC:=by
 have hC:=C_gt
 exact⟨by simp only[topC];omega,by simp only[topC];omega,by simp[topC],fun _=>by simp[topC]⟩
theorem sV{c d:Cg}(hc:WfC c)(hd:WfC d):WfC (joinC c d):=by
 unfold joinC;split
 ·exact hd
 ·split
  ·exact hc
  ·exact y9
def inC(c:Cg)(a:Int):Bool:=!c.em&&dvd' c.m (a-c.r)
def iY(c d:Cg):Bool:=if c.em=true then true else if d.em=true then false else dvd' d.m c.m&&dvd' d.m (c.r-d.r)
section
variable (lf:Nat)(hb:Big lf){c d:Cg}(hc:WfC c)(hd:WfC d)
include hb hc hd
theorem adG:ji.f lf (cc c) (cc d)=some (iY c d,()):=by
 obtain⟨b1,b2,b3,b4,b5,b6,b7,b8,b9,b10⟩:=bounds lf hb hc hd
 have hlf:=hb.1
 rw[ji.f]
 unfold iY
 cases ec:c.em with
 | true=>rw[qH ec];simp only[brT,if_true]
 | false=>cases ed:d.em with
  | true=>rw[jC ec,qH ed];simp only[brF,brT,if_true,if_false,Bool.false_eq_true]
  | false =>
   rw[jC ec,jC ed]
   simp only[brF,if_false,Bool.false_eq_true,xM lf hlf b3 b1,zQ lf hb b2 b4 b5,xM lf hlf b3 b5,bdS]
   cases dvd' d.m c.m with
   | true=>simp only[brT,Bool.true_and]
   | false=>simp only[brF,Bool.false_and]
end
theorem akR{c:Cg}(hc:WfC c)(h:c.em=false)(a:Int):inC c a=if c.m=0 then decide (a=c.r)else decide (a.fmod c.m=c.r):=by
 unfold inC dvd'
 rw[h,Bool.not_false,Bool.true_and]
 by_cases z:c.m=0
 ·rw[if_pos z,if_pos z];simp only[decide_eq_decide];omega
 ·rw[if_neg z,if_neg z]
  have r:=hc.rng z
  have p:0 < c.m:=by have:=hc.pos;omega
  simp only[decide_eq_decide]
  have m1:=Int.mul_fdiv_add_fmod a c.m
  have m2:=Int.mul_fdiv_add_fmod (a-c.r) c.m
  constructor
  ·intro e
   exact((jd (x:=a) (y:=c.m) (q:=(a-c.r).fdiv c.m) (r:=c.r) (by omega) (.inl r)).2).symm
  ·intro e
   exact((jd (x:=a-c.r) (y:=c.m) (q:=a.fdiv c.m) (r:=0) (by omega) (.inl (by omega))).2).symm
section
variable (lf:Nat)(hb:Big lf){c:Cg}(hc:WfC c)
include hb hc
theorem ajp{a:Int}(ha: -K < a∧a < K):kM.f lf (cc c) (bs (Lib.itoa a))=some (inC c a,0,()):=by
 have hlf:=hb.1
 have hl:=mr ha
 have bm:=CK hc.m
 rw[kM.f,ccheck lf hb hc,bdS]
 simp only[bne_self_eq_false,brF,nM lf (Lib.itoa a) (by omega),chkK ha,bdS]
 cases ec:c.em with
 | true=>rw[qH ec];simp only[brT,inC,ec,Bool.not_true,Bool.false_and]
 | false =>
  rw[akR hc ec,jC ec]
  simp only[brF,beq0]
  have bq:∀ x y:Int,((bs (Lib.itoa x)).toList==(bs (Lib.itoa y)).toList)=decide (x=y):=fun x y=>by
   rw[kX];simp only[decide_eq_decide];exact⟨fun e=>nP e,fun e=>by rw[e]⟩
  by_cases z:c.m=0
  ·rw[decide_eq_true z,brT,if_pos z,bq]
  ·rw[decide_eq_false z,brF,if_neg z,mD lf hlf ha bm z,bdS,fZ.f,bdS,bq]
theorem in_r{a:Int}(ha: -Dd < a∧a < Dd):kT.f lf (cc c) (bs (Lib.itoa a))=some (inC c a,()):=by
 have h3:200000≤lf:=by have:=hb.1;omega
 have hD:=DD_K
 have hC:=C_gt
 have hCD:=lX
 have h4:0≤Dd*Dd:=Int.mul_nonneg (by omega) (by omega)
 have bm:=hc.m
 have br':=hc.r
 rw[kT.f]
 unfold inC
 cases ec:c.em with
 | true=>rw[qH ec];simp only[Bool.not_true,brF,Bool.false_and]
 | false =>
  rw[jC ec]
  have s1:=szK (CK bm)
  have s2:=szK (z:=a-c.r) (by omega)
  simp only[Bool.not_false,brT,Bool.true_and,diffI lf h3 (x:=a) (y:=c.r) (by omega) (by omega),bdS,ado lf h3 (m:=c.m) (a:=a-c.r) (by omega) (by omega)]
end
end Go.N
namespace Go.N
open Go Go.Q Go.Rx
def negC(c:Cg):Cg:=if c.em=true then Ec else clsF c.m (-c.r)
theorem afG{c:Cg}:WfC (negC c):=by unfold negC;split;exact zG;exact y9
section
variable (lf:Nat)(hb:Big lf){c:Cg}(hc:WfC c)
include hb hc
theorem aeN:iG.f lf (cc c)=some (cc (negC c),()):=by
 have h3:200000≤lf:=by have:=hb.1;omega
 have bm:=CK hc.m
 have br':=CK hc.r
 rw[iG.f]
 unfold negC
 cases ec:c.em with
 | true=>rw[qH ec];simp only[brT,if_true];rfl
 | false =>
  rw[jC ec]
  simp only[brF,if_false,Bool.false_eq_true,tX lf br',bdS,xG lf h3 bm (r:= -c.r) (by omega)]
end
end Go.N
namespace Go.N
open Go Go.Q Go.Rx
def aboveC(c:Cg)(a:Int):Option Int:=if c.m=0 then(if c.r < a then none else some c.r)else some (a+(c.r-a).fmod c.m)
theorem wE{x y m:Int}(h:0 < m):(x.fmod m-y.fmod m).fmod m=(x-y).fmod m:=by
 rw[Int.fmod_eq_emod_of_nonneg _ (Int.le_of_lt h),Int.fmod_eq_emod_of_nonneg _ (Int.le_of_lt h),Int.fmod_eq_emod_of_nonneg _ (Int.le_of_lt h),Int.fmod_eq_emod_of_nonneg _ (Int.le_of_lt h),←Int.sub_emod]
section
variable (lf:Nat)(hb:Big lf){c:Cg}(hc:WfC c)(he:c.em=false){a:Int}(ha: -Dd < a∧a < Dd)
include hb hc he ha
theorem ajs:kN.f lf (cc c) (bs (Lib.itoa a))=some (match aboveC c a with
  | none=>(bs [],6,())
  | some v=>(bs (Lib.itoa v),0,())):=by
 have hlf:=hb.1
 have hD:=DD_K
 have hC:=C_gt
 have hCD:=lX
 have h4:0≤Dd*Dd:=Int.mul_nonneg (by omega) (by omega)
 have ka: -K < a∧a < K:=by omega
 have hl:=mr ka
 have m1:=hc.m
 have r1:=hc.r
 have bm:=CK hc.m
 have br':=CK hc.r
 rw[kN.f,ccheck lf hb hc,bdS]
 simp only[bne_self_eq_false,brF,nM lf (Lib.itoa a) (by omega),chkK ka,bdS]
 rw[jC he]
 simp only[brF,beq0]
 unfold aboveC
 by_cases z:c.m=0
 ·rw[decide_eq_true z,Bool.not_true,brF,if_pos z,aak lf _ _ (chkK br') (chkK ka) (by omega),dN,dN,bdS]
  simp only
  by_cases h:c.r < a
  ·rw[decide_eq_true h,brT,if_pos h]
  ·rw[decide_eq_false h,brF,if_neg h]
 ·have p:0 < c.m:=by have:=hc.pos;omega
  have k1:=yx br' bm z
  have k2:=yx ka bm z
  have g1:=Int.fmod_nonneg_of_pos c.r p
  have g2:=Int.fmod_lt_of_pos c.r p
  have g3:=Int.fmod_nonneg_of_pos a p
  have g4:=Int.fmod_lt_of_pos a p
  have k3: -K < c.r.fmod c.m-a.fmod c.m∧c.r.fmod c.m-a.fmod c.m < K:=by omega
  have g5:=Int.fmod_nonneg_of_pos (c.r-a) p
  have g6:=Int.fmod_lt_of_pos (c.r-a) p
  rw[decide_eq_false z,Bool.not_false,brT,if_neg z,iF.f,mD lf hlf br' bm z,bdS]
  simp only[bne_self_eq_false,brF,mD lf hlf ka bm z,bdS,zQ lf hb k1 k2 k3,mD lf hlf k3 bm z,wE p,aaO lf (by omega) ka (y:=(c.r-a).fmod c.m) (by omega) (by omega)]
theorem ae8:gq.f lf (cc c) (bs (Lib.itoa a))=some (match aboveC c a with
  | none=>(bs [],false,())
  | some v=>(bs (Lib.itoa v),true,())):=by
 have h3:200000≤lf:=by have:=hb.1;omega
 have hD:=DD_K
 have hC:=C_gt
 have hCD:=lX
 have h4:0≤Dd*Dd:=Int.mul_nonneg (by omega) (by omega)
 have ka: -K < a∧a < K:=by omega
 have m1:=hc.m
 have r1:=hc.r
 have bm:=CK hc.m
 have br':=CK hc.r
 rw[gq.f,jC he]
 simp only[beq0]
 unfold aboveC
 by_cases z:c.m=0
 ·rw[decide_eq_true z,brT,if_pos z,lessI lf h3 br' ka,bdS]
  simp only
  by_cases h:c.r < a
  ·rw[decide_eq_true h,brT,if_pos h]
  ·rw[decide_eq_false h,brF,if_neg h]
 ·have p:0 < c.m:=by have:=hc.pos;omega
  have g5:=Int.fmod_nonneg_of_pos (c.r-a) p
  have g6:=Int.fmod_lt_of_pos (c.r-a) p
  have kd: -K < c.r-a∧c.r-a < K:=by omega
  have s1:=szK kd
  have s2:=szK bm
  simp only[decide_eq_false z,brF,if_neg z,diffI lf h3 br' ka,bdS,aas lf h3 (x:=c.r-a) (y:=c.m) (by omega) (by omega) z,sumI lf h3 ka (y:=(c.r-a).fmod c.m) (by omega)]
end
end Go.N
namespace Go.N
open Go Go.Q Go.Rx
def belowC(c:Cg)(a:Int):Option Int:=if c.m=0 then(if a < c.r then none else some c.r)else some (a-(a-c.r).fmod c.m)
theorem vW{m r:Int}(h0:0≤m)(hm: -C < m∧m < C)(hr: -C < r∧r < C):clsF m r=⟨false,m,if m=0 then r else r.fmod m⟩:=by
 have e:(m.natAbs:Int)=m:=by omega
 unfold clsF
 rw[e]
 have s1:=(sz_C m).2 hm
 have s2:sz (if m=0 then r else r.fmod m)≤100:=by
  apply (sz_C _).2
  split
  ·exact hr
  ·have a:=Int.fmod_nonneg_of_pos r (show 0 < m by omega)
   have b:=Int.fmod_lt_of_pos r (show 0 < m by omega)
   omega
 rw[if_neg (by omega)]
theorem agr{c:Cg}(hc:WfC c)(he:c.em=false)(a:Int):belowC c a=(aboveC (negC c) (-a)).map fun v=> -v:=by
 have e:negC c=⟨false,c.m,if c.m=0 then -c.r else(-c.r).fmod c.m⟩:=by
  unfold negC
  rw[if_neg (by simp[he])]
  exact vW hc.pos hc.m (by have:=hc.r;omega)
 rw[e]
 unfold belowC aboveC
 simp only
 by_cases z:c.m=0
 ·simp only[z,if_true]
  by_cases h:a < c.r
  ·rw[if_pos h,if_pos (by omega)];rfl
  ·rw[if_neg h,if_neg (by omega)];simp
 ·have p:0 < c.m:=by have:=hc.pos;omega
  simp only[if_neg z,Option.map_some]
  have k:((-c.r).fmod c.m - -a).fmod c.m=(a-c.r).fmod c.m:=by
   have h1:=wE (x:=(-c.r).fmod c.m) (y:= -a) p
   have h2:=wE (x:= -c.r) (y:= -a) p
   have h3:((-c.r).fmod c.m).fmod c.m=(-c.r).fmod c.m:=by
    rw[Int.fmod_eq_emod_of_nonneg _ (Int.le_of_lt p),Int.fmod_eq_emod_of_nonneg _ (Int.le_of_lt p),Int.emod_emod]
   rw[←h1,h3,h2]
   congr 1;omega
  rw[k]
  congr 1;omega
section
variable (lf:Nat)(hb:Big lf){c:Cg}(hc:WfC c)(he:c.em=false){a:Int}(ha: -Dd < a∧a < Dd)
include hb hc he ha
theorem ajb:iM.f lf (cc c) (bs (Lib.itoa a))=some (match belowC c a with
  | none=>(bs [],false,())
  | some v=>(bs (Lib.itoa v),true,())):=by
 have hD:=DD_K
 have hC:=C_gt
 have hCD:=lX
 have h4:0≤Dd*Dd:=Int.mul_nonneg (by omega) (by omega)
 have ne:(negC c).em=false:=by
  have:negC c=⟨false,c.m,if c.m=0 then -c.r else(-c.r).fmod c.m⟩:=by
   unfold negC
   rw[if_neg (by simp[he])]
   exact vW hc.pos hc.m (by have:=hc.r;omega)
  rw[this]
 have ab:=ae8 lf hb afG ne (a:= -a) (by omega)
 rw[iM.f,aeN lf hb hc,bdS,tX lf (z:=a) (by omega),bdS,ab,bdS,agr hc he]
 cases h:aboveC (negC c) (-a)with
 | none=>simp only[Bool.not_false,brT,Option.map_none]
 | some v =>
  have kv: -K < v∧v < K:=by
   unfold aboveC at h
   have w:=afG (c:=c)
   have m1:=w.m
   have r1:=w.r
   split at h
   ·split at h
    ·cases h
    ·injection h with h;omega
   ·rename_i z
    have p:0 < (negC c).m:=by have:=w.pos;omega
    have g5:=Int.fmod_nonneg_of_pos ((negC c).r - -a) p
    have g6:=Int.fmod_lt_of_pos ((negC c).r - -a) p
    injection h with h
    omega
  simp only[Bool.not_true,brF,Option.map_some,tX lf kv,bdS]
theorem aeD:iJ.f lf (cc c) (bs (Lib.itoa a))=some (match belowC c a with
  | none=>(bs [],6,())
  | some v=>(bs (Lib.itoa v),0,())):=by
 have hlf:=hb.1
 have hD:=DD_K
 have hC:=C_gt
 have hCD:=lX
 have h4:0≤Dd*Dd:=Int.mul_nonneg (by omega) (by omega)
 have ka: -K < a∧a < K:=by omega
 have hl:=mr ka
 have m1:=hc.m
 have r1:=hc.r
 have bm:=CK hc.m
 have br':=CK hc.r
 rw[iJ.f,ccheck lf hb hc,bdS]
 simp only[bne_self_eq_false,brF,nM lf (Lib.itoa a) (by omega),chkK ka,bdS]
 rw[jC he]
 simp only[brF,beq0]
 unfold belowC
 by_cases z:c.m=0
 ·rw[decide_eq_true z,Bool.not_true,brF,if_pos z,aak lf _ _ (chkK ka) (chkK br') (by omega),dN,dN,bdS]
  simp only
  by_cases h:a < c.r
  ·rw[decide_eq_true h,brT,if_pos h]
  ·rw[decide_eq_false h,brF,if_neg h]
 ·have p:0 < c.m:=by have:=hc.pos;omega
  have k1:=yx br' bm z
  have k2:=yx ka bm z
  have g1:=Int.fmod_nonneg_of_pos c.r p
  have g2:=Int.fmod_lt_of_pos c.r p
  have g3:=Int.fmod_nonneg_of_pos a p
  have g4:=Int.fmod_lt_of_pos a p
  have k3: -K < a.fmod c.m-c.r.fmod c.m∧a.fmod c.m-c.r.fmod c.m < K:=by omega
  have g5:=Int.fmod_nonneg_of_pos (a-c.r) p
  have g6:=Int.fmod_lt_of_pos (a-c.r) p
  have kf: -K < (a-c.r).fmod c.m∧(a-c.r).fmod c.m < K:=by omega
  have kd: -K < a-(a-c.r).fmod c.m∧a-(a-c.r).fmod c.m < K:=by omega
  have sd:=(sz_K _).2 kd
  have sb:=akr lf _ _ (chkK ka) (chkK kf) (by omega)
  rw[dN,dN,qy,if_neg (by omega)]at sb
  rw[decide_eq_false z,Bool.not_false,brT,if_neg z,iF.f,mD lf hlf ka bm z,bdS]
  simp only[bne_self_eq_false,brF,mD lf hlf br' bm z,bdS,zQ lf hb k2 k1 k3,mD lf hlf k3 bm z,wE p,sb]
end
end Go.N
namespace Go.N
open Go Go.Q Go.Rx
theorem alA(lf:Nat)(hb:Big lf){x y:Int}(hx:0 < x∧x < C)(hy:0 < y∧y < C):qf.f lf (bs (Lib.itoa x)) (bs (Lib.itoa y))=some (bs (Lib.itoa (x / (Int.gcd x y:Int)*y)),0,()):=by
 have hlf:=hb.1
 have hK:=hb.2
 have hCK:=lM
 have hCC:=CC_K
 have hC:=C_gt
 have kx: -K < x∧x < K:=by omega
 have ky: -K < y∧y < K:=by omega
 obtain⟨p,q,e,k1,k2,_⟩:=rU lf _ _ (chkK kx) (chkK ky) (by omega)
 rw[dN]at k1 k2
 have n1:=aT (B:=G) (by decide) k1.dg
 have n2:=aT (B:=G) (by decide) k2.dg
 have vx:lv G p.2.1=x:=by have:=k1.val;split at this<;>omega
 have vy:lv G q.2.1=y:=by have:=k2.val;split at this<;>omega
 have p0:p.2.1≠[]:=fun h=>by rw[h]at vx;simp only[lv]at vx;omega
 have q0:q.2.1≠[]:=fun h=>by rw[h]at vy;simp only[lv]at vy;omega
 have pl:0 < p.2.1.length:=List.length_pos_iff.2 p0
 have ql:0 < q.2.1.length:=List.length_pos_iff.2 q0
 have l1:=k1.len
 have l2:=k2.len
 obtain⟨g,g1,g2,g3,g4,g5⟩:=aaW lf hlf (lf+39) (lf+40) p.2.1 q.2.1 (by omega) (by omega) k1.dg k2.dg k1.tr k2.tr (by omega) (by omega)
 rw[vx,vy]at g5
 have gp:0 < (Int.gcd x y:Int):=by
  have:=Int.gcd_pos_of_ne_zero_left y (show x≠0 by omega)
  omega
 have g0:g≠[]:=fun h=>by rw[h]at g5;simp only[lv]at g5;omega
 obtain⟨Q,R,d1,d2,d3,d4,d5,d6,d7⟩:=vZ lf p.2.1 g k1.dg g2 k1.tr g3 g0 (by omega) (by omega) hlf
 have Q0:=aT (B:=G) (by decide) d2
 have R0:=aT (B:=G) (by decide) d4
 rw[vx,g5]at d6
 rw[g5]at d7
 have dv:(Int.gcd x y:Int)∣x:=Int.gcd_dvd_left x y
 have qv:lv G Q=x / (Int.gcd x y:Int):=by
  obtain⟨k,hk⟩:=dv
  have w:=ac0 (M:=(Int.gcd x y:Int)) (a:=lv G R) (d:=lv G Q-k) (b:=0) gp (by rw[Int.mul_sub];omega) R0 d7 (by omega) gp
  have:lv G Q=k:=by omega
  rw[this]
  exact(Int.ediv_eq_of_eq_mul_right (show(Int.gcd x y:Int)≠0 by omega) hk).symm
 have qlen:Q.length≤p.2.1.length:=by
  by_cases z:Q.length≤p.2.1.length
  ·exact z
  ·have:=kS (B:=G) (by decide) k1.dg d2 d3 (by omega)
   have:=Int.ediv_le_self (Int.gcd x y:Int) (show 0≤x by omega)
   omega
 obtain⟨r,r1,r2,r3,r4,r5⟩:=acQ lf Q q.2.1 d2 k2.dg (by omega) (by omega) (by omega)
 rw[qv,vy]at r5
 have rn:RN (false,r,()) (x / (Int.gcd x y:Int)*y) 8192:=⟨r2,r3,by simp only;omega,by simp only[Bool.false_eq_true,if_false];rw[r5]⟩
 have lt: -K < x / (Int.gcd x y:Int)*y∧x / (Int.gcd x y:Int)*y < K:=by
  have a:=Int.ediv_le_self (Int.gcd x y:Int) (show 0≤x by omega)
  have b:=Int.ediv_nonneg (show 0≤x by omega) (Int.le_of_lt gp)
  have:=abj (a:=x / (Int.gcd x y:Int)) (b:=y) (by omega) (by omega)
  omega
 have sz':=(sz_K _).2 lt
 rw[qf.f,e,bdS]
 simp only[bne_self_eq_false,brF]
 rw[show(((p.2.1.length:Nat):Int)==0)=false from beq_eq_false_iff_ne.2 (by omega),brF,show(((q.2.1.length:Nat):Int)==0)=false from beq_eq_false_iff_ne.2 (by omega),brF,eu.f,g1,bdS,bdS,d1,bdS,r1,bdS,uV lf rn (by omega) (by omega),qy,if_neg (by omega),bdS]
end Go.N
namespace Go.N
open Go Go.Q Go.Rx
structure Bz(a b r s x z:Int):Prop where
 b0:0 < b
 r0:0 < r
 s0:0≤s
 xr:b∣x*a-r
 zs:b∣z*a-s
 sg:(0≤z∧x≤0∧z*r-x*s=b)∨(z≤0∧0≤x∧z*r-x*s= -b)
 xb: -b≤x∧x≤b
theorem Bz.zb{a b r s x z:Int}(h:Bz a b r s x z): -b≤z∧z≤b:=by
 have r0:=h.r0
 have s0:=h.s0
 have b0:=h.b0
 rcases h.sg with⟨h1,h2,h3⟩ | ⟨h1,h2,h3⟩
 ·have a1:z*1≤z*r:=Int.mul_le_mul_of_nonneg_left (by omega) h1
  have a2:0≤-x*s:=Int.mul_nonneg (by omega) s0
  rw[Int.neg_mul]at a2
  omega
 ·have a1: -z*1≤-z*r:=Int.mul_le_mul_of_nonneg_left (by omega) (by omega)
  have a2:0≤x*s:=Int.mul_nonneg h2 s0
  rw[Int.neg_mul,Int.neg_mul]at a1
  omega
theorem Bz.next{a b r s x z q t:Int}(h:Bz a b r s x z)(hs:0 < s)(hq:r=s*q+t)(t0:0≤t)(q0:0≤q):Bz a b s t z (x-q*z):=by
 have zb:=h.zb
 refine⟨h.b0,hs,t0,h.zs,?_,?_,zb⟩
 ·have e:(x-q*z)*a-t=(x*a-r)-q*(z*a-s):=by
   subst hq;rw[Int.sub_mul,Int.mul_sub,Int.mul_assoc,Int.mul_comm q s];omega
  rw[e]
  exact Int.dvd_sub h.xr (Int.dvd_trans h.zs (Int.dvd_mul_left _ _))
 ·have e:(x-q*z)*s-z*t= -(z*r-x*s):=by
   subst hq;rw[Int.sub_mul,Int.mul_add,Int.mul_comm q z,Int.mul_assoc z q s,Int.mul_comm q s];omega
  rw[e]
  rcases h.sg with⟨h1,h2,h3⟩ | ⟨h1,h2,h3⟩
  ·refine .inr ⟨?_,h1,by rw[h3]⟩
   have:=Int.mul_nonneg q0 h1
   omega
  ·refine .inl ⟨?_,h1,by rw[h3];omega⟩
   have:=Int.mul_nonneg q0 (show 0≤-z by omega)
   rw[Int.mul_neg]at this
   omega
theorem crt{m1 m2 g r1 r2 x k:Int}(g0:0 < g)(h1:0 < m1)(h2:0 < m2)(d1:g∣m1)(d2:g∣m2)(hx:m2∣x*m1-g)(hk:r2-r1=g*k):m2∣(r1+x*k*m1)-r2:=by
 have e:(r1+x*k*m1)-r2=k*(x*m1-g):=by
  rw[Int.mul_sub,Int.mul_comm k g,←hk,Int.mul_comm x k,Int.mul_assoc];omega
 rw[e]
 exact Int.dvd_trans hx (Int.dvd_mul_left _ _)
theorem lcm_dvd{m1 m2 v:Int}(h1:0 < m1)(h2:0 < m2)(a:m1∣v)(b:m2∣v):m1 / (Int.gcd m1 m2:Int)*m2∣v:=by
 have l:(Int.lcm m1 m2:Int)∣v:=Int.coe_lcm_dvd a b
 have e:(Int.lcm m1 m2:Int)=m1 / (Int.gcd m1 m2:Int)*m2:=by
  rw[Int.lcm_eq_mul_div,Int.natCast_ediv,Int.natCast_mul,Int.natAbs_of_nonneg (Int.le_of_lt h1),Int.natAbs_of_nonneg (Int.le_of_lt h2),Int.mul_comm m1 m2,Int.mul_ediv_assoc _ (Int.gcd_dvd_left m1 m2),Int.mul_comm]
 rw[←e];exact l
theorem lcm_pos{m1 m2:Int}(h1:0 < m1)(h2:0 < m2):0 < m1 / (Int.gcd m1 m2:Int)*m2:=by
 have gp:0 < (Int.gcd m1 m2:Int):=by
  have:=Int.gcd_pos_of_ne_zero_left m2 (show m1≠0 by omega)
  omega
 have:0 < m1 / (Int.gcd m1 m2:Int):=Int.ediv_pos_of_pos_of_dvd h1 (by omega) (Int.gcd_dvd_left _ _)
 exact Int.mul_pos this h2
theorem agI{L u v:Int}(h:0 < L)(d:L∣u-v):u.fmod L=v.fmod L:=by
 rw[Int.fmod_eq_emod_of_nonneg _ (Int.le_of_lt h),Int.fmod_eq_emod_of_nonneg _ (Int.le_of_lt h)]
 exact Int.emod_eq_emod_iff_emod_sub_eq_zero.2 (Int.emod_eq_zero_of_dvd d)
end Go.N
namespace Go.N
open Go Go.Q Go.Rx
abbrev Nb:Type:=Bool×(List Int×Unit)
theorem RN.natAbs{p:Nb}{z:Int}{k:Nat}(h:RN p z k):lv G p.2.1=(z.natAbs:Int):=by
 have:=h.val
 have:=aT (B:=G) (by decide) h.dg
 split at*<;> omega
theorem RN.small(lf:Nat)(h3:200000≤lf){p:Nb}{z:Int}{k:Nat}(h:RN p z k)(hz: -K < z∧z < K):RN p z 4096:=by
 obtain⟨q,_,_,k1,_⟩:=rU lf _ _ (chkK hz) (chkK hz) h3
 rw[dN]at k1
 refine⟨h.dg,h.tr,?_,h.val⟩
 by_cases l:p.2.1.length≤4096
 ·exact l
 ·have:=kS (B:=G) (by decide) k1.dg h.dg h.tr (by have:=k1.len;omega)
  rw[h.natAbs,k1.natAbs]at this
  omega
theorem RN.nil{p:Nb}{k:Nat}(h:RN p 0 k):p.2.1=[]:=(vJ (B:=G) (by decide) h.dg h.tr).1 (by rw[h.natAbs];rfl)
theorem RN.ne{p:Nb}{z:Int}{k:Nat}(h:RN p z k)(h0:z≠0):0 < p.2.1.length:=by
 refine List.length_pos_iff.2 fun e=>h0 ?_
 have:=h.natAbs
 rw[e]at this
 simp only[lv]at this
 omega
theorem aii(lf:Nat)(h3:200000≤lf){p q:Nb}{x y:Int}{k:Nat}(h1:RN p x k)(h2:RN q y k)(hk:k≤50000):∃ s,bI.f lf p q=some (s,())∧RN s (x*y) (k+k):=by
 obtain⟨r,r1,r2,r3,r4,r5⟩:=acQ lf p.2.1 q.2.1 h1.dg h2.dg (by have:=h1.len;omega) (by have:=h2.len;omega) h3
 rw[bI.f,r1,bdS]
 refine⟨_,rfl,r2,r3,by have:=h1.len;have:=h2.len;simp only;omega,?_⟩
 simp only
 rw[r5,h1.val,h2.val]
 cases p.1<;>cases q.1<;>simp[Int.neg_mul,Int.mul_neg]
section
variable (lf:Nat)(hlf:2000000000≤lf){a b:Int}(hb:b < C)
include hlf hb
theorem abO{r s bf nw:Nb}{R S X Z:Int}(h1:RN r R 4096)(h2:RN s S 4096)(h3:RN bf X 4096)(h4:RN nw Z 4096)(h:Bz a b R S X Z)(hs:S≠0):
  ∃ q t u v w,aP.f lf r s=some (q,t,())∧bI.f lf q nw=some (u,())∧aW.f lf u=some (v,())∧dH.f lf bf v=some (w,())∧
   RN t (R.fmod S) 4096∧RN w (X-R.fdiv S*Z) 4096∧Bz a b S (R.fmod S) Z (X-R.fdiv S*Z):=by
 have hC:=lM
 have sp:0 < S:=by have:=h.s0;omega
 obtain⟨q,t,e1,k1,k2⟩:=rV lf hlf h1 h2 (by omega) hs
 obtain⟨u,e2,k3⟩:=aii lf (by omega) k1 (h4.mono (by omega)) (by omega)
 obtain⟨v,e3,k4⟩:=uM lf k3
 obtain⟨w,e4,k5⟩:=aef lf (h3.mono (show 4096≤4096+1+(4096+1) by omega)) k4 (by omega) (by omega)
 rw[←Int.sub_eq_add_neg]at k5
 have m:=Int.mul_fdiv_add_fmod R S
 have n:=h.next sp m.symm (Int.fmod_nonneg_of_pos R sp) (by
  rw[Int.fdiv_eq_ediv_of_nonneg _ (Int.le_of_lt sp)];exact Int.ediv_nonneg (Int.le_of_lt h.r0) (Int.le_of_lt sp))
 have zb:=n.zb
 exact⟨q,t,u,v,w,e1,e2,e3,e4,k2,k5.small lf (by omega) (by omega),n⟩
theorem alj(v0:Bool)(v1:List Int)(v2:Bool)(v3 v8:List Int):∀ (k n:Nat) (r s bf nw:Nb) (R S X Z:Int),S≤k→k < n→RN r R 4096→RN s S 4096→RN bf X 4096→RN nw Z 4096→Bz a b R S X Z→
  ∃ (g bf' nw':Nb) (e:Bool) (X':Int),bH.l2 lf v0 v1 v2 v3 v8 n r.1 r.2.1 s.1 s.2.1 bf.1 bf.2.1 nw.1 nw.2.1=some ((v0,v1,v2,v3,g.1,g.2.1,e,[],v8,bf'.1,bf'.2.1,nw'.1,nw'.2.1,()),())∧
   RN g (Int.gcd R S) 4096∧RN bf' X' 4096∧b∣X'*a-(Int.gcd R S:Int)∧-b≤X'∧X'≤b:=by
 intro k
 induction k with
 | zero =>
  intro n r s bf nw R S X Z hk hn h1 h2 h3 h4 h
  obtain⟨m,rfl⟩:=Nat.exists_eq_succ_of_ne_zero (show n≠0 by omega)
  have s0:=h.s0
  obtain rfl:S=0:=by omega
  have e:=h2.nil
  have r0:=h.r0
  have g:(Int.gcd R 0:Int)=R:=by rw[Int.gcd_zero_right];omega
  refine⟨r,bf,nw,s.1,X,?_,by rw[g];exact h1,h3,by rw[g];exact h.xr,h.xb⟩
  rw[bH.l2,bH.r2,e,decide_eq_false (by simp),brF]
 | succ k ih =>
  intro n r s bf nw R S X Z hk hn h1 h2 h3 h4 h
  obtain⟨m,rfl⟩:=Nat.exists_eq_succ_of_ne_zero (show n≠0 by omega)
  have s0:=h.s0
  have r0:=h.r0
  by_cases hs:S=0
  ·subst hs
   have e:=h2.nil
   have g:(Int.gcd R 0:Int)=R:=by rw[Int.gcd_zero_right];omega
   refine⟨r,bf,nw,s.1,X,?_,by rw[g];exact h1,h3,by rw[g];exact h.xr,h.xb⟩
   rw[bH.l2,bH.r2,e,decide_eq_false (by simp),brF]
  ·obtain⟨q,t,u,v,w,e1,e2,e3,e4,k1,k2,nx⟩:=abO lf hlf hb h1 h2 h3 h4 h hs
   have sp:0 < S:=by omega
   have f1:=Int.fmod_lt_of_pos R sp
   have gs:(Int.gcd S (R.fmod S))=Int.gcd R S:=wF (Int.mul_fdiv_add_fmod R S).symm sp nx.s0 f1 (by omega)
   obtain⟨g,bf',nw',e,X',i1,i2,i3,i4,i5⟩:=ih m s t nw w S (R.fmod S) Z _ (by omega) (by omega) h2 k1 h4 k2 nx
   rw[gs]at i2 i4
   refine⟨g,bf',nw',e,X',?_,i2,i3,i4,i5⟩
   rw[bH.l2,bH.r2,decide_eq_true (by have:=h2.ne hs;omega),brT]
   have x1:((r.1,r.2.1,()):Nb)=r:=rfl
   have x2:((s.1,s.2.1,()):Nb)=s:=rfl
   have x3:((nw.1,nw.2.1,()):Nb)=nw:=rfl
   have x4:((bf.1,bf.2.1,()):Nb)=bf:=rfl
   rw[x1,x2,x3,x4,e1,bdS,e2,bdS,e3,bdS,e4,bdS]
   exact i1
end
theorem afb(lf:Nat)(hlf:2000000000≤lf){a b:Int}(ha:0 < a∧a < C)(hb:0 < b∧b < C){x y g bf:Nb}{X:Int}(hx:RN x a 4096)(hy:RN y b 4096)(hg:RN g (Int.gcd a b) 4096)(hf:RN bf X 4096)(hX:b∣X*a-(Int.gcd a b:Int)):
  ∃ (Q R:List Int) (q u p m s t:Nb) (o:Nb),af.f lf y.2.1 g.2.1=some (Q,R,())∧aP.f lf bf (false,Q,())=some (q,u,())∧bI.f lf x u=some (p,())∧aW.f lf p=some (m,())∧
   dH.f lf g m=some (s,())∧aP.f lf s y=some (t,o,())∧(∃ c1,ak.f lf g=some (c1,()))∧(∃ c2,ak.f lf t=some (c2,()))∧
   ∃ U:Int,ak.f lf u=some (bs (Lib.itoa U),())∧0≤U∧U < C∧b∣U*a-(Int.gcd a b:Int):=by
 have hCK:=lM
 have gp:0 < (Int.gcd a b:Int):=by
  have:=Int.gcd_pos_of_ne_zero_left b (show a≠0 by omega)
  omega
 have g0:g.2.1≠[]:=fun e=>by have:=hg.ne (by omega);rw[e]at this;simp at this
 obtain⟨Q,R,d1,d2,d3,d4,d5,d6,d7⟩:=vZ lf y.2.1 g.2.1 hy.dg hg.dg hy.tr hg.tr g0 (by have:=hy.len;omega) (by have:=hg.len;omega) hlf
 have yv:lv G y.2.1=b:=by rw[hy.natAbs];omega
 have gv:lv G g.2.1=(Int.gcd a b:Int):=by rw[hg.natAbs];omega
 rw[yv,gv]at d6
 rw[gv]at d7
 have Q0:=aT (B:=G) (by decide) d2
 have R0:=aT (B:=G) (by decide) d4
 have dv:(Int.gcd a b:Int)∣b:=Int.gcd_dvd_right a b
 have qv:(Int.gcd a b:Int)*lv G Q=b:=by
  obtain⟨k,hk⟩:=dv
  have w:=ac0 (M:=(Int.gcd a b:Int)) (a:=lv G R) (d:=lv G Q-k) (b:=0) gp (by rw[Int.mul_sub];omega) R0 d7 (by omega) gp
  have:lv G Q=k:=by omega
  rw[this];exact hk.symm
 have qp:0 < lv G Q:=by
  by_cases z:lv G Q=0
  ·rw[z,Int.mul_zero]at qv;omega
  ·omega
 have qb:lv G Q≤b:=by
  have:=Int.mul_le_mul_of_nonneg_right (show 1≤(Int.gcd a b:Int) by omega) Q0
  omega
 have hQ:RN (false,Q,()) (lv G Q) 4096:=(show RN (false,Q,()) (lv G Q) Q.length from⟨d2,d3,Nat.le_refl _,rfl⟩).small lf (by omega) (by omega)
 obtain⟨q,u,e1,k1,k2⟩:=rV lf hlf hf hQ (by omega) (by omega)
 have f0:=Int.fmod_nonneg_of_pos X qp
 have f1:=Int.fmod_lt_of_pos X qp
 obtain⟨p,e2,k3⟩:=aii lf (by omega) hx k2 (by omega)
 obtain⟨m,e3,k4⟩:=uM lf k3
 obtain⟨s,e4,k5⟩:=aef lf (hg.mono (show 4096≤4096+4096 by omega)) k4 (by omega) (by omega)
 obtain⟨t,o,e5,k6,k7⟩:=rV lf hlf k5 (hy.mono (by omega)) (by omega) (by omega)
 refine⟨Q,R,q,u,p,m,s,t,o,d1,e1,e2,e3,e4,e5,⟨_,rP lf hg (by omega) (by omega)⟩,⟨_,rP lf k6 (by omega) (by omega)⟩,X.fmod (lv G Q),rP lf k2 (by omega) (by omega),f0,by omega,?_⟩
 have mm:=Int.mul_fdiv_add_fmod X (lv G Q)
 obtain⟨k,hk⟩:=Int.gcd_dvd_left a b
 have e:X.fmod (lv G Q)*a-(Int.gcd a b:Int)=(X*a-(Int.gcd a b:Int))-b*(X.fdiv (lv G Q)*k):=by
  have e1:X.fmod (lv G Q)=X-lv G Q*X.fdiv (lv G Q):=by omega
  have e2:b*(X.fdiv (lv G Q)*k)=lv G Q*X.fdiv (lv G Q)*a:=by
   rw[←qv]
   generalize X.fdiv (lv G Q)=w at *
   generalize lv G Q=z at *
   generalize (Int.gcd a b:Int)=g at *
   rw[hk];grind
  rw[e1,e2,Int.sub_mul];omega
 rw[e]
 exact Int.dvd_sub hX (Int.dvd_mul_right _ _)
theorem ahi(lf:Nat)(hb:Big lf){a b:Int}(ha:0 < a∧a < C)(hbb:0 < b∧b < C):
  ∃ (t1 t3:ByteArray) (U:Int),bH.f lf (bs (Lib.itoa a)) (bs (Lib.itoa b))=some (t1,bs (Lib.itoa U),t3,0,())∧0≤U∧U < C∧b∣U*a-(Int.gcd a b:Int):=by
 have hlf:=hb.1
 have hK:=hb.2
 have hCK:=lM
 have ka: -K < a∧a < K:=by omega
 have kb: -K < b∧b < K:=by omega
 obtain⟨x,y,e,k1,k2,n1,n2⟩:=rU lf _ _ (chkK ka) (chkK kb) (by omega)
 rw[dN]at k1 k2
 have na:x.1=false:=by
  cases hx:x.1 with
  | false=>rfl
  | true =>
   have:=k1.val
   have:=aT (B:=G) (by decide) k1.dg
   rw[hx,if_pos rfl]at *;omega
 have nb:y.1=false:=by
  cases hx:y.1 with
  | false=>rfl
  | true =>
   have:=k2.val
   have:=aT (B:=G) (by decide) k2.dg
   rw[hx,if_pos rfl]at *;omega
 have y0:=k2.ne (by omega)
 have B0:Bz a b a b 1 0:=⟨hbb.1,ha.1,by omega,by simp,by simp,.inr ⟨by omega,by omega,by simp⟩,by omega⟩
 have one:RN (false,[1],()) 1 4096:=⟨by intro d hd;simp at hd;subst hd;decide,by unfold Tr;simp,by simp,by decide⟩
 have zer:RN (false,[],()) 0 4096:=⟨nofun,by unfold Tr;simp,by simp,by decide⟩
 have x1:RN (false,x.2.1,()) a 4096:=by have h:=k1;obtain⟨xn,xl,⟨⟩⟩:=x;simp only at na;subst na;exact h
 have y1:RN (false,y.2.1,()) b 4096:=by have h:=k2;obtain⟨xn,xl,⟨⟩⟩:=y;simp only at nb;subst nb;exact h
 obtain⟨q,t,u,v,w,s1,s2,s3,s4,s5,s6,nx⟩:=abO lf hlf hbb.2 x1 y1 one zer B0 (by omega)
 have gs:(Int.gcd b (a.fmod b))=Int.gcd a b:=wF (Int.mul_fdiv_add_fmod a b).symm hbb.1 nx.s0 (Int.fmod_lt_of_pos a hbb.1) (by omega)
 have f1:(decide (((y.2.1.length:Nat):Int) > 0))=true:=decide_eq_true (by omega)
 have e0:(((y.2.1.length:Nat):Int)==0)=false:=beq_eq_false_iff_ne.2 (by omega)
 by_cases z:a.fmod b=0
 ·rw[z]at s5 nx gs
  have tn:=s5.nil
  rw[Int.gcd_zero_right,show b.natAbs=b.toNat by omega]at gs
  have hg:RN (false,y.2.1,()) (Int.gcd a b) 4096:=by rw[←gs,show((b.toNat:Nat):Int)=b by omega];exact y1
  have hX:b∣0*a-(Int.gcd a b:Int):=by
   rw[←gs,show((b.toNat:Nat):Int)=b by omega,Int.zero_mul,Int.zero_sub];exact Int.dvd_neg.2 (Int.dvd_refl _)
  obtain⟨Q,R,q',u',p',m',s',t',o',g1,g2,g3,g4,g5,g6,⟨c1,g7⟩,⟨c2,g8⟩,U,g9,U0,U1,U2⟩:=afb lf hlf ha hbb k1 k2 hg zer hX
  refine⟨c1,c2,U,?_,U0,U1,U2⟩
  rw[bH.f,e,bdS]
  simp only[bne_self_eq_false,brF,e0]
  rw[show lf+40=lf+38+1+1 from rfl,bH.l0,bH.r0,f1,brT,s1,bdS,s2,bdS,s3,bdS,s4,bdS]
  simp only
  rw[bH.l1,bH.r1,tn,decide_eq_false (by simp),brF]
  have xe:((x.1,x.2.1,()):Nb)=x:=rfl
  have ye:((y.1,y.2.1,()):Nb)=y:=rfl
  simp only[bdS,brT,brF,na,nb,Bool.false_eq_true]at *
  rw[ye]at g5 g7
  simp only[xe,ye,g1,g2,g3,g4,g5,g6,g7,g8,g9,bdS]
 ·obtain⟨q2,t2,u2,v2,w2,r1,r2,r3,r4,r5,r6,ny⟩:=abO lf hlf hbb.2 y1 s5 zer s6 nx z
  have nx0:=nx.s0
  have sp:0 < a.fmod b:=by omega
  have fl:=Int.fmod_lt_of_pos b sp
  have gs2:(Int.gcd (a.fmod b) (b.fmod (a.fmod b)))=Int.gcd b (a.fmod b):=wF (Int.mul_fdiv_add_fmod b (a.fmod b)).symm sp ny.s0 fl (by omega)
  obtain⟨g,bf,nw,ee,X,l1,l2,l3,l4,l5,l6⟩:=alj lf hlf hbb.2 x.1 x.2.1 y.1 y.2.1 [1] (lf+37) (lf+38) t t2 w w2 _ _ _ _ (by have:=Int.fmod_lt_of_pos a hbb.1;omega) (by omega) s5 r5 s6 r6 ny
  rw[gs2,gs]at l2 l4
  obtain⟨Q,R,q',u',p',m',s',t',o',g1,g2,g3,g4,g5,g6,⟨c1,g7⟩,⟨c2,g8⟩,U,g9,U0,U1,U2⟩:=afb lf hlf ha hbb k1 k2 l2 l3 l4
  refine⟨c1,c2,U,?_,U0,U1,U2⟩
  rw[bH.f,e,bdS]
  simp only[bne_self_eq_false,brF,e0]
  rw[show lf+40=lf+38+1+1 from rfl,bH.l0,bH.r0,f1,brT,s1,bdS,s2,bdS,s3,bdS,s4,bdS]
  simp only
  have te:((t.1,t.2.1,()):Nb)=t:=rfl
  have we:((w.1,w.2.1,()):Nb)=w:=rfl
  rw[bH.l1,bH.r1,decide_eq_true (by have:=s5.ne z;omega),brT,te,we,r1,bdS,r2,bdS,r3,bdS,r4,bdS]
  simp only
  rw[l1]
  have xe:((x.1,x.2.1,()):Nb)=x:=rfl
  have ye:((y.1,y.2.1,()):Nb)=y:=rfl
  have ge:((g.1,g.2.1,()):Nb)=g:=rfl
  have be:((bf.1,bf.2.1,()):Nb)=bf:=rfl
  simp only[bdS,brT,brF,xe,ye,ge,be,g1,g2,g3,g4,g5,g6,g7,g8,g9]
  rw[na,brF]
end Go.N
namespace Go.N
open Go Go.Q Go.Rx
structure Vl where
 a:A
 c:Cg
deriving DecidableEq
abbrev VV:Type:=IV×(IV×Unit)
def vc(v:Vl):VV:=(ac v.a,cc v.c,())
def Ev:Vl:=⟨E0,Ec⟩
def onev(z:Int):Vl:=⟨⟨false,some z,some z⟩,⟨false,0,z⟩⟩
def loC(c:Cg)(a:Int):Int:=a+(c.r-a).fmod c.m
def hiC(c:Cg)(a:Int):Int:=a-(a-c.r).fmod c.m
def fin3(x y:Option Int)(c:Cg):Vl:=match x,y with
 | some x,some y=>if y < x then Ev else if x=y then onev x else⟨⟨false,clip x,clip y⟩,c⟩
 | x,y=>⟨⟨false,x.bind clip,y.bind clip⟩,c⟩
def red(a:A)(c:Cg):Vl:=if a.em=true then Ev else if c.em=true then Ev else if c.m=0 then(if inS (ofA a) c.r=true then onev c.r else Ev)else fin3 (a.lo.map (loC c)) (a.hi.map (hiC c)) c
def inV(v:Vl)(z:Int):Bool:=inS (ofA v.a) z&&inC v.c z
structure WfV(v:Vl):Prop where
 a:Wf v.a
 c:WfC v.c
 red:red v.a v.c=v
theorem lo_m{c:Cg}(p:0 < c.m)(a:Int):a≤loC c a∧loC c a < a+c.m:=by
 have:=Int.fmod_nonneg_of_pos (c.r-a) p
 have:=Int.fmod_lt_of_pos (c.r-a) p
 unfold loC;omega
theorem hi_m{c:Cg}(p:0 < c.m)(a:Int):hiC c a≤a∧a-c.m < hiC c a:=by
 have:=Int.fmod_nonneg_of_pos (a-c.r) p
 have:=Int.fmod_lt_of_pos (a-c.r) p
 unfold hiC;omega
theorem afo{m a:Int}(p:0 < m):a.fmod m=0↔m∣a:=by
 rw[Int.fmod_eq_emod_of_nonneg _ (Int.le_of_lt p)]
 exact⟨Int.dvd_of_emod_eq_zero,Int.emod_eq_zero_of_dvd⟩
theorem wC{m:Int}(p:0 < m)(a:Int):m∣a-a.fmod m:=by
 rw[Int.fmod_eq_emod_of_nonneg _ (Int.le_of_lt p)]
 exact Int.dvd_self_sub_emod
theorem kR{c:Cg}(he:c.em=false)(hp:0≤c.m){z:Int}:inC c z=true↔c.m∣z-c.r:=by
 unfold inC dvd'
 rw[he]
 by_cases h:c.m=0
 ·rw[if_pos h,h];simp
 ·rw[if_neg h]
  simp only[Bool.not_false,Bool.true_and,decide_eq_true_eq]
  exact afo (by omega)
theorem afA{c:Cg}(p:0 < c.m)(a:Int):c.m∣loC c a-c.r:=by
 obtain⟨k,hk⟩:=wC p (c.r-a)
 exact⟨-k,by unfold loC;rw[Int.mul_neg,←hk];omega⟩
theorem afr{c:Cg}(p:0 < c.m)(a:Int):c.m∣hiC c a-c.r:=by
 obtain⟨k,hk⟩:=wC p (a-c.r)
 exact⟨k,by unfold hiC;rw[←hk];omega⟩
theorem aeK{c:Cg}(p:0 < c.m){a:Int}(h:c.m∣a-c.r):loC c a=a:=by
 have:(c.r-a).fmod c.m=0:=(afo p).2 (by have:=Int.dvd_neg.2 h;rwa [Int.neg_sub]at this)
 unfold loC;omega
theorem aeE{c:Cg}(p:0 < c.m){a:Int}(h:c.m∣a-c.r):hiC c a=a:=by
 have:(a-c.r).fmod c.m=0:=(afo p).2 h
 unfold hiC;omega
theorem adN{c:Cg}(p:0 < c.m){a z:Int}(h:c.m∣z-c.r)(hz:a≤z):loC c a≤z:=by
 have l:=afA p a
 have b:=lo_m p a
 obtain⟨k,hk⟩:=Int.dvd_sub h l
 have: -1 < k:=by
  by_cases q: -1 < k
  ·exact q
  ·have:=Int.mul_le_mul_of_nonneg_left (show k≤-1 by omega) (Int.le_of_lt p)
   omega
 have:=Int.mul_nonneg (Int.le_of_lt p) (show 0≤k by omega)
 omega
theorem afs{c:Cg}(p:0 < c.m){a z:Int}(h:c.m∣z-c.r)(hz:z≤a):z≤hiC c a:=by
 have l:=afr p a
 have b:=hi_m p a
 obtain⟨k,hk⟩:=Int.dvd_sub h l
 have:k < 1:=by
  by_cases q:k < 1
  ·exact q
  ·have:=Int.mul_le_mul_of_nonneg_left (show 1≤k by omega) (Int.le_of_lt p)
   omega
 have:=Int.mul_nonneg (Int.le_of_lt p) (show 0≤-k by omega)
 rw[Int.mul_neg]at this
 omega
theorem pO{z:Int}(h: -C < z∧z < C):clip z=some z:=if_pos h
theorem aaT{z:Int}(h:¬(-C < z∧z < C)):clip z=none:=if_neg h
theorem Wf.inS{a:A}(h:Wf a)(he:a.em=false){z:Int}(hz: -K < z∧z < K):inS (ofA a) z=true↔(∀ l,a.lo=some l→l≤z)∧∀ u,a.hi=some u→z≤u:=by
 unfold Go.N.inS ofA
 rw[he,if_neg (by simp)]
 simp only[Bool.and_eq_true,decide_eq_true_eq]
 cases a.lo with
 | none=>cases a.hi with
  | none=>simp[lox,hix,key];omega
  | some u=>simp[lox,hix,key];omega
 | some l=>cases a.hi with
  | none=>simp[lox,hix,key];omega
  | some u=>simp[lox,hix,key]
theorem acC{z:Int}(hz: -C < z∧z < C):Wf (onev z).a∧WfC (onev z).c:=by
 have hC:=C_gt
 exact⟨⟨fun h=>by simp[onev]at h,hz,hz,Int.le_refl _⟩,⟨by simp only[onev];omega,hz,by simp[onev],fun h=>absurd rfl h⟩⟩
theorem akd:Wf Ev.a∧WfC Ev.c:=⟨alP,zG⟩
theorem aib{z:Int}(hz: -C < z∧z < C):red (onev z).a (onev z).c=onev z:=by
 have h:inS (ofA (onev z).a) z=true:=by
  unfold inS ofA onev
  simp[lox,hix,key]
 unfold red
 rw[if_neg (by simp[onev]),if_neg (by simp[onev]),if_pos (by rfl)]
 exact if_pos h
theorem aku:red Ev.a Ev.c=Ev:=if_pos rfl
theorem aeS{z:Int}(hz: -C < z∧z < C):WfV (onev z):=⟨(acC hz).1,(acC hz).2,aib hz⟩
theorem Ev_V:WfV Ev:=⟨akd.1,akd.2,aku⟩
theorem akN{c:Cg}(hc:WfC c)(he:c.em=false)(hm:c.m≠0){x y:Option Int}(hx:∀ v,x=some v→c.m∣v-c.r)(hy:∀ v,y=some v→c.m∣v-c.r)(bd:∀ v u,x=some v→y=some u→v=u→-C < v∧v < C):WfV (fin3 x y c):=by
 have p:0 < c.m:=by have:=hc.pos;omega
 have key3:∀ u v:Option Int,(∀ z,u=some z→(-C < z∧z < C)∧c.m∣z-c.r)→(∀ z,v=some z→(-C < z∧z < C)∧c.m∣z-c.r)→(∀ z w,u=some z→v=some w→z < w)→WfV ⟨⟨false,u,v⟩,c⟩:=by
  intro u v hu hv huv
  refine⟨⟨fun h=>by simp at h,?_,?_,?_⟩,hc,?_⟩
  ·cases u with
   | none=>trivial
   | some z=>exact(hu z rfl).1
  ·cases v with
   | none=>trivial
   | some z=>exact(hv z rfl).1
  ·cases u with
   | none=>trivial
   | some z=>cases v with
    | none=>trivial
    | some w=>exact Int.le_of_lt (huv z w rfl rfl)
  ·unfold red
   rw[if_neg (by simp),if_neg (by simp[he]),if_neg hm]
   cases u with
   | none=>cases v with
    | none=>rfl
    | some w =>
     simp only[Option.map,aeE p (hv w rfl).2,fin3,Option.bind,pO (hv w rfl).1]
   | some z=>cases v with
    | none=>simp only[Option.map,aeK p (hu z rfl).2,fin3,Option.bind,pO (hu z rfl).1]
    | some w =>
     have:=huv z w rfl rfl
     simp only[Option.map,aeK p (hu z rfl).2,aeE p (hv w rfl).2,fin3,pO (hu z rfl).1,pO (hv w rfl).1]
     rw[if_neg (by omega),if_neg (by omega)]
 have cl:∀ z w,clip z=some w→w=z∧-C < z∧z < C:=by
  intro z w h
  unfold clip at h;split at h
  ·cases h;exact⟨rfl,by assumption⟩
  ·cases h
 cases x with
 | none=>cases y with
  | none=>exact key3 none none (fun z h=>by cases h) (fun z h=>by cases h) (fun z w h=>by cases h)
  | some w=>exact key3 none (clip w) (fun z h=>by cases h) (fun z h=>by obtain⟨rfl,h⟩:=cl _ _ h;exact⟨h,hy _ rfl⟩) (fun z w h=>by cases h)
 | some z=>cases y with
  | none=>exact key3 (clip z) none (fun z h=>by obtain⟨rfl,h⟩:=cl _ _ h;exact⟨h,hx _ rfl⟩) (fun z h=>by cases h) (fun z w _ h=>by cases h)
  | some w =>
   unfold fin3
   simp only
   by_cases h1:w < z
   ·rw[if_pos h1];exact Ev_V
   ·rw[if_neg h1]
    by_cases h2:z=w
    ·rw[if_pos h2];exact aeS (bd z w rfl rfl h2)
    ·rw[if_neg h2]
     exact key3 (clip z) (clip w) (fun z h=>by obtain⟨rfl,h⟩:=cl _ _ h;exact⟨h,hx _ rfl⟩) (fun z h=>by obtain⟨rfl,h⟩:=cl _ _ h;exact⟨h,hy _ rfl⟩) (fun u v hu hv=>by obtain⟨rfl,_⟩:=cl _ _ hu;obtain⟨rfl,_⟩:=cl _ _ hv;omega)
theorem afL{a:A}{c:Cg}(ha:Wf a)(hc:WfC c):WfV (red a c):=by
 unfold red
 by_cases e1:a.em=true
 ·rw[if_pos e1];exact Ev_V
 ·by_cases e2:c.em=true
  ·rw[if_neg e1,if_pos e2];exact Ev_V
  ·rw[if_neg e1,if_neg e2]
   by_cases z:c.m=0
   ·rw[if_pos z]
    split
    ·exact aeS hc.r
    ·exact Ev_V
   ·rw[if_neg z]
    have p:0 < c.m:=by have:=hc.pos;omega
    have e2:c.em=false:=by simpa using e2
    refine akN hc e2 z ?_ ?_ ?_
    ·intro v h
     cases hl:a.lo with
     | none=>rw[hl]at h;cases h
     | some l=>rw[hl]at h;cases h;exact afA p l
    ·intro v h
     cases hl:a.hi with
     | none=>rw[hl]at h;cases h
     | some l=>rw[hl]at h;cases h;exact afr p l
    ·intro v u h1 h2 h3
     have lk:=ha.lo
     have hk:=ha.hi
     cases hl:a.lo with
     | none=>rw[hl]at h1;cases h1
     | some l =>
      cases hh:a.hi with
      | none=>rw[hh]at h2;cases h2
      | some k =>
       rw[hl]at h1 lk;rw[hh]at h2 hk
       cases h1;cases h2
       have:=lo_m p l
       have:=hi_m p k
       simp only[okb]at lk hk
       omega
theorem aeV{a:A}{c:Cg}(ha:Wf a)(hc:WfC c){z:Int}(hz: -K < z∧z < K)(h1:inS (ofA a) z=true)(h2:inC c z=true):inV (red a c) z=true:=by
 have e1:a.em=false:=by rw[←zk ha];exact aaZ h1
 have e2:c.em=false:=by unfold inC at h2;revert h2;cases c.em<;>simp
 have d:=(kR e2 hc.pos).1 h2
 unfold red
 rw[if_neg (by simp[e1]),if_neg (by simp[e2])]
 by_cases m0:c.m=0
 ·rw[if_pos m0]
  rw[m0]at d
  have:z=c.r:=by have:=Int.zero_dvd.1 d;omega
  subst this
  rw[if_pos h1]
  unfold inV
  rw[(Wf.inS (acC hc.r).1 rfl hz).2 ⟨fun l h=>by cases h;exact Int.le_refl _,fun l h=>by cases h;exact Int.le_refl _⟩,Bool.true_and]
  exact(kR rfl (Int.le_refl _)).2 (by simp[onev])
 ·rw[if_neg m0]
  have p:0 < c.m:=by have:=hc.pos;omega
  obtain⟨k1,k2⟩:=(Wf.inS ha e1 hz).1 h1
  have g1:∀ v,a.lo.map (loC c)=some v→v≤z:=by
   intro v h
   cases hl:a.lo with
   | none=>rw[hl]at h;cases h
   | some l=>rw[hl]at h;cases h;exact adN p d (k1 l hl)
  have g2:∀ v,a.hi.map (hiC c)=some v→z≤v:=by
   intro v h
   cases hl:a.hi with
   | none=>rw[hl]at h;cases h
   | some l=>rw[hl]at h;cases h;exact afs p d (k2 l hl)
  have V:=afL ha hc
  unfold red at V
  rw[if_neg (by simp[e1]),if_neg (by simp[e2]),if_neg m0]at V
  revert V g1 g2
  generalize a.lo.map (loC c)=x
  generalize a.hi.map (hiC c)=y
  intro g1 g2 V
  have nb:∀ (z w:Int),clip z=some w→w=z:=by
   intro z w h
   unfold clip at h;split at h
   ·cases h;rfl
   ·cases h
  have fin:∀ u v:Option Int,Wf ⟨false,u,v⟩→(∀ l,u=some l→l≤z)→(∀ l,v=some l→z≤l)→inV ⟨⟨false,u,v⟩,c⟩ z=true:=by
   intro u v hw hu hv
   unfold inV
   rw[(Wf.inS hw rfl hz).2 ⟨hu,hv⟩,h2];rfl
  cases x with
  | none=>cases y with
   | none=>exact fin _ _ V.a (fun l h=>by cases h) (fun l h=>by cases h)
   | some w=>exact fin _ _ V.a (fun l h=>by cases h) (fun l h=>by rw[nb _ _ h];exact g2 _ rfl)
  | some v=>cases y with
   | none=>exact fin _ _ V.a (fun l h=>by rw[nb _ _ h];exact g1 _ rfl) (fun l h=>by cases h)
   | some w =>
    have:=g1 _ rfl
    have:=g2 _ rfl
    unfold fin3 at V⊢
    simp only at V⊢
    rw[if_neg (by omega)]at V⊢
    by_cases h3:v=w
    ·rw[if_pos h3]at V⊢
     obtain rfl:z=v:=by omega
     unfold inV
     rw[(Wf.inS V.a rfl hz).2 ⟨fun l h=>by cases h;exact Int.le_refl _,fun l h=>by cases h;exact Int.le_refl _⟩,Bool.true_and]
     exact(kR rfl (Int.le_refl _)).2 (by simp[onev])
    ·rw[if_neg h3]at V⊢
     exact fin _ _ V.a (fun l h=>by rw[nb _ _ h];exact g1 _ rfl) (fun l h=>by rw[nb _ _ h];exact g2 _ rfl)
end Go.N
namespace Go.N
open Go Go.Q Go.Rx
theorem vG{c:Cg}{z:Int}(h:inC c z=true):c.em=false:=by unfold inC at h;revert h;cases c.em<;>simp
theorem wI{c:Cg}(hc:WfC c){z:Int}(h:inC c z=true):c.m∣z-c.r:=(kR (vG h) hc.pos).1 h
theorem ahN(z:Int):inC topC z=true:=(kR rfl (by decide)).2 (Int.one_dvd _)
theorem aff(m r:Int):clsF m r=topC∨clsF m r=⟨false,(m.natAbs:Int),if m=0 then r else r.fmod (m.natAbs:Int)⟩:=by
 unfold clsF
 by_cases h:sz (m.natAbs:Int) > 100∨sz (if m=0 then r else r.fmod (m.natAbs:Int)) > 100
 ·exact .inl (if_pos h)
 ·exact .inr (if_neg h)
theorem ab8{m r z:Int}(h:m∣z-r):inC (clsF m r) z=true:=by
 rcases aff m r with e | e
 ·rw[e];exact ahN z
 ·rw[e]
  refine(kR rfl (Int.natCast_nonneg _)).2 ?_
  simp only
  by_cases h0:m=0
  ·subst h0
   simpa using h
  ·rw[if_neg h0]
   have d:=wC (show 0 < (m.natAbs:Int) by omega) r
   have h':(m.natAbs:Int)∣z-r:=Int.natAbs_dvd.2 h
   have:=Int.dvd_add h' d
   rwa [show z-r+(r-r.fmod (m.natAbs:Int))=z-r.fmod (m.natAbs:Int) by omega]at this
theorem ahI{c d:Cg}(hc:WfC c){z:Int}(h:inC c z=true):inC (joinC c d) z=true:=by
 unfold joinC
 rw[if_neg (by simp[vG h])]
 split
 ·exact h
 ·refine ab8 (Int.dvd_trans ?_ (wI hc h))
  exact Int.dvd_trans (Int.gcd_dvd_left _ _) (Int.gcd_dvd_left _ _)
theorem ahJ{c d:Cg}(hd:WfC d){z:Int}(h:inC d z=true):inC (joinC c d) z=true:=by
 unfold joinC
 split
 ·exact h
 ·rw[if_neg (by simp[vG h])]
  refine ab8 ?_
  have a:=Int.dvd_trans (Int.dvd_trans (Int.gcd_dvd_left (Int.gcd c.m d.m:Int) (c.r-d.r)) (Int.gcd_dvd_right _ _)) (wI hd h)
  have b:=Int.gcd_dvd_right (Int.gcd c.m d.m:Int) (c.r-d.r)
  have:=Int.dvd_sub a b
  rwa [show z-d.r-(c.r-d.r)=z-c.r by omega]at this
section
variable {c d:Cg}(hc:WfC c)(hd:WfC d){z w:Int}(hz:inC c z=true)(hw:inC d w=true)
include hc hd hz hw
end
theorem zi(m a:Int)(h:0≤m):dvd' m a=true↔m∣a:=by
 unfold dvd'
 by_cases h0:m=0
 ·rw[if_pos h0,h0];simp
 ·rw[if_neg h0,decide_eq_true_eq];exact afo (by omega)
theorem lg{c d:Cg}(hd:WfC d)(h1:c.em=false)(h2:d.em=false):iY c d=true↔d.m∣c.m∧d.m∣c.r-d.r:=by
 unfold iY
 rw[if_neg (by simp[h1]),if_neg (by simp[h2]),Bool.and_eq_true,zi _ _ hd.pos,zi _ _ hd.pos]
theorem aa6{c d:Cg}(hc:WfC c)(hd:WfC d)(h:iY c d=true){z:Int}(hz:inC c z=true):inC d z=true:=by
 have e:=vG hz
 have e2:d.em=false:=by
  unfold iY at h
  rw[if_neg (by simp[e])]at h
  revert h;cases d.em<;>simp
 obtain⟨a,b⟩:=(lg hd e e2).1 h
 refine(kR e2 hd.pos).2 ?_
 have:=Int.dvd_add (Int.dvd_trans a (wI hc hz)) b
 rwa [show z-c.r+(c.r-d.r)=z-d.r by omega]at this
theorem sU{c:Cg}(hc:WfC c):iY c c=true:=by
 cases e:c.em with
 | true=>unfold iY;rw[if_pos e]
 | false=>exact(lg hc e e).2 ⟨Int.dvd_refl _,by simp⟩
theorem aa5{c d:Cg}(h:c.em=true):iY c d=true:=if_pos h
theorem adH{c:Cg}(he:c.em=false){m r:Int}(h1:m∣c.m)(h2:m∣c.r-r):iY c (clsF m r)=true:=by
 have w:=y9 (m:=m) (r:=r)
 rcases aff m r with e | e
 ·rw[e];exact(lg aga he rfl).2 ⟨Int.one_dvd _,Int.one_dvd _⟩
 ·rw[e]at w⊢
  refine(lg w he rfl).2 ⟨Int.natAbs_dvd.2 h1,?_⟩
  simp only
  by_cases h0:m=0
  ·rw[if_pos h0];exact Int.natAbs_dvd.2 h2
  ·rw[if_neg h0]
   have d:=wC (show 0 < (m.natAbs:Int) by omega) r
   have:=Int.dvd_add (Int.natAbs_dvd.2 h2) d
   rwa [show c.r-r+(r-r.fmod (m.natAbs:Int))=c.r-r.fmod (m.natAbs:Int) by omega]at this
theorem ab9{c d:Cg}(hc:WfC c):iY c (joinC c d)=true:=by
 cases e:c.em with
 | true=>exact aa5 e
 | false =>
  unfold joinC
  rw[if_neg (by simp[e])]
  split
  ·exact sU hc
  ·exact adH e (Int.dvd_trans (Int.gcd_dvd_left _ _) (Int.gcd_dvd_left _ _)) (by simp)
theorem akC{c d:Cg}(h:cc c=cc d):c.em=d.em∧(c.em=false→c=d):=by
 unfold cc at h
 cases e1:c.em with
 | true=>cases e2:d.em with
  | true=>exact⟨rfl,nofun⟩
  | false=>rw[if_pos e1,if_neg (by simp[e2])]at h;have:=congrArg Prod.fst h;simp at this
 | false=>cases e2:d.em with
  | true=>rw[if_neg (by simp[e1]),if_pos e2]at h;have:=congrArg Prod.fst h;simp at this
  | false =>
   rw[if_neg (by simp[e1]),if_neg (by simp[e2])]at h
   simp only[Prod.mk.injEq]at h
   refine⟨rfl,fun _=>?_⟩
   have h1:=nP (zJ h.2.1)
   have h2:=nP (zJ h.2.2.1)
   cases c;cases d;simp_all
end Go.N
namespace Go.N
open Go Go.Q Go.Rx
noncomputable def metC (c d:Cg):Cg :=
 if c.em=true then Ec else if d.em=true then Ec
 else if c.m=0 then(if inC d c.r=true then c else Ec)
 else if d.m=0 then(if inC c d.r=true then d else Ec)
 else if dvd' (Int.gcd c.m d.m) (d.r-c.r)=true then clsF (c.m / (Int.gcd c.m d.m:Int)*d.m) (Classical.epsilon fun z=>c.m∣z-c.r∧d.m∣z-d.r)else Ec
theorem Cg.eta{c:Cg}(h:c.em=false):c=⟨false,c.m,c.r⟩:=by cases c;simp_all
theorem aaU{L u v:Int}(h:0 < L)(d:L∣u-v):clsF L u=clsF L v:=by
 have e:(L.natAbs:Int)=L:=by omega
 unfold clsF
 rw[if_neg (show L≠0 by omega),if_neg (show L≠0 by omega),e,agI h d]
theorem aaV{c:Cg}(hc:WfC c)(he:c.em=false){v:Int}(h:c.m≠0)(d:c.m∣v-c.r):clsF c.m v=c:=by
 have p:0 < c.m:=by have:=hc.pos;omega
 obtain⟨r0,r1⟩:=hc.rng h
 rw[aaU p d,vW hc.pos hc.m hc.r,if_neg h,Int.fmod_eq_emod_of_nonneg _ hc.pos,Int.emod_eq_of_lt r0 r1]
 exact(Cg.eta he).symm
theorem acw{c d:Cg}(ec:c.em=false)(ed:d.em=false)(pc:0 < c.m)(pd:0 < d.m){v:Int}(h1:c.m∣v-c.r)(h2:d.m∣v-d.r):metC c d=clsF (c.m / (Int.gcd c.m d.m:Int)*d.m) v:=by
 have g:dvd' (Int.gcd c.m d.m) (d.r-c.r)=true:=by
  refine(zi _ _ (Int.natCast_nonneg _)).2 ?_
  have:=Int.dvd_sub (Int.dvd_trans (Int.gcd_dvd_left c.m d.m) h1) (Int.dvd_trans (Int.gcd_dvd_right c.m d.m) h2)
  rwa [show v-c.r-(v-d.r)=d.r-c.r by omega]at this
 unfold metC
 rw[if_neg (by simp[ec]),if_neg (by simp[ed]),if_neg (by omega),if_neg (by omega),if_pos g]
 obtain⟨k1,k2⟩:=Classical.epsilon_spec (p:=fun z=>c.m∣z-c.r∧d.m∣z-d.r) ⟨v,h1,h2⟩
 refine aaU (lcm_pos pc pd) (lcm_dvd pc pd ?_ ?_)
 ·have:=Int.dvd_sub k1 h1
  rwa [show ∀ x:Int,x-c.r-(v-c.r)=x-v from fun x=>by omega]at this
 ·have:=Int.dvd_sub k2 h2
  rwa [show ∀ x:Int,x-d.r-(v-d.r)=x-v from fun x=>by omega]at this
theorem aad{a b:Int}(hb:0 < b)(h:b∣a):(Int.gcd a b:Int)=b:=by
 have:Int.gcd a b=b.natAbs:=by
  have:=Int.gcd_eq_right_iff_dvd (Int.le_of_lt hb) (a:=a)
  first
   | exact Int.ofNat.inj (by have:=this.2 h;rw[←Int.natAbs_of_nonneg (Int.le_of_lt hb)]at this;exact this)
   | omega
 omega
section
variable {c d:Cg}(hc:WfC c)(hd:WfC d)(ec:c.em=false)(ed:d.em=false)
include hc hd ec ed
theorem yL(h:iY c d=true):metC c d=c:=by
 obtain⟨a,b⟩:=(lg hd ec ed).1 h
 by_cases z:c.m=0
 ·unfold metC
  rw[if_neg (by simp[ec]),if_neg (by simp[ed]),if_pos z,if_pos ((kR ed hd.pos).2 b)]
 ·have pc:0 < c.m:=by have:=hc.pos;omega
  have pd:0 < d.m:=by
   have:=hd.pos
   by_cases e:d.m=0
   ·rw[e]at a;have:=Int.zero_dvd.1 a;omega
   ·omega
  rw[acw ec ed pc pd (v:=c.r) (by simp) b,aad pd a,Int.ediv_mul_cancel a]
  exact aaV hc ec z (by simp)
theorem adV(h:iY d c=true):metC c d=d:=by
 obtain⟨a,b⟩:=(lg hc ed ec).1 h
 by_cases z:c.m=0
 ·rw[z]at a b
  have k1:d.m=0:=Int.zero_dvd.1 a
  have k2:d.r=c.r:=by have:=Int.zero_dvd.1 b;omega
  have e:c=d:=by rw[Cg.eta ec,Cg.eta ed,z,k1,k2]
  subst e
  exact yL hc hd ec ed (sU hc)
 ·by_cases z':d.m=0
  ·unfold metC
   rw[if_neg (by simp[ec]),if_neg (by simp[ed]),if_neg z,if_pos z',if_pos ((kR ec hc.pos).2 b)]
  ·have pc:0 < c.m:=by have:=hc.pos;omega
   have pd:0 < d.m:=by have:=hd.pos;omega
   have g:(Int.gcd c.m d.m:Int)=c.m:=by rw[Int.gcd_comm];exact aad pc a
   rw[acw ec ed pc pd (v:=d.r) b (by simp),g,Int.ediv_self (by omega),Int.one_mul]
   exact aaV hd ed z' (by simp)
theorem ah0(h1:¬iY c d=true)(h2:¬iY d c=true)(h:c.m=0∨d.m=0∨dvd' (Int.gcd c.m d.m) (d.r-c.r)=false):metC c d=Ec:=by
 unfold metC
 rw[if_neg (by simp[ec]),if_neg (by simp[ed])]
 by_cases z:c.m=0
 ·rw[if_pos z,if_neg]
  intro x
  exact h1 ((lg hd ec ed).2 ⟨by rw[z];exact Int.dvd_zero _,(kR ed hd.pos).1 x⟩)
 ·rw[if_neg z]
  by_cases z':d.m=0
  ·rw[if_pos z',if_neg]
   intro x
   exact h2 ((lg hc ed ec).2 ⟨by rw[z'];exact Int.dvd_zero _,(kR ec hc.pos).1 x⟩)
  ·rw[if_neg z']
   rcases h with h | h | h
   ·exact absurd h z
   ·exact absurd h z'
   ·rw[h,if_neg (by simp)]
end
theorem acv{c d:Cg}(hc:WfC c)(hd:WfC d):WfC (metC c d):=by
 unfold metC;split;exact zG;split;exact zG;split
 ·split;exact hc;exact zG
 ·split
  ·split;exact hd;exact zG
  ·split;exact y9;exact zG
theorem akS{c d:Cg}(hc:WfC c)(hd:WfC d){z:Int}(h1:inC c z=true)(h2:inC d z=true):inC (metC c d) z=true:=by
 have ec:=vG h1
 have ed:=vG h2
 have d1:=wI hc h1
 have d2:=wI hd h2
 by_cases a:c.m=0
 ·rw[a]at d1
  have:z=c.r:=by have:=Int.zero_dvd.1 d1;omega
  subst this
  unfold metC
  rw[if_neg (by simp[ec]),if_neg (by simp[ed]),if_pos a,if_pos h2];exact h1
 ·by_cases b:d.m=0
  ·rw[b]at d2
   have:z=d.r:=by have:=Int.zero_dvd.1 d2;omega
   subst this
   unfold metC
   rw[if_neg (by simp[ec]),if_neg (by simp[ed]),if_neg a,if_pos b,if_pos h1];exact h2
  ·rw[acw ec ed (by have:=hc.pos;omega) (by have:=hd.pos;omega) d1 d2]
   exact ab8 (by simp)
end Go.N
namespace Go.N
open Go Go.Q Go.Rx
theorem afF{a b A B:Int}(ha: -A≤a∧a≤A)(hb: -B≤b∧b≤B): -(A*B)≤a*b∧a*b≤A*B:=by
 have h1:=Int.mul_nonneg (show 0≤A-a by omega) (show 0≤B+b by omega)
 have h2:=Int.mul_nonneg (show 0≤A+a by omega) (show 0≤B-b by omega)
 have h3:=Int.mul_nonneg (show 0≤A-a by omega) (show 0≤B-b by omega)
 have h4:=Int.mul_nonneg (show 0≤A+a by omega) (show 0≤B+b by omega)
 rw[Int.sub_mul,Int.mul_add,Int.mul_add]at h1
 rw[Int.add_mul,Int.mul_sub,Int.mul_sub]at h2
 rw[Int.sub_mul,Int.mul_sub,Int.mul_sub]at h3
 rw[Int.add_mul,Int.mul_add,Int.mul_add]at h4
 omega
set_option exponentiation.threshold 5000 in
theorem C4_K:C*(C+C)*C+C+10 < K∧C*(C+C)+10 < K:=by unfold C K;decide
theorem zW{a b:Int}(ha:0 < a):(Int.gcd a b:Int)*b.fdiv (Int.gcd a b:Int)=b∧b.fdiv (Int.gcd a b:Int)=b / (Int.gcd a b:Int)∧0 < (Int.gcd a b:Int):=by
 have gp:0 < (Int.gcd a b:Int):=by
  have:=Int.gcd_pos_of_ne_zero_left b (show a≠0 by omega)
  omega
 have e:b.fdiv (Int.gcd a b:Int)=b / (Int.gcd a b:Int):=Int.fdiv_eq_ediv_of_nonneg _ (Int.le_of_lt gp)
 exact⟨by rw[e];exact Int.mul_ediv_cancel' (Int.gcd_dvd_right _ _),e,gp⟩
section
variable (lf:Nat)(hb:Big lf){a b:Int}(ha:0 < a∧a < C)(hbb:0 < b∧b < C)
include hb ha hbb
end
section
variable (lf:Nat)(hb:Big lf){c d:Cg}(hc:WfC c)(hd:WfC d)
include hb hc hd
theorem ahZ(ec:c.em=false)(ed:d.em=false)(pc:0 < c.m)(pd:0 < d.m)(dv:dvd' (Int.gcd c.m d.m) (d.r-c.r)=true){U:Int}(h:d.m∣U*c.m-(Int.gcd c.m d.m:Int)):
  metC c d=clsF (c.m / (Int.gcd c.m d.m:Int)*d.m) (c.r+U*(d.r-c.r).fdiv (Int.gcd c.m d.m:Int)*c.m):=by
 obtain⟨_,_,gp⟩:=zW (b:=d.m) pc
 have dd:=(zi _ _ (Int.natCast_nonneg _)).1 dv
 have q:(d.r-c.r)=(Int.gcd c.m d.m:Int)*(d.r-c.r).fdiv (Int.gcd c.m d.m:Int):=by
  rw[Int.fdiv_eq_ediv_of_nonneg _ (Int.le_of_lt gp)];exact(Int.mul_ediv_cancel' dd).symm
 refine acw ec ed pc pd ?_ (crt gp pc pd (Int.gcd_dvd_left _ _) (Int.gcd_dvd_right _ _) h q)
 rw[show ∀ t:Int,c.r+t-c.r=t from fun t=>by omega]
 exact Int.dvd_mul_left _ _
theorem agW{U:Int}(u0:0≤U)(u1:U < C)(pc:0 < c.m)(pd:0 < d.m):
  (-K < (d.r-c.r).fdiv (Int.gcd c.m d.m:Int)∧(d.r-c.r).fdiv (Int.gcd c.m d.m:Int) < K)∧(-K < U*(d.r-c.r).fdiv (Int.gcd c.m d.m:Int)∧U*(d.r-c.r).fdiv (Int.gcd c.m d.m:Int) < K)∧
  (-K < U*(d.r-c.r).fdiv (Int.gcd c.m d.m:Int)*c.m∧U*(d.r-c.r).fdiv (Int.gcd c.m d.m:Int)*c.m < K)∧(-K < c.r+U*(d.r-c.r).fdiv (Int.gcd c.m d.m:Int)*c.m∧c.r+U*(d.r-c.r).fdiv (Int.gcd c.m d.m:Int)*c.m < K):=by
 obtain⟨k1,k2⟩:=C4_K
 have hC:=C_gt
 have hCK:=lM
 have hCC:=CC_K
 have h4:0≤C*C:=Int.mul_nonneg (by omega) (by omega)
 obtain⟨_,_,gp⟩:=zW (b:=d.m) pc
 have r1:=hc.r
 have r2:=hd.r
 have m1:=hc.m
 have e1:=adv (x:=d.r-c.r) (y:=(Int.gcd c.m d.m:Int)) (by omega)
 have e2:=afF (a:=U) (b:=(d.r-c.r).fdiv (Int.gcd c.m d.m:Int)) (A:=C) (B:=C+C) (by omega) (by omega)
 have e3:=afF (b:=c.m) (B:=C) e2 (by omega)
 refine⟨?_,?_,?_,?_⟩<;>omega
theorem akY:lF.f lf (cc c) (cc d)=some (cc (metC c d),0,()):=by
 obtain⟨b1,b2,b3,b4,b5,b6,b7,b8,b9,b10⟩:=bounds lf hb hc hd
 have hlf:=hb.1
 rw[lF.f,cboth lf hb hc hd,bdS]
 cases ec:c.em with
 | true =>
  have:metC c d=Ec:=by unfold metC;rw[if_pos ec]
  rw[this,qH ec];simp only[bne_self_eq_false,brF,brT,fC.f,bdS];rfl
 | false=>cases ed:d.em with
  | true =>
   have:metC c d=Ec:=by unfold metC;rw[if_neg (by simp[ec]),if_pos ed]
   rw[this,jC ec,qH ed];simp only[bne_self_eq_false,brF,brT,fC.f,bdS];rfl
  | false =>
   have e1:(cc c).1=false:=by rw[jC ec]
   have e2:(cc d).1=false:=by rw[jC ed]
   simp only[bne_self_eq_false,brF,e1,e2]
   rw[mY.f,adG lf hb hc hd,bdS]
   cases i1:iY c d with
   | true=>simp only[brT,bdS];rw[yL hc hd ec ed i1]
   | false =>
    simp only[brF,adG lf hb hd hc,bdS]
    cases i2:iY d c with
    | true=>simp only[brT,bdS];rw[adV hc hd ec ed i2]
    | false =>
     have k1:(cc d).2.1=bs (Lib.itoa d.m):=by rw[jC ed]
     have k2:(cc d).2.2.1=bs (Lib.itoa d.r):=by rw[jC ed]
     have k3:(cc c).2.1=bs (Lib.itoa c.m):=by rw[jC ec]
     have k4:(cc c).2.2.1=bs (Lib.itoa c.r):=by rw[jC ec]
     have r1:=hc.r
     have r2:=hd.r
     have hC:=C_gt
     have hCK:=lM
     have b5': -K < d.r-c.r∧d.r-c.r < K:=by omega
     have n:=ah0 hc hd ec ed (by simp[i1]) (by simp[i2])
     simp only[brF,k1,k2,k3,k4,aeu lf hb b1 b3,zQ lf hb b4 b2 b5',bdS,beq0,fC.f]
     by_cases z1:c.m=0
     ·rw[n (.inl z1),decide_eq_true z1,brT,bdS];rfl
     ·rw[decide_eq_false z1,brF]
      by_cases z2:d.m=0
      ·rw[n (.inr (.inl z2)),decide_eq_true z2,brT,bdS];rfl
      ·rw[decide_eq_false z2,brF,xM lf hlf (ab4 b1 b3) b5',bdS]
       simp only
       cases dv:dvd' (Int.gcd c.m d.m) (d.r-c.r)with
       | false=>rw[n (.inr (.inr dv))];simp only[Bool.not_false,brT,bdS];rfl
       | true =>
        have pc:0 < c.m:=by have:=hc.pos;omega
        have pd:0 < d.m:=by have:=hd.pos;omega
        obtain⟨_,_,gp⟩:=zW (b:=d.m) pc
        obtain⟨t1,t3,U,u1,u2,u3,u4⟩:=ahi lf hb ⟨pc,hc.m.2⟩ ⟨pd,hd.m.2⟩
        obtain⟨s1,s2,s3,s4⟩:=agW lf hb hc hd u2 u3 pc pd
        have lc: -K < c.m / (Int.gcd c.m d.m:Int)*d.m∧c.m / (Int.gcd c.m d.m:Int)*d.m < K:=by
         have h1:=lcm_pos pc pd
         have x:=Int.ediv_le_self (Int.gcd c.m d.m:Int) (Int.le_of_lt pc)
         have:=Int.mul_le_mul_of_nonneg_right x (Int.le_of_lt pd)
         omega
        simp only[Bool.not_true,brF,u1,bdS,ag2 lf hlf b5' (ab4 b1 b3) (by omega),fZ.f,ahn lf hb (x:=U) (y:=(d.r-c.r).fdiv (Int.gcd c.m d.m:Int)) (by omega) s1 s2,alA lf hb ⟨pc,hc.m.2⟩ ⟨pd,hd.m.2⟩,
         ahn lf hb s2 b1 s3,akB lf hb b2 s3 s4,afe lf hlf lc s4]
        rw[ahZ lf hb hc hd ec ed pc pd dv u4]
end
end Go.N
namespace Go.N
open Go Go.Q Go.Rx
theorem clipV(lf:Nat){o:Option Int}(h:okb K o):bF.f lf (ob o)=some (ob (o.bind clip),()):=by
 rw[bF.f]
 cases o with
 | none=>rw[show ob none=bs [] from rfl,nY,bdS,gU,show body []=[] from rfl,decide_eq_false (by simp),brF];rfl
 | some z =>
  have hl:=mr h
  rw[show ob (some z)=bs (Lib.itoa z) from rfl,nY,bdS,gU]
  have e:(((body (Lib.itoa z)).length:Nat):Int)=(sz z:Int):=rfl
  simp only[e,Option.bind]
  by_cases c: -C < z∧z < C
  ·have:=(sz_C z).2 c
   rw[decide_eq_false (by omega),brF,pO c];rfl
  ·have:¬sz z≤100:=fun x=>c ((sz_C z).1 x)
   rw[decide_eq_true (by omega),brT,aaT c];rfl
set_option exponentiation.threshold 5000 in
theorem akc:C+C < Dd:=by
 have e:(10 ^ 100+10 ^ 100:Nat) < 10 ^ 1000:=by
  have:(10:Nat) ^ 1000=10 ^ 100*10 ^ 900:=by rw[←Nat.pow_add]
  rw[this]
  have:(2:Nat) < 10 ^ 900:=Nat.lt_of_lt_of_le (show(2:Nat) < 10 ^ 1 by decide) (Nat.pow_le_pow_right (by decide) (by decide))
  have h:=Nat.mul_lt_mul_of_pos_left this (show 0 < 10 ^ 100 by exact Nat.pow_pos (by decide))
  omega
 unfold C Dd;exact Int.ofNat_lt.2 e
theorem evV:((((true,(⟨#[]⟩:ByteArray),(⟨#[]⟩:ByteArray),()),(true,(⟨#[]⟩:ByteArray),(⟨#[]⟩:ByteArray),()),()):VV))=vc Ev:=rfl
theorem onV(z:Int):(((false,bs (Lib.itoa z),bs (Lib.itoa z),()),(false,(⟨#[48]⟩:ByteArray),bs (Lib.itoa z),()),()):VV)=vc (onev z):=by
 rw[i0];unfold vc onev;rw[jC rfl];rfl
theorem abm(x:Int):((bs (Lib.itoa x)).toList==(⟨#[]⟩:ByteArray).toList)=false:=by
 have:=vK (some x)
 rw[show ob (some x)=bs (Lib.itoa x) from rfl]at this
 rw[this];exact decide_eq_false nofun
theorem ob_e:((ob none).toList==(⟨#[]⟩:ByteArray).toList)=true:=by rw[vK];rfl
theorem ajX(x y:Int):decide (sgn (x-y) > 0)=decide (y < x):=aiE x y
theorem alN(x y:Int):(sgn (x-y)==0)=decide (x=y):=by
 rw[Bool.eq_iff_iff,beq_iff_eq,decide_eq_true_eq]
 unfold sgn;(repeat' split)<;>omega
section
variable (lf:Nat)(hb:Big lf){a:A}{c:Cg}(ha:Wf a)(hc:WfC c)
include hb ha hc
theorem lo_K{l:Int}(h: -C < l∧l < C)(p:0 < c.m): -K < loC c l∧loC c l < K∧-Dd < loC c l∧loC c l < Dd:=by
 have:=lo_m p l
 have:=hc.m
 have:=C_gt
 have:=CC_K
 have hD:=DD_K
 have hCD:=lX
 have h4:C*2≤C*C:=Int.mul_le_mul_of_nonneg_left (by omega) (by omega)
 have h5:=akc
 have h6:=Dd_K
 omega
theorem hi_K{l:Int}(h: -C < l∧l < C)(p:0 < c.m): -K < hiC c l∧hiC c l < K∧-Dd < hiC c l∧hiC c l < Dd:=by
 have:=hi_m p l
 have:=hc.m
 have:=C_gt
 have h5:=akc
 have h6:=Dd_K
 omega
theorem acY:ja.f lf (ac a) (cc c)=some (vc (red a c),()):=by
 have hlf:=hb.1
 have h3:200000≤lf:=by omega
 have hCD:=lX
 rw[ja.f]
 simp only[show(ac a).1=a.em from rfl,show(ac a).2.1=ob a.lo from rfl,show(ac a).2.2.1=ob a.hi from rfl,jJ.f,bdS,evV,kU.f]
 unfold red
 cases ea:a.em with
 | true=>simp only[brT,if_true]
 | false =>
  cases ec:c.em with
  | true=>rw[qH ec];simp only[brT,brF,if_true,if_false,Bool.false_eq_true]
  | false =>
   have e1:(cc c).1=false:=by rw[jC ec]
   have e2:(cc c).2.1=bs (Lib.itoa c.m):=by rw[jC ec]
   have e3:(cc c).2.2.1=bs (Lib.itoa c.r):=by rw[jC ec]
   simp only[brF,if_false,Bool.false_eq_true,e1,e2,e3,beq0]
   by_cases m:c.m=0
   ·rw[decide_eq_true m,brT,if_pos m,adD lf h3 ha (CK hc.r),bdS]
    simp only
    cases hi:inS (ofA a) c.r with
    | true=>simp only[Bool.not_true,brF,if_true,onV]
    | false=>simp only[Bool.not_false,brT,if_false,Bool.false_eq_true]
   ·have p:0 < c.m:=by have:=hc.pos;omega
    rw[decide_eq_false m,brF,if_neg m]
    have kl:=ha.lo
    have kh:=ha.hi
    have L:=fun {l:Int} (h: -C < l∧l < C)=>ajs lf hb hc ec (a:=l) (by omega)
    have G':=fun {l:Int} (h: -C < l∧l < C)=>aeD lf hb hc ec (a:=l) (by omega)
    have ab:∀ l,aboveC c l=some (loC c l):=fun l=>if_neg m
    have be:∀ l,belowC c l=some (hiC c l):=fun l=>if_neg m
    have cN:=clipV lf (o:=none) trivial
    cases hl:a.lo with
    | none=>cases hh:a.hi with
     | none=>simp only[ob_e,Bool.not_true,brF,cN,bdS,Option.map,fin3];rfl
     | some u =>
      rw[hh]at kh
      have g:=G' kh
      rw[be]at g
      have kk:=hi_K lf hb ha hc kh p
      have cU:=clipV lf (o:=some (hiC c u)) ⟨kk.1,kk.2.1⟩
      simp only[show ob (some u)=bs (Lib.itoa u) from rfl,show ob (some (hiC c u))=bs (Lib.itoa (hiC c u)) from rfl]at *
      simp only[ob_e,abm,Bool.not_true,Bool.not_false,brF,brT,g,cN,cU,bdS,Option.map,fin3];rfl
    | some l =>
     rw[hl]at kl
     have g:=L kl
     rw[ab]at g
     have kk:=lo_K lf hb ha hc kl p
     have cL:=clipV lf (o:=some (loC c l)) ⟨kk.1,kk.2.1⟩
     cases hh:a.hi with
     | none =>
      simp only[show ob (some l)=bs (Lib.itoa l) from rfl,show ob (some (loC c l))=bs (Lib.itoa (loC c l)) from rfl]at *
      simp only[ob_e,abm,Bool.not_true,Bool.not_false,brF,brT,g,cN,cL,bdS,Option.map,fin3];rfl
     | some u =>
      rw[hh]at kh
      have g2:=G' kh
      rw[be]at g2
      have kk2:=hi_K lf hb ha hc kh p
      have cU:=clipV lf (o:=some (hiC c u)) ⟨kk2.1,kk2.2.1⟩
      have cm:=xI lf _ _ (chkK ⟨kk.1,kk.2.1⟩) (chkK ⟨kk2.1,kk2.2.1⟩) h3
      rw[dN,dN]at cm
      simp only[show ob (some l)=bs (Lib.itoa l) from rfl,show ob (some (loC c l))=bs (Lib.itoa (loC c l)) from rfl,show ob (some u)=bs (Lib.itoa u) from rfl,show ob (some (hiC c u))=bs (Lib.itoa (hiC c u)) from rfl]at *
      simp only[ob_e,abm,Bool.not_true,Bool.not_false,brF,brT,g,g2,cm,bdS,ajX,alN,Option.map,fin3]
      by_cases h1:hiC c u < loC c l
      ·rw[decide_eq_true h1,brT,if_pos h1]
      ·rw[decide_eq_false h1,brF,if_neg h1]
       by_cases h2:loC c l=hiC c u
       ·rw[decide_eq_true h2,brT,if_pos h2,onV]
       ·rw[decide_eq_false h2,brF,if_neg h2,cL,bdS,cU,bdS];rfl
theorem aip:dw.f lf (ac a) (cc c)=some (vc (red a c),()):=by
 have hlf:=hb.1
 have h3:200000≤lf:=by omega
 have hCD:=lX
 rw[dw.f]
 simp only[show(ac a).1=a.em from rfl,show(ac a).2.1=ob a.lo from rfl,show(ac a).2.2.1=ob a.hi from rfl,dG.f,ig.f,kK.f,bdS,evV]
 unfold red
 cases ea:a.em with
 | true=>simp only[brT,if_true]
 | false =>
  cases ec:c.em with
  | true=>rw[qH ec];simp only[brT,brF,if_true,if_false,Bool.false_eq_true]
  | false =>
   have e1:(cc c).1=false:=by rw[jC ec]
   have e2:(cc c).2.1=bs (Lib.itoa c.m):=by rw[jC ec]
   have e3:(cc c).2.2.1=bs (Lib.itoa c.r):=by rw[jC ec]
   simp only[brF,if_false,Bool.false_eq_true,e1,e2,e3,beq0]
   by_cases m:c.m=0
   ·rw[decide_eq_true m,brT,if_pos m,ahM lf h3 ha (CK hc.r),bdS]
    simp only
    cases hi:inS (ofA a) c.r with
    | true =>
     simp only[Bool.not_true,brF,if_true,←onV]
     rw[jC ec,m,i0]
    | false=>simp only[Bool.not_false,brT,if_false,Bool.false_eq_true]
   ·have p:0 < c.m:=by have:=hc.pos;omega
    rw[decide_eq_false m,brF,if_neg m]
    have kl:=ha.lo
    have kh:=ha.hi
    have L:=fun {l:Int} (h: -C < l∧l < C)=>ae8 lf hb hc ec (a:=l) (by omega)
    have G':=fun {l:Int} (h: -C < l∧l < C)=>ajb lf hb hc ec (a:=l) (by omega)
    have ab:∀ l,aboveC c l=some (loC c l):=fun l=>if_neg m
    have be:∀ l,belowC c l=some (hiC c l):=fun l=>if_neg m
    have toL:∀ x y:Option Int,okb K x→okb K y→gt? x y=false→toA ⟨lox x,hix y⟩=⟨false,x.bind clip,y.bind clip⟩:=by
     intro x y hx hy h
     unfold toA;rw[ahw hx hy,h,if_neg (by simp),aiV,aiU]
    cases hl:a.lo with
    | none=>cases hh:a.hi with
     | none =>
      simp only[ob_e,Bool.not_true,brF,wP lf h3 none none trivial trivial,toL none none trivial trivial rfl,bdS,Option.map,fin3];rfl
     | some u =>
      rw[hh]at kh
      have g:=G' kh
      rw[be]at g
      have kk:=hi_K lf hb ha hc kh p
      have rg:=wP lf h3 none (some (hiC c u)) trivial ⟨kk.1,kk.2.1⟩
      rw[toL none (some (hiC c u)) trivial ⟨kk.1,kk.2.1⟩ rfl]at rg
      simp only[show ob (some u)=bs (Lib.itoa u) from rfl,show ob (some (hiC c u))=bs (Lib.itoa (hiC c u)) from rfl]at *
      simp only[ob_e,abm,Bool.not_true,Bool.not_false,brF,brT,g,rg,bdS,Option.map,fin3];rfl
    | some l =>
     rw[hl]at kl
     have g:=L kl
     rw[ab]at g
     have kk:=lo_K lf hb ha hc kl p
     cases hh:a.hi with
     | none =>
      have rg:=wP lf h3 (some (loC c l)) none ⟨kk.1,kk.2.1⟩ trivial
      rw[toL (some (loC c l)) none ⟨kk.1,kk.2.1⟩ trivial rfl]at rg
      simp only[show ob (some l)=bs (Lib.itoa l) from rfl,show ob (some (loC c l))=bs (Lib.itoa (loC c l)) from rfl]at *
      simp only[ob_e,abm,Bool.not_true,Bool.not_false,brF,brT,g,rg,bdS,Option.map,fin3];rfl
     | some u =>
      rw[hh]at kh
      have g2:=G' kh
      rw[be]at g2
      have kk2:=hi_K lf hb ha hc kh p
      have ls:=lessI lf h3 (x:=hiC c u) (y:=loC c l) ⟨kk2.1,kk2.2.1⟩ ⟨kk.1,kk.2.1⟩
      have rg:=wP lf h3 (some (loC c l)) (some (hiC c u)) ⟨kk.1,kk.2.1⟩ ⟨kk2.1,kk2.2.1⟩
      have T:=toL (some (loC c l)) (some (hiC c u)) ⟨kk.1,kk.2.1⟩ ⟨kk2.1,kk2.2.1⟩
      simp only[show ob (some l)=bs (Lib.itoa l) from rfl,show ob (some (loC c l))=bs (Lib.itoa (loC c l)) from rfl,show ob (some u)=bs (Lib.itoa u) from rfl,show ob (some (hiC c u))=bs (Lib.itoa (hiC c u)) from rfl]at *
      have eqt:((bs (Lib.itoa (loC c l))).toList==(bs (Lib.itoa (hiC c u))).toList)=decide (loC c l=hiC c u):=by
       rw[kX];simp only[decide_eq_decide];exact⟨nP,fun e=>by rw[e]⟩
      simp only[ob_e,abm,Bool.not_true,Bool.not_false,brF,brT,g,g2,ls,bdS,eqt,Option.map,fin3]
      by_cases h1:hiC c u < loC c l
      ·rw[decide_eq_true h1,brT,if_pos h1]
      ·rw[decide_eq_false h1,brF,if_neg h1]
       by_cases h2:loC c l=hiC c u
       ·have kC: -C < loC c l∧loC c l < C:=by
         have:=lo_m p l
         have:=hi_m p u
         simp only[okb]at kl kh
         omega
        have hC:=C_gt
        have hCK:=lM
        rw[decide_eq_true h2,brT,if_pos h2,dm.f,jh.f,i0,xG lf h3 (m:=0) (by omega) (CK kC),bdS,bdS]
        simp only
        rw[vW (Int.le_refl 0) (by omega) kC,if_pos rfl,jC rfl]
        simp only[←i0,BEq.rfl,Bool.not_true,brF,bdS]
        rw[onV]
       ·rw[decide_eq_false h2,brF,if_neg h2,rg,T (by unfold gt?;simp;omega),bdS];rfl
end
end Go.N
namespace Go.N
open Go Go.Q Go.Rx
section
variable (lf:Nat)(h3:200000≤lf)
include h3
end
theorem ajF{s:Sp}(h:oks C s):oks C (negS s):=pR h ⟨trivial,zq (by decide) (by decide)⟩
theorem akb{s:Sp}(h:oks C s):oks C (zerS s):=pR h ⟨zq (by decide) (by decide),zq (by decide) (by decide)⟩
section
variable (lf:Nat)(h3:200000≤lf)
include h3
end
end Go.N
namespace Go.N
open Go Go.Q Go.Rx
theorem ak5(x:X):sg (xneg x)= -sg x:=by
 cases x with
 | ni=>rfl
 | pi=>rfl
 | fin z=>simp only[xneg,sg,sgn];(repeat' split)<;>omega
theorem lI(x y:X):xmul x y=xmul y x:=by
 unfold xmul
 rw[Int.mul_comm (sg y) (sg x)]
 split
 ·rfl
 ·cases x<;>cases y<;>simp only[Int.mul_comm]
theorem ai2(x y:X):xmul (xneg x) y=xneg (xmul x y):=by
 unfold xmul
 rw[ak5,Int.neg_mul]
 have a:=sg3 x
 have b:=sg3 y
 by_cases h:sg x*sg y=0
 ·rw[h,if_pos (by decide),if_pos rfl];rfl
 ·rw[if_neg (by omega),if_neg h]
  have one:sg x*sg y=1∨sg x*sg y= -1:=by
   rcases a with a | a | a<;>rcases b with b | b | b<;>rw[a,b]at h⊢<;>simp at h⊢
  cases x<;>cases y<;>simp only[xneg,Int.neg_mul]<;>rcases one with o | o<;>rw[o]<;>rfl
theorem abI(x y:X):xmul x (xneg y)=xneg (xmul x y):=by rw[lI,ai2,lI]
theorem vI{x y:X}:(key (xmul x y) < 0↔sg x*sg y < 0)∧(key (xmul x y)=0↔sg x*sg y=0):=by
 have hK:=K_gt
 have a:=sg3 x
 have b:=sg3 y
 unfold xmul
 by_cases h:sg x*sg y=0
 ·rw[if_pos h,h];simp[key]
 ·rw[if_neg h]
  have one:sg x*sg y=1∨sg x*sg y= -1:=by
   rcases a with a | a | a<;>rcases b with b | b | b<;>rw[a,b]at h⊢<;>simp at h⊢
  have inf:(key (if sg x*sg y=1 then X.pi else X.ni) < 0↔sg x*sg y < 0)∧(key (if sg x*sg y=1 then X.pi else X.ni)=0↔sg x*sg y=0):=by
   rcases one with o | o<;>rw[o]
   ·rw[if_pos rfl,show key X.pi=K from rfl];omega
   ·rw[if_neg (by decide),show key X.ni= -K from rfl];omega
  cases x with
  | fin u=>cases y with
   | fin v =>
    simp only[key]
    have ku:=ug (.fin u)
    have kv:=ug (.fin v)
    simp only[key]at ku kv
    rcases a with a | a | a<;>rcases b with b | b | b<;>rw[a,b]at h⊢<;>simp at h⊢
    ·have:=Int.mul_pos_of_neg_of_neg (show u < 0 by omega) (show v < 0 by omega);omega
    ·have:=Int.mul_neg_of_neg_of_pos (show u < 0 by omega) (show 0 < v by omega);omega
    ·have:=Int.mul_neg_of_pos_of_neg (show 0 < u by omega) (show v < 0 by omega);omega
    ·have:=Int.mul_pos (show 0 < u by omega) (show 0 < v by omega);omega
   | ni=>exact inf
   | pi=>exact inf
  | ni=>exact inf
  | pi=>exact inf
theorem agj{a b:Int}:xmul (.fin a) (.fin b)=.fin (a*b):=by
 unfold xmul
 split
 ·rename_i h
  have:=(vI (x:=.fin a) (y:=.fin b)).2
  have ka:=ug (.fin a)
  have kb:=ug (.fin b)
  simp only[key]at ka kb
  rcases Int.mul_eq_zero.1 h with z | z
  ·rw[ka.2.1.1 z,Int.zero_mul]
  ·rw[kb.2.1.1 z,Int.mul_zero]
 ·rfl
theorem nK{x x' y:X}(hx:okx Dd x)(hx':okx Dd x')(hy:okx Dd y)(h:key x≤key x')(h0:0≤key y):key (xmul x y)≤key (xmul x' y):=by
 have hK:=K_gt
 have hC:=Dd_K
 have k1:=acg (aek hx hy)
 have k2:=acg (aek hx' hy)
 have s1:=vI (x:=x) (y:=y)
 have s2:=vI (x:=x') (y:=y)
 have gx:=ug x
 have gx':=ug x'
 have gy:=ug y
 have a:=sg3 x
 have a':=sg3 x'
 have b:=sg3 y
 have inf:∀ {u v:X},(u=.ni∨u=.pi∨v=.ni∨v=.pi)→key (xmul u v)=sg u*sg v*K:=by
  intro u v hu
  have c:=sg3 u
  have d:=sg3 v
  unfold xmul
  by_cases hz:sg u*sg v=0
  ·rw[if_pos hz,hz];simp[key]
  ·rw[if_neg hz]
   have one:sg u*sg v=1∨sg u*sg v= -1:=by
    rcases c with c | c | c<;>rcases d with d | d | d<;>rw[c,d]at hz⊢<;>simp at hz⊢
   have f:key (if sg u*sg v=1 then X.pi else X.ni)=sg u*sg v*K:=by
    rcases one with o | o<;>rw[o]
    ·rw[if_pos rfl,show key X.pi=K from rfl];omega
    ·rw[if_neg (by decide),show key X.ni= -K from rfl];omega
   rcases hu with rfl | rfl | rfl | rfl
   ·exact f
   ·exact f
   ·cases u<;>exact f
   ·cases u<;>exact f
 by_cases y0:key y=0
 ·have:sg y=0:=by omega
  have e1:key (xmul x y)=0:=s1.2.2 (by rw[this,Int.mul_zero])
  have e2:key (xmul x' y)=0:=s2.2.2 (by rw[this,Int.mul_zero])
  omega
 have y1:sg y=1:=by omega
 rw[y1,Int.mul_one]at s1 s2
 cases y with
 | ni=>simp only[key]at h0;omega
 | pi =>
  rw[inf (.inr (.inr (.inr rfl))),inf (.inr (.inr (.inr rfl))),y1,Int.mul_one,Int.mul_one]
  exact Int.mul_le_mul_of_nonneg_right (by omega) (by omega)
 | fin v =>
  cases x with
  | ni =>
   rw[inf (.inl rfl),y1,Int.mul_one,show sg X.ni= -1 from rfl];omega
  | pi =>
   cases x' with
   | pi=>exact Int.le_refl _
   | ni=>simp only[key]at h;omega
   | fin w=>simp only[key,okx]at h hx';omega
  | fin u=>cases x' with
   | pi =>
    rw[inf (u:=X.pi) (.inr (.inl rfl)),y1,Int.mul_one,show sg X.pi=1 from rfl];omega
   | ni=>simp only[key,okx]at h hx;omega
   | fin w =>
    rw[agj,agj]
    simp only[key]at h h0⊢
    exact Int.mul_le_mul_of_nonneg_right h h0
theorem oJ{x x' y:X}(hx:okx Dd x)(hx':okx Dd x')(hy:okx Dd y)(h:key x≤key x')(h0:key y≤0):key (xmul x' y)≤key (xmul x y):=by
 have:=nK hx hx' (aj9 hy) h (by rw[aah];omega)
 rw[abI,abI,aah,aah]at this
 omega
def El(s:Sp)(x:X):Prop:=okx Dd x∧key s.lo≤key x∧key x≤key s.hi
theorem aaM{s:Sp}(hs:oks C s)(he:emp s=false):El s s.lo:=⟨hs.1.D,Int.le_refl _,by have:=of_decide_eq_false he;omega⟩
theorem aaL{s:Sp}(hs:oks C s)(he:emp s=false):El s s.hi:=⟨hs.2.D,by have:=of_decide_eq_false he;omega,Int.le_refl _⟩
theorem corner{s t:Sp}(hs:oks C s)(ht:oks C t){x y:X}(hx:El s x)(hy:El t y):
  (∃ cx cy,(cx=s.lo∨cx=s.hi)∧(cy=t.lo∨cy=t.hi)∧key (xmul cx cy)≤key (xmul x y))∧(∃ cx cy,(cx=s.lo∨cx=s.hi)∧(cy=t.lo∨cy=t.hi)∧key (xmul x y)≤key (xmul cx cy)):=by
 have one:∀ {s:Sp} {x y:X},oks C s→El s x→okx Dd y→(∃ cx,(cx=s.lo∨cx=s.hi)∧key (xmul cx y)≤key (xmul x y))∧(∃ cx,(cx=s.lo∨cx=s.hi)∧key (xmul x y)≤key (xmul cx y)):=by
  intro s x y hs hx hy
  by_cases h:0≤key y
  ·exact⟨⟨_,.inl rfl,nK hs.1.D hx.1 hy hx.2.1 h⟩,⟨_,.inr rfl,nK hx.1 hs.2.D hy hx.2.2 h⟩⟩
  ·exact⟨⟨_,.inr rfl,oJ hx.1 hs.2.D hy hx.2.2 (by omega)⟩,⟨_,.inl rfl,oJ hs.1.D hx.1 hy hx.2.1 (by omega)⟩⟩
 obtain⟨⟨cx,c1,c2⟩,⟨dx,d1,d2⟩⟩:=one hs hx hy.1
 have okc:∀ {c:X},(c=s.lo∨c=s.hi)→okx Dd c:=fun h=>by rcases h with rfl | rfl;exact hs.1.D;exact hs.2.D
 obtain⟨⟨cy,e1,e2⟩,_⟩:=one ht hy (okc c1)
 obtain⟨_,⟨dy,f1,f2⟩⟩:=one ht hy (okc d1)
 rw[lI cy,lI y]at e2
 rw[lI dy,lI y]at f2
 exact⟨⟨cx,cy,c1,e1,by omega⟩,⟨dx,dy,d1,f1,by omega⟩⟩
theorem ac2(x y:X):xmin x y=x∨xmin x y=y:=by unfold xmin;split;exact .inr rfl;exact .inl rfl
theorem ac1(x y:X):xmax x y=x∨xmax x y=y:=by unfold xmax;split;exact .inr rfl;exact .inl rfl
theorem ac5{o:X→X→X}{s t:Sp}(hs:emp s=false)(ht:emp t=false):
  ((∃ x y,(x=s.lo∨x=s.hi)∧(y=t.lo∨y=t.hi)∧(apS o s t).lo=o x y)∧(∀ x y,(x=s.lo∨x=s.hi)→(y=t.lo∨y=t.hi)→key (apS o s t).lo≤key (o x y)))∧
  ((∃ x y,(x=s.lo∨x=s.hi)∧(y=t.lo∨y=t.hi)∧(apS o s t).hi=o x y)∧(∀ x y,(x=s.lo∨x=s.hi)→(y=t.lo∨y=t.hi)→key (o x y)≤key (apS o s t).hi)):=by
 have e:apS o s t=⟨xmin (xmin (xmin (o s.lo t.lo) (o s.lo t.hi)) (o s.hi t.lo)) (o s.hi t.hi),xmax (xmax (xmax (o s.lo t.lo) (o s.lo t.hi)) (o s.hi t.lo)) (o s.hi t.hi)⟩:=by
  unfold apS
  rw[if_neg (by simp[hs]),if_neg (by simp[ht]),ah4,hullNE (uD _) (uD _)]
  have e1:=uD (o s.lo t.lo)
  have e2:=uD (o s.lo t.hi)
  have e3:=uD (o s.hi t.lo)
  have e4:=uD (o s.hi t.hi)
  have n1:=adE e1 e2
  rw[hullNE e1 e2]at n1
  rw[hullNE n1 e3]
  have n2:=adE n1 e3
  rw[hullNE n1 e3]at n2
  rw[hullNE n2 e4]
  rfl
 rw[e]
 refine⟨⟨?_,?_⟩,⟨?_,?_⟩⟩
 ·simp only
  rcases ac2 (xmin (xmin (o s.lo t.lo) (o s.lo t.hi)) (o s.hi t.lo)) (o s.hi t.hi)with h | h<;>rw[h]
  ·rcases ac2 (xmin (o s.lo t.lo) (o s.lo t.hi)) (o s.hi t.lo)with h | h<;>rw[h]
   ·rcases ac2 (o s.lo t.lo) (o s.lo t.hi)with h | h<;>rw[h]
    ·exact⟨_,_,.inl rfl,.inl rfl,rfl⟩
    ·exact⟨_,_,.inl rfl,.inr rfl,rfl⟩
   ·exact⟨_,_,.inr rfl,.inl rfl,rfl⟩
  ·exact⟨_,_,.inr rfl,.inr rfl,rfl⟩
 ·intro x y hx hy
  simp only[oL]
  rcases hx with rfl | rfl<;>rcases hy with rfl | rfl<;>omega
 ·simp only
  rcases ac1 (xmax (xmax (o s.lo t.lo) (o s.lo t.hi)) (o s.hi t.lo)) (o s.hi t.hi)with h | h<;>rw[h]
  ·rcases ac1 (xmax (o s.lo t.lo) (o s.lo t.hi)) (o s.hi t.lo)with h | h<;>rw[h]
   ·rcases ac1 (o s.lo t.lo) (o s.lo t.hi)with h | h<;>rw[h]
    ·exact⟨_,_,.inl rfl,.inl rfl,rfl⟩
    ·exact⟨_,_,.inl rfl,.inr rfl,rfl⟩
   ·exact⟨_,_,.inr rfl,.inl rfl,rfl⟩
  ·exact⟨_,_,.inr rfl,.inr rfl,rfl⟩
 ·intro x y hx hy
  simp only[oK]
  rcases hx with rfl | rfl<;>rcases hy with rfl | rfl<;>omega
end Go.N
namespace Go.N
open Go Go.Q Go.Rx
def pt(i:Nat)(s:Sp):Sp:=if i=0 then negS s else if i=1 then zerS s else posS s
def Qp(i k:Nat)(p q:Sp):Sp:=if i=1∨k=1 then⟨.fin 0,.fin 0⟩else if i=0 then(if k=0 then⟨xmul p.hi q.hi,xmul p.lo q.lo⟩else⟨xmul p.lo q.hi,xmul p.hi q.lo⟩)else(if k=0 then⟨xmul p.hi q.lo,xmul p.lo q.hi⟩else⟨xmul p.lo q.lo,xmul p.hi q.hi⟩)
theorem yP{s:Sp}(h:oks C s)(i:Nat):oks C (pt i s):=by
 unfold pt;split
 ·exact ajF h
 ·split
  ·exact akb h
  ·exact ajP h
theorem i3{i:Nat}(h:i < 3):i=0∨i=1∨i=2:=by omega
theorem acD{s:Sp}(h:oks C s):(key (negS s).lo=key s.lo∧key (negS s).hi=min (key s.hi) (-1))∧(key (zerS s).lo=max (key s.lo) 0∧key (zerS s).hi=min (key s.hi) 0)∧(key (posS s).lo=max (key s.lo) 1∧key (posS s).hi=key s.hi):=by
 have a:=acg h.K.1
 have b:=acg h.K.2
 have h1:key (negS s).lo=max (key s.lo) (-K):=oK s.lo .ni
 have h2:key (negS s).hi=min (key s.hi) (-1):=oL s.hi (.fin (-1))
 have h3:key (zerS s).lo=max (key s.lo) 0:=oK s.lo (.fin 0)
 have h4:key (zerS s).hi=min (key s.hi) 0:=oL s.hi (.fin 0)
 have h5:key (posS s).lo=max (key s.lo) 1:=oK s.lo (.fin 1)
 have h6:key (posS s).hi=min (key s.hi) K:=oL s.hi .pi
 omega
theorem abK{s:Sp}(hs:oks C s){i:Nat}{x:X}(h:El (pt i s) x):El s x:=by
 have k:=acD hs
 obtain⟨h1,h2,h3⟩:=h
 refine⟨h1,?_,?_⟩<;>unfold pt at h2 h3<;>split at h2<;>(try split at h2)<;>simp_all<;>omega
theorem aaN{s:Sp}{x:X}(h:El s x):emp s=false:=decide_eq_false (by have:=h.2;omega)
theorem yZ{s:Sp}(hs:oks C s){x:X}:(El (pt 0 s) x→key x≤-1)∧(El (pt 1 s) x→key x=0)∧(El (pt 2 s) x→1≤key x):=by
 have k:=acD hs
 refine⟨fun h=>?_,fun h=>?_,fun h=>?_⟩
 ·have:=h.2.2;simp only[pt,if_true]at this;omega
 ·have a:=h.2.1
  have b:=h.2.2
  simp only[pt,Nat.one_ne_zero,if_true,if_false]at a b;omega
 ·have:=h.2.1
  simp only[pt,show ¬(2=0) by omega,show ¬(2=1) by omega,if_false]at this;omega
theorem cls{s:Sp}(hs:oks C s){x:X}(h:El s x):∃ i,i < 3∧El (pt i s) x:=by
 have k:=acD hs
 obtain⟨h1,h2,h3⟩:=h
 rcases Int.lt_trichotomy (key x) 0 with z | z | z
 ·exact⟨0,by omega,h1,by simp only[pt,if_true];omega,by simp only[pt,if_true];omega⟩
 ·exact⟨1,by omega,h1,by simp only[pt,Nat.one_ne_zero,if_true,if_false];omega,by simp only[pt,Nat.one_ne_zero,if_true,if_false];omega⟩
 ·exact⟨2,by omega,h1,by simp only[pt,show ¬(2=0) by omega,show ¬(2=1) by omega,if_false];omega,by simp only[pt,show ¬(2=0) by omega,show ¬(2=1) by omega,if_false];omega⟩
theorem sg0{x:X}(h:key x=0):sg x=0:=(ug x).2.1.2 h
theorem wK{x y:X}(h:key x=0∨key y=0):xmul x y=.fin 0:=by
 unfold xmul
 rw[if_pos]
 rcases h with h | h
 ·rw[sg0 h,Int.zero_mul]
 ·rw[sg0 h,Int.mul_zero]
theorem upr{x y y':X}(hx:okx Dd x)(hy:okx Dd y)(hy':okx Dd y')(h:key y≤key y')(h0:0≤key x):key (xmul x y)≤key (xmul x y'):=by rw[lI x y,lI x y'];exact nK hy hy' hx h h0
theorem dnr{x y y':X}(hx:okx Dd x)(hy:okx Dd y)(hy':okx Dd y')(h:key y≤key y')(h0:key x≤0):key (xmul x y')≤key (xmul x y):=by rw[lI x y,lI x y'];exact oJ hy hy' hx h h0
theorem akf{s t:Sp}(hs:oks C s)(ht:oks C t){i k:Nat}(hi:i < 3)(hk:k < 3){x y:X}(hx:El (pt i s) x)(hy:El (pt k t) y):
  key (Qp i k (pt i s) (pt k t)).lo≤key (xmul x y)∧key (xmul x y)≤key (Qp i k (pt i s) (pt k t)).hi:=by
 have ps:=yP hs i
 have qs:=yP ht k
 have pe:=aaN hx
 have qe:=aaN hy
 have a:=aaM ps pe
 have b:=aaL ps pe
 have c:=aaM qs qe
 have d:=aaL qs qe
 have S:=@yZ s hs
 have T:=@yZ t ht
 rcases i3 hi with rfl | rfl | rfl
 ·have sx:=S.1 hx
  have sa:=S.1 a
  have sb:=S.1 b
  rcases i3 hk with rfl | rfl | rfl
  ·have sy:=T.1 hy
   have sc:=T.1 c
   have sd:=T.1 d
   simp only[Qp,Nat.zero_ne_one,or_self,if_false,if_true]
   exact⟨Int.le_trans (oJ hx.1 b.1 d.1 hx.2.2 (by omega)) (dnr hx.1 hy.1 d.1 hy.2.2 (by omega)),Int.le_trans (oJ a.1 hx.1 hy.1 hx.2.1 (by omega)) (dnr a.1 c.1 hy.1 hy.2.1 (by omega))⟩
  ·have sy:=T.2.1 hy
   simp only[Qp,or_true,if_true]
   rw[wK (.inr sy)];exact⟨Int.le_refl _,Int.le_refl _⟩
  ·have sy:=T.2.2 hy
   have sc:=T.2.2 c
   have sd:=T.2.2 d
   simp only[Qp,Nat.zero_ne_one,show ¬(2=1) by omega,show ¬(2=0) by omega,or_self,if_false,if_true]
   exact⟨Int.le_trans (dnr a.1 hy.1 d.1 hy.2.2 (by omega)) (nK a.1 hx.1 hy.1 hx.2.1 (by omega)),Int.le_trans (nK hx.1 b.1 hy.1 hx.2.2 (by omega)) (dnr b.1 c.1 hy.1 hy.2.1 (by omega))⟩
 ·have sx:=S.2.1 hx
  simp only[Qp,true_or,if_true]
  rw[wK (.inl sx)];exact⟨Int.le_refl _,Int.le_refl _⟩
 ·have sx:=S.2.2 hx
  have sa:=S.2.2 a
  have sb:=S.2.2 b
  rcases i3 hk with rfl | rfl | rfl
  ·have sy:=T.1 hy
   have sc:=T.1 c
   have sd:=T.1 d
   simp only[Qp,Nat.zero_ne_one,show ¬(2=1) by omega,show ¬(2=0) by omega,or_self,if_false,if_true]
   exact⟨Int.le_trans (oJ hx.1 b.1 c.1 hx.2.2 (by omega)) (upr hx.1 c.1 hy.1 hy.2.1 (by omega)),Int.le_trans (oJ a.1 hx.1 hy.1 hx.2.1 (by omega)) (upr a.1 hy.1 d.1 hy.2.2 (by omega))⟩
  ·have sy:=T.2.1 hy
   simp only[Qp,or_true,if_true]
   rw[wK (.inr sy)];exact⟨Int.le_refl _,Int.le_refl _⟩
  ·have sy:=T.2.2 hy
   have sc:=T.2.2 c
   have sd:=T.2.2 d
   simp only[Qp,show ¬(2=1) by omega,show ¬(2=0) by omega,or_self,if_false]
   exact⟨Int.le_trans (nK a.1 hx.1 c.1 hx.2.1 (by omega)) (upr hx.1 c.1 hy.1 hy.2.1 (by omega)),Int.le_trans (nK hx.1 b.1 hy.1 hx.2.2 (by omega)) (upr b.1 hy.1 d.1 hy.2.2 (by omega))⟩
theorem ai5{s t:Sp}(hs:oks C s)(ht:oks C t){i k:Nat}(hi:i < 3)(hk:k < 3)(ei:emp (pt i s)=false)(ek:emp (pt k t)=false):
  (∃ x y,El (pt i s) x∧El (pt k t) y∧(Qp i k (pt i s) (pt k t)).lo=xmul x y)∧(∃ x y,El (pt i s) x∧El (pt k t) y∧(Qp i k (pt i s) (pt k t)).hi=xmul x y):=by
 have a:=aaM (yP hs i) ei
 have b:=aaL (yP hs i) ei
 have c:=aaM (yP ht k) ek
 have d:=aaL (yP ht k) ek
 by_cases z:i=1∨k=1
 ·have e:xmul (pt i s).lo (pt k t).lo=.fin 0:=by
   apply wK
   rcases z with rfl | rfl
   ·exact .inl ((yZ hs).2.1 a)
   ·exact .inr ((yZ ht).2.1 c)
  simp only[Qp,if_pos z]
  exact⟨⟨_,_,a,c,e.symm⟩,⟨_,_,a,c,e.symm⟩⟩
 ·unfold Qp
  rw[if_neg z]
  split<;>split
  ·exact⟨⟨_,_,b,d,rfl⟩,⟨_,_,a,c,rfl⟩⟩
  ·exact⟨⟨_,_,a,d,rfl⟩,⟨_,_,b,c,rfl⟩⟩
  ·exact⟨⟨_,_,b,c,rfl⟩,⟨_,_,a,d,rfl⟩⟩
  ·exact⟨⟨_,_,a,c,rfl⟩,⟨_,_,b,d,rfl⟩⟩
theorem akg{s t:Sp}(hs:oks C s)(ht:oks C t)(i k:Nat):oks K (Qp i k (pt i s) (pt k t)):=by
 have hK:=K_gt
 have p:=yP hs i
 have q:=yP ht k
 have z:okx K (.fin 0):=by simp only[okx];omega
 unfold Qp
 split
 ·exact⟨z,z⟩
 ·split<;>split
  ·exact⟨pM p.2 q.2,pM p.1 q.1⟩
  ·exact⟨pM p.1 q.2,pM p.2 q.1⟩
  ·exact⟨pM p.2 q.1,pM p.1 q.2⟩
  ·exact⟨pM p.1 q.1,pM p.2 q.2⟩
section
variable {s t:Sp}(hs:oks C s)(ht:oks C t)(es:emp s=false)(et:emp t=false)(ps:Pr s)(pt':Pr t)
include hs ht es et
theorem aaX{x y:X}(hx:x=s.lo∨x=s.hi)(hy:y=t.lo∨y=t.hi):El s x∧El t y:=by
 constructor
 ·rcases hx with rfl | rfl
  ·exact aaM hs es
  ·exact aaL hs es
 ·rcases hy with rfl | rfl
  ·exact aaM ht et
  ·exact aaL ht et
theorem F1{i k:Nat}(hi:i < 3)(hk:k < 3)(ei:emp (pt i s)=false)(ek:emp (pt k t)=false):
  key (apS xmul s t).lo≤key (Qp i k (pt i s) (pt k t)).lo∧key (Qp i k (pt i s) (pt k t)).hi≤key (apS xmul s t).hi:=by
 obtain⟨⟨x,y,hx,hy,e⟩,⟨x',y',hx',hy',e'⟩⟩:=ai5 hs ht hi hk ei ek
 have en:=ac5 (o:=xmul) es et
 obtain⟨⟨cx,cy,c1,c2,c3⟩,_⟩:=corner hs ht (abK hs hx) (abK ht hy)
 obtain⟨_,⟨dx,dy,d1,d2,d3⟩⟩:=corner hs ht (abK hs hx') (abK ht hy')
 have a:=en.1.2 cx cy c1 c2
 have b:=en.2.2 dx dy d1 d2
 rw[e,e']
 omega
theorem F2:(∃ i k,i < 3∧k < 3∧emp (pt i s)=false∧emp (pt k t)=false∧(Qp i k (pt i s) (pt k t)).lo=(apS xmul s t).lo)∧
  (∃ i k,i < 3∧k < 3∧emp (pt i s)=false∧emp (pt k t)=false∧(Qp i k (pt i s) (pt k t)).hi=(apS xmul s t).hi):=by
 have en:=ac5 (o:=xmul) es et
 have ok:=ajE hs ht
 constructor
 ·obtain⟨cx,cy,c1,c2,c3⟩:=en.1.1
  have co:=aaX hs ht es et c1 c2
  obtain⟨i,hi,xi⟩:=cls hs co.1
  obtain⟨k,hk,yk⟩:=cls ht co.2
  have ei:=aaN xi
  have ek:=aaN yk
  have q:=akf hs ht hi hk xi yk
  have f:=F1 hs ht es et hi hk ei ek
  refine⟨i,k,hi,hk,ei,ek,key_inj (akg hs ht i k).1 ok.1 ?_⟩
  rw[←c3]at q
  omega
 ·obtain⟨cx,cy,c1,c2,c3⟩:=en.2.1
  have co:=aaX hs ht es et c1 c2
  obtain⟨i,hi,xi⟩:=cls hs co.1
  obtain⟨k,hk,yk⟩:=cls ht co.2
  have ei:=aaN xi
  have ek:=aaN yk
  have q:=akf hs ht hi hk xi yk
  have f:=F1 hs ht es et hi hk ei ek
  refine⟨i,k,hi,hk,ei,ek,key_inj (akg hs ht i k).2 ok.2 ?_⟩
  rw[←c3]at q
  omega
end
section
variable {s t:Sp}(hs:oks C s)(ht:oks C t)(es:emp s=false)(et:emp t=false)(ps:Pr s)(pt':Pr t)
include hs ht es et ps pt'
end
section
variable {s t:Sp}(hs:oks C s)(ht:oks C t)(es:emp s=false)(et:emp t=false)(ps:Pr s)(pt':Pr t)
include hs ht es et ps pt'
end
end Go.N
namespace Go.N
open Go Go.Q Go.Rx
def pp(i:Nat)(s:Sp):Sp:=if i=0 then⟨xneg (negS s).hi,xneg (negS s).lo⟩else posS s
section
variable (lf:Nat)(h3:200000≤lf){s t:Sp}(hs:oks C s)(ht:oks C t)(ps:Pr s)(pt':Pr t)
include h3 hs ht ps pt'
def sv(s:Sp):List IV:=[ac (toA (negS s)),ac (toA (zerS s)),ac (toA (posS s))]
end
end Go.N
namespace Go.N
open Go Go.Q Go.Rx
theorem rH{s:Sp}{z:Int}:inS s z=true↔key s.lo≤z∧z≤key s.hi:=by unfold inS;simp
theorem ahK{s:Sp}{z:Int}(h:inS s z=true):emp s=false:=aaZ h
theorem ahG{s t:Sp}{z:Int}(h:inS s z=true):inS (hull s t) z=true:=by
 have e:=ahK h
 rw[rH]at h⊢
 unfold hull
 rw[if_neg (by simp[e])]
 split
 ·exact h
 ·simp only[oL,oK];omega
theorem ahH{s t:Sp}{z:Int}(h:inS t z=true):inS (hull s t) z=true:=by
 have e:=ahK h
 rw[rH]at h⊢
 unfold hull
 split
 ·exact h
 ·rw[if_neg (by simp[e])]
  simp only[oL,oK];omega
section
variable {s t:Sp}(hs:oks C s)(ht:oks C t){x y:Int}(bx: -Dd < x∧x < Dd)(by': -Dd < y∧y < Dd)(hx:inS s x=true)(hy:inS t y=true)
include hs ht bx by' hx hy
end
section
variable {s t:Sp}(hs:oks C s)(ht:oks C t)(ps:Pr s)(pt':Pr t){x y:Int}(bx: -Dd < x∧x < Dd)(by': -Dd < y∧y < Dd)(hx:inS s x=true)(hy:inS t y=true)
include hs ht ps pt' bx by' hx hy
end
end Go.N
namespace Go.N
open Go Go.Q Go.Rx
theorem ah7{a:A}(h:a.em=true):ofA a=non:=by unfold ofA;rw[if_pos h]
section
variable {a b:A}(ha:Wf a)(hb:Wf b)
include ha hb
theorem aaf:Wf (toA (hull (ofA a) (ofA b))):=by
 have hK:=K_gt
 have kh:=adK (ofA a) (ofA b)
 have ka:=ha.ks.keys
 have kb:=hb.ks.keys
 exact af9 (pF ha.okK hb.okK) (by intro h;rw[kh.1,kh.2]at *;split at*<;>(try split at *)<;>omega)
theorem zN:Wf (toA (common (ofA a) (ofA b))):=by
 have hK:=K_gt
 have k1:key (common (ofA a) (ofA b)).lo=max (key (ofA a).lo) (key (ofA b).lo):=oK _ _
 have k2:key (common (ofA a) (ofA b)).hi=min (key (ofA a).hi) (key (ofA b).hi):=oL _ _
 have ka:=ha.ks.keys
 have kb:=hb.ks.keys
 exact af9 (pR ha.okK hb.okK) (by intro h;rw[k1,k2]at *;omega)
end
theorem aju(s:Sp):leqA s s=true:=by rw[wL];apply decide_eq_true;omega
end Go.N
namespace Go.N
open Go Go.Q Go.Rx
def leqV(v w:Vl):Bool:=leqA (ofA v.a) (ofA w.a)&&iY v.c w.c
theorem ahV{a b:A}(h:a.em=true):leqA (ofA a) (ofA b)=true:=by
 unfold leqA;rw[ah7 h,abX];rfl
theorem afy{a b:A}(ha:Wf a)(hb:Wf b)(ea:a.em=false)(eb:b.em=false):
  leqA (ofA a) (ofA b)=true↔(∀ l,b.lo=some l→∃ k,a.lo=some k∧l≤k)∧∀ u,b.hi=some u→∃ k,a.hi=some k∧k≤u:=by
 have a1:=ha.loK
 have a2:=ha.hiK
 have b1:=hb.loK
 have b2:=hb.hiK
 have e:emp (ofA a)=false:=by rw[zk ha,ea]
 unfold leqA
 rw[e,Bool.false_or]
 unfold ofA
 rw[ea,eb,if_neg (by simp),if_neg (by simp)]
 simp only[Bool.and_eq_true,decide_eq_true_eq]
 have L:key (lox b.lo)≤key (lox a.lo)↔∀ l,b.lo=some l→∃ k,a.lo=some k∧l≤k:=by
  revert a1 b1
  cases b.lo with
  | none=>cases a.lo with
   | none=>simp[lox,key]
   | some k=>simp[lox,key,okb]<;>omega
  | some l=>cases a.lo with
   | none=>simp[lox,key,okb]<;>omega
   | some k=>simp[lox,key]
 have U:key (hix a.hi)≤key (hix b.hi)↔∀ u,b.hi=some u→∃ k,a.hi=some k∧k≤u:=by
  revert a2 b2
  cases b.hi with
  | none=>cases a.hi with
   | none=>simp[hix,key]
   | some k=>simp[hix,key,okb]<;>omega
  | some l=>cases a.hi with
   | none=>simp[hix,key,okb]<;>omega
   | some k=>simp[hix,key]
 rw[L,U]
theorem afx{a b:A}(ha:Wf a)(hb:Wf b)(h:leqA (ofA a) (ofA b)=true)(ea:a.em=false):b.em=false:=by
 cases eb:b.em with
 | false=>rfl
 | true =>
  have hK:=K_gt
  have e:emp (ofA a)=false:=by rw[zk ha,ea]
  have k:=ha.ks.keys
  rw[wL,decide_eq_true_eq,ah7 eb,ach.1,ach.2]at h
  have:=of_decide_eq_false e
  omega
theorem ajt{s t:Sp}(h:leqA s t=true){z:Int}(hz:inS s z=true):inS t z=true:=by
 have e:=ahK hz
 rw[wL,decide_eq_true_eq]at h
 have:=of_decide_eq_false e
 have:=rH.1 hz
 exact rH.2 (by omega)
namespace WfV
variable {v:Vl}(h:WfV v)
include h
theorem em:v.a.em=v.c.em:=by
 have r:=h.red
 unfold Go.N.red at r
 cases e1:v.a.em with
 | true =>
  rw[if_pos e1]at r
  rw[←r];rfl
 | false=>cases e2:v.c.em with
  | false=>rfl
  | true =>
   rw[if_neg (by simp[e1]),if_pos e2]at r
   rw[←r]at e1;simp[Ev,E0]at e1
theorem ev(e:v.a.em=true):v=Ev:=by
 have r:=h.red
 unfold Go.N.red at r
 rw[if_pos e]at r
 exact r.symm
theorem one(e:v.a.em=false)(m:v.c.m=0):v=onev v.c.r∧inS (ofA v.a) v.c.r=true:=by
 have r:=h.red
 have e2:v.c.em=false:=by rw[←h.em,e]
 unfold Go.N.red at r
 rw[if_neg (by simp[e]),if_neg (by simp[e2]),if_pos m]at r
 split at r
 ·exact⟨r.symm,by assumption⟩
 ·rw[←r]at e;simp[Ev,E0]at e
theorem fin(e:v.a.em=false)(m:v.c.m≠0):fin3 (v.a.lo.map (loC v.c)) (v.a.hi.map (hiC v.c)) v.c=v:=by
 have r:=h.red
 have e2:v.c.em=false:=by rw[←h.em,e]
 unfold Go.N.red at r
 rwa [if_neg (by simp[e]),if_neg (by simp[e2]),if_neg m]at r
theorem bnd(e:v.a.em=false):(∀ l,v.a.lo=some l→inC v.c l=true)∧∀ l,v.a.hi=some l→inC v.c l=true:=by
 have e2:v.c.em=false:=by rw[←h.em,e]
 by_cases m:v.c.m=0
 ·obtain⟨o,i⟩:=h.one e m
  have hs:inC v.c v.c.r=true:=(kR e2 h.c.pos).2 (by simp)
  constructor
  ·intro l hl
   rw[o]at hl;cases hl;exact hs
  ·intro l hl
   rw[o]at hl;cases hl;exact hs
 ·have p:0 < v.c.m:=by have:=h.c.pos;omega
  have f:=h.fin e m
  have ck:=h.a
  have lo:=ck.lo
  have hi:=ck.hi
  revert f lo hi
  cases hl:v.a.lo with
  | none=>cases hh:v.a.hi with
   | none=>intro _ _ _;exact⟨nofun,nofun⟩
   | some u =>
    intro f lo hi
    have f2:=congrArg (fun x=>x.a.hi) f
    simp only[Option.map,fin3,Option.bind,hh]at f2
    have hu:hiC v.c u=u:=by
     unfold clip at f2;split at f2
     ·exact Option.some.inj f2
     ·cases f2
    exact⟨nofun,fun l x=>by cases x;exact(kR e2 h.c.pos).2 (by have:=afr p u;rwa [hu]at this)⟩
  | some l=>cases hh:v.a.hi with
   | none =>
    intro f lo hi
    have f2:=congrArg (fun x=>x.a.lo) f
    simp only[Option.map,fin3,Option.bind,hl]at f2
    have hu:loC v.c l=l:=by
     unfold clip at f2;split at f2
     ·exact Option.some.inj f2
     ·cases f2
    exact⟨fun l x=>(by cases x;exact(kR e2 h.c.pos).2 (by have:=afA p l;rwa [hu]at this)),nofun⟩
   | some u =>
    intro f lo hi
    simp only[Option.map,fin3]at f
    split at f
    ·rw[←f]at e;simp[Ev,E0]at e
    ·split at f
     ·rw[←f]at m;simp[onev]at m
     ·have f1:=congrArg (fun x=>x.a.lo) f
      have f2:=congrArg (fun x=>x.a.hi) f
      simp only[hl,hh]at f1 f2
      have h1:loC v.c l=l:=by
       unfold clip at f1;split at f1
       ·exact Option.some.inj f1
       ·cases f1
      have h2:hiC v.c u=u:=by
       unfold clip at f2;split at f2
       ·exact Option.some.inj f2
       ·cases f2
      exact⟨fun k x=>(by cases x;exact(kR e2 h.c.pos).2 (by have:=afA p l;rwa [h1]at this)),fun k x=>(by cases x;exact(kR e2 h.c.pos).2 (by have:=afr p u;rwa [h2]at this))⟩
theorem eqb(e:v.a.em=false){z:Int}(h1:v.a.lo=some z)(h2:v.a.hi=some z):v=onev z:=by
 have e2:v.c.em=false:=by rw[←h.em,e]
 by_cases m:v.c.m=0
 ·obtain⟨o,i⟩:=h.one e m
  rw[o]at h1
  cases h1;exact o
 ·have p:0 < v.c.m:=by have:=h.c.pos;omega
  have f:=h.fin e m
  have d1:=(kR e2 h.c.pos).1 ((h.bnd e).1 z h1)
  have d2:=(kR e2 h.c.pos).1 ((h.bnd e).2 z h2)
  rw[h1,h2]at f
  simp only[Option.map,fin3,aeK p d1,aeE p d2]at f
  rw[if_neg (by omega),if_pos trivial]at f
  exact f.symm
theorem bndV(e:v.a.em=false):(∀ l,v.a.lo=some l→inV v l=true)∧∀ l,v.a.hi=some l→inV v l=true:=by
 obtain⟨b1,b2⟩:=h.bnd e
 have lo:=h.a.lo
 have hi:=h.a.hi
 have le:=h.a.le
 constructor
 ·intro l hl
  rw[hl]at lo le
  unfold inV
  rw[b1 l hl,(Wf.inS h.a e (CK lo)).2 ⟨fun k x=>(by rw[hl]at x;cases x;exact Int.le_refl _),fun k x=>(by rw[x]at le;exact le)⟩];rfl
 ·intro l hl
  rw[hl]at hi le
  unfold inV
  rw[b2 l hl,(Wf.inS h.a e (CK hi)).2 ⟨fun k x=>(by rw[x]at le;exact le),fun k x=>(by rw[hl]at x;cases x;exact Int.le_refl _)⟩];rfl
end WfV
theorem abb{v:Vl}(h:WfV v):leqV v v=true:=by
 unfold leqV;rw[aju,sU h.c];rfl
theorem agO{c d:Cg}(h:iY c d=true)(e:c.em=false):d.em=false:=by
 unfold iY at h
 rw[if_neg (by simp[e])]at h
 revert h;cases d.em<;>simp
theorem ajv{v:Vl}(hv:WfV v){r:A}{c:Cg}(hr:Wf r)(hc:WfC c)(h1:leqA (ofA v.a) (ofA r)=true)(h2:iY v.c c=true):leqV v (red r c)=true:=by
 cases e:v.a.em with
 | true =>
  have e2:v.c.em=true:=by rw[←hv.em,e]
  unfold leqV
  rw[ahV e,aa5 e2];rfl
 | false =>
  have e2:v.c.em=false:=by rw[←hv.em,e]
  have er:=afx hv.a hr h1 e
  have ec:=agO h2 e2
  obtain⟨q1,q2⟩:=(lg hc e2 ec).1 h2
  obtain⟨g1,g2⟩:=(afy hv.a hr e er).1 h1
  obtain⟨b1,b2⟩:=hv.bnd e
  have wr:=afL hr hc
  by_cases m:c.m=0
  ·rw[m]at q1 q2
   have m1:=Int.zero_dvd.1 q1
   have m2:v.c.r=c.r:=by have:=Int.zero_dvd.1 q2;omega
   obtain⟨o,i⟩:=hv.one e m1
   have:red r c=onev v.c.r:=by
    unfold red
    rw[if_neg (by simp[er]),if_neg (by simp[ec]),if_pos m,←m2,if_pos (ajt h1 i)]
   rw[this,←o]
   exact abb hv
  ·have p:0 < c.m:=by have:=hc.pos;omega
   have C1:∀ x,r.lo.map (loC c)=some x→∃ k,v.a.lo=some k∧x≤k:=by
    intro x hx
    cases hl:r.lo with
    | none=>rw[hl]at hx;cases hx
    | some l =>
     rw[hl]at hx;cases hx
     obtain⟨k,k1,k2⟩:=g1 l hl
     exact⟨k,k1,adN p ((kR ec hc.pos).1 (aa6 hv.c hc h2 (b1 k k1))) k2⟩
   have C2:∀ x,r.hi.map (hiC c)=some x→∃ k,v.a.hi=some k∧k≤x:=by
    intro x hx
    cases hl:r.hi with
    | none=>rw[hl]at hx;cases hx
    | some l =>
     rw[hl]at hx;cases hx
     obtain⟨k,k1,k2⟩:=g2 l hl
     exact⟨k,k1,afs p ((kR ec hc.pos).1 (aa6 hv.c hc h2 (b2 k k1))) k2⟩
   have R:red r c=fin3 (r.lo.map (loC c)) (r.hi.map (hiC c)) c:=by
    unfold red
    rw[if_neg (by simp[er]),if_neg (by simp[ec]),if_neg m]
   rw[R]at wr⊢
   revert C1 C2 wr
   generalize r.lo.map (loC c)=x
   generalize r.hi.map (hiC c)=y
   intro wr C1 C2
   have nb:∀ (z w:Int),clip z=some w→w=z:=by
    intro z w h
    unfold clip at h;split at h
    ·cases h;rfl
    ·cases h
   have fin:∀ t u:Option Int,Wf ⟨false,t,u⟩→(∀ l,t=some l→∃ k,v.a.lo=some k∧l≤k)→(∀ l,u=some l→∃ k,v.a.hi=some k∧k≤l)→leqV v ⟨⟨false,t,u⟩,c⟩=true:=by
    intro t u hw ht hu
    unfold leqV
    rw[(afy hv.a hw e rfl).2 ⟨ht,hu⟩,h2];rfl
   cases x with
   | none=>cases y with
    | none=>exact fin _ _ wr.a nofun nofun
    | some w=>exact fin _ _ wr.a nofun (fun l h=>by rw[nb _ _ h];exact C2 _ rfl)
   | some z=>cases y with
    | none=>exact fin _ _ wr.a (fun l h=>by rw[nb _ _ h];exact C1 _ rfl) nofun
    | some w =>
     obtain⟨k,k1,k2⟩:=C1 _ rfl
     obtain⟨k',k3,k4⟩:=C2 _ rfl
     have le:=hv.a.le
     rw[k1,k3]at le
     simp only[le?]at le
     unfold fin3 at wr⊢
     simp only at wr⊢
     rw[if_neg (by omega)]at wr⊢
     by_cases h3:z=w
     ·rw[if_pos h3]at wr⊢
      have k5:k=z:=by omega
      have k6:k'=z:=by omega
      rw[k5]at k1;rw[k6]at k3
      rw[←hv.eqb e k1 k3]
      exact abb hv
     ·rw[if_neg h3]at wr⊢
      exact fin _ _ wr.a (fun l h=>by rw[nb _ _ h];exact C1 _ rfl) (fun l h=>by rw[nb _ _ h];exact C2 _ rfl)
end Go.N
namespace Go.N
open Go Go.Q Go.Rx
def joinV(a b:Vl):Vl:=red (toA (hull (ofA a.a) (ofA b.a))) (joinC a.c b.c)
noncomputable def metV (a b:Vl):Vl:=red (toA (common (ofA a.a) (ofA b.a))) (metC a.c b.c)
section
variable {a b:Vl}(ha:WfV a)(hb:WfV b)
include ha hb
theorem uI:WfV (joinV a b):=afL (aaf ha.a hb.a) (sV ha.c hb.c)
theorem ak0:WfV (metV a b):=afL (zN ha.a hb.a) (acv ha.c hb.c)
end
theorem adF{v:Vl}{z:Int}(h:inV v z=true):inS (ofA v.a) z=true∧inC v.c z=true:=by
 unfold inV at h;rwa [Bool.and_eq_true]at h
theorem akQ{v:Vl}(h:WfV v){z:Int}(hz:inV v z=true):v.a.em=false:=by
 rw[h.em];exact vG (adF hz).2
section
variable {a b:Vl}(ha:WfV a)(hb:WfV b)
include ha hb
theorem xR{z:Int}(hz: -K < z∧z < K)(h:inV a z=true):inV (joinV a b) z=true:=by
 obtain⟨h1,h2⟩:=adF h
 exact aeV (aaf ha.a hb.a) (sV ha.c hb.c) hz (ab7 (pF ha.a.okK hb.a.okK) hz (ahG h1)) (ahI ha.c h2)
theorem xU{z:Int}(hz: -K < z∧z < K)(h:inV b z=true):inV (joinV a b) z=true:=by
 obtain⟨h1,h2⟩:=adF h
 exact aeV (aaf ha.a hb.a) (sV ha.c hb.c) hz (ab7 (pF ha.a.okK hb.a.okK) hz (ahH h1)) (ahJ hb.c h2)
theorem agM{s t:Sp}{z:Int}:inS (common s t) z=true↔inS s z=true∧inS t z=true:=by
 have k1:key (common s t).lo=max (key s.lo) (key t.lo):=oK _ _
 have k2:key (common s t).hi=min (key s.hi) (key t.hi):=oL _ _
 rw[rH,rH,rH,k1,k2];omega
theorem ajq{z:Int}(hz: -K < z∧z < K)(h1:inV a z=true)(h2:inV b z=true):inV (metV a b) z=true:=by
 obtain⟨h1,h3⟩:=adF h1
 obtain⟨h2,h4⟩:=adF h2
 exact aeV (zN ha.a hb.a) (acv ha.c hb.c) hz (ab7 (pR ha.a.okK hb.a.okK) hz ((agM ha hb).2 ⟨h1,h2⟩)) (akS ha.c hb.c h3 h4)
theorem agQ:leqA (ofA a.a) (ofA (toA (hull (ofA a.a) (ofA b.a))))=true:=by
 have hK:=K_gt
 have kh:=adK (ofA a.a) (ofA b.a)
 have ka:=ha.a.ks.keys
 have kb:=hb.a.ks.keys
 have hj:=ahQ (pF ha.a.okC hb.a.okC) (by intro h;rw[kh.1,kh.2]at *;split at*<;>(try split at *)<;>omega)
 rw[wL,hj.1,hj.2,kh.1,kh.2]
 apply decide_eq_true
 (repeat' split)<;>omega
theorem agR:leqV a (joinV a b)=true:=ajv ha (aaf ha.a hb.a) (sV ha.c hb.c) (agQ ha hb) (ab9 ha.c)
end
end Go.N
namespace Go.N
open Go Go.Q Go.Rx
abbrev tb(b:ByteArray):Nat:=b.data.toList.length
def SmV(x:VV):Prop:=tb x.1.2.1≤100000∧tb x.1.2.2.1≤100000∧tb x.2.1.2.1≤100000∧tb x.2.1.2.2.1≤100000
theorem aaB(x y:VV):(((x.1.1==y.1.1)&&((x.1.2.1==y.1.2.1)&&((x.1.2.2.1==y.1.2.2.1)&&true)))&&(((x.2.1.1==y.2.1.1)&&((x.2.1.2.1==y.2.1.2.1)&&((x.2.1.2.2.1==y.2.1.2.2.1)&&true)))&&true))=decide (x=y):=by
 obtain⟨⟨e1,l1,m1,⟨⟩⟩,⟨e2,l2,m2,⟨⟩⟩,⟨⟩⟩:=x
 obtain⟨⟨f1,p1,q1,⟨⟩⟩,⟨f2,p2,q2,⟨⟩⟩,⟨⟩⟩:=y
 rw[Bool.eq_iff_iff]
 simp only[akx,Bool.and_eq_true,beq_iff_eq,decide_eq_true_eq,Bool.and_true,Prod.mk.injEq,and_true]
theorem alO{a:A}{c:Cg}(ha:Wf a)(hc:WfC c)(h:vc (red a c)=vc ⟨a,c⟩):∃ v,vc ⟨a,c⟩=vc v∧WfV v:=by
 simp only[vc,Prod.mk.injEq]at h
 have e1:=akv h.1
 obtain⟨e2,e3⟩:=akC h.2.1
 cases ec:c.em with
 | true =>
  have hE:red a c=Ev:=by
   unfold red
   by_cases e:a.em=true
   ·rw[if_pos e]
   ·rw[if_neg e,if_pos ec]
  refine⟨Ev,?_,Ev_V⟩
  rw[hE]at e1
  simp only[vc,←e1]
  rw[qH ec];rfl
 | false =>
  rw[ec]at e2
  refine⟨⟨a,c⟩,rfl,ha,hc,?_⟩
  have e4:=e3 e2
  show red a c=⟨a,c⟩
  generalize red a c=r at *
  cases r;simp_all
section
variable (lf:Nat)(hb:Big lf)
include hb
theorem chkV{x:VV}(hx:SmV x):∃ n:Int,dD.f lf x=some (n,())∧aU.f lf x=some (n,())∧(n=0→∃ v,x=vc v∧WfV v):=by
 have hlf:=hb.1
 have h3:200000≤lf:=by omega
 obtain⟨⟨e1,l1,m1,⟨⟩⟩,⟨e2,l2,m2,⟨⟩⟩,⟨⟩⟩:=x
 obtain⟨x1,x2,x3,x4⟩:=hx
 rw[←vk l1,←vk m1,←vk l2,←vk m2]
 simp only[tb]at x1 x2 x3 x4
 revert x1 x2 x3 x4
 generalize l1.data.toList=l1
 generalize m1.data.toList=m1
 generalize l2.data.toList=l2
 generalize m2.data.toList=m2
 intro x1 x2 x3 x4
 have p1:=adh lf h3 e1 l1 m1 (by omega) (by omega)
 have p2:=aaR lf h3 e1 l1 m1 (by omega) (by omega) (by omega) (by omega)
 have q1:=akl lf h3 e2 l2 m2 (by omega) (by omega)
 have q2:=afc lf h3 e2 l2 m2 (by omega) (by omega) (by omega) (by omega)
 rw[dD.f,oW.f,aU.f]
 simp only[p1,p2,bdS]
 by_cases k1:ck e1 l1 m1=0
 ·rw[k1]
  simp only[bne_self_eq_false,brF,q1,q2,bdS]
  by_cases k2:ckc e2 l2 m2=0
  ·obtain⟨a,ea,ha⟩:=alm k1
   obtain⟨c,ec,hc⟩:=akE k2
   rw[k2]
   have r1:=acY lf hb ha hc
   have r2:=aip lf hb ha hc
   rw[←ea,←ec]at r1 r2
   simp only[bne_self_eq_false,brF,r1,r2,bdS]
   have bq:=aaB (vc (red a c)) ((e1,bs l1,bs m1,()),(e2,bs l2,bs m2,()),())
   simp only at bq
   rw[bq,ea,ec]
   by_cases h:vc (red a c)=(ac a,cc c,())
   ·rw[decide_eq_true h,Bool.not_true,brF]
    exact⟨0,rfl,rfl,fun _=>alO ha hc h⟩
   ·rw[decide_eq_false h,Bool.not_false,brT]
    exact⟨3,rfl,rfl,nofun⟩
  ·simp only[bneT k2,brT]
   exact⟨_,rfl,rfl,fun h=>absurd h k2⟩
 ·simp only[bneT k1,brT,bdS]
  exact⟨_,rfl,rfl,fun h=>absurd h k1⟩
theorem alk{x y:VV}(hx:SmV x)(hy:SmV y):∃ n:Int,jI.f lf x y=some (n,())∧iD.f lf x y=some (n,())∧(n=0→∃ v w,x=vc v∧y=vc w∧WfV v∧WfV w):=by
 obtain⟨n,a1,a2,a3⟩:=chkV lf hb hx
 obtain⟨m,b1,b2,b3⟩:=chkV lf hb hy
 rw[jI.f,iD.f,a1,a2,bdS,bdS]
 by_cases h:n=0
 ·subst h
  simp only[bne_self_eq_false,brF,b1,b2,bdS]
  refine⟨m,rfl,rfl,fun h=>?_⟩
  obtain⟨v,e1,w1⟩:=a3 rfl
  obtain⟨w,e2,w2⟩:=b3 h
  exact⟨v,w,e1,e2,w1,w2⟩
 ·simp only[bneT h,brT]
  exact⟨n,rfl,rfl,fun e=>absurd e h⟩
theorem smV{v:Vl}(h:WfV v):SmV (vc v):=by
 obtain⟨l,m,e1,_,a1,a2⟩:=agf h.a
 obtain⟨l',m',e2,_,b1,b2⟩:=ae7 h.c
 unfold SmV vc
 rw[e1,e2]
 simp only[tb];omega
theorem chk_wf{v:Vl}(h:WfV v):dD.f lf (vc v)=some (0,())∧aU.f lf (vc v)=some (0,()):=by
 have hlf:=hb.1
 have h3:200000≤lf:=by omega
 have p1:=qI lf h3 h.a
 have p2:=abP lf h3 h.a
 have q1:=ccheck lf hb h.c
 have q2:=rcheck lf hb h.c
 have r1:=acY lf hb h.a h.c
 have r2:=aip lf hb h.a h.c
 rw[h.red]at r1 r2
 have bq:=aaB (vc v) (vc v)
 rw[decide_eq_true rfl]at bq
 constructor
 ·rw[dD.f,oW.f]
  simp only[show(vc v).1=ac v.a from rfl,show(vc v).2.1=cc v.c from rfl]at bq⊢
  simp only[p1,q1,r1,bdS,bne_self_eq_false,brF]
  simp only[show(vc v).1=ac v.a from rfl,show(vc v).2.1=cc v.c from rfl,bq,Bool.not_true,brF]
 ·rw[aU.f]
  simp only[show(vc v).1=ac v.a from rfl,show(vc v).2.1=cc v.c from rfl]at bq⊢
  simp only[p2,q2,r2,bdS,bne_self_eq_false,brF]
  simp only[show(vc v).1=ac v.a from rfl,show(vc v).2.1=cc v.c from rfl,bq,Bool.not_true,brF]
theorem ahj{v w:Vl}(h:WfV v)(k:WfV w):jI.f lf (vc v) (vc w)=some (0,()):=by
 rw[jI.f,(chk_wf lf hb h).1,bdS]
 simp only[bne_self_eq_false,brF,(chk_wf lf hb k).1,bdS]
end
end Go.N
namespace Go.N
open Go Go.Q Go.Rx
section
variable (lf:Nat)(hb:Big lf){v w:Vl}(hv:WfV v)(hw:WfV w)
include hb hv hw
theorem acf:iq.f lf (vc v) (vc w)=some (vc (joinV v w),0,()):=by
 have h3:200000≤lf:=by have:=hb.1;omega
 rw[iq.f,ahj lf hb hv hw,bdS]
 simp only[bne_self_eq_false,brF]
 simp only[show(vc v).1=ac v.a from rfl,show(vc v).2.1=cc v.c from rfl,show(vc w).1=ac w.a from rfl,show(vc w).2.1=cc w.c from rfl,akV lf h3 hv.a hw.a,akU lf hb hv.c hw.c,bdS,bne_self_eq_false,brF,acY lf hb (aaf hv.a hw.a) (sV hv.c hw.c)]
 rfl
theorem ahY:lC.f lf (vc v) (vc w)=some (vc (metV v w),0,()):=by
 have h3:200000≤lf:=by have:=hb.1;omega
 rw[lC.f,ahj lf hb hv hw,bdS]
 simp only[bne_self_eq_false,brF]
 simp only[show(vc v).1=ac v.a from rfl,show(vc v).2.1=cc v.c from rfl,show(vc w).1=ac w.a from rfl,show(vc w).2.1=cc w.c from rfl,akZ lf h3 hv.a hw.a,akY lf hb hv.c hw.c,bdS,bne_self_eq_false,brF,acY lf hb (zN hv.a hw.a) (acv hv.c hw.c)]
 rfl
end
section
variable (lf:Nat)(hb:Big lf){v:Vl}(hv:WfV v)
include hb hv
end
section
variable (lf:Nat)(hb:Big lf){x y:VV}(hx:SmV x)(hy:SmV y)
include hb hx hy
end
end Go.N
namespace Go.N
open Go Go.Q Go.Rx
theorem afm(lf:Nat)(x:IV):∃ b,jr.f lf x=some (b,())∧(b=true→tb x.2.1≤100000∧tb x.2.2.1≤100000):=by
 rw[jr.f]
 simp only[gI.f,bdS]
 by_cases h:((x.2.1.size:Nat):Int)≤250
 ·rw[decide_eq_true h,brT]
  refine⟨_,rfl,fun k=>?_⟩
  have k:=of_decide_eq_true k
  rw[Lib.size_eq]at h k
  exact⟨by simp only[tb];omega,by simp only[tb];omega⟩
 ·rw[decide_eq_false h,brF]
  exact⟨_,rfl,nofun⟩
theorem ajk(lf:Nat)(x y:IV):∃ b,jZ.f lf x y=some (b,())∧(b=true→(tb x.2.1≤100000∧tb x.2.2.1≤100000)∧(tb y.2.1≤100000∧tb y.2.2.1≤100000)):=by
 rw[jZ.f]
 by_cases h1:((x.2.1.size:Nat):Int)≤450
 ·rw[decide_eq_true h1,brT]
  by_cases h2:((x.2.2.1.size:Nat):Int)≤450
  ·rw[decide_eq_true h2,brT]
   by_cases h3:((y.2.1.size:Nat):Int)≤450
   ·rw[decide_eq_true h3,brT]
    refine⟨_,rfl,fun k=>?_⟩
    have k:=of_decide_eq_true k
    rw[Lib.size_eq]at h1 h2 h3 k
    exact⟨⟨by simp only[tb];omega,by simp only[tb];omega⟩,by simp only[tb];omega,by simp only[tb];omega⟩
   ·rw[decide_eq_false h3,brF];exact⟨_,rfl,nofun⟩
  ·rw[decide_eq_false h2,brF];exact⟨_,rfl,nofun⟩
 ·rw[decide_eq_false h1,brF];exact⟨_,rfl,nofun⟩
theorem ahA(lf:Nat)(x y:VV):∃ b,fK.f lf x y=some (b,())∧(b=true→SmV x∧SmV y):=by
 obtain⟨a,a1,a2⟩:=ajk lf x.1 y.1
 obtain⟨b,b1,b2⟩:=afm lf x.2.1
 obtain⟨c,c1,c2⟩:=afm lf y.2.1
 rw[fK.f,a1,bdS]
 cases a with
 | false=>simp only[brF];exact⟨_,rfl,nofun⟩
 | true =>
  simp only[brT,b1,bdS]
  cases b with
  | false=>simp only[brF];exact⟨_,rfl,nofun⟩
  | true =>
   simp only[brT,c1,bdS]
   refine⟨_,rfl,fun k=>?_⟩
   obtain⟨q1,q2⟩:=a2 rfl
   have q3:=b2 rfl
   have q4:=c2 k
   exact⟨⟨q1.1,q1.2,q3.1,q3.2⟩,q2.1,q2.2,q4.1,q4.2⟩
theorem bigN(n:Nat):∃ lf,Big lf∧n≤lf:=⟨2000000000+K.toNat+n,⟨by omega,by omega⟩,by omega⟩
theorem bigE:∃ lf,Big lf:=⟨_,(bigN 0).choose_spec.1⟩
end Go.N
namespace Go.N
open Go Go.Q Go.Rx
def GoodV(x:VV):Prop:=∃ v,x=vc v∧WfV v∧v.a.em=false
noncomputable def fulN (lf:Nat) (x:VV):Int:=((iZ.f lf x).getD (0,())).1
section
variable (lf:Nat)(hb:Big lf)
include hb
theorem xQ{x:VV}(hx:SmV x):iZ.f lf x=some (fulN lf x,())∧(bd (aU.f lf x) fun r1=>br (r1.1 != 0) (some (r1.1,())) (bd (di.f lf x) fun r2=>br r2.1 (some (16,())) (some (0,()))))=some (fulN lf x,())∧(fulN lf x=0↔GoodV x):=by
 have key:∃ n:Int,iZ.f lf x=some (n,())∧(bd (aU.f lf x) fun r1=>br (r1.1 != 0) (some (r1.1,())) (bd (di.f lf x) fun r2=>br r2.1 (some (16,())) (some (0,()))))=some (n,())∧(n=0↔GoodV x):=by
  obtain⟨n,h1,h2,h3⟩:=chkV lf hb hx
  unfold iZ.f
  rw[h1,h2,bdS,bdS]
  by_cases hn:n=0
  ·subst hn
   obtain⟨v,rfl,hv⟩:=h3 rfl
   rw[show(((0:Int),()).1 != 0)=false from rfl,brF,brF,show dX.f lf (vc v)=some (v.a.em,()) from rfl,show di.f lf (vc v)=some (v.a.em,()) from rfl,bdS]
   cases he:v.a.em with
   | true =>
    refine⟨16,by rw[brT],by rw[brT],fun h=>(by omega),fun⟨w,e,hw,e2⟩=>?_⟩
    have:=congrArg (fun x:VV=>x.1.1) e
    have:v.a.em=w.a.em:=this
    rw[he,e2]at this;cases this
   | false=>exact⟨0,by rw[brF],by rw[brF],fun _=>⟨v,rfl,hv,he⟩,fun _=>rfl⟩
  ·rw[show((n,()).1 != 0)=true by simpa using hn,brT,brT]
   refine⟨n,rfl,rfl,fun h=>absurd h hn,fun⟨v,e,hv,_⟩=>?_⟩
   subst e
   have:=(chk_wf lf hb hv).1
   rw[h1]at this
   simp at this;exact this
 obtain⟨n,h1,h2,h3⟩:=key
 have e:fulN lf x=n:=by unfold fulN;rw[h1];rfl
 rw[e];exact⟨h1,h2,h3⟩
end
noncomputable def ckS (lf:Nat) (N:Int):Option VV→Int→List Sg3→Int×Int
 | _,e,[]=>(0,e)
 | p,e,s::r=>if s.1≠e then(20,e)else if s.2.1≤s.1 then(15,e)else if N < s.2.1 then(15,e)else if fulN lf s.2.2.1≠0 then(fulN lf s.2.2.1,e)else if p=some s.2.2.1 then(7,e)else ckS lf N (some s.2.2.1) s.2.1 r
def RS(N:Int):Option VV→Int→List Sg3→Prop
 | _,e,[]=>e=N
 | p,e,s::r=>s.1=e∧e < s.2.1∧s.2.1≤N∧GoodV s.2.2.1∧p≠some s.2.2.1∧RS N (some s.2.2.1) s.2.1 r
theorem RS.chn{N:Int}:∀ {l:List Sg3} {p:Option VV} {e:Int},RS N p e l→Chn N e l
 | [],p,e,h=>h
 | s::r,p,e,⟨h1,h2,h3,_,_,h6⟩=>⟨h1,h2,h3,h6.chn⟩
theorem RS.good{N:Int}:∀ {l:List Sg3} {p:Option VV} {e:Int},RS N p e l→∀ s∈l,GoodV s.2.2.1
 | [],p,e,h,s,hs=>by cases hs
 | s::r,p,e,⟨_,_,_,h4,_,h6⟩,q,hq=>by
  rcases List.mem_cons.1 hq with rfl | hq
  ·exact h4
  ·exact h6.good q hq
structure Right(l:List Sg3)(n:Int):Prop where
 n1:1≤n
 n2:n≤32
 ne:l≠[]
 rs:RS n none 0 l
theorem adu{l:List Sg3}(h:∀ s∈l,GoodV s.2.2.1):∀ x∈expand l,GoodV x:=by
 intro x hx
 obtain⟨s,hs,hx⟩:=List.mem_flatMap.1 hx
 rw[(List.mem_replicate.1 hx).2];exact h s hs
theorem agK{l:List VV}(h:∀ x∈l,GoodV x):∃ vs:List Vl,l=vs.map vc∧(∀ v∈vs,WfV v∧v.a.em=false):=by
 induction l with
 | nil=>exact⟨[],rfl,fun v hv=>by cases hv⟩
 | cons x l ih =>
  obtain⟨vs,rfl,h2⟩:=ih fun y hy=>h y (List.mem_cons_of_mem _ hy)
  obtain⟨v,rfl,h3,h4⟩:=h x (List.mem_cons_self ..)
  exact⟨v::vs,rfl,fun w hw=>by
   rcases List.mem_cons.1 hw with rfl | hw
   ·exact⟨h3,h4⟩
   ·exact h2 w hw⟩
theorem Right.vals{l:List Sg3}{n:Int}(h:Right l n):∃ vs:List Vl,expand l=vs.map vc∧(∀ v∈vs,WfV v∧v.a.em=false)∧(vs.length:Int)=n:=by
 obtain⟨vs,h1,h2⟩:=agK (adu h.rs.good)
 refine⟨vs,h1,h2,?_⟩
 have:=h.rs.chn.len.1
 rw[h1,List.length_map]at this
 omega
def prv(l:List Sg3)(j:Nat):Option VV:=if j=0 then none else(l[j-1]?).map fun s=>s.2.2.1
section
variable (lf:Nat)(hb:Big lf)
include hb
theorem aaS{N:Int}:∀ {l:List Sg3} {p:Option VV} {e:Int},(∀ s∈l,SmV s.2.2.1)→(((ckS lf N p e l).1=0∧(ckS lf N p e l).2=N)↔RS N p e l)
 | [],p,e,_=>by simp[ckS,RS]
 | s::r,p,e,hs=>by
  have hf:=(xQ lf hb (hs s (List.mem_cons_self ..))).2.2
  have ih:=aaS (N:=N) (l:=r) (p:=some s.2.2.1) (e:=s.2.1) fun q hq=>hs q (List.mem_cons_of_mem _ hq)
  simp only[ckS,RS]
  split
  ·rename_i h;constructor
   ·intro h';have:(20:Int)=0:=h'.1;omega
   ·intro h';exact absurd h'.1 h
  rename_i h1
  have h1:s.1=e:=Classical.not_not.1 h1
  split
  ·constructor
   ·intro h';have:(15:Int)=0:=h'.1;omega
   ·intro h';omega
  split
  ·constructor
   ·intro h';have:(15:Int)=0:=h'.1;omega
   ·intro h';omega
  split
  ·rename_i h
   constructor
   ·intro h';exact absurd h'.1 h
   ·intro h';exact absurd (hf.2 h'.2.2.2.1) h
  rename_i h4
  split
  ·rename_i h;constructor
   ·intro h';have:(7:Int)=0:=h'.1;omega
   ·intro h';exact absurd h h'.2.2.2.2.1
  ·rename_i h
   rw[ih]
   exact⟨fun h'=>⟨h1,by omega,by omega,hf.1 (Classical.not_not.1 h4),h,h'⟩,fun h'=>h'.2.2.2.2.2⟩
def ckZ(p:Int×Int):Bool×(Int×Int×Unit)×(Int×Unit)×Unit:=if p.1=0 then(false,(0,0,()),((p.2,()),()))else(true,(p.1,p.2,()),((0,()),()))
omit hb in
theorem ad4{l:List Sg3}{j:Nat}(h:j < l.length):prv l (j+1)=some l[j].2.2.1:=by
 unfold prv;simp[h]
theorem akj{l:List Sg3}{N:Int}(hs:∀ s∈l,SmV s.2.2.1)(hl:l.length≤1000):∀ (d n j:Nat) (e:Int),j+d=l.length→d < n→
  bQ.l0 lf l N l (l.length:Nat) n e j=some (ckZ (ckS lf N (prv l j) e (l.drop j)))
 | 0,n,j,e,hd,hn=>by
  obtain⟨n,rfl⟩:∃ q,n=q+1:=⟨n-1,by omega⟩
  rw[bQ.l0,bQ.r0,show decide ((j:Int) < ((l.length:Nat):Int))=false by simp;omega,brF,List.drop_eq_nil_of_le (by omega)]
  rfl
 | d+1,n,j,e,hd,hn=>by
  obtain⟨n,rfl⟩:∃ q,n=q+1:=⟨n-1,by omega⟩
  have hj:j < l.length:=by omega
  have hf:=xQ lf hb (hs l[j] (List.getElem_mem hj))
  rw[bQ.l0,bQ.r0,show decide ((j:Int) < ((l.length:Nat):Int))=true by simp;omega,brT,bU l j hj,bdS,List.drop_eq_getElem_cons hj,ckS]
  by_cases h1:l[j].1=e
  ·rw[show(l[j].1 != e)=false by simpa using h1,brF,if_neg (by simpa using h1)]
   by_cases h2:l[j].2.1≤l[j].1
   ·rw[show decide (l[j].1≥l[j].2.1)=true by simpa using h2,brT,if_pos h2];rfl
   ·rw[show decide (l[j].1≥l[j].2.1)=false by simpa using h2,brF,if_neg h2]
    by_cases h3:N < l[j].2.1
    ·rw[show decide (l[j].2.1 > N)=true by simpa using h3,brT,if_pos h3];rfl
    ·rw[show decide (l[j].2.1 > N)=false by simpa using h3,brF,if_neg h3,hf.1,bdS]
     by_cases h4:fulN lf l[j].2.2.1=0
     ·rw[show((fulN lf l[j].2.2.1,()).1 != 0)=false by simpa using h4,brF,if_neg (by simpa using h4)]
      rw[w64 (n:=(j:Int)+1) (by omega) (by omega),show(j:Int)+1=((j+1:Nat):Int) by omega,akj hs hl d n (j+1) l[j].2.1 (by omega) (by omega),ad4 hj]
      by_cases h5:j=0
      ·subst h5
       rw[show decide (((0:Nat):Int) > 0)=false by rfl,brF,if_neg (by simp[prv])]
      ·rw[show decide ((j:Int) > 0)=true by simp;omega,brT,w64 (by omega) (by omega),qh l ((j:Int)-1) (j-1) (by omega) (by omega),bdS,aaB,bdS]
       have hp:prv l j=some l[j-1].2.2.1:=by unfold prv;rw[if_neg h5,List.getElem?_eq_getElem (by omega)];rfl
       rw[hp]
       by_cases h6:l[j].2.2.1=l[j-1].2.2.1
       ·rw[decide_eq_true h6,brT,if_pos (by rw[h6])];rfl
       ·rw[decide_eq_false h6,brF,if_neg (fun h=>h6 (Option.some.inj h).symm)]
     ·rw[show((fulN lf l[j].2.2.1,()).1 != 0)=true by simpa using h4,brT,if_pos h4]
      unfold ckZ;rw[if_neg h4]
  ·rw[show(l[j].1 != e)=true by simpa using h1,brT,if_pos h1];rfl
theorem alI{s:Sg3}{e N:Int}(hs:SmV s.2.2.1):jv.f lf s e N=some (if s.1≠e then 20 else if s.2.1≤s.1 then 15 else if N < s.2.1 then 15 else fulN lf s.2.2.1,()):=by
 have hf:=(xQ lf hb hs).2.1
 unfold jv.f
 by_cases h1:s.1=e
 ·rw[show(s.1 != e)=false by simpa using h1,brF,if_neg (by simpa using h1)]
  by_cases h2:s.2.1≤s.1
  ·rw[decide_eq_true h2,brT,if_pos h2]
  ·rw[decide_eq_false h2,brF,if_neg h2]
   by_cases h3:N < s.2.1
   ·rw[show decide (s.2.1 > N)=true by simpa using h3,brT,if_pos h3]
   ·rw[show decide (s.2.1 > N)=false by simpa using h3,brF,if_neg h3];exact hf
 ·rw[show(s.1 != e)=true by simpa using h1,brT,if_pos h1]
theorem akk{l:List Sg3}{N:Int}(hs:∀ s∈l,SmV s.2.2.1)(hl:l.length≤1000):∀ (d n j:Nat) (e:Int),j+d=l.length→d < n→
  bC.l0 lf l N n e j=some (ckZ (ckS lf N (prv l j) e (l.drop j)))
 | 0,n,j,e,hd,hn=>by
  obtain⟨n,rfl⟩:∃ q,n=q+1:=⟨n-1,by omega⟩
  rw[bC.l0,bC.r0,show decide ((j:Int) < ((l.length:Nat):Int))=false by simp;omega,brF,List.drop_eq_nil_of_le (by omega)]
  rfl
 | d+1,n,j,e,hd,hn=>by
  obtain⟨n,rfl⟩:∃ q,n=q+1:=⟨n-1,by omega⟩
  have hj:j < l.length:=by omega
  rw[bC.l0,bC.r0,show decide ((j:Int) < ((l.length:Nat):Int))=true by simp;omega,brT,bU l j hj,bdS,alI lf hb (hs l[j] (List.getElem_mem hj)),bdS,List.drop_eq_getElem_cons hj,ckS]
  by_cases h1:l[j].1=e
  ·have h1':¬(l[j].1≠e):=fun h=>h h1
   rw[if_neg h1',if_neg h1']
   by_cases h2:l[j].2.1≤l[j].1
   ·rw[if_pos h2,if_pos h2,show(((15:Int),()).1 != 0)=true from rfl,brT];rfl
   ·rw[if_neg h2,if_neg h2]
    by_cases h3:N < l[j].2.1
    ·rw[if_pos h3,if_pos h3,show(((15:Int),()).1 != 0)=true from rfl,brT];rfl
    ·rw[if_neg h3,if_neg h3]
     by_cases h4:fulN lf l[j].2.2.1=0
     ·rw[show((fulN lf l[j].2.2.1,()).1 != 0)=false by simpa using h4,brF,if_neg (show ¬(fulN lf l[j].2.2.1≠0) from fun h=>h h4)]
      simp only[bdS]
      rw[w64 (n:=(j:Int)+1) (by omega) (by omega),show(j:Int)+1=((j+1:Nat):Int) by omega,akk hs hl d n (j+1) l[j].2.1 (by omega) (by omega),ad4 hj]
      by_cases h5:j=0
      ·subst h5
       rw[show decide (((0:Nat):Int) > 0)=false by rfl,brF,if_neg (by simp[prv])]
      ·rw[show decide ((j:Int) > 0)=true by simp;omega,brT,w64 (by omega) (by omega),qh l ((j:Int)-1) (j-1) (by omega) (by omega),bdS,aaB]
       have hp:prv l j=some l[j-1].2.2.1:=by unfold prv;rw[if_neg h5,List.getElem?_eq_getElem (by omega)];rfl
       rw[hp]
       by_cases h6:l[j-1].2.2.1=l[j].2.2.1
       ·rw[decide_eq_true h6,brT,if_pos (by rw[h6])];rfl
       ·rw[decide_eq_false h6,brF,if_neg (fun h=>h6 (Option.some.inj h))]
     ·rw[show((fulN lf l[j].2.2.1,()).1 != 0)=true by simpa using h4,brT,if_pos h4]
      unfold ckZ;rw[if_neg h4]
  ·rw[if_pos h1,if_pos h1,show(((20:Int),()).1 != 0)=true from rfl,brT];rfl
noncomputable def ckN (l:List Sg3) (n:Int):Int:=if n < 1 then 2 else if 32 < n then 2 else if l=[]then 20 else if(ckS lf n none 0 l).1≠0 then(ckS lf n none 0 l).1 else if(ckS lf n none 0 l).2≠n then 20 else 0
omit hb in
theorem ajf{p:Int×Int}{n:Int}:br (ckZ p).1 (some ((ckZ p).2.1.1,())) (br ((ckZ p).2.2.1.1 != n) (some ((20:Int),())) (some (0,())))=some (if p.1≠0 then p.1 else if p.2≠n then 20 else 0,()):=by
 unfold ckZ
 by_cases h:p.1=0
 ·rw[if_pos h,if_neg (by simpa using h),brF]
  simp only
  by_cases h2:p.2=n
  ·rw[show(p.2 != n)=false by simpa using h2,brF,if_neg (by simpa using h2)]
  ·rw[show(p.2 != n)=true by simpa using h2,brT,if_pos h2]
 ·rw[if_neg h,if_pos h,brT]
theorem zM{l:List Sg3}{n:Int}(hs:∀ s∈l,SmV s.2.2.1)(hl:l.length≤1000):bQ.f lf l n=some (ckN lf l n,())∧bC.f lf l n=some (ckN lf l n,())∧(ckN lf l n=0↔Right l n):=by
 have hlf:l.length < lf+40:=by have:=hb.1;omega
 have h1:=akj lf hb (N:=n) hs hl l.length (lf+40) 0 0 (by omega) hlf
 have h2:=akk lf hb (N:=n) hs hl l.length (lf+40) 0 0 (by omega) hlf
 have hR:=aaS lf hb (N:=n) (p:=none) (e:=0) hs
 rw[List.drop_zero,show prv l 0=none from rfl]at h1 h2
 have h0:((0:Nat):Int)=0:=rfl
 rw[h0]at h1 h2
 unfold bQ.f bC.f ckN
 rw[h1,h2,bdS,ajf]
 by_cases c1:n < 1
 ·rw[decide_eq_true c1,brT,if_pos c1]
  exact⟨rfl,rfl,fun h=>by omega,fun h=>by have:=h.n1;omega⟩
 rw[decide_eq_false c1,brF,if_neg c1]
 by_cases c2:32 < n
 ·rw[show decide (n > 32)=true by simpa using c2,brT,if_pos c2]
  exact⟨rfl,rfl,fun h=>by omega,fun h=>by have:=h.n2;omega⟩
 rw[show decide (n > 32)=false by simpa using c2,brF,if_neg c2]
 by_cases c3:l=[]
 ·subst c3
  rw[show((((([]:List Sg3).length:Nat):Int))==0)=true from rfl,brT,if_pos rfl]
  exact⟨rfl,rfl,fun h=>by omega,fun h=>absurd rfl h.ne⟩
 have:((l.length:Nat):Int)≠0:=fun h=>c3 (List.length_eq_zero_iff.1 (by omega))
 rw[show(((l.length:Nat):Int)==0)=false by simpa using this,brF,if_neg c3]
 refine⟨rfl,rfl,fun h=>?_,fun h=>?_⟩
 ·refine⟨by omega,by omega,c3,hR.1 ?_⟩
  split at h
  ·rename_i hc;exact absurd h hc
  ·rename_i hc
   split at h
   ·omega
   ·rename_i hd;exact⟨Classical.not_not.1 hc,Classical.not_not.1 hd⟩
 ·obtain⟨r1,r2⟩:=hR.2 h.rs
  rw[if_neg (by simpa using r1),if_neg (by simpa using r2)]
theorem oO{l:List Sg3}{n:Int}(h:Right l n)(hl:l.length≤1000):bQ.f lf l n=some (0,())∧bC.f lf l n=some (0,()):=by
 have hs:∀ s∈l,SmV s.2.2.1:=fun s hs=>by
  obtain⟨v,e,hv,_⟩:=h.rs.good s hs
  rw[e];exact smV lf hb hv
 obtain⟨h1,h2,h3⟩:=zM lf hb (n:=n) hs hl
 rw[h3.2 h]at h1 h2
 exact⟨h1,h2⟩
end
end Go.N
namespace Go.N
open Go.IntKind (i64)
open Go Go.Q Go.Rx
def apS1(b:Nat)(_:Int)(v:V33)(a:List V33):Option (Empty ⊕ List V33):=bd (apL true b a [v]) fun q=>some (.inr q)
theorem afM(b:Nat)(hb:b≤1000):∀ (l:List V33) (i:Int) (a:List V33),a.length+l.length≤1000000→runE (apS1 b) i l a=some (.inr (a++l))
 | [],i,a,h=>by simp[runE]
 | v::l,i,a,h=>by
  simp only[List.length_cons]at h
  rw[wS,apS1,adl,abM b a [v] hb (by simp;omega),bdS,jl,afM b hb l (i+1) (a++[v]) (by simp;omega)]
  simp
section
variable (lf:Nat)(hb:Big lf)
include hb
theorem ai0{l:List Sg3}{n:Int}(h:Chn n 0 l)(hn:n≤1000)(hl:l.length≤1000):dY.f lf l=some (expand l,()):=by
 have hlen:=h.len
 have:=pX (S:=apS1 80) (l:=l) (R:=Empty) (L0:=fun n j a=>dY.l0 lf l (l.length:Nat) l n j a)
  (L1:=fun j y n i a=>dY.l1 lf l (l.length:Nat) j l y.1 y.2.1 y.2.2.1.1.1 y.2.2.1.1.2.1 y.2.2.1.1.2.2.1 y.2.2.1.2.1.1 y.2.2.1.2.1.2.1 y.2.2.1.2.1.2.2.1 n i a)
  (D:=fun z n j=>dY.l0 lf l (l.length:Nat) l n (i64.wrap (j+1)) z.1.1) (k1:=fun a=>((a,()),())) (e1:=fun r=>nomatch r) (k0:=fun a=>((a,()),())) (e0:=fun r=>nomatch r)
  (N:=n) (by omega) (q:=lf+40) (by have:=hb.1;omega) (by omega)
  (fun j s _ n i a=>by rw[dY.l1,dY.r1,apS1,adl];simp only[jl])
  (fun n j a=>by rw[dY.l0,dY.r0])
  (fun r=>nomatch r) (fun a n j=>rfl) l.length (lf+40) 0 0 [] (by omega) (by have:=hb.1;omega) (by simpa using h) (Int.le_refl _)
 rw[dY.f]
 rw[show(((0:Nat):Int))=0 from rfl]at this
 rw[this,List.drop_zero,afM 80 (by omega) _ _ _ (by simp;omega),jl,bdS]
 rfl
end
def ofStep(i:Int)(v:V33)(out:List Sg3):List Sg3:=match out.getLast? with
 | some s=>if s.2.2.1=v then out.dropLast++[(s.1,i+1,s.2.2.1,())]else out++[(i,i+1,v,())]
 | none=>out++[(i,i+1,v,())]
def ofL:Int→List V33→List Sg3→List Sg3
 | _,[],out=>out
 | i,v::l,out=>ofL (i+1) l (ofStep i v out)
theorem aiD{α:Type}(l:List α)(z:α)(h:l≠[]):l.set (l.length-1) z=l.dropLast++[z]:=by
 obtain⟨m,x,rfl⟩:∃ m x,l=m++[x]:=⟨l.dropLast,l.getLast h,(List.dropLast_concat_getLast h).symm⟩
 simp[List.set_append]
theorem ald{α:Type}(l:List α)(i:Nat)(f:α→Option α)(h:i < l.length){z:α}(hz:f l[i]=some z):upE l i f=some (l.set i z):=by
 unfold upE
 rw[List.getElem?_eq_getElem h]
 simp only[hz]
theorem last_at{α:Type}(l:List α)(h:l≠[]):l.getLast? = some (l[l.length-1]'(by have:=List.length_pos_iff.2 h;omega)):=by
 rw[List.getLast?_eq_getElem?,List.getElem?_eq_getElem (by have:=List.length_pos_iff.2 h;omega)]
theorem aeP(i:Int)(v:V33)(out:List Sg3):(ofStep i v out).length≤out.length+1:=by
 unfold ofStep
 split
 ·split
  ·simp
   try omega
  ·simp
 ·simp
section
variable (lf:Nat)(hb:Big lf)
include hb
theorem akp{l:List V33}(hl:l.length≤1000):∀ (d n j:Nat) (out:List Sg3),j+d=l.length→d < n→out.length≤j→gZ.l0 lf l (l.length:Nat) n j out=some ((ofL j (l.drop j) out,()),())
 | 0,n,j,out,hd,hn,ho=>by
  obtain⟨n,rfl⟩:∃ q,n=q+1:=⟨n-1,by omega⟩
  rw[gZ.l0,gZ.r0,show decide ((j:Int) < ((l.length:Nat):Int))=false by simp;omega,brF,List.drop_eq_nil_of_le (by omega)]
  rfl
 | d+1,n,j,out,hd,hn,ho=>by
  obtain⟨n,rfl⟩:∃ q,n=q+1:=⟨n-1,by omega⟩
  have hj:j < l.length:=by omega
  rw[gZ.l0,gZ.r0,show decide ((j:Int) < ((l.length:Nat):Int))=true by simp;omega,brT,bU l j hj,bdS,List.drop_eq_getElem_cons hj,ofL]
  have go:∀ out',out'.length≤j+1→gZ.l0 lf l (l.length:Nat) n (i64.wrap ((j:Int)+1)) out'=some ((ofL ((j:Int)+1) (l.drop (j+1)) out',()),()):=fun out' h=>by
   rw[w64 (by omega) (by omega),show(j:Int)+1=((j+1:Nat):Int) by omega]
   exact akp hl d n (j+1) out' (by omega) (by omega) h
  have hw:i64.wrap ((j:Int)+1)=(j:Int)+1:=w64 (by omega) (by omega)
  by_cases h0:out=[]
  ·subst h0
   rw[show decide (((([]:List Sg3).length:Nat):Int) > 0)=false from rfl,brF,abM 96 _ _ (by omega) (by simp),bdS,go _ (by simp),hw]
   rfl
  ·have hp:0 < out.length:=List.length_pos_iff.2 h0
   have hlast:=last_at out h0
   rw[show decide (((out.length:Nat):Int) > 0)=true by simp;omega,brT,w64 (n:=((out.length:Nat):Int)-1) (by omega) (by omega),show((out.length:Nat):Int)-1=((out.length-1:Nat):Int) by omega,bW _ _ (by omega),bdS,List.getElem?_eq_getElem (by omega),bdS,aaB,bdS]
   unfold ofStep
   rw[hlast]
   simp only
   by_cases he:out[out.length-1].2.2.1=l[j]
   ·rw[decide_eq_true he,brT,if_pos he]
    rw[show adm out.length ((out.length-1:Nat):Int) ((out.length:Nat):Int) ((out.length:Nat):Int)=some (out.length-1,1) by
     unfold adm;simp;omega,bdS]
    simp only
    rw[show idxB 1 0=some 0 from rfl,bdS,ald out (out.length-1+0) (fun y:Sg3=>some (y.1,i64.wrap ((j:Int)+1),y.2.2.1,())) (by omega) rfl,bdS,go _ (by simp;omega),hw]
    simp only[Nat.add_zero]
    rw[aiD _ _ h0]
   ·rw[decide_eq_false he,brF,if_neg he,abM 96 _ _ (by omega) (by simp;omega),bdS,go _ (by simp;omega),hw]
theorem of_p{l:List V33}(hl:l.length≤1000):gZ.f lf l=some (ofL 0 l [],()):=by
 rw[gZ.f]
 have:=akp lf hb hl l.length (lf+40) 0 [] (by omega) (by have:=hb.1;omega) (by simp)
 rw[show(((0:Nat):Int))=0 from rfl,List.drop_zero]at this
 rw[this,bdS]
end
end Go.N
namespace Go.N
open Go Go.Q Go.Rx
theorem ltd{j:Nat}{k:Nat}:decide ((j:Int) < ((k:Nat):Int))=decide (j < k):=by simp
section
variable (lf:Nat)(hb:Big lf)
include hb
theorem afn{l:List Sg3}(hl:l.length≤40):∀ (d n j:Nat),j+d=l.length→d < n→∃ b,dQ.l0 lf l n j=some (b,(),(),())∧(b=false→∀ s∈l.drop j,SmV s.2.2.1)
 | 0,n,j,hd,hn=>by
  obtain⟨n,rfl⟩:∃ q,n=q+1:=⟨n-1,by omega⟩
  refine⟨false,?_,fun _ s hs=>?_⟩
  ·rw[dQ.l0,dQ.r0,ltd,decide_eq_false (by omega),brF]
  ·rw[List.drop_eq_nil_of_le (by omega)]at hs;cases hs
 | d+1,n,j,hd,hn=>by
  obtain⟨n,rfl⟩:∃ q,n=q+1:=⟨n-1,by omega⟩
  have hj:j < l.length:=by omega
  obtain⟨b,b1,b2⟩:=ahA lf l[j].2.2.1 l[j].2.2.1
  obtain⟨c,c1,c2⟩:=afn hl d n (j+1) (by omega) (by omega)
  rw[dQ.l0,dQ.r0,ltd,decide_eq_true hj,brT,bU l j hj,bdS,bdS,b1,bdS,w64 (by omega) (by omega),show(j:Int)+1=((j+1:Nat):Int) by omega,c1]
  cases b with
  | false=>exact⟨true,by rw[Bool.not_false,brT],fun h=>by cases h⟩
  | true =>
   refine⟨c,by rw[Bool.not_true,brF],fun h s hs=>?_⟩
   rw[List.drop_eq_getElem_cons hj]at hs
   rcases List.mem_cons.1 hs with rfl | hs
   ·exact(b2 rfl).1
   ·exact c2 h s hs
theorem als(l:List Sg3):∃ b,dQ.f lf l=some (b,())∧(b=true→l.length≤40∧∀ s∈l,SmV s.2.2.1):=by
 rw[dQ.f]
 by_cases h:40 < l.length
 ·exact⟨false,by rw[show decide (((l.length:Nat):Int) > 40)=true by simp;omega,brT],fun h=>by cases h⟩
 ·rw[show decide (((l.length:Nat):Int) > 40)=false by simp;omega,brF]
  obtain⟨b,b1,b2⟩:=afn lf hb (l:=l) (by omega) l.length (lf+40) 0 (by omega) (by have:=hb.1;omega)
  rw[show((0:Nat):Int)=0 from rfl]at b1
  rw[b1,bdS]
  cases b with
  | true=>exact⟨false,by rw[brT],fun h=>by cases h⟩
  | false=>exact⟨true,by rw[brF],fun _=>⟨by omega,fun s hs=>b2 rfl s (by simpa using hs)⟩⟩
omit hb in
theorem afH:∀ (l:List V33) (i:Int) (out:List Sg3),(ofL i l out).length≤out.length+l.length
 | [],i,out=>by simp[ofL]
 | v::l,i,out=>by
  rw[ofL]
  have:=afH l (i+1) (ofStep i v out)
  have:=aeP i v out
  simp only[List.length_cons];omega
end
end Go.N
namespace Go.N
open Go Go.Q Go.Rx
section
variable (lf:Nat)(hb:Big lf){v w:Vl}(hv:WfV v)(hw:WfV w)
include hb hv hw
end
section
variable (lf:Nat)(hb:Big lf){x y:VV}(hx:SmV x)(hy:SmV y)
include hb hx hy
end
section
variable (lf:Nat)(hb:Big lf){x:VV}(hx:SmV x)
include hb hx
end
end Go.N
namespace Go.N
open Go Go.Q Go.Rx
theorem uw{A R Z α:Type}(x:Option α)(f:α→Option (R ⊕ A))(e:R→Option Z)(g:A→Option Z):contS (bd x f) e g=bd x fun y=>contS (f y) e g:=by
 rw[iV,iV];cases x<;>rfl
section
variable (lf:Nat)(hb:Big lf)
include hb
end
end Go.N
namespace Go.N
open Go Go.Q Go.Rx
theorem agY{v w:Vl}(hv:Wf v.a)(hw:Wf w.a)(h:leqV v w=true)(e:v.a.em=false):w.a.em=false:=by
 unfold leqV at h
 rw[Bool.and_eq_true]at h
 exact afx hv hw h.1 e
theorem ahP{v w:Vl}(hv:WfV v)(hw:WfV w)(e:v.a.em=false):(joinV v w).a.em=false:=agY hv.a (uI hv hw).a (agR hv hw) e
section
variable (lf:Nat)(hb:Big lf)
include hb
end
def lqZ(r:Int ⊕ Unit):Bool×(Int×Unit)×Unit×Unit:=match r with
 | .inl r=>(true,(r,()),(),())
 | .inr _=>(false,(0,()),(),())
theorem agv(x:Option (Int ⊕ Unit)):(contS x (fun r=>some (lqZ (.inl r))) fun a=>some (lqZ (.inr a)))=x.map lqZ:=by
 cases x with
 | none=>rfl
 | some x=>cases x<;>rfl
section
variable (lf:Nat)(hb:Big lf)
include hb
end
end Go.N
namespace Go.N
open Go Go.Q Go.Rx
section
variable (lf:Nat)(hb:Big lf)
include hb
theorem ajj(b:ByteArray):∃ c,gI.f lf b=some (c,())∧(c=true→b.data.toList.length≤1000):=by
 refine⟨_,rfl,fun h=>?_⟩
 have h:=of_decide_eq_true h
 rw[Lib.size_eq]at h;omega
theorem ahz{l:List ByteArray}(hl:l.length≤40):∀ (d n j:Nat),j+d=l.length→d < n→∃ z,dP.l0 lf l (l.length:Nat) n j=some z∧(z.1=true→0≤z.2.1.1)∧(z.1=false→∀ b∈l.drop j,b.data.toList.length≤1000)
 | 0,n,j,hd,hn=>by
  obtain⟨n,rfl⟩:∃ q,n=q+1:=⟨n-1,by omega⟩
  refine⟨(false,(0,()),(),()),?_,fun h=>(by cases h),fun _ s hs=>?_⟩
  ·rw[dP.l0,dP.r0,ltd,decide_eq_false (by omega),brF]
  ·rw[List.drop_eq_nil_of_le (by omega)]at hs;cases hs
 | d+1,n,j,hd,hn=>by
  obtain⟨n,rfl⟩:∃ q,n=q+1:=⟨n-1,by omega⟩
  have hj:j < l.length:=by omega
  obtain⟨b,b1,b2⟩:=ajj lf hb l[j]
  obtain⟨c,c1,c2,c3⟩:=ahz hl d n (j+1) (by omega) (by omega)
  have hf:iK.f lf l[j]=some (!b,()):=by rw[iK.f,b1,bdS]
  rw[dP.l0,dP.r0,ltd,decide_eq_true hj,brT,bU l j hj,bdS,hf,bdS,w64 (by omega) (by omega),show(j:Int)+1=((j+1:Nat):Int) by omega,c1]
  cases b with
  | false=>exact⟨(true,(j,()),(),()),by rw[Bool.not_false,brT],fun _=>by simp,fun h=>by cases h⟩
  | true =>
   refine⟨c,by rw[Bool.not_true,brF],c2,fun h s hs=>?_⟩
   rw[List.drop_eq_getElem_cons hj]at hs
   rcases List.mem_cons.1 hs with rfl | hs
   ·exact b2 rfl
   ·exact c3 h s hs
theorem fewI(l:List ByteArray):∃ b,dP.f lf l=some (b,())∧(b=true→l.length≤40∧∀ s∈l,s.data.toList.length≤1000):=by
 rw[dP.f]
 by_cases h:l.length≤40
 ·rw[show decide (((l.length:Nat):Int)≤40)=true by simp;omega,brT]
  obtain⟨z,b1,b2,b3⟩:=ahz lf hb (l:=l) h l.length (lf+40) 0 (by omega) (by have:=hb.1;omega)
  rw[show((0:Nat):Int)=0 from rfl]at b1
  rw[b1,bdS]
  cases hz:z.1 with
  | true=>exact⟨_,by rw[brT],fun h=>by
    have:=b2 hz
    rw[show decide (z.2.1.1≥0)=true by simpa using this]at h;cases h⟩
  | false=>exact⟨true,by rw[brF],fun _=>⟨h,fun s hs=>b3 hz s (by simpa using hs)⟩⟩
 ·exact⟨false,by rw[show decide (((l.length:Nat):Int)≤40)=false by simp;omega,brF],fun h=>by cases h⟩
end
end Go.N
namespace Go.N
open Go Go.Q Go.Rx
section
variable (lf:Nat)(hb:Big lf)
include hb
theorem wH{v:Vl}(hv:WfV v){z:Int}(hz: -Dd < z∧z < Dd):dF.f lf (vc v) (bs (Lib.itoa z))=some (inV v z,0,()):=by
 have h3:200000≤lf:=by have:=hb.1;omega
 have hk: -K < z∧z < K:=by have:=Dd_K;omega
 rw[dF.f,(chk_wf lf hb hv).1,bdS]
 simp only[bne_self_eq_false,brF]
 simp only[show(vc v).1=ac v.a from rfl,show(vc v).2.1=cc v.c from rfl,adD lf h3 hv.a hk,ajp lf hb hv.c hk,bdS,bne_self_eq_false,brF]
 unfold inV
 cases inS (ofA v.a) z with
 | false=>simp only[brF,Bool.false_and]
 | true =>
  cases inC v.c z with
  | false=>simp only[brT,brF,Bool.true_and]
  | true=>simp only[brT,BEq.rfl,Bool.true_and]
theorem aft{v:Vl}(hv:WfV v){z:Int}(hz: -Dd < z∧z < Dd):gm.f lf (vc v) (bs (Lib.itoa z))=some (inV v z,()):=by
 have h3:200000≤lf:=by have:=hb.1;omega
 have hk: -K < z∧z < K:=by have:=Dd_K;omega
 rw[gm.f]
 simp only[show(vc v).1=ac v.a from rfl,show(vc v).2.1=cc v.c from rfl,ahM lf h3 hv.a hk,in_r lf hb hv.c hz,bdS]
 unfold inV
 cases inS (ofA v.a) z<;>simp only[brT,brF,Bool.true_and,Bool.false_and]
theorem ak3{l:List UInt8}(h:chk l=0)(hl:l.length≤1000):∃ z:Int,l=Lib.itoa z∧-Dd < z∧z < Dd:=by
 have e:=uH (jW.1 h).1
 refine⟨iv l,e,(aiN _).1 ?_⟩
 have:=wO l
 unfold sz
 rw[←e];omega
theorem topV:(((false,(⟨#[]⟩:ByteArray),(⟨#[]⟩:ByteArray),()),(false,(⟨#[49]⟩:ByteArray),(⟨#[48]⟩:ByteArray),()),()):VV)=vc ⟨⟨false,none,none⟩,topC⟩:=by
 unfold vc;rw[jC rfl];simp only[topC];rw[←i1,←i0];rfl
def oneV(z:Int):Vl:=if -C < z∧z < C then onev z else⟨⟨false,none,none⟩,topC⟩
theorem tZ(z:Int):WfV (oneV z):=by
 unfold oneV
 split
 ·exact aeS (by assumption)
 ·exact⟨⟨nofun,trivial,trivial,trivial⟩,aga,rfl⟩
theorem alH{z:Int}(hz: -K < z∧z < K):um.f lf (bs (Lib.itoa z))=some (vc (oneV z),0,()):=by
 have hl:=mr hz
 rw[um.f,nM lf _ (by omega),(mO z).2 hz,bdS]
 simp only[bne_self_eq_false,brF,show bs (Lib.itoa z)=ob (some z) from rfl,clipV lf (o:=some z) hz,bdS,Option.bind,vK,uT.f,kU.f]
 unfold oneV
 by_cases c: -C < z∧z < C
 ·rw[pO c,if_pos c,decide_eq_false nofun,brF]
  simp only[show ob (some z)=bs (Lib.itoa z) from rfl,onV]
 ·rw[aaT c,if_neg c,decide_eq_true rfl,brT,topV lf hb]
theorem alJ{z:Int}(hz: -K < z∧z < K):dm.f lf (bs (Lib.itoa z))=some (vc (oneV z),()):=by
 have h3:200000≤lf:=by have:=hb.1;omega
 have hK:=K_gt
 rw[dm.f,jh.f,i0,xG lf h3 (m:=0) (by omega) hz,bdS,bdS]
 simp only[gK.f,eG.f,bdS]
 unfold oneV
 by_cases c: -C < z∧z < C
 ·have hC:=C_gt
  rw[vW (Int.le_refl 0) (by omega) c,if_pos rfl,if_pos c,jC rfl]
  simp only[BEq.rfl,Bool.not_true,brF]
  rw[←onV,i0]
 ·have e:clsF 0 z=topC:=by
   have:¬sz z≤100:=fun x=>c ((sz_C z).1 x)
   unfold clsF;rw[if_pos (.inr (by rw[if_pos rfl];omega))]
  rw[e,if_neg c,jC rfl]
  have e1:((bs (Lib.itoa topC.m)).toList==(bs (Lib.itoa 0)).toList)=false:=by
   rw[kX];exact decide_eq_false fun x=>by have:=nP x;simp[topC]at this
  rw[e1,Bool.not_false,brT,topV lf hb]
end
end Go.N
namespace Go.N
open Go.IntKind (i64)
open Go Go.Q Go.Rx
noncomputable def hdS (lf:Nat) (es:List ByteArray) (i:Int) (v:V33) (a:Unit):Option (Int ⊕ Unit) :=
 bd (idxL es i) fun y=>bd (dF.f lf v y) fun r=>br (r.2.1 != 0) (some (.inl r.2.1)) (br (!r.1) (some (.inl r.2.1)) (some (.inr ())))
def itb(z:Int):ByteArray:=bs (Lib.itoa z)
theorem air{lf:Nat}{zs:List Int}:∀ (vs:List Vl) (k:Nat),k+vs.length=zs.length→(∀ v∈vs,∀ z∈zs,dF.f lf (vc v) (itb z)=some (inV v z,0,()))→
  runE (hdS lf (zs.map itb)) k (vs.map vc) ()=some (if(List.zipWith inV vs (zs.drop k)).all id=true then .inr ()else .inl 0)
 | [],k,hk,hF=>by simp[runE]
 | v::vs,k,hk,hF=>by
  simp only[List.length_cons]at hk
  have hkw:k < zs.length:=by omega
  have h1:hdS lf (zs.map itb) k (vc v) ()=br (!inV v zs[k]) (some (.inl 0)) (some (.inr ())):=by
   rw[hdS,bU _ _ (by simpa using hkw),bdS,List.getElem_map,hF v (List.mem_cons_self ..) _ (List.getElem_mem hkw),bdS]
   rw[show(((inV v zs[k],(0:Int),()):Bool×Int×Unit).2.1 != 0)=false from rfl,brF]
  rw[List.map_cons,wS,h1,List.drop_eq_getElem_cons hkw,List.zipWith_cons_cons,List.all_cons]
  cases he:inV v zs[k]with
  | false=>rw[Bool.not_false,brT,qJ,id,Bool.false_and,if_neg (by simp)]
  | true =>
   rw[Bool.not_true,brF,jl,show(k:Int)+1=((k+1:Nat):Int) by omega,air vs (k+1) (by omega) (fun v hv=>hF v (List.mem_cons_of_mem _ hv)),id,Bool.true_and]
def errI:List ByteArray→Int
 | []=>0
 | b::l=>if chk b.data.toList≠0 then chk b.data.toList else errI l
theorem adr:∀ {l:List ByteArray},errI l=0→∀ b∈l,chk b.data.toList=0
 | [],h,b,hb=>by cases hb
 | x::l,h,b,hb=>by
  rw[errI]at h
  split at h
  ·rename_i h';exact absurd h h'
  ·rename_i h'
   rcases List.mem_cons.1 hb with rfl | hb
   ·exact Classical.not_not.1 h'
   ·exact adr h b hb
def eZ(e:Int):Bool×(Int×Unit)×Unit×Unit:=if e=0 then(false,(0,()),(),())else(true,(e,()),(),())
theorem Chn.bnd{n:Int}:∀ {l:List Sg3} {e:Int},Chn n e l→0≤e→∀ s∈l,0≤s.1∧s.1 < s.2.1∧s.2.1≤n
 | [],e,h,he,s,hs=>by cases hs
 | x::r,e,⟨h1,h2,h3,h4⟩,he,s,hs=>by
  rcases List.mem_cons.1 hs with rfl | hs
  ·exact⟨by omega,by omega,h3⟩
  ·exact h4.bnd (by omega) s hs
section
variable (lf:Nat)(hb:Big lf)
include hb
theorem ahF{l:List Sg3}{n:Int}(es:List ByteArray)(h:Chn n 0 l)(hn:n≤1000)(hl:l.length≤1000):
  bD.l1 lf l (l.length:Nat) es false 0 l (lf+40) 0=(runE (hdS lf es) 0 (expand l) ()).map lqZ:=by
 have:=pX (S:=hdS lf es) (l:=l) (L0:=fun n j a=>bD.l1 lf l (l.length:Nat) es false 0 l n j)
  (L1:=fun j y n i a=>bD.l2 lf l (l.length:Nat) j es false 0 l y.1 y.2.1 y.2.2.1.1.1 y.2.2.1.1.2.1 y.2.2.1.1.2.2.1 y.2.2.1.2.1.1 y.2.2.1.2.1.2.1 y.2.2.1.2.1.2.2.1 n i)
  (D:=fun z n j=>br z.1 (some (true,(z.2.1.1,()),((),()))) (bD.l1 lf l (l.length:Nat) es false 0 l n (i64.wrap (j+1))))
  (k1:=fun a=>lqZ (.inr a)) (e1:=fun r=>lqZ (.inl r)) (k0:=fun a=>lqZ (.inr a)) (e0:=fun r=>lqZ (.inl r))
  (N:=n) (by omega) (q:=lf+40) (by have:=hb.1;omega) (by omega)
  (fun j s _ n i a=>by rw[bD.l2,bD.r2,hdS];simp only[uw,vX,qJ,jl];rfl)
  (fun n j a=>by rw[bD.l1,bD.r1];rfl)
  (fun r n j=>by simp only[lqZ,brT]) (fun a n j=>by simp only[lqZ,brF]) l.length (lf+40) 0 0 () (by omega) (by have:=hb.1;omega) (by simpa using h) (Int.le_refl _)
 rw[List.drop_zero,agv]at this
 exact this
theorem chkB{b:ByteArray}(h:b.data.toList.length≤1000):bg.f lf b=some (chk b.data.toList,())∧fG.f lf b=some (chk b.data.toList,()):=by
 have hlf:=hb.1
 have h1:=nM lf b.data.toList (by omega)
 have h2:=ad7 lf b.data.toList (by omega) (by omega)
 rw[vk]at h1 h2
 exact⟨h1,h2⟩
theorem ab6{l:List Sg3}{es:List ByteArray}(hs:∀ b∈es,b.data.toList.length≤1000)(hl:es.length≤1000):∀ (d n j:Nat),j+d=es.length→d < n→bD.l0 lf l es (es.length:Nat) es false 0 n j=some (eZ (errI (es.drop j)))
 | 0,n,j,hd,hn=>by
  obtain⟨n,rfl⟩:∃ q,n=q+1:=⟨n-1,by omega⟩
  rw[bD.l0,bD.r0,ltd,decide_eq_false (by omega),brF,List.drop_eq_nil_of_le (by omega)];rfl
 | d+1,n,j,hd,hn=>by
  obtain⟨n,rfl⟩:∃ q,n=q+1:=⟨n-1,by omega⟩
  have hj:j < es.length:=by omega
  rw[bD.l0,bD.r0,ltd,decide_eq_true hj,brT,bU es j hj,bdS,(chkB lf hb (hs es[j] (List.getElem_mem hj))).1,bdS,List.drop_eq_getElem_cons hj,errI,w64 (by omega) (by omega),show(j:Int)+1=((j+1:Nat):Int) by omega,ab6 hs hl d n (j+1) (by omega) (by omega)]
  by_cases h:chk es[j].data.toList=0
  ·rw[show((chk es[j].data.toList,()).1 != 0)=false by simpa using h,brF,if_neg (by simpa using h)]
  ·rw[show((chk es[j].data.toList,()).1 != 0)=true by simpa using h,brT,if_pos h]
   unfold eZ;rw[if_neg h]
theorem nums{es:List ByteArray}(hs:∀ b∈es,b.data.toList.length≤1000)(h:∀ b∈es,chk b.data.toList=0):∃ zs:List Int,es=zs.map itb∧∀ z∈zs,-Dd < z∧z < Dd:=by
 induction es with
 | nil=>exact⟨[],rfl,fun z hz=>by cases hz⟩
 | cons b es ih =>
  obtain⟨zs,rfl,h2⟩:=ih (fun b hb=>hs b (List.mem_cons_of_mem _ hb)) (fun b hb=>h b (List.mem_cons_of_mem _ hb))
  obtain⟨z,e,hz⟩:=ak3 lf hb (h b (List.mem_cons_self ..)) (hs b (List.mem_cons_self ..))
  refine⟨z::zs,?_,fun w hw=>?_⟩
  ·rw[List.map_cons,itb,←e,vk]
  ·rcases List.mem_cons.1 hw with rfl | hw
   ·exact hz
   ·exact h2 w hw
end
section
variable (lf:Nat)(hb:Big lf)
include hb
omit hb in
theorem itoaB{z:Int}(h1:0≤z)(h2:z≤1000):B.Itoa.f lf z=some (bs (Lib.itoa z),()):=by
 unfold B.Itoa.f;rw[if_pos ⟨by omega,by omega⟩]
end
end Go.N
namespace Go.N
open Go.IntKind (i64)
open Go Go.Q Go.Rx
def ixL(x:Vl):Nat→Nat→List Int
 | _,0=>[]
 | k,d+1=>if inV x k=true then(k:Int)::ixL x (k+1) d else ixL x (k+1) d
def ixF{B:Type}(x:Vl)(G:B→Nat→B):Nat→Nat→B→B
 | _,0,b=>b
 | k,d+1,b=>ixF x G (k+1) d (if inV x k=true then G b k else b)
theorem afv(x:Vl):∀ (d k:Nat),(ixL x k d).length≤d
 | 0,k=>by simp[ixL]
 | d+1,k=>by
  have:=afv x d (k+1)
  rw[ixL];split
  ·simp only[List.length_cons];omega
  ·omega
theorem afu{B:Type}{x:Vl}{G:B→Nat→B}:∀ (d k:Nat) (b:B),ixL x k d=[]→ixF x G k d b=b
 | 0,k,b,h=>rfl
 | d+1,k,b,h=>by
  rw[ixL]at h
  split at h
  ·cases h
  ·rename_i c
   rw[ixF,if_neg c];exact afu d (k+1) b h
theorem zn{B:Type}{x:Vl}{G:B→Nat→B}:∀ (d k:Nat),(ixL x k d).length=1→∃ i:Nat,k≤i∧i < k+d∧ixL x k d=[(i:Int)]∧∀ b,ixF x G k d b=G b i
 | 0,k,h=>by simp[ixL]at h
 | d+1,k,h=>by
  rw[ixL]at h⊢
  split at h
  ·rename_i c
   rw[if_pos c]
   have h0:ixL x (k+1) d=[]:=List.eq_nil_of_length_eq_zero (by simpa using h)
   exact⟨k,Nat.le_refl _,by omega,by rw[h0],fun b=>by rw[ixF,if_pos c,afu d _ _ h0]⟩
  ·rename_i c
   rw[if_neg c]
   obtain⟨i,i1,i2,i3,i4⟩:=zn (G:=G) d (k+1) h
   exact⟨i,by omega,by omega,i3,fun b=>by rw[ixF,if_neg c,i4]⟩
section
variable {A B R:Type}{x:Vl}{G:B→Nat→B}{rep:B→A}{I:Nat→B→Prop}
theorem acG{S:Int→V33→A→Option (R ⊕ A)}{vs:List Vl}
  (hS:∀ (k:Nat) (hk:k < vs.length) b,I k b→S k (vc vs[k]) (rep b)=some (.inr (rep (if inV x k=true then G b k else b))))
  (hI:∀ (k:Nat) b,k < vs.length→I k b→I (k+1) (if inV x k=true then G b k else b)):∀ (d k:Nat) (b:B),k+d=vs.length→I k b→
  runE S k ((vs.drop k).map vc) (rep b)=some (.inr (rep (ixF x G k d b)))
 | 0,k,b,hk,hb=>by rw[List.drop_eq_nil_of_le (by omega)];rfl
 | d+1,k,b,hk,hb=>by
  have h:k < vs.length:=by omega
  rw[List.drop_eq_getElem_cons h,List.map_cons,wS,hS k h b hb,jl,show(k:Int)+1=((k+1:Nat):Int) by omega,acG hS hI d (k+1) _ (by omega) (hI k b h hb),ixF]
end
abbrev flat(a:V33):(Bool×ByteArray×ByteArray×Bool×ByteArray×ByteArray×Unit)×Unit:=((a.1.1,a.1.2.1,a.1.2.2.1,a.2.1.1,a.2.1.2.1,a.2.1.2.2.1,()),())
theorem ac3:1000 < Dd:=by
 have:=C_gt
 have:=(sz_C 1000).2 ⟨by omega,by omega⟩
 have:=(aiN 1000).1 (by omega)
 omega
theorem akX:metV (oneV 0) (oneV 1)=Ev:=by
 have:=C_gt
 unfold oneV
 rw[if_pos ⟨by omega,by omega⟩,if_pos ⟨by omega,by omega⟩]
 unfold metV
 have:(toA (common (ofA (onev 0).a) (ofA (onev 1).a))).em=true:=by decide
 unfold red
 rw[if_pos this]
section
variable (lf:Nat)(hb:Big lf)
include hb
omit hb in
theorem bigOf{z:Int}(h1:0≤z)(h2:z≤1000):fM.f lf z=some (bs (Lib.itoa z),()):=by
 rw[fM.f,itoaB lf h1 h2,bdS]
theorem oneP{z:Int}(h1:0≤z)(h2:z≤1000):gQ.f lf z=some (vc (oneV z),()):=by
 have:=K_gt
 rw[gQ.f,bigOf lf h1 h2,bdS,alH lf hb ⟨by omega,by omega⟩,bdS,dI.f,bdS]
theorem abk:gX.f lf=some (vc Ev,()):=by
 rw[gX.f,oneP lf hb (z:=0) (by omega) (by omega),oneP lf hb (z:=1) (by omega) (by omega),bdS,bdS,ahY lf hb (tZ lf hb 0) (tZ lf hb 1),bdS,akX,dI.f,bdS]
theorem ajW{l:List Sg3}{n c:Int}{y:V33}(h:bQ.f lf l n=some (0,()))(hc:dD.f lf y=some (c,())):aY.f lf l n [y]=some (c,()):=by
 rw[aY.f,h,bdS,show(((0:Int),()).1 != 0)=false from rfl,brF,show lf+40=lf+38+1+1 from rfl,aY.l0,aY.r0,show decide ((0:Int) < (([y].length:Nat):Int))=true from rfl,brT,show idxL [y] 0=some y from rfl,bdS,hc,bdS]
 by_cases h0:c=0
 ·subst h0
  rw[show(((0:Int),()).1 != 0)=false from rfl,brF,aY.l0,aY.r0,show decide (i64.wrap (0+1) < (([y].length:Nat):Int))=false from rfl,brF,bdS,brF]
 ·rw[show((c,()).1 != 0)=true by simpa using h0,brT,bdS,brT]
theorem af0{l:List Sg3}{n c d:Int}{y z:V33}(h:bQ.f lf l n=some (0,()))(hc:dD.f lf y=some (c,()))(hd:dD.f lf z=some (d,())):aY.f lf l n [y,z]=some (if c≠0 then c else d,()):=by
 rw[aY.f,h,bdS,show(((0:Int),()).1 != 0)=false from rfl,brF,show lf+40=lf+37+1+1+1 from rfl,aY.l0,aY.r0,show decide ((0:Int) < (([y,z].length:Nat):Int))=true from rfl,brT,show idxL [y,z] 0=some y from rfl,bdS,hc,bdS]
 by_cases h0:c=0
 ·subst h0
  rw[show(((0:Int),()).1 != 0)=false from rfl,brF,aY.l0,aY.r0,show decide (i64.wrap (0+1) < (([y,z].length:Nat):Int))=true from rfl,brT,show idxL [y,z] (i64.wrap (0+1))=some z from rfl,bdS,hd,bdS,if_neg (by simp)]
  by_cases h1:d=0
  ·subst h1
   rw[show(((0:Int),()).1 != 0)=false from rfl,brF,aY.l0,aY.r0,show decide (i64.wrap (i64.wrap (0+1)+1) < (([y,z].length:Nat):Int))=false from rfl,brF,bdS,brF]
  ·rw[show((d,()).1 != 0)=true by simpa using h1,brT,bdS,brT]
 ·rw[show((c,()).1 != 0)=true by simpa using h0,brT,bdS,brT,if_pos h0]
end
end Go.N
namespace Go.N
open Go.IntKind (i64)
open Go Go.Q Go.Rx
noncomputable def ldS (lf:Nat) (x:V33) (i:Int) (v:V33) (a:V33):Option (Empty ⊕ V33) :=
 bd (fM.f lf i) fun r4=>bd (dF.f lf x r4.1) fun r5=>bd (bn.f lf r5.1 r5.2.1) fun r6=>br r6.1 (bd (iq.f lf a v) fun r7=>bd (dI.f lf r7.1 r7.2.1) fun r8=>some (.inr r8.1)) (some (.inr a))
noncomputable def fdS (lf:Nat) (x u:V33) (i:Int) (v:V33) (a:V33):Option (Empty ⊕ V33) :=
 bd (fM.f lf i) fun r4=>bd (dF.f lf x r4.1) fun r5=>bd (bn.f lf r5.1 r5.2.1) fun r6=>br r6.1 (bd (lC.f lf v u) fun r7=>bd (dI.f lf r7.1 r7.2.1) fun r8=>bd (dX.f lf r8.1) fun r9=>br (!r9.1) (bd (gQ.f lf i) fun r10=>bd (iq.f lf a r10.1) fun r11=>bd (dI.f lf r11.1 r11.2.1) fun r12=>some (.inr r12.1)) (some (.inr a))) (some (.inr a))
theorem qA{vs:List Vl}{k:Nat}(h:k < vs.length):vs.getD k Ev=vs[k]:=by simp[List.getD,h]
def ldG(vs:List Vl)(b:Vl)(k:Nat):Vl:=joinV b (vs.getD k Ev)
noncomputable def fdG (vs:List Vl) (u b:Vl) (k:Nat):Vl:=if(metV (vs.getD k Ev) u).a.em=true then b else joinV b (oneV k)
section
variable (lf:Nat)(hb:Big lf)
include hb
theorem ajy{l:List Sg3}{n:Int}(x a:V33)(h:Chn n 0 l)(hn:n≤1000)(hl:l.length≤1000):
  dO.l0 lf l (l.length:Nat) x.1.1 x.1.2.1 x.1.2.2.1 x.2.1.1 x.2.1.2.1 x.2.1.2.2.1 false ⟨#[]⟩ ⟨#[]⟩ false ⟨#[]⟩ ⟨#[]⟩ [x] l x.1.1 x.1.2.1 x.1.2.2.1 x.2.1.1 x.2.1.2.1 x.2.1.2.2.1 l (lf+40) 0 a.1.1 a.1.2.1 a.1.2.2.1 a.2.1.1 a.2.1.2.1 a.2.1.2.2.1
   = contS (runE (ldS lf x) 0 (expand l) a) (fun r=>some (Empty.elim r)) fun a'=>some (flat a'):=by
 have:=pX (S:=ldS lf x) (l:=l) (L0:=fun n j a=>dO.l0 lf l (l.length:Nat) x.1.1 x.1.2.1 x.1.2.2.1 x.2.1.1 x.2.1.2.1 x.2.1.2.2.1 false ⟨#[]⟩ ⟨#[]⟩ false ⟨#[]⟩ ⟨#[]⟩ [x] l x.1.1 x.1.2.1 x.1.2.2.1 x.2.1.1 x.2.1.2.1 x.2.1.2.2.1 l n j a.1.1 a.1.2.1 a.1.2.2.1 a.2.1.1 a.2.1.2.1 a.2.1.2.2.1)
  (L1:=fun j y n i a=>dO.l1 lf l (l.length:Nat) j x.1.1 x.1.2.1 x.1.2.2.1 x.2.1.1 x.2.1.2.1 x.2.1.2.2.1 false ⟨#[]⟩ ⟨#[]⟩ false ⟨#[]⟩ ⟨#[]⟩ [x] l x.1.1 x.1.2.1 x.1.2.2.1 x.2.1.1 x.2.1.2.1 x.2.1.2.2.1 l y.1 y.2.1 y.2.2.1.1.1 y.2.2.1.1.2.1 y.2.2.1.1.2.2.1 y.2.2.1.2.1.1 y.2.2.1.2.1.2.1 y.2.2.1.2.1.2.2.1 n i a.1.1 a.1.2.1 a.1.2.2.1 a.2.1.1 a.2.1.2.1 a.2.1.2.2.1)
  (D:=fun z n j=>dO.l0 lf l (l.length:Nat) x.1.1 x.1.2.1 x.1.2.2.1 x.2.1.1 x.2.1.2.1 x.2.1.2.2.1 false ⟨#[]⟩ ⟨#[]⟩ false ⟨#[]⟩ ⟨#[]⟩ [x] l x.1.1 x.1.2.1 x.1.2.2.1 x.2.1.1 x.2.1.2.1 x.2.1.2.2.1 l n (i64.wrap (j+1)) z.1.1 z.1.2.1 z.1.2.2.1 z.1.2.2.2.1 z.1.2.2.2.2.1 z.1.2.2.2.2.2.1)
  (k1:=flat) (e1:=fun r=>r.elim) (k0:=flat) (e0:=fun r=>r.elim)
  (N:=n) (by omega) (q:=lf+40) (by have:=hb.1;omega) (by omega)
  (fun j s _ n i a=>by rw[dO.l1,dO.r1,ldS];simp only[uw,vX,qJ,jl])
  (fun n j a=>by rw[dO.l0,dO.r0])
  (fun r n j=>r.elim) (fun a n j=>rfl) l.length (lf+40) 0 0 a (by omega) (by have:=hb.1;omega) (by simpa using h) (Int.le_refl _)
 rw[List.drop_zero]at this
 exact this
theorem ajl{l:List Sg3}{n:Int}(x u a:V33)(h:Chn n 0 l)(hn:n≤1000)(hl:l.length≤1000):
  dV.l0 lf l (l.length:Nat) x.1.1 x.1.2.1 x.1.2.2.1 x.2.1.1 x.2.1.2.1 x.2.1.2.2.1 u.1.1 u.1.2.1 u.1.2.2.1 u.2.1.1 u.2.1.2.1 u.2.1.2.2.1 false ⟨#[]⟩ ⟨#[]⟩ false ⟨#[]⟩ ⟨#[]⟩ [x,u] l x.1.1 x.1.2.1 x.1.2.2.1 x.2.1.1 x.2.1.2.1 x.2.1.2.2.1 l (lf+40) 0 a.1.1 a.1.2.1 a.1.2.2.1 a.2.1.1 a.2.1.2.1 a.2.1.2.2.1
   = contS (runE (fdS lf x u) 0 (expand l) a) (fun r=>some (Empty.elim r)) fun a'=>some (flat a'):=by
 have:=pX (S:=fdS lf x u) (l:=l) (L0:=fun n j a=>dV.l0 lf l (l.length:Nat) x.1.1 x.1.2.1 x.1.2.2.1 x.2.1.1 x.2.1.2.1 x.2.1.2.2.1 u.1.1 u.1.2.1 u.1.2.2.1 u.2.1.1 u.2.1.2.1 u.2.1.2.2.1 false ⟨#[]⟩ ⟨#[]⟩ false ⟨#[]⟩ ⟨#[]⟩ [x,u] l x.1.1 x.1.2.1 x.1.2.2.1 x.2.1.1 x.2.1.2.1 x.2.1.2.2.1 l n j a.1.1 a.1.2.1 a.1.2.2.1 a.2.1.1 a.2.1.2.1 a.2.1.2.2.1)
  (L1:=fun j y n i a=>dV.l1 lf l (l.length:Nat) j x.1.1 x.1.2.1 x.1.2.2.1 x.2.1.1 x.2.1.2.1 x.2.1.2.2.1 u.1.1 u.1.2.1 u.1.2.2.1 u.2.1.1 u.2.1.2.1 u.2.1.2.2.1 false ⟨#[]⟩ ⟨#[]⟩ false ⟨#[]⟩ ⟨#[]⟩ [x,u] l x.1.1 x.1.2.1 x.1.2.2.1 x.2.1.1 x.2.1.2.1 x.2.1.2.2.1 l y.1 y.2.1 y.2.2.1.1.1 y.2.2.1.1.2.1 y.2.2.1.1.2.2.1 y.2.2.1.2.1.1 y.2.2.1.2.1.2.1 y.2.2.1.2.1.2.2.1 n i a.1.1 a.1.2.1 a.1.2.2.1 a.2.1.1 a.2.1.2.1 a.2.1.2.2.1)
  (D:=fun z n j=>dV.l0 lf l (l.length:Nat) x.1.1 x.1.2.1 x.1.2.2.1 x.2.1.1 x.2.1.2.1 x.2.1.2.2.1 u.1.1 u.1.2.1 u.1.2.2.1 u.2.1.1 u.2.1.2.1 u.2.1.2.2.1 false ⟨#[]⟩ ⟨#[]⟩ false ⟨#[]⟩ ⟨#[]⟩ [x,u] l x.1.1 x.1.2.1 x.1.2.2.1 x.2.1.1 x.2.1.2.1 x.2.1.2.2.1 l n (i64.wrap (j+1)) z.1.1 z.1.2.1 z.1.2.2.1 z.1.2.2.2.1 z.1.2.2.2.2.1 z.1.2.2.2.2.2.1)
  (k1:=flat) (e1:=fun r=>r.elim) (k0:=flat) (e0:=fun r=>r.elim)
  (N:=n) (by omega) (q:=lf+40) (by have:=hb.1;omega) (by omega)
  (fun j s _ n i a=>by rw[dV.l1,dV.r1,fdS];simp only[uw,vX,qJ,jl])
  (fun n j a=>by rw[dV.l0,dV.r0])
  (fun r n j=>r.elim) (fun a n j=>rfl) l.length (lf+40) 0 0 a (by omega) (by have:=hb.1;omega) (by simpa using h) (Int.le_refl _)
 rw[List.drop_zero]at this
 exact this
theorem alC{x v b:Vl}(hx:WfV x)(hv:WfV v)(hw:WfV b){k:Nat}(hk:k≤900):ldS lf (vc x) k (vc v) (vc b)=some (.inr (vc (if inV x k=true then joinV b v else b))):=by
 have hD:=ac3
 rw[ldS,bigOf lf (by omega) (by omega),bdS,wH lf hb hx ⟨by omega,by omega⟩,bdS,bn.f,bdS,acf lf hb hw hv,bdS,dI.f,bdS]
 cases inV x k with
 | true=>rw[brT,if_pos rfl]
 | false=>rw[brF,if_neg (by simp)]
theorem alr{x u v b:Vl}(hx:WfV x)(hu:WfV u)(hv:WfV v)(hw:WfV b){k:Nat}(hk:k≤900):fdS lf (vc x) (vc u) k (vc v) (vc b)=some (.inr (vc (if inV x k=true then(if(metV v u).a.em=true then b else joinV b (oneV k))else b))):=by
 have hD:=ac3
 rw[fdS,bigOf lf (by omega) (by omega),bdS,wH lf hb hx ⟨by omega,by omega⟩,bdS,bn.f,bdS,ahY lf hb hv hu,bdS,dI.f,bdS,show dX.f lf (vc (metV v u))=some ((metV v u).a.em,()) from rfl,bdS,oneP lf hb (by omega) (by omega),bdS,acf lf hb hw (tZ lf hb _),bdS,dI.f,bdS]
 cases inV x k with
 | true =>
  rw[brT,if_pos rfl]
  cases (metV v u).a.em with
  | true=>rw[Bool.not_true,brF,if_pos rfl]
  | false=>rw[Bool.not_false,brT,if_neg (by simp)]
 | false=>rw[brF,if_neg (by simp)]
theorem alB{vs:List Vl}(h:∀ v∈vs,WfV v∧v.a.em=false){x:Vl}(k:Nat)(b:Vl)(hk:k < vs.length)(hw:WfV b):WfV (if inV x k=true then ldG vs b k else b):=by
 split
 ·unfold ldG
  rw[qA hk]
  exact uI hw (h _ (List.getElem_mem hk)).1
 ·exact hw
theorem ahy{vs:List Vl}{u:Vl}{x:Vl}(k:Nat)(b:Vl)(hk:k < vs.length)(hw:WfV b):WfV (if inV x k=true then fdG vs u b k else b):=by
 split
 ·unfold fdG
  split
  ·exact hw
  ·exact uI hw (tZ lf hb _)
 ·exact hw
theorem akW{l:List Sg3}{n:Int}{vs:List Vl}{x:Vl}(hx:WfV x)(hR:Right l n)(hl:l.length≤1000)(v1:expand l=vs.map vc)(v2:∀ v∈vs,WfV v∧v.a.em=false)(v3:(vs.length:Int)=n):
  dO.f lf l n (vc x)=some (vc (ixF x (ldG vs) 0 vs.length Ev),0,()):=by
 have hn:=hR.n2
 have hlf:=hb.1
 have hck:=oO lf hb hR hl
 have run:=acG (S:=ldS lf (vc x)) (rep:=vc) (x:=x) (G:=ldG vs) (I:=fun _ b=>WfV b) (vs:=vs)
  (fun k hk b hw=>by rw[alC lf hb hx (v2 _ (List.getElem_mem hk)).1 hw (by omega),ldG,qA hk])
  (fun k b hk hw=>alB lf hb v2 k b hk hw) vs.length 0 Ev (by omega) Ev_V
 rw[List.drop_zero,show((0:Nat):Int)=0 from rfl]at run
 rw[dO.f,ajW lf hb hck.1 (chk_wf lf hb hx).1,bdS,show(((0:Int),()).1 != 0)=false from rfl,brF,abk lf hb,bdS,ajy lf hb (n:=n) (vc x) (vc Ev) hR.rs.chn (by omega) hl,v1,run,jl,bdS]
theorem akO{l:List Sg3}{n:Int}{vs:List Vl}{x u:Vl}(hx:WfV x)(hu:WfV u)(hR:Right l n)(hl:l.length≤1000)(v1:expand l=vs.map vc)(v2:∀ v∈vs,WfV v∧v.a.em=false)(v3:(vs.length:Int)=n):
  dV.f lf l n (vc x) (vc u)=some (vc (ixF x (fdG vs u) 0 vs.length Ev),0,()):=by
 have hn:=hR.n2
 have hlf:=hb.1
 have hck:=oO lf hb hR hl
 have run:=acG (S:=fdS lf (vc x) (vc u)) (rep:=vc) (x:=x) (G:=fdG vs u) (I:=fun _ b=>WfV b) (vs:=vs)
  (fun k hk b hw=>by rw[alr lf hb hx hu (v2 _ (List.getElem_mem hk)).1 hw (by omega),fdG,qA hk])
  (fun k b hk hw=>ahy lf hb k b hk hw) vs.length 0 Ev (by omega) Ev_V
 rw[List.drop_zero,show((0:Nat):Int)=0 from rfl]at run
 rw[dV.f,af0 lf hb hck.1 (chk_wf lf hb hx).1 (chk_wf lf hb hu).1,bdS,if_neg (by simp),show(((0:Int),()).1 != 0)=false from rfl,brF,abk lf hb,bdS,ajl lf hb (n:=n) (vc x) (vc u) (vc Ev) hR.rs.chn (by omega) hl,v1,run,jl,bdS]
end
end Go.N
namespace Go.N
open Go.IntKind (i64)
open Go Go.Q Go.Rx
abbrev St3:Type:=List V33×Int×Int
noncomputable def stS (lf:Nat) (x u:V33) (i:Int) (v:V33) (a:St3):Option (Empty ⊕ St3) :=
 bd (fM.f lf i) fun r4=>bd (dF.f lf x r4.1) fun r5=>bd (bn.f lf r5.1 r5.2.1) fun r6=>br r6.1 (bd (iq.f lf v u) fun r7=>bd (dI.f lf r7.1 r7.2.1) fun r8=>bd (idxB a.1.length i) fun j9=>bd (upE a.1 j9 fun _=>some r8.1) fun q10=>some (.inr (q10,i64.wrap (a.2.1+1),i))) (some (.inr a))
def stG(vs:List Vl)(u:Vl)(b:List Vl×Nat×Nat)(k:Nat):List Vl×Nat×Nat:=(b.1.set k (joinV (vs.getD k Ev) u),b.2.1+1,k)
def stR(b:List Vl×Nat×Nat):St3:=(b.1.map vc,(b.2.1:Int),(b.2.2:Int))
def stI(vs:List Vl)(k:Nat)(b:List Vl×Nat×Nat):Prop:=b.1.length=vs.length∧b.1.drop k=vs.drop k∧b.2.1≤k
theorem aiJ{vs:List Vl}{u x:Vl}(k:Nat)(b:List Vl×Nat×Nat)(hk:k < vs.length)(h:stI vs k b):stI vs (k+1) (if inV x k=true then stG vs u b k else b):=by
 obtain⟨h1,h2,h3⟩:=h
 have hd:b.1.drop (k+1)=vs.drop (k+1):=by
  have:=congrArg (List.drop 1) h2
  rwa [List.drop_drop,List.drop_drop]at this
 split
 ·refine⟨by simp[stG,h1],?_,by simp[stG];omega⟩
  simp only[stG]
  rw[List.drop_set_of_lt (by omega),hd]
 ·exact⟨h1,hd,by omega⟩
theorem aa9{vs:List Vl}{u x:Vl}:∀ (d k:Nat) (b:List Vl×Nat×Nat),(ixF x (stG vs u) k d b).2.1=b.2.1+(ixL x k d).length
 | 0,k,b=>by simp[ixF,ixL]
 | d+1,k,b=>by
  rw[ixF,aa9 d (k+1),ixL]
  split
  ·simp[stG];omega
  ·rfl
theorem ace{vs:List Vl}{u x:Vl}:∀ (d k:Nat) (b:List Vl×Nat×Nat),(ixF x (stG vs u) k d b).1.length=b.1.length
 | 0,k,b=>rfl
 | d+1,k,b=>by
  rw[ixF,ace d (k+1)]
  split
  ·simp[stG]
  ·rfl
abbrev flat3(a:St3):(List V33×Int×Int×Unit)×Unit:=((a.1,a.2.1,a.2.2,()),())
def stZ(vs:List Vl)(x u:Vl):List Sg3×Bool×Unit:=if(ixL x 0 vs.length).length=0∨u.a.em=true then([],false,())else(ofL 0 ((if(ixL x 0 vs.length).length=1 then vs.set ((ixL x 0 vs.length).headD 0).toNat u else(ixF x (stG vs u) 0 vs.length (vs,0,0)).1).map vc) [],true,())
section
variable (lf:Nat)(hb:Big lf)
include hb
theorem aiL{l:List Sg3}{n:Int}(x u:V33)(a:St3)(h:Chn n 0 l)(hn:n≤1000)(hl:l.length≤1000):
  bV.l0 lf l (l.length:Nat) x.1.1 x.1.2.1 x.1.2.2.1 x.2.1.1 x.2.1.2.1 x.2.1.2.2.1 u.1.1 u.1.2.1 u.1.2.2.1 u.2.1.1 u.2.1.2.1 u.2.1.2.2.1 [x,u] l x.1.1 x.1.2.1 x.1.2.2.1 x.2.1.1 x.2.1.2.1 x.2.1.2.2.1 l (lf+40) 0 a.1 a.2.1 a.2.2
   = contS (runE (stS lf x u) 0 (expand l) a) (fun r=>some (Empty.elim r)) fun a'=>some (flat3 a'):=by
 have:=pX (S:=stS lf x u) (l:=l) (L0:=fun n j a=>bV.l0 lf l (l.length:Nat) x.1.1 x.1.2.1 x.1.2.2.1 x.2.1.1 x.2.1.2.1 x.2.1.2.2.1 u.1.1 u.1.2.1 u.1.2.2.1 u.2.1.1 u.2.1.2.1 u.2.1.2.2.1 [x,u] l x.1.1 x.1.2.1 x.1.2.2.1 x.2.1.1 x.2.1.2.1 x.2.1.2.2.1 l n j a.1 a.2.1 a.2.2)
  (L1:=fun j y n i a=>bV.l1 lf l (l.length:Nat) j x.1.1 x.1.2.1 x.1.2.2.1 x.2.1.1 x.2.1.2.1 x.2.1.2.2.1 u.1.1 u.1.2.1 u.1.2.2.1 u.2.1.1 u.2.1.2.1 u.2.1.2.2.1 [x,u] l x.1.1 x.1.2.1 x.1.2.2.1 x.2.1.1 x.2.1.2.1 x.2.1.2.2.1 l y.1 y.2.1 y.2.2.1.1.1 y.2.2.1.1.2.1 y.2.2.1.1.2.2.1 y.2.2.1.2.1.1 y.2.2.1.2.1.2.1 y.2.2.1.2.1.2.2.1 n i a.1 a.2.1 a.2.2)
  (D:=fun z n j=>bV.l0 lf l (l.length:Nat) x.1.1 x.1.2.1 x.1.2.2.1 x.2.1.1 x.2.1.2.1 x.2.1.2.2.1 u.1.1 u.1.2.1 u.1.2.2.1 u.2.1.1 u.2.1.2.1 u.2.1.2.2.1 [x,u] l x.1.1 x.1.2.1 x.1.2.2.1 x.2.1.1 x.2.1.2.1 x.2.1.2.2.1 l n (i64.wrap (j+1)) z.1.1 z.1.2.1 z.1.2.2.1)
  (k1:=flat3) (e1:=fun r=>r.elim) (k0:=flat3) (e0:=fun r=>r.elim)
  (N:=n) (by omega) (q:=lf+40) (by have:=hb.1;omega) (by omega)
  (fun j s _ n i a=>by rw[bV.l1,bV.r1,stS];simp only[uw,vX,qJ,jl])
  (fun n j a=>by rw[bV.l0,bV.r0])
  (fun r n j=>r.elim) (fun a n j=>rfl) l.length (lf+40) 0 0 a (by omega) (by have:=hb.1;omega) (by simpa using h) (Int.le_refl _)
 rw[List.drop_zero]at this
 exact this
theorem aj1{l:List Sg3}{n:Int}{vs:List Vl}{x u:Vl}(hx:WfV x)(hu:WfV u)(hR:Right l n)(hl:l.length≤1000)(v1:expand l=vs.map vc)(v2:∀ v∈vs,WfV v∧v.a.em=false)(v3:(vs.length:Int)=n):
  bV.f lf l n (vc x) (vc u)=some ((stZ vs x u).1,(stZ vs x u).2.1,0,()):=by
 have hn:=hR.n2
 have hlf:=hb.1
 have hD:=ac3
 have hI0:stI vs 0 (vs,0,0):=⟨rfl,rfl,Nat.le_refl _⟩
 have hxl:=afv x vs.length 0
 have hck:=oO lf hb hR hl
 have run:=acG (S:=stS lf (vc x) (vc u)) (rep:=stR) (x:=x) (G:=stG vs u) (I:=stI vs) (vs:=vs)
  (fun k hk b hw=>by
   obtain⟨w1,w2,w3⟩:=hw
   rw[stS,bigOf lf (by omega) (by omega),bdS,wH lf hb hx ⟨by omega,by omega⟩,bdS,bn.f,bdS,acf lf hb (v2 _ (List.getElem_mem hk)).1 hu,bdS,dI.f,bdS]
   rw[show(stR b).1.length=b.1.length from List.length_map ..,bW _ _ (by omega),bdS,jU _ _ _ (by rw[show(stR b).1.length=b.1.length from List.length_map ..];omega),bdS]
   cases inV x k with
   | true =>
    rw[brT,if_pos rfl]
    simp only[stR,stG,List.map_set,qA hk]
    rw[w64 (by omega) (by omega)]
    rfl
   | false=>rw[brF,if_neg (by simp)])
  (fun k b hk hw=>aiJ k b hk hw) vs.length 0 (vs,0,0) (by omega) hI0
 rw[List.drop_zero,show((0:Nat):Int)=0 from rfl]at run
 have e0:bV.l0 lf l (l.length:Nat) (vc x).1.1 (vc x).1.2.1 (vc x).1.2.2.1 (vc x).2.1.1 (vc x).2.1.2.1 (vc x).2.1.2.2.1 (vc u).1.1 (vc u).1.2.1 (vc u).1.2.2.1 (vc u).2.1.1 (vc u).2.1.2.1 (vc u).2.1.2.2.1 [vc x,vc u] l (vc x).1.1 (vc x).1.2.1 (vc x).1.2.2.1 (vc x).2.1.1 (vc x).2.1.2.1 (vc x).2.1.2.2.1 l (lf+40) 0 (vs.map vc) 0 0=some (flat3 (stR (ixF x (stG vs u) 0 vs.length (vs,0,0)))):=by
  have:=aiL lf hb (n:=n) (vc x) (vc u) (stR (vs,0,0)) hR.rs.chn (by omega) hl
  rw[v1,run,jl]at this
  exact this
 have hcnt:=aa9 (vs:=vs) (u:=u) (x:=x) vs.length 0 (vs,0,0)
 rw[Nat.zero_add]at hcnt
 have hlen:=ace (vs:=vs) (u:=u) (x:=x) vs.length 0 (vs,0,0)
 have hone:=zn (x:=x) (G:=stG vs u) vs.length 0
 rw[bV.f,af0 lf hb hck.1 (chk_wf lf hb hx).1 (chk_wf lf hb hu).1,bdS,if_neg (by simp),show(((0:Int),()).1 != 0)=false from rfl,brF,ai0 lf hb hR.rs.chn (by omega) hl,bdS,v1,e0,bdS,show dX.f lf (vc u)=some (u.a.em,()) from rfl,bdS,stZ]
 simp only[flat3,stR,hcnt]
 by_cases h0:(ixL x 0 vs.length).length=0
 ·rw[show((((ixL x 0 vs.length).length:Nat):Int)==0)=true by simp[h0],brT,if_pos (.inl h0)]
 rw[show((((ixL x 0 vs.length).length:Nat):Int)==0)=false by simp;intro h;rw[h]at h0;exact h0 rfl,brF]
 cases hem:u.a.em with
 | true=>rw[brT,if_pos (.inr rfl)]
 | false =>
  rw[brF,if_neg (by simp;intro h;rw[h]at h0;exact h0 rfl)]
  by_cases h1:(ixL x 0 vs.length).length=1
  ·obtain⟨i,i1,i2,i3,i4⟩:=hone h1
   have hi:i < vs.length:=by omega
   have hset:((stG vs u (vs,0,0) i).1.map vc).set i (vc u)=(vs.set i u).map vc:=by
    simp only[stG,List.map_set,List.set_set]
   rw[i4,i3,show(((([(i:Int)]:List Int).length:Nat):Int)==1)=true from rfl,brT,if_pos (show([(i:Int)]:List Int).length=1 from rfl)]
   simp only[List.headD_cons,Int.toNat_natCast]
   rw[show(stG vs u (vs,0,0) i).2.2=i from rfl,List.length_map,show(stG vs u (vs,0,0) i).1.length=vs.length by simp[stG],bW _ _ hi,bdS,jU _ _ _ (by simp[stG];exact hi),bdS,hset,of_p lf hb (by simp;omega),bdS]
  ·rw[show((((ixL x 0 vs.length).length:Nat):Int)==1)=false by simp;omega,brF,if_neg h1,of_p lf hb (by rw[List.length_map,hlen];simp;omega),bdS]
end
end Go.N
namespace Go.N
open Go Go.Q Go.Rx
theorem aeQ(i:Int)(v:V33):ofStep i v []=[(i,i+1,v,())]:=rfl
theorem aeR(i:Int)(v:V33)(s:Sg3):ofStep i v [s]=if s.2.2.1=v then [(s.1,i+1,s.2.2.1,())]else [s,(i,i+1,v,())]:=rfl
theorem adZ(i:Int)(v:V33)(s t:Sg3)(r:List Sg3):ofStep i v (s::t::r)=s::ofStep i v (t::r):=by
 unfold ofStep
 rw[List.getLast?_cons_cons]
 cases (t::r).getLast? with
 | none=>rfl
 | some q =>
  simp only
  split<;>rfl
theorem step_ok{i:Int}{v:V33}(hv:GoodV v):∀ (out:List Sg3) (p:Option V33) (e:Int),RS i p e out→(out=[]→p≠some v)→RS (i+1) p e (ofStep i v out)∧expand (ofStep i v out)=expand out++[v]
 | [],p,e,h,hp=>by
  have h:e=i:=h
  subst h
  refine⟨⟨rfl,by show e < e+1;omega,Int.le_refl _,hv,hp rfl,rfl⟩,?_⟩
  simp only[aeQ,expand,List.flatMap_cons,List.flatMap_nil,show(e+1-e).toNat=1 by omega]
  rfl
 | [s],p,e,⟨h1,h2,h3,h4,h5,h6⟩,hp=>by
  have h6:s.2.1=i:=h6
  rw[aeR]
  by_cases hs:s.2.2.1=v
  ·rw[if_pos hs]
   refine⟨⟨h1,by show e < i+1;omega,Int.le_refl _,h4,h5,rfl⟩,?_⟩
   simp only[expand,List.flatMap_cons,List.flatMap_nil,List.append_nil]
   rw[show(i+1-s.1).toNat=(s.2.1-s.1).toNat+1 by omega,List.replicate_succ',hs]
  ·rw[if_neg hs]
   refine⟨⟨h1,h2,by omega,h4,h5,⟨h6.symm,by show s.2.1 < i+1;omega,Int.le_refl _,hv,fun h=>hs (Option.some.inj h),rfl⟩⟩,?_⟩
   simp only[expand,List.flatMap_cons,List.flatMap_nil,List.append_nil,show(i+1-i).toNat=1 by omega]
   rfl
 | s::t::r,p,e,⟨h1,h2,h3,h4,h5,h6⟩,hp=>by
  rw[adZ]
  obtain⟨a,b⟩:=step_ok hv (t::r) (some s.2.2.1) s.2.1 h6 (fun h=>by cases h)
  refine⟨⟨h1,h2,by omega,h4,h5,a⟩,?_⟩
  unfold expand at b⊢
  rw[List.flatMap_cons,b,List.flatMap_cons (x:=s) (xs:=t::r),List.append_assoc]
theorem ah8:∀ (l:List V33) (i:Int) (out:List Sg3),RS i none 0 out→(∀ x∈l,GoodV x)→RS (i+l.length) none 0 (ofL i l out)∧expand (ofL i l out)=expand out++l
 | [],i,out,h,hg=>by simpa [ofL]using h
 | v::l,i,out,h,hg=>by
  obtain⟨a,b⟩:=step_ok (hg v (List.mem_cons_self ..)) out none 0 h (fun _=>by simp)
  obtain⟨c,d⟩:=ah8 l (i+1) _ a fun x hx=>hg x (List.mem_cons_of_mem _ hx)
  rw[ofL]
  refine⟨?_,by rw[d,b,List.append_assoc];rfl⟩
  rw[show i+((v::l).length:Nat)=i+1+(l.length:Nat) by simp;omega]
  exact c
theorem ah9{l:List V33}{n:Int}(h1:1≤n)(h2:n≤32)(hl:(l.length:Int)=n)(hg:∀ x∈l,GoodV x):Right (ofL 0 l []) n∧expand (ofL 0 l [])=l:=by
 obtain⟨a,b⟩:=ah8 l 0 [] rfl hg
 rw[Int.zero_add,hl]at a
 have b:expand (ofL 0 l [])=l:=b
 refine⟨⟨h1,h2,fun e=>?_,a⟩,b⟩
 rw[e]at b
 have:=congrArg List.length b
 simp[expand]at this;omega
end Go.N
namespace Go.N
open Go Go.Q Go.Rx
theorem ahL{z:Int}(h: -Dd < z∧z < Dd):inV (oneV z) z=true:=by
 have hk: -K < z∧z < K:=by have:=Dd_K;omega
 unfold oneV
 split
 ·simp[inV,onev,inS,inC,ofA,lox,hix,key,dvd']
 ·unfold inV
  rw[ahN,Bool.and_true]
  simp[inS,ofA,lox,hix,key];omega
theorem ahU{vs:List Vl}{x:Vl}(h:∀ v∈vs,WfV v∧v.a.em=false){z:Int}(hz: -K < z∧z < K):∀ (d k:Nat) (b:Vl),k+d=vs.length→WfV b→
  (inV b z=true∨∃ i:Nat,k≤i∧∃ hi:i < vs.length,inV x i=true∧inV vs[i] z=true)→inV (ixF x (ldG vs) k d b) z=true
 | 0,k,b,hk,hb,hin=>by
  rcases hin with h1 | ⟨i,i1,i2,_⟩
  ·exact h1
  ·omega
 | d+1,k,b,hk,hb,hin=>by
  have hkv:k < vs.length:=by omega
  have hvk:=(h _ (List.getElem_mem hkv)).1
  rw[ixF]
  by_cases c:inV x k=true
  ·rw[if_pos c,ldG,qA hkv]
   refine ahU h hz d (k+1) _ (by omega) (uI hb hvk) ?_
   rcases hin with h1 | ⟨i,i1,i2,i3,i4⟩
   ·exact .inl (xR hb hvk hz h1)
   ·by_cases e:i=k
    ·subst e;exact .inl (xU hb hvk hz i4)
    ·exact .inr ⟨i,by omega,i2,i3,i4⟩
  ·rw[if_neg c]
   refine ahU h hz d (k+1) b (by omega) hb ?_
   rcases hin with h1 | ⟨i,i1,i2,i3,i4⟩
   ·exact .inl h1
   ·by_cases e:i=k
    ·subst e;exact absurd i3 c
    ·exact .inr ⟨i,by omega,i2,i3,i4⟩
theorem ld_V{vs:List Vl}{x:Vl}(h:∀ v∈vs,WfV v∧v.a.em=false):∀ (d k:Nat) (b:Vl),k+d=vs.length→WfV b→WfV (ixF x (ldG vs) k d b)
 | 0,k,b,hk,hb=>hb
 | d+1,k,b,hk,hb=>by
  have hkv:k < vs.length:=by omega
  have hvk:=(h _ (List.getElem_mem hkv)).1
  rw[ixF]
  refine ld_V h d (k+1) _ (by omega) ?_
  split
  ·rw[ldG,qA hkv];exact uI hb hvk
  ·exact hb
section
variable (lf:Nat)(hb:Big lf)
include hb
theorem fd_V{vs:List Vl}{x u:Vl}:∀ (d k:Nat) (b:Vl),k+d=vs.length→WfV b→WfV (ixF x (fdG vs u) k d b)
 | 0,k,b,hk,hw=>hw
 | d+1,k,b,hk,hw=>by
  rw[ixF]
  exact fd_V d (k+1) _ (by omega) (ahy lf hb k b (by omega) hw)
theorem akn{vs:List Vl}{x u:Vl}(h:∀ v∈vs,WfV v∧v.a.em=false)(hu:WfV u)(hl:vs.length≤900){i:Nat}:∀ (d k:Nat) (b:Vl),k+d=vs.length→WfV b→
  (inV b i=true∨k≤i∧∃ hi:i < vs.length,inV x i=true∧∃ z:Int,(-K < z∧z < K)∧inV vs[i] z=true∧inV u z=true)→i≤900→inV (ixF x (fdG vs u) k d b) i=true
 | 0,k,b,hk,hw,hin,hi=>by
  rcases hin with h1 | ⟨i1,i2,_⟩
  ·exact h1
  ·omega
 | d+1,k,b,hk,hw,hin,hi=>by
  have hkv:k < vs.length:=by omega
  have hvk:=(h _ (List.getElem_mem hkv)).1
  have hD:=ac3
  have hK:=K_gt
  rw[ixF]
  refine akn h hu hl d (k+1) _ (by omega) (ahy lf hb k b hkv hw) ?_ hi
  by_cases c:inV x k=true
  ·rw[if_pos c,fdG,qA hkv]
   rcases hin with h1 | ⟨i1,i2,i3,z,z1,z2,z3⟩
   ·left
    split
    ·exact h1
    ·exact xR hw (tZ lf hb _) ⟨by omega,by omega⟩ h1
   ·by_cases e:i=k
    ·subst e
     left
     have hm:=ajq hvk hu z1 z2 z3
     rw[if_neg (by rw[akQ (ak0 hvk hu) hm];simp)]
     exact xU hw (tZ lf hb _) ⟨by omega,by omega⟩ (ahL ⟨by omega,by omega⟩)
    ·exact .inr ⟨by omega,i2,i3,z,z1,z2,z3⟩
  ·rw[if_neg c]
   rcases hin with h1 | ⟨i1,i2,i3,z,z1,z2,z3⟩
   ·exact .inl h1
   ·by_cases e:i=k
    ·subst e;exact absurd i3 c
    ·exact .inr ⟨by omega,i2,i3,z,z1,z2,z3⟩
end
theorem aiK{vs:List Vl}{x u:Vl}:∀ (d k:Nat) (b:List Vl×Nat×Nat),k+d=vs.length→b.1.length=vs.length→∀ (i:Nat) (hi:i < vs.length),
  (ixF x (stG vs u) k d b).1[i]? = if k≤i∧inV x i=true then some (joinV vs[i] u)else b.1[i]?
 | 0,k,b,hk,hb,i,hi=>by rw[ixF,if_neg (by omega)]
 | d+1,k,b,hk,hb,i,hi=>by
  have hkv:k < vs.length:=by omega
  rw[ixF,aiK d (k+1) _ (by omega) (by split;simp[stG,hb];exact hb) i hi]
  by_cases e:k=i
  ·subst e
   rw[if_neg (by omega)]
   by_cases c:inV x k=true
   ·rw[if_pos c,if_pos ⟨Nat.le_refl _,c⟩]
    simp only[stG]
    rw[List.getElem?_set_self (by omega),qA hkv]
   ·rw[if_neg c,if_neg (fun h=>c h.2)]
  ·by_cases c:k≤i∧inV x i=true
   ·rw[if_pos c,if_pos ⟨by omega,c.2⟩]
   ·rw[if_neg c,if_neg (fun h=>c ⟨by omega,h.2⟩)]
    split
    ·simp only[stG];rw[List.getElem?_set_ne e]
    ·rfl
def stV(vs:List Vl)(x u:Vl):List Vl:=if(ixL x 0 vs.length).length=1 then vs.set ((ixL x 0 vs.length).headD 0).toNat u else(ixF x (stG vs u) 0 vs.length (vs,0,0)).1
theorem uS(vs:List Vl)(x u:Vl):(stV vs x u).length=vs.length:=by
 unfold stV
 split
 ·simp
 ·rw[ace]
theorem wJ{x:Vl}{i:Nat}(h:inV x i=true):∀ (d k:Nat),k≤i→i < k+d→(i:Int)∈ixL x k d
 | 0,k,h1,h2=>by omega
 | d+1,k,h1,h2=>by
  rw[ixL]
  by_cases e:k=i
  ·subst e;rw[if_pos h];exact List.mem_cons_self ..
  ·have:=wJ h d (k+1) (by omega) (by omega)
   split
   ·exact List.mem_cons_of_mem _ this
   ·exact this
theorem af7{vs:List Vl}{x u:Vl}{i:Nat}(hi:i < vs.length):∃ v,(stV vs x u)[i]? = some v∧(v=joinV vs[i] u∨v=vs[i]∧inV x i=false∨v=u∧inV x i=true∧(ixL x 0 vs.length).length=1):=by
 unfold stV
 by_cases h1:(ixL x 0 vs.length).length=1
 ·rw[if_pos h1]
  obtain⟨j,j1,j2,j3,_⟩:=zn (x:=x) (G:=fun(b:Unit) _=>b) vs.length 0 h1
  rw[j3]
  simp only[List.headD_cons,Int.toNat_natCast]
  by_cases e:j=i
  ·subst e
   refine⟨u,List.getElem?_set_self hi,.inr (.inr ⟨rfl,?_,by rw[←j3];exact h1⟩)⟩
   cases c:inV x j with
   | true=>rfl
   | false =>
    have:∀ (d k:Nat),(j:Int)∉ixL x k d:=by
     intro d
     induction d with
     | zero=>intro k hm;cases hm
     | succ d ih =>
      intro k hm
      rw[ixL]at hm
      split at hm
      ·rename_i h
       rcases List.mem_cons.1 hm with e | hm
       ·have:j=k:=by omega
        subst this;rw[c]at h;cases h
       ·exact ih _ hm
      ·exact ih _ hm
    exact absurd (by rw[j3];exact List.mem_cons_self ..) (this vs.length 0)
  ·refine⟨vs[i],by rw[List.getElem?_set_ne e,List.getElem?_eq_getElem hi],.inr (.inl ⟨rfl,?_⟩)⟩
   cases c:inV x i with
   | false=>rfl
   | true =>
    have:=wJ c vs.length 0 (Nat.zero_le _) (by omega)
    rw[j3]at this
    simp at this;omega
 ·rw[if_neg h1,aiK (vs:=vs) vs.length 0 (vs,0,0) (by omega) rfl i hi]
  simp only
  by_cases c:inV x i=true
  ·rw[if_pos ⟨Nat.zero_le _,c⟩];exact⟨_,rfl,.inl rfl⟩
  ·rw[if_neg (fun h=>c h.2)]
   exact⟨vs[i],List.getElem?_eq_getElem hi,.inr (.inl ⟨rfl,Bool.eq_false_iff.2 c⟩)⟩
theorem ael{vs:List Vl}{zs:List Int}(h:∀ (i:Nat) v z,vs[i]? = some v→zs[i]? = some z→inV v z=true):(List.zipWith inV vs zs).all id=true:=by
 rw[List.all_eq_true]
 intro c hc
 obtain⟨i,hi,rfl⟩:=List.getElem_of_mem hc
 rw[List.length_zipWith]at hi
 rw[List.getElem_zipWith]
 exact h i _ _ (List.getElem?_eq_getElem (by omega)) (List.getElem?_eq_getElem (by omega))
section
variable (lf:Nat)(hb:Big lf)
include hb
theorem agL{l:List Sg3}{es:List ByteArray}(hR:Right l (es.length:Nat))(hl:l.length≤1000)(hes:∀ b∈es,b.data.toList.length≤1000)(hE:errI es≠0):bD.f lf l es=some (false,errI es,()):=by
 have hn:=hR.n2
 have e1:=ab6 lf hb (l:=l) hes (by omega) es.length (lf+40) 0 (by omega) (by have:=hb.1;omega)
 rw[show((0:Nat):Int)=0 from rfl,List.drop_zero]at e1
 rw[bD.f,(oO lf hb hR hl).1,bdS,show(((0:Int),()).1 != 0)=false from rfl,brF,e1,bdS,show eZ (errI es)=(true,(errI es,()),(),()) by unfold eZ;rw[if_neg hE],brT]
theorem aji{es:List ByteArray}(h:∀ b∈es,chk b.data.toList=0):errI es=0:=by
 induction es with
 | nil=>rfl
 | cons b es ih =>
  rw[errI,if_neg (by simpa using h b (List.mem_cons_self ..))]
  exact ih fun c hc=>h c (List.mem_cons_of_mem _ hc)
theorem ajd{z:Int}(h: -Dd < z∧z < Dd):chk (itb z).data.toList=0:=by
 have:=Dd_K
 have hz:(itb z).data.toList=Lib.itoa z:=by unfold itb bs;simp
 rw[hz]
 exact(mO z).2 ⟨by omega,by omega⟩
theorem aae{l:List Sg3}{zs:List Int}{vs:List Vl}(hR:Right l (zs.length:Nat))(hl:l.length≤1000)(hes:∀ b∈zs.map itb,b.data.toList.length≤1000)(hz:∀ z∈zs,-Dd < z∧z < Dd)(v1:expand l=vs.map vc)(v2:∀ v∈vs,WfV v∧v.a.em=false)(v3:vs.length=zs.length):
  bD.f lf l (zs.map itb)=some ((List.zipWith inV vs zs).all id,0,()):=by
 have hn:=hR.n2
 have hbz:∀ b∈zs.map itb,chk b.data.toList=0:=fun b hb'=>by
  obtain⟨z,hz',rfl⟩:=List.mem_map.1 hb'
  exact ajd lf hb (hz z hz')
 have e1:=ab6 lf hb (l:=l) (es:=zs.map itb) hes (by rw[List.length_map];omega) (zs.map itb).length (lf+40) 0 (by omega) (by have:=hb.1;rw[List.length_map];omega)
 rw[show((0:Nat):Int)=0 from rfl,List.drop_zero,aji lf hb hbz]at e1
 have hp:=air (lf:=lf) (zs:=zs) vs 0 (by omega) (fun v hv z hz'=>wH lf hb (v2 v hv).1 (hz z hz'))
 rw[show((0:Nat):Int)=0 from rfl,List.drop_zero]at hp
 have hck:=(oO lf hb hR hl).1
 rw[←List.length_map (f:=itb)]at hck
 rw[bD.f,hck,bdS,show(((0:Int),()).1 != 0)=false from rfl,brF,e1,bdS,show eZ 0=(false,(0,()),(),()) from rfl,brF,ahF lf hb (n:=(zs.length:Nat)) (zs.map itb) hR.rs.chn (by omega) hl,v1,hp]
 cases (List.zipWith inV vs zs).all id with
 | true=>simp only[if_true,Option.map_some,bdS,lqZ,brF]
 | false=>simp only[Bool.false_eq_true,if_false,Option.map_some,bdS,lqZ,brT]
end
end Go.N
namespace Go.N
open Go Go.Q
theorem ai7(lf:Nat):aQ.f lf=some (true,()):=by kernel_rfl
end Go.N
namespace Go.Q
open Go Go.RowKit Go.ChangeShapes Go.WideShapes
def flat:Ty→Bool
 | .sl _=>false
 | .pair a b=>flat a&&flat b
 | _=>true
def partsOf(P:Program)(t:TypeId):List (TypeId×Nat):=match P.underlying t with
 | some (.struct fs)=>fs.toList.map fun f=>(f.type,f.offset)
 | some (.array n e)=>(List.range n).map fun i=>(e,i*P.cellsOf e)
 | _=>[]
mutual
def fitT(P:Program):Ty→TypeId→Bool
 | .int k,t=>match P.underlying t with
  | some (.int k')=>decide (k'=k)
  | _=>false
 | .bool,t=>match P.underlying t with
  | some .bool=>true
  | _=>false
 | .str,t=>match P.underlying t with
  | some .string=>true
  | _=>false
 | .unit,_=>false
 | .nul,_=>false
 | .pair a b,t=>match partsOf P t with
  | p::r=>p.2==0&&(fitT P a p.1&&(P.cellsOf p.1==a.n&&(fitL P b r a.n&&P.cellsOf t==a.n+b.n)))
  | []=>false
 | .sl e,t=>match P.underlying t with
  | some (.slice e')=>fitT P e e'&&(flat e&&P.cellsOf e'==e.n)
  | _=>false
def fitL(P:Program):Ty→List (TypeId×Nat)→Nat→Bool
 | .unit,l,_=>match l with
  | []=>true
  | _=>false
 | .pair a b,l,k=>match l with
  | p::r=>p.2==k&&(fitT P a p.1&&(P.cellsOf p.1==a.n&&fitL P b r (k+a.n)))
  | []=>false
 | _,_,_=>false
end
def Bnd:(T:Ty)→T.α→Prop
 | .int k,x=>k.min≤x∧x≤k.max
 | .str,x=>x.size≤9223372036854775807
 | .pair a b,x=>Bnd a x.1∧Bnd b x.2
 | .sl e,l=>l.length≤9223372036854775807∧∀ y∈l,Bnd e y
 | _,_=>True
def Bnds:(ps:List Ty)→Tys ps→Prop
 | [],_=>True
 | t::ts,x=>Bnd t x.1∧Bnds ts x.2
section
variable {H:Type}{enc:TypeId×Value→H}{P:Program}{w:World}{F:Nat→Prop}{sp:Nat→Bool}{held:Bool}
theorem ae4{t:TypeId}{fuel:Nat}{cs:List Value}{x:DataW H×List MemPlace}(hp:partsOf P t≠[])(h:DataW.trod enc P w 0 sp held fuel t cs=some x):
  cs.length=P.cellsOf t∧∃ n,∀ p∈partsOf P t,∃ y,DataW.trod enc P w 0 sp held n p.1 ((cs.drop p.2).take (P.cellsOf p.1))=some y:=by
 unfold partsOf at hp⊢
 split at hp
 ·rename_i fs hu
  obtain⟨xs,n,_,_,hl,hxl,hf⟩:=DataW.trod_struct hu h
  refine⟨hl,n,fun p hm=>?_⟩
  simp only[List.mem_map]at hm
  obtain⟨f,hfm,rfl⟩:=hm
  obtain⟨i,hi,he⟩:=List.mem_iff_getElem.1 hfm
  have h1:fs[i]? = some f:=by
   have:fs.toList[i]? = some f:=by rw[List.getElem?_eq_getElem hi,he]
   simpa using this
  have h2:i < xs.length:=by
   rw[hxl];simpa using hi
  exact⟨xs[i],by rw[hf i f h1,List.getElem?_eq_getElem h2]⟩
 ·rename_i n e hu
  obtain⟨xs,m,_,_,hl,hxl,hf⟩:=DataW.trod_array hu h
  refine⟨hl,m,fun p hm=>?_⟩
  simp only[List.mem_map,List.mem_range]at hm
  obtain⟨i,hi,rfl⟩:=hm
  exact⟨xs[i],by rw[hf i hi,List.getElem?_eq_getElem (by omega)]⟩
 ·exact absurd rfl hp
mutual
theorem rC:∀ (T:Ty) (t:TypeId) (cs:List Value) (x:DataW H×List MemPlace) (fuel:Nat),flat T=true→fitT P T t=true→DataW.trod enc P w 0 sp held fuel t cs=some x→∃ y:T.α,DR F w T y cs∧Bnd T y
 | .int k,t,cs,x,fuel,_,hf,h=>by
  unfold fitT at hf
  split at hf
  ·rename_i k' hu
   obtain rfl:k'=k:=by simpa using hf
   obtain⟨n,rfl,_,hw⟩:=DataW.trod_int hu h
   exact⟨n,rfl,by simpa [Lit.wf,Bnd]using hw⟩
  ·cases hf
 | .bool,t,cs,x,fuel,_,hf,h=>by
  unfold fitT at hf
  split at hf
  ·rename_i hu
   obtain⟨b,rfl,_⟩:=DataW.trod_bool hu h
   exact⟨b,rfl,trivial⟩
  ·cases hf
 | .str,t,cs,x,fuel,_,hf,h=>by
  unfold fitT at hf
  split at hf
  ·rename_i hu
   obtain⟨s,rfl,_,hs⟩:=DataW.trod_string hu h
   exact⟨s,rfl,by simpa [maxLen,Bnd]using hs⟩
  ·cases hf
 | .unit,t,cs,x,fuel,_,hf,h=>by simp[fitT]at hf
 | .nul,t,cs,x,fuel,_,hf,h=>by simp[fitT]at hf
 | .sl e,t,cs,x,fuel,hfl,_,_=>by simp[flat]at hfl
 | .pair a b,t,cs,x,fuel,hfl,hf,h=>by
  unfold fitT at hf
  split at hf
  ·rename_i p r hp
   simp only[Bool.and_eq_true,beq_iff_eq]at hf
   obtain⟨h0,h1,h2,h3,h4⟩:=hf
   simp only[flat,Bool.and_eq_true]at hfl
   obtain⟨hl,n,hm⟩:=ae4 (by rw[hp];simp) h
   rw[hp]at hm
   obtain⟨y0,hy0⟩:=hm p (by simp)
   rw[h0,h2]at hy0
   obtain⟨u,d1,b1⟩:=rC a p.1 _ _ n hfl.1 h1 hy0
   obtain⟨v,d2,b2⟩:=adp b r a.n cs n hfl.2 h3 (fun q hq=>hm q (by simp[hq])) (by omega)
   refine⟨(u,v),⟨_,_,?_,d1,d2⟩,b1,b2⟩
   have e:(cs.drop a.n).take b.n=cs.drop a.n:=List.take_of_length_le (by rw[List.length_drop];omega)
   rw[e];simp
  ·cases hf
theorem adp:∀ (T:Ty) (l:List (TypeId×Nat)) (k:Nat) (cs:List Value) (n:Nat),flat T=true→fitL P T l k=true→(∀ p∈l,∃ y,DataW.trod enc P w 0 sp held n p.1 ((cs.drop p.2).take (P.cellsOf p.1))=some y)→k+T.n≤cs.length→∃ y:T.α,DR F w T y ((cs.drop k).take T.n)∧Bnd T y
 | .int k',l,k,cs,n,_,hf,_,_=>by simp[fitL]at hf
 | .bool,l,k,cs,n,_,hf,_,_=>by simp[fitL]at hf
 | .str,l,k,cs,n,_,hf,_,_=>by simp[fitL]at hf
 | .nul,l,k,cs,n,_,hf,_,_=>by simp[fitL]at hf
 | .sl _,l,k,cs,n,_,hf,_,_=>by simp[fitL]at hf
 | .unit,l,k,cs,n,_,hf,_,_=>⟨(),by simp[DR,Ty.n],trivial⟩
 | .pair a b,l,k,cs,n,hfl,hf,hm,hk=>by
  unfold fitL at hf
  split at hf
  ·rename_i p r
   simp only[Bool.and_eq_true,beq_iff_eq]at hf
   obtain⟨h0,h1,h2,h3⟩:=hf
   simp only[flat,Bool.and_eq_true]at hfl
   simp only[Ty.n]at hk
   obtain⟨y0,hy0⟩:=hm p (by simp)
   rw[h0,h2]at hy0
   obtain⟨u,d1,b1⟩:=rC a p.1 _ _ n hfl.1 h1 hy0
   obtain⟨v,d2,b2⟩:=adp b r (k+a.n) cs n hfl.2 h3 (fun q hq=>hm q (by simp[hq])) (by omega)
   refine⟨(u,v),⟨_,_,?_,d1,d2⟩,b1,b2⟩
   simp only[Ty.n]
   rw[List.take_add,List.drop_drop]
  ·cases hf
end
theorem afz{α:Type}{R:Nat→α→Prop}:∀ (n:Nat),(∀ i,i < n→∃ y,R i y)→∃ l:List α,l.length=n∧∀ (i:Nat) (y:α),l[i]? = some y→R i y
 | 0,_=>⟨[],rfl,fun i y h=>by simp at h⟩
 | n+1,h=>by
  obtain⟨l,hl,hr⟩:=afz n fun i hi=>h i (by omega)
  obtain⟨y,hy⟩:=h n (by omega)
  refine⟨l++[y],by simp[hl],fun i z hz=>?_⟩
  by_cases hi:i < l.length
  ·rw[List.getElem?_append_left hi]at hz;exact hr i z hz
  ·rw[List.getElem?_append_right (by omega)]at hz
   have:i=l.length:=by
    by_cases e:i-l.length=0
    ·omega
    ·obtain⟨q,hq⟩:=Nat.exists_eq_succ_of_ne_zero e
     rw[hq]at hz;simp at hz
   subst this
   simp only[Nat.sub_self,List.getElem?_cons_zero,Option.some.injEq]at hz
   subst hz;rw[hl];exact hy
def topOK:Ty→Bool
 | .sl e=>flat e
 | T=>flat T
theorem ac4(b o n:Nat):(Addr.add ⟨b,o,none⟩ n)=⟨b,o+n,none⟩:=by
 unfold Addr.add;split
 ·rename_i h;rw[h];rfl
 ·rfl
theorem agP{i:Nat}{q:TypeId×Nat}(h:w.shape? i=some q):IsC w i:=by
 unfold World.shape? at h
 unfold IsC
 cases hb:w.heap[i]? with
 | none=>rw[hb]at h;simp at h
 | some o=>cases o<;>rw[hb]at h<;>simp_all
theorem acX{T:Ty}{t:TypeId}{v:Value}{d:DataW H}{p:List MemPlace}{base:Nat}(ht:topOK T=true)(hf:fitT P T t=true)(hv:Value.okWide P w .any base t v)(h:DataW.Trod enc P w 0 sp held t v d p):∃ y:T.α,ValR (IsC w) w T y v∧Bnd T y:=by
 obtain⟨fuel,h⟩:=h
 unfold ValR
 cases T with
 | int k =>
  obtain⟨y,h1,h2⟩:=rC (F:=IsC w) (.int k) t _ _ fuel rfl hf h
  unfold fitT at hf
  split at hf
  ·rename_i k' hu
   obtain⟨n,rfl⟩:=okWide_int hu hv
   exact⟨y,by rw[if_neg (by simp[isSt])];simpa [Value.cells]using h1,h2⟩
  ·cases hf
 | bool =>
  obtain⟨y,h1,h2⟩:=rC (F:=IsC w) .bool t _ _ fuel rfl hf h
  unfold fitT at hf
  split at hf
  ·rename_i hu
   obtain⟨n,rfl⟩:=okWide_bool hu hv
   exact⟨y,by rw[if_neg (by simp[isSt])];simpa [Value.cells]using h1,h2⟩
  ·cases hf
 | str =>
  obtain⟨y,h1,h2⟩:=rC (F:=IsC w) .str t _ _ fuel rfl hf h
  unfold fitT at hf
  split at hf
  ·rename_i hu
   obtain⟨n,rfl⟩:=okWide_string hu hv
   exact⟨y,by rw[if_neg (by simp[isSt])];simpa [Value.cells]using h1,h2⟩
  ·cases hf
 | unit=>simp[fitT]at hf
 | nul=>simp[fitT]at hf
 | pair a b =>
  obtain⟨y,h1,h2⟩:=rC (F:=IsC w) (.pair a b) t _ _ fuel ht hf h
  obtain⟨cs,rfl⟩:∃ cs,v=.agg cs:=by
   unfold fitT at hf
   split at hf
   ·rename_i q r hp
    unfold partsOf at hp
    unfold Value.okWide at hv
    split at hp
    ·rename_i fs hu
     rw[hu]at hv
     obtain⟨cs,e,_⟩:=hv
     exact⟨cs,e⟩
    ·rename_i n e hu
     rw[hu]at hv
     obtain⟨cs,e,_⟩:=hv
     exact⟨cs,e⟩
    ·cases hp
   ·cases hf
  exact⟨y,by rw[if_pos (show isSt (.pair a b)=true from rfl)];exact⟨cs.toList,by simp,h1⟩,h2⟩
 | sl e =>
  unfold fitT at hf
  split at hf
  ·rename_i e' hu
   simp only[Bool.and_eq_true,beq_iff_eq]at hf
   obtain⟨h1,h2,h3⟩:=hf
   obtain⟨a,len,cap,rfl⟩:=okWide_slice hu hv
   rcases DataW.trod_slice hu h with⟨hc,_⟩ | ⟨a',len',cap',elems,rest,n,_,hc,_,_,hle,hcm,hel,hread,_⟩
   ·simp only[Value.cells,List.cons.injEq,Value.slice.injEq,and_true]at hc
    obtain⟨rfl,rfl,rfl⟩:=hc
    exact⟨[],by rw[if_neg (by simp[isSt])];exact⟨_,rfl,.inl ⟨rfl,rfl⟩⟩,by simp[Bnd]⟩
   ·simp only[Value.cells,List.cons.injEq,Value.slice.injEq,and_true]at hc
    obtain⟨rfl,rfl,rfl⟩:=hc
    have hhas:w.has P .any base a' e' cap:=by
     unfold Value.okWide Cell.okWide Cell.ok at hv
     rw[hu]at hv
     exact hv.2.2
    obtain⟨_,hspot,row,cells,hsh,_⟩:=hhas
    obtain⟨b,o,s⟩:=a'
    simp only at hspot;subst hspot
    have hisc:IsC w b:=agP hsh
    obtain⟨l,hl,hr⟩:=afz (α:=e.α) (R:=fun i y=>(∃ ds:List Value,DR (IsC w) w e y ds∧∀ (j:Nat) (d:Value),ds[j]? = some d→w.cell? ⟨b,o+(i*e.n+j),none⟩=some d)∧Bnd e y) len fun i hi=>by
     have hq:=hread i hi
     rw[List.getElem?_eq_getElem (by omega),Option.bind_eq_some_iff]at hq
     obtain⟨cs,c1,c2⟩:=hq
     obtain⟨y,k1,k2⟩:=rC (F:=IsC w) e e' cs _ n h2 h1 c2
     refine⟨y,⟨cs,k1,fun j d' hd=>?_⟩,k2⟩
     obtain⟨_,m1,m2⟩:=World.cells?_some c1
     have hj:j < cs.length:=(List.getElem?_eq_some_iff.1 hd).1
     have:=m2 j (by omega)
     rw[ac4,ac4,h3]at this
     rw[←Nat.add_assoc,this];exact hd
    refine⟨l,?_,?_,?_⟩
    ·rw[if_neg (by simp[isSt])]
     refine⟨_,rfl,.inr ⟨b,o,cap,by rw[hl],hisc,by omega,fun i x hx=>(hr i x hx).1⟩⟩
    ·rw[hl];simp only[maxLen]at hcm;omega
    ·intro y hy
     obtain⟨i,hi,he⟩:=List.mem_iff_getElem.1 hy
     exact(hr i y (by rw[List.getElem?_eq_getElem hi,he])).2
  ·cases hf
def fitAll(P:Program):List Ty→List TypeId→Bool
 | [],[]=>true
 | T::Ts,t::ts=>(topOK T&&fitT P T t)&&fitAll P Ts ts
 | _,_=>false
theorem uY:∀ {Ts:List Ty} {ts:List TypeId} {vs:List Value} {ds:List (DataW H)} {p:List MemPlace} {base:Nat},fitAll P Ts ts=true→(∀ (j:Nat) t v,ts[j]? = some t→vs[j]? = some v→Value.okWide P w .any base t v)→
  DataW.TrodAll enc P w 0 sp held ts vs ds p→∃ x:Tys Ts,ArgsR (IsC w) w Ts x vs∧Bnds Ts x
 | [],[],vs,ds,p,base,_,_,h=>by
  cases vs with
  | nil=>exact⟨(),rfl,trivial⟩
  | cons _ _=>cases ds<;>exact absurd h (by simp[DataW.TrodAll])
 | [],_::_,vs,ds,p,base,hf,_,h=>by simp[fitAll]at hf
 | _::_,[],vs,ds,p,base,hf,_,h=>by simp[fitAll]at hf
 | T::Ts,t::ts,vs,ds,p,base,hf,hv,h=>by
  simp only[fitAll,Bool.and_eq_true]at hf
  cases vs with
  | nil=>cases ds<;>exact absurd h (by simp[DataW.TrodAll])
  | cons v vs =>
   cases ds with
   | nil=>exact absurd h (by simp[DataW.TrodAll])
   | cons d ds =>
    obtain⟨p1,p2,h1,h2,_⟩:=h
    obtain⟨y,k1,k2⟩:=acX hf.1.1 hf.1.2 (hv 0 t v rfl rfl) h1
    obtain⟨x,m1,m2⟩:=uY hf.2 (fun j t' v' a b=>hv (j+1) t' v' (by simpa using a) (by simpa using b)) h2
    exact⟨(y,x),⟨v,vs,rfl,k1,m1⟩,k2,m2⟩
theorem vg{W W':World}(hl:laidOutB P=true)(hb:Below W.heap.size W W'):∀ {ts:List TypeId} {vs:List Value} {ds:List (DataW H)} {p:List MemPlace},(ts.all fun t=>P.readableRec t&&decide (t < P.types.size))=true→
  DataW.TrodAll enc P W 0 (fun _=>true) true ts vs ds p→DataW.TrodAll enc P W' 0 (fun b=>decide (b < W.heap.size)) true ts vs ds p
 | [],vs,ds,p,_,h=>by cases vs<;>cases ds<;>simp_all [DataW.TrodAll]
 | t::ts,vs,ds,p,ha,h=>by
  cases vs with
  | nil=>cases ds<;>exact absurd h (by simp[DataW.TrodAll])
  | cons v vs =>
   cases ds with
   | nil=>exact absurd h (by simp[DataW.TrodAll])
   | cons d ds =>
    simp only[List.all_cons,Bool.and_eq_true,decide_eq_true_eq]at ha
    obtain⟨p1,p2,h1,h2,rfl⟩:=h
    have hlt:∀ x∈p1,x.block < W.heap.size:=by
     obtain⟨m,hm⟩:=h1
     exact DataW.trod_lt m _ _ _ hm
    exact⟨p1,p2,Below.trod hl ha.1.1 ha.1.2 h1 hb hlt,vg hl hb ha.2 h2,rfl⟩
theorem aeg{ts:List TypeId}:∀ {vs:List Value} {ds:List (DataW H)} {p:List MemPlace},DataW.TrodAll enc P w 0 sp held ts vs ds p→ds.length=ts.length:=by
 induction ts with
 | nil=>intro vs ds p h;cases vs<;>cases ds<;>simp_all [DataW.TrodAll]
 | cons t ts ih =>
  intro vs ds p h
  cases vs with
  | nil=>cases ds<;>exact absurd h (by simp[DataW.TrodAll])
  | cons v vs =>
   cases ds with
   | nil=>exact absurd h (by simp[DataW.TrodAll])
   | cons d ds=>obtain⟨_,_,_,h2,_⟩:=h;simp[ih h2]
end
section
variable {H:Type}{enc:TypeId×Value→H}
theorem ahS(hl:laidOutB Proofs.Tryz.prog=true){n:FuncId}{fn:Func}{s:ChangeSpec}{Ts:List Ty}{f:Nat→Tys Ts→Option (Bool×Unit)}(hE:∀ lf,lK Proofs.Tryz.prog TabG n ⟨Ts,[.bool],f lf⟩)
  (hf:fitAll Proofs.Tryz.prog Ts fn.params.toList=true) (hrd:(fn.params.toList.all fun t=>Proofs.Tryz.prog.readableRec t&&decide (t < Proofs.Tryz.prog.types.size))=true)
  {rt:TypeId} (hrt:fn.resultTypes=#[rt]) (hub:Proofs.Tryz.prog.underlying rt=some .bool) (hsv:s.vars=[])
  (hs:∀ ds:List (DataW H),ds.length=fn.params.toList.length→s.fn H ds={ results:=[.lit (.bool true)],args:=ds })
  (hpure:∀ x:Tys Ts,Bnds Ts x→∃ lf,f lf x=some (true,()))
  {W:World} {base:Nat} {args:Array Value} {ds gs:List (DataW H)} {before:List MemPlace} {apart fresh handsOn:Bool}
  (hval:∀ (j:Nat) t v,fn.params[j]? = some t→args[j]? = some v→Value.okWide Proofs.Tryz.prog W .any base t v)
  (hW:DataW.Whole enc Proofs.Tryz.prog fn.params.toList s.vars apart W args.toList ds gs before) (hG:TabG W) :
  Calls Proofs.Tryz.prog n args W fun e W'=>∃ v,e=.returned v∧s.post enc Proofs.Tryz.prog fn apart fresh handsOn false W args v W':=by
 have hW':=hW
 obtain⟨p,q,hA,hV,rfl,_,_⟩:=hW
 rw[hsv]at hV
 obtain⟨rfl,rfl⟩:=trodVars_none hV
 have hv':∀ (j:Nat) (t:TypeId) (v:Value),fn.params.toList[j]? = some t→args.toList[j]? = some v→Value.okWide Proofs.Tryz.prog W .any base t v:=by
  intro j t v a b
  rw[Array.getElem?_toList]at a b
  exact hval j t v a b
 obtain⟨x,k1,k2⟩:=uY hf hv' hA
 obtain⟨lf,hlf⟩:=hpure x k2
 have hlen:=aeg hA
 have h:=hE lf x (true,()) hlf (IsC W) W args.toList hG (fun i hi=>hi) k1
 rw[Array.toArray_toList]at h
 refine h.mono ?_
 rintro e W' ⟨v,rfl,hb,hr⟩
 obtain⟨vs,⟨u,r,rfl,h1,h2⟩,rfl⟩:=hr
 obtain rfl:r=[]:=h2
 have hu:u=.bool true:=by
  unfold ValR at h1
  rw[if_neg (by simp[isSt])]at h1
  simpa [DR]using h1
 subst hu
 refine⟨_,rfl,ds,[],p++[],[],p,[],hW',?_,?_,?_,hb.frame _,fun h=>by cases h⟩
 ·rw[List.append_nil,hs ds hlen,hrt]
  exact trodAll_mk1 (shut_bool hub true)
 ·rw[List.append_nil,hs ds hlen]
  exact vg hl hb hrd hA
 ·rw[List.append_nil,hs ds hlen,hsv]
  rfl
end
theorem acP{laid:List (String×DataW Unit)}{W:World}(hp:(laid.all fun x=>x.2.handleName?.isNone)=true){g:Nat}{t e:TypeId}{n:Nat}{rest:List (String×DataW Unit)}
  (hg:Proofs.Tryz.prog.globalNamed "internal/strconv.uint64pow10" = some g) (hty:(Proofs.Tryz.prog.globals[g]?).map (·.type)=some t) (ht:Proofs.Tryz.prog.underlying t=some (.array n e)) (he:Proofs.Tryz.prog.underlying e=some (.int .u64))
  (hce:Proofs.Tryz.prog.cellsOf e=1) (hct:Proofs.Tryz.prog.cellsOf t=n)
  (hh:(laid.filter fun x=>x.1 == "internal/strconv.uint64pow10")=("internal/strconv.uint64pow10",Lib.tabData .u64 Lib.pow10Tab)::rest)
  (h:laidMetH Proofs.Tryz.prog laid W):TabG W:=by
 rw[MakeChecks.laidMetH_plain _ _ _ hp]at h
 have h':=laidMet.filter (fun x=>x.1 == "internal/strconv.uint64pow10") h
 rw[hh]at h'
 exact Lib.tabIs_of_head hg hty ht he hce hct h'
theorem ajm{P:Program}{c:OpenClaim}(h:P.funcs.any Func.goes=false)(hs:c.start=.entering):false=c.goesBy P:=by
 have key:∀ (g:Nat) (fn:Func),P.funcs[g]? = some fn→fn.goes=false:=by
  intro g fn hg
  have:=Array.any_eq_false.1 h
  obtain⟨hlt,e⟩:=Array.getElem?_eq_some_iff.1 hg
  have:=this g hlt
  rw[e]at this
  simpa using this
 have k2:∀ g:Nat,(P.funcs[g]?).any Func.goes=false:=by
  intro g
  cases hg:P.funcs[g]? with
  | none=>rfl
  | some fn=>simp[key g fn hg]
 unfold OpenClaim.goesBy Program.goesAt Program.goesFrom
 rw[hs]
 have k3:∀ f,P.goes f=false:=by
  intro f
  unfold Program.goes
  rw[h,Bool.and_false,Bool.or_false]
  simp only[k2]
  simp
 cases P.funcNamed c.func with
 | none=>rfl
 | some f=>simp[k3]
end Go.Q
namespace Go.N
open Go Go.Q Go.Rx
section
variable (lf:Nat)(hb:Big lf)
include hb
theorem af5{es:List ByteArray}(hes:∀ b∈es,b.data.toList.length≤1000)(hl:es.length≤1000){n:Int}{v4 v7 v10 v13:Bool}{v5 v6 v8 v9 v11 v12 v14 v15:ByteArray}:∀ (d q j:Nat),j+d=es.length→d < q→errI (es.drop j)≠0→
  ∃ k:Nat,aB.l0 lf es (es.length:Nat) n v4 v5 v6 v7 v8 v9 v10 v11 v12 v13 v14 v15 q j=some (true,((k:Int),()),(),())
 | 0,q,j,hd,hq,he=>by rw[List.drop_eq_nil_of_le (by omega)]at he;exact absurd rfl he
 | d+1,q,j,hd,hq,he=>by
  obtain⟨q,rfl⟩:∃ z,q=z+1:=⟨q-1,by omega⟩
  have hj:j < es.length:=by omega
  rw[List.drop_eq_getElem_cons hj,errI]at he
  have hc:=(chkB lf hb (hes es[j] (List.getElem_mem hj))).2
  by_cases h:chk es[j].data.toList=0
  ·rw[if_neg (by simpa using h)]at he
   obtain⟨k,hk⟩:=af5 hes hl (n:=n) (v4:=v4) (v5:=v5) (v6:=v6) (v7:=v7) (v8:=v8) (v9:=v9) (v10:=v10) (v11:=v11) (v12:=v12) (v13:=v13) (v14:=v14) (v15:=v15) d q (j+1) (by omega) (by omega) he
   refine⟨k,?_⟩
   rw[aB.l0,aB.r0,ltd,decide_eq_true hj,brT,bU es j hj,bdS,dK.f,hc,bdS,bdS,show((chk es[j].data.toList,()).1 != 0)=false by simpa using h,brF,w64 (by omega) (by omega),show(j:Int)+1=((j+1:Nat):Int) by omega,hk]
  ·refine⟨j,?_⟩
   rw[aB.l0,aB.r0,ltd,decide_eq_true hj,brT,bU es j hj,bdS,dK.f,hc,bdS,bdS,show((chk es[j].data.toList,()).1 != 0)=true by simpa using h,brT]
theorem af6{l:List Sg3}{n:Int}{vs:List Vl}{x u:Vl}{zs:List Int}(hx:WfV x)(hu:WfV u)(hR:Right l n)(hl:l.length≤40)(v1:expand l=vs.map vc)(v2:∀ v∈vs,WfV v∧v.a.em=false)(v3:(vs.length:Int)=n)
  (hz:∀ z∈zs,-Dd < z∧z < Dd) (hes:∀ b∈zs.map itb,b.data.toList.length≤1000) (hlen:vs.length=zs.length) (hin:(List.zipWith inV vs zs).all id=true):∀ (d q k:Nat),k+d=zs.length→d < q→
  aB.l1 lf l (zs.map itb) (stZ vs x u).1 (stZ vs x u).2.1 (zs.length:Nat) n (vc x).1.1 (vc x).1.2.1 (vc x).1.2.2.1 (vc x).2.1.1 (vc x).2.1.2.1 (vc x).2.1.2.2.1 (vc u).1.1 (vc u).1.2.1 (vc u).1.2.2.1 (vc u).2.1.1 (vc u).2.1.2.1 (vc u).2.1.2.2.1
   (vc (ixF x (ldG vs) 0 vs.length Ev)).1.1 (vc (ixF x (ldG vs) 0 vs.length Ev)).1.2.1 (vc (ixF x (ldG vs) 0 vs.length Ev)).1.2.2.1 (vc (ixF x (ldG vs) 0 vs.length Ev)).2.1.1 (vc (ixF x (ldG vs) 0 vs.length Ev)).2.1.2.1 (vc (ixF x (ldG vs) 0 vs.length Ev)).2.1.2.2.1 q k=some (false,(),(),())
 | 0,q,k,hk,hq=>by
  obtain⟨q,rfl⟩:∃ z,q=z+1:=⟨q-1,by omega⟩
  rw[aB.l1,aB.r1,ltd,decide_eq_false (by omega),brF]
 | d+1,q,k,hk,hq=>by
  obtain⟨q,rfl⟩:∃ z,q=z+1:=⟨q-1,by omega⟩
  have hn:=hR.n2
  have hn1:=hR.n1
  have hlf:=hb.1
  have h3:200000≤lf:=by omega
  have hD:=ac3
  have hK:=K_gt
  have hDK:=Dd_K
  have hkz:k < zs.length:=by omega
  have hkv:k < vs.length:=by omega
  have ih:=af6 hx hu hR hl v1 v2 v3 hz hes hlen hin d q (k+1) (by omega) (by omega)
  rw[aB.l1,aB.r1,ltd,decide_eq_true hkz,brT,uU lf h3 (by omega) (by omega),bdS,w64 (by omega) (by omega),show(k:Int)+1=((k+1:Nat):Int) by omega,ih]
  rw[show((((vc x).1.1,(vc x).1.2.1,(vc x).1.2.2.1,()),((vc x).2.1.1,(vc x).2.1.2.1,(vc x).2.1.2.2.1,()),()):V33)=vc x from rfl,aft lf hb hx ⟨by omega,by omega⟩,bdS]
  cases hi:inV x k with
  | false=>simp only[Bool.not_false,brT]
  | true =>
   simp only[Bool.not_true,brF]
   have hzk:=hz _ (List.getElem_mem hkz)
   have hzK: -K < zs[k]∧zs[k] < K:=by omega
   have hvz:inV vs[k] zs[k]=true:=by
    rw[List.all_eq_true]at hin
    have hm:inV vs[k] zs[k]∈List.zipWith inV vs zs:=by
     have h':k < (List.zipWith inV vs zs).length:=by rw[List.length_zipWith];omega
     have:=List.getElem_mem h'
     rwa [List.getElem_zipWith]at this
    exact hin _ hm
   have hwa:WfV (ixF x (ldG vs) 0 vs.length Ev):=ld_V v2 vs.length 0 Ev (by omega) Ev_V
   have hwf:WfV (ixF x (fdG vs (oneV zs[k])) 0 vs.length Ev):=fd_V lf hb vs.length 0 Ev (by omega) Ev_V
   have ha:inV (ixF x (ldG vs) 0 vs.length Ev) zs[k]=true:=ahU v2 hzK vs.length 0 Ev (by omega) Ev_V (.inr ⟨k,Nat.zero_le _,hkv,hi,hvz⟩)
   have hf:inV (ixF x (fdG vs (oneV zs[k])) 0 vs.length Ev) k=true:=akn lf hb v2 (tZ lf hb _) (by omega) vs.length 0 Ev (by omega) Ev_V (.inr ⟨Nat.zero_le _,hkv,hi,zs[k],hzK,hvz,ahL hzk⟩) (by omega)
   rw[bU _ k (by simpa using hkz),bdS,List.getElem_map,show itb zs[k]=bs (Lib.itoa zs[k]) from rfl,alJ lf hb hzK,bdS,akO lf hb hx (tZ lf hb _) hR (by omega) v1 v2 v3,bdS,show(((vc (ixF x (fdG vs (oneV zs[k])) 0 vs.length Ev),(0:Int),()):V33×Int×Unit).2.1 != 0)=false from rfl,brF]
   rw[show((((vc (ixF x (ldG vs) 0 vs.length Ev)).1.1,(vc (ixF x (ldG vs) 0 vs.length Ev)).1.2.1,(vc (ixF x (ldG vs) 0 vs.length Ev)).1.2.2.1,()),((vc (ixF x (ldG vs) 0 vs.length Ev)).2.1.1,(vc (ixF x (ldG vs) 0 vs.length Ev)).2.1.2.1,(vc (ixF x (ldG vs) 0 vs.length Ev)).2.1.2.2.1,()),()):V33)=vc (ixF x (ldG vs) 0 vs.length Ev) from rfl]
   simp only[(chk_wf lf hb hwa).2,(chk_wf lf hb hwf).2,bdS,bne_self_eq_false,brF,aft lf hb hwa hzk,ha,Bool.not_true,aft lf hb hwf (z:=(k:Int)) ⟨by omega,by omega⟩,hf]
   rw[show((((vc u).1.1,(vc u).1.2.1,(vc u).1.2.2.1,()),((vc u).2.1.1,(vc u).2.1.2.1,(vc u).2.1.2.2.1,()),()):V33)=vc u from rfl,show di.f lf (vc u)=some (u.a.em,()) from rfl,bdS]
   cases hem:u.a.em with
   | true =>
    simp only[brT]
    generalize ((vc u).1.2.1.toList==(⟨#[]⟩:ByteArray).toList)=c
    cases c
    ·rw[brF]
    ·rw[brT]
   | false =>
    simp only[brF]
    have hlo:(vc u).1.2.1=ob u.a.lo:=by
     show(ac u.a).2.1=ob u.a.lo
     unfold ac
     rw[hem]
    rw[hlo]
    cases hy:u.a.lo with
    | none=>rw[show((ob none).toList==(⟨#[]⟩:ByteArray).toList)=true from by rw[show(⟨#[]⟩:ByteArray)=ob none from rfl];simp,brT]
    | some y =>
     have hyC: -C < y∧y < C:=by have:=hu.a.lo;rw[hy]at this;exact this
     have hyl:(Lib.itoa y).length≤101:=by
      obtain⟨l',m',e1,_,e3,_⟩:=agf hu.a
      have:(ac u.a).2.1=bs l':=by rw[e1]
      have h2:(ac u.a).2.1=ob u.a.lo:=hlo
      rw[h2,hy,show ob (some y)=bs (Lib.itoa y) from rfl]at this
      have:=congrArg (fun b:ByteArray=>b.data.toList) this
      simp[bs]at this
      rw[this];exact e3
     have hyD: -Dd < y∧y < Dd:=(aiN y).1 (by have:=(sz_C y).2 hyC;omega)
     have huy:inV u y=true:=(hu.bndV hem).1 y hy
     rw[show ob (some y)=bs (Lib.itoa y) from rfl]
     generalize ((bs (Lib.itoa y)).toList==(⟨#[]⟩:ByteArray).toList)=c
     cases c
     case true=>rw[brT]
     rw[brF,aft lf hb hu hyD,bdS,huy,Bool.not_true,brF]
     have hL:(ixL x 0 vs.length).length≠0:=fun h=>by
      have:=wJ hi vs.length 0 (Nat.zero_le _) (by omega)
      rw[List.eq_nil_of_length_eq_zero h]at this;cases this
     have hst:stZ vs x u=(ofL 0 ((stV vs x u).map vc) [],true,()):=by
      unfold stZ stV
      rw[if_neg (by rw[hem];simp;intro h;rw[h]at hL;exact hL rfl)]
     have hsg:∀ v∈stV vs x u,WfV v∧v.a.em=false:=fun v hv=>by
      obtain⟨i,hi',rfl⟩:=List.getElem_of_mem hv
      rw[uS]at hi'
      obtain⟨w,w1,w2⟩:=af7 (x:=x) (u:=u) hi'
      rw[List.getElem?_eq_getElem (by rw[uS];exact hi')]at w1
      cases w1
      obtain⟨q1,q2⟩:=v2 _ (List.getElem_mem hi')
      rcases w2 with h | ⟨h,_⟩ | ⟨h,_⟩
      ·rw[h];exact⟨uI q1 hu,ahP q1 hu q2⟩
      ·rw[h];exact⟨q1,q2⟩
      ·rw[h];exact⟨hu,hem⟩
     obtain⟨hR',w1⟩:=ah9 (l:=(stV vs x u).map vc) hn1 hn (by rw[List.length_map,uS];exact v3) (fun y hy=>by
      obtain⟨v,hv,rfl⟩:=List.mem_map.1 hy
      exact⟨v,rfl,hsg v hv⟩)
     have hm:=afH ((stV vs x u).map vc) 0 []
     rw[List.length_map,uS,List.length_nil]at hm
     have hset:(zs.map itb).set k (bs (Lib.itoa y))=(zs.set k y).map itb:=by rw[List.map_set];rfl
     have hzs:((zs.set k y).length:Int)=n:=by rw[List.length_set];omega
     have hall:(List.zipWith inV (stV vs x u) (zs.set k y)).all id=true:=ael fun i v z hv hz'=>by
      have hi':i < vs.length:=by
       have:=(List.getElem?_eq_some_iff.1 hv).1
       rwa [uS]at this
      obtain⟨w,w1,w2⟩:=af7 (x:=x) (u:=u) hi'
      rw[w1]at hv
      cases hv
      obtain⟨q1,q2⟩:=v2 _ (List.getElem_mem hi')
      have hvi:inV vs[i] zs[i]=true:=by
       rw[List.all_eq_true]at hin
       have hm:inV vs[i] zs[i]∈List.zipWith inV vs zs:=by
        have h':i < (List.zipWith inV vs zs).length:=by rw[List.length_zipWith];omega
        have:=List.getElem_mem h'
        rwa [List.getElem_zipWith]at this
       exact hin _ hm
      have hziK: -K < zs[i]∧zs[i] < K:=by have:=hz _ (List.getElem_mem (show i < zs.length by omega));omega
      by_cases e:k=i
      ·subst e
       rw[List.getElem?_set_self hkz]at hz'
       cases hz'
       rcases w2 with h | ⟨h,h'⟩ | ⟨h,_⟩
       ·rw[h];exact xU q1 hu ⟨by omega,by omega⟩ huy
       ·rw[hi]at h';cases h'
       ·rw[h];exact huy
      ·rw[List.getElem?_set_ne e,List.getElem?_eq_getElem (by omega)]at hz'
       cases hz'
       rcases w2 with h | ⟨h,h'⟩ | ⟨h,h',h''⟩
       ·rw[h];exact xR q1 hu hziK hvi
       ·rw[h];exact hvi
       ·obtain⟨j,_,_,j3,_⟩:=zn (x:=x) (G:=fun(b:Unit) _=>b) vs.length 0 h''
        have a1:=wJ hi vs.length 0 (Nat.zero_le _) (by omega)
        have a2:=wJ h' vs.length 0 (Nat.zero_le _) (by omega)
        rw[j3]at a1 a2
        simp at a1 a2;omega
     have hes':∀ b∈(zs.set k y).map itb,b.data.toList.length≤1000:=fun b hb'=>by
      obtain⟨z,hz',rfl⟩:=List.mem_map.1 hb'
      rcases List.mem_or_eq_of_mem_set hz' with h | h
      ·exact hes _ (List.mem_map.2 ⟨z,h,rfl⟩)
      ·subst h
       show(bs (Lib.itoa z)).data.toList.length≤1000
       simp[bs];omega
     have hh:=aae lf hb (l:=ofL 0 ((stV vs x u).map vc) []) (zs:=zs.set k y) (vs:=stV vs x u) (by rw[hzs];exact hR') (by omega) hes' (fun z hz'=>by
      rcases List.mem_or_eq_of_mem_set hz' with h | h
      ·exact hz z h
      ·rw[h];exact hyD) w1 hsg (by rw[uS,List.length_set];exact hlen)
     rw[nilL,if_pos (by rw[List.length_map];omega),bdS,abM 16 _ _ (by omega) (by rw[List.length_map];simp;omega),bdS,List.nil_append,List.length_map,bW _ _ hkz,bdS,jU _ _ _ (by rw[List.length_map];exact hkz),bdS,hset,hst,hh,bdS,hall]
     simp only[Bool.not_true,brF,bne_self_eq_false]
end
theorem ajZ(l:List Sg3)(n:Int)(a b:V33)(es:List ByteArray):∃ lf,aB.f lf l (n,a,b,()) es=some (true,()):=by
 obtain⟨lf,hb⟩:=bigE
 refine⟨lf,?_⟩
 obtain⟨c,c1,c2⟩:=als lf hb l
 obtain⟨d,d1,d2⟩:=fewI lf hb es
 obtain⟨e,e1,e2⟩:=ahA lf a b
 have hlf:=hb.1
 rw[aB.f]
 simp only[c1,d1,e1,bdS,ai7]
 cases c with
 | false=>simp only[Bool.not_false,brT]
 | true =>
  simp only[Bool.not_true,brF]
  cases d with
  | false=>simp only[Bool.not_false,brT]
  | true =>
   simp only[Bool.not_true,brF]
   by_cases hne:(es.length:Int)=n
   ·subst hne
    rw[show(((es.length:Nat):Int) !=((es.length:Nat):Int))=false by simp,brF]
    obtain⟨hl,hs⟩:=c2 rfl
    obtain⟨hel,hes⟩:=d2 rfl
    obtain⟨a1,a2,a3⟩:=zM lf hb (n:=(es.length:Nat)) hs (by omega)
    rw[a2,bdS]
    by_cases h0:ckN lf l (es.length:Nat)=0
    ·rw[show((ckN lf l (es.length:Nat),()).1 != 0)=false by simpa using h0,brF]
     have hR:=a3.1 h0
     cases e with
     | false=>simp only[Bool.not_false,brT]
     | true =>
      simp only[Bool.not_true,brF]
      obtain⟨ha,hb'⟩:=e2 rfl
      obtain⟨m,m1,m2,m3⟩:=alk lf hb ha hb'
      rw[m2,bdS]
      by_cases hm:m=0
      ·obtain⟨x,u,rfl,rfl,hx,hu⟩:=m3 hm
       rw[show((m,()).1 != 0)=false by simpa using hm,brF]
       by_cases hE:errI es=0
       ·obtain⟨zs,rfl,hz⟩:=nums lf hb hes (adr hE)
        obtain⟨vs,v1,v2,v3⟩:=hR.vals
        have hlz:(zs.map itb).length=zs.length:=List.length_map ..
        rw[hlz]at v3 hR hel⊢
        have hlen:vs.length=zs.length:=by omega
        rw[aae lf hb hR (by omega) hes hz v1 v2 hlen,bdS]
        rw[show((((List.zipWith inV vs zs).all id,(0:Int),()):Bool×Int×Unit).2.1 != 0)=false from rfl,brF]
        cases hin:(List.zipWith inV vs zs).all id with
        | false=>simp only[Bool.not_false,brT,BEq.rfl]
        | true =>
         simp only[Bool.not_true,brF]
         rw[akW lf hb hx hR (by omega) v1 v2 v3,bdS,aj1 lf hb hx hu hR (by omega) v1 v2 v3,bdS]
         simp only[bne_self_eq_false,brF]
         have hloop:=af6 lf hb hx hu hR hl v1 v2 v3 hz hes hlen hin zs.length (lf+40) 0 (by omega) (by omega)
         rw[show((0:Nat):Int)=0 from rfl]at hloop
         rw[hloop,bdS,brF]
       ·rw[agL lf hb hR (by omega) hes hE,bdS,show(((false,errI es,()):Bool×Int×Unit).2.1 != 0)=true by simpa using hE,brT,show(((false,errI es,()):Bool×Int×Unit).2.1==0)=false by simpa using hE,brF,bdS,h0]
        rw[show(((0:Int),()).1 != 0)=false from rfl,brF]
        obtain⟨k,hk⟩:=af5 lf hb (es:=es) hes (by omega) (n:=(es.length:Nat)) (v4:=(vc x).1.1) (v5:=(vc x).1.2.1) (v6:=(vc x).1.2.2.1) (v7:=(vc x).2.1.1) (v8:=(vc x).2.1.2.1) (v9:=(vc x).2.1.2.2.1) (v10:=(vc u).1.1) (v11:=(vc u).1.2.1) (v12:=(vc u).1.2.2.1) (v13:=(vc u).2.1.1) (v14:=(vc u).2.1.2.1) (v15:=(vc u).2.1.2.2.1) es.length (lf+40) 0 (by omega) (by omega) (by rw[List.drop_zero];exact hE)
        rw[show((0:Nat):Int)=0 from rfl]at hk
        rw[hk,bdS,brT]
        show br (decide ((k:Int)≥0)) _ _=_
        rw[decide_eq_true (by omega),brT]
      ·rw[show((m,()).1 != 0)=true by simpa using hm,brT]
    ·rw[show((ckN lf l (es.length:Nat),()).1 != 0)=true by simpa using h0,brT]
   ·rw[show(((es.length:Nat):Int) != n)=true by simpa using hne,brT]
end Go.N
namespace Go.Q
open Go.N
theorem Pure.SegmentSound(x:Tys (aB.E 0).ps)(h:Bnds (aB.E 0).ps x):∃ lf,aB.f lf x.1 x.2.1 x.2.2.1=some (true,()):=ajZ x.1 x.2.1.1 x.2.1.2.1 x.2.1.2.2.1 x.2.2.1
end Go.Q
