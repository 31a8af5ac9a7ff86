import Derived.KernelRfl
import Derived.Test.YtgbokahnpmmfoaaGreatDoorChecked
import Derived.ProofKit
import Derived.OpenShut
import Derived.LaidMore
import Derived.Lay
import Derived.Carry
import Derived.SevenTiedAt
import Derived.Stop.Joined
import Derived.Lib.LaidTab
import Derived.LaidSub
import Derived.Test.YtgbokahnpmmfoaaGreatDoorSLE3
import Derived.Test.YtgbokahnpmmfoaaGreatDoorSLG10
import Derived.Test.YtgbokahnpmmfoaaGreatDoorSLG11
import Derived.Test.YtgbokahnpmmfoaaGreatDoorSLG12
import Derived.Test.YtgbokahnpmmfoaaGreatDoorSLG13
import Derived.Test.YtgbokahnpmmfoaaGreatDoorSLG14
import Derived.Test.YtgbokahnpmmfoaaGreatDoorSLG6
import Derived.Test.YtgbokahnpmmfoaaGreatDoorSLG7
import Derived.Test.YtgbokahnpmmfoaaGreatDoorSLG8
import Derived.Test.YtgbokahnpmmfoaaGreatDoorSLG9
import Derived.Test.YtgbokahnpmmfoaaGreatDoorSLN1
set_option linter.unusedVariables false
set_option linter.unusedSimpArgs false
set_option linter.unusedSectionVars false
set_option maxRecDepth 100000
namespace Go.N
open Go Go.Q Go.Rx
theorem qL{x y q r:Int}(h:x=y*q+r)(hy:0 < y)(h0:0≤r)(h1:r < y)(hx:0≤x):Int.gcd y r=Int.gcd x y:=by
 have e:r=x % y:=by rw[h,Int.mul_add_emod_self_left];exact(Int.emod_eq_of_lt h0 h1).symm
 obtain⟨a,rfl⟩:=Int.eq_ofNat_of_zero_le hx
 obtain⟨b,rfl⟩:=Int.eq_ofNat_of_zero_le (Int.le_of_lt hy)
 have e':r=((a % b:Nat):Int):=by rw[e];rfl
 rw[e',Int.gcd_natCast_natCast,Int.gcd_natCast_natCast,Nat.gcd_comm a b,Nat.gcd_rec b a,Nat.gcd_comm]
theorem abj(lf:Nat)(hlf:2000000000≤lf):∀ (k n:Nat) (xs ys:List Int),lv G ys≤k→k < n→Dg G xs→Dg G ys→Tr xs→Tr ys→xs.length≤40000→ys.length≤40000→
  ∃ r,fE.l0 lf n xs ys=some ((r,()),())∧Dg G r∧Tr r∧r.length≤max xs.length ys.length∧lv G r=(Int.gcd (lv G xs) (lv G ys):Int):=by
 intro k
 induction k with
 | zero =>
  intro n xs ys hk hn hx hy tx ty lx ly
  obtain⟨m,rfl⟩:=Nat.exists_eq_succ_of_ne_zero (show n≠0 by omega)
  have y0:=aZ (B:=G) (by decide) hy
  have x0:=aZ (B:=G) (by decide) hx
  have:ys=[]:=(wJ (B:=G) (by decide) hy ty).1 (by omega)
  subst this
  refine⟨xs,?_,hx,tx,by omega,?_⟩
  ·rw[fE.l0,fE.r0,decide_eq_false (by simp),brF]
  ·rw[show lv G []=0 from rfl,Int.gcd_zero_right];omega
 | succ k ih =>
  intro n xs ys hk hn hx hy tx ty lx ly
  obtain⟨m,rfl⟩:=Nat.exists_eq_succ_of_ne_zero (show n≠0 by omega)
  have x0:=aZ (B:=G) (by decide) hx
  by_cases h:ys=[]
  ·subst h
   refine⟨xs,?_,hx,tx,by omega,?_⟩
   ·rw[fE.l0,fE.r0,decide_eq_false (by simp),brF]
   ·rw[show lv G []=0 from rfl,Int.gcd_zero_right];omega
  ·obtain⟨Q,R,e,dq,tq,dr,tr',val,lt⟩:=wV lf xs ys hx hy tx ty h (by omega) (by omega) hlf
   have yp:=qO (B:=G) (by decide) hy ty h
   have R0:=aZ (B:=G) (by decide) dr
   have lR:R.length≤ys.length:=by
    by_cases z:R.length≤ys.length
    ·exact z
    ·have:=lK (B:=G) (by decide) hy dr tr' (by omega);omega
   obtain⟨r,r1,r2,r3,r4,r5⟩:=ih m ys R (by omega) (by omega) hy dr ty tr' ly (by omega)
   refine⟨r,?_,r2,r3,by omega,?_⟩
   ·have:0 < ys.length:=List.length_pos_iff.2 h
    rw[fE.l0,fE.r0,decide_eq_true (by omega),brT,e,bdS]
    exact r1
   ·rw[r5,qL val yp R0 lt x0]
def Big(lf:Nat):Prop:=2000000000≤lf∧K < (lf:Int)
theorem ale(lf:Nat)(hb:Big lf){x y:Int}(hx: -K < x∧x < K)(hy: -K < y∧y < K):qI.f lf (bs (Lib.itoa x)) (bs (Lib.itoa y))=some (bs (Lib.itoa (Int.gcd x y)),0,()):=by
 obtain⟨hlf,hK⟩:=hb
 obtain⟨p,q,e,k1,k2,_⟩:=tV lf _ _ (chkK hx) (chkK hy) (by omega)
 rw[eH]at k1 k2
 have vx:lv G p.2.1=(x.natAbs:Int):=by
  have:=k1.val
  have:=aZ (B:=G) (by decide) k1.dg
  split at*<;> omega
 have vy:lv G q.2.1=(y.natAbs:Int):=by
  have:=k2.val
  have:=aZ (B:=G) (by decide) k2.dg
  split at*<;> omega
 obtain⟨r,r1,r2,r3,r4,r5⟩:=abj lf hlf (lf+39) (lf+40) p.2.1 q.2.1 (by omega) (by omega) k1.dg k2.dg k1.tr k2.tr (by have:=k1.len;omega) (by have:=k2.len;omega)
 rw[vx,vy]at r5
 have g:(Int.gcd (x.natAbs:Int) (y.natAbs:Int):Int)=(Int.gcd x y:Int):=by
  rw[Int.gcd_natCast_natCast];rfl
 have rn:RN (false,r,()) (Int.gcd x y) 4096:=⟨r2,r3,by have:=k1.len;have:=k2.len;simp only;omega,by simp only[Bool.false_eq_true,if_false];rw[r5,g]⟩
 rw[qI.f,e,bdS]
 simp only[bne_self_eq_false,brF]
 rw[fE.f,r1,bdS,bdS,tJ lf rn (by omega) (by omega),bdS]
theorem nT(lf:Nat)(z:Int):aT.f lf (bs (Lib.itoa z))=some (bs (Lib.itoa (z.natAbs:Int)),()):=by
 rw[aT.f,jd lf _ (kM z),bdS]
 simp only
 rw[uS]
 have e':Lib.itoa (z.natAbs:Int)=D z.natAbs:=by unfold Lib.itoa;rw[if_neg (by omega)];rfl
 rw[e']
 by_cases hn:z < 0
 ·have e:Lib.itoa z=45::D z.natAbs:=by unfold Lib.itoa;rw[if_pos hn]
  rw[decide_eq_true hn,brT,e,rX (45::D z.natAbs) 1 1 rfl (by simp),bdS]
  rfl
 ·have e:Lib.itoa z=D z.natAbs:=by unfold Lib.itoa;rw[if_neg hn];congr 1;omega
  rw[decide_eq_false hn,brF,e]
theorem i0':Lib.itoa 0=[48]:=by unfold Lib.itoa;rw[if_neg (by omega)];exact mW
theorem beq0(z:Int):((bs (Lib.itoa z)).toList==(⟨#[48]⟩:ByteArray).toList)=decide (z=0):=by
 rw[show(⟨#[48]⟩:ByteArray)=bs [48] from rfl,lT,←i0']
 simp only[decide_eq_decide]
 exact⟨fun e=>oK e,fun e=>by rw[e]⟩
theorem aeZ(lf:Nat)(h3:200000≤lf):∀ (k n:Nat) (x y:Int),0≤x→0≤y→y≤k→k < n→sz x≤20000→sz y≤20000→
  bT.l0 lf n (bs (Lib.itoa x)) (bs (Lib.itoa y))=some ((bs (Lib.itoa (Int.gcd x y)),()),()):=by
 intro k
 induction k with
 | zero =>
  intro n x y x0 y0 hk hn sx sy
  obtain⟨m,rfl⟩:=Nat.exists_eq_succ_of_ne_zero (show n≠0 by omega)
  obtain rfl:y=0:=by omega
  rw[bT.l0,bT.r0,beq0,decide_eq_true rfl,Bool.not_true,brF,Int.gcd_zero_right,show((x.natAbs:Nat):Int)=x by omega]
 | succ k ih =>
  intro n x y x0 y0 hk hn sx sy
  obtain⟨m,rfl⟩:=Nat.exists_eq_succ_of_ne_zero (show n≠0 by omega)
  rw[bT.l0,bT.r0,beq0]
  by_cases h:y=0
  ·subst h
   rw[decide_eq_true rfl,Bool.not_true,brF,Int.gcd_zero_right,show((x.natAbs:Nat):Int)=x by omega]
  ·have m1:=Int.mul_fdiv_add_fmod x y
   have a:=Int.fmod_nonneg_of_pos x (show 0 < y by omega)
   have b:=Int.fmod_lt_of_pos x (show 0 < y by omega)
   have sr:sz (x.fmod y)≤20000:=by
    have:=rf sy (by omega)
    exact xQ (by omega) (by omega)
   rw[decide_eq_false h,Bool.not_false,brT,rV lf h3 sx sy h,bdS]
   have:=ih m y (x.fmod y) (by omega) a (by omega) (by omega) sy sr
   rw[qL m1.symm (by omega) a b x0]at this
   exact this
theorem wE(lf:Nat)(hb:Big lf){x y:Int}(hx: -K < x∧x < K)(hy: -K < y∧y < K):bT.f lf (bs (Lib.itoa x)) (bs (Lib.itoa y))=some (bs (Lib.itoa (Int.gcd x y)),()):=by
 obtain⟨hlf,hK⟩:=hb
 have sx:=(sz_K (x.natAbs:Int)).2 (by omega)
 have sy:=(sz_K (y.natAbs:Int)).2 (by omega)
 rw[bT.f,nT,bdS,nT,bdS,aeZ lf (by omega) (lf+39) (lf+40) _ _ (by omega) (by omega) (by omega) (by omega) (by omega) (by omega),bdS]
 have g:(Int.gcd (x.natAbs:Int) (y.natAbs:Int))=Int.gcd x y:=by rw[Int.gcd_natCast_natCast];rfl
 rw[g]
end Go.N
namespace Go.N
open Go Go.Q Go.Rx
def ckc(em:Bool)(l h:List UInt8):Int :=
 if em=true then(if l≠[]∨h≠[]then 3 else 0)else if num l≠0 then num l else if num h≠0 then num h else if iv l < 0∨(iv l≠0∧(iv h < 0∨¬iv h < iv l))then 2 else 0
theorem akd(lf:Nat)(l:List UInt8)(hl:l.length≤9223372036854775807)(hf:l.length≤lf):iP.f lf (bs l)=some (num l,()):=by
 rw[iP.f,ahx lf l hl hf,bdS]
 unfold num chk
 cases hc:can l with
 | false=>simp[brT]
 | true =>
  simp only[Bool.not_true,brF,if_true]
  rw[ou lf l (jY hc).2.2 hl,bdS]
  by_cases h:nlen l > 100
  ·rw[decide_eq_true (by omega),brT]
   by_cases h2:nlen l > 4096
   ·rw[if_pos h2];rfl
   ·rw[if_neg h2,if_neg (by simp),if_pos h]
  ·rw[decide_eq_false (by omega),brF,if_neg (show ¬nlen l > 4096 by omega),if_neg (by simp),if_neg h]
theorem ahQ(lf:Nat)(l:List UInt8)(hl:l.length≤9223372036854775807):fU.f lf (bs l)=some (decide (nlen l > 100),()):=by
 have:=zT l
 rw[fU.f,oU,bdS,iG]
 congr 2
 simp only[decide_eq_decide];unfold nlen;omega
theorem numC(lf:Nat)(l:List UInt8)(hl:l.length≤9223372036854775807):jC.f lf (bs l)=some (num l,()):=by
 rw[jC.f,pM lf l hl,bdS]
 simp only[ahQ lf l hl,bdS]
 unfold num
 by_cases h:chk l=0
 ·rw[h]
  simp only[show((0:Int)==10)=false from rfl,brF,BEq.rfl,brT,bne_self_eq_false,ne_eq,not_true,if_false]
  by_cases h2:nlen l > 100
  ·rw[decide_eq_true h2,brT,if_pos h2]
  ·rw[decide_eq_false h2,brF,if_neg h2]
 ·rw[if_pos h,show(chk l==0)=false from beq_eq_false_iff_ne.2 h,brF,bneT h,brT]
  by_cases h2:chk l=10
  ·rw[h2,BEq.rfl,brT]
  ·rw[show(chk l==10)=false from beq_eq_false_iff_ne.2 h2,brF]
theorem aaG(lf:Nat)(l m:List UInt8)(h1:chk l=0)(h2:chk m=0)(h3:200000≤lf):fQ.f lf (bs l) (bs m)=some (decide (iv l < iv m),()):=by
 rw[fQ.f,yh lf l m h1 h2 h3,bdS]
 simp only
 rw[lg.f,bdS]
 congr 2
 simp only[decide_eq_decide];unfold sgn;(repeat' split)<;>omega
theorem aj8(lf:Nat)(h3:200000≤lf)(em:Bool)(l h:List UInt8)(hl:l.length≤9223372036854775807)(hh:h.length≤9223372036854775807):dn.f lf (em,bs l,bs h,())=some (ckc em l h,()):=by
 rw[dn.f]
 simp only[e0,lT,numC lf l hl,numC lf h hh,bdS]
 unfold ckc
 cases em with
 | true =>
  rw[brT,if_pos rfl]
  by_cases c1:l=[]<;>by_cases c2:h=[]<;>simp[c1,c2,brT,brF]
 | false =>
  rw[brF,if_neg (by simp)]
  by_cases c1:num l=0
  ·rw[c1,bne_self_eq_false,brF,if_neg (by simp)]
   by_cases c2:num h=0
   ·rw[c2,bne_self_eq_false,brF,if_neg (by simp)]
    have k1:=vO c1
    have k2:=vO c2
    have z:(⟨#[48]⟩:ByteArray)=bs [48]:=rfl
    rw[z,aaG lf l [48] k1 aj3 h3,bdS,aaG lf h [48] k2 aj3 h3,aaG lf h l k2 k1 h3,iv48]
    simp only[bdS]
    have e:l=[48]↔iv l=0:=(zQ (lD.1 k1).1).symm
    by_cases a:iv l < 0
    ·rw[decide_eq_true a,brT,if_pos (.inl a)]
    ·rw[decide_eq_false a,brF]
     by_cases b:iv l=0
     ·rw[decide_eq_true (e.2 b),Bool.not_true,brF,if_neg (by omega)]
     ·rw[decide_eq_false (fun x=>b (e.1 x)),Bool.not_false,brT]
      by_cases c:iv h < 0
      ·rw[decide_eq_true c,brT,if_pos (.inr ⟨b,.inl c⟩)]
      ·rw[decide_eq_false c,brF]
       by_cases d:iv h < iv l
       ·rw[decide_eq_true d,Bool.not_true,brF,if_neg (by omega)]
       ·rw[decide_eq_false d,Bool.not_false,brT,if_pos (.inr ⟨b,.inr d⟩)]
   ·rw[bneT c2,brT,if_pos c2]
  ·rw[bneT c1,brT,if_pos c1]
theorem afk(lf:Nat)(h3:200000≤lf)(em:Bool)(l h:List UInt8)(hl:l.length≤9223372036854775807)(hh:h.length≤9223372036854775807)(fl:l.length≤lf)(fh:h.length≤lf):jb.f lf (em,bs l,bs h,())=some (ckc em l h,()):=by
 rw[jb.f]
 simp only[e0,lT,akd lf l hl fl,akd lf h hh fh,bdS]
 unfold ckc
 cases em with
 | true =>
  rw[brT,if_pos rfl]
  by_cases c1:l=[]<;>by_cases c2:h=[]<;>simp[c1,c2,brT,brF]
 | false =>
  rw[brF,if_neg (by simp)]
  by_cases c1:num l=0
  ·rw[c1,bne_self_eq_false,brF,if_neg (by simp)]
   by_cases c2:num h=0
   ·rw[c2,bne_self_eq_false,brF,if_neg (by simp)]
    have k1:=vO c1
    have k2:=vO c2
    have l1:=tK c1
    have l2:=tK c2
    have z:(⟨#[48]⟩:ByteArray)=bs [48]:=rfl
    rw[xN lf l (lD.1 k1).1,bdS,xN lf h (lD.1 k2).1,aeQ lf h l (lD.1 k2).1 (lD.1 k1).1 (by omega) (by omega) h3]
    simp only[bdS,ajM]
    have e:l=[48]↔iv l=0:=(zQ (lD.1 k1).1).symm
    by_cases a:iv l < 0
    ·rw[decide_eq_true a,brT,if_pos (.inl a)]
    ·rw[decide_eq_false a,brF]
     by_cases b:iv l=0
     ·rw[decide_eq_true (e.2 b),Bool.not_true,brF,if_neg (by omega)]
     ·rw[decide_eq_false (fun x=>b (e.1 x)),Bool.not_false,brT]
      by_cases c:iv h < 0
      ·rw[decide_eq_true c,brT,if_pos (.inr ⟨b,.inl c⟩)]
      ·rw[decide_eq_false c,brF]
       by_cases d:iv h < iv l
       ·rw[decide_eq_true d,Bool.not_true,brF,if_neg (by omega)]
       ·rw[decide_eq_false d,Bool.not_false,brT,if_pos (.inr ⟨b,.inr d⟩)]
   ·rw[bneT c2,brT,if_pos c2]
  ·rw[bneT c1,brT,if_pos c1]
structure Cg where
 em:Bool
 m:Int
 r:Int
deriving DecidableEq
def cc(c:Cg):IV:=if c.em=true then(true,bs [],bs [],())else(false,bs (Lib.itoa c.m),bs (Lib.itoa c.r),())
structure WfC(c:Cg):Prop where
 m: -C < c.m∧c.m < C
 r: -C < c.r∧c.r < C
 pos:0≤c.m
 rng:c.m≠0→0≤c.r∧c.r < c.m
def Ec:Cg:=⟨true,0,0⟩
def topC:Cg:=⟨false,1,0⟩
theorem akt{em:Bool}{l h:List UInt8}(hc:ckc em l h=0):∃ c:Cg,((em,bs l,bs h,()):IV)=cc c∧WfC c:=by
 have hC:=C_gt
 unfold ckc at hc
 cases em with
 | true =>
  rw[if_pos rfl]at hc
  have:¬(l≠[]∨h≠[]):=fun x=>by rw[if_pos x]at hc;cases hc
  have l0:l=[]:=by simpa using fun x=>this (.inl x)
  have h0:h=[]:=by simpa using fun x=>this (.inr x)
  subst l0 h0
  exact⟨Ec,rfl,⟨by simp only[Ec];omega,by simp only[Ec];omega,by simp[Ec],fun x=>absurd rfl x⟩⟩
 | false =>
  rw[if_neg (by simp)]at hc
  by_cases c1:num l=0
  ·rw[if_neg (by simp[c1])]at hc
   by_cases c2:num h=0
   ·rw[if_neg (by simp[c2])]at hc
    have n:¬(iv l < 0∨(iv l≠0∧(iv h < 0∨¬iv h < iv l))):=fun x=>by rw[if_pos x]at hc;cases hc
    have i1:=xu (oN.1 c1).1
    have i2:=xu (oN.1 c2).1
    refine⟨⟨false,iv l,iv h⟩,by unfold cc;rw[if_neg (by simp)];simp only;rw[←i1,←i2],?_⟩
    rw[i1,rM]at c1
    rw[i2,rM]at c2
    exact⟨c1,c2,by simp only;omega,fun x=>by simp only at x⊢;omega⟩
   ·rw[if_pos c2]at hc;exact absurd hc c2
  ·rw[if_pos c1]at hc;exact absurd hc c1
def clsF(m r:Int):Cg :=
 if sz (m.natAbs:Int) > 100∨sz (if m=0 then r else r.fmod (m.natAbs:Int)) > 100 then topC else⟨false,(m.natAbs:Int),if m=0 then r else r.fmod (m.natAbs:Int)⟩
theorem longI(lf:Nat){z:Int}(hz: -K < z∧z < K):fU.f lf (bs (Lib.itoa z))=some (decide (sz z > 100),()):=by
 have:=nH hz
 rw[ahQ lf _ (by omega)];rfl
theorem ak4(lf:Nat){z:Int}(hz: -K < z∧z < K):qH.f lf (bs (Lib.itoa z))=some (bs (Lib.itoa (z.natAbs:Int)),0,()):=by
 have:=nH hz
 rw[qH.f,pM lf _ (by omega),bdS]
 simp only[chkK hz,bne_self_eq_false,brF]
 rw[oU,bdS,xW]
 have e':Lib.itoa (z.natAbs:Int)=D z.natAbs:=by unfold Lib.itoa;rw[if_neg (by omega)];rfl
 rw[e']
theorem akh:((false,(⟨#[49]⟩:ByteArray),(⟨#[48]⟩:ByteArray),()):IV)=cc topC:=by
 unfold cc topC;rw[if_neg (by simp)];simp only;rw[i1,i0]
theorem yR{x m:Int}(hx: -K < x∧x < K)(hm: -K < m∧m < K)(h0:m≠0): -K < x.fmod m∧x.fmod m < K:=by
 have:=adK (x:=x) h0
 omega
theorem afm(lf:Nat)(hlf:2000000000≤lf){m r:Int}(hm: -K < m∧m < K)(hr: -K < r∧r < K):jc.f lf (bs (Lib.itoa m)) (bs (Lib.itoa r))=some (cc (clsF m r),()):=by
 have ha: -K < (m.natAbs:Int)∧(m.natAbs:Int) < K:=by omega
 rw[jc.f,ak4 lf hm,bdS]
 simp only[gZ.f,bdS,beq0,longI lf ha,kF.f,akh]
 unfold clsF
 by_cases h:m=0
 ·subst h
  simp only[longI lf hr,bdS]
  rw[decide_eq_true (by trivial),Bool.not_true,brF]
  by_cases c1:sz ((0:Int).natAbs:Int) > 100
  ·rw[decide_eq_true c1,brT,if_pos (.inl c1)]
  ·rw[decide_eq_false c1,brF]
   by_cases c2:sz r > 100
   ·rw[decide_eq_true c2,brT,if_pos (.inr (by rw[if_pos trivial];exact c2))]
   ·rw[decide_eq_false c2,brF,if_neg (by rw[if_pos trivial];exact fun x=>x.elim c1 c2),if_pos trivial]
    unfold cc;rw[if_neg (by simp)]
 ·have h':(m.natAbs:Int)≠0:=by omega
  have rk:=yR hr ha h'
  simp only[nI lf hlf hr ha h',bdS,longI lf rk]
  rw[decide_eq_false h',Bool.not_false,brT]
  by_cases c1:sz (m.natAbs:Int) > 100
  ·rw[decide_eq_true c1,brT,if_pos (.inl c1)]
  ·rw[decide_eq_false c1,brF]
   by_cases c2:sz (r.fmod (m.natAbs:Int)) > 100
   ·rw[decide_eq_true c2,brT,if_pos (.inr (by rw[if_neg h];exact c2))]
   ·rw[decide_eq_false c2,brF,if_neg (by rw[if_neg h];exact fun x=>x.elim c1 c2),if_neg h]
    unfold cc;rw[if_neg (by simp)]
theorem ach(lf:Nat){z:Int}(hz: -K < z∧z < K):aG.f lf (bs (Lib.itoa z))=some ((sz z:Int),()):=by
 have:=nH hz
 exact ou lf _ (kM z) (by omega)
theorem ahA(n:Nat):decide (((n:Nat):Int) > 100)=decide (n > 100):=by simp only[decide_eq_decide];omega
theorem rD(lf:Nat)(h3:200000≤lf){m r:Int}(hm: -K < m∧m < K)(hr: -K < r∧r < K):dJ.f lf (bs (Lib.itoa m)) (bs (Lib.itoa r))=some (cc (clsF m r),()):=by
 have ha: -K < (m.natAbs:Int)∧(m.natAbs:Int) < K:=by omega
 rw[dJ.f,nT,bdS]
 simp only[beq0,ach lf ha,bdS,fH.f,akh,ahA]
 unfold clsF
 by_cases h:m=0
 ·subst h
  simp only[ach lf hr,bdS,ahA]
  rw[decide_eq_true (by trivial),Bool.not_true,brF]
  by_cases c1:sz ((0:Int).natAbs:Int) > 100
  ·rw[decide_eq_true c1,brT,if_pos (.inl c1)]
  ·rw[decide_eq_false c1,brF]
   by_cases c2:sz r > 100
   ·rw[decide_eq_true c2,brT,if_pos (.inr (by rw[if_pos trivial];exact c2))]
   ·rw[decide_eq_false c2,brF,if_neg (by rw[if_pos trivial];exact fun x=>x.elim c1 c2),if_pos trivial]
    unfold cc;rw[if_neg (by simp)]
 ·have h':(m.natAbs:Int)≠0:=by omega
  have rk:=yR hr ha h'
  have s1:=szK hr
  have s2:=szK ha
  simp only[rV lf h3 (x:=r) (y:=(m.natAbs:Int)) (by omega) (by omega) h',bdS,ach lf rk,ahA]
  rw[decide_eq_false h,Bool.not_false,brT]
  by_cases c1:sz (m.natAbs:Int) > 100
  ·rw[decide_eq_true c1,brT,if_pos (.inl c1)]
  ·rw[decide_eq_false c1,brF]
   by_cases c2:sz (r.fmod (m.natAbs:Int)) > 100
   ·rw[decide_eq_true c2,brT,if_pos (.inr (by rw[if_neg h];exact c2))]
   ·rw[decide_eq_false c2,brF,if_neg (by rw[if_neg h];exact fun x=>x.elim c1 c2),if_neg h]
    unfold cc;rw[if_neg (by simp)]
def dvd'(m a:Int):Bool:=if m=0 then decide (a=0)else decide (a.fmod m=0)
theorem yA(lf:Nat)(hlf:2000000000≤lf){m a:Int}(hm: -K < m∧m < K)(ha: -K < a∧a < K):gQ.f lf (bs (Lib.itoa m)) (bs (Lib.itoa a))=some (dvd' m a,()):=by
 rw[gQ.f,beq0]
 unfold dvd'
 by_cases h:m=0
 ·rw[decide_eq_true h,brT,if_pos h,beq0]
 ·rw[decide_eq_false h,brF,if_neg h,nI lf hlf ha hm h,bdS,gZ.f,bdS,beq0]
theorem zl(lf:Nat)(h3:200000≤lf){m a:Int}(hm:sz m≤20000)(ha:sz a≤20000):gI.f lf (bs (Lib.itoa m)) (bs (Lib.itoa a))=some (dvd' m a,()):=by
 rw[gI.f,beq0]
 unfold dvd'
 by_cases h:m=0
 ·rw[decide_eq_true h,brT,if_pos h,beq0]
 ·rw[decide_eq_false h,brF,if_neg h,rV lf h3 ha hm h,bdS,beq0]
end Go.N
namespace Go.N
open Go Go.Q Go.Rx
theorem uI{k x y:Int}(hx: -k < x∧x < k)(hy: -k < y∧y < k): -k < (Int.gcd x y:Int)∧(Int.gcd x y:Int) < k:=by
 by_cases h:x=0
 ·subst h;rw[Int.gcd_zero_left];omega
 ·have:=Nat.gcd_le_left y.natAbs (show 0 < x.natAbs by omega)
  have e:Int.gcd x y=Nat.gcd x.natAbs y.natAbs:=rfl
  omega
section
variable (lf:Nat)(hb:Big lf)
include hb
theorem aeA{x y:Int}(hx: -K < x∧x < K)(hy: -K < y∧y < K):jl.f lf (bs (Lib.itoa x)) (bs (Lib.itoa y))=some (bs (Lib.itoa (Int.gcd x y)),()):=by
 rw[jl.f,ale lf hb hx hy,bdS,gZ.f,bdS]
theorem aap{x y:Int}(hx: -K < x∧x < K)(hy: -K < y∧y < K)(h: -K < x-y∧x-y < K):gU.f lf (bs (Lib.itoa x)) (bs (Lib.itoa y))=some (bs (Lib.itoa (x-y)),()):=by
 have:=(sz_K (x-y)).2 h
 rw[gU.f,akg lf _ _ (chkK hx) (chkK hy) (by have:=hb.1;omega),eH,eH,qW,if_neg (by omega),bdS,gZ.f,bdS]
theorem akq{x y:Int}(hx: -K < x∧x < K)(hy: -K < y∧y < K)(h: -K < x+y∧x+y < K):mV.f lf (bs (Lib.itoa x)) (bs (Lib.itoa y))=some (bs (Lib.itoa (x+y)),()):=by
 rw[mV.f,aa8 lf (by have:=hb.1;omega) hx hy h,bdS,gZ.f,bdS]
theorem ahl{x y:Int}(hx: -K < x∧x < K)(hy: -K < y∧y < K)(h: -K < x*y∧x*y < K):lH.f lf (bs (Lib.itoa x)) (bs (Lib.itoa y))=some (bs (Lib.itoa (x*y)),()):=by
 rw[lH.f,agV lf (by have:=hb.1;omega) hx hy h,bdS,gZ.f,bdS]
end
def joinC(c d:Cg):Cg:=if c.em=true then d else if d.em=true then c else clsF (Int.gcd (Int.gcd c.m d.m) (c.r-d.r)) c.r
theorem iC{c:Cg}(h:c.em=false):cc c=(false,bs (Lib.itoa c.m),bs (Lib.itoa c.r),()):=by unfold cc;rw[if_neg (by simp[h])]
theorem pU{c:Cg}(h:c.em=true):cc c=(true,bs [],bs [],()):=by unfold cc;rw[if_pos h]
theorem afe{c:Cg}(h:WfC c):∃ (l m:List UInt8),cc c=(c.em,bs l,bs m,())∧ckc c.em l m=0∧l.length≤101∧m.length≤101:=by
 have hK:=lu
 cases e:c.em with
 | true=>exact⟨[],[],pU e,by simp[ckc],by simp,by simp⟩
 | false =>
  have n1:=(rM c.m).2 h.m
  have n2:=(rM c.r).2 h.r
  refine⟨Lib.itoa c.m,Lib.itoa c.r,iC e,?_,tK n1,tK n2⟩
  unfold ckc
  rw[if_neg (by simp),n1,n2,eH,eH,if_neg (by simp),if_neg (by simp),if_neg]
  have a:=h.pos
  have b:=h.rng
  intro x
  rcases x with x | ⟨x,y⟩
  ·omega
  ·have:=b x;omega
section
variable (lf:Nat)(hb:Big lf){c d:Cg}(hc:WfC c)(hd:WfC d)
include hb hc
theorem ccheck:dn.f lf (cc c)=some (0,()):=by
 obtain⟨l,m,e,h,a,b⟩:=afe hc
 rw[e,aj8 lf (by have:=hb.1;omega) _ _ _ (by omega) (by omega),h]
theorem rcheck:jb.f lf (cc c)=some (0,()):=by
 obtain⟨l,m,e,h,a,b⟩:=afe hc
 have:=hb.1
 rw[e,afk lf (by omega) _ _ _ (by omega) (by omega) (by omega) (by omega),h]
include hd
theorem cboth:jK.f lf (cc c) (cc d)=some (0,()):=by
 rw[jK.f,ccheck lf hb hc,bdS]
 simp only[bne_self_eq_false,brF]
 rw[ccheck lf hb hd,bdS]
theorem bounds:(-K < c.m∧c.m < K)∧(-K < c.r∧c.r < K)∧(-K < d.m∧d.m < K)∧(-K < d.r∧d.r < K)∧(-K < c.r-d.r∧c.r-d.r < K)∧(-K < c.r+d.r∧c.r+d.r < K)∧(-K < c.m*d.m∧c.m*d.m < K)∧(-K < c.m*d.r∧c.m*d.r < K)∧(-K < d.m*c.r∧d.m*c.r < K)∧(-K < c.r*d.r∧c.r*d.r < K):=by
 have hK:=CC_K
 have hC:=C_gt
 have hCK:=lu
 have h4:0≤C*C:=Int.mul_nonneg (by omega) (by omega)
 have a1:=hc.m
 have a2:=hc.r
 have a3:=hd.m
 have a4:=hd.r
 have m1:=zx a1 a3
 have m2:=zx a1 a4
 have m3:=zx a3 a2
 have m4:=zx a2 a4
 refine⟨by omega,by omega,by omega,by omega,by omega,by omega,by omega,by omega,by omega,by omega⟩
theorem akI:mg.f lf (cc c) (cc d)=some (cc (joinC c d),0,()):=by
 obtain⟨b1,b2,b3,b4,b5,b6,b7,b8,b9,b10⟩:=bounds lf hb hc hd
 rw[mg.f,cboth lf hb hc hd,bdS]
 unfold joinC
 cases ec:c.em with
 | true=>rw[pU ec];simp only[bne_self_eq_false,brF,brT,if_true]
 | false=>cases ed:d.em with
  | true=>rw[iC ec,pU ed];simp only[bne_self_eq_false,brF,brT,if_true,if_false,Bool.false_eq_true];rw[iC ec]
  | false =>
   rw[iC ec,iC ed]
   have g1:=uI b1 b3
   simp only[bne_self_eq_false,brF,if_false,Bool.false_eq_true,aeA lf hb b1 b3,aap lf hb b2 b4 b5,bdS,aeA lf hb g1 b5,afm lf hb.1 (uI g1 b5) b2]
theorem ahI:jy.f lf (cc c) (cc d)=some (cc (joinC c d),()):=by
 obtain⟨b1,b2,b3,b4,b5,b6,b7,b8,b9,b10⟩:=bounds lf hb hc hd
 have h3:200000≤lf:=by have:=hb.1;omega
 rw[jy.f]
 unfold joinC
 cases ec:c.em with
 | true=>rw[pU ec];simp only[brT,if_true]
 | false=>cases ed:d.em with
  | true=>rw[iC ec,pU ed];simp only[brF,brT,if_true,if_false,Bool.false_eq_true];rw[iC ec]
  | false =>
   rw[iC ec,iC ed]
   have g1:=uI b1 b3
   simp only[brF,if_false,Bool.false_eq_true,wE lf hb b1 b3,diffI lf h3 b2 b4,bdS,wE lf hb g1 b5,rD lf h3 (uI g1 b5) b2]
end
end Go.N
namespace Go.N
open Go Go.Q Go.Rx
section
variable (lf:Nat)(hb:Big lf){c d:Cg}(hc:WfC c)(hd:WfC d)
include hb hc hd
end
end Go.N
namespace Go.N
open Go Go.Q Go.Rx
section
variable (lf:Nat)(hb:Big lf){c d:Cg}(hc:WfC c)(hd:WfC d)
include hb hc hd
end
end Go.N
namespace Go.N
open Go Go.Q Go.Rx
theorem ab8{m r:Int}:WfC (clsF m r):=by
 have hC:=C_gt
 unfold clsF
 by_cases h:sz (m.natAbs:Int) > 100∨sz (if m=0 then r else r.fmod (m.natAbs:Int)) > 100
 ·rw[if_pos h]
  exact⟨by simp only[topC];omega,by simp only[topC];omega,by simp[topC],fun _=>by simp[topC]⟩
 ·rw[if_neg h]
  have h1:=(sz_C (m.natAbs:Int)).1 (by omega)
  have h2:=(sz_C (if m=0 then r else r.fmod (m.natAbs:Int))).1 (by omega)
  refine⟨h1,h2,by simp only;omega,fun x=>?_⟩
  simp only at x⊢
  have h0:m≠0:=by omega
  rw[if_neg h0]
  exact⟨Int.fmod_nonneg_of_pos r (by omega),Int.fmod_lt_of_pos r (by omega)⟩
theorem aaf:WfC Ec:=by
 have hC:=C_gt
 exact⟨by simp only[Ec];omega,by simp only[Ec];omega,by simp[Ec],fun x=>absurd rfl x⟩
theorem ajS:WfC topC:=by
 have hC:=C_gt
 exact⟨by simp only[topC];omega,by simp only[topC];omega,by simp[topC],fun _=>by simp[topC]⟩
theorem aaC{c d:Cg}(hc:WfC c)(hd:WfC d):WfC (joinC c d):=by
 unfold joinC;split
 ·exact hd
 ·split
  ·exact hc
  ·exact ab8
def inC(c:Cg)(a:Int):Bool:=!c.em&&dvd' c.m (a-c.r)
def nV(c d:Cg):Bool:=if c.em=true then true else if d.em=true then false else dvd' d.m c.m&&dvd' d.m (c.r-d.r)
section
variable (lf:Nat)(hb:Big lf){c d:Cg}(hc:WfC c)(hd:WfC d)
include hb hc hd
theorem adQ:jB.f lf (cc c) (cc d)=some (nV c d,()):=by
 obtain⟨b1,b2,b3,b4,b5,b6,b7,b8,b9,b10⟩:=bounds lf hb hc hd
 have hlf:=hb.1
 rw[jB.f]
 unfold nV
 cases ec:c.em with
 | true=>rw[pU ec];simp only[brT,if_true]
 | false=>cases ed:d.em with
  | true=>rw[iC ec,pU ed];simp only[brF,brT,if_true,if_false,Bool.false_eq_true]
  | false =>
   rw[iC ec,iC ed]
   simp only[brF,if_false,Bool.false_eq_true,yA lf hlf b3 b1,aap lf hb b2 b4 b5,yA lf hlf b3 b5,bdS]
   cases dvd' d.m c.m with
   | true=>simp only[brT,Bool.true_and]
   | false=>simp only[brF,Bool.false_and]
end
theorem akG{c:Cg}(hc:WfC c)(h:c.em=false)(a:Int):inC c a=if c.m=0 then decide (a=c.r)else decide (a.fmod c.m=c.r):=by
 unfold inC dvd'
 rw[h,Bool.not_false,Bool.true_and]
 by_cases z:c.m=0
 ·rw[if_pos z,if_pos z];simp only[decide_eq_decide];omega
 ·rw[if_neg z,if_neg z]
  have r:=hc.rng z
  have p:0 < c.m:=by have:=hc.pos;omega
  simp only[decide_eq_decide]
  have m1:=Int.mul_fdiv_add_fmod a c.m
  have m2:=Int.mul_fdiv_add_fmod (a-c.r) c.m
  constructor
  ·intro e
   exact((jm (x:=a) (y:=c.m) (q:=(a-c.r).fdiv c.m) (r:=c.r) (by omega) (.inl r)).2).symm
  ·intro e
   exact((jm (x:=a-c.r) (y:=c.m) (q:=a.fdiv c.m) (r:=0) (by omega) (.inl (by omega))).2).symm
section
variable (lf:Nat)(hb:Big lf){c:Cg}(hc:WfC c)
include hb hc
theorem ajg{a:Int}(ha: -K < a∧a < K):lF.f lf (cc c) (bs (Lib.itoa a))=some (inC c a,0,()):=by
 have hlf:=hb.1
 have hl:=nH ha
 have bm:=CK hc.m
 rw[lF.f,ccheck lf hb hc,bdS]
 simp only[bne_self_eq_false,brF,pM lf (Lib.itoa a) (by omega),chkK ha,bdS]
 cases ec:c.em with
 | true=>rw[pU ec];simp only[brT,inC,ec,Bool.not_true,Bool.false_and]
 | false =>
  rw[akG hc ec,iC ec]
  simp only[brF,beq0]
  have bq:∀ x y:Int,((bs (Lib.itoa x)).toList==(bs (Lib.itoa y)).toList)=decide (x=y):=fun x y=>by
   rw[lT];simp only[decide_eq_decide];exact⟨fun e=>oK e,fun e=>by rw[e]⟩
  by_cases z:c.m=0
  ·rw[decide_eq_true z,brT,if_pos z,bq]
  ·rw[decide_eq_false z,brF,if_neg z,nI lf hlf ha bm z,bdS,gZ.f,bdS,bq]
theorem in_r{a:Int}(ha: -Dd < a∧a < Dd):gq.f lf (cc c) (bs (Lib.itoa a))=some (inC c a,()):=by
 have h3:200000≤lf:=by have:=hb.1;omega
 have hD:=DD_K
 have hC:=C_gt
 have hCD:=mO
 have h4:0≤Dd*Dd:=Int.mul_nonneg (by omega) (by omega)
 have bm:=hc.m
 have br':=hc.r
 rw[gq.f]
 unfold inC
 cases ec:c.em with
 | true=>rw[pU ec];simp only[Bool.not_true,brF,Bool.false_and]
 | false =>
  rw[iC ec]
  have s1:=szK (CK bm)
  have s2:=szK (z:=a-c.r) (by omega)
  simp only[Bool.not_false,brT,Bool.true_and,diffI lf h3 (x:=a) (y:=c.r) (by omega) (by omega),bdS,zl lf h3 (m:=c.m) (a:=a-c.r) (by omega) (by omega)]
end
end Go.N
namespace Go.N
open Go Go.Q Go.Rx
def negC(c:Cg):Cg:=if c.em=true then Ec else clsF c.m (-c.r)
theorem afK{c:Cg}:WfC (negC c):=by unfold negC;split;exact aaf;exact ab8
section
variable (lf:Nat)(hb:Big lf){c:Cg}(hc:WfC c)
include hb hc
theorem aeU:iT.f lf (cc c)=some (cc (negC c),()):=by
 have h3:200000≤lf:=by have:=hb.1;omega
 have bm:=CK hc.m
 have br':=CK hc.r
 rw[iT.f]
 unfold negC
 cases ec:c.em with
 | true=>rw[pU ec];simp only[brT,if_true];rfl
 | false =>
  rw[iC ec]
  simp only[brF,if_false,Bool.false_eq_true,uT lf br',bdS,rD lf h3 bm (r:= -c.r) (by omega)]
end
end Go.N
namespace Go.N
open Go Go.Q Go.Rx
def aboveC(c:Cg)(a:Int):Option Int:=if c.m=0 then(if c.r < a then none else some c.r)else some (a+(c.r-a).fmod c.m)
theorem xg{x y m:Int}(h:0 < m):(x.fmod m-y.fmod m).fmod m=(x-y).fmod m:=by
 rw[Int.fmod_eq_emod_of_nonneg _ (Int.le_of_lt h),Int.fmod_eq_emod_of_nonneg _ (Int.le_of_lt h),Int.fmod_eq_emod_of_nonneg _ (Int.le_of_lt h),Int.fmod_eq_emod_of_nonneg _ (Int.le_of_lt h),←Int.sub_emod]
section
variable (lf:Nat)(hb:Big lf){c:Cg}(hc:WfC c)(he:c.em=false){a:Int}(ha: -Dd < a∧a < Dd)
include hb hc he ha
theorem ajj:lG.f lf (cc c) (bs (Lib.itoa a))=some (match aboveC c a with
  | none=>(bs [],6,())
  | some v=>(bs (Lib.itoa v),0,())):=by
 have hlf:=hb.1
 have hD:=DD_K
 have hC:=C_gt
 have hCD:=mO
 have h4:0≤Dd*Dd:=Int.mul_nonneg (by omega) (by omega)
 have ka: -K < a∧a < K:=by omega
 have hl:=nH ka
 have m1:=hc.m
 have r1:=hc.r
 have bm:=CK hc.m
 have br':=CK hc.r
 rw[lG.f,ccheck lf hb hc,bdS]
 simp only[bne_self_eq_false,brF,pM lf (Lib.itoa a) (by omega),chkK ka,bdS]
 rw[iC he]
 simp only[brF,beq0]
 unfold aboveC
 by_cases z:c.m=0
 ·rw[decide_eq_true z,Bool.not_true,brF,if_pos z,aaG lf _ _ (chkK br') (chkK ka) (by omega),eH,eH,bdS]
  simp only
  by_cases h:c.r < a
  ·rw[decide_eq_true h,brT,if_pos h]
  ·rw[decide_eq_false h,brF,if_neg h]
 ·have p:0 < c.m:=by have:=hc.pos;omega
  have k1:=yR br' bm z
  have k2:=yR ka bm z
  have g1:=Int.fmod_nonneg_of_pos c.r p
  have g2:=Int.fmod_lt_of_pos c.r p
  have g3:=Int.fmod_nonneg_of_pos a p
  have g4:=Int.fmod_lt_of_pos a p
  have k3: -K < c.r.fmod c.m-a.fmod c.m∧c.r.fmod c.m-a.fmod c.m < K:=by omega
  have g5:=Int.fmod_nonneg_of_pos (c.r-a) p
  have g6:=Int.fmod_lt_of_pos (c.r-a) p
  rw[decide_eq_false z,Bool.not_false,brT,if_neg z,iR.f,nI lf hlf br' bm z,bdS]
  simp only[bne_self_eq_false,brF,nI lf hlf ka bm z,bdS,aap lf hb k1 k2 k3,nI lf hlf k3 bm z,xg p,aa8 lf (by omega) ka (y:=(c.r-a).fmod c.m) (by omega) (by omega)]
theorem afg:iq.f lf (cc c) (bs (Lib.itoa a))=some (match aboveC c a with
  | none=>(bs [],false,())
  | some v=>(bs (Lib.itoa v),true,())):=by
 have h3:200000≤lf:=by have:=hb.1;omega
 have hD:=DD_K
 have hC:=C_gt
 have hCD:=mO
 have h4:0≤Dd*Dd:=Int.mul_nonneg (by omega) (by omega)
 have ka: -K < a∧a < K:=by omega
 have m1:=hc.m
 have r1:=hc.r
 have bm:=CK hc.m
 have br':=CK hc.r
 rw[iq.f,iC he]
 simp only[beq0]
 unfold aboveC
 by_cases z:c.m=0
 ·rw[decide_eq_true z,brT,if_pos z,lessI lf h3 br' ka,bdS]
  simp only
  by_cases h:c.r < a
  ·rw[decide_eq_true h,brT,if_pos h]
  ·rw[decide_eq_false h,brF,if_neg h]
 ·have p:0 < c.m:=by have:=hc.pos;omega
  have g5:=Int.fmod_nonneg_of_pos (c.r-a) p
  have g6:=Int.fmod_lt_of_pos (c.r-a) p
  have kd: -K < c.r-a∧c.r-a < K:=by omega
  have s1:=szK kd
  have s2:=szK bm
  simp only[decide_eq_false z,brF,if_neg z,diffI lf h3 br' ka,bdS,rV lf h3 (x:=c.r-a) (y:=c.m) (by omega) (by omega) z,sumI lf h3 ka (y:=(c.r-a).fmod c.m) (by omega)]
end
end Go.N
namespace Go.N
open Go Go.Q Go.Rx
def belowC(c:Cg)(a:Int):Option Int:=if c.m=0 then(if a < c.r then none else some c.r)else some (a-(a-c.r).fmod c.m)
theorem wS{m r:Int}(h0:0≤m)(hm: -C < m∧m < C)(hr: -C < r∧r < C):clsF m r=⟨false,m,if m=0 then r else r.fmod m⟩:=by
 have e:(m.natAbs:Int)=m:=by omega
 unfold clsF
 rw[e]
 have s1:=(sz_C m).2 hm
 have s2:sz (if m=0 then r else r.fmod m)≤100:=by
  apply (sz_C _).2
  split
  ·exact hr
  ·have a:=Int.fmod_nonneg_of_pos r (show 0 < m by omega)
   have b:=Int.fmod_lt_of_pos r (show 0 < m by omega)
   omega
 rw[if_neg (by omega)]
theorem ags{c:Cg}(hc:WfC c)(he:c.em=false)(a:Int):belowC c a=(aboveC (negC c) (-a)).map fun v=> -v:=by
 have e:negC c=⟨false,c.m,if c.m=0 then -c.r else(-c.r).fmod c.m⟩:=by
  unfold negC
  rw[if_neg (by simp[he])]
  exact wS hc.pos hc.m (by have:=hc.r;omega)
 rw[e]
 unfold belowC aboveC
 simp only
 by_cases z:c.m=0
 ·simp only[z,if_true]
  by_cases h:a < c.r
  ·rw[if_pos h,if_pos (by omega)];rfl
  ·rw[if_neg h,if_neg (by omega)];simp
 ·have p:0 < c.m:=by have:=hc.pos;omega
  simp only[if_neg z,Option.map_some]
  have k:((-c.r).fmod c.m - -a).fmod c.m=(a-c.r).fmod c.m:=by
   have h1:=xg (x:=(-c.r).fmod c.m) (y:= -a) p
   have h2:=xg (x:= -c.r) (y:= -a) p
   have h3:((-c.r).fmod c.m).fmod c.m=(-c.r).fmod c.m:=by
    rw[Int.fmod_eq_emod_of_nonneg _ (Int.le_of_lt p),Int.fmod_eq_emod_of_nonneg _ (Int.le_of_lt p),Int.emod_emod]
   rw[←h1,h3,h2]
   congr 1;omega
  rw[k]
  congr 1;omega
section
variable (lf:Nat)(hb:Big lf){c:Cg}(hc:WfC c)(he:c.em=false){a:Int}(ha: -Dd < a∧a < Dd)
include hb hc he ha
theorem ai3:ja.f lf (cc c) (bs (Lib.itoa a))=some (match belowC c a with
  | none=>(bs [],false,())
  | some v=>(bs (Lib.itoa v),true,())):=by
 have hD:=DD_K
 have hC:=C_gt
 have hCD:=mO
 have h4:0≤Dd*Dd:=Int.mul_nonneg (by omega) (by omega)
 have ne:(negC c).em=false:=by
  have:negC c=⟨false,c.m,if c.m=0 then -c.r else(-c.r).fmod c.m⟩:=by
   unfold negC
   rw[if_neg (by simp[he])]
   exact wS hc.pos hc.m (by have:=hc.r;omega)
  rw[this]
 have ab:=afg lf hb afK ne (a:= -a) (by omega)
 rw[ja.f,aeU lf hb hc,bdS,uT lf (z:=a) (by omega),bdS,ab,bdS,ags hc he]
 cases h:aboveC (negC c) (-a)with
 | none=>simp only[Bool.not_false,brT,Option.map_none]
 | some v =>
  have kv: -K < v∧v < K:=by
   unfold aboveC at h
   have w:=afK (c:=c)
   have m1:=w.m
   have r1:=w.r
   split at h
   ·split at h
    ·cases h
    ·injection h with h;omega
   ·rename_i z
    have p:0 < (negC c).m:=by have:=w.pos;omega
    have g5:=Int.fmod_nonneg_of_pos ((negC c).r - -a) p
    have g6:=Int.fmod_lt_of_pos ((negC c).r - -a) p
    injection h with h
    omega
  simp only[Bool.not_true,brF,Option.map_some,uT lf kv,bdS]
theorem aeJ:iW.f lf (cc c) (bs (Lib.itoa a))=some (match belowC c a with
  | none=>(bs [],6,())
  | some v=>(bs (Lib.itoa v),0,())):=by
 have hlf:=hb.1
 have hD:=DD_K
 have hC:=C_gt
 have hCD:=mO
 have h4:0≤Dd*Dd:=Int.mul_nonneg (by omega) (by omega)
 have ka: -K < a∧a < K:=by omega
 have hl:=nH ka
 have m1:=hc.m
 have r1:=hc.r
 have bm:=CK hc.m
 have br':=CK hc.r
 rw[iW.f,ccheck lf hb hc,bdS]
 simp only[bne_self_eq_false,brF,pM lf (Lib.itoa a) (by omega),chkK ka,bdS]
 rw[iC he]
 simp only[brF,beq0]
 unfold belowC
 by_cases z:c.m=0
 ·rw[decide_eq_true z,Bool.not_true,brF,if_pos z,aaG lf _ _ (chkK ka) (chkK br') (by omega),eH,eH,bdS]
  simp only
  by_cases h:a < c.r
  ·rw[decide_eq_true h,brT,if_pos h]
  ·rw[decide_eq_false h,brF,if_neg h]
 ·have p:0 < c.m:=by have:=hc.pos;omega
  have k1:=yR br' bm z
  have k2:=yR ka bm z
  have g1:=Int.fmod_nonneg_of_pos c.r p
  have g2:=Int.fmod_lt_of_pos c.r p
  have g3:=Int.fmod_nonneg_of_pos a p
  have g4:=Int.fmod_lt_of_pos a p
  have k3: -K < a.fmod c.m-c.r.fmod c.m∧a.fmod c.m-c.r.fmod c.m < K:=by omega
  have g5:=Int.fmod_nonneg_of_pos (a-c.r) p
  have g6:=Int.fmod_lt_of_pos (a-c.r) p
  have kf: -K < (a-c.r).fmod c.m∧(a-c.r).fmod c.m < K:=by omega
  have kd: -K < a-(a-c.r).fmod c.m∧a-(a-c.r).fmod c.m < K:=by omega
  have sd:=(sz_K _).2 kd
  have sb:=akg lf _ _ (chkK ka) (chkK kf) (by omega)
  rw[eH,eH,qW,if_neg (by omega)]at sb
  rw[decide_eq_false z,Bool.not_false,brT,if_neg z,iR.f,nI lf hlf ka bm z,bdS]
  simp only[bne_self_eq_false,brF,nI lf hlf br' bm z,bdS,aap lf hb k2 k1 k3,nI lf hlf k3 bm z,xg p,sb]
end
end Go.N
namespace Go.N
open Go Go.Q Go.Rx
theorem alk(lf:Nat)(hb:Big lf){x y:Int}(hx:0 < x∧x < C)(hy:0 < y∧y < C):qJ.f lf (bs (Lib.itoa x)) (bs (Lib.itoa y))=some (bs (Lib.itoa (x / (Int.gcd x y:Int)*y)),0,()):=by
 have hlf:=hb.1
 have hK:=hb.2
 have hCK:=lu
 have hCC:=CC_K
 have hC:=C_gt
 have kx: -K < x∧x < K:=by omega
 have ky: -K < y∧y < K:=by omega
 obtain⟨p,q,e,k1,k2,_⟩:=tV lf _ _ (chkK kx) (chkK ky) (by omega)
 rw[eH]at k1 k2
 have n1:=aZ (B:=G) (by decide) k1.dg
 have n2:=aZ (B:=G) (by decide) k2.dg
 have vx:lv G p.2.1=x:=by have:=k1.val;split at this<;>omega
 have vy:lv G q.2.1=y:=by have:=k2.val;split at this<;>omega
 have p0:p.2.1≠[]:=fun h=>by rw[h]at vx;simp only[lv]at vx;omega
 have q0:q.2.1≠[]:=fun h=>by rw[h]at vy;simp only[lv]at vy;omega
 have pl:0 < p.2.1.length:=List.length_pos_iff.2 p0
 have ql:0 < q.2.1.length:=List.length_pos_iff.2 q0
 have l1:=k1.len
 have l2:=k2.len
 obtain⟨g,g1,g2,g3,g4,g5⟩:=abj lf hlf (lf+39) (lf+40) p.2.1 q.2.1 (by omega) (by omega) k1.dg k2.dg k1.tr k2.tr (by omega) (by omega)
 rw[vx,vy]at g5
 have gp:0 < (Int.gcd x y:Int):=by
  have:=Int.gcd_pos_of_ne_zero_left y (show x≠0 by omega)
  omega
 have g0:g≠[]:=fun h=>by rw[h]at g5;simp only[lv]at g5;omega
 obtain⟨Q,R,d1,d2,d3,d4,d5,d6,d7⟩:=wV lf p.2.1 g k1.dg g2 k1.tr g3 g0 (by omega) (by omega) hlf
 have Q0:=aZ (B:=G) (by decide) d2
 have R0:=aZ (B:=G) (by decide) d4
 rw[vx,g5]at d6
 rw[g5]at d7
 have dv:(Int.gcd x y:Int)∣x:=Int.gcd_dvd_left x y
 have qv:lv G Q=x / (Int.gcd x y:Int):=by
  obtain⟨k,hk⟩:=dv
  have w:=adf (M:=(Int.gcd x y:Int)) (a:=lv G R) (d:=lv G Q-k) (b:=0) gp (by rw[Int.mul_sub];omega) R0 d7 (by omega) gp
  have:lv G Q=k:=by omega
  rw[this]
  exact(Int.ediv_eq_of_eq_mul_right (show(Int.gcd x y:Int)≠0 by omega) hk).symm
 have qlen:Q.length≤p.2.1.length:=by
  by_cases z:Q.length≤p.2.1.length
  ·exact z
  ·have:=lK (B:=G) (by decide) k1.dg d2 d3 (by omega)
   have:=Int.ediv_le_self (Int.gcd x y:Int) (show 0≤x by omega)
   omega
 obtain⟨r,r1,r2,r3,r4,r5⟩:=ac5 lf Q q.2.1 d2 k2.dg (by omega) (by omega) (by omega)
 rw[qv,vy]at r5
 have rn:RN (false,r,()) (x / (Int.gcd x y:Int)*y) 8192:=⟨r2,r3,by simp only;omega,by simp only[Bool.false_eq_true,if_false];rw[r5]⟩
 have lt: -K < x / (Int.gcd x y:Int)*y∧x / (Int.gcd x y:Int)*y < K:=by
  have a:=Int.ediv_le_self (Int.gcd x y:Int) (show 0≤x by omega)
  have b:=Int.ediv_nonneg (show 0≤x by omega) (Int.le_of_lt gp)
  have:=zx (a:=x / (Int.gcd x y:Int)) (b:=y) (by omega) (by omega)
  omega
 have sz':=(sz_K _).2 lt
 rw[qJ.f,e,bdS]
 simp only[bne_self_eq_false,brF]
 rw[show(((p.2.1.length:Nat):Int)==0)=false from beq_eq_false_iff_ne.2 (by omega),brF,show(((q.2.1.length:Nat):Int)==0)=false from beq_eq_false_iff_ne.2 (by omega),brF,fE.f,g1,bdS,bdS,d1,bdS,r1,bdS,vX lf rn (by omega) (by omega),qW,if_neg (by omega),bdS]
end Go.N
namespace Go.N
open Go Go.Q Go.Rx
structure Bz(a b r s x z:Int):Prop where
 b0:0 < b
 r0:0 < r
 s0:0≤s
 xr:b∣x*a-r
 zs:b∣z*a-s
 sg:(0≤z∧x≤0∧z*r-x*s=b)∨(z≤0∧0≤x∧z*r-x*s= -b)
 xb: -b≤x∧x≤b
theorem Bz.zb{a b r s x z:Int}(h:Bz a b r s x z): -b≤z∧z≤b:=by
 have r0:=h.r0
 have s0:=h.s0
 have b0:=h.b0
 rcases h.sg with⟨h1,h2,h3⟩ | ⟨h1,h2,h3⟩
 ·have a1:z*1≤z*r:=Int.mul_le_mul_of_nonneg_left (by omega) h1
  have a2:0≤-x*s:=Int.mul_nonneg (by omega) s0
  rw[Int.neg_mul]at a2
  omega
 ·have a1: -z*1≤-z*r:=Int.mul_le_mul_of_nonneg_left (by omega) (by omega)
  have a2:0≤x*s:=Int.mul_nonneg h2 s0
  rw[Int.neg_mul,Int.neg_mul]at a1
  omega
theorem Bz.next{a b r s x z q t:Int}(h:Bz a b r s x z)(hs:0 < s)(hq:r=s*q+t)(t0:0≤t)(q0:0≤q):Bz a b s t z (x-q*z):=by
 have zb:=h.zb
 refine⟨h.b0,hs,t0,h.zs,?_,?_,zb⟩
 ·have e:(x-q*z)*a-t=(x*a-r)-q*(z*a-s):=by
   subst hq;rw[Int.sub_mul,Int.mul_sub,Int.mul_assoc,Int.mul_comm q s];omega
  rw[e]
  exact Int.dvd_sub h.xr (Int.dvd_trans h.zs (Int.dvd_mul_left _ _))
 ·have e:(x-q*z)*s-z*t= -(z*r-x*s):=by
   subst hq;rw[Int.sub_mul,Int.mul_add,Int.mul_comm q z,Int.mul_assoc z q s,Int.mul_comm q s];omega
  rw[e]
  rcases h.sg with⟨h1,h2,h3⟩ | ⟨h1,h2,h3⟩
  ·refine .inr ⟨?_,h1,by rw[h3]⟩
   have:=Int.mul_nonneg q0 h1
   omega
  ·refine .inl ⟨?_,h1,by rw[h3];omega⟩
   have:=Int.mul_nonneg q0 (show 0≤-z by omega)
   rw[Int.mul_neg]at this
   omega
theorem crt{m1 m2 g r1 r2 x k:Int}(g0:0 < g)(h1:0 < m1)(h2:0 < m2)(d1:g∣m1)(d2:g∣m2)(hx:m2∣x*m1-g)(hk:r2-r1=g*k):m2∣(r1+x*k*m1)-r2:=by
 have e:(r1+x*k*m1)-r2=k*(x*m1-g):=by
  rw[Int.mul_sub,Int.mul_comm k g,←hk,Int.mul_comm x k,Int.mul_assoc];omega
 rw[e]
 exact Int.dvd_trans hx (Int.dvd_mul_left _ _)
theorem lcm_dvd{m1 m2 v:Int}(h1:0 < m1)(h2:0 < m2)(a:m1∣v)(b:m2∣v):m1 / (Int.gcd m1 m2:Int)*m2∣v:=by
 have l:(Int.lcm m1 m2:Int)∣v:=Int.coe_lcm_dvd a b
 have e:(Int.lcm m1 m2:Int)=m1 / (Int.gcd m1 m2:Int)*m2:=by
  rw[Int.lcm_eq_mul_div,Int.natCast_ediv,Int.natCast_mul,Int.natAbs_of_nonneg (Int.le_of_lt h1),Int.natAbs_of_nonneg (Int.le_of_lt h2),Int.mul_comm m1 m2,Int.mul_ediv_assoc _ (Int.gcd_dvd_left m1 m2),Int.mul_comm]
 rw[←e];exact l
theorem afB{m1 m2:Int}(h1:0 < m1)(h2:0 < m2):m1 / (Int.gcd m1 m2:Int)*m2=m1*(m2 / (Int.gcd m1 m2:Int)):=by
 have d1:=Int.gcd_dvd_left m1 m2
 have d2:=Int.gcd_dvd_right m1 m2
 rw[←Int.mul_ediv_assoc _ d2,Int.mul_comm _ m2,←Int.mul_ediv_assoc _ d1,Int.mul_comm]
theorem lcm_pos{m1 m2:Int}(h1:0 < m1)(h2:0 < m2):0 < m1 / (Int.gcd m1 m2:Int)*m2:=by
 have gp:0 < (Int.gcd m1 m2:Int):=by
  have:=Int.gcd_pos_of_ne_zero_left m2 (show m1≠0 by omega)
  omega
 have:0 < m1 / (Int.gcd m1 m2:Int):=Int.ediv_pos_of_pos_of_dvd h1 (by omega) (Int.gcd_dvd_left _ _)
 exact Int.mul_pos this h2
theorem agI{L u v:Int}(h:0 < L)(d:L∣u-v):u.fmod L=v.fmod L:=by
 rw[Int.fmod_eq_emod_of_nonneg _ (Int.le_of_lt h),Int.fmod_eq_emod_of_nonneg _ (Int.le_of_lt h)]
 exact Int.emod_eq_emod_iff_emod_sub_eq_zero.2 (Int.emod_eq_zero_of_dvd d)
end Go.N
namespace Go.N
open Go Go.Q Go.Rx
abbrev Nb:Type:=Bool×(List Int×Unit)
theorem RN.natAbs{p:Nb}{z:Int}{k:Nat}(h:RN p z k):lv G p.2.1=(z.natAbs:Int):=by
 have:=h.val
 have:=aZ (B:=G) (by decide) h.dg
 split at*<;> omega
theorem RN.small(lf:Nat)(h3:200000≤lf){p:Nb}{z:Int}{k:Nat}(h:RN p z k)(hz: -K < z∧z < K):RN p z 4096:=by
 obtain⟨q,_,_,k1,_⟩:=tV lf _ _ (chkK hz) (chkK hz) h3
 rw[eH]at k1
 refine⟨h.dg,h.tr,?_,h.val⟩
 by_cases l:p.2.1.length≤4096
 ·exact l
 ·have:=lK (B:=G) (by decide) k1.dg h.dg h.tr (by have:=k1.len;omega)
  rw[h.natAbs,k1.natAbs]at this
  omega
theorem RN.nil{p:Nb}{k:Nat}(h:RN p 0 k):p.2.1=[]:=(wJ (B:=G) (by decide) h.dg h.tr).1 (by rw[h.natAbs];rfl)
theorem RN.ne{p:Nb}{z:Int}{k:Nat}(h:RN p z k)(h0:z≠0):0 < p.2.1.length:=by
 refine List.length_pos_iff.2 fun e=>h0 ?_
 have:=h.natAbs
 rw[e]at this
 simp only[lv]at this
 omega
theorem ah6(lf:Nat)(h3:200000≤lf){p q:Nb}{x y:Int}{k:Nat}(h1:RN p x k)(h2:RN q y k)(hk:k≤50000):∃ s,bY.f lf p q=some (s,())∧RN s (x*y) (k+k):=by
 obtain⟨r,r1,r2,r3,r4,r5⟩:=ac5 lf p.2.1 q.2.1 h1.dg h2.dg (by have:=h1.len;omega) (by have:=h2.len;omega) h3
 rw[bY.f,r1,bdS]
 refine⟨_,rfl,r2,r3,by have:=h1.len;have:=h2.len;simp only;omega,?_⟩
 simp only
 rw[r5,h1.val,h2.val]
 cases p.1<;>cases q.1<;>simp[Int.neg_mul,Int.mul_neg]
section
variable (lf:Nat)(hlf:2000000000≤lf){a b:Int}(hb:b < C)
include hlf hb
theorem ab5{r s bf nw:Nb}{R S X Z:Int}(h1:RN r R 4096)(h2:RN s S 4096)(h3:RN bf X 4096)(h4:RN nw Z 4096)(h:Bz a b R S X Z)(hs:S≠0):
  ∃ q t u v w,aS.f lf r s=some (q,t,())∧bY.f lf q nw=some (u,())∧bD.f lf u=some (v,())∧dX.f lf bf v=some (w,())∧
   RN t (R.fmod S) 4096∧RN w (X-R.fdiv S*Z) 4096∧Bz a b S (R.fmod S) Z (X-R.fdiv S*Z):=by
 have hC:=lu
 have sp:0 < S:=by have:=h.s0;omega
 obtain⟨q,t,e1,k1,k2⟩:=tX lf hlf h1 h2 (by omega) hs
 obtain⟨u,e2,k3⟩:=ah6 lf (by omega) k1 (h4.mono (by omega)) (by omega)
 obtain⟨v,e3,k4⟩:=vN lf k3
 obtain⟨w,e4,k5⟩:=aem lf (h3.mono (show 4096≤4096+1+(4096+1) by omega)) k4 (by omega) (by omega)
 rw[←Int.sub_eq_add_neg]at k5
 have m:=Int.mul_fdiv_add_fmod R S
 have n:=h.next sp m.symm (Int.fmod_nonneg_of_pos R sp) (by
  rw[Int.fdiv_eq_ediv_of_nonneg _ (Int.le_of_lt sp)];exact Int.ediv_nonneg (Int.le_of_lt h.r0) (Int.le_of_lt sp))
 have zb:=n.zb
 exact⟨q,t,u,v,w,e1,e2,e3,e4,k2,k5.small lf (by omega) (by omega),n⟩
theorem ak6(v0:Bool)(v1:List Int)(v2:Bool)(v3 v8:List Int):∀ (k n:Nat) (r s bf nw:Nb) (R S X Z:Int),S≤k→k < n→RN r R 4096→RN s S 4096→RN bf X 4096→RN nw Z 4096→Bz a b R S X Z→
  ∃ (g bf' nw':Nb) (e:Bool) (X':Int),bW.l2 lf v0 v1 v2 v3 v8 n r.1 r.2.1 s.1 s.2.1 bf.1 bf.2.1 nw.1 nw.2.1=some ((v0,v1,v2,v3,g.1,g.2.1,e,[],v8,bf'.1,bf'.2.1,nw'.1,nw'.2.1,()),())∧
   RN g (Int.gcd R S) 4096∧RN bf' X' 4096∧b∣X'*a-(Int.gcd R S:Int)∧-b≤X'∧X'≤b:=by
 intro k
 induction k with
 | zero =>
  intro n r s bf nw R S X Z hk hn h1 h2 h3 h4 h
  obtain⟨m,rfl⟩:=Nat.exists_eq_succ_of_ne_zero (show n≠0 by omega)
  have s0:=h.s0
  obtain rfl:S=0:=by omega
  have e:=h2.nil
  have r0:=h.r0
  have g:(Int.gcd R 0:Int)=R:=by rw[Int.gcd_zero_right];omega
  refine⟨r,bf,nw,s.1,X,?_,by rw[g];exact h1,h3,by rw[g];exact h.xr,h.xb⟩
  rw[bW.l2,bW.r2,e,decide_eq_false (by simp),brF]
 | succ k ih =>
  intro n r s bf nw R S X Z hk hn h1 h2 h3 h4 h
  obtain⟨m,rfl⟩:=Nat.exists_eq_succ_of_ne_zero (show n≠0 by omega)
  have s0:=h.s0
  have r0:=h.r0
  by_cases hs:S=0
  ·subst hs
   have e:=h2.nil
   have g:(Int.gcd R 0:Int)=R:=by rw[Int.gcd_zero_right];omega
   refine⟨r,bf,nw,s.1,X,?_,by rw[g];exact h1,h3,by rw[g];exact h.xr,h.xb⟩
   rw[bW.l2,bW.r2,e,decide_eq_false (by simp),brF]
  ·obtain⟨q,t,u,v,w,e1,e2,e3,e4,k1,k2,nx⟩:=ab5 lf hlf hb h1 h2 h3 h4 h hs
   have sp:0 < S:=by omega
   have f1:=Int.fmod_lt_of_pos R sp
   have gs:(Int.gcd S (R.fmod S))=Int.gcd R S:=qL (Int.mul_fdiv_add_fmod R S).symm sp nx.s0 f1 (by omega)
   obtain⟨g,bf',nw',e,X',i1,i2,i3,i4,i5⟩:=ih m s t nw w S (R.fmod S) Z _ (by omega) (by omega) h2 k1 h4 k2 nx
   rw[gs]at i2 i4
   refine⟨g,bf',nw',e,X',?_,i2,i3,i4,i5⟩
   rw[bW.l2,bW.r2,decide_eq_true (by have:=h2.ne hs;omega),brT]
   have x1:((r.1,r.2.1,()):Nb)=r:=rfl
   have x2:((s.1,s.2.1,()):Nb)=s:=rfl
   have x3:((nw.1,nw.2.1,()):Nb)=nw:=rfl
   have x4:((bf.1,bf.2.1,()):Nb)=bf:=rfl
   rw[x1,x2,x3,x4,e1,bdS,e2,bdS,e3,bdS,e4,bdS]
   exact i1
end
theorem afj(lf:Nat)(hlf:2000000000≤lf){a b:Int}(ha:0 < a∧a < C)(hb:0 < b∧b < C){x y g bf:Nb}{X:Int}(hx:RN x a 4096)(hy:RN y b 4096)(hg:RN g (Int.gcd a b) 4096)(hf:RN bf X 4096)(hX:b∣X*a-(Int.gcd a b:Int)):
  ∃ (Q R:List Int) (q u p m s t:Nb) (o:Nb),af.f lf y.2.1 g.2.1=some (Q,R,())∧aS.f lf bf (false,Q,())=some (q,u,())∧bY.f lf x u=some (p,())∧bD.f lf p=some (m,())∧
   dX.f lf g m=some (s,())∧aS.f lf s y=some (t,o,())∧(∃ c1,ak.f lf g=some (c1,()))∧(∃ c2,ak.f lf t=some (c2,()))∧
   ∃ U:Int,ak.f lf u=some (bs (Lib.itoa U),())∧0≤U∧U < C∧b∣U*a-(Int.gcd a b:Int):=by
 have hCK:=lu
 have gp:0 < (Int.gcd a b:Int):=by
  have:=Int.gcd_pos_of_ne_zero_left b (show a≠0 by omega)
  omega
 have g0:g.2.1≠[]:=fun e=>by have:=hg.ne (by omega);rw[e]at this;simp at this
 obtain⟨Q,R,d1,d2,d3,d4,d5,d6,d7⟩:=wV lf y.2.1 g.2.1 hy.dg hg.dg hy.tr hg.tr g0 (by have:=hy.len;omega) (by have:=hg.len;omega) hlf
 have yv:lv G y.2.1=b:=by rw[hy.natAbs];omega
 have gv:lv G g.2.1=(Int.gcd a b:Int):=by rw[hg.natAbs];omega
 rw[yv,gv]at d6
 rw[gv]at d7
 have Q0:=aZ (B:=G) (by decide) d2
 have R0:=aZ (B:=G) (by decide) d4
 have dv:(Int.gcd a b:Int)∣b:=Int.gcd_dvd_right a b
 have qv:(Int.gcd a b:Int)*lv G Q=b:=by
  obtain⟨k,hk⟩:=dv
  have w:=adf (M:=(Int.gcd a b:Int)) (a:=lv G R) (d:=lv G Q-k) (b:=0) gp (by rw[Int.mul_sub];omega) R0 d7 (by omega) gp
  have:lv G Q=k:=by omega
  rw[this];exact hk.symm
 have qp:0 < lv G Q:=by
  by_cases z:lv G Q=0
  ·rw[z,Int.mul_zero]at qv;omega
  ·omega
 have qb:lv G Q≤b:=by
  have:=Int.mul_le_mul_of_nonneg_right (show 1≤(Int.gcd a b:Int) by omega) Q0
  omega
 have hQ:RN (false,Q,()) (lv G Q) 4096:=(show RN (false,Q,()) (lv G Q) Q.length from⟨d2,d3,Nat.le_refl _,rfl⟩).small lf (by omega) (by omega)
 obtain⟨q,u,e1,k1,k2⟩:=tX lf hlf hf hQ (by omega) (by omega)
 have f0:=Int.fmod_nonneg_of_pos X qp
 have f1:=Int.fmod_lt_of_pos X qp
 obtain⟨p,e2,k3⟩:=ah6 lf (by omega) hx k2 (by omega)
 obtain⟨m,e3,k4⟩:=vN lf k3
 obtain⟨s,e4,k5⟩:=aem lf (hg.mono (show 4096≤4096+4096 by omega)) k4 (by omega) (by omega)
 obtain⟨t,o,e5,k6,k7⟩:=tX lf hlf k5 (hy.mono (by omega)) (by omega) (by omega)
 refine⟨Q,R,q,u,p,m,s,t,o,d1,e1,e2,e3,e4,e5,⟨_,tJ lf hg (by omega) (by omega)⟩,⟨_,tJ lf k6 (by omega) (by omega)⟩,X.fmod (lv G Q),tJ lf k2 (by omega) (by omega),f0,by omega,?_⟩
 have mm:=Int.mul_fdiv_add_fmod X (lv G Q)
 obtain⟨k,hk⟩:=Int.gcd_dvd_left a b
 have e:X.fmod (lv G Q)*a-(Int.gcd a b:Int)=(X*a-(Int.gcd a b:Int))-b*(X.fdiv (lv G Q)*k):=by
  have e1:X.fmod (lv G Q)=X-lv G Q*X.fdiv (lv G Q):=by omega
  have e2:b*(X.fdiv (lv G Q)*k)=lv G Q*X.fdiv (lv G Q)*a:=by
   rw[←qv]
   generalize X.fdiv (lv G Q)=w at *
   generalize lv G Q=z at *
   generalize (Int.gcd a b:Int)=g at *
   rw[hk];grind
  rw[e1,e2,Int.sub_mul];omega
 rw[e]
 exact Int.dvd_sub hX (Int.dvd_mul_right _ _)
theorem ahg(lf:Nat)(hb:Big lf){a b:Int}(ha:0 < a∧a < C)(hbb:0 < b∧b < C):
  ∃ (t1 t3:ByteArray) (U:Int),bW.f lf (bs (Lib.itoa a)) (bs (Lib.itoa b))=some (t1,bs (Lib.itoa U),t3,0,())∧0≤U∧U < C∧b∣U*a-(Int.gcd a b:Int):=by
 have hlf:=hb.1
 have hK:=hb.2
 have hCK:=lu
 have ka: -K < a∧a < K:=by omega
 have kb: -K < b∧b < K:=by omega
 obtain⟨x,y,e,k1,k2,n1,n2⟩:=tV lf _ _ (chkK ka) (chkK kb) (by omega)
 rw[eH]at k1 k2
 have na:x.1=false:=by
  cases hx:x.1 with
  | false=>rfl
  | true =>
   have:=k1.val
   have:=aZ (B:=G) (by decide) k1.dg
   rw[hx,if_pos rfl]at *;omega
 have nb:y.1=false:=by
  cases hx:y.1 with
  | false=>rfl
  | true =>
   have:=k2.val
   have:=aZ (B:=G) (by decide) k2.dg
   rw[hx,if_pos rfl]at *;omega
 have y0:=k2.ne (by omega)
 have B0:Bz a b a b 1 0:=⟨hbb.1,ha.1,by omega,by simp,by simp,.inr ⟨by omega,by omega,by simp⟩,by omega⟩
 have one:RN (false,[1],()) 1 4096:=⟨by intro d hd;simp at hd;subst hd;decide,by unfold Tr;simp,by simp,by decide⟩
 have zer:RN (false,[],()) 0 4096:=⟨nofun,by unfold Tr;simp,by simp,by decide⟩
 have x1:RN (false,x.2.1,()) a 4096:=by have h:=k1;obtain⟨xn,xl,⟨⟩⟩:=x;simp only at na;subst na;exact h
 have y1:RN (false,y.2.1,()) b 4096:=by have h:=k2;obtain⟨xn,xl,⟨⟩⟩:=y;simp only at nb;subst nb;exact h
 obtain⟨q,t,u,v,w,s1,s2,s3,s4,s5,s6,nx⟩:=ab5 lf hlf hbb.2 x1 y1 one zer B0 (by omega)
 have gs:(Int.gcd b (a.fmod b))=Int.gcd a b:=qL (Int.mul_fdiv_add_fmod a b).symm hbb.1 nx.s0 (Int.fmod_lt_of_pos a hbb.1) (by omega)
 have f1:(decide (((y.2.1.length:Nat):Int) > 0))=true:=decide_eq_true (by omega)
 have e0:(((y.2.1.length:Nat):Int)==0)=false:=beq_eq_false_iff_ne.2 (by omega)
 by_cases z:a.fmod b=0
 ·rw[z]at s5 nx gs
  have tn:=s5.nil
  rw[Int.gcd_zero_right,show b.natAbs=b.toNat by omega]at gs
  have hg:RN (false,y.2.1,()) (Int.gcd a b) 4096:=by rw[←gs,show((b.toNat:Nat):Int)=b by omega];exact y1
  have hX:b∣0*a-(Int.gcd a b:Int):=by
   rw[←gs,show((b.toNat:Nat):Int)=b by omega,Int.zero_mul,Int.zero_sub];exact Int.dvd_neg.2 (Int.dvd_refl _)
  obtain⟨Q,R,q',u',p',m',s',t',o',g1,g2,g3,g4,g5,g6,⟨c1,g7⟩,⟨c2,g8⟩,U,g9,U0,U1,U2⟩:=afj lf hlf ha hbb k1 k2 hg zer hX
  refine⟨c1,c2,U,?_,U0,U1,U2⟩
  rw[bW.f,e,bdS]
  simp only[bne_self_eq_false,brF,e0]
  rw[show lf+40=lf+38+1+1 from rfl,bW.l0,bW.r0,f1,brT,s1,bdS,s2,bdS,s3,bdS,s4,bdS]
  simp only
  rw[bW.l1,bW.r1,tn,decide_eq_false (by simp),brF]
  have xe:((x.1,x.2.1,()):Nb)=x:=rfl
  have ye:((y.1,y.2.1,()):Nb)=y:=rfl
  simp only[bdS,brT,brF,na,nb,Bool.false_eq_true]at *
  rw[ye]at g5 g7
  simp only[xe,ye,g1,g2,g3,g4,g5,g6,g7,g8,g9,bdS]
 ·obtain⟨q2,t2,u2,v2,w2,r1,r2,r3,r4,r5,r6,ny⟩:=ab5 lf hlf hbb.2 y1 s5 zer s6 nx z
  have nx0:=nx.s0
  have sp:0 < a.fmod b:=by omega
  have fl:=Int.fmod_lt_of_pos b sp
  have gs2:(Int.gcd (a.fmod b) (b.fmod (a.fmod b)))=Int.gcd b (a.fmod b):=qL (Int.mul_fdiv_add_fmod b (a.fmod b)).symm sp ny.s0 fl (by omega)
  obtain⟨g,bf,nw,ee,X,l1,l2,l3,l4,l5,l6⟩:=ak6 lf hlf hbb.2 x.1 x.2.1 y.1 y.2.1 [1] (lf+37) (lf+38) t t2 w w2 _ _ _ _ (by have:=Int.fmod_lt_of_pos a hbb.1;omega) (by omega) s5 r5 s6 r6 ny
  rw[gs2,gs]at l2 l4
  obtain⟨Q,R,q',u',p',m',s',t',o',g1,g2,g3,g4,g5,g6,⟨c1,g7⟩,⟨c2,g8⟩,U,g9,U0,U1,U2⟩:=afj lf hlf ha hbb k1 k2 l2 l3 l4
  refine⟨c1,c2,U,?_,U0,U1,U2⟩
  rw[bW.f,e,bdS]
  simp only[bne_self_eq_false,brF,e0]
  rw[show lf+40=lf+38+1+1 from rfl,bW.l0,bW.r0,f1,brT,s1,bdS,s2,bdS,s3,bdS,s4,bdS]
  simp only
  have te:((t.1,t.2.1,()):Nb)=t:=rfl
  have we:((w.1,w.2.1,()):Nb)=w:=rfl
  rw[bW.l1,bW.r1,decide_eq_true (by have:=s5.ne z;omega),brT,te,we,r1,bdS,r2,bdS,r3,bdS,r4,bdS]
  simp only
  rw[l1]
  have xe:((x.1,x.2.1,()):Nb)=x:=rfl
  have ye:((y.1,y.2.1,()):Nb)=y:=rfl
  have ge:((g.1,g.2.1,()):Nb)=g:=rfl
  have be:((bf.1,bf.2.1,()):Nb)=bf:=rfl
  simp only[bdS,brT,brF,xe,ye,ge,be,g1,g2,g3,g4,g5,g6,g7,g8,g9]
  rw[na,brF]
end Go.N
namespace Go.N
open Go Go.Q Go.Rx
structure Vl where
 a:A
 c:Cg
deriving DecidableEq
abbrev VV:Type:=IV×(IV×Unit)
def vc(v:Vl):VV:=(ac v.a,cc v.c,())
def Ev:Vl:=⟨E0,Ec⟩
def onev(z:Int):Vl:=⟨⟨false,some z,some z⟩,⟨false,0,z⟩⟩
def loC(c:Cg)(a:Int):Int:=a+(c.r-a).fmod c.m
def hiC(c:Cg)(a:Int):Int:=a-(a-c.r).fmod c.m
def fin3(x y:Option Int)(c:Cg):Vl:=match x,y with
 | some x,some y=>if y < x then Ev else if x=y then onev x else⟨⟨false,clip x,clip y⟩,c⟩
 | x,y=>⟨⟨false,x.bind clip,y.bind clip⟩,c⟩
def red(a:A)(c:Cg):Vl:=if a.em=true then Ev else if c.em=true then Ev else if c.m=0 then(if inS (ofA a) c.r=true then onev c.r else Ev)else fin3 (a.lo.map (loC c)) (a.hi.map (hiC c)) c
def inV(v:Vl)(z:Int):Bool:=inS (ofA v.a) z&&inC v.c z
structure WfV(v:Vl):Prop where
 a:Wf v.a
 c:WfC v.c
 red:red v.a v.c=v
theorem lo_m{c:Cg}(p:0 < c.m)(a:Int):a≤loC c a∧loC c a < a+c.m:=by
 have:=Int.fmod_nonneg_of_pos (c.r-a) p
 have:=Int.fmod_lt_of_pos (c.r-a) p
 unfold loC;omega
theorem hi_m{c:Cg}(p:0 < c.m)(a:Int):hiC c a≤a∧a-c.m < hiC c a:=by
 have:=Int.fmod_nonneg_of_pos (a-c.r) p
 have:=Int.fmod_lt_of_pos (a-c.r) p
 unfold hiC;omega
theorem afw{m a:Int}(p:0 < m):a.fmod m=0↔m∣a:=by
 rw[Int.fmod_eq_emod_of_nonneg _ (Int.le_of_lt p)]
 exact⟨Int.dvd_of_emod_eq_zero,Int.emod_eq_zero_of_dvd⟩
theorem aau{m:Int}(p:0 < m)(a:Int):m∣a-a.fmod m:=by
 rw[Int.fmod_eq_emod_of_nonneg _ (Int.le_of_lt p)]
 exact Int.dvd_self_sub_emod
theorem sW{c:Cg}(he:c.em=false)(hp:0≤c.m){z:Int}:inC c z=true↔c.m∣z-c.r:=by
 unfold inC dvd'
 rw[he]
 by_cases h:c.m=0
 ·rw[if_pos h,h];simp
 ·rw[if_neg h]
  simp only[Bool.not_false,Bool.true_and,decide_eq_true_eq]
  exact afw (by omega)
theorem ahO{c:Cg}(p:0 < c.m)(a:Int):c.m∣loC c a-c.r:=by
 obtain⟨k,hk⟩:=aau p (c.r-a)
 exact⟨-k,by unfold loC;rw[Int.mul_neg,←hk];omega⟩
theorem ahC{c:Cg}(p:0 < c.m)(a:Int):c.m∣hiC c a-c.r:=by
 obtain⟨k,hk⟩:=aau p (a-c.r)
 exact⟨k,by unfold hiC;rw[←hk];omega⟩
theorem ahN{c:Cg}(p:0 < c.m){a:Int}(h:c.m∣a-c.r):loC c a=a:=by
 have:(c.r-a).fmod c.m=0:=(afw p).2 (by have:=Int.dvd_neg.2 h;rwa [Int.neg_sub]at this)
 unfold loC;omega
theorem ahB{c:Cg}(p:0 < c.m){a:Int}(h:c.m∣a-c.r):hiC c a=a:=by
 have:(a-c.r).fmod c.m=0:=(afw p).2 h
 unfold hiC;omega
theorem qB{z:Int}(h: -C < z∧z < C):clip z=some z:=if_pos h
theorem abf{z:Int}(h:¬(-C < z∧z < C)):clip z=none:=if_neg h
theorem Wf.inS{a:A}(h:Wf a)(he:a.em=false){z:Int}(hz: -K < z∧z < K):inS (ofA a) z=true↔(∀ l,a.lo=some l→l≤z)∧∀ u,a.hi=some u→z≤u:=by
 unfold Go.N.inS ofA
 rw[he,if_neg (by simp)]
 simp only[Bool.and_eq_true,decide_eq_true_eq]
 cases a.lo with
 | none=>cases a.hi with
  | none=>simp[lox,hix,key];omega
  | some u=>simp[lox,hix,key];omega
 | some l=>cases a.hi with
  | none=>simp[lox,hix,key];omega
  | some u=>simp[lox,hix,key]
theorem afM{z:Int}(hz: -C < z∧z < C):Wf (onev z).a∧WfC (onev z).c:=by
 have hC:=C_gt
 exact⟨⟨fun h=>by simp[onev]at h,hz,hz,Int.le_refl _⟩,⟨by simp only[onev];omega,hz,by simp[onev],fun h=>absurd rfl h⟩⟩
theorem ajY:Wf Ev.a∧WfC Ev.c:=⟨alE,aaf⟩
theorem ah1{z:Int}(hz: -C < z∧z < C):red (onev z).a (onev z).c=onev z:=by
 have h:inS (ofA (onev z).a) z=true:=by
  unfold inS ofA onev
  simp[lox,hix,key]
 unfold red
 rw[if_neg (by simp[onev]),if_neg (by simp[onev]),if_pos (by rfl)]
 exact if_pos h
theorem akj:red Ev.a Ev.c=Ev:=if_pos rfl
theorem aeW{z:Int}(hz: -C < z∧z < C):WfV (onev z):=⟨(afM hz).1,(afM hz).2,ah1 hz⟩
theorem Ev_V:WfV Ev:=⟨ajY.1,ajY.2,akj⟩
theorem akD{c:Cg}(hc:WfC c)(he:c.em=false)(hm:c.m≠0){x y:Option Int}(hx:∀ v,x=some v→c.m∣v-c.r)(hy:∀ v,y=some v→c.m∣v-c.r)(bd:∀ v u,x=some v→y=some u→v=u→-C < v∧v < C):WfV (fin3 x y c):=by
 have p:0 < c.m:=by have:=hc.pos;omega
 have key3:∀ u v:Option Int,(∀ z,u=some z→(-C < z∧z < C)∧c.m∣z-c.r)→(∀ z,v=some z→(-C < z∧z < C)∧c.m∣z-c.r)→(∀ z w,u=some z→v=some w→z < w)→WfV ⟨⟨false,u,v⟩,c⟩:=by
  intro u v hu hv huv
  refine⟨⟨fun h=>by simp at h,?_,?_,?_⟩,hc,?_⟩
  ·cases u with
   | none=>trivial
   | some z=>exact(hu z rfl).1
  ·cases v with
   | none=>trivial
   | some z=>exact(hv z rfl).1
  ·cases u with
   | none=>trivial
   | some z=>cases v with
    | none=>trivial
    | some w=>exact Int.le_of_lt (huv z w rfl rfl)
  ·unfold red
   rw[if_neg (by simp),if_neg (by simp[he]),if_neg hm]
   cases u with
   | none=>cases v with
    | none=>rfl
    | some w =>
     simp only[Option.map,ahB p (hv w rfl).2,fin3,Option.bind,qB (hv w rfl).1]
   | some z=>cases v with
    | none=>simp only[Option.map,ahN p (hu z rfl).2,fin3,Option.bind,qB (hu z rfl).1]
    | some w =>
     have:=huv z w rfl rfl
     simp only[Option.map,ahN p (hu z rfl).2,ahB p (hv w rfl).2,fin3,qB (hu z rfl).1,qB (hv w rfl).1]
     rw[if_neg (by omega),if_neg (by omega)]
 have cl:∀ z w,clip z=some w→w=z∧-C < z∧z < C:=by
  intro z w h
  unfold clip at h;split at h
  ·cases h;exact⟨rfl,by assumption⟩
  ·cases h
 cases x with
 | none=>cases y with
  | none=>exact key3 none none (fun z h=>by cases h) (fun z h=>by cases h) (fun z w h=>by cases h)
  | some w=>exact key3 none (clip w) (fun z h=>by cases h) (fun z h=>by obtain⟨rfl,h⟩:=cl _ _ h;exact⟨h,hy _ rfl⟩) (fun z w h=>by cases h)
 | some z=>cases y with
  | none=>exact key3 (clip z) none (fun z h=>by obtain⟨rfl,h⟩:=cl _ _ h;exact⟨h,hx _ rfl⟩) (fun z h=>by cases h) (fun z w _ h=>by cases h)
  | some w =>
   unfold fin3
   simp only
   by_cases h1:w < z
   ·rw[if_pos h1];exact Ev_V
   ·rw[if_neg h1]
    by_cases h2:z=w
    ·rw[if_pos h2];exact aeW (bd z w rfl rfl h2)
    ·rw[if_neg h2]
     exact key3 (clip z) (clip w) (fun z h=>by obtain⟨rfl,h⟩:=cl _ _ h;exact⟨h,hx _ rfl⟩) (fun z h=>by obtain⟨rfl,h⟩:=cl _ _ h;exact⟨h,hy _ rfl⟩) (fun u v hu hv=>by obtain⟨rfl,_⟩:=cl _ _ hu;obtain⟨rfl,_⟩:=cl _ _ hv;omega)
theorem aly{a:A}{c:Cg}(ha:Wf a)(hc:WfC c):WfV (red a c):=by
 unfold red
 by_cases e1:a.em=true
 ·rw[if_pos e1];exact Ev_V
 ·by_cases e2:c.em=true
  ·rw[if_neg e1,if_pos e2];exact Ev_V
  ·rw[if_neg e1,if_neg e2]
   by_cases z:c.m=0
   ·rw[if_pos z]
    split
    ·exact aeW hc.r
    ·exact Ev_V
   ·rw[if_neg z]
    have p:0 < c.m:=by have:=hc.pos;omega
    have e2:c.em=false:=by simpa using e2
    refine akD hc e2 z ?_ ?_ ?_
    ·intro v h
     cases hl:a.lo with
     | none=>rw[hl]at h;cases h
     | some l=>rw[hl]at h;cases h;exact ahO p l
    ·intro v h
     cases hl:a.hi with
     | none=>rw[hl]at h;cases h
     | some l=>rw[hl]at h;cases h;exact ahC p l
    ·intro v u h1 h2 h3
     have lk:=ha.lo
     have hk:=ha.hi
     cases hl:a.lo with
     | none=>rw[hl]at h1;cases h1
     | some l =>
      cases hh:a.hi with
      | none=>rw[hh]at h2;cases h2
      | some k =>
       rw[hl]at h1 lk;rw[hh]at h2 hk
       cases h1;cases h2
       have:=lo_m p l
       have:=hi_m p k
       simp only[okb]at lk hk
       omega
end Go.N
namespace Go.N
open Go Go.Q Go.Rx
section
variable {c d:Cg}(hc:WfC c)(hd:WfC d){z w:Int}(hz:inC c z=true)(hw:inC d w=true)
include hc hd hz hw
end
theorem zN(m a:Int)(h:0≤m):dvd' m a=true↔m∣a:=by
 unfold dvd'
 by_cases h0:m=0
 ·rw[if_pos h0,h0];simp
 ·rw[if_neg h0,decide_eq_true_eq];exact afw (by omega)
theorem qN{c d:Cg}(hd:WfC d)(h1:c.em=false)(h2:d.em=false):nV c d=true↔d.m∣c.m∧d.m∣c.r-d.r:=by
 unfold nV
 rw[if_neg (by simp[h1]),if_neg (by simp[h2]),Bool.and_eq_true,zN _ _ hd.pos,zN _ _ hd.pos]
theorem adR{c:Cg}(hc:WfC c):nV c c=true:=by
 cases e:c.em with
 | true=>unfold nV;rw[if_pos e]
 | false=>exact(qN hc e e).2 ⟨Int.dvd_refl _,by simp⟩
theorem akr{c d:Cg}(h:cc c=cc d):c.em=d.em∧(c.em=false→c=d):=by
 unfold cc at h
 cases e1:c.em with
 | true=>cases e2:d.em with
  | true=>exact⟨rfl,nofun⟩
  | false=>rw[if_pos e1,if_neg (by simp[e2])]at h;have:=congrArg Prod.fst h;simp at this
 | false=>cases e2:d.em with
  | true=>rw[if_neg (by simp[e1]),if_pos e2]at h;have:=congrArg Prod.fst h;simp at this
  | false =>
   rw[if_neg (by simp[e1]),if_neg (by simp[e2])]at h
   simp only[Prod.mk.injEq]at h
   refine⟨rfl,fun _=>?_⟩
   have h1:=oK (aaj h.2.1)
   have h2:=oK (aaj h.2.2.1)
   cases c;cases d;simp_all
end Go.N
namespace Go.N
open Go Go.Q Go.Rx
noncomputable def metC (c d:Cg):Cg :=
 if c.em=true then Ec else if d.em=true then Ec
 else if c.m=0 then(if inC d c.r=true then c else Ec)
 else if d.m=0 then(if inC c d.r=true then d else Ec)
 else if dvd' (Int.gcd c.m d.m) (d.r-c.r)=true then clsF (c.m / (Int.gcd c.m d.m:Int)*d.m) (Classical.epsilon fun z=>c.m∣z-c.r∧d.m∣z-d.r)else Ec
theorem Cg.eta{c:Cg}(h:c.em=false):c=⟨false,c.m,c.r⟩:=by cases c;simp_all
theorem abg{L u v:Int}(h:0 < L)(d:L∣u-v):clsF L u=clsF L v:=by
 have e:(L.natAbs:Int)=L:=by omega
 unfold clsF
 rw[if_neg (show L≠0 by omega),if_neg (show L≠0 by omega),e,agI h d]
theorem abh{c:Cg}(hc:WfC c)(he:c.em=false){v:Int}(h:c.m≠0)(d:c.m∣v-c.r):clsF c.m v=c:=by
 have p:0 < c.m:=by have:=hc.pos;omega
 obtain⟨r0,r1⟩:=hc.rng h
 rw[abg p d,wS hc.pos hc.m hc.r,if_neg h,Int.fmod_eq_emod_of_nonneg _ hc.pos,Int.emod_eq_of_lt r0 r1]
 exact(Cg.eta he).symm
theorem aeT{c d:Cg}(ec:c.em=false)(ed:d.em=false)(pc:0 < c.m)(pd:0 < d.m){v:Int}(h1:c.m∣v-c.r)(h2:d.m∣v-d.r):metC c d=clsF (c.m / (Int.gcd c.m d.m:Int)*d.m) v:=by
 have g:dvd' (Int.gcd c.m d.m) (d.r-c.r)=true:=by
  refine(zN _ _ (Int.natCast_nonneg _)).2 ?_
  have:=Int.dvd_sub (Int.dvd_trans (Int.gcd_dvd_left c.m d.m) h1) (Int.dvd_trans (Int.gcd_dvd_right c.m d.m) h2)
  rwa [show v-c.r-(v-d.r)=d.r-c.r by omega]at this
 unfold metC
 rw[if_neg (by simp[ec]),if_neg (by simp[ed]),if_neg (by omega),if_neg (by omega),if_pos g]
 obtain⟨k1,k2⟩:=Classical.epsilon_spec (p:=fun z=>c.m∣z-c.r∧d.m∣z-d.r) ⟨v,h1,h2⟩
 refine abg (lcm_pos pc pd) (lcm_dvd pc pd ?_ ?_)
 ·have:=Int.dvd_sub k1 h1
  rwa [show ∀ x:Int,x-c.r-(v-c.r)=x-v from fun x=>by omega]at this
 ·have:=Int.dvd_sub k2 h2
  rwa [show ∀ x:Int,x-d.r-(v-d.r)=x-v from fun x=>by omega]at this
theorem aaz{a b:Int}(hb:0 < b)(h:b∣a):(Int.gcd a b:Int)=b:=by
 have:Int.gcd a b=b.natAbs:=by
  have:=Int.gcd_eq_right_iff_dvd (Int.le_of_lt hb) (a:=a)
  first
   | exact Int.ofNat.inj (by have:=this.2 h;rw[←Int.natAbs_of_nonneg (Int.le_of_lt hb)]at this;exact this)
   | omega
 omega
section
variable {c d:Cg}(hc:WfC c)(hd:WfC d)(ec:c.em=false)(ed:d.em=false)
include hc hd ec ed
theorem zu(h:nV c d=true):metC c d=c:=by
 obtain⟨a,b⟩:=(qN hd ec ed).1 h
 by_cases z:c.m=0
 ·unfold metC
  rw[if_neg (by simp[ec]),if_neg (by simp[ed]),if_pos z,if_pos ((sW ed hd.pos).2 b)]
 ·have pc:0 < c.m:=by have:=hc.pos;omega
  have pd:0 < d.m:=by
   have:=hd.pos
   by_cases e:d.m=0
   ·rw[e]at a;have:=Int.zero_dvd.1 a;omega
   ·omega
  rw[aeT ec ed pc pd (v:=c.r) (by simp) b,aaz pd a,Int.ediv_mul_cancel a]
  exact abh hc ec z (by simp)
theorem ad4(h:nV d c=true):metC c d=d:=by
 obtain⟨a,b⟩:=(qN hc ed ec).1 h
 by_cases z:c.m=0
 ·rw[z]at a b
  have k1:d.m=0:=Int.zero_dvd.1 a
  have k2:d.r=c.r:=by have:=Int.zero_dvd.1 b;omega
  have e:c=d:=by rw[Cg.eta ec,Cg.eta ed,z,k1,k2]
  subst e
  exact zu hc hd ec ed (adR hc)
 ·by_cases z':d.m=0
  ·unfold metC
   rw[if_neg (by simp[ec]),if_neg (by simp[ed]),if_neg z,if_pos z',if_pos ((sW ec hc.pos).2 b)]
  ·have pc:0 < c.m:=by have:=hc.pos;omega
   have pd:0 < d.m:=by have:=hd.pos;omega
   have g:(Int.gcd c.m d.m:Int)=c.m:=by rw[Int.gcd_comm];exact aaz pc a
   rw[aeT ec ed pc pd (v:=d.r) b (by simp),g,Int.ediv_self (by omega),Int.one_mul]
   exact abh hd ed z' (by simp)
theorem ahT(h1:¬nV c d=true)(h2:¬nV d c=true)(h:c.m=0∨d.m=0∨dvd' (Int.gcd c.m d.m) (d.r-c.r)=false):metC c d=Ec:=by
 unfold metC
 rw[if_neg (by simp[ec]),if_neg (by simp[ed])]
 by_cases z:c.m=0
 ·rw[if_pos z,if_neg]
  intro x
  exact h1 ((qN hd ec ed).2 ⟨by rw[z];exact Int.dvd_zero _,(sW ed hd.pos).1 x⟩)
 ·rw[if_neg z]
  by_cases z':d.m=0
  ·rw[if_pos z',if_neg]
   intro x
   exact h2 ((qN hc ed ec).2 ⟨by rw[z'];exact Int.dvd_zero _,(sW ec hc.pos).1 x⟩)
  ·rw[if_neg z']
   rcases h with h | h | h
   ·exact absurd h z
   ·exact absurd h z'
   ·rw[h,if_neg (by simp)]
end
theorem afI{c d:Cg}(hc:WfC c)(hd:WfC d):WfC (metC c d):=by
 unfold metC;split;exact aaf;split;exact aaf;split
 ·split;exact hc;exact aaf
 ·split
  ·split;exact hd;exact aaf
  ·split;exact ab8;exact aaf
end Go.N
namespace Go.N
open Go Go.Q Go.Rx
theorem szKK{z:Int}(h: -K < z∧z < K):sz z≤20000:=by have:=szK h;omega
theorem aib{a b g Q X:Int}(hg:g∣a)(hq:g*Q=b)(h:b∣X*a-g):b∣X.fmod Q*a-g:=by
 have mm:=Int.mul_fdiv_add_fmod X Q
 obtain⟨k,hk⟩:=hg
 have e:X.fmod Q*a-g=(X*a-g)-b*(X.fdiv Q*k):=by
  have e1:X.fmod Q=X-Q*X.fdiv Q:=by omega
  have e2:b*(X.fdiv Q*k)=Q*X.fdiv Q*a:=by
   rw[←hq]
   generalize X.fdiv Q=w at *
   rw[hk];grind
  rw[e1,e2,Int.sub_mul];omega
 rw[e]
 exact Int.dvd_sub h (Int.dvd_mul_right _ _)
theorem afJ{a b A B:Int}(ha: -A≤a∧a≤A)(hb: -B≤b∧b≤B): -(A*B)≤a*b∧a*b≤A*B:=by
 have h1:=Int.mul_nonneg (show 0≤A-a by omega) (show 0≤B+b by omega)
 have h2:=Int.mul_nonneg (show 0≤A+a by omega) (show 0≤B-b by omega)
 have h3:=Int.mul_nonneg (show 0≤A-a by omega) (show 0≤B-b by omega)
 have h4:=Int.mul_nonneg (show 0≤A+a by omega) (show 0≤B+b by omega)
 rw[Int.sub_mul,Int.mul_add,Int.mul_add]at h1
 rw[Int.add_mul,Int.mul_sub,Int.mul_sub]at h2
 rw[Int.sub_mul,Int.mul_sub,Int.mul_sub]at h3
 rw[Int.add_mul,Int.mul_add,Int.mul_add]at h4
 omega
set_option exponentiation.threshold 5000 in
theorem C4_K:C*(C+C)*C+C+10 < K∧C*(C+C)+10 < K:=by unfold C K;decide
theorem uH{a b:Int}(ha:0 < a):(Int.gcd a b:Int)*b.fdiv (Int.gcd a b:Int)=b∧b.fdiv (Int.gcd a b:Int)=b / (Int.gcd a b:Int)∧0 < (Int.gcd a b:Int):=by
 have gp:0 < (Int.gcd a b:Int):=by
  have:=Int.gcd_pos_of_ne_zero_left b (show a≠0 by omega)
  omega
 have e:b.fdiv (Int.gcd a b:Int)=b / (Int.gcd a b:Int):=Int.fdiv_eq_ediv_of_nonneg _ (Int.le_of_lt gp)
 exact⟨by rw[e];exact Int.mul_ediv_cancel' (Int.gcd_dvd_right _ _),e,gp⟩
section
variable (lf:Nat)(hb:Big lf){a b:Int}(ha:0 < a∧a < C)(hbb:0 < b∧b < C)
include hb ha hbb
theorem ai9(v0 v1:ByteArray):∀ (k n:Nat) (r s x z:Int),s≤k→k < n→r < C→s < C→Bz a b r s x z→
  ∃ X:Int,aU.l0 lf v0 v1 n (bs (Lib.itoa r)) (bs (Lib.itoa s)) (bs (Lib.itoa x)) (bs (Lib.itoa z))=some ((bs (Lib.itoa (Int.gcd r s)),bs (Lib.itoa X),()),())∧
   b∣X*a-(Int.gcd r s:Int)∧-b≤X∧X≤b:=by
 have h3:200000≤lf:=by have:=hb.1;omega
 have hCK:=lu
 have hCC:=CC_K
 have hC:=C_gt
 have h4:0≤C*C:=Int.mul_nonneg (by omega) (by omega)
 intro k
 induction k with
 | zero =>
  intro n r s x z hk hn hr hs' h
  obtain⟨m,rfl⟩:=Nat.exists_eq_succ_of_ne_zero (show n≠0 by omega)
  have s0:=h.s0
  have r0:=h.r0
  obtain rfl:s=0:=by omega
  have g:(Int.gcd r 0:Int)=r:=by rw[Int.gcd_zero_right];omega
  rw[g]
  refine⟨x,?_,h.xr,h.xb⟩
  rw[aU.l0,aU.r0,beq0,decide_eq_true rfl,Bool.not_true,brF]
 | succ k ih =>
  intro n r s x z hk hn hr hs' h
  obtain⟨m,rfl⟩:=Nat.exists_eq_succ_of_ne_zero (show n≠0 by omega)
  have s0:=h.s0
  have r0:=h.r0
  have b0:=h.b0
  by_cases hs:s=0
  ·subst hs
   have g:(Int.gcd r 0:Int)=r:=by rw[Int.gcd_zero_right];omega
   rw[g]
   refine⟨x,?_,h.xr,h.xb⟩
   rw[aU.l0,aU.r0,beq0,decide_eq_true rfl,Bool.not_true,brF]
  ·have sp:0 < s:=by omega
   have mm:=Int.mul_fdiv_add_fmod r s
   have f0:=Int.fmod_nonneg_of_pos r sp
   have f1:=Int.fmod_lt_of_pos r sp
   have q0:0≤r.fdiv s:=by rw[Int.fdiv_eq_ediv_of_nonneg _ s0];exact Int.ediv_nonneg (Int.le_of_lt r0) s0
   have nx:=h.next sp mm.symm f0 q0
   have zb:=h.zb
   have xb:=h.xb
   have nb:=nx.zb
   have nb2:=nx.xb
   have ql:r.fdiv s≤r:=by rw[Int.fdiv_eq_ediv_of_nonneg _ s0];exact Int.ediv_le_self s (Int.le_of_lt r0)
   have sr:s*r.fdiv s≤r:=by omega
   have qz: -(C*C) < r.fdiv s*z∧r.fdiv s*z < C*C:=zx (by omega) (by omega)
   have gs:(Int.gcd s (r.fmod s))=Int.gcd r s:=qL mm.symm sp f0 f1 (by omega)
   have sk: -K < s∧s < K:=by omega
   obtain⟨X,e1,e2,e3⟩:=ih m s (r.fmod s) z (x-r.fdiv s*z) (by omega) (by omega) hs' (by omega) nx
   rw[gs]at e1 e2
   refine⟨X,?_,e2,e3⟩
   have qs: -K < r.fdiv s*s∧r.fdiv s*s < K:=by rw[Int.mul_comm];have:=Int.mul_nonneg s0 q0;omega
   have e':r-r.fdiv s*s=r.fmod s:=by rw[Int.mul_comm];omega
   rw[aU.l0,aU.r0,beq0,decide_eq_false hs,Bool.not_false,brT,qA lf h3 (x:=r) (y:=s) (by have:=szKK (z:=r) (by omega);omega) (by have:=szKK sk;omega) hs,bdS]
   simp only[rU lf h3 (x:=r.fdiv s) (y:=s) (by omega) sk,bdS,diffI lf h3 (x:=r) (y:=r.fdiv s*s) (by omega) qs,e',rU lf h3 (x:=r.fdiv s) (y:=z) (by omega) (by omega),diffI lf h3 (x:=x) (y:=r.fdiv s*z) (by omega) (by omega)]
   exact e1
theorem aku:∃ (U:Int) (t:ByteArray),aU.f lf (bs (Lib.itoa a)) (bs (Lib.itoa b))=some (bs (Lib.itoa U),t,())∧0≤U∧U < C∧b∣U*a-(Int.gcd a b:Int):=by
 have h3:200000≤lf:=by have:=hb.1;omega
 have hCK:=lu
 have hCC:=CC_K
 have hC:=C_gt
 have h4:0≤C*C:=Int.mul_nonneg (by omega) (by omega)
 have f0:=Int.fmod_nonneg_of_pos a hbb.1
 have f1:=Int.fmod_lt_of_pos a hbb.1
 have B0:Bz a b b (a.fmod b) 0 1:=by
  refine⟨hbb.1,hbb.1,f0,?_,?_,.inl ⟨by omega,by omega,by omega⟩,by omega⟩
  ·rw[Int.zero_mul,Int.zero_sub];exact Int.dvd_neg.2 (Int.dvd_refl _)
  ·rw[Int.one_mul];exact aau hbb.1 a
 obtain⟨X,e1,e2,e3⟩:=ai9 lf hb ha hbb (bs (Lib.itoa a)) (bs (Lib.itoa b)) (lf+39) (lf+40) b (a.fmod b) 0 1 (by have:=hb.2;omega) (by omega) hbb.2 (by omega) B0
 have gs:(Int.gcd b (a.fmod b))=Int.gcd a b:=qL (Int.mul_fdiv_add_fmod a b).symm hbb.1 f0 f1 (by omega)
 rw[gs]at e1 e2
 obtain⟨q1,q2,gp⟩:=uH (b:=b) ha.1
 have Qp:0 < b.fdiv (Int.gcd a b:Int):=by
  by_cases z:0 < b.fdiv (Int.gcd a b:Int)
  ·exact z
  ·have:=Int.mul_nonneg (Int.le_of_lt gp) (show 0≤-b.fdiv (Int.gcd a b:Int) by omega)
   rw[Int.mul_neg]at this;omega
 have Qb:b.fdiv (Int.gcd a b:Int)≤b:=by
  have:=Int.mul_le_mul_of_nonneg_right (show 1≤(Int.gcd a b:Int) by omega) (Int.le_of_lt Qp)
  omega
 have gb:(Int.gcd a b:Int)≤b:=Int.le_of_dvd hbb.1 (Int.gcd_dvd_right _ _)
 have u0:=Int.fmod_nonneg_of_pos X Qp
 have u1:=Int.fmod_lt_of_pos X Qp
 have pr:=zx (a:=a) (b:=X.fmod (b.fdiv (Int.gcd a b:Int))) (by omega) (by omega)
 have i1:(⟨#[49]⟩:ByteArray)=bs (Lib.itoa 1):=i1
 have i0:(⟨#[48]⟩:ByteArray)=bs (Lib.itoa 0):=i0
 have hn:((b.natAbs:Nat):Int)=b:=by omega
 refine⟨X.fmod (b.fdiv (Int.gcd a b:Int)),?_⟩
 rw[aU.f,beq0,decide_eq_false (show ¬b=0 by omega),brF,nT,bdS]
 simp only[hn,nT,bdS,rV lf h3 (x:=a) (y:=b) (szKK (by omega)) (szKK (by omega)) (by omega),i0,i1,e1,qA lf h3 (x:=b) (y:=(Int.gcd a b:Int)) (by have:=szKK (z:=b) (by omega);omega) (by have:=szKK (z:=(Int.gcd a b:Int)) (by omega);omega) (by omega),
  rV lf h3 (x:=X) (y:=b.fdiv (Int.gcd a b:Int)) (szKK (by omega)) (szKK (by omega)) (by omega),rU lf h3 (x:=a) (y:=X.fmod (b.fdiv (Int.gcd a b:Int))) (by omega) (by omega),diffI lf h3 (x:=(Int.gcd a b:Int)) (y:=a*X.fmod (b.fdiv (Int.gcd a b:Int))) (by omega) (by omega),
  qA lf h3 (x:=(Int.gcd a b:Int)-a*X.fmod (b.fdiv (Int.gcd a b:Int))) (y:=b) (by have:=szKK (z:=(Int.gcd a b:Int)-a*X.fmod (b.fdiv (Int.gcd a b:Int))) (by omega);omega) (by have:=szKK (z:=b) (by omega);omega) (by omega)]
 exact⟨_,rfl,u0,by omega,aib (Int.gcd_dvd_left _ _) q1 e2⟩
end
section
variable (lf:Nat)(hb:Big lf){c d:Cg}(hc:WfC c)(hd:WfC d)
include hb hc hd
theorem ad3(ec:c.em=false)(ed:d.em=false)(pc:0 < c.m)(pd:0 < d.m)(dv:dvd' (Int.gcd c.m d.m) (d.r-c.r)=true){U:Int}(h:d.m∣U*c.m-(Int.gcd c.m d.m:Int)):
  metC c d=clsF (c.m / (Int.gcd c.m d.m:Int)*d.m) (c.r+U*(d.r-c.r).fdiv (Int.gcd c.m d.m:Int)*c.m):=by
 obtain⟨_,_,gp⟩:=uH (b:=d.m) pc
 have dd:=(zN _ _ (Int.natCast_nonneg _)).1 dv
 have q:(d.r-c.r)=(Int.gcd c.m d.m:Int)*(d.r-c.r).fdiv (Int.gcd c.m d.m:Int):=by
  rw[Int.fdiv_eq_ediv_of_nonneg _ (Int.le_of_lt gp)];exact(Int.mul_ediv_cancel' dd).symm
 refine aeT ec ed pc pd ?_ (crt gp pc pd (Int.gcd_dvd_left _ _) (Int.gcd_dvd_right _ _) h q)
 rw[show ∀ t:Int,c.r+t-c.r=t from fun t=>by omega]
 exact Int.dvd_mul_left _ _
theorem abB{U:Int}(u0:0≤U)(u1:U < C)(pc:0 < c.m)(pd:0 < d.m):
  (-K < (d.r-c.r).fdiv (Int.gcd c.m d.m:Int)∧(d.r-c.r).fdiv (Int.gcd c.m d.m:Int) < K)∧(-K < U*(d.r-c.r).fdiv (Int.gcd c.m d.m:Int)∧U*(d.r-c.r).fdiv (Int.gcd c.m d.m:Int) < K)∧
  (-K < U*(d.r-c.r).fdiv (Int.gcd c.m d.m:Int)*c.m∧U*(d.r-c.r).fdiv (Int.gcd c.m d.m:Int)*c.m < K)∧(-K < c.r+U*(d.r-c.r).fdiv (Int.gcd c.m d.m:Int)*c.m∧c.r+U*(d.r-c.r).fdiv (Int.gcd c.m d.m:Int)*c.m < K):=by
 obtain⟨k1,k2⟩:=C4_K
 have hC:=C_gt
 have hCK:=lu
 have hCC:=CC_K
 have h4:0≤C*C:=Int.mul_nonneg (by omega) (by omega)
 obtain⟨_,_,gp⟩:=uH (b:=d.m) pc
 have r1:=hc.r
 have r2:=hd.r
 have m1:=hc.m
 have e1:=adH (x:=d.r-c.r) (y:=(Int.gcd c.m d.m:Int)) (by omega)
 have e2:=afJ (a:=U) (b:=(d.r-c.r).fdiv (Int.gcd c.m d.m:Int)) (A:=C) (B:=C+C) (by omega) (by omega)
 have e3:=afJ (b:=c.m) (B:=C) e2 (by omega)
 refine⟨?_,?_,?_,?_⟩<;>omega
theorem akM:mr.f lf (cc c) (cc d)=some (cc (metC c d),0,()):=by
 obtain⟨b1,b2,b3,b4,b5,b6,b7,b8,b9,b10⟩:=bounds lf hb hc hd
 have hlf:=hb.1
 rw[mr.f,cboth lf hb hc hd,bdS]
 cases ec:c.em with
 | true =>
  have:metC c d=Ec:=by unfold metC;rw[if_pos ec]
  rw[this,pU ec];simp only[bne_self_eq_false,brF,brT,fV.f,bdS];rfl
 | false=>cases ed:d.em with
  | true =>
   have:metC c d=Ec:=by unfold metC;rw[if_neg (by simp[ec]),if_pos ed]
   rw[this,iC ec,pU ed];simp only[bne_self_eq_false,brF,brT,fV.f,bdS];rfl
  | false =>
   have e1:(cc c).1=false:=by rw[iC ec]
   have e2:(cc d).1=false:=by rw[iC ed]
   simp only[bne_self_eq_false,brF,e1,e2]
   rw[nU.f,adQ lf hb hc hd,bdS]
   cases i1:nV c d with
   | true=>simp only[brT,bdS];rw[zu hc hd ec ed i1]
   | false =>
    simp only[brF,adQ lf hb hd hc,bdS]
    cases i2:nV d c with
    | true=>simp only[brT,bdS];rw[ad4 hc hd ec ed i2]
    | false =>
     have k1:(cc d).2.1=bs (Lib.itoa d.m):=by rw[iC ed]
     have k2:(cc d).2.2.1=bs (Lib.itoa d.r):=by rw[iC ed]
     have k3:(cc c).2.1=bs (Lib.itoa c.m):=by rw[iC ec]
     have k4:(cc c).2.2.1=bs (Lib.itoa c.r):=by rw[iC ec]
     have r1:=hc.r
     have r2:=hd.r
     have hC:=C_gt
     have hCK:=lu
     have b5': -K < d.r-c.r∧d.r-c.r < K:=by omega
     have n:=ahT hc hd ec ed (by simp[i1]) (by simp[i2])
     simp only[brF,k1,k2,k3,k4,aeA lf hb b1 b3,aap lf hb b4 b2 b5',bdS,beq0,fV.f]
     by_cases z1:c.m=0
     ·rw[n (.inl z1),decide_eq_true z1,brT,bdS];rfl
     ·rw[decide_eq_false z1,brF]
      by_cases z2:d.m=0
      ·rw[n (.inr (.inl z2)),decide_eq_true z2,brT,bdS];rfl
      ·rw[decide_eq_false z2,brF,yA lf hlf (uI b1 b3) b5',bdS]
       simp only
       cases dv:dvd' (Int.gcd c.m d.m) (d.r-c.r)with
       | false=>rw[n (.inr (.inr dv))];simp only[Bool.not_false,brT,bdS];rfl
       | true =>
        have pc:0 < c.m:=by have:=hc.pos;omega
        have pd:0 < d.m:=by have:=hd.pos;omega
        obtain⟨_,_,gp⟩:=uH (b:=d.m) pc
        obtain⟨t1,t3,U,u1,u2,u3,u4⟩:=ahg lf hb ⟨pc,hc.m.2⟩ ⟨pd,hd.m.2⟩
        obtain⟨s1,s2,s3,s4⟩:=abB lf hb hc hd u2 u3 pc pd
        have lc: -K < c.m / (Int.gcd c.m d.m:Int)*d.m∧c.m / (Int.gcd c.m d.m:Int)*d.m < K:=by
         have h1:=lcm_pos pc pd
         have x:=Int.ediv_le_self (Int.gcd c.m d.m:Int) (Int.le_of_lt pc)
         have:=Int.mul_le_mul_of_nonneg_right x (Int.le_of_lt pd)
         omega
        simp only[Bool.not_true,brF,u1,bdS,agZ lf hlf b5' (uI b1 b3) (by omega),gZ.f,ahl lf hb (x:=U) (y:=(d.r-c.r).fdiv (Int.gcd c.m d.m:Int)) (by omega) s1 s2,alk lf hb ⟨pc,hc.m.2⟩ ⟨pd,hd.m.2⟩,
         ahl lf hb s2 b1 s3,akq lf hb b2 s3 s4,afm lf hlf lc s4]
        rw[ad3 lf hb hc hd ec ed pc pd dv u4]
theorem alq:kU.f lf (cc c) (cc d)=some (cc (metC c d),()):=by
 obtain⟨b1,b2,b3,b4,b5,b6,b7,b8,b9,b10⟩:=bounds lf hb hc hd
 have hlf:=hb.1
 have h3:200000≤lf:=by omega
 have r1:=hc.r
 have r2:=hd.r
 have hC:=C_gt
 have hCK:=lu
 have hCD:=mO
 rw[kU.f]
 cases ec:c.em with
 | true =>
  have:metC c d=Ec:=by unfold metC;rw[if_pos ec]
  rw[this,pU ec];simp only[brT,bH.f,bdS];rfl
 | false=>cases ed:d.em with
  | true =>
   have:metC c d=Ec:=by unfold metC;rw[if_neg (by simp[ec]),if_pos ed]
   rw[this,iC ec,pU ed];simp only[brF,brT,bH.f,bdS];rfl
  | false =>
   have e1:(cc c).1=false:=by rw[iC ec]
   have e2:(cc d).1=false:=by rw[iC ed]
   have k1:(cc d).2.1=bs (Lib.itoa d.m):=by rw[iC ed]
   have k2:(cc d).2.2.1=bs (Lib.itoa d.r):=by rw[iC ed]
   have k3:(cc c).2.1=bs (Lib.itoa c.m):=by rw[iC ec]
   have k4:(cc c).2.2.1=bs (Lib.itoa c.r):=by rw[iC ec]
   have b5': -K < d.r-c.r∧d.r-c.r < K:=by omega
   simp only[brF,e1,e2,k1,k2,k3,k4,beq0,bH.f,bdS,in_r lf hb hd (a:=c.r) (by omega),in_r lf hb hc (a:=d.r) (by omega)]
   have M:metC c d=if c.m=0 then(if inC d c.r=true then c else Ec)else if d.m=0 then(if inC c d.r=true then d else Ec)else if dvd' (Int.gcd c.m d.m) (d.r-c.r)=true then metC c d else Ec:=by
    unfold metC
    rw[if_neg (by simp[ec]),if_neg (by simp[ed])]
    split
    ·rfl
    ·split
     ·rfl
     ·split<;>rfl
   by_cases z1:c.m=0
   ·rw[if_pos z1]at M
    rw[M,decide_eq_true z1,brT,Bool.not_true,brF]
    cases inC d c.r<;>simp only[brT,brF,if_true,if_false,Bool.false_eq_true]<;>rfl
   ·rw[if_neg z1]at M
    rw[decide_eq_false z1,brF]
    by_cases z2:d.m=0
    ·rw[if_pos z2]at M
     rw[M,decide_eq_true z2,brT,Bool.not_false,brT]
     cases inC c d.r<;>simp only[brT,brF,if_true,if_false,Bool.false_eq_true]<;>rfl
    ·rw[if_neg z2]at M
     rw[decide_eq_false z2,brF,wE lf hb b1 b3,bdS,diffI lf h3 b4 b2,bdS]
     simp only
     rw[zl lf h3 (szKK (uI b1 b3)) (szKK b5'),bdS]
     simp only
     cases dv:dvd' (Int.gcd c.m d.m) (d.r-c.r)with
     | false=>rw[dv,if_neg (by simp)]at M;rw[M];simp only[Bool.not_false,brT];rfl
     | true =>
      have pc:0 < c.m:=by have:=hc.pos;omega
      have pd:0 < d.m:=by have:=hd.pos;omega
      obtain⟨q1,q2,gp⟩:=uH (b:=d.m) pc
      obtain⟨U,t,u1,u2,u3,u4⟩:=aku lf hb ⟨pc,hc.m.2⟩ ⟨pd,hd.m.2⟩
      obtain⟨s1,s2,s3,s4⟩:=abB lf hb hc hd u2 u3 pc pd
      have lc: -K < c.m*d.m.fdiv (Int.gcd c.m d.m:Int)∧c.m*d.m.fdiv (Int.gcd c.m d.m:Int) < K:=by
       have h1:=lcm_pos pc pd
       rw[afB pc pd,←q2]at h1
       have x:=Int.ediv_le_self (Int.gcd c.m d.m:Int) (Int.le_of_lt pd)
       rw[←q2]at x
       have:=Int.mul_le_mul_of_nonneg_left x (Int.le_of_lt pc)
       omega
      have qd: -K < d.m.fdiv (Int.gcd c.m d.m:Int)∧d.m.fdiv (Int.gcd c.m d.m:Int) < K:=by
       have x:=Int.ediv_le_self (Int.gcd c.m d.m:Int) (Int.le_of_lt pd)
       have y:=Int.ediv_nonneg (Int.le_of_lt pd) (Int.le_of_lt gp)
       rw[←q2]at x y;omega
      have gk:=uI b1 b3
      rw[Int.mul_comm (U*(d.r-c.r).fdiv (Int.gcd c.m d.m:Int)) c.m]at s3 s4
      simp only[Bool.not_true,brF,u1,bdS,qA lf h3 (x:=d.r-c.r) (y:=(Int.gcd c.m d.m:Int)) (by have:=szKK b5';omega) (by have:=szKK gk;omega) (by omega),rU lf h3 (x:=U) (y:=(d.r-c.r).fdiv (Int.gcd c.m d.m:Int)) (by omega) s1,
       qA lf h3 (x:=d.m) (y:=(Int.gcd c.m d.m:Int)) (by have:=szKK b3;omega) (by have:=szKK gk;omega) (by omega),rU lf h3 (x:=c.m) (y:=d.m.fdiv (Int.gcd c.m d.m:Int)) b1 qd,rU lf h3 (x:=c.m) b1 s2,sumI lf h3 (x:=c.r) b2 s3,rD lf h3 lc s4]
      rw[ad3 lf hb hc hd ec ed pc pd dv u4,afB pc pd,←q2,Int.mul_comm c.m (U*_)]
end
end Go.N
namespace Go.N
open Go Go.Q Go.Rx
theorem clipV(lf:Nat){o:Option Int}(h:okb K o):bU.f lf (ob o)=some (ob (o.bind clip),()):=by
 rw[bU.f]
 cases o with
 | none=>rw[show ob none=bs [] from rfl,oU,bdS,iG,show body []=[] from rfl,decide_eq_false (by simp),brF];rfl
 | some z =>
  have hl:=nH h
  rw[show ob (some z)=bs (Lib.itoa z) from rfl,oU,bdS,iG]
  have e:(((body (Lib.itoa z)).length:Nat):Int)=(sz z:Int):=rfl
  simp only[e,Option.bind]
  by_cases c: -C < z∧z < C
  ·have:=(sz_C z).2 c
   rw[decide_eq_false (by omega),brF,qB c];rfl
  ·have:¬sz z≤100:=fun x=>c ((sz_C z).1 x)
   rw[decide_eq_true (by omega),brT,abf c];rfl
set_option exponentiation.threshold 5000 in
theorem ajX:C+C < Dd:=by
 have e:(10 ^ 100+10 ^ 100:Nat) < 10 ^ 1000:=by
  have:(10:Nat) ^ 1000=10 ^ 100*10 ^ 900:=by rw[←Nat.pow_add]
  rw[this]
  have:(2:Nat) < 10 ^ 900:=Nat.lt_of_lt_of_le (show(2:Nat) < 10 ^ 1 by decide) (Nat.pow_le_pow_right (by decide) (by decide))
  have h:=Nat.mul_lt_mul_of_pos_left this (show 0 < 10 ^ 100 by exact Nat.pow_pos (by decide))
  omega
 unfold C Dd;exact Int.ofNat_lt.2 e
theorem evV:((((true,(⟨#[]⟩:ByteArray),(⟨#[]⟩:ByteArray),()),(true,(⟨#[]⟩:ByteArray),(⟨#[]⟩:ByteArray),()),()):VV))=vc Ev:=rfl
theorem onV(z:Int):(((false,bs (Lib.itoa z),bs (Lib.itoa z),()),(false,(⟨#[48]⟩:ByteArray),bs (Lib.itoa z),()),()):VV)=vc (onev z):=by
 rw[i0];unfold vc onev;rw[iC rfl];rfl
theorem abG(x:Int):((bs (Lib.itoa x)).toList==(⟨#[]⟩:ByteArray).toList)=false:=by
 have:=nY (some x)
 rw[show ob (some x)=bs (Lib.itoa x) from rfl]at this
 rw[this];exact decide_eq_false nofun
theorem ob_e:((ob none).toList==(⟨#[]⟩:ByteArray).toList)=true:=by rw[nY];rfl
theorem ajL(x y:Int):decide (sgn (x-y) > 0)=decide (y < x):=aiy x y
theorem alB(x y:Int):(sgn (x-y)==0)=decide (x=y):=by
 rw[Bool.eq_iff_iff,beq_iff_eq,decide_eq_true_eq]
 unfold sgn;(repeat' split)<;>omega
section
variable (lf:Nat)(hb:Big lf){a:A}{c:Cg}(ha:Wf a)(hc:WfC c)
include hb ha hc
theorem lo_K{l:Int}(h: -C < l∧l < C)(p:0 < c.m): -K < loC c l∧loC c l < K∧-Dd < loC c l∧loC c l < Dd:=by
 have:=lo_m p l
 have:=hc.m
 have:=C_gt
 have:=CC_K
 have hD:=DD_K
 have hCD:=mO
 have h4:C*2≤C*C:=Int.mul_le_mul_of_nonneg_left (by omega) (by omega)
 have h5:=ajX
 have h6:=Dd_K
 omega
theorem hi_K{l:Int}(h: -C < l∧l < C)(p:0 < c.m): -K < hiC c l∧hiC c l < K∧-Dd < hiC c l∧hiC c l < Dd:=by
 have:=hi_m p l
 have:=hc.m
 have:=C_gt
 have h5:=ajX
 have h6:=Dd_K
 omega
theorem adb:ji.f lf (ac a) (cc c)=some (vc (red a c),()):=by
 have hlf:=hb.1
 have h3:200000≤lf:=by omega
 have hCD:=mO
 rw[ji.f]
 simp only[show(ac a).1=a.em from rfl,show(ac a).2.1=ob a.lo from rfl,show(ac a).2.2.1=ob a.hi from rfl,jX.f,bdS,evV,lM.f]
 unfold red
 cases ea:a.em with
 | true=>simp only[brT,if_true]
 | false =>
  cases ec:c.em with
  | true=>rw[pU ec];simp only[brT,brF,if_true,if_false,Bool.false_eq_true]
  | false =>
   have e1:(cc c).1=false:=by rw[iC ec]
   have e2:(cc c).2.1=bs (Lib.itoa c.m):=by rw[iC ec]
   have e3:(cc c).2.2.1=bs (Lib.itoa c.r):=by rw[iC ec]
   simp only[brF,if_false,Bool.false_eq_true,e1,e2,e3,beq0]
   by_cases m:c.m=0
   ·rw[decide_eq_true m,brT,if_pos m,adO lf h3 ha (CK hc.r),bdS]
    simp only
    cases hi:inS (ofA a) c.r with
    | true=>simp only[Bool.not_true,brF,if_true,onV]
    | false=>simp only[Bool.not_false,brT,if_false,Bool.false_eq_true]
   ·have p:0 < c.m:=by have:=hc.pos;omega
    rw[decide_eq_false m,brF,if_neg m]
    have kl:=ha.lo
    have kh:=ha.hi
    have L:=fun {l:Int} (h: -C < l∧l < C)=>ajj lf hb hc ec (a:=l) (by omega)
    have G':=fun {l:Int} (h: -C < l∧l < C)=>aeJ lf hb hc ec (a:=l) (by omega)
    have ab:∀ l,aboveC c l=some (loC c l):=fun l=>if_neg m
    have be:∀ l,belowC c l=some (hiC c l):=fun l=>if_neg m
    have cN:=clipV lf (o:=none) trivial
    cases hl:a.lo with
    | none=>cases hh:a.hi with
     | none=>simp only[ob_e,Bool.not_true,brF,cN,bdS,Option.map,fin3];rfl
     | some u =>
      rw[hh]at kh
      have g:=G' kh
      rw[be]at g
      have kk:=hi_K lf hb ha hc kh p
      have cU:=clipV lf (o:=some (hiC c u)) ⟨kk.1,kk.2.1⟩
      simp only[show ob (some u)=bs (Lib.itoa u) from rfl,show ob (some (hiC c u))=bs (Lib.itoa (hiC c u)) from rfl]at *
      simp only[ob_e,abG,Bool.not_true,Bool.not_false,brF,brT,g,cN,cU,bdS,Option.map,fin3];rfl
    | some l =>
     rw[hl]at kl
     have g:=L kl
     rw[ab]at g
     have kk:=lo_K lf hb ha hc kl p
     have cL:=clipV lf (o:=some (loC c l)) ⟨kk.1,kk.2.1⟩
     cases hh:a.hi with
     | none =>
      simp only[show ob (some l)=bs (Lib.itoa l) from rfl,show ob (some (loC c l))=bs (Lib.itoa (loC c l)) from rfl]at *
      simp only[ob_e,abG,Bool.not_true,Bool.not_false,brF,brT,g,cN,cL,bdS,Option.map,fin3];rfl
     | some u =>
      rw[hh]at kh
      have g2:=G' kh
      rw[be]at g2
      have kk2:=hi_K lf hb ha hc kh p
      have cU:=clipV lf (o:=some (hiC c u)) ⟨kk2.1,kk2.2.1⟩
      have cm:=yh lf _ _ (chkK ⟨kk.1,kk.2.1⟩) (chkK ⟨kk2.1,kk2.2.1⟩) h3
      rw[eH,eH]at cm
      simp only[show ob (some l)=bs (Lib.itoa l) from rfl,show ob (some (loC c l))=bs (Lib.itoa (loC c l)) from rfl,show ob (some u)=bs (Lib.itoa u) from rfl,show ob (some (hiC c u))=bs (Lib.itoa (hiC c u)) from rfl]at *
      simp only[ob_e,abG,Bool.not_true,Bool.not_false,brF,brT,g,g2,cm,bdS,ajL,alB,Option.map,fin3]
      by_cases h1:hiC c u < loC c l
      ·rw[decide_eq_true h1,brT,if_pos h1]
      ·rw[decide_eq_false h1,brF,if_neg h1]
       by_cases h2:loC c l=hiC c u
       ·rw[decide_eq_true h2,brT,if_pos h2,onV]
       ·rw[decide_eq_false h2,brF,if_neg h2,cL,bdS,cU,bdS];rfl
theorem acQ:bK.f lf (ac a) (cc c)=some (vc (red a c),()):=by
 have hlf:=hb.1
 have h3:200000≤lf:=by omega
 have hCD:=mO
 rw[bK.f]
 simp only[show(ac a).1=a.em from rfl,show(ac a).2.1=ob a.lo from rfl,show(ac a).2.2.1=ob a.hi from rfl,aX.f,dH.f,bH.f,bdS,evV]
 unfold red
 cases ea:a.em with
 | true=>simp only[brT,if_true]
 | false =>
  cases ec:c.em with
  | true=>rw[pU ec];simp only[brT,brF,if_true,if_false,Bool.false_eq_true]
  | false =>
   have e1:(cc c).1=false:=by rw[iC ec]
   have e2:(cc c).2.1=bs (Lib.itoa c.m):=by rw[iC ec]
   have e3:(cc c).2.2.1=bs (Lib.itoa c.r):=by rw[iC ec]
   simp only[brF,if_false,Bool.false_eq_true,e1,e2,e3,beq0]
   by_cases m:c.m=0
   ·rw[decide_eq_true m,brT,if_pos m,ahE lf h3 ha (CK hc.r),bdS]
    simp only
    cases hi:inS (ofA a) c.r with
    | true =>
     simp only[Bool.not_true,brF,if_true,←onV]
     rw[iC ec,m,i0]
    | false=>simp only[Bool.not_false,brT,if_false,Bool.false_eq_true]
   ·have p:0 < c.m:=by have:=hc.pos;omega
    rw[decide_eq_false m,brF,if_neg m]
    have kl:=ha.lo
    have kh:=ha.hi
    have L:=fun {l:Int} (h: -C < l∧l < C)=>afg lf hb hc ec (a:=l) (by omega)
    have G':=fun {l:Int} (h: -C < l∧l < C)=>ai3 lf hb hc ec (a:=l) (by omega)
    have ab:∀ l,aboveC c l=some (loC c l):=fun l=>if_neg m
    have be:∀ l,belowC c l=some (hiC c l):=fun l=>if_neg m
    have toL:∀ x y:Option Int,okb K x→okb K y→gt? x y=false→toA ⟨lox x,hix y⟩=⟨false,x.bind clip,y.bind clip⟩:=by
     intro x y hx hy h
     unfold toA;rw[ahu hx hy,h,if_neg (by simp),afb,afa]
    cases hl:a.lo with
    | none=>cases hh:a.hi with
     | none =>
      simp only[ob_e,Bool.not_true,brF,tY lf h3 none none trivial trivial,toL none none trivial trivial rfl,bdS,Option.map,fin3];rfl
     | some u =>
      rw[hh]at kh
      have g:=G' kh
      rw[be]at g
      have kk:=hi_K lf hb ha hc kh p
      have rg:=tY lf h3 none (some (hiC c u)) trivial ⟨kk.1,kk.2.1⟩
      rw[toL none (some (hiC c u)) trivial ⟨kk.1,kk.2.1⟩ rfl]at rg
      simp only[show ob (some u)=bs (Lib.itoa u) from rfl,show ob (some (hiC c u))=bs (Lib.itoa (hiC c u)) from rfl]at *
      simp only[ob_e,abG,Bool.not_true,Bool.not_false,brF,brT,g,rg,bdS,Option.map,fin3];rfl
    | some l =>
     rw[hl]at kl
     have g:=L kl
     rw[ab]at g
     have kk:=lo_K lf hb ha hc kl p
     cases hh:a.hi with
     | none =>
      have rg:=tY lf h3 (some (loC c l)) none ⟨kk.1,kk.2.1⟩ trivial
      rw[toL (some (loC c l)) none ⟨kk.1,kk.2.1⟩ trivial rfl]at rg
      simp only[show ob (some l)=bs (Lib.itoa l) from rfl,show ob (some (loC c l))=bs (Lib.itoa (loC c l)) from rfl]at *
      simp only[ob_e,abG,Bool.not_true,Bool.not_false,brF,brT,g,rg,bdS,Option.map,fin3];rfl
     | some u =>
      rw[hh]at kh
      have g2:=G' kh
      rw[be]at g2
      have kk2:=hi_K lf hb ha hc kh p
      have ls:=lessI lf h3 (x:=hiC c u) (y:=loC c l) ⟨kk2.1,kk2.2.1⟩ ⟨kk.1,kk.2.1⟩
      have rg:=tY lf h3 (some (loC c l)) (some (hiC c u)) ⟨kk.1,kk.2.1⟩ ⟨kk2.1,kk2.2.1⟩
      have T:=toL (some (loC c l)) (some (hiC c u)) ⟨kk.1,kk.2.1⟩ ⟨kk2.1,kk2.2.1⟩
      simp only[show ob (some l)=bs (Lib.itoa l) from rfl,show ob (some (loC c l))=bs (Lib.itoa (loC c l)) from rfl,show ob (some u)=bs (Lib.itoa u) from rfl,show ob (some (hiC c u))=bs (Lib.itoa (hiC c u)) from rfl]at *
      have eqt:((bs (Lib.itoa (loC c l))).toList==(bs (Lib.itoa (hiC c u))).toList)=decide (loC c l=hiC c u):=by
       rw[lT];simp only[decide_eq_decide];exact⟨oK,fun e=>by rw[e]⟩
      simp only[ob_e,abG,Bool.not_true,Bool.not_false,brF,brT,g,g2,ls,bdS,eqt,Option.map,fin3]
      by_cases h1:hiC c u < loC c l
      ·rw[decide_eq_true h1,brT,if_pos h1]
      ·rw[decide_eq_false h1,brF,if_neg h1]
       by_cases h2:loC c l=hiC c u
       ·have kC: -C < loC c l∧loC c l < C:=by
         have:=lo_m p l
         have:=hi_m p u
         simp only[okb]at kl kh
         omega
        have hC:=C_gt
        have hCK:=lu
        rw[decide_eq_true h2,brT,if_pos h2,dP.f,jA.f,i0,rD lf h3 (m:=0) (by omega) (CK kC),bdS,bdS]
        simp only
        rw[wS (Int.le_refl 0) (by omega) kC,if_pos rfl,iC rfl]
        simp only[←i0,BEq.rfl,Bool.not_true,brF,bdS]
        rw[onV]
       ·rw[decide_eq_false h2,brF,if_neg h2,rg,T (by unfold gt?;simp;omega),bdS];rfl
end
end Go.N
namespace Go.N
open Go Go.Q Go.Rx
section
variable (lf:Nat)(h3:200000≤lf)
include h3
end
theorem ajv{s:Sp}(h:oks C s):oks C (negS s):=rE h ⟨trivial,zU (by decide) (by decide)⟩
theorem ajW{s:Sp}(h:oks C s):oks C (zerS s):=rE h ⟨zU (by decide) (by decide),zU (by decide) (by decide)⟩
section
variable (lf:Nat)(h3:200000≤lf)
include h3
end
end Go.N
namespace Go.N
open Go Go.Q Go.Rx
theorem akT(x:X):sg (xneg x)= -sg x:=by
 cases x with
 | ni=>rfl
 | pi=>rfl
 | fin z=>simp only[xneg,sg,sgn];(repeat' split)<;>omega
theorem mJ(x y:X):xmul x y=xmul y x:=by
 unfold xmul
 rw[Int.mul_comm (sg y) (sg x)]
 split
 ·rfl
 ·cases x<;>cases y<;>simp only[Int.mul_comm]
theorem aiU(x y:X):xmul (xneg x) y=xneg (xmul x y):=by
 unfold xmul
 rw[akT,Int.neg_mul]
 have a:=sg3 x
 have b:=sg3 y
 by_cases h:sg x*sg y=0
 ·rw[h,if_pos (by decide),if_pos rfl];rfl
 ·rw[if_neg (by omega),if_neg h]
  have one:sg x*sg y=1∨sg x*sg y= -1:=by
   rcases a with a | a | a<;>rcases b with b | b | b<;>rw[a,b]at h⊢<;>simp at h⊢
  cases x<;>cases y<;>simp only[xneg,Int.neg_mul]<;>rcases one with o | o<;>rw[o]<;>rfl
theorem abZ(x y:X):xmul x (xneg y)=xneg (xmul x y):=by rw[mJ,aiU,mJ]
theorem wI{x y:X}:(key (xmul x y) < 0↔sg x*sg y < 0)∧(key (xmul x y)=0↔sg x*sg y=0):=by
 have hK:=K_gt
 have a:=sg3 x
 have b:=sg3 y
 unfold xmul
 by_cases h:sg x*sg y=0
 ·rw[if_pos h,h];simp[key]
 ·rw[if_neg h]
  have one:sg x*sg y=1∨sg x*sg y= -1:=by
   rcases a with a | a | a<;>rcases b with b | b | b<;>rw[a,b]at h⊢<;>simp at h⊢
  have inf:(key (if sg x*sg y=1 then X.pi else X.ni) < 0↔sg x*sg y < 0)∧(key (if sg x*sg y=1 then X.pi else X.ni)=0↔sg x*sg y=0):=by
   rcases one with o | o<;>rw[o]
   ·rw[if_pos rfl,show key X.pi=K from rfl];omega
   ·rw[if_neg (by decide),show key X.ni= -K from rfl];omega
  cases x with
  | fin u=>cases y with
   | fin v =>
    simp only[key]
    have ku:=uX (.fin u)
    have kv:=uX (.fin v)
    simp only[key]at ku kv
    rcases a with a | a | a<;>rcases b with b | b | b<;>rw[a,b]at h⊢<;>simp at h⊢
    ·have:=Int.mul_pos_of_neg_of_neg (show u < 0 by omega) (show v < 0 by omega);omega
    ·have:=Int.mul_neg_of_neg_of_pos (show u < 0 by omega) (show 0 < v by omega);omega
    ·have:=Int.mul_neg_of_pos_of_neg (show 0 < u by omega) (show v < 0 by omega);omega
    ·have:=Int.mul_pos (show 0 < u by omega) (show 0 < v by omega);omega
   | ni=>exact inf
   | pi=>exact inf
  | ni=>exact inf
  | pi=>exact inf
theorem agl{a b:Int}:xmul (.fin a) (.fin b)=.fin (a*b):=by
 unfold xmul
 split
 ·rename_i h
  have:=(wI (x:=.fin a) (y:=.fin b)).2
  have ka:=uX (.fin a)
  have kb:=uX (.fin b)
  simp only[key]at ka kb
  rcases Int.mul_eq_zero.1 h with z | z
  ·rw[ka.2.1.1 z,Int.zero_mul]
  ·rw[kb.2.1.1 z,Int.mul_zero]
 ·rfl
theorem oG{x x' y:X}(hx:okx Dd x)(hx':okx Dd x')(hy:okx Dd y)(h:key x≤key x')(h0:0≤key y):key (xmul x y)≤key (xmul x' y):=by
 have hK:=K_gt
 have hC:=Dd_K
 have k1:=uJ (aes hx hy)
 have k2:=uJ (aes hx' hy)
 have s1:=wI (x:=x) (y:=y)
 have s2:=wI (x:=x') (y:=y)
 have gx:=uX x
 have gx':=uX x'
 have gy:=uX y
 have a:=sg3 x
 have a':=sg3 x'
 have b:=sg3 y
 have inf:∀ {u v:X},(u=.ni∨u=.pi∨v=.ni∨v=.pi)→key (xmul u v)=sg u*sg v*K:=by
  intro u v hu
  have c:=sg3 u
  have d:=sg3 v
  unfold xmul
  by_cases hz:sg u*sg v=0
  ·rw[if_pos hz,hz];simp[key]
  ·rw[if_neg hz]
   have one:sg u*sg v=1∨sg u*sg v= -1:=by
    rcases c with c | c | c<;>rcases d with d | d | d<;>rw[c,d]at hz⊢<;>simp at hz⊢
   have f:key (if sg u*sg v=1 then X.pi else X.ni)=sg u*sg v*K:=by
    rcases one with o | o<;>rw[o]
    ·rw[if_pos rfl,show key X.pi=K from rfl];omega
    ·rw[if_neg (by decide),show key X.ni= -K from rfl];omega
   rcases hu with rfl | rfl | rfl | rfl
   ·exact f
   ·exact f
   ·cases u<;>exact f
   ·cases u<;>exact f
 by_cases y0:key y=0
 ·have:sg y=0:=by omega
  have e1:key (xmul x y)=0:=s1.2.2 (by rw[this,Int.mul_zero])
  have e2:key (xmul x' y)=0:=s2.2.2 (by rw[this,Int.mul_zero])
  omega
 have y1:sg y=1:=by omega
 rw[y1,Int.mul_one]at s1 s2
 cases y with
 | ni=>simp only[key]at h0;omega
 | pi =>
  rw[inf (.inr (.inr (.inr rfl))),inf (.inr (.inr (.inr rfl))),y1,Int.mul_one,Int.mul_one]
  exact Int.mul_le_mul_of_nonneg_right (by omega) (by omega)
 | fin v =>
  cases x with
  | ni =>
   rw[inf (.inl rfl),y1,Int.mul_one,show sg X.ni= -1 from rfl];omega
  | pi =>
   cases x' with
   | pi=>exact Int.le_refl _
   | ni=>simp only[key]at h;omega
   | fin w=>simp only[key,okx]at h hx';omega
  | fin u=>cases x' with
   | pi =>
    rw[inf (u:=X.pi) (.inr (.inl rfl)),y1,Int.mul_one,show sg X.pi=1 from rfl];omega
   | ni=>simp only[key,okx]at h hx;omega
   | fin w =>
    rw[agl,agl]
    simp only[key]at h h0⊢
    exact Int.mul_le_mul_of_nonneg_right h h0
theorem pK{x x' y:X}(hx:okx Dd x)(hx':okx Dd x')(hy:okx Dd y)(h:key x≤key x')(h0:key y≤0):key (xmul x' y)≤key (xmul x y):=by
 have:=oG hx hx' (ajV hy) h (by rw[aaD];omega)
 rw[abZ,abZ,aaD,aaD]at this
 omega
def El(s:Sp)(x:X):Prop:=okx Dd x∧key s.lo≤key x∧key x≤key s.hi
theorem aa6{s:Sp}(hs:oks C s)(he:emp s=false):El s s.lo:=⟨hs.1.D,Int.le_refl _,by have:=of_decide_eq_false he;omega⟩
theorem aa5{s:Sp}(hs:oks C s)(he:emp s=false):El s s.hi:=⟨hs.2.D,by have:=of_decide_eq_false he;omega,Int.le_refl _⟩
theorem corner{s t:Sp}(hs:oks C s)(ht:oks C t){x y:X}(hx:El s x)(hy:El t y):
  (∃ cx cy,(cx=s.lo∨cx=s.hi)∧(cy=t.lo∨cy=t.hi)∧key (xmul cx cy)≤key (xmul x y))∧(∃ cx cy,(cx=s.lo∨cx=s.hi)∧(cy=t.lo∨cy=t.hi)∧key (xmul x y)≤key (xmul cx cy)):=by
 have one:∀ {s:Sp} {x y:X},oks C s→El s x→okx Dd y→(∃ cx,(cx=s.lo∨cx=s.hi)∧key (xmul cx y)≤key (xmul x y))∧(∃ cx,(cx=s.lo∨cx=s.hi)∧key (xmul x y)≤key (xmul cx y)):=by
  intro s x y hs hx hy
  by_cases h:0≤key y
  ·exact⟨⟨_,.inl rfl,oG hs.1.D hx.1 hy hx.2.1 h⟩,⟨_,.inr rfl,oG hx.1 hs.2.D hy hx.2.2 h⟩⟩
  ·exact⟨⟨_,.inr rfl,pK hx.1 hs.2.D hy hx.2.2 (by omega)⟩,⟨_,.inl rfl,pK hs.1.D hx.1 hy hx.2.1 (by omega)⟩⟩
 obtain⟨⟨cx,c1,c2⟩,⟨dx,d1,d2⟩⟩:=one hs hx hy.1
 have okc:∀ {c:X},(c=s.lo∨c=s.hi)→okx Dd c:=fun h=>by rcases h with rfl | rfl;exact hs.1.D;exact hs.2.D
 obtain⟨⟨cy,e1,e2⟩,_⟩:=one ht hy (okc c1)
 obtain⟨_,⟨dy,f1,f2⟩⟩:=one ht hy (okc d1)
 rw[mJ cy,mJ y]at e2
 rw[mJ dy,mJ y]at f2
 exact⟨⟨cx,cy,c1,e1,by omega⟩,⟨dx,dy,d1,f1,by omega⟩⟩
theorem adi(x y:X):xmin x y=x∨xmin x y=y:=by unfold xmin;split;exact .inr rfl;exact .inl rfl
theorem adg(x y:X):xmax x y=x∨xmax x y=y:=by unfold xmax;split;exact .inr rfl;exact .inl rfl
theorem adm{o:X→X→X}{s t:Sp}(hs:emp s=false)(ht:emp t=false):
  ((∃ x y,(x=s.lo∨x=s.hi)∧(y=t.lo∨y=t.hi)∧(apS o s t).lo=o x y)∧(∀ x y,(x=s.lo∨x=s.hi)→(y=t.lo∨y=t.hi)→key (apS o s t).lo≤key (o x y)))∧
  ((∃ x y,(x=s.lo∨x=s.hi)∧(y=t.lo∨y=t.hi)∧(apS o s t).hi=o x y)∧(∀ x y,(x=s.lo∨x=s.hi)→(y=t.lo∨y=t.hi)→key (o x y)≤key (apS o s t).hi)):=by
 have e:apS o s t=⟨xmin (xmin (xmin (o s.lo t.lo) (o s.lo t.hi)) (o s.hi t.lo)) (o s.hi t.hi),xmax (xmax (xmax (o s.lo t.lo) (o s.lo t.hi)) (o s.hi t.lo)) (o s.hi t.hi)⟩:=by
  unfold apS
  rw[if_neg (by simp[hs]),if_neg (by simp[ht]),ahX,hullNE (vF _) (vF _)]
  have e1:=vF (o s.lo t.lo)
  have e2:=vF (o s.lo t.hi)
  have e3:=vF (o s.hi t.lo)
  have e4:=vF (o s.hi t.hi)
  have n1:=adP e1 e2
  rw[hullNE e1 e2]at n1
  rw[hullNE n1 e3]
  have n2:=adP n1 e3
  rw[hullNE n1 e3]at n2
  rw[hullNE n2 e4]
  rfl
 rw[e]
 refine⟨⟨?_,?_⟩,⟨?_,?_⟩⟩
 ·simp only
  rcases adi (xmin (xmin (o s.lo t.lo) (o s.lo t.hi)) (o s.hi t.lo)) (o s.hi t.hi)with h | h<;>rw[h]
  ·rcases adi (xmin (o s.lo t.lo) (o s.lo t.hi)) (o s.hi t.lo)with h | h<;>rw[h]
   ·rcases adi (o s.lo t.lo) (o s.lo t.hi)with h | h<;>rw[h]
    ·exact⟨_,_,.inl rfl,.inl rfl,rfl⟩
    ·exact⟨_,_,.inl rfl,.inr rfl,rfl⟩
   ·exact⟨_,_,.inr rfl,.inl rfl,rfl⟩
  ·exact⟨_,_,.inr rfl,.inr rfl,rfl⟩
 ·intro x y hx hy
  simp only[qm]
  rcases hx with rfl | rfl<;>rcases hy with rfl | rfl<;>omega
 ·simp only
  rcases adg (xmax (xmax (o s.lo t.lo) (o s.lo t.hi)) (o s.hi t.lo)) (o s.hi t.hi)with h | h<;>rw[h]
  ·rcases adg (xmax (o s.lo t.lo) (o s.lo t.hi)) (o s.hi t.lo)with h | h<;>rw[h]
   ·rcases adg (o s.lo t.lo) (o s.lo t.hi)with h | h<;>rw[h]
    ·exact⟨_,_,.inl rfl,.inl rfl,rfl⟩
    ·exact⟨_,_,.inl rfl,.inr rfl,rfl⟩
   ·exact⟨_,_,.inr rfl,.inl rfl,rfl⟩
  ·exact⟨_,_,.inr rfl,.inr rfl,rfl⟩
 ·intro x y hx hy
  simp only[qj]
  rcases hx with rfl | rfl<;>rcases hy with rfl | rfl<;>omega
end Go.N
namespace Go.N
open Go Go.Q Go.Rx
def pt(i:Nat)(s:Sp):Sp:=if i=0 then negS s else if i=1 then zerS s else posS s
def Qp(i k:Nat)(p q:Sp):Sp:=if i=1∨k=1 then⟨.fin 0,.fin 0⟩else if i=0 then(if k=0 then⟨xmul p.hi q.hi,xmul p.lo q.lo⟩else⟨xmul p.lo q.hi,xmul p.hi q.lo⟩)else(if k=0 then⟨xmul p.hi q.lo,xmul p.lo q.hi⟩else⟨xmul p.lo q.lo,xmul p.hi q.hi⟩)
theorem zD{s:Sp}(h:oks C s)(i:Nat):oks C (pt i s):=by
 unfold pt;split
 ·exact ajv h
 ·split
  ·exact ajW h
  ·exact ajE h
theorem i3{i:Nat}(h:i < 3):i=0∨i=1∨i=2:=by omega
theorem acN{s:Sp}(h:oks C s):(key (negS s).lo=key s.lo∧key (negS s).hi=min (key s.hi) (-1))∧(key (zerS s).lo=max (key s.lo) 0∧key (zerS s).hi=min (key s.hi) 0)∧(key (posS s).lo=max (key s.lo) 1∧key (posS s).hi=key s.hi):=by
 have a:=uJ h.K.1
 have b:=uJ h.K.2
 have h1:key (negS s).lo=max (key s.lo) (-K):=qj s.lo .ni
 have h2:key (negS s).hi=min (key s.hi) (-1):=qm s.hi (.fin (-1))
 have h3:key (zerS s).lo=max (key s.lo) 0:=qj s.lo (.fin 0)
 have h4:key (zerS s).hi=min (key s.hi) 0:=qm s.hi (.fin 0)
 have h5:key (posS s).lo=max (key s.lo) 1:=qj s.lo (.fin 1)
 have h6:key (posS s).hi=min (key s.hi) K:=qm s.hi .pi
 omega
theorem ab2{s:Sp}(hs:oks C s){i:Nat}{x:X}(h:El (pt i s) x):El s x:=by
 have k:=acN hs
 obtain⟨h1,h2,h3⟩:=h
 refine⟨h1,?_,?_⟩<;>unfold pt at h2 h3<;>split at h2<;>(try split at h2)<;>simp_all<;>omega
theorem aa7{s:Sp}{x:X}(h:El s x):emp s=false:=decide_eq_false (by have:=h.2;omega)
theorem zK{s:Sp}(hs:oks C s){x:X}:(El (pt 0 s) x→key x≤-1)∧(El (pt 1 s) x→key x=0)∧(El (pt 2 s) x→1≤key x):=by
 have k:=acN hs
 refine⟨fun h=>?_,fun h=>?_,fun h=>?_⟩
 ·have:=h.2.2;simp only[pt,if_true]at this;omega
 ·have a:=h.2.1
  have b:=h.2.2
  simp only[pt,Nat.one_ne_zero,if_true,if_false]at a b;omega
 ·have:=h.2.1
  simp only[pt,show ¬(2=0) by omega,show ¬(2=1) by omega,if_false]at this;omega
theorem cls{s:Sp}(hs:oks C s){x:X}(h:El s x):∃ i,i < 3∧El (pt i s) x:=by
 have k:=acN hs
 obtain⟨h1,h2,h3⟩:=h
 rcases Int.lt_trichotomy (key x) 0 with z | z | z
 ·exact⟨0,by omega,h1,by simp only[pt,if_true];omega,by simp only[pt,if_true];omega⟩
 ·exact⟨1,by omega,h1,by simp only[pt,Nat.one_ne_zero,if_true,if_false];omega,by simp only[pt,Nat.one_ne_zero,if_true,if_false];omega⟩
 ·exact⟨2,by omega,h1,by simp only[pt,show ¬(2=0) by omega,show ¬(2=1) by omega,if_false];omega,by simp only[pt,show ¬(2=0) by omega,show ¬(2=1) by omega,if_false];omega⟩
theorem sg0{x:X}(h:key x=0):sg x=0:=(uX x).2.1.2 h
theorem xA{x y:X}(h:key x=0∨key y=0):xmul x y=.fin 0:=by
 unfold xmul
 rw[if_pos]
 rcases h with h | h
 ·rw[sg0 h,Int.zero_mul]
 ·rw[sg0 h,Int.mul_zero]
theorem upr{x y y':X}(hx:okx Dd x)(hy:okx Dd y)(hy':okx Dd y')(h:key y≤key y')(h0:0≤key x):key (xmul x y)≤key (xmul x y'):=by rw[mJ x y,mJ x y'];exact oG hy hy' hx h h0
theorem dnr{x y y':X}(hx:okx Dd x)(hy:okx Dd y)(hy':okx Dd y')(h:key y≤key y')(h0:key x≤0):key (xmul x y')≤key (xmul x y):=by rw[mJ x y,mJ x y'];exact pK hy hy' hx h h0
theorem aj0{s t:Sp}(hs:oks C s)(ht:oks C t){i k:Nat}(hi:i < 3)(hk:k < 3){x y:X}(hx:El (pt i s) x)(hy:El (pt k t) y):
  key (Qp i k (pt i s) (pt k t)).lo≤key (xmul x y)∧key (xmul x y)≤key (Qp i k (pt i s) (pt k t)).hi:=by
 have ps:=zD hs i
 have qs:=zD ht k
 have pe:=aa7 hx
 have qe:=aa7 hy
 have a:=aa6 ps pe
 have b:=aa5 ps pe
 have c:=aa6 qs qe
 have d:=aa5 qs qe
 have S:=@zK s hs
 have T:=@zK t ht
 rcases i3 hi with rfl | rfl | rfl
 ·have sx:=S.1 hx
  have sa:=S.1 a
  have sb:=S.1 b
  rcases i3 hk with rfl | rfl | rfl
  ·have sy:=T.1 hy
   have sc:=T.1 c
   have sd:=T.1 d
   simp only[Qp,Nat.zero_ne_one,or_self,if_false,if_true]
   exact⟨Int.le_trans (pK hx.1 b.1 d.1 hx.2.2 (by omega)) (dnr hx.1 hy.1 d.1 hy.2.2 (by omega)),Int.le_trans (pK a.1 hx.1 hy.1 hx.2.1 (by omega)) (dnr a.1 c.1 hy.1 hy.2.1 (by omega))⟩
  ·have sy:=T.2.1 hy
   simp only[Qp,or_true,if_true]
   rw[xA (.inr sy)];exact⟨Int.le_refl _,Int.le_refl _⟩
  ·have sy:=T.2.2 hy
   have sc:=T.2.2 c
   have sd:=T.2.2 d
   simp only[Qp,Nat.zero_ne_one,show ¬(2=1) by omega,show ¬(2=0) by omega,or_self,if_false,if_true]
   exact⟨Int.le_trans (dnr a.1 hy.1 d.1 hy.2.2 (by omega)) (oG a.1 hx.1 hy.1 hx.2.1 (by omega)),Int.le_trans (oG hx.1 b.1 hy.1 hx.2.2 (by omega)) (dnr b.1 c.1 hy.1 hy.2.1 (by omega))⟩
 ·have sx:=S.2.1 hx
  simp only[Qp,true_or,if_true]
  rw[xA (.inl sx)];exact⟨Int.le_refl _,Int.le_refl _⟩
 ·have sx:=S.2.2 hx
  have sa:=S.2.2 a
  have sb:=S.2.2 b
  rcases i3 hk with rfl | rfl | rfl
  ·have sy:=T.1 hy
   have sc:=T.1 c
   have sd:=T.1 d
   simp only[Qp,Nat.zero_ne_one,show ¬(2=1) by omega,show ¬(2=0) by omega,or_self,if_false,if_true]
   exact⟨Int.le_trans (pK hx.1 b.1 c.1 hx.2.2 (by omega)) (upr hx.1 c.1 hy.1 hy.2.1 (by omega)),Int.le_trans (pK a.1 hx.1 hy.1 hx.2.1 (by omega)) (upr a.1 hy.1 d.1 hy.2.2 (by omega))⟩
  ·have sy:=T.2.1 hy
   simp only[Qp,or_true,if_true]
   rw[xA (.inr sy)];exact⟨Int.le_refl _,Int.le_refl _⟩
  ·have sy:=T.2.2 hy
   have sc:=T.2.2 c
   have sd:=T.2.2 d
   simp only[Qp,show ¬(2=1) by omega,show ¬(2=0) by omega,or_self,if_false]
   exact⟨Int.le_trans (oG a.1 hx.1 c.1 hx.2.1 (by omega)) (upr hx.1 c.1 hy.1 hy.2.1 (by omega)),Int.le_trans (oG hx.1 b.1 hy.1 hx.2.2 (by omega)) (upr b.1 hy.1 d.1 hy.2.2 (by omega))⟩
theorem aiX{s t:Sp}(hs:oks C s)(ht:oks C t){i k:Nat}(hi:i < 3)(hk:k < 3)(ei:emp (pt i s)=false)(ek:emp (pt k t)=false):
  (∃ x y,El (pt i s) x∧El (pt k t) y∧(Qp i k (pt i s) (pt k t)).lo=xmul x y)∧(∃ x y,El (pt i s) x∧El (pt k t) y∧(Qp i k (pt i s) (pt k t)).hi=xmul x y):=by
 have a:=aa6 (zD hs i) ei
 have b:=aa5 (zD hs i) ei
 have c:=aa6 (zD ht k) ek
 have d:=aa5 (zD ht k) ek
 by_cases z:i=1∨k=1
 ·have e:xmul (pt i s).lo (pt k t).lo=.fin 0:=by
   apply xA
   rcases z with rfl | rfl
   ·exact .inl ((zK hs).2.1 a)
   ·exact .inr ((zK ht).2.1 c)
  simp only[Qp,if_pos z]
  exact⟨⟨_,_,a,c,e.symm⟩,⟨_,_,a,c,e.symm⟩⟩
 ·unfold Qp
  rw[if_neg z]
  split<;>split
  ·exact⟨⟨_,_,b,d,rfl⟩,⟨_,_,a,c,rfl⟩⟩
  ·exact⟨⟨_,_,a,d,rfl⟩,⟨_,_,b,c,rfl⟩⟩
  ·exact⟨⟨_,_,b,c,rfl⟩,⟨_,_,a,d,rfl⟩⟩
  ·exact⟨⟨_,_,a,c,rfl⟩,⟨_,_,b,d,rfl⟩⟩
theorem aj1{s t:Sp}(hs:oks C s)(ht:oks C t)(i k:Nat):oks K (Qp i k (pt i s) (pt k t)):=by
 have hK:=K_gt
 have p:=zD hs i
 have q:=zD ht k
 have z:okx K (.fin 0):=by simp only[okx];omega
 unfold Qp
 split
 ·exact⟨z,z⟩
 ·split<;>split
  ·exact⟨qy p.2 q.2,qy p.1 q.1⟩
  ·exact⟨qy p.1 q.2,qy p.2 q.1⟩
  ·exact⟨qy p.2 q.1,qy p.1 q.2⟩
  ·exact⟨qy p.1 q.1,qy p.2 q.2⟩
section
variable {s t:Sp}(hs:oks C s)(ht:oks C t)(es:emp s=false)(et:emp t=false)(ps:Pr s)(pt':Pr t)
include hs ht es et
theorem abk{x y:X}(hx:x=s.lo∨x=s.hi)(hy:y=t.lo∨y=t.hi):El s x∧El t y:=by
 constructor
 ·rcases hx with rfl | rfl
  ·exact aa6 hs es
  ·exact aa5 hs es
 ·rcases hy with rfl | rfl
  ·exact aa6 ht et
  ·exact aa5 ht et
theorem F1{i k:Nat}(hi:i < 3)(hk:k < 3)(ei:emp (pt i s)=false)(ek:emp (pt k t)=false):
  key (apS xmul s t).lo≤key (Qp i k (pt i s) (pt k t)).lo∧key (Qp i k (pt i s) (pt k t)).hi≤key (apS xmul s t).hi:=by
 obtain⟨⟨x,y,hx,hy,e⟩,⟨x',y',hx',hy',e'⟩⟩:=aiX hs ht hi hk ei ek
 have en:=adm (o:=xmul) es et
 obtain⟨⟨cx,cy,c1,c2,c3⟩,_⟩:=corner hs ht (ab2 hs hx) (ab2 ht hy)
 obtain⟨_,⟨dx,dy,d1,d2,d3⟩⟩:=corner hs ht (ab2 hs hx') (ab2 ht hy')
 have a:=en.1.2 cx cy c1 c2
 have b:=en.2.2 dx dy d1 d2
 rw[e,e']
 omega
theorem F2:(∃ i k,i < 3∧k < 3∧emp (pt i s)=false∧emp (pt k t)=false∧(Qp i k (pt i s) (pt k t)).lo=(apS xmul s t).lo)∧
  (∃ i k,i < 3∧k < 3∧emp (pt i s)=false∧emp (pt k t)=false∧(Qp i k (pt i s) (pt k t)).hi=(apS xmul s t).hi):=by
 have en:=adm (o:=xmul) es et
 have ok:=aju hs ht
 constructor
 ·obtain⟨cx,cy,c1,c2,c3⟩:=en.1.1
  have co:=abk hs ht es et c1 c2
  obtain⟨i,hi,xi⟩:=cls hs co.1
  obtain⟨k,hk,yk⟩:=cls ht co.2
  have ei:=aa7 xi
  have ek:=aa7 yk
  have q:=aj0 hs ht hi hk xi yk
  have f:=F1 hs ht es et hi hk ei ek
  refine⟨i,k,hi,hk,ei,ek,key_inj (aj1 hs ht i k).1 ok.1 ?_⟩
  rw[←c3]at q
  omega
 ·obtain⟨cx,cy,c1,c2,c3⟩:=en.2.1
  have co:=abk hs ht es et c1 c2
  obtain⟨i,hi,xi⟩:=cls hs co.1
  obtain⟨k,hk,yk⟩:=cls ht co.2
  have ei:=aa7 xi
  have ek:=aa7 yk
  have q:=aj0 hs ht hi hk xi yk
  have f:=F1 hs ht es et hi hk ei ek
  refine⟨i,k,hi,hk,ei,ek,key_inj (aj1 hs ht i k).2 ok.2 ?_⟩
  rw[←c3]at q
  omega
end
section
variable {s t:Sp}(hs:oks C s)(ht:oks C t)(es:emp s=false)(et:emp t=false)(ps:Pr s)(pt':Pr t)
include hs ht es et ps pt'
end
section
variable {s t:Sp}(hs:oks C s)(ht:oks C t)(es:emp s=false)(et:emp t=false)(ps:Pr s)(pt':Pr t)
include hs ht es et ps pt'
end
end Go.N
namespace Go.N
open Go Go.Q Go.Rx
def pp(i:Nat)(s:Sp):Sp:=if i=0 then⟨xneg (negS s).hi,xneg (negS s).lo⟩else posS s
section
variable (lf:Nat)(h3:200000≤lf){s t:Sp}(hs:oks C s)(ht:oks C t)(ps:Pr s)(pt':Pr t)
include h3 hs ht ps pt'
def sv(s:Sp):List IV:=[ac (toA (negS s)),ac (toA (zerS s)),ac (toA (posS s))]
end
end Go.N
namespace Go.N
open Go Go.Q Go.Rx
section
variable {s t:Sp}(hs:oks C s)(ht:oks C t){x y:Int}(bx: -Dd < x∧x < Dd)(by': -Dd < y∧y < Dd)(hx:inS s x=true)(hy:inS t y=true)
include hs ht bx by' hx hy
end
section
variable {s t:Sp}(hs:oks C s)(ht:oks C t)(ps:Pr s)(pt':Pr t){x y:Int}(bx: -Dd < x∧x < Dd)(by': -Dd < y∧y < Dd)(hx:inS s x=true)(hy:inS t y=true)
include hs ht ps pt' bx by' hx hy
end
end Go.N
namespace Go.N
open Go Go.Q Go.Rx
section
variable {a b:A}(ha:Wf a)(hb:Wf b)
include ha hb
theorem aeK:Wf (toA (hull (ofA a) (ofA b))):=by
 have hK:=K_gt
 have kh:=ahJ (ofA a) (ofA b)
 have ka:=ha.ks.keys
 have kb:=hb.ks.keys
 exact agd (vI ha.okK hb.okK) (by intro h;rw[kh.1,kh.2]at *;split at*<;>(try split at *)<;>omega)
theorem adz:Wf (toA (common (ofA a) (ofA b))):=by
 have hK:=K_gt
 have k1:key (common (ofA a) (ofA b)).lo=max (key (ofA a).lo) (key (ofA b).lo):=qj _ _
 have k2:key (common (ofA a) (ofA b)).hi=min (key (ofA a).hi) (key (ofA b).hi):=qm _ _
 have ka:=ha.ks.keys
 have kb:=hb.ks.keys
 exact agd (rE ha.okK hb.okK) (by intro h;rw[k1,k2]at *;omega)
end
end Go.N
namespace Go.N
open Go Go.Q Go.Rx
namespace WfV
variable {v:Vl}(h:WfV v)
include h
theorem em:v.a.em=v.c.em:=by
 have r:=h.red
 unfold Go.N.red at r
 cases e1:v.a.em with
 | true =>
  rw[if_pos e1]at r
  rw[←r];rfl
 | false=>cases e2:v.c.em with
  | false=>rfl
  | true =>
   rw[if_neg (by simp[e1]),if_pos e2]at r
   rw[←r]at e1;simp[Ev,E0]at e1
theorem ev(e:v.a.em=true):v=Ev:=by
 have r:=h.red
 unfold Go.N.red at r
 rw[if_pos e]at r
 exact r.symm
theorem one(e:v.a.em=false)(m:v.c.m=0):v=onev v.c.r∧inS (ofA v.a) v.c.r=true:=by
 have r:=h.red
 have e2:v.c.em=false:=by rw[←h.em,e]
 unfold Go.N.red at r
 rw[if_neg (by simp[e]),if_neg (by simp[e2]),if_pos m]at r
 split at r
 ·exact⟨r.symm,by assumption⟩
 ·rw[←r]at e;simp[Ev,E0]at e
theorem fin(e:v.a.em=false)(m:v.c.m≠0):fin3 (v.a.lo.map (loC v.c)) (v.a.hi.map (hiC v.c)) v.c=v:=by
 have r:=h.red
 have e2:v.c.em=false:=by rw[←h.em,e]
 unfold Go.N.red at r
 rwa [if_neg (by simp[e]),if_neg (by simp[e2]),if_neg m]at r
theorem bnd(e:v.a.em=false):(∀ l,v.a.lo=some l→inC v.c l=true)∧∀ l,v.a.hi=some l→inC v.c l=true:=by
 have e2:v.c.em=false:=by rw[←h.em,e]
 by_cases m:v.c.m=0
 ·obtain⟨o,i⟩:=h.one e m
  have hs:inC v.c v.c.r=true:=(sW e2 h.c.pos).2 (by simp)
  constructor
  ·intro l hl
   rw[o]at hl;cases hl;exact hs
  ·intro l hl
   rw[o]at hl;cases hl;exact hs
 ·have p:0 < v.c.m:=by have:=h.c.pos;omega
  have f:=h.fin e m
  have ck:=h.a
  have lo:=ck.lo
  have hi:=ck.hi
  revert f lo hi
  cases hl:v.a.lo with
  | none=>cases hh:v.a.hi with
   | none=>intro _ _ _;exact⟨nofun,nofun⟩
   | some u =>
    intro f lo hi
    have f2:=congrArg (fun x=>x.a.hi) f
    simp only[Option.map,fin3,Option.bind,hh]at f2
    have hu:hiC v.c u=u:=by
     unfold clip at f2;split at f2
     ·exact Option.some.inj f2
     ·cases f2
    exact⟨nofun,fun l x=>by cases x;exact(sW e2 h.c.pos).2 (by have:=ahC p u;rwa [hu]at this)⟩
  | some l=>cases hh:v.a.hi with
   | none =>
    intro f lo hi
    have f2:=congrArg (fun x=>x.a.lo) f
    simp only[Option.map,fin3,Option.bind,hl]at f2
    have hu:loC v.c l=l:=by
     unfold clip at f2;split at f2
     ·exact Option.some.inj f2
     ·cases f2
    exact⟨fun l x=>(by cases x;exact(sW e2 h.c.pos).2 (by have:=ahO p l;rwa [hu]at this)),nofun⟩
   | some u =>
    intro f lo hi
    simp only[Option.map,fin3]at f
    split at f
    ·rw[←f]at e;simp[Ev,E0]at e
    ·split at f
     ·rw[←f]at m;simp[onev]at m
     ·have f1:=congrArg (fun x=>x.a.lo) f
      have f2:=congrArg (fun x=>x.a.hi) f
      simp only[hl,hh]at f1 f2
      have h1:loC v.c l=l:=by
       unfold clip at f1;split at f1
       ·exact Option.some.inj f1
       ·cases f1
      have h2:hiC v.c u=u:=by
       unfold clip at f2;split at f2
       ·exact Option.some.inj f2
       ·cases f2
      exact⟨fun k x=>(by cases x;exact(sW e2 h.c.pos).2 (by have:=ahO p l;rwa [h1]at this)),fun k x=>(by cases x;exact(sW e2 h.c.pos).2 (by have:=ahC p u;rwa [h2]at this))⟩
end WfV
end Go.N
namespace Go.N
open Go Go.Q Go.Rx
def joinV(a b:Vl):Vl:=red (toA (hull (ofA a.a) (ofA b.a))) (joinC a.c b.c)
noncomputable def metV (a b:Vl):Vl:=red (toA (common (ofA a.a) (ofA b.a))) (metC a.c b.c)
section
variable {a b:Vl}(ha:WfV a)(hb:WfV b)
include ha hb
theorem afA:WfV (joinV a b):=aly (aeK ha.a hb.a) (aaC ha.c hb.c)
end
section
variable {a b:Vl}(ha:WfV a)(hb:WfV b)
include ha hb
end
end Go.N
namespace Go.N
open Go Go.Q Go.Rx
abbrev tb(b:ByteArray):Nat:=b.data.toList.length
def SmV(x:VV):Prop:=tb x.1.2.1≤100000∧tb x.1.2.2.1≤100000∧tb x.2.1.2.1≤100000∧tb x.2.1.2.2.1≤100000
theorem vg(x y:VV):(((x.1.1==y.1.1)&&((x.1.2.1==y.1.2.1)&&((x.1.2.2.1==y.1.2.2.1)&&true)))&&(((x.2.1.1==y.2.1.1)&&((x.2.1.2.1==y.2.1.2.1)&&((x.2.1.2.2.1==y.2.1.2.2.1)&&true)))&&true))=decide (x=y):=by
 obtain⟨⟨e1,l1,m1,⟨⟩⟩,⟨e2,l2,m2,⟨⟩⟩,⟨⟩⟩:=x
 obtain⟨⟨f1,p1,q1,⟨⟩⟩,⟨f2,p2,q2,⟨⟩⟩,⟨⟩⟩:=y
 rw[Bool.eq_iff_iff]
 simp only[akm,Bool.and_eq_true,beq_iff_eq,decide_eq_true_eq,Bool.and_true,Prod.mk.injEq,and_true]
theorem alD{a:A}{c:Cg}(ha:Wf a)(hc:WfC c)(h:vc (red a c)=vc ⟨a,c⟩):∃ v,vc ⟨a,c⟩=vc v∧WfV v:=by
 simp only[vc,Prod.mk.injEq]at h
 have e1:=akk h.1
 obtain⟨e2,e3⟩:=akr h.2.1
 cases ec:c.em with
 | true =>
  have hE:red a c=Ev:=by
   unfold red
   by_cases e:a.em=true
   ·rw[if_pos e]
   ·rw[if_neg e,if_pos ec]
  refine⟨Ev,?_,Ev_V⟩
  rw[hE]at e1
  simp only[vc,←e1]
  rw[pU ec];rfl
 | false =>
  rw[ec]at e2
  refine⟨⟨a,c⟩,rfl,ha,hc,?_⟩
  have e4:=e3 e2
  show red a c=⟨a,c⟩
  generalize red a c=r at *
  cases r;simp_all
section
variable (lf:Nat)(hb:Big lf)
include hb
theorem chkV{x:VV}(hx:SmV x):∃ n:Int,dV.f lf x=some (n,())∧bP.f lf x=some (n,())∧(n=0→∃ v,x=vc v∧WfV v):=by
 have hlf:=hb.1
 have h3:200000≤lf:=by omega
 obtain⟨⟨e1,l1,m1,⟨⟩⟩,⟨e2,l2,m2,⟨⟩⟩,⟨⟩⟩:=x
 obtain⟨x1,x2,x3,x4⟩:=hx
 rw[←aai l1,←aai m1,←aai l2,←aai m2]
 simp only[tb]at x1 x2 x3 x4
 revert x1 x2 x3 x4
 generalize l1.data.toList=l1
 generalize m1.data.toList=m1
 generalize l2.data.toList=l2
 generalize m2.data.toList=m2
 intro x1 x2 x3 x4
 have p1:=adw lf h3 e1 l1 m1 (by omega) (by omega)
 have p2:=abd lf h3 e1 l1 m1 (by omega) (by omega) (by omega) (by omega)
 have q1:=aj8 lf h3 e2 l2 m2 (by omega) (by omega)
 have q2:=afk lf h3 e2 l2 m2 (by omega) (by omega) (by omega) (by omega)
 rw[dV.f,qc.f,bP.f]
 simp only[p1,p2,bdS]
 by_cases k1:ck e1 l1 m1=0
 ·rw[k1]
  simp only[bne_self_eq_false,brF,q1,q2,bdS]
  by_cases k2:ckc e2 l2 m2=0
  ·obtain⟨a,ea,ha⟩:=ak7 k1
   obtain⟨c,ec,hc⟩:=akt k2
   rw[k2]
   have r1:=adb lf hb ha hc
   have r2:=acQ lf hb ha hc
   rw[←ea,←ec]at r1 r2
   simp only[bne_self_eq_false,brF,r1,r2,bdS]
   have bq:=vg (vc (red a c)) ((e1,bs l1,bs m1,()),(e2,bs l2,bs m2,()),())
   simp only at bq
   rw[bq,ea,ec]
   by_cases h:vc (red a c)=(ac a,cc c,())
   ·rw[decide_eq_true h,Bool.not_true,brF]
    exact⟨0,rfl,rfl,fun _=>alD ha hc h⟩
   ·rw[decide_eq_false h,Bool.not_false,brT]
    exact⟨3,rfl,rfl,nofun⟩
  ·simp only[bneT k2,brT]
   exact⟨_,rfl,rfl,fun h=>absurd h k2⟩
 ·simp only[bneT k1,brT,bdS]
  exact⟨_,rfl,rfl,fun h=>absurd h k1⟩
theorem smV{v:Vl}(h:WfV v):SmV (vc v):=by
 obtain⟨l,m,e1,_,a1,a2⟩:=aiS h.a
 obtain⟨l',m',e2,_,b1,b2⟩:=afe h.c
 unfold SmV vc
 rw[e1,e2]
 simp only[tb];omega
theorem chk_wf{v:Vl}(h:WfV v):dV.f lf (vc v)=some (0,())∧bP.f lf (vc v)=some (0,()):=by
 have hlf:=hb.1
 have h3:200000≤lf:=by omega
 have p1:=rC lf h3 h.a
 have p2:=ab6 lf h3 h.a
 have q1:=ccheck lf hb h.c
 have q2:=rcheck lf hb h.c
 have r1:=adb lf hb h.a h.c
 have r2:=acQ lf hb h.a h.c
 rw[h.red]at r1 r2
 have bq:=vg (vc v) (vc v)
 rw[decide_eq_true rfl]at bq
 constructor
 ·rw[dV.f,qc.f]
  simp only[show(vc v).1=ac v.a from rfl,show(vc v).2.1=cc v.c from rfl]at bq⊢
  simp only[p1,q1,r1,bdS,bne_self_eq_false,brF]
  simp only[show(vc v).1=ac v.a from rfl,show(vc v).2.1=cc v.c from rfl,bq,Bool.not_true,brF]
 ·rw[bP.f]
  simp only[show(vc v).1=ac v.a from rfl,show(vc v).2.1=cc v.c from rfl]at bq⊢
  simp only[p2,q2,r2,bdS,bne_self_eq_false,brF]
  simp only[show(vc v).1=ac v.a from rfl,show(vc v).2.1=cc v.c from rfl,bq,Bool.not_true,brF]
theorem ahh{v w:Vl}(h:WfV v)(k:WfV w):lZ.f lf (vc v) (vc w)=some (0,()):=by
 rw[lZ.f,(chk_wf lf hb h).1,bdS]
 simp only[bne_self_eq_false,brF,(chk_wf lf hb k).1,bdS]
end
end Go.N
namespace Go.N
open Go Go.Q Go.Rx
section
variable (lf:Nat)(hb:Big lf){v w:Vl}(hv:WfV v)(hw:WfV w)
include hb hv hw
theorem acz:iM.f lf (vc v) (vc w)=some (vc (joinV v w),0,()):=by
 have h3:200000≤lf:=by have:=hb.1;omega
 rw[iM.f,ahh lf hb hv hw,bdS]
 simp only[bne_self_eq_false,brF]
 simp only[show(vc v).1=ac v.a from rfl,show(vc v).2.1=cc v.c from rfl,show(vc w).1=ac w.a from rfl,show(vc w).2.1=cc w.c from rfl,akJ lf h3 hv.a hw.a,akI lf hb hv.c hw.c,bdS,bne_self_eq_false,brF,adb lf hb (aeK hv.a hw.a) (aaC hv.c hw.c)]
 rfl
theorem acA:di.f lf (vc v) (vc w)=some (vc (joinV v w),()):=by
 have h3:200000≤lf:=by have:=hb.1;omega
 rw[di.f]
 simp only[show(vc v).1=ac v.a from rfl,show(vc v).2.1=cc v.c from rfl,show(vc w).1=ac w.a from rfl,show(vc w).2.1=cc w.c from rfl,aeN lf h3 hv.a hw.a,ahI lf hb hv.c hw.c,bdS,acQ lf hb (aeK hv.a hw.a) (aaC hv.c hw.c)]
 rfl
theorem ahS:lY.f lf (vc v) (vc w)=some (vc (metV v w),0,()):=by
 have h3:200000≤lf:=by have:=hb.1;omega
 rw[lY.f,ahh lf hb hv hw,bdS]
 simp only[bne_self_eq_false,brF]
 simp only[show(vc v).1=ac v.a from rfl,show(vc v).2.1=cc v.c from rfl,show(vc w).1=ac w.a from rfl,show(vc w).2.1=cc w.c from rfl,akN lf h3 hv.a hw.a,akM lf hb hv.c hw.c,bdS,bne_self_eq_false,brF,adb lf hb (adz hv.a hw.a) (afI hv.c hw.c)]
 rfl
theorem akO:jI.f lf (vc v) (vc w)=some (vc (metV v w),()):=by
 have h3:200000≤lf:=by have:=hb.1;omega
 rw[jI.f]
 simp only[show(vc v).1=ac v.a from rfl,show(vc v).2.1=cc v.c from rfl,show(vc w).1=ac w.a from rfl,show(vc w).2.1=cc w.c from rfl,ajt lf h3 hv.a hw.a,alq lf hb hv.c hw.c,bdS,acQ lf hb (adz hv.a hw.a) (afI hv.c hw.c)]
 rfl
end
section
variable (lf:Nat)(hb:Big lf){v:Vl}(hv:WfV v)
include hb hv
end
section
variable (lf:Nat)(hb:Big lf){x y:VV}(hx:SmV x)(hy:SmV y)
include hb hx hy
end
end Go.N
namespace Go.N
open Go Go.Q Go.Rx
theorem afu(lf:Nat)(x:IV):∃ b,jH.f lf x=some (b,())∧(b=true→tb x.2.1≤100000∧tb x.2.2.1≤100000):=by
 rw[jH.f]
 simp only[kR.f,bdS]
 by_cases h:((x.2.1.size:Nat):Int)≤250
 ·rw[decide_eq_true h,brT]
  refine⟨_,rfl,fun k=>?_⟩
  have k:=of_decide_eq_true k
  rw[Lib.size_eq]at h k
  exact⟨by simp only[tb];omega,by simp only[tb];omega⟩
 ·rw[decide_eq_false h,brF]
  exact⟨_,rfl,nofun⟩
theorem aja(lf:Nat)(x y:IV):∃ b,kS.f lf x y=some (b,())∧(b=true→(tb x.2.1≤100000∧tb x.2.2.1≤100000)∧(tb y.2.1≤100000∧tb y.2.2.1≤100000)):=by
 rw[kS.f]
 by_cases h1:((x.2.1.size:Nat):Int)≤450
 ·rw[decide_eq_true h1,brT]
  by_cases h2:((x.2.2.1.size:Nat):Int)≤450
  ·rw[decide_eq_true h2,brT]
   by_cases h3:((y.2.1.size:Nat):Int)≤450
   ·rw[decide_eq_true h3,brT]
    refine⟨_,rfl,fun k=>?_⟩
    have k:=of_decide_eq_true k
    rw[Lib.size_eq]at h1 h2 h3 k
    exact⟨⟨by simp only[tb];omega,by simp only[tb];omega⟩,by simp only[tb];omega,by simp only[tb];omega⟩
   ·rw[decide_eq_false h3,brF];exact⟨_,rfl,nofun⟩
  ·rw[decide_eq_false h2,brF];exact⟨_,rfl,nofun⟩
 ·rw[decide_eq_false h1,brF];exact⟨_,rfl,nofun⟩
theorem ahw(lf:Nat)(x y:VV):∃ b,iD.f lf x y=some (b,())∧(b=true→SmV x∧SmV y):=by
 obtain⟨a,a1,a2⟩:=aja lf x.1 y.1
 obtain⟨b,b1,b2⟩:=afu lf x.2.1
 obtain⟨c,c1,c2⟩:=afu lf y.2.1
 rw[iD.f,a1,bdS]
 cases a with
 | false=>simp only[brF];exact⟨_,rfl,nofun⟩
 | true =>
  simp only[brT,b1,bdS]
  cases b with
  | false=>simp only[brF];exact⟨_,rfl,nofun⟩
  | true =>
   simp only[brT,c1,bdS]
   refine⟨_,rfl,fun k=>?_⟩
   obtain⟨q1,q2⟩:=a2 rfl
   have q3:=b2 rfl
   have q4:=c2 k
   exact⟨⟨q1.1,q1.2,q3.1,q3.2⟩,q2.1,q2.2,q4.1,q4.2⟩
theorem bigN(n:Nat):∃ lf,Big lf∧n≤lf:=⟨2000000000+K.toNat+n,⟨by omega,by omega⟩,by omega⟩
theorem bigE:∃ lf,Big lf:=⟨_,(bigN 0).choose_spec.1⟩
end Go.N
namespace Go.N
open Go Go.Q Go.Rx
def GoodV(x:VV):Prop:=∃ v,x=vc v∧WfV v∧v.a.em=false
noncomputable def fulN (lf:Nat) (x:VV):Int:=((jh.f lf x).getD (0,())).1
section
variable (lf:Nat)(hb:Big lf)
include hb
theorem yF{x:VV}(hx:SmV x):jh.f lf x=some (fulN lf x,())∧(bd (bP.f lf x) fun r1=>br (r1.1 != 0) (some (r1.1,())) (bd (bJ.f lf x) fun r2=>br r2.1 (some (16,())) (some (0,()))))=some (fulN lf x,())∧(fulN lf x=0↔GoodV x):=by
 have key:∃ n:Int,jh.f lf x=some (n,())∧(bd (bP.f lf x) fun r1=>br (r1.1 != 0) (some (r1.1,())) (bd (bJ.f lf x) fun r2=>br r2.1 (some (16,())) (some (0,()))))=some (n,())∧(n=0↔GoodV x):=by
  obtain⟨n,h1,h2,h3⟩:=chkV lf hb hx
  unfold jh.f
  rw[h1,h2,bdS,bdS]
  by_cases hn:n=0
  ·subst hn
   obtain⟨v,rfl,hv⟩:=h3 rfl
   rw[show(((0:Int),()).1 != 0)=false from rfl,brF,brF,show fB.f lf (vc v)=some (v.a.em,()) from rfl,show bJ.f lf (vc v)=some (v.a.em,()) from rfl,bdS]
   cases he:v.a.em with
   | true =>
    refine⟨16,by rw[brT],by rw[brT],fun h=>(by omega),fun⟨w,e,hw,e2⟩=>?_⟩
    have:=congrArg (fun x:VV=>x.1.1) e
    have:v.a.em=w.a.em:=this
    rw[he,e2]at this;cases this
   | false=>exact⟨0,by rw[brF],by rw[brF],fun _=>⟨v,rfl,hv,he⟩,fun _=>rfl⟩
  ·rw[show((n,()).1 != 0)=true by simpa using hn,brT,brT]
   refine⟨n,rfl,rfl,fun h=>absurd h hn,fun⟨v,e,hv,_⟩=>?_⟩
   subst e
   have:=(chk_wf lf hb hv).1
   rw[h1]at this
   simp at this;exact this
 obtain⟨n,h1,h2,h3⟩:=key
 have e:fulN lf x=n:=by unfold fulN;rw[h1];rfl
 rw[e];exact⟨h1,h2,h3⟩
end
noncomputable def ckS (lf:Nat) (N:Int):Option VV→Int→List Sg3→Int×Int
 | _,e,[]=>(0,e)
 | p,e,s::r=>if s.1≠e then(20,e)else if s.2.1≤s.1 then(15,e)else if N < s.2.1 then(15,e)else if fulN lf s.2.2.1≠0 then(fulN lf s.2.2.1,e)else if p=some s.2.2.1 then(7,e)else ckS lf N (some s.2.2.1) s.2.1 r
def RS(N:Int):Option VV→Int→List Sg3→Prop
 | _,e,[]=>e=N
 | p,e,s::r=>s.1=e∧e < s.2.1∧s.2.1≤N∧GoodV s.2.2.1∧p≠some s.2.2.1∧RS N (some s.2.2.1) s.2.1 r
theorem RS.chn{N:Int}:∀ {l:List Sg3} {p:Option VV} {e:Int},RS N p e l→Chn N e l
 | [],p,e,h=>h
 | s::r,p,e,⟨h1,h2,h3,_,_,h6⟩=>⟨h1,h2,h3,h6.chn⟩
theorem RS.good{N:Int}:∀ {l:List Sg3} {p:Option VV} {e:Int},RS N p e l→∀ s∈l,GoodV s.2.2.1
 | [],p,e,h,s,hs=>by cases hs
 | s::r,p,e,⟨_,_,_,h4,_,h6⟩,q,hq=>by
  rcases List.mem_cons.1 hq with rfl | hq
  ·exact h4
  ·exact h6.good q hq
structure Right(l:List Sg3)(n:Int):Prop where
 n1:1≤n
 n2:n≤32
 ne:l≠[]
 rs:RS n none 0 l
theorem adG{l:List Sg3}(h:∀ s∈l,GoodV s.2.2.1):∀ x∈expand l,GoodV x:=by
 intro x hx
 obtain⟨s,hs,hx⟩:=List.mem_flatMap.1 hx
 rw[(List.mem_replicate.1 hx).2];exact h s hs
theorem agK{l:List VV}(h:∀ x∈l,GoodV x):∃ vs:List Vl,l=vs.map vc∧(∀ v∈vs,WfV v∧v.a.em=false):=by
 induction l with
 | nil=>exact⟨[],rfl,fun v hv=>by cases hv⟩
 | cons x l ih =>
  obtain⟨vs,rfl,h2⟩:=ih fun y hy=>h y (List.mem_cons_of_mem _ hy)
  obtain⟨v,rfl,h3,h4⟩:=h x (List.mem_cons_self ..)
  exact⟨v::vs,rfl,fun w hw=>by
   rcases List.mem_cons.1 hw with rfl | hw
   ·exact⟨h3,h4⟩
   ·exact h2 w hw⟩
theorem Right.vals{l:List Sg3}{n:Int}(h:Right l n):∃ vs:List Vl,expand l=vs.map vc∧(∀ v∈vs,WfV v∧v.a.em=false)∧(vs.length:Int)=n:=by
 obtain⟨vs,h1,h2⟩:=agK (adG h.rs.good)
 refine⟨vs,h1,h2,?_⟩
 have:=h.rs.chn.len.1
 rw[h1,List.length_map]at this
 omega
def prv(l:List Sg3)(j:Nat):Option VV:=if j=0 then none else(l[j-1]?).map fun s=>s.2.2.1
section
variable (lf:Nat)(hb:Big lf)
include hb
theorem abe{N:Int}:∀ {l:List Sg3} {p:Option VV} {e:Int},(∀ s∈l,SmV s.2.2.1)→(((ckS lf N p e l).1=0∧(ckS lf N p e l).2=N)↔RS N p e l)
 | [],p,e,_=>by simp[ckS,RS]
 | s::r,p,e,hs=>by
  have hf:=(yF lf hb (hs s (List.mem_cons_self ..))).2.2
  have ih:=abe (N:=N) (l:=r) (p:=some s.2.2.1) (e:=s.2.1) fun q hq=>hs q (List.mem_cons_of_mem _ hq)
  simp only[ckS,RS]
  split
  ·rename_i h;constructor
   ·intro h';have:(20:Int)=0:=h'.1;omega
   ·intro h';exact absurd h'.1 h
  rename_i h1
  have h1:s.1=e:=Classical.not_not.1 h1
  split
  ·constructor
   ·intro h';have:(15:Int)=0:=h'.1;omega
   ·intro h';omega
  split
  ·constructor
   ·intro h';have:(15:Int)=0:=h'.1;omega
   ·intro h';omega
  split
  ·rename_i h
   constructor
   ·intro h';exact absurd h'.1 h
   ·intro h';exact absurd (hf.2 h'.2.2.2.1) h
  rename_i h4
  split
  ·rename_i h;constructor
   ·intro h';have:(7:Int)=0:=h'.1;omega
   ·intro h';exact absurd h h'.2.2.2.2.1
  ·rename_i h
   rw[ih]
   exact⟨fun h'=>⟨h1,by omega,by omega,hf.1 (Classical.not_not.1 h4),h,h'⟩,fun h'=>h'.2.2.2.2.2⟩
def ckZ(p:Int×Int):Bool×(Int×Int×Unit)×(Int×Unit)×Unit:=if p.1=0 then(false,(0,0,()),((p.2,()),()))else(true,(p.1,p.2,()),((0,()),()))
omit hb in
theorem aea{l:List Sg3}{j:Nat}(h:j < l.length):prv l (j+1)=some l[j].2.2.1:=by
 unfold prv;simp[h]
theorem aj6{l:List Sg3}{N:Int}(hs:∀ s∈l,SmV s.2.2.1)(hl:l.length≤1000):∀ (d n j:Nat) (e:Int),j+d=l.length→d < n→
  dN.l0 lf l N l (l.length:Nat) n e j=some (ckZ (ckS lf N (prv l j) e (l.drop j)))
 | 0,n,j,e,hd,hn=>by
  obtain⟨n,rfl⟩:∃ q,n=q+1:=⟨n-1,by omega⟩
  rw[dN.l0,dN.r0,show decide ((j:Int) < ((l.length:Nat):Int))=false by simp;omega,brF,List.drop_eq_nil_of_le (by omega)]
  rfl
 | d+1,n,j,e,hd,hn=>by
  obtain⟨n,rfl⟩:∃ q,n=q+1:=⟨n-1,by omega⟩
  have hj:j < l.length:=by omega
  have hf:=yF lf hb (hs l[j] (List.getElem_mem hj))
  rw[dN.l0,dN.r0,show decide ((j:Int) < ((l.length:Nat):Int))=true by simp;omega,brT,dB l j hj,bdS,List.drop_eq_getElem_cons hj,ckS]
  by_cases h1:l[j].1=e
  ·rw[show(l[j].1 != e)=false by simpa using h1,brF,if_neg (by simpa using h1)]
   by_cases h2:l[j].2.1≤l[j].1
   ·rw[show decide (l[j].1≥l[j].2.1)=true by simpa using h2,brT,if_pos h2];rfl
   ·rw[show decide (l[j].1≥l[j].2.1)=false by simpa using h2,brF,if_neg h2]
    by_cases h3:N < l[j].2.1
    ·rw[show decide (l[j].2.1 > N)=true by simpa using h3,brT,if_pos h3];rfl
    ·rw[show decide (l[j].2.1 > N)=false by simpa using h3,brF,if_neg h3,hf.1,bdS]
     by_cases h4:fulN lf l[j].2.2.1=0
     ·rw[show((fulN lf l[j].2.2.1,()).1 != 0)=false by simpa using h4,brF,if_neg (by simpa using h4)]
      rw[w64 (n:=(j:Int)+1) (by omega) (by omega),show(j:Int)+1=((j+1:Nat):Int) by omega,aj6 hs hl d n (j+1) l[j].2.1 (by omega) (by omega),aea hj]
      by_cases h5:j=0
      ·subst h5
       rw[show decide (((0:Nat):Int) > 0)=false by rfl,brF,if_neg (by simp[prv])]
      ·rw[show decide ((j:Int) > 0)=true by simp;omega,brT,w64 (by omega) (by omega),qM l ((j:Int)-1) (j-1) (by omega) (by omega),bdS,vg,bdS]
       have hp:prv l j=some l[j-1].2.2.1:=by unfold prv;rw[if_neg h5,List.getElem?_eq_getElem (by omega)];rfl
       rw[hp]
       by_cases h6:l[j].2.2.1=l[j-1].2.2.1
       ·rw[decide_eq_true h6,brT,if_pos (by rw[h6])];rfl
       ·rw[decide_eq_false h6,brF,if_neg (fun h=>h6 (Option.some.inj h).symm)]
     ·rw[show((fulN lf l[j].2.2.1,()).1 != 0)=true by simpa using h4,brT,if_pos h4]
      unfold ckZ;rw[if_neg h4]
  ·rw[show(l[j].1 != e)=true by simpa using h1,brT,if_pos h1];rfl
theorem alu{s:Sg3}{e N:Int}(hs:SmV s.2.2.1):jJ.f lf s e N=some (if s.1≠e then 20 else if s.2.1≤s.1 then 15 else if N < s.2.1 then 15 else fulN lf s.2.2.1,()):=by
 have hf:=(yF lf hb hs).2.1
 unfold jJ.f
 by_cases h1:s.1=e
 ·rw[show(s.1 != e)=false by simpa using h1,brF,if_neg (by simpa using h1)]
  by_cases h2:s.2.1≤s.1
  ·rw[decide_eq_true h2,brT,if_pos h2]
  ·rw[decide_eq_false h2,brF,if_neg h2]
   by_cases h3:N < s.2.1
   ·rw[show decide (s.2.1 > N)=true by simpa using h3,brT,if_pos h3]
   ·rw[show decide (s.2.1 > N)=false by simpa using h3,brF,if_neg h3];exact hf
 ·rw[show(s.1 != e)=true by simpa using h1,brT,if_pos h1]
theorem aj7{l:List Sg3}{N:Int}(hs:∀ s∈l,SmV s.2.2.1)(hl:l.length≤1000):∀ (d n j:Nat) (e:Int),j+d=l.length→d < n→
  bI.l0 lf l N n e j=some (ckZ (ckS lf N (prv l j) e (l.drop j)))
 | 0,n,j,e,hd,hn=>by
  obtain⟨n,rfl⟩:∃ q,n=q+1:=⟨n-1,by omega⟩
  rw[bI.l0,bI.r0,show decide ((j:Int) < ((l.length:Nat):Int))=false by simp;omega,brF,List.drop_eq_nil_of_le (by omega)]
  rfl
 | d+1,n,j,e,hd,hn=>by
  obtain⟨n,rfl⟩:∃ q,n=q+1:=⟨n-1,by omega⟩
  have hj:j < l.length:=by omega
  rw[bI.l0,bI.r0,show decide ((j:Int) < ((l.length:Nat):Int))=true by simp;omega,brT,dB l j hj,bdS,alu lf hb (hs l[j] (List.getElem_mem hj)),bdS,List.drop_eq_getElem_cons hj,ckS]
  by_cases h1:l[j].1=e
  ·have h1':¬(l[j].1≠e):=fun h=>h h1
   rw[if_neg h1',if_neg h1']
   by_cases h2:l[j].2.1≤l[j].1
   ·rw[if_pos h2,if_pos h2,show(((15:Int),()).1 != 0)=true from rfl,brT];rfl
   ·rw[if_neg h2,if_neg h2]
    by_cases h3:N < l[j].2.1
    ·rw[if_pos h3,if_pos h3,show(((15:Int),()).1 != 0)=true from rfl,brT];rfl
    ·rw[if_neg h3,if_neg h3]
     by_cases h4:fulN lf l[j].2.2.1=0
     ·rw[show((fulN lf l[j].2.2.1,()).1 != 0)=false by simpa using h4,brF,if_neg (show ¬(fulN lf l[j].2.2.1≠0) from fun h=>h h4)]
      simp only[bdS]
      rw[w64 (n:=(j:Int)+1) (by omega) (by omega),show(j:Int)+1=((j+1:Nat):Int) by omega,aj7 hs hl d n (j+1) l[j].2.1 (by omega) (by omega),aea hj]
      by_cases h5:j=0
      ·subst h5
       rw[show decide (((0:Nat):Int) > 0)=false by rfl,brF,if_neg (by simp[prv])]
      ·rw[show decide ((j:Int) > 0)=true by simp;omega,brT,w64 (by omega) (by omega),qM l ((j:Int)-1) (j-1) (by omega) (by omega),bdS,vg]
       have hp:prv l j=some l[j-1].2.2.1:=by unfold prv;rw[if_neg h5,List.getElem?_eq_getElem (by omega)];rfl
       rw[hp]
       by_cases h6:l[j-1].2.2.1=l[j].2.2.1
       ·rw[decide_eq_true h6,brT,if_pos (by rw[h6])];rfl
       ·rw[decide_eq_false h6,brF,if_neg (fun h=>h6 (Option.some.inj h))]
     ·rw[show((fulN lf l[j].2.2.1,()).1 != 0)=true by simpa using h4,brT,if_pos h4]
      unfold ckZ;rw[if_neg h4]
  ·rw[if_pos h1,if_pos h1,show(((20:Int),()).1 != 0)=true from rfl,brT];rfl
noncomputable def ckN (l:List Sg3) (n:Int):Int:=if n < 1 then 2 else if 32 < n then 2 else if l=[]then 20 else if(ckS lf n none 0 l).1≠0 then(ckS lf n none 0 l).1 else if(ckS lf n none 0 l).2≠n then 20 else 0
omit hb in
theorem ai6{p:Int×Int}{n:Int}:br (ckZ p).1 (some ((ckZ p).2.1.1,())) (br ((ckZ p).2.2.1.1 != n) (some ((20:Int),())) (some (0,())))=some (if p.1≠0 then p.1 else if p.2≠n then 20 else 0,()):=by
 unfold ckZ
 by_cases h:p.1=0
 ·rw[if_pos h,if_neg (by simpa using h),brF]
  simp only
  by_cases h2:p.2=n
  ·rw[show(p.2 != n)=false by simpa using h2,brF,if_neg (by simpa using h2)]
  ·rw[show(p.2 != n)=true by simpa using h2,brT,if_pos h2]
 ·rw[if_neg h,if_pos h,brT]
theorem sJ{l:List Sg3}{n:Int}(hs:∀ s∈l,SmV s.2.2.1)(hl:l.length≤1000):dN.f lf l n=some (ckN lf l n,())∧bI.f lf l n=some (ckN lf l n,())∧(ckN lf l n=0↔Right l n):=by
 have hlf:l.length < lf+40:=by have:=hb.1;omega
 have h1:=aj6 lf hb (N:=n) hs hl l.length (lf+40) 0 0 (by omega) hlf
 have h2:=aj7 lf hb (N:=n) hs hl l.length (lf+40) 0 0 (by omega) hlf
 have hR:=abe lf hb (N:=n) (p:=none) (e:=0) hs
 rw[List.drop_zero,show prv l 0=none from rfl]at h1 h2
 have h0:((0:Nat):Int)=0:=rfl
 rw[h0]at h1 h2
 unfold dN.f bI.f ckN
 rw[h1,h2,bdS,ai6]
 by_cases c1:n < 1
 ·rw[decide_eq_true c1,brT,if_pos c1]
  exact⟨rfl,rfl,fun h=>by omega,fun h=>by have:=h.n1;omega⟩
 rw[decide_eq_false c1,brF,if_neg c1]
 by_cases c2:32 < n
 ·rw[show decide (n > 32)=true by simpa using c2,brT,if_pos c2]
  exact⟨rfl,rfl,fun h=>by omega,fun h=>by have:=h.n2;omega⟩
 rw[show decide (n > 32)=false by simpa using c2,brF,if_neg c2]
 by_cases c3:l=[]
 ·subst c3
  rw[show((((([]:List Sg3).length:Nat):Int))==0)=true from rfl,brT,if_pos rfl]
  exact⟨rfl,rfl,fun h=>by omega,fun h=>absurd rfl h.ne⟩
 have:((l.length:Nat):Int)≠0:=fun h=>c3 (List.length_eq_zero_iff.1 (by omega))
 rw[show(((l.length:Nat):Int)==0)=false by simpa using this,brF,if_neg c3]
 refine⟨rfl,rfl,fun h=>?_,fun h=>?_⟩
 ·refine⟨by omega,by omega,c3,hR.1 ?_⟩
  split at h
  ·rename_i hc;exact absurd h hc
  ·rename_i hc
   split at h
   ·omega
   ·rename_i hd;exact⟨Classical.not_not.1 hc,Classical.not_not.1 hd⟩
 ·obtain⟨r1,r2⟩:=hR.2 h.rs
  rw[if_neg (by simpa using r1),if_neg (by simpa using r2)]
theorem uz{l:List Sg3}{n:Int}(h:Right l n)(hl:l.length≤1000):dN.f lf l n=some (0,())∧bI.f lf l n=some (0,()):=by
 have hs:∀ s∈l,SmV s.2.2.1:=fun s hs=>by
  obtain⟨v,e,hv,_⟩:=h.rs.good s hs
  rw[e];exact smV lf hb hv
 obtain⟨h1,h2,h3⟩:=sJ lf hb (n:=n) hs hl
 rw[h3.2 h]at h1 h2
 exact⟨h1,h2⟩
end
end Go.N
namespace Go.N
open Go.IntKind (i64)
open Go Go.Q Go.Rx
def apS1(b:Nat)(_:Int)(v:V33)(a:List V33):Option (Empty ⊕ List V33):=bd (apL true b a [v]) fun q=>some (.inr q)
theorem acS(b:Nat)(hb:b≤1000):∀ (l:List V33) (i:Int) (a:List V33),a.length+l.length≤1000000→runE (apS1 b) i l a=some (.inr (a++l))
 | [],i,a,h=>by simp[runE]
 | v::l,i,a,h=>by
  simp only[List.length_cons]at h
  rw[aaQ,apS1,aam,xR b a [v] hb (by simp;omega),bdS,jD,acS b hb l (i+1) (a++[v]) (by simp;omega)]
  simp
section
variable (lf:Nat)(hb:Big lf)
include hb
theorem aiR{l:List Sg3}{n:Int}(h:Chn n 0 l)(hn:n≤1000)(hl:l.length≤1000):fC.f lf l=some (expand l,()):=by
 have hlen:=h.len
 have:=qG (S:=apS1 80) (l:=l) (R:=Empty) (L0:=fun n j a=>fC.l0 lf l (l.length:Nat) l n j a)
  (L1:=fun j y n i a=>fC.l1 lf l (l.length:Nat) j l y.1 y.2.1 y.2.2.1.1.1 y.2.2.1.1.2.1 y.2.2.1.1.2.2.1 y.2.2.1.2.1.1 y.2.2.1.2.1.2.1 y.2.2.1.2.1.2.2.1 n i a)
  (D:=fun z n j=>fC.l0 lf l (l.length:Nat) l n (i64.wrap (j+1)) z.1.1) (k1:=fun a=>((a,()),())) (e1:=fun r=>nomatch r) (k0:=fun a=>((a,()),())) (e0:=fun r=>nomatch r)
  (N:=n) (by omega) (q:=lf+40) (by have:=hb.1;omega) (by omega)
  (fun j s _ n i a=>by rw[fC.l1,fC.r1,apS1,aam];simp only[jD])
  (fun n j a=>by rw[fC.l0,fC.r0])
  (fun r=>nomatch r) (fun a n j=>rfl) l.length (lf+40) 0 0 [] (by omega) (by have:=hb.1;omega) (by simpa using h) (Int.le_refl _)
 rw[fC.f]
 rw[show(((0:Nat):Int))=0 from rfl]at this
 rw[this,List.drop_zero,acS 80 (by omega) _ _ _ (by simp;omega),jD,bdS]
 rfl
theorem aaW{l:List Sg3}{n:Int}(h:Chn n 0 l)(hn:n≤1000)(hl:l.length≤1000):aO.f lf l=some (expand l,()):=by
 have hlen:=h.len
 have:=qG (S:=apS1 80) (l:=l) (R:=Empty) (L0:=fun n j a=>aO.l0 lf l n j a)
  (L1:=fun j y n i a=>aO.l1 lf l j n i a)
  (D:=fun z n j=>aO.l0 lf l n (i64.wrap (j+1)) z.1.1) (k1:=fun a=>((a,()),())) (e1:=fun r=>nomatch r) (k0:=fun a=>((a,()),())) (e0:=fun r=>nomatch r)
  (N:=n) (by omega) (q:=lf+40) (by have:=hb.1;omega) (by omega)
  (fun j s hs n i a=>by rw[aO.l1,aO.r1,hs,bdS,bdS,apS1,aam];simp only[jD])
  (fun n j a=>by rw[aO.l0,aO.r0])
  (fun r=>nomatch r) (fun a n j=>rfl) l.length (lf+40) 0 0 [] (by omega) (by have:=hb.1;omega) (by simpa using h) (Int.le_refl _)
 rw[aO.f]
 rw[show(((0:Nat):Int))=0 from rfl]at this
 rw[this,List.drop_zero,acS 80 (by omega) _ _ _ (by simp;omega),jD,bdS]
 rfl
end
def ofStep(i:Int)(v:V33)(out:List Sg3):List Sg3:=match out.getLast? with
 | some s=>if s.2.2.1=v then out.dropLast++[(s.1,i+1,s.2.2.1,())]else out++[(i,i+1,v,())]
 | none=>out++[(i,i+1,v,())]
def ofL:Int→List V33→List Sg3→List Sg3
 | _,[],out=>out
 | i,v::l,out=>ofL (i+1) l (ofStep i v out)
theorem aek{α:Type}(l:List α)(z:α)(h:l≠[]):l.set (l.length-1) z=l.dropLast++[z]:=by
 obtain⟨m,x,rfl⟩:∃ m x,l=m++[x]:=⟨l.dropLast,l.getLast h,(List.dropLast_concat_getLast h).symm⟩
 simp[List.set_append]
theorem aiN{α:Type}(l:List α)(i:Nat)(f:α→Option α)(h:i < l.length){z:α}(hz:f l[i]=some z):upE l i f=some (l.set i z):=by
 unfold upE
 rw[List.getElem?_eq_getElem h]
 simp only[hz]
theorem last_at{α:Type}(l:List α)(h:l≠[]):l.getLast? = some (l[l.length-1]'(by have:=List.length_pos_iff.2 h;omega)):=by
 rw[List.getLast?_eq_getElem?,List.getElem?_eq_getElem (by have:=List.length_pos_iff.2 h;omega)]
theorem aeV(i:Int)(v:V33)(out:List Sg3):(ofStep i v out).length≤out.length+1:=by
 unfold ofStep
 split
 ·split
  ·simp
   try omega
  ·simp
 ·simp
section
variable (lf:Nat)(hb:Big lf)
include hb
theorem ake{l:List V33}(hl:l.length≤1000):∀ (d n j:Nat) (out:List Sg3),j+d=l.length→d < n→out.length≤j→iL.l0 lf l (l.length:Nat) n j out=some ((ofL j (l.drop j) out,()),())
 | 0,n,j,out,hd,hn,ho=>by
  obtain⟨n,rfl⟩:∃ q,n=q+1:=⟨n-1,by omega⟩
  rw[iL.l0,iL.r0,show decide ((j:Int) < ((l.length:Nat):Int))=false by simp;omega,brF,List.drop_eq_nil_of_le (by omega)]
  rfl
 | d+1,n,j,out,hd,hn,ho=>by
  obtain⟨n,rfl⟩:∃ q,n=q+1:=⟨n-1,by omega⟩
  have hj:j < l.length:=by omega
  rw[iL.l0,iL.r0,show decide ((j:Int) < ((l.length:Nat):Int))=true by simp;omega,brT,dB l j hj,bdS,List.drop_eq_getElem_cons hj,ofL]
  have go:∀ out',out'.length≤j+1→iL.l0 lf l (l.length:Nat) n (i64.wrap ((j:Int)+1)) out'=some ((ofL ((j:Int)+1) (l.drop (j+1)) out',()),()):=fun out' h=>by
   rw[w64 (by omega) (by omega),show(j:Int)+1=((j+1:Nat):Int) by omega]
   exact ake hl d n (j+1) out' (by omega) (by omega) h
  have hw:i64.wrap ((j:Int)+1)=(j:Int)+1:=w64 (by omega) (by omega)
  by_cases h0:out=[]
  ·subst h0
   rw[show decide (((([]:List Sg3).length:Nat):Int) > 0)=false from rfl,brF,xR 96 _ _ (by omega) (by simp),bdS,go _ (by simp),hw]
   rfl
  ·have hp:0 < out.length:=List.length_pos_iff.2 h0
   have hlast:=last_at out h0
   rw[show decide (((out.length:Nat):Int) > 0)=true by simp;omega,brT,w64 (n:=((out.length:Nat):Int)-1) (by omega) (by omega),show((out.length:Nat):Int)-1=((out.length-1:Nat):Int) by omega,cu _ _ (by omega),bdS,List.getElem?_eq_getElem (by omega),bdS,vg,bdS]
   unfold ofStep
   rw[hlast]
   simp only
   by_cases he:out[out.length-1].2.2.1=l[j]
   ·rw[decide_eq_true he,brT,if_pos he]
    rw[show adA out.length ((out.length-1:Nat):Int) ((out.length:Nat):Int) ((out.length:Nat):Int)=some (out.length-1,1) by
     unfold adA;simp;omega,bdS]
    simp only
    rw[show idxB 1 0=some 0 from rfl,bdS,aiN out (out.length-1+0) (fun y:Sg3=>some (y.1,i64.wrap ((j:Int)+1),y.2.2.1,())) (by omega) rfl,bdS,go _ (by simp;omega),hw]
    simp only[Nat.add_zero]
    rw[aek _ _ h0]
   ·rw[decide_eq_false he,brF,if_neg he,xR 96 _ _ (by omega) (by simp;omega),bdS,go _ (by simp;omega),hw]
theorem of_p{l:List V33}(hl:l.length≤1000):iL.f lf l=some (ofL 0 l [],()):=by
 rw[iL.f]
 have:=ake lf hb hl l.length (lf+40) 0 [] (by omega) (by have:=hb.1;omega) (by simp)
 rw[show(((0:Nat):Int))=0 from rfl,List.drop_zero]at this
 rw[this,bdS]
theorem akf{l:List V33}(hl:l.length≤1000):∀ (d n j:Nat) (out:List Sg3),j+d=l.length→d < n→out.length≤j→eu.l0 lf l n j out=some ((ofL j (l.drop j) out,()),())
 | 0,n,j,out,hd,hn,ho=>by
  obtain⟨n,rfl⟩:∃ q,n=q+1:=⟨n-1,by omega⟩
  rw[eu.l0,eu.r0,show decide ((j:Int) < ((l.length:Nat):Int))=false by simp;omega,brF,List.drop_eq_nil_of_le (by omega)]
  rfl
 | d+1,n,j,out,hd,hn,ho=>by
  obtain⟨n,rfl⟩:∃ q,n=q+1:=⟨n-1,by omega⟩
  have hj:j < l.length:=by omega
  rw[eu.l0,eu.r0,show decide ((j:Int) < ((l.length:Nat):Int))=true by simp;omega,brT,dB l j hj,List.drop_eq_getElem_cons hj,ofL]
  have go:∀ out',out'.length≤j+1→eu.l0 lf l n (i64.wrap ((j:Int)+1)) out'=some ((ofL ((j:Int)+1) (l.drop (j+1)) out',()),()):=fun out' h=>by
   rw[w64 (by omega) (by omega),show(j:Int)+1=((j+1:Nat):Int) by omega]
   exact akf hl d n (j+1) out' (by omega) (by omega) h
  have hw:i64.wrap ((j:Int)+1)=(j:Int)+1:=w64 (by omega) (by omega)
  by_cases h0:out=[]
  ·subst h0
   rw[show decide (((([]:List Sg3).length:Nat):Int) > 0)=false from rfl,brF,bdS,xR 96 _ _ (by omega) (by simp),bdS,go _ (by simp),hw]
   rfl
  ·have hp:0 < out.length:=List.length_pos_iff.2 h0
   have hlast:=last_at out h0
   rw[show decide (((out.length:Nat):Int) > 0)=true by simp;omega,brT,w64 (n:=((out.length:Nat):Int)-1) (by omega) (by omega),show((out.length:Nat):Int)-1=((out.length-1:Nat):Int) by omega,cu _ _ (by omega),bdS,List.getElem?_eq_getElem (by omega),bdS,bdS,vg,bdS]
   unfold ofStep
   rw[hlast]
   simp only
   by_cases he:out[out.length-1].2.2.1=l[j]
   ·rw[decide_eq_true he,brT,if_pos he,bdS,aiN out (out.length-1) (fun y:Sg3=>some (y.1,i64.wrap ((j:Int)+1),y.2.2.1,())) (by omega) rfl,bdS,go _ (by simp;omega),hw,aek _ _ h0]
   ·rw[decide_eq_false he,brF,if_neg he,bdS,xR 96 _ _ (by omega) (by simp;omega),bdS,go _ (by simp;omega),hw]
theorem of_r{l:List V33}(hl:l.length≤1000):eu.f lf l=some (ofL 0 l [],()):=by
 rw[eu.f]
 have:=akf lf hb hl l.length (lf+40) 0 [] (by omega) (by have:=hb.1;omega) (by simp)
 rw[show(((0:Nat):Int))=0 from rfl,List.drop_zero]at this
 rw[this,bdS]
end
end Go.N
namespace Go.N
open Go Go.Q Go.Rx
theorem ltd{j:Nat}{k:Nat}:decide ((j:Int) < ((k:Nat):Int))=decide (j < k):=by simp
section
variable (lf:Nat)(hb:Big lf)
include hb
theorem afv{l:List Sg3}(hl:l.length≤40):∀ (d n j:Nat),j+d=l.length→d < n→∃ b,fJ.l0 lf l n j=some (b,(),(),())∧(b=false→∀ s∈l.drop j,SmV s.2.2.1)
 | 0,n,j,hd,hn=>by
  obtain⟨n,rfl⟩:∃ q,n=q+1:=⟨n-1,by omega⟩
  refine⟨false,?_,fun _ s hs=>?_⟩
  ·rw[fJ.l0,fJ.r0,ltd,decide_eq_false (by omega),brF]
  ·rw[List.drop_eq_nil_of_le (by omega)]at hs;cases hs
 | d+1,n,j,hd,hn=>by
  obtain⟨n,rfl⟩:∃ q,n=q+1:=⟨n-1,by omega⟩
  have hj:j < l.length:=by omega
  obtain⟨b,b1,b2⟩:=ahw lf l[j].2.2.1 l[j].2.2.1
  obtain⟨c,c1,c2⟩:=afv hl d n (j+1) (by omega) (by omega)
  rw[fJ.l0,fJ.r0,ltd,decide_eq_true hj,brT,dB l j hj,bdS,bdS,b1,bdS,w64 (by omega) (by omega),show(j:Int)+1=((j+1:Nat):Int) by omega,c1]
  cases b with
  | false=>exact⟨true,by rw[Bool.not_false,brT],fun h=>by cases h⟩
  | true =>
   refine⟨c,by rw[Bool.not_true,brF],fun h s hs=>?_⟩
   rw[List.drop_eq_getElem_cons hj]at hs
   rcases List.mem_cons.1 hs with rfl | hs
   ·exact(b2 rfl).1
   ·exact c2 h s hs
theorem ald(l:List Sg3):∃ b,fJ.f lf l=some (b,())∧(b=true→l.length≤40∧∀ s∈l,SmV s.2.2.1):=by
 rw[fJ.f]
 by_cases h:40 < l.length
 ·exact⟨false,by rw[show decide (((l.length:Nat):Int) > 40)=true by simp;omega,brT],fun h=>by cases h⟩
 ·rw[show decide (((l.length:Nat):Int) > 40)=false by simp;omega,brF]
  obtain⟨b,b1,b2⟩:=afv lf hb (l:=l) (by omega) l.length (lf+40) 0 (by omega) (by have:=hb.1;omega)
  rw[show((0:Nat):Int)=0 from rfl]at b1
  rw[b1,bdS]
  cases b with
  | true=>exact⟨false,by rw[brT],fun h=>by cases h⟩
  | false=>exact⟨true,by rw[brF],fun _=>⟨by omega,fun s hs=>b2 rfl s (by simpa using hs)⟩⟩
theorem aiv{l:List Sg3}(hl:l.length≤100000):∀ (d n j:Nat),j+d=l.length→d < n→eU.l0 lf l l n j=some (false,(),(),())
 | 0,n,j,hd,hn=>by
  obtain⟨n,rfl⟩:∃ q,n=q+1:=⟨n-1,by omega⟩
  rw[eU.l0,eU.r0,ltd,decide_eq_false (by omega),brF]
 | d+1,n,j,hd,hn=>by
  obtain⟨n,rfl⟩:∃ q,n=q+1:=⟨n-1,by omega⟩
  have hj:j < l.length:=by omega
  rw[eU.l0,eU.r0,ltd,decide_eq_true hj,brT,dB l j hj,bdS,bdS,vg,bdS]
  simp only[BEq.rfl,decide_true,Bool.and_self,Bool.not_true]
  rw[brF,w64 (by omega) (by omega),show(j:Int)+1=((j+1:Nat):Int) by omega]
  exact aiv hl d n (j+1) (by omega) (by omega)
theorem akS(l:List Sg3)(hl:l.length≤100000):eU.f lf l l=some (true,()):=by
 rw[eU.f,show((((l.length:Nat):Int)) !=((l.length:Nat):Int))=false by simp,brF]
 have:=aiv lf hb hl l.length (lf+40) 0 (by omega) (by have:=hb.1;omega)
 rw[show((0:Nat):Int)=0 from rfl]at this
 rw[this,bdS,brF]
omit hb in
theorem afL:∀ (l:List V33) (i:Int) (out:List Sg3),(ofL i l out).length≤out.length+l.length
 | [],i,out=>by simp[ofL]
 | v::l,i,out=>by
  rw[ofL]
  have:=afL l (i+1) (ofStep i v out)
  have:=aeV i v out
  simp only[List.length_cons];omega
end
end Go.N
namespace Go.N
open Go Go.Q Go.Rx
section
variable (lf:Nat)(hb:Big lf){v w:Vl}(hv:WfV v)(hw:WfV w)
include hb hv hw
end
section
variable (lf:Nat)(hb:Big lf){x y:VV}(hx:SmV x)(hy:SmV y)
include hb hx hy
end
section
variable (lf:Nat)(hb:Big lf){x:VV}(hx:SmV x)
include hb hx
end
end Go.N
namespace Go.N
open Go Go.Q Go.Rx
theorem yj{A R Z α:Type}(x:Option α)(f:α→Option (R ⊕ A))(e:R→Option Z)(g:A→Option Z):contS (bd x f) e g=bd x fun y=>contS (f y) e g:=by
 rw[jf,jf];cases x<;>rfl
section
variable (lf:Nat)(hb:Big lf)
include hb
end
end Go.N
namespace Go.N
open Go Go.Q Go.Rx
section
variable (lf:Nat)(hb:Big lf)
include hb
end
section
variable (lf:Nat)(hb:Big lf)
include hb
end
end Go.N
namespace Go.N
open Go Go.Q Go.Rx
section
variable (lf:Nat)(hb:Big lf)
include hb
end
end Go.N
namespace Go.N
open Go Go.Q Go.Rx
section
variable (lf:Nat)(hb:Big lf)
include hb
theorem aaA{v:Vl}(hv:WfV v){z:Int}(hz: -Dd < z∧z < Dd):gX.f lf (vc v) (bs (Lib.itoa z))=some (inV v z,0,()):=by
 have h3:200000≤lf:=by have:=hb.1;omega
 have hk: -K < z∧z < K:=by have:=Dd_K;omega
 rw[gX.f,(chk_wf lf hb hv).1,bdS]
 simp only[bne_self_eq_false,brF]
 simp only[show(vc v).1=ac v.a from rfl,show(vc v).2.1=cc v.c from rfl,adO lf h3 hv.a hk,ajg lf hb hv.c hk,bdS,bne_self_eq_false,brF]
 unfold inV
 cases inS (ofA v.a) z with
 | false=>simp only[brF,Bool.false_and]
 | true =>
  cases inC v.c z with
  | false=>simp only[brT,brF,Bool.true_and]
  | true=>simp only[brT,BEq.rfl,Bool.true_and]
theorem alf{v:Vl}(hv:WfV v){z:Int}(hz: -Dd < z∧z < Dd):jZ.f lf (vc v) (bs (Lib.itoa z))=some (inV v z,()):=by
 have h3:200000≤lf:=by have:=hb.1;omega
 have hk: -K < z∧z < K:=by have:=Dd_K;omega
 rw[jZ.f]
 simp only[show(vc v).1=ac v.a from rfl,show(vc v).2.1=cc v.c from rfl,ahE lf h3 hv.a hk,in_r lf hb hv.c hz,bdS]
 unfold inV
 cases inS (ofA v.a) z<;>simp only[brT,brF,Bool.true_and,Bool.false_and]
theorem topV:(((false,(⟨#[]⟩:ByteArray),(⟨#[]⟩:ByteArray),()),(false,(⟨#[49]⟩:ByteArray),(⟨#[48]⟩:ByteArray),()),()):VV)=vc ⟨⟨false,none,none⟩,topC⟩:=by
 unfold vc;rw[iC rfl];simp only[topC];rw[←i1,←i0];rfl
def oneV(z:Int):Vl:=if -C < z∧z < C then onev z else⟨⟨false,none,none⟩,topC⟩
theorem aaN(z:Int):WfV (oneV z):=by
 unfold oneV
 split
 ·exact aeW (by assumption)
 ·exact⟨⟨nofun,trivial,trivial,trivial⟩,ajS,rfl⟩
theorem als{z:Int}(hz: -K < z∧z < K):ve.f lf (bs (Lib.itoa z))=some (vc (oneV z),0,()):=by
 have hl:=nH hz
 rw[ve.f,pM lf _ (by omega),(oH z).2 hz,bdS]
 simp only[bne_self_eq_false,brF,show bs (Lib.itoa z)=ob (some z) from rfl,clipV lf (o:=some z) hz,bdS,Option.bind,nY,vW.f,lM.f]
 unfold oneV
 by_cases c: -C < z∧z < C
 ·rw[qB c,if_pos c,decide_eq_false nofun,brF]
  simp only[show ob (some z)=bs (Lib.itoa z) from rfl,onV]
 ·rw[abf c,if_neg c,decide_eq_true rfl,brT,topV lf hb]
theorem alv{z:Int}(hz: -K < z∧z < K):dP.f lf (bs (Lib.itoa z))=some (vc (oneV z),()):=by
 have h3:200000≤lf:=by have:=hb.1;omega
 have hK:=K_gt
 rw[dP.f,jA.f,i0,rD lf h3 (m:=0) (by omega) hz,bdS,bdS]
 simp only[iE.f,fH.f,bdS]
 unfold oneV
 by_cases c: -C < z∧z < C
 ·have hC:=C_gt
  rw[wS (Int.le_refl 0) (by omega) c,if_pos rfl,if_pos c,iC rfl]
  simp only[BEq.rfl,Bool.not_true,brF]
  rw[←onV,i0]
 ·have e:clsF 0 z=topC:=by
   have:¬sz z≤100:=fun x=>c ((sz_C z).1 x)
   unfold clsF;rw[if_pos (.inr (by rw[if_pos rfl];omega))]
  rw[e,if_neg c,iC rfl]
  have e1:((bs (Lib.itoa topC.m)).toList==(bs (Lib.itoa 0)).toList)=false:=by
   rw[lT];exact decide_eq_false fun x=>by have:=oK x;simp[topC]at this
  rw[e1,Bool.not_false,brT,topV lf hb]
end
end Go.N
namespace Go.N
open Go Go.Q Go.Rx
theorem Chn.bnd{n:Int}:∀ {l:List Sg3} {e:Int},Chn n e l→0≤e→∀ s∈l,0≤s.1∧s.1 < s.2.1∧s.2.1≤n
 | [],e,h,he,s,hs=>by cases hs
 | x::r,e,⟨h1,h2,h3,h4⟩,he,s,hs=>by
  rcases List.mem_cons.1 hs with rfl | hs
  ·exact⟨by omega,by omega,h3⟩
  ·exact h4.bnd (by omega) s hs
section
variable (lf:Nat)(hb:Big lf)
include hb
end
section
variable (lf:Nat)(hb:Big lf)
include hb
omit hb in
theorem itoaB{z:Int}(h1:0≤z)(h2:z≤1000):B.Itoa.f lf z=some (bs (Lib.itoa z),()):=by
 unfold B.Itoa.f;rw[if_pos ⟨by omega,by omega⟩]
end
end Go.N
namespace Go.N
open Go.IntKind (i64)
open Go Go.Q Go.Rx
def ixL(x:Vl):Nat→Nat→List Int
 | _,0=>[]
 | k,d+1=>if inV x k=true then(k:Int)::ixL x (k+1) d else ixL x (k+1) d
def ixF{B:Type}(x:Vl)(G:B→Nat→B):Nat→Nat→B→B
 | _,0,b=>b
 | k,d+1,b=>ixF x G (k+1) d (if inV x k=true then G b k else b)
theorem vJ(x:Vl):∀ (d k:Nat),(ixL x k d).length≤d
 | 0,k=>by simp[ixL]
 | d+1,k=>by
  have:=vJ x d (k+1)
  rw[ixL];split
  ·simp only[List.length_cons];omega
  ·omega
theorem acy{B:Type}{x:Vl}{G:B→Nat→B}:∀ (d k:Nat) (b:B),ixL x k d=[]→ixF x G k d b=b
 | 0,k,b,h=>rfl
 | d+1,k,b,h=>by
  rw[ixL]at h
  split at h
  ·cases h
  ·rename_i c
   rw[ixF,if_neg c];exact acy d (k+1) b h
theorem afz{B:Type}{x:Vl}{G:B→Nat→B}:∀ (d k:Nat),(ixL x k d).length=1→∃ i:Nat,k≤i∧i < k+d∧ixL x k d=[(i:Int)]∧∀ b,ixF x G k d b=G b i
 | 0,k,h=>by simp[ixL]at h
 | d+1,k,h=>by
  rw[ixL]at h⊢
  split at h
  ·rename_i c
   rw[if_pos c]
   have h0:ixL x (k+1) d=[]:=List.eq_nil_of_length_eq_zero (by simpa using h)
   exact⟨k,Nat.le_refl _,by omega,by rw[h0],fun b=>by rw[ixF,if_pos c,acy d _ _ h0]⟩
  ·rename_i c
   rw[if_neg c]
   obtain⟨i,i1,i2,i3,i4⟩:=afz (G:=G) d (k+1) h
   exact⟨i,by omega,by omega,i3,fun b=>by rw[ixF,if_neg c,i4]⟩
section
variable {A B R:Type}{x:Vl}{G:B→Nat→B}{rep:B→A}{I:Nat→B→Prop}
theorem acT{S:Int→V33→A→Option (R ⊕ A)}{vs:List Vl}
  (hS:∀ (k:Nat) (hk:k < vs.length) b,I k b→S k (vc vs[k]) (rep b)=some (.inr (rep (if inV x k=true then G b k else b))))
  (hI:∀ (k:Nat) b,k < vs.length→I k b→I (k+1) (if inV x k=true then G b k else b)):∀ (d k:Nat) (b:B),k+d=vs.length→I k b→
  runE S k ((vs.drop k).map vc) (rep b)=some (.inr (rep (ixF x G k d b)))
 | 0,k,b,hk,hb=>by rw[List.drop_eq_nil_of_le (by omega)];rfl
 | d+1,k,b,hk,hb=>by
  have h:k < vs.length:=by omega
  rw[List.drop_eq_getElem_cons h,List.map_cons,aaQ,hS k h b hb,jD,show(k:Int)+1=((k+1:Nat):Int) by omega,acT hS hI d (k+1) _ (by omega) (hI k b h hb),ixF]
theorem xw{Z:Type}{L:Nat→Int→A→Option Z}{ixs:List Int}{N:Nat}{kf:A→Z}(hN:N≤1000)(hl:ixs.length≤1000)
  (h:∀ (n j k:Nat) b,I k b→(hj:j < ixs.length)→ixs[j]=(k:Int)→k < N→L (n+1) j (rep b)=L n ((j+1:Nat):Int) (rep (G b k)))
  (h0:∀ (n:Nat) a,L (n+1) ixs.length a=some (kf a))
  (hI:∀ (k:Nat) b,k < N→I k b→I (k+1) (if inV x k=true then G b k else b)):∀ (d k j n:Nat) (b:B),k+d=N→j≤ixs.length→ixs.drop j=ixL x k d→I k b→d < n→
  L n j (rep b)=some (kf (rep (ixF x G k d b)))
 | 0,k,j,n,b,hk,hj,hd,hb,hn=>by
  obtain⟨n,rfl⟩:∃ q,n=q+1:=⟨n-1,by omega⟩
  have:j=ixs.length:=by have:=congrArg List.length hd;simp[ixL]at this;omega
  subst this
  rw[h0];rfl
 | d+1,k,j,n,b,hk,hj,hd,hb,hn=>by
  rw[ixF]
  rw[ixL]at hd
  by_cases c:inV x k=true
  ·rw[if_pos c]at hd
   have hj':j < ixs.length:=by have:=congrArg List.length hd;simp at this;omega
   rw[List.drop_eq_getElem_cons hj',List.cons.injEq]at hd
   obtain⟨n,rfl⟩:∃ q,n=q+1:=⟨n-1,by omega⟩
   have hI':=hI k b (by omega) hb
   rw[if_pos c]at hI'⊢
   rw[h n j k b hb hj' hd.1 (by omega)]
   exact xw hN hl h h0 hI d (k+1) (j+1) n _ (by omega) (by omega) hd.2 hI' (by omega)
  ·rw[if_neg c]at hd⊢
   have hI':=hI k b (by omega) hb
   rw[if_neg c]at hI'
   exact xw hN hl h h0 hI d (k+1) j n b (by omega) hj hd hI' (by omega)
end
abbrev flat(a:V33):(Bool×ByteArray×ByteArray×Bool×ByteArray×ByteArray×Unit)×Unit:=((a.1.1,a.1.2.1,a.1.2.2.1,a.2.1.1,a.2.1.2.1,a.2.1.2.2.1,()),())
theorem aff:1000 < Dd:=by
 have:=C_gt
 have:=(sz_C 1000).2 ⟨by omega,by omega⟩
 have:=(alC 1000).1 (by omega)
 omega
theorem akL:metV (oneV 0) (oneV 1)=Ev:=by
 have:=C_gt
 unfold oneV
 rw[if_pos ⟨by omega,by omega⟩,if_pos ⟨by omega,by omega⟩]
 unfold metV
 have:(toA (common (ofA (onev 0).a) (ofA (onev 1).a))).em=true:=by decide
 unfold red
 rw[if_pos this]
section
variable (lf:Nat)(hb:Big lf)
include hb
omit hb in
theorem bigOf{z:Int}(h1:0≤z)(h2:z≤1000):gJ.f lf z=some (bs (Lib.itoa z),()):=by
 rw[gJ.f,itoaB lf h1 h2,bdS]
theorem oneP{z:Int}(h1:0≤z)(h2:z≤1000):iF.f lf z=some (vc (oneV z),()):=by
 have:=K_gt
 rw[iF.f,bigOf lf h1 h2,bdS,als lf hb ⟨by omega,by omega⟩,bdS,dY.f,bdS]
theorem abD:iJ.f lf=some (vc Ev,()):=by
 rw[iJ.f,oneP lf hb (z:=0) (by omega) (by omega),oneP lf hb (z:=1) (by omega) (by omega),bdS,bdS,ahS lf hb (aaN lf hb 0) (aaN lf hb 1),bdS,akL,dY.f,bdS]
omit hb in
theorem afr:aX.f lf=some (vc Ev,()):=by kernel_rfl
theorem af8{l:List Sg3}{n c:Int}{y:V33}(h:dN.f lf l n=some (0,()))(hc:dV.f lf y=some (c,())):aV.f lf l n [y]=some (c,()):=by
 rw[aV.f,h,bdS,show(((0:Int),()).1 != 0)=false from rfl,brF,show lf+40=lf+38+1+1 from rfl,aV.l0,aV.r0,show decide ((0:Int) < (([y].length:Nat):Int))=true from rfl,brT,show idxL [y] 0=some y from rfl,bdS,hc,bdS]
 by_cases h0:c=0
 ·subst h0
  rw[show(((0:Int),()).1 != 0)=false from rfl,brF,aV.l0,aV.r0,show decide (i64.wrap (0+1) < (([y].length:Nat):Int))=false from rfl,brF,bdS,brF]
 ·rw[show((c,()).1 != 0)=true by simpa using h0,brT,bdS,brT]
theorem vS{l:List Sg3}{n c d:Int}{y z:V33}(h:dN.f lf l n=some (0,()))(hc:dV.f lf y=some (c,()))(hd:dV.f lf z=some (d,())):aV.f lf l n [y,z]=some (if c≠0 then c else d,()):=by
 rw[aV.f,h,bdS,show(((0:Int),()).1 != 0)=false from rfl,brF,show lf+40=lf+37+1+1+1 from rfl,aV.l0,aV.r0,show decide ((0:Int) < (([y,z].length:Nat):Int))=true from rfl,brT,show idxL [y,z] 0=some y from rfl,bdS,hc,bdS]
 by_cases h0:c=0
 ·subst h0
  rw[show(((0:Int),()).1 != 0)=false from rfl,brF,aV.l0,aV.r0,show decide (i64.wrap (0+1) < (([y,z].length:Nat):Int))=true from rfl,brT,show idxL [y,z] (i64.wrap (0+1))=some z from rfl,bdS,hd,bdS,if_neg (by simp)]
  by_cases h1:d=0
  ·subst h1
   rw[show(((0:Int),()).1 != 0)=false from rfl,brF,aV.l0,aV.r0,show decide (i64.wrap (i64.wrap (0+1)+1) < (([y,z].length:Nat):Int))=false from rfl,brF,bdS,brF]
  ·rw[show((d,()).1 != 0)=true by simpa using h1,brT,bdS,brT]
 ·rw[show((c,()).1 != 0)=true by simpa using h0,brT,bdS,brT,if_pos h0]
theorem ahF{x:Vl}(hx:WfV x){N:Nat}(hN:N≤1000):∀ (d n k:Nat) (a:List Int),k+d=N→d < n→a.length≤k→
  aP.l0 lf N (vc x).1.1 (vc x).1.2.1 (vc x).1.2.2.1 (vc x).2.1.1 (vc x).2.1.2.1 (vc x).2.1.2.2.1 n k a=some ((a++ixL x k d,()),())
 | 0,n,k,a,hk,hn,ha=>by
  obtain⟨n,rfl⟩:∃ q,n=q+1:=⟨n-1,by omega⟩
  rw[aP.l0,aP.r0,ltd,decide_eq_false (by omega),brF]
  simp[ixL]
 | d+1,n,k,a,hk,hn,ha=>by
  obtain⟨n,rfl⟩:∃ q,n=q+1:=⟨n-1,by omega⟩
  have h3:200000≤lf:=by have:=hb.1;omega
  have hD:=aff
  rw[aP.l0,aP.r0,ltd,decide_eq_true (by omega),brT,rZ lf h3 (by omega) (by omega),bdS]
  rw[show((((vc x).1.1,(vc x).1.2.1,(vc x).1.2.2.1,()),((vc x).2.1.1,(vc x).2.1.2.1,(vc x).2.1.2.2.1,()),()):V33)=vc x from rfl,alf lf hb hx ⟨by omega,by omega⟩,bdS,w64 (by omega) (by omega),show(k:Int)+1=((k+1:Nat):Int) by omega,ixL]
  by_cases c:inV x k=true
  ·rw[if_pos c,c,brT,xR 8 _ _ (by omega) (by simp;omega),bdS,ahF hx hN d n (k+1) _ (by omega) (by omega) (by simp;omega)]
   simp
  ·rw[if_neg c,Bool.eq_false_iff.2 c,brF,ahF hx hN d n (k+1) _ (by omega) (by omega) (by omega)]
theorem ahG{x:Vl}(hx:WfV x){N:Nat}(hN:N≤1000):aP.f lf (vc x) N=some (ixL x 0 N,()):=by
 rw[aP.f]
 have:=ahF lf hb hx hN N (lf+40) 0 [] (by omega) (by have:=hb.1;omega) (by simp)
 rw[show((0:Nat):Int)=0 from rfl]at this
 rw[this,bdS,List.nil_append]
end
end Go.N
namespace Go.N
open Go.IntKind (i64)
open Go Go.Q Go.Rx
noncomputable def ldS (lf:Nat) (x:V33) (i:Int) (v:V33) (a:V33):Option (Empty ⊕ V33) :=
 bd (gJ.f lf i) fun r4=>bd (gX.f lf x r4.1) fun r5=>bd (bM.f lf r5.1 r5.2.1) fun r6=>br r6.1 (bd (iM.f lf a v) fun r7=>bd (dY.f lf r7.1 r7.2.1) fun r8=>some (.inr r8.1)) (some (.inr a))
noncomputable def fdS (lf:Nat) (x u:V33) (i:Int) (v:V33) (a:V33):Option (Empty ⊕ V33) :=
 bd (gJ.f lf i) fun r4=>bd (gX.f lf x r4.1) fun r5=>bd (bM.f lf r5.1 r5.2.1) fun r6=>br r6.1 (bd (lY.f lf v u) fun r7=>bd (dY.f lf r7.1 r7.2.1) fun r8=>bd (fB.f lf r8.1) fun r9=>br (!r9.1) (bd (iF.f lf i) fun r10=>bd (iM.f lf a r10.1) fun r11=>bd (dY.f lf r11.1 r11.2.1) fun r12=>some (.inr r12.1)) (some (.inr a))) (some (.inr a))
theorem sV{vs:List Vl}{k:Nat}(h:k < vs.length):vs.getD k Ev=vs[k]:=by simp[List.getD,h]
def ldG(vs:List Vl)(b:Vl)(k:Nat):Vl:=joinV b (vs.getD k Ev)
noncomputable def fdG (vs:List Vl) (u b:Vl) (k:Nat):Vl:=if(metV (vs.getD k Ev) u).a.em=true then b else joinV b (oneV k)
section
variable (lf:Nat)(hb:Big lf)
include hb
theorem ajm{l:List Sg3}{n:Int}(x a:V33)(h:Chn n 0 l)(hn:n≤1000)(hl:l.length≤1000):
  dL.l0 lf l (l.length:Nat) x.1.1 x.1.2.1 x.1.2.2.1 x.2.1.1 x.2.1.2.1 x.2.1.2.2.1 false ⟨#[]⟩ ⟨#[]⟩ false ⟨#[]⟩ ⟨#[]⟩ [x] l x.1.1 x.1.2.1 x.1.2.2.1 x.2.1.1 x.2.1.2.1 x.2.1.2.2.1 l (lf+40) 0 a.1.1 a.1.2.1 a.1.2.2.1 a.2.1.1 a.2.1.2.1 a.2.1.2.2.1
   = contS (runE (ldS lf x) 0 (expand l) a) (fun r=>some (Empty.elim r)) fun a'=>some (flat a'):=by
 have:=qG (S:=ldS lf x) (l:=l) (L0:=fun n j a=>dL.l0 lf l (l.length:Nat) x.1.1 x.1.2.1 x.1.2.2.1 x.2.1.1 x.2.1.2.1 x.2.1.2.2.1 false ⟨#[]⟩ ⟨#[]⟩ false ⟨#[]⟩ ⟨#[]⟩ [x] l x.1.1 x.1.2.1 x.1.2.2.1 x.2.1.1 x.2.1.2.1 x.2.1.2.2.1 l n j a.1.1 a.1.2.1 a.1.2.2.1 a.2.1.1 a.2.1.2.1 a.2.1.2.2.1)
  (L1:=fun j y n i a=>dL.l1 lf l (l.length:Nat) j x.1.1 x.1.2.1 x.1.2.2.1 x.2.1.1 x.2.1.2.1 x.2.1.2.2.1 false ⟨#[]⟩ ⟨#[]⟩ false ⟨#[]⟩ ⟨#[]⟩ [x] l x.1.1 x.1.2.1 x.1.2.2.1 x.2.1.1 x.2.1.2.1 x.2.1.2.2.1 l y.1 y.2.1 y.2.2.1.1.1 y.2.2.1.1.2.1 y.2.2.1.1.2.2.1 y.2.2.1.2.1.1 y.2.2.1.2.1.2.1 y.2.2.1.2.1.2.2.1 n i a.1.1 a.1.2.1 a.1.2.2.1 a.2.1.1 a.2.1.2.1 a.2.1.2.2.1)
  (D:=fun z n j=>dL.l0 lf l (l.length:Nat) x.1.1 x.1.2.1 x.1.2.2.1 x.2.1.1 x.2.1.2.1 x.2.1.2.2.1 false ⟨#[]⟩ ⟨#[]⟩ false ⟨#[]⟩ ⟨#[]⟩ [x] l x.1.1 x.1.2.1 x.1.2.2.1 x.2.1.1 x.2.1.2.1 x.2.1.2.2.1 l n (i64.wrap (j+1)) z.1.1 z.1.2.1 z.1.2.2.1 z.1.2.2.2.1 z.1.2.2.2.2.1 z.1.2.2.2.2.2.1)
  (k1:=flat) (e1:=fun r=>r.elim) (k0:=flat) (e0:=fun r=>r.elim)
  (N:=n) (by omega) (q:=lf+40) (by have:=hb.1;omega) (by omega)
  (fun j s _ n i a=>by rw[dL.l1,dL.r1,ldS];simp only[yj,aan,yu,jD])
  (fun n j a=>by rw[dL.l0,dL.r0])
  (fun r n j=>r.elim) (fun a n j=>rfl) l.length (lf+40) 0 0 a (by omega) (by have:=hb.1;omega) (by simpa using h) (Int.le_refl _)
 rw[List.drop_zero]at this
 exact this
theorem ajb{l:List Sg3}{n:Int}(x u a:V33)(h:Chn n 0 l)(hn:n≤1000)(hl:l.length≤1000):
  dK.l0 lf l (l.length:Nat) x.1.1 x.1.2.1 x.1.2.2.1 x.2.1.1 x.2.1.2.1 x.2.1.2.2.1 u.1.1 u.1.2.1 u.1.2.2.1 u.2.1.1 u.2.1.2.1 u.2.1.2.2.1 false ⟨#[]⟩ ⟨#[]⟩ false ⟨#[]⟩ ⟨#[]⟩ [x,u] l x.1.1 x.1.2.1 x.1.2.2.1 x.2.1.1 x.2.1.2.1 x.2.1.2.2.1 l (lf+40) 0 a.1.1 a.1.2.1 a.1.2.2.1 a.2.1.1 a.2.1.2.1 a.2.1.2.2.1
   = contS (runE (fdS lf x u) 0 (expand l) a) (fun r=>some (Empty.elim r)) fun a'=>some (flat a'):=by
 have:=qG (S:=fdS lf x u) (l:=l) (L0:=fun n j a=>dK.l0 lf l (l.length:Nat) x.1.1 x.1.2.1 x.1.2.2.1 x.2.1.1 x.2.1.2.1 x.2.1.2.2.1 u.1.1 u.1.2.1 u.1.2.2.1 u.2.1.1 u.2.1.2.1 u.2.1.2.2.1 false ⟨#[]⟩ ⟨#[]⟩ false ⟨#[]⟩ ⟨#[]⟩ [x,u] l x.1.1 x.1.2.1 x.1.2.2.1 x.2.1.1 x.2.1.2.1 x.2.1.2.2.1 l n j a.1.1 a.1.2.1 a.1.2.2.1 a.2.1.1 a.2.1.2.1 a.2.1.2.2.1)
  (L1:=fun j y n i a=>dK.l1 lf l (l.length:Nat) j x.1.1 x.1.2.1 x.1.2.2.1 x.2.1.1 x.2.1.2.1 x.2.1.2.2.1 u.1.1 u.1.2.1 u.1.2.2.1 u.2.1.1 u.2.1.2.1 u.2.1.2.2.1 false ⟨#[]⟩ ⟨#[]⟩ false ⟨#[]⟩ ⟨#[]⟩ [x,u] l x.1.1 x.1.2.1 x.1.2.2.1 x.2.1.1 x.2.1.2.1 x.2.1.2.2.1 l y.1 y.2.1 y.2.2.1.1.1 y.2.2.1.1.2.1 y.2.2.1.1.2.2.1 y.2.2.1.2.1.1 y.2.2.1.2.1.2.1 y.2.2.1.2.1.2.2.1 n i a.1.1 a.1.2.1 a.1.2.2.1 a.2.1.1 a.2.1.2.1 a.2.1.2.2.1)
  (D:=fun z n j=>dK.l0 lf l (l.length:Nat) x.1.1 x.1.2.1 x.1.2.2.1 x.2.1.1 x.2.1.2.1 x.2.1.2.2.1 u.1.1 u.1.2.1 u.1.2.2.1 u.2.1.1 u.2.1.2.1 u.2.1.2.2.1 false ⟨#[]⟩ ⟨#[]⟩ false ⟨#[]⟩ ⟨#[]⟩ [x,u] l x.1.1 x.1.2.1 x.1.2.2.1 x.2.1.1 x.2.1.2.1 x.2.1.2.2.1 l n (i64.wrap (j+1)) z.1.1 z.1.2.1 z.1.2.2.1 z.1.2.2.2.1 z.1.2.2.2.2.1 z.1.2.2.2.2.2.1)
  (k1:=flat) (e1:=fun r=>r.elim) (k0:=flat) (e0:=fun r=>r.elim)
  (N:=n) (by omega) (q:=lf+40) (by have:=hb.1;omega) (by omega)
  (fun j s _ n i a=>by rw[dK.l1,dK.r1,fdS];simp only[yj,aan,yu,jD])
  (fun n j a=>by rw[dK.l0,dK.r0])
  (fun r n j=>r.elim) (fun a n j=>rfl) l.length (lf+40) 0 0 a (by omega) (by have:=hb.1;omega) (by simpa using h) (Int.le_refl _)
 rw[List.drop_zero]at this
 exact this
theorem alm{x v b:Vl}(hx:WfV x)(hv:WfV v)(hw:WfV b){k:Nat}(hk:k≤900):ldS lf (vc x) k (vc v) (vc b)=some (.inr (vc (if inV x k=true then joinV b v else b))):=by
 have hD:=aff
 rw[ldS,bigOf lf (by omega) (by omega),bdS,aaA lf hb hx ⟨by omega,by omega⟩,bdS,bM.f,bdS,acz lf hb hw hv,bdS,dY.f,bdS]
 cases inV x k with
 | true=>rw[brT,if_pos rfl]
 | false=>rw[brF,if_neg (by simp)]
theorem alc{x u v b:Vl}(hx:WfV x)(hu:WfV u)(hv:WfV v)(hw:WfV b){k:Nat}(hk:k≤900):fdS lf (vc x) (vc u) k (vc v) (vc b)=some (.inr (vc (if inV x k=true then(if(metV v u).a.em=true then b else joinV b (oneV k))else b))):=by
 have hD:=aff
 rw[fdS,bigOf lf (by omega) (by omega),bdS,aaA lf hb hx ⟨by omega,by omega⟩,bdS,bM.f,bdS,ahS lf hb hv hu,bdS,dY.f,bdS,show fB.f lf (vc (metV v u))=some ((metV v u).a.em,()) from rfl,bdS,oneP lf hb (by omega) (by omega),bdS,acz lf hb hw (aaN lf hb _),bdS,dY.f,bdS]
 cases inV x k with
 | true =>
  rw[brT,if_pos rfl]
  cases (metV v u).a.em with
  | true=>rw[Bool.not_true,brF,if_pos rfl]
  | false=>rw[Bool.not_false,brT,if_neg (by simp)]
 | false=>rw[brF,if_neg (by simp)]
theorem akc{vs:List Vl}(h:∀ v∈vs,WfV v∧v.a.em=false){x:Vl}(k:Nat)(b:Vl)(hk:k < vs.length)(hw:WfV b):WfV (if inV x k=true then ldG vs b k else b):=by
 split
 ·unfold ldG
  rw[sV hk]
  exact afA hw (h _ (List.getElem_mem hk)).1
 ·exact hw
theorem akb{vs:List Vl}{u:Vl}{x:Vl}(k:Nat)(b:Vl)(hk:k < vs.length)(hw:WfV b):WfV (if inV x k=true then fdG vs u b k else b):=by
 split
 ·unfold fdG
  split
  ·exact hw
  ·exact afA hw (aaN lf hb _)
 ·exact hw
theorem ajn{l:List Sg3}{n:Int}{vs:List Vl}{x:Vl}(hx:WfV x)(hR:Right l n)(hl:l.length≤1000)(v1:expand l=vs.map vc)(v2:∀ v∈vs,WfV v∧v.a.em=false)(v3:(vs.length:Int)=n):
  dL.f lf l n (vc x)=some (vc (ixF x (ldG vs) 0 vs.length Ev),0,())∧dO.f lf l n (vc x)=some (vc (ixF x (ldG vs) 0 vs.length Ev),()):=by
 have hn:=hR.n2
 have hlf:=hb.1
 have hck:=uz lf hb hR hl
 have run:=acT (S:=ldS lf (vc x)) (rep:=vc) (x:=x) (G:=ldG vs) (I:=fun _ b=>WfV b) (vs:=vs)
  (fun k hk b hw=>by rw[alm lf hb hx (v2 _ (List.getElem_mem hk)).1 hw (by omega),ldG,sV hk])
  (fun k b hk hw=>akc lf hb v2 k b hk hw) vs.length 0 Ev (by omega) Ev_V
 rw[List.drop_zero,show((0:Nat):Int)=0 from rfl]at run
 constructor
 ·rw[dL.f,af8 lf hb hck.1 (chk_wf lf hb hx).1,bdS,show(((0:Int),()).1 != 0)=false from rfl,brF,abD lf hb,bdS,ajm lf hb (n:=n) (vc x) (vc Ev) hR.rs.chn (by omega) hl,v1,run,jD,bdS]
 ·have lp:=xw (x:=x) (G:=ldG vs) (rep:=vc) (I:=fun _ b=>WfV b) (ixs:=ixL x 0 vs.length) (N:=vs.length) (kf:=flat)
   (L:=fun n j a=>dO.l0 lf l (ixL x 0 vs.length) false ⟨#[]⟩ ⟨#[]⟩ false ⟨#[]⟩ ⟨#[]⟩ n j a.1.1 a.1.2.1 a.1.2.2.1 a.2.1.1 a.2.1.2.1 a.2.1.2.2.1) (by omega) (by have:=vJ x vs.length 0;omega)
   (fun n j k b hw hj e hk=>by
    have hjl:=vJ x vs.length 0
    rw[dO.l0,dO.r0,ltd,decide_eq_true hj,brT,aaW lf hb hR.rs.chn (by omega) hl,bdS,dB _ j hj,bdS,e]
    simp only
    rw[v1,List.length_map,cu _ _ hk,bdS,List.getElem?_map,List.getElem?_eq_getElem hk,Option.map_some,bdS]
    rw[show((((vc b).1.1,(vc b).1.2.1,(vc b).1.2.2.1,()),((vc b).2.1.1,(vc b).2.1.2.1,(vc b).2.1.2.2.1,()),()):V33)=vc b from rfl,acA lf hb hw (v2 _ (List.getElem_mem hk)).1,bdS,w64 (by omega) (by omega),show(j:Int)+1=((j+1:Nat):Int) by omega,ldG,sV hk])
   (fun n a=>by rw[dO.l0,dO.r0,ltd,decide_eq_false (by omega),brF])
   (fun k b hk hw=>akc lf hb v2 k b hk hw) vs.length 0 0 (lf+40) Ev (by omega) (by omega) (by rw[List.drop_zero]) Ev_V (by omega)
  rw[show((0:Nat):Int)=0 from rfl]at lp
  rw[dO.f,afr lf,bdS,←v3,ahG lf hb hx (by omega),bdS,lp,bdS]
theorem ajc{l:List Sg3}{n:Int}{vs:List Vl}{x u:Vl}(hx:WfV x)(hu:WfV u)(hR:Right l n)(hl:l.length≤1000)(v1:expand l=vs.map vc)(v2:∀ v∈vs,WfV v∧v.a.em=false)(v3:(vs.length:Int)=n):
  dK.f lf l n (vc x) (vc u)=some (vc (ixF x (fdG vs u) 0 vs.length Ev),0,())∧dW.f lf l n (vc x) (vc u)=some (vc (ixF x (fdG vs u) 0 vs.length Ev),()):=by
 have hn:=hR.n2
 have hlf:=hb.1
 have hck:=uz lf hb hR hl
 have run:=acT (S:=fdS lf (vc x) (vc u)) (rep:=vc) (x:=x) (G:=fdG vs u) (I:=fun _ b=>WfV b) (vs:=vs)
  (fun k hk b hw=>by rw[alc lf hb hx hu (v2 _ (List.getElem_mem hk)).1 hw (by omega),fdG,sV hk])
  (fun k b hk hw=>akb lf hb k b hk hw) vs.length 0 Ev (by omega) Ev_V
 rw[List.drop_zero,show((0:Nat):Int)=0 from rfl]at run
 constructor
 ·rw[dK.f,vS lf hb hck.1 (chk_wf lf hb hx).1 (chk_wf lf hb hu).1,bdS,if_neg (by simp),show(((0:Int),()).1 != 0)=false from rfl,brF,abD lf hb,bdS,ajb lf hb (n:=n) (vc x) (vc u) (vc Ev) hR.rs.chn (by omega) hl,v1,run,jD,bdS]
 ·have lp:=xw (x:=x) (G:=fdG vs u) (rep:=vc) (I:=fun _ b=>WfV b) (ixs:=ixL x 0 vs.length) (N:=vs.length) (kf:=flat)
   (L:=fun n j a=>dW.l0 lf l (ixL x 0 vs.length) (vc u).1.1 (vc u).1.2.1 (vc u).1.2.2.1 (vc u).2.1.1 (vc u).2.1.2.1 (vc u).2.1.2.2.1 false ⟨#[]⟩ ⟨#[]⟩ false ⟨#[]⟩ ⟨#[]⟩ n j a.1.1 a.1.2.1 a.1.2.2.1 a.2.1.1 a.2.1.2.1 a.2.1.2.2.1) (by omega) (by have:=vJ x vs.length 0;omega)
   (fun n j k b hw hj e hk=>by
    have hjl:=vJ x vs.length 0
    have h3:200000≤lf:=by omega
    have hK:=K_gt
    rw[dW.l0,dW.r0,ltd,decide_eq_true hj,brT,aaW lf hb hR.rs.chn (by omega) hl,bdS,dB _ j hj,bdS,bdS,e]
    simp only
    rw[v1,List.length_map,cu _ _ hk,bdS,List.getElem?_map,List.getElem?_eq_getElem hk,Option.map_some,bdS]
    rw[show((((vc u).1.1,(vc u).1.2.1,(vc u).1.2.2.1,()),((vc u).2.1.1,(vc u).2.1.2.1,(vc u).2.1.2.2.1,()),()):V33)=vc u from rfl,akO lf hb (v2 _ (List.getElem_mem hk)).1 hu,bdS,show bJ.f lf (vc (metV vs[k] u))=some ((metV vs[k] u).a.em,()) from rfl,bdS,rZ lf h3 (by omega) (by omega),bdS,alv lf hb ⟨by omega,by omega⟩,bdS,
     show((((vc b).1.1,(vc b).1.2.1,(vc b).1.2.2.1,()),((vc b).2.1.1,(vc b).2.1.2.1,(vc b).2.1.2.2.1,()),()):V33)=vc b from rfl,acA lf hb hw (aaN lf hb _),bdS,w64 (by omega) (by omega),show(j:Int)+1=((j+1:Nat):Int) by omega,fdG,sV hk]
    cases (metV vs[k] u).a.em with
    | true=>rw[Bool.not_true,brF,if_pos rfl]
    | false=>rw[Bool.not_false,brT,if_neg (by simp)])
   (fun n a=>by rw[dW.l0,dW.r0,ltd,decide_eq_false (by omega),brF])
   (fun k b hk hw=>akb lf hb k b hk hw) vs.length 0 0 (lf+40) Ev (by omega) (by omega) (by rw[List.drop_zero]) Ev_V (by omega)
  rw[show((0:Nat):Int)=0 from rfl]at lp
  rw[dW.f,afr lf,bdS,←v3,ahG lf hb hx (by omega),bdS,lp,bdS]
theorem akK{l:List Sg3}{n:Int}{x:V33}(hl:l.length≤1000)(hs:∀ s∈l,SmV s.2.2.1)(hx:SmV x):∃ r:V33×Int×Unit,dL.f lf l n x=some r∧kL.f lf l n x=some r:=by
 obtain⟨a1,a2,a3⟩:=sJ lf hb (n:=n) hs hl
 obtain⟨c,c1,c2,c3⟩:=chkV lf hb hx
 rw[kL.f,a2,bdS,c2,bdS]
 by_cases h:ckN lf l n=0
 ·have hR:=a3.1 h
  rw[h]at a1⊢
  rw[show(((0:Int),()).1 != 0)=false from rfl,brF]
  by_cases hc:c=0
  ·obtain⟨v,rfl,hv⟩:=c3 hc
   subst hc
   obtain⟨vs,v1,v2,v3⟩:=hR.vals
   obtain⟨p,q⟩:=ajn lf hb hv hR hl v1 v2 v3
   exact⟨_,p,by rw[show(((0:Int),()).1 != 0)=false from rfl,brF,q,bdS]⟩
  ·rw[dL.f,af8 lf hb a1 c1,bdS,show((c,()).1 != 0)=true by simpa using hc,brT,brT]
   exact⟨_,rfl,rfl⟩
 ·rw[dL.f,aV.f,a1,bdS,show((ckN lf l n,()).1 != 0)=true by simpa using h,brT,brT,bdS,show((ckN lf l n,()).1 != 0)=true by simpa using h,brT]
  exact⟨_,rfl,rfl⟩
theorem akE{l:List Sg3}{n:Int}{x u:V33}(hl:l.length≤1000)(hs:∀ s∈l,SmV s.2.2.1)(hx:SmV x)(hu:SmV u):∃ r:V33×Int×Unit,dK.f lf l n x u=some r∧kK.f lf l n x u=some r:=by
 obtain⟨a1,a2,a3⟩:=sJ lf hb (n:=n) hs hl
 obtain⟨c,c1,c2,c3⟩:=chkV lf hb hx
 obtain⟨d,d1,d2,d3⟩:=chkV lf hb hu
 rw[kK.f,a2,bdS,gW.f,c2,bdS,d2,bdS]
 by_cases h:ckN lf l n=0
 ·have hR:=a3.1 h
  rw[h]at a1⊢
  rw[show(((0:Int),()).1 != 0)=false from rfl,brF]
  by_cases hc:c=0
  ·subst hc
   rw[show(((0:Int),()).1 != 0)=false from rfl,brF,bdS]
   by_cases hd:d=0
   ·obtain⟨v,rfl,hv⟩:=c3 rfl
    obtain⟨w,rfl,hw⟩:=d3 hd
    subst hd
    obtain⟨vs,v1,v2,v3⟩:=hR.vals
    obtain⟨p,q⟩:=ajc lf hb hv hw hR hl v1 v2 v3
    exact⟨_,p,by rw[show(((0:Int),()).1 != 0)=false from rfl,brF,q,bdS]⟩
   ·rw[dK.f,vS lf hb a1 c1 d1,bdS,if_neg (by simp),show((d,()).1 != 0)=true by simpa using hd,brT,brT]
    exact⟨_,rfl,rfl⟩
  ·rw[dK.f,vS lf hb a1 c1 d1,bdS,if_pos hc,show((c,()).1 != 0)=true by simpa using hc,brT,brT,bdS,show((c,()).1 != 0)=true by simpa using hc,brT]
   exact⟨_,rfl,rfl⟩
 ·rw[dK.f,aV.f,a1,bdS,show((ckN lf l n,()).1 != 0)=true by simpa using h,brT,brT,bdS,show((ckN lf l n,()).1 != 0)=true by simpa using h,brT]
  exact⟨_,rfl,rfl⟩
end
end Go.N
namespace Go.N
open Go.IntKind (i64)
open Go Go.Q Go.Rx
abbrev St3:Type:=List V33×Int×Int
noncomputable def stS (lf:Nat) (x u:V33) (i:Int) (v:V33) (a:St3):Option (Empty ⊕ St3) :=
 bd (gJ.f lf i) fun r4=>bd (gX.f lf x r4.1) fun r5=>bd (bM.f lf r5.1 r5.2.1) fun r6=>br r6.1 (bd (iM.f lf v u) fun r7=>bd (dY.f lf r7.1 r7.2.1) fun r8=>bd (idxB a.1.length i) fun j9=>bd (upE a.1 j9 fun _=>some r8.1) fun q10=>some (.inr (q10,i64.wrap (a.2.1+1),i))) (some (.inr a))
def stG(vs:List Vl)(u:Vl)(b:List Vl×Nat×Nat)(k:Nat):List Vl×Nat×Nat:=(b.1.set k (joinV (vs.getD k Ev) u),b.2.1+1,k)
def stR(b:List Vl×Nat×Nat):St3:=(b.1.map vc,(b.2.1:Int),(b.2.2:Int))
def stI(vs:List Vl)(k:Nat)(b:List Vl×Nat×Nat):Prop:=b.1.length=vs.length∧b.1.drop k=vs.drop k∧b.2.1≤k
theorem ael{vs:List Vl}{u x:Vl}(k:Nat)(b:List Vl×Nat×Nat)(hk:k < vs.length)(h:stI vs k b):stI vs (k+1) (if inV x k=true then stG vs u b k else b):=by
 obtain⟨h1,h2,h3⟩:=h
 have hd:b.1.drop (k+1)=vs.drop (k+1):=by
  have:=congrArg (List.drop 1) h2
  rwa [List.drop_drop,List.drop_drop]at this
 split
 ·refine⟨by simp[stG,h1],?_,by simp[stG];omega⟩
  simp only[stG]
  rw[List.drop_set_of_lt (by omega),hd]
 ·exact⟨h1,hd,by omega⟩
theorem abv{vs:List Vl}{u x:Vl}:∀ (d k:Nat) (b:List Vl×Nat×Nat),(ixF x (stG vs u) k d b).2.1=b.2.1+(ixL x k d).length
 | 0,k,b=>by simp[ixF,ixL]
 | d+1,k,b=>by
  rw[ixF,abv d (k+1),ixL]
  split
  ·simp[stG];omega
  ·rfl
theorem acw{vs:List Vl}{u x:Vl}:∀ (d k:Nat) (b:List Vl×Nat×Nat),(ixF x (stG vs u) k d b).1.length=b.1.length
 | 0,k,b=>rfl
 | d+1,k,b=>by
  rw[ixF,acw d (k+1)]
  split
  ·simp[stG]
  ·rfl
abbrev flat3(a:St3):(List V33×Int×Int×Unit)×Unit:=((a.1,a.2.1,a.2.2,()),())
section
variable (lf:Nat)(hb:Big lf)
include hb
theorem aiD{l:List Sg3}{n:Int}(x u:V33)(a:St3)(h:Chn n 0 l)(hn:n≤1000)(hl:l.length≤1000):
  bQ.l0 lf l (l.length:Nat) x.1.1 x.1.2.1 x.1.2.2.1 x.2.1.1 x.2.1.2.1 x.2.1.2.2.1 u.1.1 u.1.2.1 u.1.2.2.1 u.2.1.1 u.2.1.2.1 u.2.1.2.2.1 [x,u] l x.1.1 x.1.2.1 x.1.2.2.1 x.2.1.1 x.2.1.2.1 x.2.1.2.2.1 l (lf+40) 0 a.1 a.2.1 a.2.2
   = contS (runE (stS lf x u) 0 (expand l) a) (fun r=>some (Empty.elim r)) fun a'=>some (flat3 a'):=by
 have:=qG (S:=stS lf x u) (l:=l) (L0:=fun n j a=>bQ.l0 lf l (l.length:Nat) x.1.1 x.1.2.1 x.1.2.2.1 x.2.1.1 x.2.1.2.1 x.2.1.2.2.1 u.1.1 u.1.2.1 u.1.2.2.1 u.2.1.1 u.2.1.2.1 u.2.1.2.2.1 [x,u] l x.1.1 x.1.2.1 x.1.2.2.1 x.2.1.1 x.2.1.2.1 x.2.1.2.2.1 l n j a.1 a.2.1 a.2.2)
  (L1:=fun j y n i a=>bQ.l1 lf l (l.length:Nat) j x.1.1 x.1.2.1 x.1.2.2.1 x.2.1.1 x.2.1.2.1 x.2.1.2.2.1 u.1.1 u.1.2.1 u.1.2.2.1 u.2.1.1 u.2.1.2.1 u.2.1.2.2.1 [x,u] l x.1.1 x.1.2.1 x.1.2.2.1 x.2.1.1 x.2.1.2.1 x.2.1.2.2.1 l y.1 y.2.1 y.2.2.1.1.1 y.2.2.1.1.2.1 y.2.2.1.1.2.2.1 y.2.2.1.2.1.1 y.2.2.1.2.1.2.1 y.2.2.1.2.1.2.2.1 n i a.1 a.2.1 a.2.2)
  (D:=fun z n j=>bQ.l0 lf l (l.length:Nat) x.1.1 x.1.2.1 x.1.2.2.1 x.2.1.1 x.2.1.2.1 x.2.1.2.2.1 u.1.1 u.1.2.1 u.1.2.2.1 u.2.1.1 u.2.1.2.1 u.2.1.2.2.1 [x,u] l x.1.1 x.1.2.1 x.1.2.2.1 x.2.1.1 x.2.1.2.1 x.2.1.2.2.1 l n (i64.wrap (j+1)) z.1.1 z.1.2.1 z.1.2.2.1)
  (k1:=flat3) (e1:=fun r=>r.elim) (k0:=flat3) (e0:=fun r=>r.elim)
  (N:=n) (by omega) (q:=lf+40) (by have:=hb.1;omega) (by omega)
  (fun j s _ n i a=>by rw[bQ.l1,bQ.r1,stS];simp only[yj,aan,yu,jD])
  (fun n j a=>by rw[bQ.l0,bQ.r0])
  (fun r n j=>r.elim) (fun a n j=>rfl) l.length (lf+40) 0 0 a (by omega) (by have:=hb.1;omega) (by simpa using h) (Int.le_refl _)
 rw[List.drop_zero]at this
 exact this
theorem aiE{l:List Sg3}{n:Int}{vs:List Vl}{x u:Vl}(hx:WfV x)(hu:WfV u)(hR:Right l n)(hl:l.length≤1000)(v1:expand l=vs.map vc)(v2:∀ v∈vs,WfV v∧v.a.em=false)(v3:(vs.length:Int)=n):
  ∃ r:List Sg3×Bool×Unit,bQ.f lf l n (vc x) (vc u)=some (r.1,r.2.1,0,())∧bn.f lf l n (vc x) (vc u)=some r∧
   r=(if(ixL x 0 vs.length).length=0∨u.a.em=true then([],false,())else(ofL 0 ((if(ixL x 0 vs.length).length=1 then vs.set ((ixL x 0 vs.length).headD 0).toNat u else(ixF x (stG vs u) 0 vs.length (vs,0,0)).1).map vc) [],true,())):=by
 have hn:=hR.n2
 have hlf:=hb.1
 have hck:=uz lf hb hR hl
 have hD:=aff
 have hI0:stI vs 0 (vs,0,0):=⟨rfl,rfl,Nat.le_refl _⟩
 have hxl:=vJ x vs.length 0
 have run:=acT (S:=stS lf (vc x) (vc u)) (rep:=stR) (x:=x) (G:=stG vs u) (I:=stI vs) (vs:=vs)
  (fun k hk b hw=>by
   obtain⟨w1,w2,w3⟩:=hw
   rw[stS,bigOf lf (by omega) (by omega),bdS,aaA lf hb hx ⟨by omega,by omega⟩,bdS,bM.f,bdS,acz lf hb (v2 _ (List.getElem_mem hk)).1 hu,bdS,dY.f,bdS]
   rw[show(stR b).1.length=b.1.length from List.length_map ..,cu _ _ (by omega),bdS,jW _ _ _ (by rw[show(stR b).1.length=b.1.length from List.length_map ..];omega),bdS]
   cases inV x k with
   | true =>
    rw[brT,if_pos rfl]
    simp only[stR,stG,List.map_set,sV hk]
    rw[w64 (by omega) (by omega)]
    rfl
   | false=>rw[brF,if_neg (by simp)])
  (fun k b hk hw=>ael k b hk hw) vs.length 0 (vs,0,0) (by omega) hI0
 rw[List.drop_zero,show((0:Nat):Int)=0 from rfl]at run
 have e0:bQ.l0 lf l (l.length:Nat) (vc x).1.1 (vc x).1.2.1 (vc x).1.2.2.1 (vc x).2.1.1 (vc x).2.1.2.1 (vc x).2.1.2.2.1 (vc u).1.1 (vc u).1.2.1 (vc u).1.2.2.1 (vc u).2.1.1 (vc u).2.1.2.1 (vc u).2.1.2.2.1 [vc x,vc u] l (vc x).1.1 (vc x).1.2.1 (vc x).1.2.2.1 (vc x).2.1.1 (vc x).2.1.2.1 (vc x).2.1.2.2.1 l (lf+40) 0 (vs.map vc) 0 0=some (flat3 (stR (ixF x (stG vs u) 0 vs.length (vs,0,0)))):=by
  have:=aiD lf hb (n:=n) (vc x) (vc u) (stR (vs,0,0)) hR.rs.chn (by omega) hl
  rw[v1,run,jD]at this
  exact this
 have hcnt:=abv (vs:=vs) (u:=u) (x:=x) vs.length 0 (vs,0,0)
 rw[Nat.zero_add]at hcnt
 have hlen:=acw (vs:=vs) (u:=u) (x:=x) vs.length 0 (vs,0,0)
 have hone:=afz (x:=x) (G:=stG vs u) vs.length 0
 have hnil:=acy (x:=x) (G:=stG vs u) vs.length 0
 have hlp:(ixL x 0 vs.length).length≠1→bn.l0 lf (ixL x 0 vs.length) (vc u).1.1 (vc u).1.2.1 (vc u).1.2.2.1 (vc u).2.1.1 (vc u).2.1.2.1 (vc u).2.1.2.2.1 (lf+40) 0 (vs.map vc)=some (((ixF x (stG vs u) 0 vs.length (vs,0,0)).1.map vc,()),()):=fun h1=>by
  have lp:=xw (x:=x) (G:=stG vs u) (rep:=fun b=>b.1.map vc) (I:=stI vs) (ixs:=ixL x 0 vs.length) (N:=vs.length) (kf:=fun a:List V33=>((a,()),()))
   (L:=fun n j a=>bn.l0 lf (ixL x 0 vs.length) (vc u).1.1 (vc u).1.2.1 (vc u).1.2.2.1 (vc u).2.1.1 (vc u).2.1.2.1 (vc u).2.1.2.2.1 n j a) (by omega) (by omega)
   (fun n j k b hw hj e hk=>by
    obtain⟨w1,w2,w3⟩:=hw
    have hbk:b.1[k]? = some vs[k]:=by
     have:=congrArg (fun l=>l[0]?) w2
     simp only[List.getElem?_drop,Nat.add_zero]at this
     rw[this,List.getElem?_eq_getElem hk]
    rw[bn.l0,bn.r0,ltd,decide_eq_true hj,brT,show((((ixL x 0 vs.length).length:Nat):Int)==1)=false by simp;omega,brF,dB _ j hj,bdS,bdS,e]
    rw[List.length_map,cu _ _ (by omega),bdS,List.getElem?_map,hbk,Option.map_some,bdS]
    rw[show((((vc u).1.1,(vc u).1.2.1,(vc u).1.2.2.1,()),((vc u).2.1.1,(vc u).2.1.2.1,(vc u).2.1.2.2.1,()),()):V33)=vc u from rfl,acA lf hb (v2 _ (List.getElem_mem hk)).1 hu,bdS,bdS,jW _ _ _ (by rw[List.length_map];omega),bdS,w64 (by omega) (by omega),show(j:Int)+1=((j+1:Nat):Int) by omega,stG,sV hk,List.map_set])
   (fun n a=>by rw[bn.l0,bn.r0,ltd,decide_eq_false (by omega),brF])
   (fun k b hk hw=>ael k b hk hw) vs.length 0 0 (lf+40) (vs,0,0) (by omega) (by omega) (by rw[List.drop_zero]) hI0 (by omega)
  exact lp
 rw[bQ.f,vS lf hb hck.1 (chk_wf lf hb hx).1 (chk_wf lf hb hu).1,bdS,if_neg (by simp),show(((0:Int),()).1 != 0)=false from rfl,brF,aiR lf hb hR.rs.chn (by omega) hl,bdS,v1,e0,bdS]
 rw[bn.f,←v3,ahG lf hb hx (by omega),bdS,show bJ.f lf (vc u)=some (u.a.em,()) from rfl,show fB.f lf (vc u)=some (u.a.em,()) from rfl,bdS,bdS]
 simp only[flat3,stR,hcnt]
 by_cases h0:(ixL x 0 vs.length).length=0
 ·rw[show((((ixL x 0 vs.length).length:Nat):Int)==0)=true by simp[h0],brT,brT,if_pos (.inl h0)]
  exact⟨_,rfl,rfl,rfl⟩
 rw[show((((ixL x 0 vs.length).length:Nat):Int)==0)=false by simp;intro h;rw[h]at h0;exact h0 rfl,brF,brF]
 cases hem:u.a.em with
 | true=>rw[brT,brT,if_pos (.inr rfl)];exact⟨_,rfl,rfl,rfl⟩
 | false =>
  rw[brF,brF,if_neg (by simp;intro h;rw[h]at h0;exact h0 rfl),aaW lf hb hR.rs.chn (by omega) hl,bdS,v1]
  by_cases h1:(ixL x 0 vs.length).length=1
  ·obtain⟨i,i1,i2,i3,i4⟩:=hone h1
   have hi:i < vs.length:=by omega
   have hset:((stG vs u (vs,0,0) i).1.map vc).set i (vc u)=(vs.set i u).map vc:=by
    simp only[stG,List.map_set,List.set_set]
   rw[i4,i3,show(((([(i:Int)]:List Int).length:Nat):Int)==1)=true from rfl,brT,if_pos (show([(i:Int)]:List Int).length=1 from rfl)]
   simp only[List.headD_cons,Int.toNat_natCast]
   rw[show(stG vs u (vs,0,0) i).2.2=i from rfl,List.length_map,show(stG vs u (vs,0,0) i).1.length=vs.length by simp[stG],cu _ _ hi,bdS,jW _ _ _ (by simp[stG];exact hi),bdS,hset,of_p lf hb (by simp;omega),bdS]
   rw[show lf+40=lf+38+1+1 from rfl,bn.l0,bn.r0,show decide ((0:Int) < (([(i:Int)].length:Nat):Int))=true from rfl,brT,show(((([(i:Int)]:List Int).length:Nat):Int)==1)=true from rfl,brT,show idxL [(i:Int)] 0=some (i:Int) from rfl,bdS,List.length_map,cu _ _ hi,bdS,
    show((((vc u).1.1,(vc u).1.2.1,(vc u).1.2.2.1,()),((vc u).2.1.1,(vc u).2.1.2.1,(vc u).2.1.2.2.1,()),()):V33)=vc u from rfl,jW _ _ _ (by simp;exact hi),bdS,bn.l0,bn.r0,show decide (i64.wrap (0+1) < (([(i:Int)].length:Nat):Int))=false from rfl,brF,bdS,←List.map_set,of_r lf hb (by simp;omega),bdS]
   exact⟨_,rfl,rfl,rfl⟩
  ·rw[show((((ixL x 0 vs.length).length:Nat):Int)==1)=false by simp;omega,brF,if_neg h1,hlp h1,bdS,of_p lf hb (by rw[List.length_map,hlen];simp;omega),of_r lf hb (by rw[List.length_map,hlen];simp;omega),bdS,bdS]
   exact⟨_,rfl,rfl,rfl⟩
theorem ajO{l:List Sg3}{n:Int}{x u:V33}(hl:l.length≤1000)(hs:∀ s∈l,SmV s.2.2.1)(hx:SmV x)(hu:SmV u):∃ r:List Sg3×Bool×Int×Unit,bQ.f lf l n x u=some r∧jU.f lf l n x u=some r∧r.1.length≤1000:=by
 obtain⟨a1,a2,a3⟩:=sJ lf hb (n:=n) hs hl
 obtain⟨c,c1,c2,c3⟩:=chkV lf hb hx
 obtain⟨d,d1,d2,d3⟩:=chkV lf hb hu
 rw[jU.f,a2,bdS,gW.f,c2,bdS,d2,bdS]
 by_cases h:ckN lf l n=0
 ·have hR:=a3.1 h
  rw[h]at a1⊢
  rw[show(((0:Int),()).1 != 0)=false from rfl,brF]
  by_cases hc:c=0
  ·subst hc
   rw[show(((0:Int),()).1 != 0)=false from rfl,brF,bdS]
   by_cases hd:d=0
   ·obtain⟨v,rfl,hv⟩:=c3 rfl
    obtain⟨w,rfl,hw⟩:=d3 hd
    subst hd
    obtain⟨vs,v1,v2,v3⟩:=hR.vals
    obtain⟨r,p,q,e⟩:=aiE lf hb hv hw hR hl v1 v2 v3
    refine⟨_,p,by rw[show(((0:Int),()).1 != 0)=false from rfl,brF,q,bdS],?_⟩
    have hn:=hR.n2
    rw[e]
    split
    ·simp
    ·refine Nat.le_trans (afL _ _ _) ?_
     simp only[List.length_map,List.length_nil]
     split
     ·simp;omega
     ·rw[acw];simp;omega
   ·rw[bQ.f,vS lf hb a1 c1 d1,bdS,if_neg (by simp),show((d,()).1 != 0)=true by simpa using hd,brT,brT]
    exact⟨_,rfl,rfl,by simp⟩
  ·rw[bQ.f,vS lf hb a1 c1 d1,bdS,if_pos hc,show((c,()).1 != 0)=true by simpa using hc,brT,brT,bdS,show((c,()).1 != 0)=true by simpa using hc,brT]
   exact⟨_,rfl,rfl,by simp⟩
 ·rw[bQ.f,aV.f,a1,bdS,show((ckN lf l n,()).1 != 0)=true by simpa using h,brT,brT,bdS,show((ckN lf l n,()).1 != 0)=true by simpa using h,brT]
  exact⟨_,rfl,rfl,by simp⟩
end
end Go.N
namespace Go.N
open Go Go.Q
theorem aiZ(lf:Nat):iY.f lf=some (true,()):=by kernel_rfl
end Go.N
namespace Go.Q
open Go Go.RowKit Go.ChangeShapes Go.WideShapes
def flat:Ty→Bool
 | .sl _=>false
 | .pair a b=>flat a&&flat b
 | _=>true
def partsOf(P:Program)(t:TypeId):List (TypeId×Nat):=match P.underlying t with
 | some (.struct fs)=>fs.toList.map fun f=>(f.type,f.offset)
 | some (.array n e)=>(List.range n).map fun i=>(e,i*P.cellsOf e)
 | _=>[]
mutual
def fitT(P:Program):Ty→TypeId→Bool
 | .int k,t=>match P.underlying t with
  | some (.int k')=>decide (k'=k)
  | _=>false
 | .bool,t=>match P.underlying t with
  | some .bool=>true
  | _=>false
 | .str,t=>match P.underlying t with
  | some .string=>true
  | _=>false
 | .unit,_=>false
 | .nul,_=>false
 | .pair a b,t=>match partsOf P t with
  | p::r=>p.2==0&&(fitT P a p.1&&(P.cellsOf p.1==a.n&&(fitL P b r a.n&&P.cellsOf t==a.n+b.n)))
  | []=>false
 | .sl e,t=>match P.underlying t with
  | some (.slice e')=>fitT P e e'&&(flat e&&P.cellsOf e'==e.n)
  | _=>false
def fitL(P:Program):Ty→List (TypeId×Nat)→Nat→Bool
 | .unit,l,_=>match l with
  | []=>true
  | _=>false
 | .pair a b,l,k=>match l with
  | p::r=>p.2==k&&(fitT P a p.1&&(P.cellsOf p.1==a.n&&fitL P b r (k+a.n)))
  | []=>false
 | _,_,_=>false
end
def Bnd:(T:Ty)→T.α→Prop
 | .int k,x=>k.min≤x∧x≤k.max
 | .str,x=>x.size≤9223372036854775807
 | .pair a b,x=>Bnd a x.1∧Bnd b x.2
 | .sl e,l=>l.length≤9223372036854775807∧∀ y∈l,Bnd e y
 | _,_=>True
def Bnds:(ps:List Ty)→Tys ps→Prop
 | [],_=>True
 | t::ts,x=>Bnd t x.1∧Bnds ts x.2
section
variable {H:Type}{enc:TypeId×Value→H}{P:Program}{w:World}{F:Nat→Prop}{sp:Nat→Bool}{held:Bool}
theorem ae9{t:TypeId}{fuel:Nat}{cs:List Value}{x:DataW H×List MemPlace}(hp:partsOf P t≠[])(h:DataW.trod enc P w 0 sp held fuel t cs=some x):
  cs.length=P.cellsOf t∧∃ n,∀ p∈partsOf P t,∃ y,DataW.trod enc P w 0 sp held n p.1 ((cs.drop p.2).take (P.cellsOf p.1))=some y:=by
 unfold partsOf at hp⊢
 split at hp
 ·rename_i fs hu
  obtain⟨xs,n,_,_,hl,hxl,hf⟩:=DataW.trod_struct hu h
  refine⟨hl,n,fun p hm=>?_⟩
  simp only[List.mem_map]at hm
  obtain⟨f,hfm,rfl⟩:=hm
  obtain⟨i,hi,he⟩:=List.mem_iff_getElem.1 hfm
  have h1:fs[i]? = some f:=by
   have:fs.toList[i]? = some f:=by rw[List.getElem?_eq_getElem hi,he]
   simpa using this
  have h2:i < xs.length:=by
   rw[hxl];simpa using hi
  exact⟨xs[i],by rw[hf i f h1,List.getElem?_eq_getElem h2]⟩
 ·rename_i n e hu
  obtain⟨xs,m,_,_,hl,hxl,hf⟩:=DataW.trod_array hu h
  refine⟨hl,m,fun p hm=>?_⟩
  simp only[List.mem_map,List.mem_range]at hm
  obtain⟨i,hi,rfl⟩:=hm
  exact⟨xs[i],by rw[hf i hi,List.getElem?_eq_getElem (by omega)]⟩
 ·exact absurd rfl hp
mutual
theorem sN:∀ (T:Ty) (t:TypeId) (cs:List Value) (x:DataW H×List MemPlace) (fuel:Nat),flat T=true→fitT P T t=true→DataW.trod enc P w 0 sp held fuel t cs=some x→∃ y:T.α,DR F w T y cs∧Bnd T y
 | .int k,t,cs,x,fuel,_,hf,h=>by
  unfold fitT at hf
  split at hf
  ·rename_i k' hu
   obtain rfl:k'=k:=by simpa using hf
   obtain⟨n,rfl,_,hw⟩:=DataW.trod_int hu h
   exact⟨n,rfl,by simpa [Lit.wf,Bnd]using hw⟩
  ·cases hf
 | .bool,t,cs,x,fuel,_,hf,h=>by
  unfold fitT at hf
  split at hf
  ·rename_i hu
   obtain⟨b,rfl,_⟩:=DataW.trod_bool hu h
   exact⟨b,rfl,trivial⟩
  ·cases hf
 | .str,t,cs,x,fuel,_,hf,h=>by
  unfold fitT at hf
  split at hf
  ·rename_i hu
   obtain⟨s,rfl,_,hs⟩:=DataW.trod_string hu h
   exact⟨s,rfl,by simpa [maxLen,Bnd]using hs⟩
  ·cases hf
 | .unit,t,cs,x,fuel,_,hf,h=>by simp[fitT]at hf
 | .nul,t,cs,x,fuel,_,hf,h=>by simp[fitT]at hf
 | .sl e,t,cs,x,fuel,hfl,_,_=>by simp[flat]at hfl
 | .pair a b,t,cs,x,fuel,hfl,hf,h=>by
  unfold fitT at hf
  split at hf
  ·rename_i p r hp
   simp only[Bool.and_eq_true,beq_iff_eq]at hf
   obtain⟨h0,h1,h2,h3,h4⟩:=hf
   simp only[flat,Bool.and_eq_true]at hfl
   obtain⟨hl,n,hm⟩:=ae9 (by rw[hp];simp) h
   rw[hp]at hm
   obtain⟨y0,hy0⟩:=hm p (by simp)
   rw[h0,h2]at hy0
   obtain⟨u,d1,b1⟩:=sN a p.1 _ _ n hfl.1 h1 hy0
   obtain⟨v,d2,b2⟩:=adC b r a.n cs n hfl.2 h3 (fun q hq=>hm q (by simp[hq])) (by omega)
   refine⟨(u,v),⟨_,_,?_,d1,d2⟩,b1,b2⟩
   have e:(cs.drop a.n).take b.n=cs.drop a.n:=List.take_of_length_le (by rw[List.length_drop];omega)
   rw[e];simp
  ·cases hf
theorem adC:∀ (T:Ty) (l:List (TypeId×Nat)) (k:Nat) (cs:List Value) (n:Nat),flat T=true→fitL P T l k=true→(∀ p∈l,∃ y,DataW.trod enc P w 0 sp held n p.1 ((cs.drop p.2).take (P.cellsOf p.1))=some y)→k+T.n≤cs.length→∃ y:T.α,DR F w T y ((cs.drop k).take T.n)∧Bnd T y
 | .int k',l,k,cs,n,_,hf,_,_=>by simp[fitL]at hf
 | .bool,l,k,cs,n,_,hf,_,_=>by simp[fitL]at hf
 | .str,l,k,cs,n,_,hf,_,_=>by simp[fitL]at hf
 | .nul,l,k,cs,n,_,hf,_,_=>by simp[fitL]at hf
 | .sl _,l,k,cs,n,_,hf,_,_=>by simp[fitL]at hf
 | .unit,l,k,cs,n,_,hf,_,_=>⟨(),by simp[DR,Ty.n],trivial⟩
 | .pair a b,l,k,cs,n,hfl,hf,hm,hk=>by
  unfold fitL at hf
  split at hf
  ·rename_i p r
   simp only[Bool.and_eq_true,beq_iff_eq]at hf
   obtain⟨h0,h1,h2,h3⟩:=hf
   simp only[flat,Bool.and_eq_true]at hfl
   simp only[Ty.n]at hk
   obtain⟨y0,hy0⟩:=hm p (by simp)
   rw[h0,h2]at hy0
   obtain⟨u,d1,b1⟩:=sN a p.1 _ _ n hfl.1 h1 hy0
   obtain⟨v,d2,b2⟩:=adC b r (k+a.n) cs n hfl.2 h3 (fun q hq=>hm q (by simp[hq])) (by omega)
   refine⟨(u,v),⟨_,_,?_,d1,d2⟩,b1,b2⟩
   simp only[Ty.n]
   rw[List.take_add,List.drop_drop]
  ·cases hf
end
theorem afD{α:Type}{R:Nat→α→Prop}:∀ (n:Nat),(∀ i,i < n→∃ y,R i y)→∃ l:List α,l.length=n∧∀ (i:Nat) (y:α),l[i]? = some y→R i y
 | 0,_=>⟨[],rfl,fun i y h=>by simp at h⟩
 | n+1,h=>by
  obtain⟨l,hl,hr⟩:=afD n fun i hi=>h i (by omega)
  obtain⟨y,hy⟩:=h n (by omega)
  refine⟨l++[y],by simp[hl],fun i z hz=>?_⟩
  by_cases hi:i < l.length
  ·rw[List.getElem?_append_left hi]at hz;exact hr i z hz
  ·rw[List.getElem?_append_right (by omega)]at hz
   have:i=l.length:=by
    by_cases e:i-l.length=0
    ·omega
    ·obtain⟨q,hq⟩:=Nat.exists_eq_succ_of_ne_zero e
     rw[hq]at hz;simp at hz
   subst this
   simp only[Nat.sub_self,List.getElem?_cons_zero,Option.some.injEq]at hz
   subst hz;rw[hl];exact hy
def topOK:Ty→Bool
 | .sl e=>flat e
 | T=>flat T
theorem adl(b o n:Nat):(Addr.add ⟨b,o,none⟩ n)=⟨b,o+n,none⟩:=by
 unfold Addr.add;split
 ·rename_i h;rw[h];rfl
 ·rfl
theorem agN{i:Nat}{q:TypeId×Nat}(h:w.shape? i=some q):IsC w i:=by
 unfold World.shape? at h
 unfold IsC
 cases hb:w.heap[i]? with
 | none=>rw[hb]at h;simp at h
 | some o=>cases o<;>rw[hb]at h<;>simp_all
theorem ada{T:Ty}{t:TypeId}{v:Value}{d:DataW H}{p:List MemPlace}{base:Nat}(ht:topOK T=true)(hf:fitT P T t=true)(hv:Value.okWide P w .any base t v)(h:DataW.Trod enc P w 0 sp held t v d p):∃ y:T.α,ValR (IsC w) w T y v∧Bnd T y:=by
 obtain⟨fuel,h⟩:=h
 unfold ValR
 cases T with
 | int k =>
  obtain⟨y,h1,h2⟩:=sN (F:=IsC w) (.int k) t _ _ fuel rfl hf h
  unfold fitT at hf
  split at hf
  ·rename_i k' hu
   obtain⟨n,rfl⟩:=okWide_int hu hv
   exact⟨y,by rw[if_neg (by simp[isSt])];simpa [Value.cells]using h1,h2⟩
  ·cases hf
 | bool =>
  obtain⟨y,h1,h2⟩:=sN (F:=IsC w) .bool t _ _ fuel rfl hf h
  unfold fitT at hf
  split at hf
  ·rename_i hu
   obtain⟨n,rfl⟩:=okWide_bool hu hv
   exact⟨y,by rw[if_neg (by simp[isSt])];simpa [Value.cells]using h1,h2⟩
  ·cases hf
 | str =>
  obtain⟨y,h1,h2⟩:=sN (F:=IsC w) .str t _ _ fuel rfl hf h
  unfold fitT at hf
  split at hf
  ·rename_i hu
   obtain⟨n,rfl⟩:=okWide_string hu hv
   exact⟨y,by rw[if_neg (by simp[isSt])];simpa [Value.cells]using h1,h2⟩
  ·cases hf
 | unit=>simp[fitT]at hf
 | nul=>simp[fitT]at hf
 | pair a b =>
  obtain⟨y,h1,h2⟩:=sN (F:=IsC w) (.pair a b) t _ _ fuel ht hf h
  obtain⟨cs,rfl⟩:∃ cs,v=.agg cs:=by
   unfold fitT at hf
   split at hf
   ·rename_i q r hp
    unfold partsOf at hp
    unfold Value.okWide at hv
    split at hp
    ·rename_i fs hu
     rw[hu]at hv
     obtain⟨cs,e,_⟩:=hv
     exact⟨cs,e⟩
    ·rename_i n e hu
     rw[hu]at hv
     obtain⟨cs,e,_⟩:=hv
     exact⟨cs,e⟩
    ·cases hp
   ·cases hf
  exact⟨y,by rw[if_pos (show isSt (.pair a b)=true from rfl)];exact⟨cs.toList,by simp,h1⟩,h2⟩
 | sl e =>
  unfold fitT at hf
  split at hf
  ·rename_i e' hu
   simp only[Bool.and_eq_true,beq_iff_eq]at hf
   obtain⟨h1,h2,h3⟩:=hf
   obtain⟨a,len,cap,rfl⟩:=okWide_slice hu hv
   rcases DataW.trod_slice hu h with⟨hc,_⟩ | ⟨a',len',cap',elems,rest,n,_,hc,_,_,hle,hcm,hel,hread,_⟩
   ·simp only[Value.cells,List.cons.injEq,Value.slice.injEq,and_true]at hc
    obtain⟨rfl,rfl,rfl⟩:=hc
    exact⟨[],by rw[if_neg (by simp[isSt])];exact⟨_,rfl,.inl ⟨rfl,rfl⟩⟩,by simp[Bnd]⟩
   ·simp only[Value.cells,List.cons.injEq,Value.slice.injEq,and_true]at hc
    obtain⟨rfl,rfl,rfl⟩:=hc
    have hhas:w.has P .any base a' e' cap:=by
     unfold Value.okWide Cell.okWide Cell.ok at hv
     rw[hu]at hv
     exact hv.2.2
    obtain⟨_,hspot,row,cells,hsh,_⟩:=hhas
    obtain⟨b,o,s⟩:=a'
    simp only at hspot;subst hspot
    have hisc:IsC w b:=agN hsh
    obtain⟨l,hl,hr⟩:=afD (α:=e.α) (R:=fun i y=>(∃ ds:List Value,DR (IsC w) w e y ds∧∀ (j:Nat) (d:Value),ds[j]? = some d→w.cell? ⟨b,o+(i*e.n+j),none⟩=some d)∧Bnd e y) len fun i hi=>by
     have hq:=hread i hi
     rw[List.getElem?_eq_getElem (by omega),Option.bind_eq_some_iff]at hq
     obtain⟨cs,c1,c2⟩:=hq
     obtain⟨y,k1,k2⟩:=sN (F:=IsC w) e e' cs _ n h2 h1 c2
     refine⟨y,⟨cs,k1,fun j d' hd=>?_⟩,k2⟩
     obtain⟨_,m1,m2⟩:=World.cells?_some c1
     have hj:j < cs.length:=(List.getElem?_eq_some_iff.1 hd).1
     have:=m2 j (by omega)
     rw[adl,adl,h3]at this
     rw[←Nat.add_assoc,this];exact hd
    refine⟨l,?_,?_,?_⟩
    ·rw[if_neg (by simp[isSt])]
     refine⟨_,rfl,.inr ⟨b,o,cap,by rw[hl],hisc,by omega,fun i x hx=>(hr i x hx).1⟩⟩
    ·rw[hl];simp only[maxLen]at hcm;omega
    ·intro y hy
     obtain⟨i,hi,he⟩:=List.mem_iff_getElem.1 hy
     exact(hr i y (by rw[List.getElem?_eq_getElem hi,he])).2
  ·cases hf
def fitAll(P:Program):List Ty→List TypeId→Bool
 | [],[]=>true
 | T::Ts,t::ts=>(topOK T&&fitT P T t)&&fitAll P Ts ts
 | _,_=>false
theorem vZ:∀ {Ts:List Ty} {ts:List TypeId} {vs:List Value} {ds:List (DataW H)} {p:List MemPlace} {base:Nat},fitAll P Ts ts=true→(∀ (j:Nat) t v,ts[j]? = some t→vs[j]? = some v→Value.okWide P w .any base t v)→
  DataW.TrodAll enc P w 0 sp held ts vs ds p→∃ x:Tys Ts,ArgsR (IsC w) w Ts x vs∧Bnds Ts x
 | [],[],vs,ds,p,base,_,_,h=>by
  cases vs with
  | nil=>exact⟨(),rfl,trivial⟩
  | cons _ _=>cases ds<;>exact absurd h (by simp[DataW.TrodAll])
 | [],_::_,vs,ds,p,base,hf,_,h=>by simp[fitAll]at hf
 | _::_,[],vs,ds,p,base,hf,_,h=>by simp[fitAll]at hf
 | T::Ts,t::ts,vs,ds,p,base,hf,hv,h=>by
  simp only[fitAll,Bool.and_eq_true]at hf
  cases vs with
  | nil=>cases ds<;>exact absurd h (by simp[DataW.TrodAll])
  | cons v vs =>
   cases ds with
   | nil=>exact absurd h (by simp[DataW.TrodAll])
   | cons d ds =>
    obtain⟨p1,p2,h1,h2,_⟩:=h
    obtain⟨y,k1,k2⟩:=ada hf.1.1 hf.1.2 (hv 0 t v rfl rfl) h1
    obtain⟨x,m1,m2⟩:=vZ hf.2 (fun j t' v' a b=>hv (j+1) t' v' (by simpa using a) (by simpa using b)) h2
    exact⟨(y,x),⟨v,vs,rfl,k1,m1⟩,k2,m2⟩
theorem wz{W W':World}(hl:laidOutB P=true)(hb:Below W.heap.size W W'):∀ {ts:List TypeId} {vs:List Value} {ds:List (DataW H)} {p:List MemPlace},(ts.all fun t=>P.readableRec t&&decide (t < P.types.size))=true→
  DataW.TrodAll enc P W 0 (fun _=>true) true ts vs ds p→DataW.TrodAll enc P W' 0 (fun b=>decide (b < W.heap.size)) true ts vs ds p
 | [],vs,ds,p,_,h=>by cases vs<;>cases ds<;>simp_all [DataW.TrodAll]
 | t::ts,vs,ds,p,ha,h=>by
  cases vs with
  | nil=>cases ds<;>exact absurd h (by simp[DataW.TrodAll])
  | cons v vs =>
   cases ds with
   | nil=>exact absurd h (by simp[DataW.TrodAll])
   | cons d ds =>
    simp only[List.all_cons,Bool.and_eq_true,decide_eq_true_eq]at ha
    obtain⟨p1,p2,h1,h2,rfl⟩:=h
    have hlt:∀ x∈p1,x.block < W.heap.size:=by
     obtain⟨m,hm⟩:=h1
     exact DataW.trod_lt m _ _ _ hm
    exact⟨p1,p2,Below.trod hl ha.1.1 ha.1.2 h1 hb hlt,wz hl hb ha.2 h2,rfl⟩
theorem aen{ts:List TypeId}:∀ {vs:List Value} {ds:List (DataW H)} {p:List MemPlace},DataW.TrodAll enc P w 0 sp held ts vs ds p→ds.length=ts.length:=by
 induction ts with
 | nil=>intro vs ds p h;cases vs<;>cases ds<;>simp_all [DataW.TrodAll]
 | cons t ts ih =>
  intro vs ds p h
  cases vs with
  | nil=>cases ds<;>exact absurd h (by simp[DataW.TrodAll])
  | cons v vs =>
   cases ds with
   | nil=>exact absurd h (by simp[DataW.TrodAll])
   | cons d ds=>obtain⟨_,_,_,h2,_⟩:=h;simp[ih h2]
end
section
variable {H:Type}{enc:TypeId×Value→H}
theorem ahL(hl:laidOutB Proofs.Tryz.prog=true){n:FuncId}{fn:Func}{s:ChangeSpec}{Ts:List Ty}{f:Nat→Tys Ts→Option (Bool×Unit)}(hE:∀ lf,mP Proofs.Tryz.prog TabG n ⟨Ts,[.bool],f lf⟩)
  (hf:fitAll Proofs.Tryz.prog Ts fn.params.toList=true) (hrd:(fn.params.toList.all fun t=>Proofs.Tryz.prog.readableRec t&&decide (t < Proofs.Tryz.prog.types.size))=true)
  {rt:TypeId} (hrt:fn.resultTypes=#[rt]) (hub:Proofs.Tryz.prog.underlying rt=some .bool) (hsv:s.vars=[])
  (hs:∀ ds:List (DataW H),ds.length=fn.params.toList.length→s.fn H ds={ results:=[.lit (.bool true)],args:=ds })
  (hpure:∀ x:Tys Ts,Bnds Ts x→∃ lf,f lf x=some (true,()))
  {W:World} {base:Nat} {args:Array Value} {ds gs:List (DataW H)} {before:List MemPlace} {apart fresh handsOn:Bool}
  (hval:∀ (j:Nat) t v,fn.params[j]? = some t→args[j]? = some v→Value.okWide Proofs.Tryz.prog W .any base t v)
  (hW:DataW.Whole enc Proofs.Tryz.prog fn.params.toList s.vars apart W args.toList ds gs before) (hG:TabG W) :
  Calls Proofs.Tryz.prog n args W fun e W'=>∃ v,e=.returned v∧s.post enc Proofs.Tryz.prog fn apart fresh handsOn false W args v W':=by
 have hW':=hW
 obtain⟨p,q,hA,hV,rfl,_,_⟩:=hW
 rw[hsv]at hV
 obtain⟨rfl,rfl⟩:=trodVars_none hV
 have hv':∀ (j:Nat) (t:TypeId) (v:Value),fn.params.toList[j]? = some t→args.toList[j]? = some v→Value.okWide Proofs.Tryz.prog W .any base t v:=by
  intro j t v a b
  rw[Array.getElem?_toList]at a b
  exact hval j t v a b
 obtain⟨x,k1,k2⟩:=vZ hf hv' hA
 obtain⟨lf,hlf⟩:=hpure x k2
 have hlen:=aen hA
 have h:=hE lf x (true,()) hlf (IsC W) W args.toList hG (fun i hi=>hi) k1
 rw[Array.toArray_toList]at h
 refine h.mono ?_
 rintro e W' ⟨v,rfl,hb,hr⟩
 obtain⟨vs,⟨u,r,rfl,h1,h2⟩,rfl⟩:=hr
 obtain rfl:r=[]:=h2
 have hu:u=.bool true:=by
  unfold ValR at h1
  rw[if_neg (by simp[isSt])]at h1
  simpa [DR]using h1
 subst hu
 refine⟨_,rfl,ds,[],p++[],[],p,[],hW',?_,?_,?_,hb.frame _,fun h=>by cases h⟩
 ·rw[List.append_nil,hs ds hlen,hrt]
  exact trodAll_mk1 (shut_bool hub true)
 ·rw[List.append_nil,hs ds hlen]
  exact wz hl hb hrd hA
 ·rw[List.append_nil,hs ds hlen,hsv]
  rfl
end
theorem ac4{laid:List (String×DataW Unit)}{W:World}(hp:(laid.all fun x=>x.2.handleName?.isNone)=true){g:Nat}{t e:TypeId}{n:Nat}{rest:List (String×DataW Unit)}
  (hg:Proofs.Tryz.prog.globalNamed "internal/strconv.uint64pow10" = some g) (hty:(Proofs.Tryz.prog.globals[g]?).map (·.type)=some t) (ht:Proofs.Tryz.prog.underlying t=some (.array n e)) (he:Proofs.Tryz.prog.underlying e=some (.int .u64))
  (hce:Proofs.Tryz.prog.cellsOf e=1) (hct:Proofs.Tryz.prog.cellsOf t=n)
  (hh:(laid.filter fun x=>x.1 == "internal/strconv.uint64pow10")=("internal/strconv.uint64pow10",Lib.tabData .u64 Lib.pow10Tab)::rest)
  (h:laidMetH Proofs.Tryz.prog laid W):TabG W:=by
 rw[MakeChecks.laidMetH_plain _ _ _ hp]at h
 have h':=laidMet.filter (fun x=>x.1 == "internal/strconv.uint64pow10") h
 rw[hh]at h'
 exact Lib.tabIs_of_head hg hty ht he hce hct h'
theorem ajd{P:Program}{c:OpenClaim}(h:P.funcs.any Func.goes=false)(hs:c.start=.entering):false=c.goesBy P:=by
 have key:∀ (g:Nat) (fn:Func),P.funcs[g]? = some fn→fn.goes=false:=by
  intro g fn hg
  have:=Array.any_eq_false.1 h
  obtain⟨hlt,e⟩:=Array.getElem?_eq_some_iff.1 hg
  have:=this g hlt
  rw[e]at this
  simpa using this
 have k2:∀ g:Nat,(P.funcs[g]?).any Func.goes=false:=by
  intro g
  cases hg:P.funcs[g]? with
  | none=>rfl
  | some fn=>simp[key g fn hg]
 unfold OpenClaim.goesBy Program.goesAt Program.goesFrom
 rw[hs]
 have k3:∀ f,P.goes f=false:=by
  intro f
  unfold Program.goes
  rw[h,Bool.and_false,Bool.or_false]
  simp only[k2]
  simp
 cases P.funcNamed c.func with
 | none=>rfl
 | some f=>simp[k3]
end Go.Q
namespace Go.Q
open Go.N
theorem Pure.SegmentLoads(x:Tys (dR.E 0).ps)(h:Bnds (dR.E 0).ps x):∃ lf,dR.f lf x.1 x.2.1=some (true,()):=by
 obtain⟨l,⟨n,a,b,⟨⟩⟩,⟨⟩⟩:=x
 clear h
 obtain⟨lf,hb⟩:=bigE
 refine⟨lf,?_⟩
 obtain⟨c,c1,c2⟩:=ald lf hb l
 obtain⟨d,d1,d2⟩:=ahw lf a b
 rw[dR.f]
 simp only[c1,d1,bdS,aiZ]
 cases c with
 | false=>simp only[Bool.not_false,Go.N.brT]
 | true =>
  simp only[Bool.not_true,Go.N.brF]
  cases d with
  | false=>simp only[Bool.not_false,Go.N.brT]
  | true =>
   simp only[Bool.not_true,Go.N.brF]
   obtain⟨hl,hs⟩:=c2 rfl
   obtain⟨ha,hb'⟩:=d2 rfl
   obtain⟨r,r1,r2⟩:=akK lf hb (n:=n) (by omega) hs ha
   obtain⟨q,q1,q2,q3⟩:=ajO lf hb (n:=n) (by omega) hs ha hb'
   obtain⟨u,u1,u2⟩:=akE lf hb (n:=n) (by omega) hs ha hb'
   simp only[r1,r2,q1,q2,u1,u2,bdS,BEq.rfl,Go.N.brT,Bool.and_self,vg,decide_true,akS lf hb q.1 (by omega)]
end Go.Q
