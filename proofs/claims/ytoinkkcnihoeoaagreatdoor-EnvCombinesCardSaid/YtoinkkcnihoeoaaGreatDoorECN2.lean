import Derived.KernelRfl
import Derived.Test.YtoinkkcnihoeoaaGreatDoorChecked
import Derived.ProofKit
import Derived.OpenShut
import Derived.LaidMore
import Derived.Lay
import Derived.Carry
import Derived.SevenTiedAt
import Derived.Stop.Joined
import Derived.Lib.LaidTab
import Derived.LaidSub
import Derived.Test.YtoinkkcnihoeoaaGreatDoorECE3
import Derived.Test.YtoinkkcnihoeoaaGreatDoorECG10
import Derived.Test.YtoinkkcnihoeoaaGreatDoorECG11
import Derived.Test.YtoinkkcnihoeoaaGreatDoorECG12
import Derived.Test.YtoinkkcnihoeoaaGreatDoorECG6
import Derived.Test.YtoinkkcnihoeoaaGreatDoorECG7
import Derived.Test.YtoinkkcnihoeoaaGreatDoorECG8
import Derived.Test.YtoinkkcnihoeoaaGreatDoorECG9
import Derived.Test.YtoinkkcnihoeoaaGreatDoorECN1
set_option linter.unusedVariables false
set_option linter.unusedSimpArgs false
set_option linter.unusedSectionVars false
set_option maxRecDepth 100000
namespace Go.N
open Go.IntKind (i64)
open Go Go.Q Go.Rx
theorem abf(A V P q0 R r1 B:Int)(h:r1=R-V):V*(A+P*(q0+1-q0))+P*r1=V*A+P*R:=by subst h;grind
theorem aem(lf:Nat)(h3:200000≤lf)(a v5 v6 ys:List Int)(i:Nat)(hy:Dg 10 ys)(ty:Tr ys)(hyb:ys.length≤60000):∀ (c n:Nat) (rest q:List Int),c < n→Dg 10 rest→Tr rest→rest.length≤80000→lv 10 rest < (c+1)*lv 10 ys→Dg 10 q→(hi:i < q.length)→q[i]+c≤9→
  ∃ rest' q',aN.l1 lf a ys (i:Nat) v5 v6 n rest q=some ((rest',q',()),())∧Dg 10 rest'∧Tr rest'∧rest'.length≤rest.length∧lv 10 rest' < lv 10 ys∧Dg 10 q'∧q'.length=q.length∧
   lv 10 ys*lv 10 q'+10 ^ i*lv 10 rest'=lv 10 ys*lv 10 q+10 ^ i*lv 10 rest∧∀ p,p≠i→q'[p]? = q[p]? := by
 intro c
 induction c with
 | zero =>
  intro n rest q hn hr tr' hl hlt hq hi hc
  obtain⟨m,rfl⟩:=Nat.exists_eq_succ_of_ne_zero (show n≠0 by omega)
  have lt:lv 10 rest < lv 10 ys:=by simpa using hlt
  refine⟨rest,q,?_,hr,tr',Nat.le_refl _,lt,hq,rfl,rfl,fun p _=>rfl⟩
  rw[aN.l1,aN.r1,uD lf rest ys hr hy tr' ty (by omega) (by omega) h3,bdS,decide_eq_false (by unfold sgn;rw[if_pos (by omega)];decide),brF]
 | succ c ih =>
  intro n rest q hn hr tr' hl hlt hq hi hc
  obtain⟨m,rfl⟩:=Nat.exists_eq_succ_of_ne_zero (show n≠0 by omega)
  rw[aN.l1,aN.r1,uD lf rest ys hr hy tr' ty (by omega) (by omega) h3,bdS]
  by_cases lt:lv 10 rest < lv 10 ys
  ·rw[decide_eq_false (by unfold sgn;rw[if_pos (by omega)];decide),brF]
   exact⟨rest,q,rfl,hr,tr',Nat.le_refl _,lt,hq,rfl,rfl,fun p _=>rfl⟩
  ·rw[decide_eq_true (by unfold sgn;rw[if_neg (by omega)];split<;>decide),brT]
   obtain⟨r1,e,d1,d2,d3,d4⟩:=sZ lf h3 hr hy (by omega) (by omega)
   have q0:=hq.at i hi
   have e1:i64.wrap (q[i]+1)=q[i]+1:=w64 (by omega) (by omega)
   have lt1:lv 10 r1 < ((c:Int)+1)*lv 10 ys:=by
    have:((c+1:Nat):Int)+1=((c:Int)+1)+1:=by omega
    rw[this,Int.add_mul ((c:Int)+1) 1,Int.one_mul]at hlt
    omega
   obtain⟨r',q',t1,t2,t3,t4,t5,t6,t7,t8,t9⟩:=ih m r1 (q.set i (q[i]+1)) (by omega) d1 d2 (by omega) lt1 (oH hq i ⟨by omega,by omega⟩) (by rw[List.length_set];exact hi) (by rw[List.getElem_set_self];omega)
   refine⟨r',q',?_,t2,t3,by omega,t5,t6,by rw[t7,List.length_set],?_,fun p hp=>by rw[t9 p hp,List.getElem?_set_ne (by omega)]⟩
   ·rw[e,bdS,dY _ _ hi,bdS,List.getElem?_eq_getElem hi,bdS,bdS,e1,lH _ _ _ hi,bdS]
    exact t1
   ·rw[t8,nX 10 q i _ hi]
    exact abf _ _ _ _ _ _ 10 d4
theorem vP(lf:Nat)(h3:200000≤lf)(xs ys v5 v6:List Int)(hx:Dg 10 xs)(hy:Dg 10 ys)(ty:Tr ys)(hyb:ys.length≤60000)(k:Nat)(hk:k < xs.length)(rest q:List Int)(hr:Dg 10 rest)(hl:rest.length≤70000)(hlt:lv 10 rest < lv 10 ys)(hq:Dg 10 q)(hkq:k < q.length)(hz:q[k]=0):
  ∃ rest' q',aN.l1 lf xs ys (k:Nat) v5 v6 (lf+40) (tr ([xs[k]]++rest)) q=some ((rest',q',()),())∧Dg 10 rest'∧Tr rest'∧lv 10 rest' < lv 10 ys∧Dg 10 q'∧q'.length=q.length∧
   lv 10 ys*lv 10 q'+10 ^ k*lv 10 rest'=lv 10 ys*lv 10 q+10 ^ k*(xs[k]+10*lv 10 rest)∧∀ p,p≠k→q'[p]? = q[p]? := by
 have x0:=hx.at k hk
 have hd:Dg 10 ([xs[k]]++rest):=Dg.cons x0 hr
 have hl2:=kJ ([xs[k]]++rest)
 have e:lv 10 ([xs[k]]++rest)=xs[k]+10*lv 10 rest:=rfl
 obtain⟨r',q',t1,t2,t3,_,t5,t6,t7,t8,t9⟩:=aem lf h3 xs v5 v6 ys k hy ty hyb 9 (lf+40) (tr ([xs[k]]++rest)) q (by omega) (mr hd) (oG _) (by simp at hl2;simp;omega) (by rw[lm,e];omega) hq hkq (by rw[hz];decide)
 rw[lm,e]at t8
 exact⟨r',q',t1,t2,t3,t5,t6,t7,t8,t9⟩
theorem aaK{rest ys:List Int}(hy:Dg 10 ys)(hr:Dg 10 rest)(tr':Tr rest)(h:lv 10 rest < lv 10 ys):rest.length≤ys.length:=by
 by_cases z:rest.length≤ys.length
 ·exact z
 ·have:=kY (B:=10) (by decide) hy hr tr' (by omega);omega
theorem yL(V Q Q' P x R R' L:Int)(h:V*Q'+P*R'=V*Q+P*(x+10*R)):V*Q'+(P*R'+L)=V*Q+(P*10*R+(L+P*x)):=by grind
theorem aen(lf:Nat)(h3:200000≤lf)(xs ys v5:List Int)(hx:Dg 10 xs)(hy:Dg 10 ys)(ty:Tr ys)(hyb:ys.length≤60000)(hxb:xs.length≤60000):∀ (k n:Nat) (rest q:List Int),k < n→k≤xs.length→Dg 10 rest→Tr rest→lv 10 rest < lv 10 ys→Dg 10 q→k≤q.length→(∀ p,p < k→q[p]? = some 0)→
  ∃ rest' q',aN.l2 lf xs ys v5 n rest (((k:Nat):Int)-1) q=some ((rest',q',v5,()),())∧Dg 10 rest'∧Tr rest'∧lv 10 rest' < lv 10 ys∧Dg 10 q'∧q'.length=q.length∧
   lv 10 ys*lv 10 q'+lv 10 rest'=lv 10 ys*lv 10 q+(10 ^ k*lv 10 rest+lv 10 (xs.take k)):=by
 intro k
 induction k with
 | zero =>
  intro n rest q hn hk hr tr' hlt hq hkq hz
  obtain⟨m,rfl⟩:=Nat.exists_eq_succ_of_ne_zero (show n≠0 by omega)
  refine⟨rest,q,?_,hr,tr',hlt,hq,rfl,by simp[lv]⟩
  rw[aN.l2,aN.r2,decide_eq_false (by omega),brF]
 | succ k ih =>
  intro n rest q hn hk hr tr' hlt hq hkq hz
  obtain⟨m,rfl⟩:=Nat.exists_eq_succ_of_ne_zero (show n≠0 by omega)
  have hkl:k < xs.length:=by omega
  have rl:=aaK hy hr tr' hlt
  have z0:q[k]'(by omega)=0:=by
   have h1:=hz k (by omega)
   rw[List.getElem?_eq_getElem (by omega)]at h1
   exact Option.some.inj h1
  obtain⟨r1,q1,t1,t2,t3,t4,t5,t6,t7,t8⟩:=vP lf h3 xs ys v5 ([xs[k]]++rest) hx hy ty hyb k hkl rest q hr (by omega) hlt hq (by omega) z0
  obtain⟨r2,q2,s1,s2,s3,s4,s5,s6,s7⟩:=ih m r1 q1 (by omega) (by omega) t2 t3 t4 t5 (by omega) (fun p hp=>by rw[t8 p (by omega)];exact hz p (by omega))
  refine⟨r2,q2,?_,s2,s3,s4,s5,by rw[s6,t6],?_⟩
  ·rw[aN.l2,aN.r2,show((k+1:Nat):Int)-1=((k:Nat):Int) by omega,decide_eq_true (by omega),brT,bF _ _ hkl,bdS,lU _ _ _ (by decide) (by simp;omega),bdS,qg lf _ (by simp;omega) h3,bdS]
   simp only[t1,bdS]
   rw[w64 (n:=((k:Nat):Int)-1) (by omega) (by omega)]
   exact s1
  ·rw[s7,xB 10 xs k hkl,Int.pow_succ]
   exact yL _ _ _ _ _ _ _ _ t7
theorem ael(lf:Nat)(h3:200000≤lf)(xs ys:List Int)(hx:Dg 10 xs)(hy:Dg 10 ys)(ty:Tr ys)(hyb:ys.length≤60000)(hxb:xs.length≤60000)(k:Nat)(rest q:List Int)(hk:k≤xs.length)(hr:Dg 10 rest)(tr':Tr rest)(hlt:lv 10 rest < lv 10 ys)(hq:Dg 10 q)(hkq:k≤q.length)(hz:∀ p,p < k→q[p]? = some 0):
  ∃ b rest' q' w,aN.l0 lf xs ys (((k:Nat):Int)-1) q rest (lf+40)=some w∧w.1=b∧(if b=true then w.2.1.1=q'∧w.2.1.2.1=rest' else w.2.2.1.2.1=q'∧w.2.2.1.1=rest')∧Dg 10 rest'∧Tr rest'∧lv 10 rest' < lv 10 ys∧Dg 10 q'∧q'.length=q.length∧
   lv 10 ys*lv 10 q'+lv 10 rest'=lv 10 ys*lv 10 q+(10 ^ k*lv 10 rest+lv 10 (xs.take k)):=by
 cases k with
 | zero =>
  refine⟨true,rest,q,(true,(q,rest,()),(([],[],[],()),())),?_,rfl,by rw[if_pos rfl];exact⟨rfl,rfl⟩,hr,tr',hlt,hq,rfl,by simp[lv]⟩
  rw[show lf+40=(lf+39)+1 from rfl,aN.l0,aN.r0,decide_eq_false (by omega),brF]
 | succ k =>
  have hkl:k < xs.length:=by omega
  have rl:=aaK hy hr tr' hlt
  have z0:q[k]'(by omega)=0:=by
   have h1:=hz k (by omega)
   rw[List.getElem?_eq_getElem (by omega)]at h1
   exact Option.some.inj h1
  obtain⟨r1,q1,t1,t2,t3,t4,t5,t6,t7,t8⟩:=vP lf h3 xs ys rest ([xs[k]]++rest) hx hy ty hyb k hkl rest q hr (by omega) hlt hq (by omega) z0
  obtain⟨r2,q2,s1,s2,s3,s4,s5,s6,s7⟩:=aen lf h3 xs ys rest hx hy ty hyb hxb k (lf+39) r1 q1 (by omega) (by omega) t2 t3 t4 t5 (by omega) (fun p hp=>by rw[t8 p (by omega)];exact hz p (by omega))
  refine⟨false,r2,q2,(false,([],[],()),((r2,q2,rest,()),())),?_,rfl,by simp,s2,s3,s4,s5,by rw[s6,t6],?_⟩
  ·rw[show lf+40=(lf+39)+1 from rfl,aN.l0,aN.r0,show((k+1:Nat):Int)-1=((k:Nat):Int) by omega,decide_eq_true (by omega),brT,bF _ _ hkl,bdS,lU _ _ _ (by decide) (by simp;omega),bdS,qg lf _ (by simp;omega) h3,bdS]
   simp only[t1,bdS]
   rw[w64 (n:=((k:Nat):Int)-1) (by omega) (by omega),s1,bdS]
  ·rw[s7,xB 10 xs k hkl,Int.pow_succ]
   exact yL _ _ _ _ _ _ _ _ t7
theorem ac8(lf:Nat)(h3:200000≤lf){xs ys:List Int}(hx:Dg 10 xs)(hy:Dg 10 ys)(tx:Tr xs)(ty:Tr ys)(hyn:ys≠[])(hxb:xs.length≤60000)(hyb:ys.length≤60000):
  ∃ Q R,aN.f lf xs ys=some (Q,R,())∧Dg 10 Q∧Q.length≤xs.length+1∧Dg 10 R∧Tr R∧lv 10 xs=lv 10 ys*lv 10 Q+lv 10 R∧lv 10 R < lv 10 ys:=by
 have yl:1≤ys.length:=List.length_pos_iff.2 hyn
 obtain⟨n,hn⟩:∃ n,n=xs.length+1-ys.length:=⟨_,rfl⟩
 have yt:=uX (B:=10) (by decide) hy ty hyn
 have e0:(if(i64.wrap ((i64.wrap (((xs.length:Nat):Int)-((ys.length:Nat):Int)))+1)) > 0 then(i64.wrap ((i64.wrap (((xs.length:Nat):Int)-((ys.length:Nat):Int)))+1))else 0)=((n:Nat):Int):=by
  rw[w64 (n:=((xs.length:Nat):Int)-((ys.length:Nat):Int)) (by omega) (by omega),w64 (by omega) (by omega)]
  split<;>omega
 have e1:i64.wrap (((n:Nat):Int)-1)=((n:Nat):Int)-1:=w64 (by omega) (by omega)
 have nx:n≤xs.length:=by omega
 have rT:Tr (xs.drop n):=by
  unfold Tr at *
  by_cases z:n < xs.length
  ·rw[List.getLast?_drop,if_neg (by omega)];exact tx
  ·rw[List.drop_of_length_le (by omega)];simp
 have rlt:lv 10 (xs.drop n) < lv 10 ys:=by
  have a:=nN (B:=10) (by decide) (hx.drop n)
  rw[List.length_drop]at a
  have b:=jZ (B:=10) (by decide) (show xs.length-n≤ys.length-1 by omega)
  omega
 obtain⟨b,R,Q,w,t1,t2,t3,t4,t5,t6,t7,t8,t9⟩:=ael lf h3 xs ys hx hy ty hyb hxb n (xs.drop n) (List.replicate n 0) nx (hx.drop n) rT rlt (Dg.zeros (by decide) _) (by simp) (fun p hp=>by rw[List.getElem?_replicate,if_pos hp])
 rw[List.length_replicate]at t8
 rw[oU,Int.mul_zero,Int.zero_add]at t9
 have sp:=nD 10 xs n nx
 refine⟨tr Q,R,?_,mr t7,by have:=kJ Q;omega,t4,t5,by rw[lm];omega,t6⟩
 rw[aN.f,e0,e1,pq _ _ _ n rfl rfl (by omega),bdS,acB _ _ n rfl nx,bdS,lU _ _ _ (by decide) (by simp;omega),bdS,List.nil_append,t1,bdS,t2]
 cases b with
 | true =>
  rw[if_pos rfl]at t3
  rw[brT,t3.1,t3.2,qg lf Q (by omega) h3,bdS]
 | false =>
  rw[if_neg (by simp)]at t3
  rw[brF,t3.1,t3.2,qg lf Q (by omega) h3,bdS]
theorem acH(lf:Nat){x y:Int}(hx:x.natAbs < 100000000000000000)(hy:y.natAbs < 100000000000000000)(h0:y≠0):jP.f lf x y=some (x.fdiv y,()):=by
 have e:=Int.mul_tdiv_add_tmod x y
 have e1:iRem x y=some (Int.tmod x y):=by unfold iRem;rw[if_neg h0]
 have qb:(Int.tdiv x y).natAbs≤x.natAbs:=by rw[Int.natAbs_tdiv];exact Nat.div_le_self _ _
 have e2:iQuo .i64 x y=some (Int.tdiv x y):=by
  unfold iQuo;rw[if_neg h0]
  congr 1
  apply w64<;>omega
 have sg:(0≤x→0≤Int.tmod x y)∧(x≤0→Int.tmod x y≤0):=by
  refine⟨fun h=>Int.tmod_nonneg y h,fun h=>?_⟩
  have:=Int.tmod_nonneg y (show 0≤-x by omega)
  rw[Int.neg_tmod]at this
  omega
 have ab:(Int.tmod x y).natAbs < y.natAbs:=by
  rw[Int.natAbs_tmod]
  exact Nat.mod_lt _ (by omega)
 rw[jP.f,e2,bdS,e1,bdS]
 by_cases r0:Int.tmod x y=0
 ·rw[r0,bne_self_eq_false,brF]
  have:=(kz (x:=x) (y:=y) (q:=Int.tdiv x y) (r:=0) (by omega) (by omega)).1
  rw[this]
 ·rw[show(Int.tmod x y != 0)=true by simpa using r0,brT]
  by_cases hs:decide (x < 0)=decide (y < 0)
  ·have hs':(x < 0↔y < 0):=by simpa using hs
   rw[show(decide (x < 0) != decide (y < 0))=false by rw[hs,bne_self_eq_false],brF]
   have:=(kz (x:=x) (y:=y) (q:=Int.tdiv x y) (r:=Int.tmod x y) (by omega) (by omega)).1
   rw[this]
  ·have hs':¬(x < 0↔y < 0):=by simpa using hs
   rw[show(decide (x < 0) != decide (y < 0))=true by simpa using hs,brT,w64 (by omega) (by omega)]
   have:=(kz (x:=x) (y:=y) (q:=Int.tdiv x y-1) (r:=Int.tmod x y+y) (by rw[Int.mul_sub];omega) (by omega)).1
   rw[this]
theorem uM{z:Int}{k:Nat}(hk:1≤k)(h:(z.natAbs:Int) < 10 ^ k):sz z≤k:=by
 obtain⟨j,rfl⟩:=Nat.exists_eq_succ_of_ne_zero (show k≠0 by omega)
 rw[←qi]
 apply lu
 have:((10 ^ (j+1):Nat):Int)=(10:Int) ^ (j+1):=by norm_cast
 have h':(z.natAbs:Int) < ((10 ^ (j+1):Nat):Int):=by rw[this];exact h
 exact Int.ofNat_lt.1 h'
theorem xA(lf:Nat)(h3:200000≤lf){x y:Int}(hx:sz x≤40000)(hy:sz y≤40000)(h0:y≠0):
    (bd (aB.f lf (bs (Lib.itoa x))) fun r18 =>
 bd (ay.f lf r18.1) fun r19 =>
 bd (aB.f lf (bs (Lib.itoa y))) fun r20 =>
 bd (ay.f lf r20.1) fun r21 =>
 bd (aN.f lf r19.1 r21.1) fun r22 =>
 bd (ak.f lf (bs (Lib.itoa x))) fun r23 =>
 bd (ak.f lf (bs (Lib.itoa y))) fun r24 =>
 bd (aG.f lf r22.1 (r23.1 != r24.1)) fun r25 =>
 bd (ak.f lf (bs (Lib.itoa x))) fun r26 =>
 bd (ak.f lf (bs (Lib.itoa y))) fun r27 =>
 br (r26.1 != r27.1) (
 br (decide (((r22.2.1.length:Nat):Int) > 0)) (
 bd (aP.f lf r25.1 (⟨#[49]⟩:ByteArray)) fun r28 =>
 some (r28.1,())) (
 some (r25.1,()))) (
 some (r25.1,())))=some (bs (Lib.itoa (x.fdiv y)),()):=by
  have a:=ld_body (z:=x)
  have b:=ld_body (z:=y)
  have lx:=rF x
  have ly:=rF y
  have tx:=kJ (ld (body (Lib.itoa x)))
  have ty:=kJ (ld (body (Lib.itoa y)))
  have hyn:tr (ld (body (Lib.itoa y)))≠[]:=by
    intro e
    have:=lm 10 (ld (body (Lib.itoa y)))
    rw[e,b.2.1]at this
    simp only[lv]at this
    omega
  obtain⟨Q,R,e,dq,lq,dr,tr',val,lt⟩:=ac8 lf h3 (mr a.1) (mr b.1) (oG _) (oG _) hyn (by omega) (by omega)
  rw[lm,lm,a.2.1,b.2.1]at val
  rw[lm,b.2.1]at lt
  have R0:=bG (B:=10) (by decide) dr
  have Q0:=bG (B:=10) (by decide) dq
  rw[mD lf _ (jv x) (by omega) h3,bdS,qg lf (ld (body (Lib.itoa x))) (by omega) h3,bdS,mD lf _ (jv y) (by omega) h3,bdS,qg lf (ld (body (Lib.itoa y))) (by omega) h3,bdS]
  simp only
  rw[e,bdS,jm lf _ (jS x),bdS,jm lf _ (jS y),bdS]
  simp only
  rw[rH lf h3 dq (by omega),bdS,bdS,bdS]
  simp only[rJ]
  by_cases hs:decide (x < 0)=decide (y < 0)
  · have hs':(x < 0↔y < 0):=by simpa using hs
    rw[hs,bne_self_eq_false,brF,if_neg (by simp)]
    refine congrArg (fun z:Int=>some (bs (Lib.itoa z),())) ?_
    refine(kz (x:=x) (y:=y) (q:=lv 10 Q) (r:=if x < 0 then -lv 10 R else lv 10 R) ?_ ?_).1
    · by_cases hx0:x < 0
      · have:=hs'.1 hx0
        rw[if_pos hx0]
        have e1:(y.natAbs:Int)= -y:=by omega
        have e2:(x.natAbs:Int)= -x:=by omega
        rw[e1,e2,Int.neg_mul]at val
        omega
      · have:¬y < 0:=fun e=>hx0 (hs'.2 e)
        rw[if_neg hx0]
        have e1:(y.natAbs:Int)=y:=by omega
        have e2:(x.natAbs:Int)=x:=by omega
        rw[e1,e2]at val
        omega
    · split<;>omega
  · have hs':¬(x < 0↔y < 0):=by simpa using hs
    rw[show(decide (x < 0) != decide (y < 0))=true by simpa using hs,brT,if_pos rfl]
    have val2:x=y*(-lv 10 Q)+(if x < 0 then -lv 10 R else lv 10 R):=by
      by_cases hx0:x < 0
      · have e1:(y.natAbs:Int)=y:=by omega
        have e2:(x.natAbs:Int)= -x:=by omega
        rw[e1,e2]at val
        rw[if_pos hx0,Int.mul_neg]
        omega
      · have e1:(y.natAbs:Int)= -y:=by omega
        have e2:(x.natAbs:Int)=x:=by omega
        rw[e1,e2,Int.neg_mul]at val
        rw[if_neg hx0,Int.mul_neg]
        omega
    by_cases hR:R=[]
    · subst hR
      rw[decide_eq_false (by simp),brF]
      refine congrArg (fun z:Int=>some (bs (Lib.itoa z),())) ?_
      refine(kz (x:=x) (y:=y) (q:= -lv 10 Q) (r:=0) ?_ (by omega)).1
      simp only[lv,Int.neg_zero,ite_self,Int.add_zero]at val2
      omega
    · have Rl:0 < R.length:=List.length_pos_iff.2 hR
      have Rp:=pW (B:=10) (by decide) dr tr' hR
      have Qb:sz (-lv 10 Q)≤50000:=by
        have:=uM (z:= -lv 10 Q) (k:=Q.length+1) (by omega) (by
          have a1:=nN (B:=10) (by decide) dq
          have a2:=jZ (B:=10) (by decide) (show Q.length≤Q.length+1 by omega)
          omega)
        omega
      have i1:Lib.itoa 1=[49]:=by decide +kernel
      have s1:sz 1≤50000:=by unfold sz;rw[i1];decide
      rw[decide_eq_true (by omega),brT,show(⟨#[49]⟩:ByteArray)=bs [49] from rfl,←i1,wQ lf h3 Qb s1,bdS]
      refine congrArg (fun z:Int=>some (bs (Lib.itoa z),())) ?_
      refine(kz (x:=x) (y:=y) (q:= -lv 10 Q-1) (r:=(if x < 0 then -lv 10 R else lv 10 R)+y) ?_ ?_).1
      · rw[Int.mul_sub];omega
      · split<;>omega
theorem pJ(lf:Nat)(h3:200000≤lf){x y:Int}(hx:sz x≤40000)(hy:sz y≤40000)(h0:y≠0):dn.f lf (bs (Lib.itoa x)) (bs (Lib.itoa y))=some (bs (Lib.itoa (x.fdiv y)),()):=by
 rw[dn.f,sF lf (by omega),bdS]
 simp only
 by_cases c1:(sz x:Int)≤17
 ·rw[decide_eq_true c1,brT,sF lf (by omega),bdS]
  simp only
  by_cases c2:(sz y:Int)≤17
  ·have a:=qC (z:=x) (k:=17) (by omega) (by omega)
   have b:=qC (z:=y) (k:=17) (by omega) (by omega)
   have p:(10:Int) ^ 17=100000000000000000:=by decide
   have fb:(x.fdiv y).natAbs≤200000000000000000:=by
    have m:=Int.mul_fdiv_add_fmod x y
    have h1:(x.fdiv y).natAbs*1≤(x.fdiv y).natAbs*y.natAbs:=Nat.mul_le_mul_left _ (by omega)
    have h2:(y*x.fdiv y).natAbs=y.natAbs*(x.fdiv y).natAbs:=Int.natAbs_mul _ _
    rw[Nat.mul_comm]at h2
    have h3:(x.fmod y).natAbs < y.natAbs:=by
     rcases Int.lt_or_lt_of_ne h0 with z | z
     ·have a:=Int.fmod_nonneg_of_pos (-x) (show 0 < -y by omega)
      have b:=Int.fmod_lt_of_pos (-x) (show 0 < -y by omega)
      rw[Int.neg_fmod_neg]at a b
      omega
     ·have a:=Int.fmod_nonneg_of_pos x z
      have b:=Int.fmod_lt_of_pos x z
      omega
    omega
   rw[decide_eq_true c2,brT,oI lf h3 (by omega),bdS,oI lf h3 (by omega),bdS]
   simp only
   rw[acH lf (by omega) (by omega) h0,bdS,vw lf h3 (by omega) (by omega),bdS]
  ·rw[decide_eq_false c2,brF]
   exact xA lf h3 hx hy h0
 ·rw[decide_eq_false c1,brF]
  exact xA lf h3 hx hy h0
theorem aau{x y:Int}(h0:y≠0):(x.fmod y).natAbs < y.natAbs:=by
 rcases Int.lt_or_lt_of_ne h0 with z | z
 ·have a:=Int.fmod_nonneg_of_pos (-x) (show 0 < -y by omega)
  have b:=Int.fmod_lt_of_pos (-x) (show 0 < -y by omega)
  rw[Int.neg_fmod_neg]at a b
  omega
 ·have a:=Int.fmod_nonneg_of_pos x z
  have b:=Int.fmod_lt_of_pos x z
  omega
theorem aat{x y:Int}(h0:y≠0):(x.fdiv y).natAbs≤x.natAbs+1:=by
 by_cases q0:x.fdiv y=0
 ·rw[q0];simp
 have m:=Int.mul_fdiv_add_fmod x y
 have h2:(y*x.fdiv y).natAbs=y.natAbs*(x.fdiv y).natAbs:=Int.natAbs_mul _ _
 have h3:=aau (x:=x) h0
 obtain⟨k,hk⟩:=Nat.exists_eq_succ_of_ne_zero (show(x.fdiv y).natAbs≠0 by omega)
 rw[hk,Nat.mul_succ]at h2
 have h4:1*k≤y.natAbs*k:=Nat.mul_le_mul_right _ (by omega)
 omega
theorem afe{x y:Int}{k:Nat}(hk:1≤k)(h0:y≠0)(h:sz x≤k):sz (x.fdiv y)≤k+1:=by
 apply uM (by omega)
 have a:=qC h hk
 have b:=aat (x:=x) h0
 have c:(10:Int) ^ (k+1)=10 ^ k*10:=Int.pow_succ ..
 omega
theorem agn{x y:Int}{j k:Nat}(hj:1≤j)(hk:1≤k)(h1:sz x≤j)(h2:sz y≤k):sz (x*y)≤j+k:=by
 apply uM (by omega)
 have a:=qC h1 hj
 have b:=qC h2 hk
 rw[Int.natAbs_mul,Int.natCast_mul,Int.pow_add]
 have p:=jY (B:=10) (by decide) k
 have c:=Int.mul_le_mul_of_nonneg_left (Int.le_of_lt b) (show 0≤(x.natAbs:Int) by omega)
 have d:=Int.mul_lt_mul_of_pos_right a p
 omega
theorem qL(lf:Nat)(h3:200000≤lf){x y:Int}(hx:sz x≤20000)(hy:sz y≤20000)(h0:y≠0):bP.f lf (bs (Lib.itoa x)) (bs (Lib.itoa y))=some (bs (Lib.itoa (x.fmod y)),()):=by
 have q:=afe (by omega) h0 hx
 have p:=agn (by omega) (by omega) hy q
 rw[bP.f,pJ lf h3 (by omega) (by omega) h0,bdS,vN lf h3 (by omega) (by omega),bdS,wQ lf h3 (by omega) (by omega),bdS]
 have m:=Int.mul_fdiv_add_fmod x y
 refine congrArg (fun z:Int=>some (bs (Lib.itoa z),())) ?_
 omega
end Go.N
namespace Go.N
open Go Go.Q Go.Rx
set_option exponentiation.threshold 5000
theorem xR(lf:Nat)(h3:200000≤lf){x y:Int}(hx: -K < x∧x < K)(hy: -K < y∧y < K)(hs: -K < x+y∧x+y < K):iC.f lf (bs (Lib.itoa x)) (bs (Lib.itoa y))=some (bs (Lib.itoa (x+y)),0,()):=by
 have h:=(sz_K (x+y)).2 hs
 rw[agy lf _ _ ((oO x).2 hx) ((oO y).2 hy) h3,eY,eY,qi,if_neg (by omega)]
theorem i1:(⟨#[49]⟩:ByteArray)=bs (Lib.itoa 1):=by
 have:Lib.itoa 1=[49]:=by unfold Lib.itoa;rw[if_neg (by omega)];exact kU (by omega)
 rw[this]
theorem i0:(⟨#[48]⟩:ByteArray)=bs (Lib.itoa 0):=by
 have:Lib.itoa 0=[48]:=by unfold Lib.itoa;rw[if_neg (by omega)];exact mg
 rw[this]
end Go.N
namespace Go.N
open Go Go.Q Go.Rx
def E0:A:=⟨true,none,none⟩
theorem acE{s:Sp}{z:Int}(h:inS s z=true):emp s=false:=by
 unfold inS at h
 simp only[Bool.and_eq_true,decide_eq_true_eq]at h
 exact decide_eq_false (by omega)
theorem agW:Wf E0:=⟨fun _=>⟨rfl,rfl⟩,trivial,trivial,trivial⟩
end Go.N
namespace Go.N
open Go Go.Q Go.Rx
set_option exponentiation.threshold 5000
theorem CC_K:C*C+C+C+10 < K:=by
 have h1:C*C=((10 ^ 200:Nat):Int):=by
  unfold C
  rw[←Int.natCast_mul,←Nat.pow_add]
 have h2:((10 ^ 200:Nat):Int)*10≤K:=by
  unfold K
  have:(10:Nat) ^ 200*10≤10 ^ 4096:=by rw[←Nat.pow_succ];exact Nat.pow_le_pow_right (by omega) (by omega)
  have h:(((10 ^ 200*10:Nat):Int))≤((10 ^ 4096:Nat):Int):=Int.ofNat_le.2 this
  rw[Int.natCast_mul]at h
  exact h
 have h3:=C_gt
 have h4:C*1000000≤C*C:=Int.mul_le_mul_of_nonneg_left (by omega) (by omega)
 omega
@[irreducible] def Dd : Int := ((10 ^ 1000 : Nat) : Int)
theorem lX:C < Dd:=by
 unfold C Dd
 have:(10:Nat) ^ 100 < 10 ^ 1000:=Nat.pow_lt_pow_right (by omega) (by omega)
 exact Int.ofNat_lt.2 this
theorem DD_K:Dd*Dd+Dd+Dd+10 < K:=by
 have h1:Dd*Dd=((10 ^ 2000:Nat):Int):=by
  unfold Dd
  rw[←Int.natCast_mul,←Nat.pow_add]
 have h2:((10 ^ 2000:Nat):Int)*10≤K:=by
  unfold K
  have:(10:Nat) ^ 2000*10≤10 ^ 4096:=by rw[←Nat.pow_succ];exact Nat.pow_le_pow_right (by omega) (by omega)
  have h:(((10 ^ 2000*10:Nat):Int))≤((10 ^ 4096:Nat):Int):=Int.ofNat_le.2 this
  rw[Int.natCast_mul]at h
  exact h
 have h3:=C_gt
 have h5:=lX
 have h4:Dd*1000000≤Dd*Dd:=Int.mul_le_mul_of_nonneg_left (by omega) (by omega)
 omega
theorem Dd_K:Dd < K:=by
 have h:=DD_K
 have h3:=C_gt
 have h5:=lX
 have h4:0≤Dd*Dd:=Int.mul_nonneg (by omega) (by omega)
 omega
theorem agc{a b:Int}(ha: -Dd < a∧a < Dd)(hb: -Dd < b∧b < Dd): -(Dd*Dd) < a*b∧a*b < Dd*Dd:=by
 have hC:=C_gt
 have hD:=lX
 have h1:(a*b).natAbs=a.natAbs*b.natAbs:=Int.natAbs_mul a b
 have h2:((a*b).natAbs:Int)=(a.natAbs:Int)*(b.natAbs:Int):=by rw[h1,Int.natCast_mul]
 have h3:(a.natAbs:Int)*(b.natAbs:Int)≤(Dd-1)*(Dd-1):=Int.mul_le_mul (by omega) (by omega) (by omega) (by omega)
 have h4:(Dd-1)*(Dd-1)=Dd*Dd-Dd-Dd+1:=by grind
 omega
theorem vJ{a b:Int}(ha: -C < a∧a < C)(hb: -C < b∧b < C): -(C*C) < a*b∧a*b < C*C:=by
 have hC:=C_gt
 have h1:(a*b).natAbs=a.natAbs*b.natAbs:=Int.natAbs_mul a b
 have h2:((a*b).natAbs:Int)=(a.natAbs:Int)*(b.natAbs:Int):=by rw[h1,Int.natCast_mul]
 have h3:(a.natAbs:Int)*(b.natAbs:Int)≤(C-1)*(C-1):=Int.mul_le_mul (by omega) (by omega) (by omega) (by omega)
 have h4:(C-1)*(C-1)=C*C-C-C+1:=by grind
 omega
theorem chkK{z:Int}(h: -K < z∧z < K):chk (Lib.itoa z)=0:=(oO z).2 h
def Pr(s:Sp):Prop:=emp s=true∨(s.lo≠.pi∧s.hi≠.ni)
theorem Wf.pr{a:A}(h:Wf a):Pr (ofA a):=by
 unfold Pr ofA
 cases ea:a.em with
 | true=>left;rw[if_pos rfl];exact rX
 | false =>
  right
  rw[if_neg (by simp)]
  constructor
  ·cases a.lo<;>simp[lox]
  ·cases a.hi<;>simp[hix]
theorem xk(x:X):key (xneg x)= -key x:=by cases x<;>simp[key,xneg]
theorem oks.K{s:Sp}(h:oks C s):oks K s:=h.mono (Int.le_of_lt ji)
def sg:X→Int
 | .ni=> -1
 | .fin z=>sgn z
 | .pi=>1
theorem sg3(x:X):sg x= -1∨sg x=0∨sg x=1:=by
 cases x with
 | ni=>exact .inl rfl
 | pi=>exact .inr (.inr rfl)
 | fin z=>simp only[sg,sgn];(repeat' split)<;>omega
def xmul(x y:X):X:=if sg x*sg y=0 then .fin 0 else match x,y with
 | .fin a,.fin b=>.fin (a*b)
 | _,_=>if sg x*sg y=1 then .pi else .ni
theorem acU(lf:Nat)(h3:200000≤lf){x y:Int}(hx: -K < x∧x < K)(hy: -K < y∧y < K)(hs: -K < x*y∧x*y < K):jI.f lf (bs (Lib.itoa x)) (bs (Lib.itoa y))=some (bs (Lib.itoa (x*y)),0,()):=by
 have h:=(sz_K (x*y)).2 hs
 rw[agQ lf _ _ ((oO x).2 hx) ((oO y).2 hy) h3,eY,eY,qi,if_neg (by omega)]
theorem pG{x y:X}(hx:okx C x)(hy:okx C y):okx K (xmul x y):=by
 have hK:=CC_K
 have hC:=C_gt
 have h4:0≤C*C:=Int.mul_nonneg (by omega) (by omega)
 unfold xmul
 split
 ·simp only[okx];omega
 ·cases x with
  | fin u=>cases y with
   | fin v =>
    have m:=vJ hx hy
    simp only[okx];omega
   | ni=>simp only;split<;>trivial
   | pi=>simp only;split<;>trivial
  | ni=>simp only;split<;>trivial
  | pi=>simp only;split<;>trivial
theorem aaP{x y:X}(hx:okx Dd x)(hy:okx Dd y):okx K (xmul x y):=by
 have hK:=DD_K
 have hC:=C_gt
 have hD:=lX
 have h4:0≤Dd*Dd:=Int.mul_nonneg (by omega) (by omega)
 unfold xmul
 split
 ·simp only[okx];omega
 ·cases x with
  | fin u=>cases y with
   | fin v =>
    have m:=agc hx hy
    simp only[okx];omega
   | ni=>simp only;split<;>trivial
   | pi=>simp only;split<;>trivial
  | ni=>simp only;split<;>trivial
  | pi=>simp only;split<;>trivial
theorem okx.D{x:X}(h:okx C x):okx Dd x:=h.mono (Int.le_of_lt lX)
def one(v:X):Sp:=⟨v,v⟩
def apS(o:X→X→X)(s t:Sp):Sp:=if emp s=true then non else if emp t=true then non else
 hull (hull (hull (hull non (one (o s.lo t.lo))) (one (o s.lo t.hi))) (one (o s.hi t.lo))) (one (o s.hi t.hi))
theorem zJ{k:Int}{v:X}(h:okx k v):oks k (one v):=⟨h,h⟩
theorem afE{o:X→X→X}{s t:Sp}(h:∀ x y,(x=s.lo∨x=s.hi)→(y=t.lo∨y=t.hi)→okx K (o x y)):oks K (apS o s t):=by
 unfold apS;split
 ·exact uZ
 ·split
  ·exact uZ
  ·exact nI (nI (nI (nI uZ (zJ (h _ _ (.inl rfl) (.inl rfl)))) (zJ (h _ _ (.inl rfl) (.inr rfl)))) (zJ (h _ _ (.inr rfl) (.inl rfl)))) (zJ (h _ _ (.inr rfl) (.inr rfl)))
theorem ae4{s t:Sp}(hs:oks C s)(ht:oks C t):oks K (apS xmul s t):=afE fun x y hx hy=>by
 rcases hx with rfl | rfl<;>rcases hy with rfl | rfl<;>exact pG (by first | exact hs.1 | exact hs.2) (by first | exact ht.1 | exact ht.2)
end Go.N
namespace Go.N
open Go Go.Q Go.Rx
theorem ac0(lf:Nat)(hlf:2000000000≤lf){x y:Int}(hx: -K < x∧x < K)(hy: -K < y∧y < K)(h0:y≠0):jJ.f lf (bs (Lib.itoa x)) (bs (Lib.itoa y))=some (bs (Lib.itoa (x.fdiv y)),0,()):=by
 rw[agS lf hlf _ _ (chkK hx) (chkK hy),eY,eY,if_neg h0]
theorem nP(lf:Nat)(hlf:2000000000≤lf){x y:Int}(hx: -K < x∧x < K)(hy: -K < y∧y < K)(h0:y≠0):iT.f lf (bs (Lib.itoa x)) (bs (Lib.itoa y))=some (bs (Lib.itoa (x.fmod y)),0,()):=by
 rw[agT lf hlf _ _ (chkK hx) (chkK hy),eY,eY,if_neg h0]
theorem rO(x:X):(sg x < 0↔key x < 0)∧(sg x=0↔key x=0)∧(0 < sg x↔0 < key x):=by
 have:=K_gt
 cases x with
 | ni=>simp only[sg,key];omega
 | pi=>simp only[sg,key];omega
 | fin z=>simp only[sg,key,sgn];(repeat' split)<;>omega
def posS(s:Sp):Sp:=common s ⟨.fin 1,.pi⟩
theorem wB{z:Int}(h1: -10≤z)(h2:z≤10):okx C (.fin z):=by have:=C_gt;simp only[okx];omega
theorem ae9{s:Sp}(h:oks C s):oks C (posS s):=qG h ⟨wB (by decide) (by decide),trivial⟩
theorem rY(v:X):emp (one v)=false:=by unfold emp one;simp
theorem aaz{s t:Sp}(hs:emp s=false)(ht:emp t=false):emp (hull s t)=false:=by
 unfold hull
 rw[if_neg (by simp[hs]),if_neg (by simp[ht])]
 unfold emp at hs ht⊢
 simp only[decide_eq_false_iff_not,oM,oL]at hs ht⊢
 omega
theorem adS(s:Sp):hull non s=s:=by unfold hull;rw[if_pos rX]
end Go.N
namespace Go.N
open Go Go.Q Go.Rx
theorem szK{z:Int}(h: -K < z∧z < K):sz z≤4096:=(sz_K z).2 h
theorem sumI(lf:Nat)(h3:200000≤lf){x y:Int}(hx: -K < x∧x < K)(hy: -K < y∧y < K):fO.f lf (bs (Lib.itoa x)) (bs (Lib.itoa y))=some (bs (Lib.itoa (x+y)),()):=by
 have:=szK hx
 have:=szK hy
 exact ach lf h3 (by omega) (by omega)
theorem diffI(lf:Nat)(h3:200000≤lf){x y:Int}(hx: -K < x∧x < K)(hy: -K < y∧y < K):aP.f lf (bs (Lib.itoa x)) (bs (Lib.itoa y))=some (bs (Lib.itoa (x-y)),()):=by
 have:=szK hx
 have:=szK hy
 exact wQ lf h3 (by omega) (by omega)
theorem qK(lf:Nat)(h3:200000≤lf){x y:Int}(hx: -K < x∧x < K)(hy: -K < y∧y < K):bC.f lf (bs (Lib.itoa x)) (bs (Lib.itoa y))=some (bs (Lib.itoa (x*y)),()):=by
 have:=szK hx
 have:=szK hy
 exact vN lf h3 (by omega) (by omega)
theorem CK{z:Int}(h: -C < z∧z < C): -K < z∧z < K:=by have:=ji;omega
def negS(s:Sp):Sp:=common s ⟨.ni,.fin (-1)⟩
def zerS(s:Sp):Sp:=common s ⟨.fin 0,.fin 0⟩
theorem hullNE{s t:Sp}(hs:emp s=false)(ht:emp t=false):hull s t=⟨xmin s.lo t.lo,xmax s.hi t.hi⟩:=by
 unfold hull;rw[if_neg (by simp[hs]),if_neg (by simp[ht])]
theorem afd(z:Int):decide (sgn z < 0)=decide (z < 0):=by simp only[decide_eq_decide];unfold sgn;(repeat' split)<;>omega
section
variable (lf:Nat)(h3:200000≤lf)
include h3
theorem rng:aI.f lf (ob none) (ob none)=some (ac (toA ⟨.ni,.pi⟩),()):=qw lf h3 none none trivial trivial
end
end Go.N
namespace Go.N
open Go Go.Q Go.Rx
theorem pU{x y q r:Int}(h:x=y*q+r)(hy:0 < y)(h0:0≤r)(h1:r < y)(hx:0≤x):Int.gcd y r=Int.gcd x y:=by
 have e:r=x % y:=by rw[h,Int.mul_add_emod_self_left];exact(Int.emod_eq_of_lt h0 h1).symm
 obtain⟨a,rfl⟩:=Int.eq_ofNat_of_zero_le hx
 obtain⟨b,rfl⟩:=Int.eq_ofNat_of_zero_le (Int.le_of_lt hy)
 have e':r=((a % b:Nat):Int):=by rw[e];rfl
 rw[e',Int.gcd_natCast_natCast,Int.gcd_natCast_natCast,Nat.gcd_comm a b,Nat.gcd_rec b a,Nat.gcd_comm]
theorem xZ(lf:Nat)(hlf:2000000000≤lf):∀ (k n:Nat) (xs ys:List Int),lv G ys≤k→k < n→Dg G xs→Dg G ys→Tr xs→Tr ys→xs.length≤40000→ys.length≤40000→
  ∃ r,fM.l0 lf n xs ys=some ((r,()),())∧Dg G r∧Tr r∧r.length≤max xs.length ys.length∧lv G r=(Int.gcd (lv G xs) (lv G ys):Int):=by
 intro k
 induction k with
 | zero =>
  intro n xs ys hk hn hx hy tx ty lx ly
  obtain⟨m,rfl⟩:=Nat.exists_eq_succ_of_ne_zero (show n≠0 by omega)
  have y0:=bG (B:=G) (by decide) hy
  have x0:=bG (B:=G) (by decide) hx
  have:ys=[]:=(sW (B:=G) (by decide) hy ty).1 (by omega)
  subst this
  refine⟨xs,?_,hx,tx,by omega,?_⟩
  ·rw[fM.l0,fM.r0,decide_eq_false (by simp),brF]
  ·rw[show lv G []=0 from rfl,Int.gcd_zero_right];omega
 | succ k ih =>
  intro n xs ys hk hn hx hy tx ty lx ly
  obtain⟨m,rfl⟩:=Nat.exists_eq_succ_of_ne_zero (show n≠0 by omega)
  have x0:=bG (B:=G) (by decide) hx
  by_cases h:ys=[]
  ·subst h
   refine⟨xs,?_,hx,tx,by omega,?_⟩
   ·rw[fM.l0,fM.r0,decide_eq_false (by simp),brF]
   ·rw[show lv G []=0 from rfl,Int.gcd_zero_right];omega
  ·obtain⟨Q,R,e,dq,tq,dr,tr',val,lt⟩:=tY lf xs ys hx hy tx ty h (by omega) (by omega) hlf
   have yp:=pW (B:=G) (by decide) hy ty h
   have R0:=bG (B:=G) (by decide) dr
   have lR:R.length≤ys.length:=by
    by_cases z:R.length≤ys.length
    ·exact z
    ·have:=kY (B:=G) (by decide) hy dr tr' (by omega);omega
   obtain⟨r,r1,r2,r3,r4,r5⟩:=ih m ys R (by omega) (by omega) hy dr ty tr' ly (by omega)
   refine⟨r,?_,r2,r3,by omega,?_⟩
   ·have:0 < ys.length:=List.length_pos_iff.2 h
    rw[fM.l0,fM.r0,decide_eq_true (by omega),brT,e,bdS]
    exact r1
   ·rw[r5,pU val yp R0 lt x0]
def Big(lf:Nat):Prop:=2000000000≤lf∧K < (lf:Int)
theorem agF(lf:Nat)(hb:Big lf){x y:Int}(hx: -K < x∧x < K)(hy: -K < y∧y < K):pO.f lf (bs (Lib.itoa x)) (bs (Lib.itoa y))=some (bs (Lib.itoa (Int.gcd x y)),0,()):=by
 obtain⟨hlf,hK⟩:=hb
 obtain⟨p,q,e,k1,k2,_⟩:=qX lf _ _ (chkK hx) (chkK hy) (by omega)
 rw[eY]at k1 k2
 have vx:lv G p.2.1=(x.natAbs:Int):=by
  have:=k1.val
  have:=bG (B:=G) (by decide) k1.dg
  split at*<;> omega
 have vy:lv G q.2.1=(y.natAbs:Int):=by
  have:=k2.val
  have:=bG (B:=G) (by decide) k2.dg
  split at*<;> omega
 obtain⟨r,r1,r2,r3,r4,r5⟩:=xZ lf hlf (lf+39) (lf+40) p.2.1 q.2.1 (by omega) (by omega) k1.dg k2.dg k1.tr k2.tr (by have:=k1.len;omega) (by have:=k2.len;omega)
 rw[vx,vy]at r5
 have g:(Int.gcd (x.natAbs:Int) (y.natAbs:Int):Int)=(Int.gcd x y:Int):=by
  rw[Int.gcd_natCast_natCast];rfl
 have rn:RN (false,r,()) (Int.gcd x y) 4096:=⟨r2,r3,by have:=k1.len;have:=k2.len;simp only;omega,by simp only[Bool.false_eq_true,if_false];rw[r5,g]⟩
 rw[pO.f,e,bdS]
 simp only[bne_self_eq_false,brF]
 rw[fM.f,r1,bdS,bdS,qW lf rn (by omega) (by omega),bdS]
theorem nG(lf:Nat)(z:Int):aZ.f lf (bs (Lib.itoa z))=some (bs (Lib.itoa (z.natAbs:Int)),()):=by
 rw[aZ.f,jm lf _ (jS z),bdS]
 simp only
 rw[rJ]
 have e':Lib.itoa (z.natAbs:Int)=D z.natAbs:=by unfold Lib.itoa;rw[if_neg (by omega)];rfl
 rw[e']
 by_cases hn:z < 0
 ·have e:Lib.itoa z=45::D z.natAbs:=by unfold Lib.itoa;rw[if_pos hn]
  rw[decide_eq_true hn,brT,e,qM (45::D z.natAbs) 1 1 rfl (by simp),bdS]
  rfl
 ·have e:Lib.itoa z=D z.natAbs:=by unfold Lib.itoa;rw[if_neg hn];congr 1;omega
  rw[decide_eq_false hn,brF,e]
theorem i0':Lib.itoa 0=[48]:=by unfold Lib.itoa;rw[if_neg (by omega)];exact mg
theorem beq0(z:Int):((bs (Lib.itoa z)).toList==(⟨#[48]⟩:ByteArray).toList)=decide (z=0):=by
 rw[show(⟨#[48]⟩:ByteArray)=bs [48] from rfl,kP,←i0']
 simp only[decide_eq_decide]
 exact⟨fun e=>nC e,fun e=>by rw[e]⟩
theorem abb(lf:Nat)(h3:200000≤lf):∀ (k n:Nat) (x y:Int),0≤x→0≤y→y≤k→k < n→sz x≤20000→sz y≤20000→
  bZ.l0 lf n (bs (Lib.itoa x)) (bs (Lib.itoa y))=some ((bs (Lib.itoa (Int.gcd x y)),()),()):=by
 intro k
 induction k with
 | zero =>
  intro n x y x0 y0 hk hn sx sy
  obtain⟨m,rfl⟩:=Nat.exists_eq_succ_of_ne_zero (show n≠0 by omega)
  obtain rfl:y=0:=by omega
  rw[bZ.l0,bZ.r0,beq0,decide_eq_true rfl,Bool.not_true,brF,Int.gcd_zero_right,show((x.natAbs:Nat):Int)=x by omega]
 | succ k ih =>
  intro n x y x0 y0 hk hn sx sy
  obtain⟨m,rfl⟩:=Nat.exists_eq_succ_of_ne_zero (show n≠0 by omega)
  rw[bZ.l0,bZ.r0,beq0]
  by_cases h:y=0
  ·subst h
   rw[decide_eq_true rfl,Bool.not_true,brF,Int.gcd_zero_right,show((x.natAbs:Nat):Int)=x by omega]
  ·have m1:=Int.mul_fdiv_add_fmod x y
   have a:=Int.fmod_nonneg_of_pos x (show 0 < y by omega)
   have b:=Int.fmod_lt_of_pos x (show 0 < y by omega)
   have sr:sz (x.fmod y)≤20000:=by
    have:=qC sy (by omega)
    exact uM (by omega) (by omega)
   rw[decide_eq_false h,Bool.not_false,brT,qL lf h3 sx sy h,bdS]
   have:=ih m y (x.fmod y) (by omega) a (by omega) (by omega) sy sr
   rw[pU m1.symm (by omega) a b x0]at this
   exact this
theorem sO(lf:Nat)(hb:Big lf){x y:Int}(hx: -K < x∧x < K)(hy: -K < y∧y < K):bZ.f lf (bs (Lib.itoa x)) (bs (Lib.itoa y))=some (bs (Lib.itoa (Int.gcd x y)),()):=by
 obtain⟨hlf,hK⟩:=hb
 have sx:=(sz_K (x.natAbs:Int)).2 (by omega)
 have sy:=(sz_K (y.natAbs:Int)).2 (by omega)
 rw[bZ.f,nG,bdS,nG,bdS,abb lf (by omega) (lf+39) (lf+40) _ _ (by omega) (by omega) (by omega) (by omega) (by omega) (by omega),bdS]
 have g:(Int.gcd (x.natAbs:Int) (y.natAbs:Int))=Int.gcd x y:=by rw[Int.gcd_natCast_natCast];rfl
 rw[g]
end Go.N
namespace Go.N
open Go Go.Q Go.Rx
def ckc(em:Bool)(l h:List UInt8):Int :=
 if em=true then(if l≠[]∨h≠[]then 3 else 0)else if num l≠0 then num l else if num h≠0 then num h else if iv l < 0∨(iv l≠0∧(iv h < 0∨¬iv h < iv l))then 2 else 0
theorem afu(lf:Nat)(l:List UInt8)(hl:l.length≤9223372036854775807)(hf:l.length≤lf):iM.f lf (bs l)=some (num l,()):=by
 rw[iM.f,ady lf l hl hf,bdS]
 unfold num chk
 cases hc:can l with
 | false=>simp[brT]
 | true =>
  simp only[Bool.not_true,brF,if_true]
  rw[nO lf l (jT hc).2.2 hl,bdS]
  by_cases h:nlen l > 100
  ·rw[decide_eq_true (by omega),brT]
   by_cases h2:nlen l > 4096
   ·rw[if_pos h2];rfl
   ·rw[if_neg h2,if_neg (by simp),if_pos h]
  ·rw[decide_eq_false (by omega),brF,if_neg (show ¬nlen l > 4096 by omega),if_neg (by simp),if_neg h]
theorem adM(lf:Nat)(l:List UInt8)(hl:l.length≤9223372036854775807):gB.f lf (bs l)=some (decide (nlen l > 100),()):=by
 have:=wz l
 rw[gB.f,oC,bdS,iJ]
 congr 2
 simp only[decide_eq_decide];unfold nlen;omega
theorem numC(lf:Nat)(l:List UInt8)(hl:l.length≤9223372036854775807):jD.f lf (bs l)=some (num l,()):=by
 rw[jD.f,qf lf l hl,bdS]
 simp only[adM lf l hl,bdS]
 unfold num
 by_cases h:chk l=0
 ·rw[h]
  simp only[show((0:Int)==10)=false from rfl,brF,BEq.rfl,brT,bne_self_eq_false,ne_eq,not_true,if_false]
  by_cases h2:nlen l > 100
  ·rw[decide_eq_true h2,brT,if_pos h2]
  ·rw[decide_eq_false h2,brF,if_neg h2]
 ·rw[if_pos h,show(chk l==0)=false from beq_eq_false_iff_ne.2 h,brF,bneT h,brT]
  by_cases h2:chk l=10
  ·rw[h2,BEq.rfl,brT]
  ·rw[show(chk l==10)=false from beq_eq_false_iff_ne.2 h2,brF]
theorem xu(lf:Nat)(l m:List UInt8)(h1:chk l=0)(h2:chk m=0)(h3:200000≤lf):gu.f lf (bs l) (bs m)=some (decide (iv l < iv m),()):=by
 rw[gu.f,uO lf l m h1 h2 h3,bdS]
 simp only
 rw[kN.f,bdS]
 congr 2
 simp only[decide_eq_decide];unfold sgn;(repeat' split)<;>omega
theorem afr(lf:Nat)(h3:200000≤lf)(em:Bool)(l h:List UInt8)(hl:l.length≤9223372036854775807)(hh:h.length≤9223372036854775807):dV.f lf (em,bs l,bs h,())=some (ckc em l h,()):=by
 rw[dV.f]
 simp only[e0,kP,numC lf l hl,numC lf h hh,bdS]
 unfold ckc
 cases em with
 | true =>
  rw[brT,if_pos rfl]
  by_cases c1:l=[]<;>by_cases c2:h=[]<;>simp[c1,c2,brT,brF]
 | false =>
  rw[brF,if_neg (by simp)]
  by_cases c1:num l=0
  ·rw[c1,bne_self_eq_false,brF,if_neg (by simp)]
   by_cases c2:num h=0
   ·rw[c2,bne_self_eq_false,brF,if_neg (by simp)]
    have k1:=qm c1
    have k2:=qm c2
    have z:(⟨#[48]⟩:ByteArray)=bs [48]:=rfl
    rw[z,xu lf l [48] k1 afq h3,bdS,xu lf h [48] k2 afq h3,xu lf h l k2 k1 h3,iv48]
    simp only[bdS]
    have e:l=[48]↔iv l=0:=(wu (kS.1 k1).1).symm
    by_cases a:iv l < 0
    ·rw[decide_eq_true a,brT,if_pos (.inl a)]
    ·rw[decide_eq_false a,brF]
     by_cases b:iv l=0
     ·rw[decide_eq_true (e.2 b),Bool.not_true,brF,if_neg (by omega)]
     ·rw[decide_eq_false (fun x=>b (e.1 x)),Bool.not_false,brT]
      by_cases c:iv h < 0
      ·rw[decide_eq_true c,brT,if_pos (.inr ⟨b,.inl c⟩)]
      ·rw[decide_eq_false c,brF]
       by_cases d:iv h < iv l
       ·rw[decide_eq_true d,Bool.not_true,brF,if_neg (by omega)]
       ·rw[decide_eq_false d,Bool.not_false,brT,if_pos (.inr ⟨b,.inr d⟩)]
   ·rw[bneT c2,brT,if_pos c2]
  ·rw[bneT c1,brT,if_pos c1]
theorem abq(lf:Nat)(h3:200000≤lf)(em:Bool)(l h:List UInt8)(hl:l.length≤9223372036854775807)(hh:h.length≤9223372036854775807)(fl:l.length≤lf)(fh:h.length≤lf):jd.f lf (em,bs l,bs h,())=some (ckc em l h,()):=by
 rw[jd.f]
 simp only[e0,kP,afu lf l hl fl,afu lf h hh fh,bdS]
 unfold ckc
 cases em with
 | true =>
  rw[brT,if_pos rfl]
  by_cases c1:l=[]<;>by_cases c2:h=[]<;>simp[c1,c2,brT,brF]
 | false =>
  rw[brF,if_neg (by simp)]
  by_cases c1:num l=0
  ·rw[c1,bne_self_eq_false,brF,if_neg (by simp)]
   by_cases c2:num h=0
   ·rw[c2,bne_self_eq_false,brF,if_neg (by simp)]
    have k1:=qm c1
    have k2:=qm c2
    have l1:=pz c1
    have l2:=pz c2
    have z:(⟨#[48]⟩:ByteArray)=bs [48]:=rfl
    rw[uJ lf l (kS.1 k1).1,bdS,uJ lf h (kS.1 k2).1,zy lf h l (kS.1 k2).1 (kS.1 k1).1 (by omega) (by omega) h3]
    simp only[bdS,afd]
    have e:l=[48]↔iv l=0:=(wu (kS.1 k1).1).symm
    by_cases a:iv l < 0
    ·rw[decide_eq_true a,brT,if_pos (.inl a)]
    ·rw[decide_eq_false a,brF]
     by_cases b:iv l=0
     ·rw[decide_eq_true (e.2 b),Bool.not_true,brF,if_neg (by omega)]
     ·rw[decide_eq_false (fun x=>b (e.1 x)),Bool.not_false,brT]
      by_cases c:iv h < 0
      ·rw[decide_eq_true c,brT,if_pos (.inr ⟨b,.inl c⟩)]
      ·rw[decide_eq_false c,brF]
       by_cases d:iv h < iv l
       ·rw[decide_eq_true d,Bool.not_true,brF,if_neg (by omega)]
       ·rw[decide_eq_false d,Bool.not_false,brT,if_pos (.inr ⟨b,.inr d⟩)]
   ·rw[bneT c2,brT,if_pos c2]
  ·rw[bneT c1,brT,if_pos c1]
structure Cg where
 em:Bool
 m:Int
 r:Int
deriving DecidableEq
def cc(c:Cg):IV:=if c.em=true then(true,bs [],bs [],())else(false,bs (Lib.itoa c.m),bs (Lib.itoa c.r),())
structure WfC(c:Cg):Prop where
 m: -C < c.m∧c.m < C
 r: -C < c.r∧c.r < C
 pos:0≤c.m
 rng:c.m≠0→0≤c.r∧c.r < c.m
def Ec:Cg:=⟨true,0,0⟩
def topC:Cg:=⟨false,1,0⟩
theorem afL{em:Bool}{l h:List UInt8}(hc:ckc em l h=0):∃ c:Cg,((em,bs l,bs h,()):IV)=cc c∧WfC c:=by
 have hC:=C_gt
 unfold ckc at hc
 cases em with
 | true =>
  rw[if_pos rfl]at hc
  have:¬(l≠[]∨h≠[]):=fun x=>by rw[if_pos x]at hc;cases hc
  have l0:l=[]:=by simpa using fun x=>this (.inl x)
  have h0:h=[]:=by simpa using fun x=>this (.inr x)
  subst l0 h0
  exact⟨Ec,rfl,⟨by simp only[Ec];omega,by simp only[Ec];omega,by simp[Ec],fun x=>absurd rfl x⟩⟩
 | false =>
  rw[if_neg (by simp)]at hc
  by_cases c1:num l=0
  ·rw[if_neg (by simp[c1])]at hc
   by_cases c2:num h=0
   ·rw[if_neg (by simp[c2])]at hc
    have n:¬(iv l < 0∨(iv l≠0∧(iv h < 0∨¬iv h < iv l))):=fun x=>by rw[if_pos x]at hc;cases hc
    have i1:=rZ (lK.1 c1).1
    have i2:=rZ (lK.1 c2).1
    refine⟨⟨false,iv l,iv h⟩,by unfold cc;rw[if_neg (by simp)];simp only;rw[←i1,←i2],?_⟩
    rw[i1,pX]at c1
    rw[i2,pX]at c2
    exact⟨c1,c2,by simp only;omega,fun x=>by simp only at x⊢;omega⟩
   ·rw[if_pos c2]at hc;exact absurd hc c2
  ·rw[if_pos c1]at hc;exact absurd hc c1
def clsF(m r:Int):Cg :=
 if sz (m.natAbs:Int) > 100∨sz (if m=0 then r else r.fmod (m.natAbs:Int)) > 100 then topC else⟨false,(m.natAbs:Int),if m=0 then r else r.fmod (m.natAbs:Int)⟩
theorem longI(lf:Nat){z:Int}(hz: -K < z∧z < K):gB.f lf (bs (Lib.itoa z))=some (decide (sz z > 100),()):=by
 have:=nY hz
 rw[adM lf _ (by omega)];rfl
theorem agx(lf:Nat){z:Int}(hz: -K < z∧z < K):pM.f lf (bs (Lib.itoa z))=some (bs (Lib.itoa (z.natAbs:Int)),0,()):=by
 have:=nY hz
 rw[pM.f,qf lf _ (by omega),bdS]
 simp only[chkK hz,bne_self_eq_false,brF]
 rw[oC,bdS,uN]
 have e':Lib.itoa (z.natAbs:Int)=D z.natAbs:=by unfold Lib.itoa;rw[if_neg (by omega)];rfl
 rw[e']
theorem afz:((false,(⟨#[49]⟩:ByteArray),(⟨#[48]⟩:ByteArray),()):IV)=cc topC:=by
 unfold cc topC;rw[if_neg (by simp)];simp only;rw[i1,i0]
theorem vg{x m:Int}(hx: -K < x∧x < K)(hm: -K < m∧m < K)(h0:m≠0): -K < x.fmod m∧x.fmod m < K:=by
 have:=aau (x:=x) h0
 omega
theorem abr(lf:Nat)(hlf:2000000000≤lf){m r:Int}(hm: -K < m∧m < K)(hr: -K < r∧r < K):dB.f lf (bs (Lib.itoa m)) (bs (Lib.itoa r))=some (cc (clsF m r),()):=by
 have ha: -K < (m.natAbs:Int)∧(m.natAbs:Int) < K:=by omega
 rw[dB.f,agx lf hm,bdS]
 simp only[iF.f,bdS,beq0,longI lf ha,fK.f,afz]
 unfold clsF
 by_cases h:m=0
 ·subst h
  simp only[longI lf hr,bdS]
  rw[decide_eq_true (by trivial),Bool.not_true,brF]
  by_cases c1:sz ((0:Int).natAbs:Int) > 100
  ·rw[decide_eq_true c1,brT,if_pos (.inl c1)]
  ·rw[decide_eq_false c1,brF]
   by_cases c2:sz r > 100
   ·rw[decide_eq_true c2,brT,if_pos (.inr (by rw[if_pos trivial];exact c2))]
   ·rw[decide_eq_false c2,brF,if_neg (by rw[if_pos trivial];exact fun x=>x.elim c1 c2),if_pos trivial]
    unfold cc;rw[if_neg (by simp)]
 ·have h':(m.natAbs:Int)≠0:=by omega
  have rk:=vg hr ha h'
  simp only[nP lf hlf hr ha h',bdS,longI lf rk]
  rw[decide_eq_false h',Bool.not_false,brT]
  by_cases c1:sz (m.natAbs:Int) > 100
  ·rw[decide_eq_true c1,brT,if_pos (.inl c1)]
  ·rw[decide_eq_false c1,brF]
   by_cases c2:sz (r.fmod (m.natAbs:Int)) > 100
   ·rw[decide_eq_true c2,brT,if_pos (.inr (by rw[if_neg h];exact c2))]
   ·rw[decide_eq_false c2,brF,if_neg (by rw[if_neg h];exact fun x=>x.elim c1 c2),if_neg h]
    unfold cc;rw[if_neg (by simp)]
theorem zf(lf:Nat){z:Int}(hz: -K < z∧z < K):aK.f lf (bs (Lib.itoa z))=some ((sz z:Int),()):=by
 have:=nY hz
 exact nO lf _ (jS z) (by omega)
theorem adz(n:Nat):decide (((n:Nat):Int) > 100)=decide (n > 100):=by simp only[decide_eq_decide];omega
theorem rV(lf:Nat)(h3:200000≤lf){m r:Int}(hm: -K < m∧m < K)(hr: -K < r∧r < K):dP.f lf (bs (Lib.itoa m)) (bs (Lib.itoa r))=some (cc (clsF m r),()):=by
 have ha: -K < (m.natAbs:Int)∧(m.natAbs:Int) < K:=by omega
 rw[dP.f,nG,bdS]
 simp only[beq0,zf lf ha,bdS,dX.f,afz,adz]
 unfold clsF
 by_cases h:m=0
 ·subst h
  simp only[zf lf hr,bdS,adz]
  rw[decide_eq_true (by trivial),Bool.not_true,brF]
  by_cases c1:sz ((0:Int).natAbs:Int) > 100
  ·rw[decide_eq_true c1,brT,if_pos (.inl c1)]
  ·rw[decide_eq_false c1,brF]
   by_cases c2:sz r > 100
   ·rw[decide_eq_true c2,brT,if_pos (.inr (by rw[if_pos trivial];exact c2))]
   ·rw[decide_eq_false c2,brF,if_neg (by rw[if_pos trivial];exact fun x=>x.elim c1 c2),if_pos trivial]
    unfold cc;rw[if_neg (by simp)]
 ·have h':(m.natAbs:Int)≠0:=by omega
  have rk:=vg hr ha h'
  have s1:=szK hr
  have s2:=szK ha
  simp only[qL lf h3 (x:=r) (y:=(m.natAbs:Int)) (by omega) (by omega) h',bdS,zf lf rk,adz]
  rw[decide_eq_false h,Bool.not_false,brT]
  by_cases c1:sz (m.natAbs:Int) > 100
  ·rw[decide_eq_true c1,brT,if_pos (.inl c1)]
  ·rw[decide_eq_false c1,brF]
   by_cases c2:sz (r.fmod (m.natAbs:Int)) > 100
   ·rw[decide_eq_true c2,brT,if_pos (.inr (by rw[if_neg h];exact c2))]
   ·rw[decide_eq_false c2,brF,if_neg (by rw[if_neg h];exact fun x=>x.elim c1 c2),if_neg h]
    unfold cc;rw[if_neg (by simp)]
def dvd'(m a:Int):Bool:=if m=0 then decide (a=0)else decide (a.fmod m=0)
theorem uS(lf:Nat)(hlf:2000000000≤lf){m a:Int}(hm: -K < m∧m < K)(ha: -K < a∧a < K):fE.f lf (bs (Lib.itoa m)) (bs (Lib.itoa a))=some (dvd' m a,()):=by
 rw[fE.f,beq0]
 unfold dvd'
 by_cases h:m=0
 ·rw[decide_eq_true h,brT,if_pos h,beq0]
 ·rw[decide_eq_false h,brF,if_neg h,nP lf hlf ha hm h,bdS,iF.f,bdS,beq0]
theorem qh(lf:Nat)(h3:200000≤lf){m a:Int}(hm:sz m≤20000)(ha:sz a≤20000):dZ.f lf (bs (Lib.itoa m)) (bs (Lib.itoa a))=some (dvd' m a,()):=by
 rw[dZ.f,beq0]
 unfold dvd'
 by_cases h:m=0
 ·rw[decide_eq_true h,brT,if_pos h,beq0]
 ·rw[decide_eq_false h,brF,if_neg h,qL lf h3 ha hm h,bdS,beq0]
end Go.N
namespace Go.N
open Go Go.Q Go.Rx
theorem rD{k x y:Int}(hx: -k < x∧x < k)(hy: -k < y∧y < k): -k < (Int.gcd x y:Int)∧(Int.gcd x y:Int) < k:=by
 by_cases h:x=0
 ·subst h;rw[Int.gcd_zero_left];omega
 ·have:=Nat.gcd_le_left y.natAbs (show 0 < x.natAbs by omega)
  have e:Int.gcd x y=Nat.gcd x.natAbs y.natAbs:=rfl
  omega
section
variable (lf:Nat)(hb:Big lf)
include hb
theorem aaU{x y:Int}(hx: -K < x∧x < K)(hy: -K < y∧y < K):dN.f lf (bs (Lib.itoa x)) (bs (Lib.itoa y))=some (bs (Lib.itoa (Int.gcd x y)),()):=by
 rw[dN.f,agF lf hb hx hy,bdS,iF.f,bdS]
theorem wO{x y:Int}(hx: -K < x∧x < K)(hy: -K < y∧y < K)(h: -K < x-y∧x-y < K):dm.f lf (bs (Lib.itoa x)) (bs (Lib.itoa y))=some (bs (Lib.itoa (x-y)),()):=by
 have:=(sz_K (x-y)).2 h
 rw[dm.f,afx lf _ _ (chkK hx) (chkK hy) (by have:=hb.1;omega),eY,eY,qi,if_neg (by omega),bdS,iF.f,bdS]
theorem afJ{x y:Int}(hx: -K < x∧x < K)(hy: -K < y∧y < K)(h: -K < x+y∧x+y < K):jX.f lf (bs (Lib.itoa x)) (bs (Lib.itoa y))=some (bs (Lib.itoa (x+y)),()):=by
 rw[jX.f,xR lf (by have:=hb.1;omega) hx hy h,bdS,iF.f,bdS]
theorem adm{x y:Int}(hx: -K < x∧x < K)(hy: -K < y∧y < K)(h: -K < x*y∧x*y < K):jy.f lf (bs (Lib.itoa x)) (bs (Lib.itoa y))=some (bs (Lib.itoa (x*y)),()):=by
 rw[jy.f,acU lf (by have:=hb.1;omega) hx hy h,bdS,iF.f,bdS]
end
def joinC(c d:Cg):Cg:=if c.em=true then d else if d.em=true then c else clsF (Int.gcd (Int.gcd c.m d.m) (c.r-d.r)) c.r
theorem iy{c:Cg}(h:c.em=false):cc c=(false,bs (Lib.itoa c.m),bs (Lib.itoa c.r),()):=by unfold cc;rw[if_neg (by simp[h])]
theorem nM{c:Cg}(h:c.em=true):cc c=(true,bs [],bs [],()):=by unfold cc;rw[if_pos h]
theorem aeA{c:Cg}(h:WfC c):∃ (l m:List UInt8),cc c=(c.em,bs l,bs m,())∧ckc c.em l m=0∧l.length≤101∧m.length≤101:=by
 have hK:=ji
 cases e:c.em with
 | true=>exact⟨[],[],nM e,by simp[ckc],by simp,by simp⟩
 | false =>
  have n1:=(pX c.m).2 h.m
  have n2:=(pX c.r).2 h.r
  refine⟨Lib.itoa c.m,Lib.itoa c.r,iy e,?_,pz n1,pz n2⟩
  unfold ckc
  rw[if_neg (by simp),n1,n2,eY,eY,if_neg (by simp),if_neg (by simp),if_neg]
  have a:=h.pos
  have b:=h.rng
  intro x
  rcases x with x | ⟨x,y⟩
  ·omega
  ·have:=b x;omega
section
variable (lf:Nat)(hb:Big lf){c d:Cg}(hc:WfC c)(hd:WfC d)
include hb hc
theorem ccheck:dV.f lf (cc c)=some (0,()):=by
 obtain⟨l,m,e,h,a,b⟩:=aeA hc
 rw[e,afr lf (by have:=hb.1;omega) _ _ _ (by omega) (by omega),h]
theorem rcheck:jd.f lf (cc c)=some (0,()):=by
 obtain⟨l,m,e,h,a,b⟩:=aeA hc
 have:=hb.1
 rw[e,abq lf (by omega) _ _ _ (by omega) (by omega) (by omega) (by omega),h]
include hd
theorem cboth:dw.f lf (cc c) (cc d)=some (0,()):=by
 rw[dw.f,ccheck lf hb hc,bdS]
 simp only[bne_self_eq_false,brF]
 rw[ccheck lf hb hd,bdS]
theorem bounds:(-K < c.m∧c.m < K)∧(-K < c.r∧c.r < K)∧(-K < d.m∧d.m < K)∧(-K < d.r∧d.r < K)∧(-K < c.r-d.r∧c.r-d.r < K)∧(-K < c.r+d.r∧c.r+d.r < K)∧(-K < c.m*d.m∧c.m*d.m < K)∧(-K < c.m*d.r∧c.m*d.r < K)∧(-K < d.m*c.r∧d.m*c.r < K)∧(-K < c.r*d.r∧c.r*d.r < K):=by
 have hK:=CC_K
 have hC:=C_gt
 have hCK:=ji
 have h4:0≤C*C:=Int.mul_nonneg (by omega) (by omega)
 have a1:=hc.m
 have a2:=hc.r
 have a3:=hd.m
 have a4:=hd.r
 have m1:=vJ a1 a3
 have m2:=vJ a1 a4
 have m3:=vJ a3 a2
 have m4:=vJ a2 a4
 refine⟨by omega,by omega,by omega,by omega,by omega,by omega,by omega,by omega,by omega,by omega⟩
theorem adF:jK.f lf (cc c) (cc d)=some (cc (joinC c d),0,()):=by
 obtain⟨b1,b2,b3,b4,b5,b6,b7,b8,b9,b10⟩:=bounds lf hb hc hd
 rw[jK.f,cboth lf hb hc hd,bdS]
 unfold joinC
 cases ec:c.em with
 | true=>rw[nM ec];simp only[bne_self_eq_false,brF,brT,if_true]
 | false=>cases ed:d.em with
  | true=>rw[iy ec,nM ed];simp only[bne_self_eq_false,brF,brT,if_true,if_false,Bool.false_eq_true];rw[iy ec]
  | false =>
   rw[iy ec,iy ed]
   have g1:=rD b1 b3
   simp only[bne_self_eq_false,brF,if_false,Bool.false_eq_true,aaU lf hb b1 b3,wO lf hb b2 b4 b5,bdS,aaU lf hb g1 b5,abr lf hb.1 (rD g1 b5) b2]
theorem aaC:gZ.f lf (cc c) (cc d)=some (cc (joinC c d),()):=by
 obtain⟨b1,b2,b3,b4,b5,b6,b7,b8,b9,b10⟩:=bounds lf hb hc hd
 have h3:200000≤lf:=by have:=hb.1;omega
 rw[gZ.f]
 unfold joinC
 cases ec:c.em with
 | true=>rw[nM ec];simp only[brT,if_true]
 | false=>cases ed:d.em with
  | true=>rw[iy ec,nM ed];simp only[brF,brT,if_true,if_false,Bool.false_eq_true];rw[iy ec]
  | false =>
   rw[iy ec,iy ed]
   have g1:=rD b1 b3
   simp only[brF,if_false,Bool.false_eq_true,sO lf hb b1 b3,diffI lf h3 b2 b4,bdS,sO lf hb g1 b5,rV lf h3 (rD g1 b5) b2]
end
end Go.N
namespace Go.N
open Go Go.Q Go.Rx
section
variable (lf:Nat)(hb:Big lf){c d:Cg}(hc:WfC c)(hd:WfC d)
include hb hc hd
end
end Go.N
namespace Go.N
open Go Go.Q Go.Rx
section
variable (lf:Nat)(hb:Big lf){c d:Cg}(hc:WfC c)(hd:WfC d)
include hb hc hd
end
end Go.N
namespace Go.N
open Go Go.Q Go.Rx
theorem vY{m r:Int}:WfC (clsF m r):=by
 have hC:=C_gt
 unfold clsF
 by_cases h:sz (m.natAbs:Int) > 100∨sz (if m=0 then r else r.fmod (m.natAbs:Int)) > 100
 ·rw[if_pos h]
  exact⟨by simp only[topC];omega,by simp only[topC];omega,by simp[topC],fun _=>by simp[topC]⟩
 ·rw[if_neg h]
  have h1:=(sz_C (m.natAbs:Int)).1 (by omega)
  have h2:=(sz_C (if m=0 then r else r.fmod (m.natAbs:Int))).1 (by omega)
  refine⟨h1,h2,by simp only;omega,fun x=>?_⟩
  simp only at x⊢
  have h0:m≠0:=by omega
  rw[if_neg h0]
  exact⟨Int.fmod_nonneg_of_pos r (by omega),Int.fmod_lt_of_pos r (by omega)⟩
theorem wJ:WfC Ec:=by
 have hC:=C_gt
 exact⟨by simp only[Ec];omega,by simp only[Ec];omega,by simp[Ec],fun x=>absurd rfl x⟩
theorem afh:WfC topC:=by
 have hC:=C_gt
 exact⟨by simp only[topC];omega,by simp only[topC];omega,by simp[topC],fun _=>by simp[topC]⟩
theorem oP{c d:Cg}(hc:WfC c)(hd:WfC d):WfC (joinC c d):=by
 unfold joinC;split
 ·exact hd
 ·split
  ·exact hc
  ·exact vY
def inC(c:Cg)(a:Int):Bool:=!c.em&&dvd' c.m (a-c.r)
def iR(c d:Cg):Bool:=if c.em=true then true else if d.em=true then false else dvd' d.m c.m&&dvd' d.m (c.r-d.r)
section
variable (lf:Nat)(hb:Big lf){c d:Cg}(hc:WfC c)(hd:WfC d)
include hb hc hd
theorem wY:iH.f lf (cc c) (cc d)=some (iR c d,()):=by
 obtain⟨b1,b2,b3,b4,b5,b6,b7,b8,b9,b10⟩:=bounds lf hb hc hd
 have hlf:=hb.1
 rw[iH.f]
 unfold iR
 cases ec:c.em with
 | true=>rw[nM ec];simp only[brT,if_true]
 | false=>cases ed:d.em with
  | true=>rw[iy ec,nM ed];simp only[brF,brT,if_true,if_false,Bool.false_eq_true]
  | false =>
   rw[iy ec,iy ed]
   simp only[brF,if_false,Bool.false_eq_true,uS lf hlf b3 b1,wO lf hb b2 b4 b5,uS lf hlf b3 b5,bdS]
   cases dvd' d.m c.m with
   | true=>simp only[brT,Bool.true_and]
   | false=>simp only[brF,Bool.false_and]
theorem agN:lZ.f lf (cc c) (cc d)=some (iR c d,0,()):=by
 rw[lZ.f,cboth lf hb hc hd,bdS]
 simp only[BEq.rfl,brT,wY lf hb hc hd,bdS]
theorem adD:jC.f lf (cc c) (cc d)=some (iR c d,()):=by
 obtain⟨b1,b2,b3,b4,b5,b6,b7,b8,b9,b10⟩:=bounds lf hb hc hd
 have h3:200000≤lf:=by have:=hb.1;omega
 have s1:=szK b1
 have s3:=szK b3
 have s5:=szK b5
 rw[jC.f]
 unfold iR
 cases ec:c.em with
 | true=>rw[nM ec];simp only[brT,if_true]
 | false=>cases ed:d.em with
  | true=>rw[iy ec,nM ed];simp only[eU.f,Bool.not_true,brF,brT,bdS,if_true,if_false,Bool.false_eq_true]
  | false =>
   rw[iy ec,iy ed]
   simp only[eU.f,Bool.not_false,brF,brT,if_false,Bool.false_eq_true,diffI lf h3 b2 b4,qh lf h3 (m:=d.m) (a:=c.r-d.r) (by omega) (by omega),qh lf h3 (m:=d.m) (a:=c.m) (by omega) (by omega),bdS]
   cases dvd' d.m (c.r-d.r)with
   | true=>simp only[brT,Bool.and_true]
   | false=>simp only[brF,Bool.and_false]
end
section
variable (lf:Nat)(hb:Big lf){c:Cg}(hc:WfC c)
include hb hc
theorem in_r{a:Int}(ha: -Dd < a∧a < Dd):eU.f lf (cc c) (bs (Lib.itoa a))=some (inC c a,()):=by
 have h3:200000≤lf:=by have:=hb.1;omega
 have hD:=DD_K
 have hC:=C_gt
 have hCD:=lX
 have h4:0≤Dd*Dd:=Int.mul_nonneg (by omega) (by omega)
 have bm:=hc.m
 have br':=hc.r
 rw[eU.f]
 unfold inC
 cases ec:c.em with
 | true=>rw[nM ec];simp only[Bool.not_true,brF,Bool.false_and]
 | false =>
  rw[iy ec]
  have s1:=szK (CK bm)
  have s2:=szK (z:=a-c.r) (by omega)
  simp only[Bool.not_false,brT,Bool.true_and,diffI lf h3 (x:=a) (y:=c.r) (by omega) (by omega),bdS,qh lf h3 (m:=c.m) (a:=a-c.r) (by omega) (by omega)]
end
end Go.N
namespace Go.N
open Go Go.Q Go.Rx
def negC(c:Cg):Cg:=if c.em=true then Ec else clsF c.m (-c.r)
theorem abP{c:Cg}:WfC (negC c):=by unfold negC;split;exact wJ;exact vY
section
variable (lf:Nat)(hb:Big lf){c:Cg}(hc:WfC c)
include hb hc
theorem aa7:iW.f lf (cc c)=some (cc (negC c),()):=by
 have h3:200000≤lf:=by have:=hb.1;omega
 have bm:=CK hc.m
 have br':=CK hc.r
 rw[iW.f]
 unfold negC
 cases ec:c.em with
 | true=>rw[nM ec];simp only[brT,if_true];rfl
 | false =>
  rw[iy ec]
  simp only[brF,if_false,Bool.false_eq_true,rM lf br',bdS,rV lf h3 bm (r:= -c.r) (by omega)]
end
end Go.N
namespace Go.N
open Go Go.Q Go.Rx
def aboveC(c:Cg)(a:Int):Option Int:=if c.m=0 then(if c.r < a then none else some c.r)else some (a+(c.r-a).fmod c.m)
theorem uj{x y m:Int}(h:0 < m):(x.fmod m-y.fmod m).fmod m=(x-y).fmod m:=by
 rw[Int.fmod_eq_emod_of_nonneg _ (Int.le_of_lt h),Int.fmod_eq_emod_of_nonneg _ (Int.le_of_lt h),Int.fmod_eq_emod_of_nonneg _ (Int.le_of_lt h),Int.fmod_eq_emod_of_nonneg _ (Int.le_of_lt h),←Int.sub_emod]
section
variable (lf:Nat)(hb:Big lf){c:Cg}(hc:WfC c)(he:c.em=false){a:Int}(ha: -Dd < a∧a < Dd)
include hb hc he ha
theorem aeY:kT.f lf (cc c) (bs (Lib.itoa a))=some (match aboveC c a with
  | none=>(bs [],6,())
  | some v=>(bs (Lib.itoa v),0,())):=by
 have hlf:=hb.1
 have hD:=DD_K
 have hC:=C_gt
 have hCD:=lX
 have h4:0≤Dd*Dd:=Int.mul_nonneg (by omega) (by omega)
 have ka: -K < a∧a < K:=by omega
 have hl:=nY ka
 have m1:=hc.m
 have r1:=hc.r
 have bm:=CK hc.m
 have br':=CK hc.r
 rw[kT.f,ccheck lf hb hc,bdS]
 simp only[bne_self_eq_false,brF,qf lf (Lib.itoa a) (by omega),chkK ka,bdS]
 rw[iy he]
 simp only[brF,beq0]
 unfold aboveC
 by_cases z:c.m=0
 ·rw[decide_eq_true z,Bool.not_true,brF,if_pos z,xu lf _ _ (chkK br') (chkK ka) (by omega),eY,eY,bdS]
  simp only
  by_cases h:c.r < a
  ·rw[decide_eq_true h,brT,if_pos h]
  ·rw[decide_eq_false h,brF,if_neg h]
 ·have p:0 < c.m:=by have:=hc.pos;omega
  have k1:=vg br' bm z
  have k2:=vg ka bm z
  have g1:=Int.fmod_nonneg_of_pos c.r p
  have g2:=Int.fmod_lt_of_pos c.r p
  have g3:=Int.fmod_nonneg_of_pos a p
  have g4:=Int.fmod_lt_of_pos a p
  have k3: -K < c.r.fmod c.m-a.fmod c.m∧c.r.fmod c.m-a.fmod c.m < K:=by omega
  have g5:=Int.fmod_nonneg_of_pos (c.r-a) p
  have g6:=Int.fmod_lt_of_pos (c.r-a) p
  rw[decide_eq_false z,Bool.not_false,brT,if_neg z,iU.f,nP lf hlf br' bm z,bdS]
  simp only[bne_self_eq_false,brF,nP lf hlf ka bm z,bdS,wO lf hb k1 k2 k3,nP lf hlf k3 bm z,uj p,xR lf (by omega) ka (y:=(c.r-a).fmod c.m) (by omega) (by omega)]
theorem abl:iE.f lf (cc c) (bs (Lib.itoa a))=some (match aboveC c a with
  | none=>(bs [],false,())
  | some v=>(bs (Lib.itoa v),true,())):=by
 have h3:200000≤lf:=by have:=hb.1;omega
 have hD:=DD_K
 have hC:=C_gt
 have hCD:=lX
 have h4:0≤Dd*Dd:=Int.mul_nonneg (by omega) (by omega)
 have ka: -K < a∧a < K:=by omega
 have m1:=hc.m
 have r1:=hc.r
 have bm:=CK hc.m
 have br':=CK hc.r
 rw[iE.f,iy he]
 simp only[beq0]
 unfold aboveC
 by_cases z:c.m=0
 ·rw[decide_eq_true z,brT,if_pos z,lessI lf h3 br' ka,bdS]
  simp only
  by_cases h:c.r < a
  ·rw[decide_eq_true h,brT,if_pos h]
  ·rw[decide_eq_false h,brF,if_neg h]
 ·have p:0 < c.m:=by have:=hc.pos;omega
  have g5:=Int.fmod_nonneg_of_pos (c.r-a) p
  have g6:=Int.fmod_lt_of_pos (c.r-a) p
  have kd: -K < c.r-a∧c.r-a < K:=by omega
  have s1:=szK kd
  have s2:=szK bm
  simp only[decide_eq_false z,brF,if_neg z,diffI lf h3 br' ka,bdS,qL lf h3 (x:=c.r-a) (y:=c.m) (by omega) (by omega) z,sumI lf h3 ka (y:=(c.r-a).fmod c.m) (by omega)]
end
end Go.N
namespace Go.N
open Go Go.Q Go.Rx
def belowC(c:Cg)(a:Int):Option Int:=if c.m=0 then(if a < c.r then none else some c.r)else some (a-(a-c.r).fmod c.m)
theorem vX{m r:Int}(h0:0≤m)(hm: -C < m∧m < C)(hr: -C < r∧r < C):clsF m r=⟨false,m,if m=0 then r else r.fmod m⟩:=by
 have e:(m.natAbs:Int)=m:=by omega
 unfold clsF
 rw[e]
 have s1:=(sz_C m).2 hm
 have s2:sz (if m=0 then r else r.fmod m)≤100:=by
  apply (sz_C _).2
  split
  ·exact hr
  ·have a:=Int.fmod_nonneg_of_pos r (show 0 < m by omega)
   have b:=Int.fmod_lt_of_pos r (show 0 < m by omega)
   omega
 rw[if_neg (by omega)]
theorem acy{c:Cg}(hc:WfC c)(he:c.em=false)(a:Int):belowC c a=(aboveC (negC c) (-a)).map fun v=> -v:=by
 have e:negC c=⟨false,c.m,if c.m=0 then -c.r else(-c.r).fmod c.m⟩:=by
  unfold negC
  rw[if_neg (by simp[he])]
  exact vX hc.pos hc.m (by have:=hc.r;omega)
 rw[e]
 unfold belowC aboveC
 simp only
 by_cases z:c.m=0
 ·simp only[z,if_true]
  by_cases h:a < c.r
  ·rw[if_pos h,if_pos (by omega)];rfl
  ·rw[if_neg h,if_neg (by omega)];simp
 ·have p:0 < c.m:=by have:=hc.pos;omega
  simp only[if_neg z,Option.map_some]
  have k:((-c.r).fmod c.m - -a).fmod c.m=(a-c.r).fmod c.m:=by
   have h1:=uj (x:=(-c.r).fmod c.m) (y:= -a) p
   have h2:=uj (x:= -c.r) (y:= -a) p
   have h3:((-c.r).fmod c.m).fmod c.m=(-c.r).fmod c.m:=by
    rw[Int.fmod_eq_emod_of_nonneg _ (Int.le_of_lt p),Int.fmod_eq_emod_of_nonneg _ (Int.le_of_lt p),Int.emod_emod]
   rw[←h1,h3,h2]
   congr 1;omega
  rw[k]
  congr 1;omega
section
variable (lf:Nat)(hb:Big lf){c:Cg}(hc:WfC c)(he:c.em=false){a:Int}(ha: -Dd < a∧a < Dd)
include hb hc he ha
theorem aeJ:jc.f lf (cc c) (bs (Lib.itoa a))=some (match belowC c a with
  | none=>(bs [],false,())
  | some v=>(bs (Lib.itoa v),true,())):=by
 have hD:=DD_K
 have hC:=C_gt
 have hCD:=lX
 have h4:0≤Dd*Dd:=Int.mul_nonneg (by omega) (by omega)
 have ne:(negC c).em=false:=by
  have:negC c=⟨false,c.m,if c.m=0 then -c.r else(-c.r).fmod c.m⟩:=by
   unfold negC
   rw[if_neg (by simp[he])]
   exact vX hc.pos hc.m (by have:=hc.r;omega)
  rw[this]
 have ab:=abl lf hb abP ne (a:= -a) (by omega)
 rw[jc.f,aa7 lf hb hc,bdS,rM lf (z:=a) (by omega),bdS,ab,bdS,acy hc he]
 cases h:aboveC (negC c) (-a)with
 | none=>simp only[Bool.not_false,brT,Option.map_none]
 | some v =>
  have kv: -K < v∧v < K:=by
   unfold aboveC at h
   have w:=abP (c:=c)
   have m1:=w.m
   have r1:=w.r
   split at h
   ·split at h
    ·cases h
    ·injection h with h;omega
   ·rename_i z
    have p:0 < (negC c).m:=by have:=w.pos;omega
    have g5:=Int.fmod_nonneg_of_pos ((negC c).r - -a) p
    have g6:=Int.fmod_lt_of_pos ((negC c).r - -a) p
    injection h with h
    omega
  simp only[Bool.not_true,brF,Option.map_some,rM lf kv,bdS]
theorem aa0:ja.f lf (cc c) (bs (Lib.itoa a))=some (match belowC c a with
  | none=>(bs [],6,())
  | some v=>(bs (Lib.itoa v),0,())):=by
 have hlf:=hb.1
 have hD:=DD_K
 have hC:=C_gt
 have hCD:=lX
 have h4:0≤Dd*Dd:=Int.mul_nonneg (by omega) (by omega)
 have ka: -K < a∧a < K:=by omega
 have hl:=nY ka
 have m1:=hc.m
 have r1:=hc.r
 have bm:=CK hc.m
 have br':=CK hc.r
 rw[ja.f,ccheck lf hb hc,bdS]
 simp only[bne_self_eq_false,brF,qf lf (Lib.itoa a) (by omega),chkK ka,bdS]
 rw[iy he]
 simp only[brF,beq0]
 unfold belowC
 by_cases z:c.m=0
 ·rw[decide_eq_true z,Bool.not_true,brF,if_pos z,xu lf _ _ (chkK ka) (chkK br') (by omega),eY,eY,bdS]
  simp only
  by_cases h:a < c.r
  ·rw[decide_eq_true h,brT,if_pos h]
  ·rw[decide_eq_false h,brF,if_neg h]
 ·have p:0 < c.m:=by have:=hc.pos;omega
  have k1:=vg br' bm z
  have k2:=vg ka bm z
  have g1:=Int.fmod_nonneg_of_pos c.r p
  have g2:=Int.fmod_lt_of_pos c.r p
  have g3:=Int.fmod_nonneg_of_pos a p
  have g4:=Int.fmod_lt_of_pos a p
  have k3: -K < a.fmod c.m-c.r.fmod c.m∧a.fmod c.m-c.r.fmod c.m < K:=by omega
  have g5:=Int.fmod_nonneg_of_pos (a-c.r) p
  have g6:=Int.fmod_lt_of_pos (a-c.r) p
  have kf: -K < (a-c.r).fmod c.m∧(a-c.r).fmod c.m < K:=by omega
  have kd: -K < a-(a-c.r).fmod c.m∧a-(a-c.r).fmod c.m < K:=by omega
  have sd:=(sz_K _).2 kd
  have sb:=afx lf _ _ (chkK ka) (chkK kf) (by omega)
  rw[eY,eY,qi,if_neg (by omega)]at sb
  rw[decide_eq_false z,Bool.not_false,brT,if_neg z,iU.f,nP lf hlf ka bm z,bdS]
  simp only[bne_self_eq_false,brF,nP lf hlf br' bm z,bdS,wO lf hb k2 k1 k3,nP lf hlf k3 bm z,uj p,sb]
end
end Go.N
namespace Go.N
open Go Go.Q Go.Rx
theorem agL(lf:Nat)(hb:Big lf){x y:Int}(hx:0 < x∧x < C)(hy:0 < y∧y < C):pR.f lf (bs (Lib.itoa x)) (bs (Lib.itoa y))=some (bs (Lib.itoa (x / (Int.gcd x y:Int)*y)),0,()):=by
 have hlf:=hb.1
 have hK:=hb.2
 have hCK:=ji
 have hCC:=CC_K
 have hC:=C_gt
 have kx: -K < x∧x < K:=by omega
 have ky: -K < y∧y < K:=by omega
 obtain⟨p,q,e,k1,k2,_⟩:=qX lf _ _ (chkK kx) (chkK ky) (by omega)
 rw[eY]at k1 k2
 have n1:=bG (B:=G) (by decide) k1.dg
 have n2:=bG (B:=G) (by decide) k2.dg
 have vx:lv G p.2.1=x:=by have:=k1.val;split at this<;>omega
 have vy:lv G q.2.1=y:=by have:=k2.val;split at this<;>omega
 have p0:p.2.1≠[]:=fun h=>by rw[h]at vx;simp only[lv]at vx;omega
 have q0:q.2.1≠[]:=fun h=>by rw[h]at vy;simp only[lv]at vy;omega
 have pl:0 < p.2.1.length:=List.length_pos_iff.2 p0
 have ql:0 < q.2.1.length:=List.length_pos_iff.2 q0
 have l1:=k1.len
 have l2:=k2.len
 obtain⟨g,g1,g2,g3,g4,g5⟩:=xZ lf hlf (lf+39) (lf+40) p.2.1 q.2.1 (by omega) (by omega) k1.dg k2.dg k1.tr k2.tr (by omega) (by omega)
 rw[vx,vy]at g5
 have gp:0 < (Int.gcd x y:Int):=by
  have:=Int.gcd_pos_of_ne_zero_left y (show x≠0 by omega)
  omega
 have g0:g≠[]:=fun h=>by rw[h]at g5;simp only[lv]at g5;omega
 obtain⟨Q,R,d1,d2,d3,d4,d5,d6,d7⟩:=tY lf p.2.1 g k1.dg g2 k1.tr g3 g0 (by omega) (by omega) hlf
 have Q0:=bG (B:=G) (by decide) d2
 have R0:=bG (B:=G) (by decide) d4
 rw[vx,g5]at d6
 rw[g5]at d7
 have dv:(Int.gcd x y:Int)∣x:=Int.gcd_dvd_left x y
 have qv:lv G Q=x / (Int.gcd x y:Int):=by
  obtain⟨k,hk⟩:=dv
  have w:=aac (M:=(Int.gcd x y:Int)) (a:=lv G R) (d:=lv G Q-k) (b:=0) gp (by rw[Int.mul_sub];omega) R0 d7 (by omega) gp
  have:lv G Q=k:=by omega
  rw[this]
  exact(Int.ediv_eq_of_eq_mul_right (show(Int.gcd x y:Int)≠0 by omega) hk).symm
 have qlen:Q.length≤p.2.1.length:=by
  by_cases z:Q.length≤p.2.1.length
  ·exact z
  ·have:=kY (B:=G) (by decide) k1.dg d2 d3 (by omega)
   have:=Int.ediv_le_self (Int.gcd x y:Int) (show 0≤x by omega)
   omega
 obtain⟨r,r1,r2,r3,r4,r5⟩:=zU lf Q q.2.1 d2 k2.dg (by omega) (by omega) (by omega)
 rw[qv,vy]at r5
 have rn:RN (false,r,()) (x / (Int.gcd x y:Int)*y) 8192:=⟨r2,r3,by simp only;omega,by simp only[Bool.false_eq_true,if_false];rw[r5]⟩
 have lt: -K < x / (Int.gcd x y:Int)*y∧x / (Int.gcd x y:Int)*y < K:=by
  have a:=Int.ediv_le_self (Int.gcd x y:Int) (show 0≤x by omega)
  have b:=Int.ediv_nonneg (show 0≤x by omega) (Int.le_of_lt gp)
  have:=vJ (a:=x / (Int.gcd x y:Int)) (b:=y) (by omega) (by omega)
  omega
 have sz':=(sz_K _).2 lt
 rw[pR.f,e,bdS]
 simp only[bne_self_eq_false,brF]
 rw[show(((p.2.1.length:Nat):Int)==0)=false from beq_eq_false_iff_ne.2 (by omega),brF,show(((q.2.1.length:Nat):Int)==0)=false from beq_eq_false_iff_ne.2 (by omega),brF,fM.f,g1,bdS,bdS,d1,bdS,r1,bdS,sG lf rn (by omega) (by omega),qi,if_neg (by omega),bdS]
end Go.N
namespace Go.N
open Go Go.Q Go.Rx
structure Bz(a b r s x z:Int):Prop where
 b0:0 < b
 r0:0 < r
 s0:0≤s
 xr:b∣x*a-r
 zs:b∣z*a-s
 sg:(0≤z∧x≤0∧z*r-x*s=b)∨(z≤0∧0≤x∧z*r-x*s= -b)
 xb: -b≤x∧x≤b
theorem Bz.zb{a b r s x z:Int}(h:Bz a b r s x z): -b≤z∧z≤b:=by
 have r0:=h.r0
 have s0:=h.s0
 have b0:=h.b0
 rcases h.sg with⟨h1,h2,h3⟩ | ⟨h1,h2,h3⟩
 ·have a1:z*1≤z*r:=Int.mul_le_mul_of_nonneg_left (by omega) h1
  have a2:0≤-x*s:=Int.mul_nonneg (by omega) s0
  rw[Int.neg_mul]at a2
  omega
 ·have a1: -z*1≤-z*r:=Int.mul_le_mul_of_nonneg_left (by omega) (by omega)
  have a2:0≤x*s:=Int.mul_nonneg h2 s0
  rw[Int.neg_mul,Int.neg_mul]at a1
  omega
theorem Bz.next{a b r s x z q t:Int}(h:Bz a b r s x z)(hs:0 < s)(hq:r=s*q+t)(t0:0≤t)(q0:0≤q):Bz a b s t z (x-q*z):=by
 have zb:=h.zb
 refine⟨h.b0,hs,t0,h.zs,?_,?_,zb⟩
 ·have e:(x-q*z)*a-t=(x*a-r)-q*(z*a-s):=by
   subst hq;rw[Int.sub_mul,Int.mul_sub,Int.mul_assoc,Int.mul_comm q s];omega
  rw[e]
  exact Int.dvd_sub h.xr (Int.dvd_trans h.zs (Int.dvd_mul_left _ _))
 ·have e:(x-q*z)*s-z*t= -(z*r-x*s):=by
   subst hq;rw[Int.sub_mul,Int.mul_add,Int.mul_comm q z,Int.mul_assoc z q s,Int.mul_comm q s];omega
  rw[e]
  rcases h.sg with⟨h1,h2,h3⟩ | ⟨h1,h2,h3⟩
  ·refine .inr ⟨?_,h1,by rw[h3]⟩
   have:=Int.mul_nonneg q0 h1
   omega
  ·refine .inl ⟨?_,h1,by rw[h3];omega⟩
   have:=Int.mul_nonneg q0 (show 0≤-z by omega)
   rw[Int.mul_neg]at this
   omega
theorem crt{m1 m2 g r1 r2 x k:Int}(g0:0 < g)(h1:0 < m1)(h2:0 < m2)(d1:g∣m1)(d2:g∣m2)(hx:m2∣x*m1-g)(hk:r2-r1=g*k):m2∣(r1+x*k*m1)-r2:=by
 have e:(r1+x*k*m1)-r2=k*(x*m1-g):=by
  rw[Int.mul_sub,Int.mul_comm k g,←hk,Int.mul_comm x k,Int.mul_assoc];omega
 rw[e]
 exact Int.dvd_trans hx (Int.dvd_mul_left _ _)
theorem lcm_dvd{m1 m2 v:Int}(h1:0 < m1)(h2:0 < m2)(a:m1∣v)(b:m2∣v):m1 / (Int.gcd m1 m2:Int)*m2∣v:=by
 have l:(Int.lcm m1 m2:Int)∣v:=Int.coe_lcm_dvd a b
 have e:(Int.lcm m1 m2:Int)=m1 / (Int.gcd m1 m2:Int)*m2:=by
  rw[Int.lcm_eq_mul_div,Int.natCast_ediv,Int.natCast_mul,Int.natAbs_of_nonneg (Int.le_of_lt h1),Int.natAbs_of_nonneg (Int.le_of_lt h2),Int.mul_comm m1 m2,Int.mul_ediv_assoc _ (Int.gcd_dvd_left m1 m2),Int.mul_comm]
 rw[←e];exact l
theorem abG{m1 m2:Int}(h1:0 < m1)(h2:0 < m2):m1 / (Int.gcd m1 m2:Int)*m2=m1*(m2 / (Int.gcd m1 m2:Int)):=by
 have d1:=Int.gcd_dvd_left m1 m2
 have d2:=Int.gcd_dvd_right m1 m2
 rw[←Int.mul_ediv_assoc _ d2,Int.mul_comm _ m2,←Int.mul_ediv_assoc _ d1,Int.mul_comm]
theorem lcm_pos{m1 m2:Int}(h1:0 < m1)(h2:0 < m2):0 < m1 / (Int.gcd m1 m2:Int)*m2:=by
 have gp:0 < (Int.gcd m1 m2:Int):=by
  have:=Int.gcd_pos_of_ne_zero_left m2 (show m1≠0 by omega)
  omega
 have:0 < m1 / (Int.gcd m1 m2:Int):=Int.ediv_pos_of_pos_of_dvd h1 (by omega) (Int.gcd_dvd_left _ _)
 exact Int.mul_pos this h2
theorem acI{L u v:Int}(h:0 < L)(d:L∣u-v):u.fmod L=v.fmod L:=by
 rw[Int.fmod_eq_emod_of_nonneg _ (Int.le_of_lt h),Int.fmod_eq_emod_of_nonneg _ (Int.le_of_lt h)]
 exact Int.emod_eq_emod_iff_emod_sub_eq_zero.2 (Int.emod_eq_zero_of_dvd d)
end Go.N
namespace Go.N
open Go Go.Q Go.Rx
abbrev Nb:Type:=Bool×(List Int×Unit)
theorem RN.natAbs{p:Nb}{z:Int}{k:Nat}(h:RN p z k):lv G p.2.1=(z.natAbs:Int):=by
 have:=h.val
 have:=bG (B:=G) (by decide) h.dg
 split at*<;> omega
theorem RN.small(lf:Nat)(h3:200000≤lf){p:Nb}{z:Int}{k:Nat}(h:RN p z k)(hz: -K < z∧z < K):RN p z 4096:=by
 obtain⟨q,_,_,k1,_⟩:=qX lf _ _ (chkK hz) (chkK hz) h3
 rw[eY]at k1
 refine⟨h.dg,h.tr,?_,h.val⟩
 by_cases l:p.2.1.length≤4096
 ·exact l
 ·have:=kY (B:=G) (by decide) k1.dg h.dg h.tr (by have:=k1.len;omega)
  rw[h.natAbs,k1.natAbs]at this
  omega
theorem RN.nil{p:Nb}{k:Nat}(h:RN p 0 k):p.2.1=[]:=(sW (B:=G) (by decide) h.dg h.tr).1 (by rw[h.natAbs];rfl)
theorem RN.ne{p:Nb}{z:Int}{k:Nat}(h:RN p z k)(h0:z≠0):0 < p.2.1.length:=by
 refine List.length_pos_iff.2 fun e=>h0 ?_
 have:=h.natAbs
 rw[e]at this
 simp only[lv]at this
 omega
theorem ad1(lf:Nat)(h3:200000≤lf){p q:Nb}{x y:Int}{k:Nat}(h1:RN p x k)(h2:RN q y k)(hk:k≤50000):∃ s,di.f lf p q=some (s,())∧RN s (x*y) (k+k):=by
 obtain⟨r,r1,r2,r3,r4,r5⟩:=zU lf p.2.1 q.2.1 h1.dg h2.dg (by have:=h1.len;omega) (by have:=h2.len;omega) h3
 rw[di.f,r1,bdS]
 refine⟨_,rfl,r2,r3,by have:=h1.len;have:=h2.len;simp only;omega,?_⟩
 simp only
 rw[r5,h1.val,h2.val]
 cases p.1<;>cases q.1<;>simp[Int.neg_mul,Int.mul_neg]
section
variable (lf:Nat)(hlf:2000000000≤lf){a b:Int}(hb:b < C)
include hlf hb
theorem yQ{r s bf nw:Nb}{R S X Z:Int}(h1:RN r R 4096)(h2:RN s S 4096)(h3:RN bf X 4096)(h4:RN nw Z 4096)(h:Bz a b R S X Z)(hs:S≠0):
  ∃ q t u v w,aX.f lf r s=some (q,t,())∧di.f lf q nw=some (u,())∧bM.f lf u=some (v,())∧eH.f lf bf v=some (w,())∧
   RN t (R.fmod S) 4096∧RN w (X-R.fdiv S*Z) 4096∧Bz a b S (R.fmod S) Z (X-R.fdiv S*Z):=by
 have hC:=ji
 have sp:0 < S:=by have:=h.s0;omega
 obtain⟨q,t,e1,k1,k2⟩:=qY lf hlf h1 h2 (by omega) hs
 obtain⟨u,e2,k3⟩:=ad1 lf (by omega) k1 (h4.mono (by omega)) (by omega)
 obtain⟨v,e3,k4⟩:=su lf k3
 obtain⟨w,e4,k5⟩:=aaM lf (h3.mono (show 4096≤4096+1+(4096+1) by omega)) k4 (by omega) (by omega)
 rw[←Int.sub_eq_add_neg]at k5
 have m:=Int.mul_fdiv_add_fmod R S
 have n:=h.next sp m.symm (Int.fmod_nonneg_of_pos R sp) (by
  rw[Int.fdiv_eq_ediv_of_nonneg _ (Int.le_of_lt sp)];exact Int.ediv_nonneg (Int.le_of_lt h.r0) (Int.le_of_lt sp))
 have zb:=n.zb
 exact⟨q,t,u,v,w,e1,e2,e3,e4,k2,k5.small lf (by omega) (by omega),n⟩
theorem agz(v0:Bool)(v1:List Int)(v2:Bool)(v3 v8:List Int):∀ (k n:Nat) (r s bf nw:Nb) (R S X Z:Int),S≤k→k < n→RN r R 4096→RN s S 4096→RN bf X 4096→RN nw Z 4096→Bz a b R S X Z→
  ∃ (g bf' nw':Nb) (e:Bool) (X':Int),dh.l2 lf v0 v1 v2 v3 v8 n r.1 r.2.1 s.1 s.2.1 bf.1 bf.2.1 nw.1 nw.2.1=some ((v0,v1,v2,v3,g.1,g.2.1,e,[],v8,bf'.1,bf'.2.1,nw'.1,nw'.2.1,()),())∧
   RN g (Int.gcd R S) 4096∧RN bf' X' 4096∧b∣X'*a-(Int.gcd R S:Int)∧-b≤X'∧X'≤b:=by
 intro k
 induction k with
 | zero =>
  intro n r s bf nw R S X Z hk hn h1 h2 h3 h4 h
  obtain⟨m,rfl⟩:=Nat.exists_eq_succ_of_ne_zero (show n≠0 by omega)
  have s0:=h.s0
  obtain rfl:S=0:=by omega
  have e:=h2.nil
  have r0:=h.r0
  have g:(Int.gcd R 0:Int)=R:=by rw[Int.gcd_zero_right];omega
  refine⟨r,bf,nw,s.1,X,?_,by rw[g];exact h1,h3,by rw[g];exact h.xr,h.xb⟩
  rw[dh.l2,dh.r2,e,decide_eq_false (by simp),brF]
 | succ k ih =>
  intro n r s bf nw R S X Z hk hn h1 h2 h3 h4 h
  obtain⟨m,rfl⟩:=Nat.exists_eq_succ_of_ne_zero (show n≠0 by omega)
  have s0:=h.s0
  have r0:=h.r0
  by_cases hs:S=0
  ·subst hs
   have e:=h2.nil
   have g:(Int.gcd R 0:Int)=R:=by rw[Int.gcd_zero_right];omega
   refine⟨r,bf,nw,s.1,X,?_,by rw[g];exact h1,h3,by rw[g];exact h.xr,h.xb⟩
   rw[dh.l2,dh.r2,e,decide_eq_false (by simp),brF]
  ·obtain⟨q,t,u,v,w,e1,e2,e3,e4,k1,k2,nx⟩:=yQ lf hlf hb h1 h2 h3 h4 h hs
   have sp:0 < S:=by omega
   have f1:=Int.fmod_lt_of_pos R sp
   have gs:(Int.gcd S (R.fmod S))=Int.gcd R S:=pU (Int.mul_fdiv_add_fmod R S).symm sp nx.s0 f1 (by omega)
   obtain⟨g,bf',nw',e,X',i1,i2,i3,i4,i5⟩:=ih m s t nw w S (R.fmod S) Z _ (by omega) (by omega) h2 k1 h4 k2 nx
   rw[gs]at i2 i4
   refine⟨g,bf',nw',e,X',?_,i2,i3,i4,i5⟩
   rw[dh.l2,dh.r2,decide_eq_true (by have:=h2.ne hs;omega),brT]
   have x1:((r.1,r.2.1,()):Nb)=r:=rfl
   have x2:((s.1,s.2.1,()):Nb)=s:=rfl
   have x3:((nw.1,nw.2.1,()):Nb)=nw:=rfl
   have x4:((bf.1,bf.2.1,()):Nb)=bf:=rfl
   rw[x1,x2,x3,x4,e1,bdS,e2,bdS,e3,bdS,e4,bdS]
   exact i1
end
theorem abp(lf:Nat)(hlf:2000000000≤lf){a b:Int}(ha:0 < a∧a < C)(hb:0 < b∧b < C){x y g bf:Nb}{X:Int}(hx:RN x a 4096)(hy:RN y b 4096)(hg:RN g (Int.gcd a b) 4096)(hf:RN bf X 4096)(hX:b∣X*a-(Int.gcd a b:Int)):
  ∃ (Q R:List Int) (q u p m s t:Nb) (o:Nb),af.f lf y.2.1 g.2.1=some (Q,R,())∧aX.f lf bf (false,Q,())=some (q,u,())∧di.f lf x u=some (p,())∧bM.f lf p=some (m,())∧
   eH.f lf g m=some (s,())∧aX.f lf s y=some (t,o,())∧(∃ c1,ax.f lf g=some (c1,()))∧(∃ c2,ax.f lf t=some (c2,()))∧
   ∃ U:Int,ax.f lf u=some (bs (Lib.itoa U),())∧0≤U∧U < C∧b∣U*a-(Int.gcd a b:Int):=by
 have hCK:=ji
 have gp:0 < (Int.gcd a b:Int):=by
  have:=Int.gcd_pos_of_ne_zero_left b (show a≠0 by omega)
  omega
 have g0:g.2.1≠[]:=fun e=>by have:=hg.ne (by omega);rw[e]at this;simp at this
 obtain⟨Q,R,d1,d2,d3,d4,d5,d6,d7⟩:=tY lf y.2.1 g.2.1 hy.dg hg.dg hy.tr hg.tr g0 (by have:=hy.len;omega) (by have:=hg.len;omega) hlf
 have yv:lv G y.2.1=b:=by rw[hy.natAbs];omega
 have gv:lv G g.2.1=(Int.gcd a b:Int):=by rw[hg.natAbs];omega
 rw[yv,gv]at d6
 rw[gv]at d7
 have Q0:=bG (B:=G) (by decide) d2
 have R0:=bG (B:=G) (by decide) d4
 have dv:(Int.gcd a b:Int)∣b:=Int.gcd_dvd_right a b
 have qv:(Int.gcd a b:Int)*lv G Q=b:=by
  obtain⟨k,hk⟩:=dv
  have w:=aac (M:=(Int.gcd a b:Int)) (a:=lv G R) (d:=lv G Q-k) (b:=0) gp (by rw[Int.mul_sub];omega) R0 d7 (by omega) gp
  have:lv G Q=k:=by omega
  rw[this];exact hk.symm
 have qp:0 < lv G Q:=by
  by_cases z:lv G Q=0
  ·rw[z,Int.mul_zero]at qv;omega
  ·omega
 have qb:lv G Q≤b:=by
  have:=Int.mul_le_mul_of_nonneg_right (show 1≤(Int.gcd a b:Int) by omega) Q0
  omega
 have hQ:RN (false,Q,()) (lv G Q) 4096:=(show RN (false,Q,()) (lv G Q) Q.length from⟨d2,d3,Nat.le_refl _,rfl⟩).small lf (by omega) (by omega)
 obtain⟨q,u,e1,k1,k2⟩:=qY lf hlf hf hQ (by omega) (by omega)
 have f0:=Int.fmod_nonneg_of_pos X qp
 have f1:=Int.fmod_lt_of_pos X qp
 obtain⟨p,e2,k3⟩:=ad1 lf (by omega) hx k2 (by omega)
 obtain⟨m,e3,k4⟩:=su lf k3
 obtain⟨s,e4,k5⟩:=aaM lf (hg.mono (show 4096≤4096+4096 by omega)) k4 (by omega) (by omega)
 obtain⟨t,o,e5,k6,k7⟩:=qY lf hlf k5 (hy.mono (by omega)) (by omega) (by omega)
 refine⟨Q,R,q,u,p,m,s,t,o,d1,e1,e2,e3,e4,e5,⟨_,qW lf hg (by omega) (by omega)⟩,⟨_,qW lf k6 (by omega) (by omega)⟩,X.fmod (lv G Q),qW lf k2 (by omega) (by omega),f0,by omega,?_⟩
 have mm:=Int.mul_fdiv_add_fmod X (lv G Q)
 obtain⟨k,hk⟩:=Int.gcd_dvd_left a b
 have e:X.fmod (lv G Q)*a-(Int.gcd a b:Int)=(X*a-(Int.gcd a b:Int))-b*(X.fdiv (lv G Q)*k):=by
  have e1:X.fmod (lv G Q)=X-lv G Q*X.fdiv (lv G Q):=by omega
  have e2:b*(X.fdiv (lv G Q)*k)=lv G Q*X.fdiv (lv G Q)*a:=by
   rw[←qv]
   generalize X.fdiv (lv G Q)=w at *
   generalize lv G Q=z at *
   generalize (Int.gcd a b:Int)=g at *
   rw[hk];grind
  rw[e1,e2,Int.sub_mul];omega
 rw[e]
 exact Int.dvd_sub hX (Int.dvd_mul_right _ _)
theorem adi(lf:Nat)(hb:Big lf){a b:Int}(ha:0 < a∧a < C)(hbb:0 < b∧b < C):
  ∃ (t1 t3:ByteArray) (U:Int),dh.f lf (bs (Lib.itoa a)) (bs (Lib.itoa b))=some (t1,bs (Lib.itoa U),t3,0,())∧0≤U∧U < C∧b∣U*a-(Int.gcd a b:Int):=by
 have hlf:=hb.1
 have hK:=hb.2
 have hCK:=ji
 have ka: -K < a∧a < K:=by omega
 have kb: -K < b∧b < K:=by omega
 obtain⟨x,y,e,k1,k2,n1,n2⟩:=qX lf _ _ (chkK ka) (chkK kb) (by omega)
 rw[eY]at k1 k2
 have na:x.1=false:=by
  cases hx:x.1 with
  | false=>rfl
  | true =>
   have:=k1.val
   have:=bG (B:=G) (by decide) k1.dg
   rw[hx,if_pos rfl]at *;omega
 have nb:y.1=false:=by
  cases hx:y.1 with
  | false=>rfl
  | true =>
   have:=k2.val
   have:=bG (B:=G) (by decide) k2.dg
   rw[hx,if_pos rfl]at *;omega
 have y0:=k2.ne (by omega)
 have B0:Bz a b a b 1 0:=⟨hbb.1,ha.1,by omega,by simp,by simp,.inr ⟨by omega,by omega,by simp⟩,by omega⟩
 have one:RN (false,[1],()) 1 4096:=⟨by intro d hd;simp at hd;subst hd;decide,by unfold Tr;simp,by simp,by decide⟩
 have zer:RN (false,[],()) 0 4096:=⟨nofun,by unfold Tr;simp,by simp,by decide⟩
 have x1:RN (false,x.2.1,()) a 4096:=by have h:=k1;obtain⟨xn,xl,⟨⟩⟩:=x;simp only at na;subst na;exact h
 have y1:RN (false,y.2.1,()) b 4096:=by have h:=k2;obtain⟨xn,xl,⟨⟩⟩:=y;simp only at nb;subst nb;exact h
 obtain⟨q,t,u,v,w,s1,s2,s3,s4,s5,s6,nx⟩:=yQ lf hlf hbb.2 x1 y1 one zer B0 (by omega)
 have gs:(Int.gcd b (a.fmod b))=Int.gcd a b:=pU (Int.mul_fdiv_add_fmod a b).symm hbb.1 nx.s0 (Int.fmod_lt_of_pos a hbb.1) (by omega)
 have f1:(decide (((y.2.1.length:Nat):Int) > 0))=true:=decide_eq_true (by omega)
 have e0:(((y.2.1.length:Nat):Int)==0)=false:=beq_eq_false_iff_ne.2 (by omega)
 by_cases z:a.fmod b=0
 ·rw[z]at s5 nx gs
  have tn:=s5.nil
  rw[Int.gcd_zero_right,show b.natAbs=b.toNat by omega]at gs
  have hg:RN (false,y.2.1,()) (Int.gcd a b) 4096:=by rw[←gs,show((b.toNat:Nat):Int)=b by omega];exact y1
  have hX:b∣0*a-(Int.gcd a b:Int):=by
   rw[←gs,show((b.toNat:Nat):Int)=b by omega,Int.zero_mul,Int.zero_sub];exact Int.dvd_neg.2 (Int.dvd_refl _)
  obtain⟨Q,R,q',u',p',m',s',t',o',g1,g2,g3,g4,g5,g6,⟨c1,g7⟩,⟨c2,g8⟩,U,g9,U0,U1,U2⟩:=abp lf hlf ha hbb k1 k2 hg zer hX
  refine⟨c1,c2,U,?_,U0,U1,U2⟩
  rw[dh.f,e,bdS]
  simp only[bne_self_eq_false,brF,e0]
  rw[show lf+40=lf+38+1+1 from rfl,dh.l0,dh.r0,f1,brT,s1,bdS,s2,bdS,s3,bdS,s4,bdS]
  simp only
  rw[dh.l1,dh.r1,tn,decide_eq_false (by simp),brF]
  have xe:((x.1,x.2.1,()):Nb)=x:=rfl
  have ye:((y.1,y.2.1,()):Nb)=y:=rfl
  simp only[bdS,brT,brF,na,nb,Bool.false_eq_true]at *
  rw[ye]at g5 g7
  simp only[xe,ye,g1,g2,g3,g4,g5,g6,g7,g8,g9,bdS]
 ·obtain⟨q2,t2,u2,v2,w2,r1,r2,r3,r4,r5,r6,ny⟩:=yQ lf hlf hbb.2 y1 s5 zer s6 nx z
  have nx0:=nx.s0
  have sp:0 < a.fmod b:=by omega
  have fl:=Int.fmod_lt_of_pos b sp
  have gs2:(Int.gcd (a.fmod b) (b.fmod (a.fmod b)))=Int.gcd b (a.fmod b):=pU (Int.mul_fdiv_add_fmod b (a.fmod b)).symm sp ny.s0 fl (by omega)
  obtain⟨g,bf,nw,ee,X,l1,l2,l3,l4,l5,l6⟩:=agz lf hlf hbb.2 x.1 x.2.1 y.1 y.2.1 [1] (lf+37) (lf+38) t t2 w w2 _ _ _ _ (by have:=Int.fmod_lt_of_pos a hbb.1;omega) (by omega) s5 r5 s6 r6 ny
  rw[gs2,gs]at l2 l4
  obtain⟨Q,R,q',u',p',m',s',t',o',g1,g2,g3,g4,g5,g6,⟨c1,g7⟩,⟨c2,g8⟩,U,g9,U0,U1,U2⟩:=abp lf hlf ha hbb k1 k2 l2 l3 l4
  refine⟨c1,c2,U,?_,U0,U1,U2⟩
  rw[dh.f,e,bdS]
  simp only[bne_self_eq_false,brF,e0]
  rw[show lf+40=lf+38+1+1 from rfl,dh.l0,dh.r0,f1,brT,s1,bdS,s2,bdS,s3,bdS,s4,bdS]
  simp only
  have te:((t.1,t.2.1,()):Nb)=t:=rfl
  have we:((w.1,w.2.1,()):Nb)=w:=rfl
  rw[dh.l1,dh.r1,decide_eq_true (by have:=s5.ne z;omega),brT,te,we,r1,bdS,r2,bdS,r3,bdS,r4,bdS]
  simp only
  rw[l1]
  have xe:((x.1,x.2.1,()):Nb)=x:=rfl
  have ye:((y.1,y.2.1,()):Nb)=y:=rfl
  have ge:((g.1,g.2.1,()):Nb)=g:=rfl
  have be:((bf.1,bf.2.1,()):Nb)=bf:=rfl
  simp only[bdS,brT,brF,xe,ye,ge,be,g1,g2,g3,g4,g5,g6,g7,g8,g9]
  rw[na,brF]
end Go.N
namespace Go.N
open Go Go.Q Go.Rx
structure Vl where
 a:A
 c:Cg
deriving DecidableEq
abbrev VV:Type:=IV×(IV×Unit)
def vc(v:Vl):VV:=(ac v.a,cc v.c,())
def Ev:Vl:=⟨E0,Ec⟩
def onev(z:Int):Vl:=⟨⟨false,some z,some z⟩,⟨false,0,z⟩⟩
def loC(c:Cg)(a:Int):Int:=a+(c.r-a).fmod c.m
def hiC(c:Cg)(a:Int):Int:=a-(a-c.r).fmod c.m
def fin3(x y:Option Int)(c:Cg):Vl:=match x,y with
 | some x,some y=>if y < x then Ev else if x=y then onev x else⟨⟨false,clip x,clip y⟩,c⟩
 | x,y=>⟨⟨false,x.bind clip,y.bind clip⟩,c⟩
def red(a:A)(c:Cg):Vl:=if a.em=true then Ev else if c.em=true then Ev else if c.m=0 then(if inS (ofA a) c.r=true then onev c.r else Ev)else fin3 (a.lo.map (loC c)) (a.hi.map (hiC c)) c
structure WfV(v:Vl):Prop where
 a:Wf v.a
 c:WfC v.c
 red:red v.a v.c=v
theorem lo_m{c:Cg}(p:0 < c.m)(a:Int):a≤loC c a∧loC c a < a+c.m:=by
 have:=Int.fmod_nonneg_of_pos (c.r-a) p
 have:=Int.fmod_lt_of_pos (c.r-a) p
 unfold loC;omega
theorem hi_m{c:Cg}(p:0 < c.m)(a:Int):hiC c a≤a∧a-c.m < hiC c a:=by
 have:=Int.fmod_nonneg_of_pos (a-c.r) p
 have:=Int.fmod_lt_of_pos (a-c.r) p
 unfold hiC;omega
theorem abA{m a:Int}(p:0 < m):a.fmod m=0↔m∣a:=by
 rw[Int.fmod_eq_emod_of_nonneg _ (Int.le_of_lt p)]
 exact⟨Int.dvd_of_emod_eq_zero,Int.emod_eq_zero_of_dvd⟩
theorem uh{m:Int}(p:0 < m)(a:Int):m∣a-a.fmod m:=by
 rw[Int.fmod_eq_emod_of_nonneg _ (Int.le_of_lt p)]
 exact Int.dvd_self_sub_emod
theorem nJ{c:Cg}(he:c.em=false)(hp:0≤c.m){z:Int}:inC c z=true↔c.m∣z-c.r:=by
 unfold inC dvd'
 rw[he]
 by_cases h:c.m=0
 ·rw[if_pos h,h];simp
 ·rw[if_neg h]
  simp only[Bool.not_false,Bool.true_and,decide_eq_true_eq]
  exact abA (by omega)
theorem abK{c:Cg}(p:0 < c.m)(a:Int):c.m∣loC c a-c.r:=by
 obtain⟨k,hk⟩:=uh p (c.r-a)
 exact⟨-k,by unfold loC;rw[Int.mul_neg,←hk];omega⟩
theorem abC{c:Cg}(p:0 < c.m)(a:Int):c.m∣hiC c a-c.r:=by
 obtain⟨k,hk⟩:=uh p (a-c.r)
 exact⟨k,by unfold hiC;rw[←hk];omega⟩
theorem aa4{c:Cg}(p:0 < c.m){a:Int}(h:c.m∣a-c.r):loC c a=a:=by
 have:(c.r-a).fmod c.m=0:=(abA p).2 (by have:=Int.dvd_neg.2 h;rwa [Int.neg_sub]at this)
 unfold loC;omega
theorem aa1{c:Cg}(p:0 < c.m){a:Int}(h:c.m∣a-c.r):hiC c a=a:=by
 have:(a-c.r).fmod c.m=0:=(abA p).2 h
 unfold hiC;omega
theorem adL{c:Cg}(p:0 < c.m){a z:Int}(h:c.m∣z-c.r)(hz:a≤z):loC c a≤z:=by
 have l:=abK p a
 have b:=lo_m p a
 obtain⟨k,hk⟩:=Int.dvd_sub h l
 have: -1 < k:=by
  by_cases q: -1 < k
  ·exact q
  ·have:=Int.mul_le_mul_of_nonneg_left (show k≤-1 by omega) (Int.le_of_lt p)
   omega
 have:=Int.mul_nonneg (Int.le_of_lt p) (show 0≤k by omega)
 omega
theorem aeP{c:Cg}(p:0 < c.m){a z:Int}(h:c.m∣z-c.r)(hz:z≤a):z≤hiC c a:=by
 have l:=abC p a
 have b:=hi_m p a
 obtain⟨k,hk⟩:=Int.dvd_sub h l
 have:k < 1:=by
  by_cases q:k < 1
  ·exact q
  ·have:=Int.mul_le_mul_of_nonneg_left (show 1≤k by omega) (Int.le_of_lt p)
   omega
 have:=Int.mul_nonneg (Int.le_of_lt p) (show 0≤-k by omega)
 rw[Int.mul_neg]at this
 omega
theorem qF{z:Int}(h: -C < z∧z < C):clip z=some z:=if_pos h
theorem acA{z:Int}(h:¬(-C < z∧z < C)):clip z=none:=if_neg h
theorem Wf.inS{a:A}(h:Wf a)(he:a.em=false){z:Int}(hz: -K < z∧z < K):inS (ofA a) z=true↔(∀ l,a.lo=some l→l≤z)∧∀ u,a.hi=some u→z≤u:=by
 unfold Go.N.inS ofA
 rw[he,if_neg (by simp)]
 simp only[Bool.and_eq_true,decide_eq_true_eq]
 cases a.lo with
 | none=>cases a.hi with
  | none=>simp[lox,hix,key];omega
  | some u=>simp[lox,hix,key];omega
 | some l=>cases a.hi with
  | none=>simp[lox,hix,key];omega
  | some u=>simp[lox,hix,key]
theorem abQ{z:Int}(hz: -C < z∧z < C):Wf (onev z).a∧WfC (onev z).c:=by
 have hC:=C_gt
 exact⟨⟨fun h=>by simp[onev]at h,hz,hz,Int.le_refl _⟩,⟨by simp only[onev];omega,hz,by simp[onev],fun h=>absurd rfl h⟩⟩
theorem afn:Wf Ev.a∧WfC Ev.c:=⟨agW,wJ⟩
theorem adX{z:Int}(hz: -C < z∧z < C):red (onev z).a (onev z).c=onev z:=by
 have h:inS (ofA (onev z).a) z=true:=by
  unfold inS ofA onev
  simp[lox,hix,key]
 unfold red
 rw[if_neg (by simp[onev]),if_neg (by simp[onev]),if_pos (by rfl)]
 exact if_pos h
theorem afC:red Ev.a Ev.c=Ev:=if_pos rfl
theorem adW{z:Int}(hz: -C < z∧z < C):WfV (onev z):=⟨(abQ hz).1,(abQ hz).2,adX hz⟩
theorem Ev_V:WfV Ev:=⟨afn.1,afn.2,afC⟩
theorem afV{c:Cg}(hc:WfC c)(he:c.em=false)(hm:c.m≠0){x y:Option Int}(hx:∀ v,x=some v→c.m∣v-c.r)(hy:∀ v,y=some v→c.m∣v-c.r)(bd:∀ v u,x=some v→y=some u→v=u→-C < v∧v < C):WfV (fin3 x y c):=by
 have p:0 < c.m:=by have:=hc.pos;omega
 have key3:∀ u v:Option Int,(∀ z,u=some z→(-C < z∧z < C)∧c.m∣z-c.r)→(∀ z,v=some z→(-C < z∧z < C)∧c.m∣z-c.r)→(∀ z w,u=some z→v=some w→z < w)→WfV ⟨⟨false,u,v⟩,c⟩:=by
  intro u v hu hv huv
  refine⟨⟨fun h=>by simp at h,?_,?_,?_⟩,hc,?_⟩
  ·cases u with
   | none=>trivial
   | some z=>exact(hu z rfl).1
  ·cases v with
   | none=>trivial
   | some z=>exact(hv z rfl).1
  ·cases u with
   | none=>trivial
   | some z=>cases v with
    | none=>trivial
    | some w=>exact Int.le_of_lt (huv z w rfl rfl)
  ·unfold red
   rw[if_neg (by simp),if_neg (by simp[he]),if_neg hm]
   cases u with
   | none=>cases v with
    | none=>rfl
    | some w =>
     simp only[Option.map,aa1 p (hv w rfl).2,fin3,Option.bind,qF (hv w rfl).1]
   | some z=>cases v with
    | none=>simp only[Option.map,aa4 p (hu z rfl).2,fin3,Option.bind,qF (hu z rfl).1]
    | some w =>
     have:=huv z w rfl rfl
     simp only[Option.map,aa4 p (hu z rfl).2,aa1 p (hv w rfl).2,fin3,qF (hu z rfl).1,qF (hv w rfl).1]
     rw[if_neg (by omega),if_neg (by omega)]
 have cl:∀ z w,clip z=some w→w=z∧-C < z∧z < C:=by
  intro z w h
  unfold clip at h;split at h
  ·cases h;exact⟨rfl,by assumption⟩
  ·cases h
 cases x with
 | none=>cases y with
  | none=>exact key3 none none (fun z h=>by cases h) (fun z h=>by cases h) (fun z w h=>by cases h)
  | some w=>exact key3 none (clip w) (fun z h=>by cases h) (fun z h=>by obtain⟨rfl,h⟩:=cl _ _ h;exact⟨h,hy _ rfl⟩) (fun z w h=>by cases h)
 | some z=>cases y with
  | none=>exact key3 (clip z) none (fun z h=>by obtain⟨rfl,h⟩:=cl _ _ h;exact⟨h,hx _ rfl⟩) (fun z h=>by cases h) (fun z w _ h=>by cases h)
  | some w =>
   unfold fin3
   simp only
   by_cases h1:w < z
   ·rw[if_pos h1];exact Ev_V
   ·rw[if_neg h1]
    by_cases h2:z=w
    ·rw[if_pos h2];exact adW (bd z w rfl rfl h2)
    ·rw[if_neg h2]
     exact key3 (clip z) (clip w) (fun z h=>by obtain⟨rfl,h⟩:=cl _ _ h;exact⟨h,hx _ rfl⟩) (fun z h=>by obtain⟨rfl,h⟩:=cl _ _ h;exact⟨h,hy _ rfl⟩) (fun u v hu hv=>by obtain⟨rfl,_⟩:=cl _ _ hu;obtain⟨rfl,_⟩:=cl _ _ hv;omega)
theorem ad4{a:A}{c:Cg}(ha:Wf a)(hc:WfC c):WfV (red a c):=by
 unfold red
 by_cases e1:a.em=true
 ·rw[if_pos e1];exact Ev_V
 ·by_cases e2:c.em=true
  ·rw[if_neg e1,if_pos e2];exact Ev_V
  ·rw[if_neg e1,if_neg e2]
   by_cases z:c.m=0
   ·rw[if_pos z]
    split
    ·exact adW hc.r
    ·exact Ev_V
   ·rw[if_neg z]
    have p:0 < c.m:=by have:=hc.pos;omega
    have e2:c.em=false:=by simpa using e2
    refine afV hc e2 z ?_ ?_ ?_
    ·intro v h
     cases hl:a.lo with
     | none=>rw[hl]at h;cases h
     | some l=>rw[hl]at h;cases h;exact abK p l
    ·intro v h
     cases hl:a.hi with
     | none=>rw[hl]at h;cases h
     | some l=>rw[hl]at h;cases h;exact abC p l
    ·intro v u h1 h2 h3
     have lk:=ha.lo
     have hk:=ha.hi
     cases hl:a.lo with
     | none=>rw[hl]at h1;cases h1
     | some l =>
      cases hh:a.hi with
      | none=>rw[hh]at h2;cases h2
      | some k =>
       rw[hl]at h1 lk;rw[hh]at h2 hk
       cases h1;cases h2
       have:=lo_m p l
       have:=hi_m p k
       simp only[okb]at lk hk
       omega
end Go.N
namespace Go.N
open Go Go.Q Go.Rx
theorem adC{c:Cg}{z:Int}(h:inC c z=true):c.em=false:=by unfold inC at h;revert h;cases c.em<;>simp
theorem aeR{c:Cg}(hc:WfC c){z:Int}(h:inC c z=true):c.m∣z-c.r:=(nJ (adC h) hc.pos).1 h
theorem aeK(m r:Int):clsF m r=topC∨clsF m r=⟨false,(m.natAbs:Int),if m=0 then r else r.fmod (m.natAbs:Int)⟩:=by
 unfold clsF
 by_cases h:sz (m.natAbs:Int) > 100∨sz (if m=0 then r else r.fmod (m.natAbs:Int)) > 100
 ·exact .inl (if_pos h)
 ·exact .inr (if_neg h)
section
variable {c d:Cg}(hc:WfC c)(hd:WfC d){z w:Int}(hz:inC c z=true)(hw:inC d w=true)
include hc hd hz hw
end
theorem wo(m a:Int)(h:0≤m):dvd' m a=true↔m∣a:=by
 unfold dvd'
 by_cases h0:m=0
 ·rw[if_pos h0,h0];simp
 ·rw[if_neg h0,decide_eq_true_eq];exact abA (by omega)
theorem lF{c d:Cg}(hd:WfC d)(h1:c.em=false)(h2:d.em=false):iR c d=true↔d.m∣c.m∧d.m∣c.r-d.r:=by
 unfold iR
 rw[if_neg (by simp[h1]),if_neg (by simp[h2]),Bool.and_eq_true,wo _ _ hd.pos,wo _ _ hd.pos]
theorem yw{c d:Cg}(hc:WfC c)(hd:WfC d)(h:iR c d=true){z:Int}(hz:inC c z=true):inC d z=true:=by
 have e:=adC hz
 have e2:d.em=false:=by
  unfold iR at h
  rw[if_neg (by simp[e])]at h
  revert h;cases d.em<;>simp
 obtain⟨a,b⟩:=(lF hd e e2).1 h
 refine(nJ e2 hd.pos).2 ?_
 have:=Int.dvd_add (Int.dvd_trans a (aeR hc hz)) b
 rwa [show z-c.r+(c.r-d.r)=z-d.r by omega]at this
theorem rE{c:Cg}(hc:WfC c):iR c c=true:=by
 cases e:c.em with
 | true=>unfold iR;rw[if_pos e]
 | false=>exact(lF hc e e).2 ⟨Int.dvd_refl _,by simp⟩
theorem yu{c d:Cg}(h:c.em=true):iR c d=true:=if_pos h
theorem aaA{c:Cg}(he:c.em=false){m r:Int}(h1:m∣c.m)(h2:m∣c.r-r):iR c (clsF m r)=true:=by
 have w:=vY (m:=m) (r:=r)
 rcases aeK m r with e | e
 ·rw[e];exact(lF afh he rfl).2 ⟨Int.one_dvd _,Int.one_dvd _⟩
 ·rw[e]at w⊢
  refine(lF w he rfl).2 ⟨Int.natAbs_dvd.2 h1,?_⟩
  simp only
  by_cases h0:m=0
  ·rw[if_pos h0];exact Int.natAbs_dvd.2 h2
  ·rw[if_neg h0]
   have d:=uh (show 0 < (m.natAbs:Int) by omega) r
   have:=Int.dvd_add (Int.natAbs_dvd.2 h2) d
   rwa [show c.r-r+(r-r.fmod (m.natAbs:Int))=c.r-r.fmod (m.natAbs:Int) by omega]at this
theorem uo{c d:Cg}(hc:WfC c):iR c (joinC c d)=true:=by
 cases e:c.em with
 | true=>exact yu e
 | false =>
  unfold joinC
  rw[if_neg (by simp[e])]
  split
  ·exact rE hc
  ·exact aaA e (Int.dvd_trans (Int.gcd_dvd_left _ _) (Int.gcd_dvd_left _ _)) (by simp)
theorem afK{c d:Cg}(h:cc c=cc d):c.em=d.em∧(c.em=false→c=d):=by
 unfold cc at h
 cases e1:c.em with
 | true=>cases e2:d.em with
  | true=>exact⟨rfl,nofun⟩
  | false=>rw[if_pos e1,if_neg (by simp[e2])]at h;have:=congrArg Prod.fst h;simp at this
 | false=>cases e2:d.em with
  | true=>rw[if_neg (by simp[e1]),if_pos e2]at h;have:=congrArg Prod.fst h;simp at this
  | false =>
   rw[if_neg (by simp[e1]),if_neg (by simp[e2])]at h
   simp only[Prod.mk.injEq]at h
   refine⟨rfl,fun _=>?_⟩
   have h1:=nC (rq h.2.1)
   have h2:=nC (rq h.2.2.1)
   cases c;cases d;simp_all
end Go.N
namespace Go.N
open Go Go.Q Go.Rx
noncomputable def metC (c d:Cg):Cg :=
 if c.em=true then Ec else if d.em=true then Ec
 else if c.m=0 then(if inC d c.r=true then c else Ec)
 else if d.m=0 then(if inC c d.r=true then d else Ec)
 else if dvd' (Int.gcd c.m d.m) (d.r-c.r)=true then clsF (c.m / (Int.gcd c.m d.m:Int)*d.m) (Classical.epsilon fun z=>c.m∣z-c.r∧d.m∣z-d.r)else Ec
theorem Cg.eta{c:Cg}(h:c.em=false):c=⟨false,c.m,c.r⟩:=by cases c;simp_all
theorem xX{L u v:Int}(h:0 < L)(d:L∣u-v):clsF L u=clsF L v:=by
 have e:(L.natAbs:Int)=L:=by omega
 unfold clsF
 rw[if_neg (show L≠0 by omega),if_neg (show L≠0 by omega),e,acI h d]
theorem xY{c:Cg}(hc:WfC c)(he:c.em=false){v:Int}(h:c.m≠0)(d:c.m∣v-c.r):clsF c.m v=c:=by
 have p:0 < c.m:=by have:=hc.pos;omega
 obtain⟨r0,r1⟩:=hc.rng h
 rw[xX p d,vX hc.pos hc.m hc.r,if_neg h,Int.fmod_eq_emod_of_nonneg _ hc.pos,Int.emod_eq_of_lt r0 r1]
 exact(Cg.eta he).symm
theorem aa6{c d:Cg}(ec:c.em=false)(ed:d.em=false)(pc:0 < c.m)(pd:0 < d.m){v:Int}(h1:c.m∣v-c.r)(h2:d.m∣v-d.r):metC c d=clsF (c.m / (Int.gcd c.m d.m:Int)*d.m) v:=by
 have g:dvd' (Int.gcd c.m d.m) (d.r-c.r)=true:=by
  refine(wo _ _ (Int.natCast_nonneg _)).2 ?_
  have:=Int.dvd_sub (Int.dvd_trans (Int.gcd_dvd_left c.m d.m) h1) (Int.dvd_trans (Int.gcd_dvd_right c.m d.m) h2)
  rwa [show v-c.r-(v-d.r)=d.r-c.r by omega]at this
 unfold metC
 rw[if_neg (by simp[ec]),if_neg (by simp[ed]),if_neg (by omega),if_neg (by omega),if_pos g]
 obtain⟨k1,k2⟩:=Classical.epsilon_spec (p:=fun z=>c.m∣z-c.r∧d.m∣z-d.r) ⟨v,h1,h2⟩
 refine xX (lcm_pos pc pd) (lcm_dvd pc pd ?_ ?_)
 ·have:=Int.dvd_sub k1 h1
  rwa [show ∀ x:Int,x-c.r-(v-c.r)=x-v from fun x=>by omega]at this
 ·have:=Int.dvd_sub k2 h2
  rwa [show ∀ x:Int,x-d.r-(v-d.r)=x-v from fun x=>by omega]at this
theorem wW{a b:Int}(hb:0 < b)(h:b∣a):(Int.gcd a b:Int)=b:=by
 have:Int.gcd a b=b.natAbs:=by
  have:=Int.gcd_eq_right_iff_dvd (Int.le_of_lt hb) (a:=a)
  first
   | exact Int.ofNat.inj (by have:=this.2 h;rw[←Int.natAbs_of_nonneg (Int.le_of_lt hb)]at this;exact this)
   | omega
 omega
section
variable {c d:Cg}(hc:WfC c)(hd:WfC d)(ec:c.em=false)(ed:d.em=false)
include hc hd ec ed
theorem vI(h:iR c d=true):metC c d=c:=by
 obtain⟨a,b⟩:=(lF hd ec ed).1 h
 by_cases z:c.m=0
 ·unfold metC
  rw[if_neg (by simp[ec]),if_neg (by simp[ed]),if_pos z,if_pos ((nJ ed hd.pos).2 b)]
 ·have pc:0 < c.m:=by have:=hc.pos;omega
  have pd:0 < d.m:=by
   have:=hd.pos
   by_cases e:d.m=0
   ·rw[e]at a;have:=Int.zero_dvd.1 a;omega
   ·omega
  rw[aa6 ec ed pc pd (v:=c.r) (by simp) b,wW pd a,Int.ediv_mul_cancel a]
  exact xY hc ec z (by simp)
theorem aaI(h:iR d c=true):metC c d=d:=by
 obtain⟨a,b⟩:=(lF hc ed ec).1 h
 by_cases z:c.m=0
 ·rw[z]at a b
  have k1:d.m=0:=Int.zero_dvd.1 a
  have k2:d.r=c.r:=by have:=Int.zero_dvd.1 b;omega
  have e:c=d:=by rw[Cg.eta ec,Cg.eta ed,z,k1,k2]
  subst e
  exact vI hc hd ec ed (rE hc)
 ·by_cases z':d.m=0
  ·unfold metC
   rw[if_neg (by simp[ec]),if_neg (by simp[ed]),if_neg z,if_pos z',if_pos ((nJ ec hc.pos).2 b)]
  ·have pc:0 < c.m:=by have:=hc.pos;omega
   have pd:0 < d.m:=by have:=hd.pos;omega
   have g:(Int.gcd c.m d.m:Int)=c.m:=by rw[Int.gcd_comm];exact wW pc a
   rw[aa6 ec ed pc pd (v:=d.r) b (by simp),g,Int.ediv_self (by omega),Int.one_mul]
   exact xY hd ed z' (by simp)
theorem adN(h1:¬iR c d=true)(h2:¬iR d c=true)(h:c.m=0∨d.m=0∨dvd' (Int.gcd c.m d.m) (d.r-c.r)=false):metC c d=Ec:=by
 unfold metC
 rw[if_neg (by simp[ec]),if_neg (by simp[ed])]
 by_cases z:c.m=0
 ·rw[if_pos z,if_neg]
  intro x
  exact h1 ((lF hd ec ed).2 ⟨by rw[z];exact Int.dvd_zero _,(nJ ed hd.pos).1 x⟩)
 ·rw[if_neg z]
  by_cases z':d.m=0
  ·rw[if_pos z',if_neg]
   intro x
   exact h2 ((lF hc ed ec).2 ⟨by rw[z'];exact Int.dvd_zero _,(nJ ec hc.pos).1 x⟩)
  ·rw[if_neg z']
   rcases h with h | h | h
   ·exact absurd h z
   ·exact absurd h z'
   ·rw[h,if_neg (by simp)]
end
theorem abN{c d:Cg}(hc:WfC c)(hd:WfC d):WfC (metC c d):=by
 unfold metC;split;exact wJ;split;exact wJ;split
 ·split;exact hc;exact wJ
 ·split
  ·split;exact hd;exact wJ
  ·split;exact vY;exact wJ
end Go.N
namespace Go.N
open Go Go.Q Go.Rx
theorem szKK{z:Int}(h: -K < z∧z < K):sz z≤20000:=by have:=szK h;omega
theorem ad5{a b g Q X:Int}(hg:g∣a)(hq:g*Q=b)(h:b∣X*a-g):b∣X.fmod Q*a-g:=by
 have mm:=Int.mul_fdiv_add_fmod X Q
 obtain⟨k,hk⟩:=hg
 have e:X.fmod Q*a-g=(X*a-g)-b*(X.fdiv Q*k):=by
  have e1:X.fmod Q=X-Q*X.fdiv Q:=by omega
  have e2:b*(X.fdiv Q*k)=Q*X.fdiv Q*a:=by
   rw[←hq]
   generalize X.fdiv Q=w at *
   rw[hk];grind
  rw[e1,e2,Int.sub_mul];omega
 rw[e]
 exact Int.dvd_sub h (Int.dvd_mul_right _ _)
theorem abO{a b A B:Int}(ha: -A≤a∧a≤A)(hb: -B≤b∧b≤B): -(A*B)≤a*b∧a*b≤A*B:=by
 have h1:=Int.mul_nonneg (show 0≤A-a by omega) (show 0≤B+b by omega)
 have h2:=Int.mul_nonneg (show 0≤A+a by omega) (show 0≤B-b by omega)
 have h3:=Int.mul_nonneg (show 0≤A-a by omega) (show 0≤B-b by omega)
 have h4:=Int.mul_nonneg (show 0≤A+a by omega) (show 0≤B+b by omega)
 rw[Int.sub_mul,Int.mul_add,Int.mul_add]at h1
 rw[Int.add_mul,Int.mul_sub,Int.mul_sub]at h2
 rw[Int.sub_mul,Int.mul_sub,Int.mul_sub]at h3
 rw[Int.add_mul,Int.mul_add,Int.mul_add]at h4
 omega
set_option exponentiation.threshold 5000 in
theorem C4_K:C*(C+C)*C+C+10 < K∧C*(C+C)+10 < K:=by unfold C K;decide
theorem rC{a b:Int}(ha:0 < a):(Int.gcd a b:Int)*b.fdiv (Int.gcd a b:Int)=b∧b.fdiv (Int.gcd a b:Int)=b / (Int.gcd a b:Int)∧0 < (Int.gcd a b:Int):=by
 have gp:0 < (Int.gcd a b:Int):=by
  have:=Int.gcd_pos_of_ne_zero_left b (show a≠0 by omega)
  omega
 have e:b.fdiv (Int.gcd a b:Int)=b / (Int.gcd a b:Int):=Int.fdiv_eq_ediv_of_nonneg _ (Int.le_of_lt gp)
 exact⟨by rw[e];exact Int.mul_ediv_cancel' (Int.gcd_dvd_right _ _),e,gp⟩
section
variable (lf:Nat)(hb:Big lf){a b:Int}(ha:0 < a∧a < C)(hbb:0 < b∧b < C)
include hb ha hbb
theorem aeL(v0 v1:ByteArray):∀ (k n:Nat) (r s x z:Int),s≤k→k < n→r < C→s < C→Bz a b r s x z→
  ∃ X:Int,bg.l0 lf v0 v1 n (bs (Lib.itoa r)) (bs (Lib.itoa s)) (bs (Lib.itoa x)) (bs (Lib.itoa z))=some ((bs (Lib.itoa (Int.gcd r s)),bs (Lib.itoa X),()),())∧
   b∣X*a-(Int.gcd r s:Int)∧-b≤X∧X≤b:=by
 have h3:200000≤lf:=by have:=hb.1;omega
 have hCK:=ji
 have hCC:=CC_K
 have hC:=C_gt
 have h4:0≤C*C:=Int.mul_nonneg (by omega) (by omega)
 intro k
 induction k with
 | zero =>
  intro n r s x z hk hn hr hs' h
  obtain⟨m,rfl⟩:=Nat.exists_eq_succ_of_ne_zero (show n≠0 by omega)
  have s0:=h.s0
  have r0:=h.r0
  obtain rfl:s=0:=by omega
  have g:(Int.gcd r 0:Int)=r:=by rw[Int.gcd_zero_right];omega
  rw[g]
  refine⟨x,?_,h.xr,h.xb⟩
  rw[bg.l0,bg.r0,beq0,decide_eq_true rfl,Bool.not_true,brF]
 | succ k ih =>
  intro n r s x z hk hn hr hs' h
  obtain⟨m,rfl⟩:=Nat.exists_eq_succ_of_ne_zero (show n≠0 by omega)
  have s0:=h.s0
  have r0:=h.r0
  have b0:=h.b0
  by_cases hs:s=0
  ·subst hs
   have g:(Int.gcd r 0:Int)=r:=by rw[Int.gcd_zero_right];omega
   rw[g]
   refine⟨x,?_,h.xr,h.xb⟩
   rw[bg.l0,bg.r0,beq0,decide_eq_true rfl,Bool.not_true,brF]
  ·have sp:0 < s:=by omega
   have mm:=Int.mul_fdiv_add_fmod r s
   have f0:=Int.fmod_nonneg_of_pos r sp
   have f1:=Int.fmod_lt_of_pos r sp
   have q0:0≤r.fdiv s:=by rw[Int.fdiv_eq_ediv_of_nonneg _ s0];exact Int.ediv_nonneg (Int.le_of_lt r0) s0
   have nx:=h.next sp mm.symm f0 q0
   have zb:=h.zb
   have xb:=h.xb
   have nb:=nx.zb
   have nb2:=nx.xb
   have ql:r.fdiv s≤r:=by rw[Int.fdiv_eq_ediv_of_nonneg _ s0];exact Int.ediv_le_self s (Int.le_of_lt r0)
   have sr:s*r.fdiv s≤r:=by omega
   have qz: -(C*C) < r.fdiv s*z∧r.fdiv s*z < C*C:=vJ (by omega) (by omega)
   have gs:(Int.gcd s (r.fmod s))=Int.gcd r s:=pU mm.symm sp f0 f1 (by omega)
   have sk: -K < s∧s < K:=by omega
   obtain⟨X,e1,e2,e3⟩:=ih m s (r.fmod s) z (x-r.fdiv s*z) (by omega) (by omega) hs' (by omega) nx
   rw[gs]at e1 e2
   refine⟨X,?_,e2,e3⟩
   have qs: -K < r.fdiv s*s∧r.fdiv s*s < K:=by rw[Int.mul_comm];have:=Int.mul_nonneg s0 q0;omega
   have e':r-r.fdiv s*s=r.fmod s:=by rw[Int.mul_comm];omega
   rw[bg.l0,bg.r0,beq0,decide_eq_false hs,Bool.not_false,brT,pJ lf h3 (x:=r) (y:=s) (by have:=szKK (z:=r) (by omega);omega) (by have:=szKK sk;omega) hs,bdS]
   simp only[qK lf h3 (x:=r.fdiv s) (y:=s) (by omega) sk,bdS,diffI lf h3 (x:=r) (y:=r.fdiv s*s) (by omega) qs,e',qK lf h3 (x:=r.fdiv s) (y:=z) (by omega) (by omega),diffI lf h3 (x:=x) (y:=r.fdiv s*z) (by omega) (by omega)]
   exact e1
theorem afM:∃ (U:Int) (t:ByteArray),bg.f lf (bs (Lib.itoa a)) (bs (Lib.itoa b))=some (bs (Lib.itoa U),t,())∧0≤U∧U < C∧b∣U*a-(Int.gcd a b:Int):=by
 have h3:200000≤lf:=by have:=hb.1;omega
 have hCK:=ji
 have hCC:=CC_K
 have hC:=C_gt
 have h4:0≤C*C:=Int.mul_nonneg (by omega) (by omega)
 have f0:=Int.fmod_nonneg_of_pos a hbb.1
 have f1:=Int.fmod_lt_of_pos a hbb.1
 have B0:Bz a b b (a.fmod b) 0 1:=by
  refine⟨hbb.1,hbb.1,f0,?_,?_,.inl ⟨by omega,by omega,by omega⟩,by omega⟩
  ·rw[Int.zero_mul,Int.zero_sub];exact Int.dvd_neg.2 (Int.dvd_refl _)
  ·rw[Int.one_mul];exact uh hbb.1 a
 obtain⟨X,e1,e2,e3⟩:=aeL lf hb ha hbb (bs (Lib.itoa a)) (bs (Lib.itoa b)) (lf+39) (lf+40) b (a.fmod b) 0 1 (by have:=hb.2;omega) (by omega) hbb.2 (by omega) B0
 have gs:(Int.gcd b (a.fmod b))=Int.gcd a b:=pU (Int.mul_fdiv_add_fmod a b).symm hbb.1 f0 f1 (by omega)
 rw[gs]at e1 e2
 obtain⟨q1,q2,gp⟩:=rC (b:=b) ha.1
 have Qp:0 < b.fdiv (Int.gcd a b:Int):=by
  by_cases z:0 < b.fdiv (Int.gcd a b:Int)
  ·exact z
  ·have:=Int.mul_nonneg (Int.le_of_lt gp) (show 0≤-b.fdiv (Int.gcd a b:Int) by omega)
   rw[Int.mul_neg]at this;omega
 have Qb:b.fdiv (Int.gcd a b:Int)≤b:=by
  have:=Int.mul_le_mul_of_nonneg_right (show 1≤(Int.gcd a b:Int) by omega) (Int.le_of_lt Qp)
  omega
 have gb:(Int.gcd a b:Int)≤b:=Int.le_of_dvd hbb.1 (Int.gcd_dvd_right _ _)
 have u0:=Int.fmod_nonneg_of_pos X Qp
 have u1:=Int.fmod_lt_of_pos X Qp
 have pr:=vJ (a:=a) (b:=X.fmod (b.fdiv (Int.gcd a b:Int))) (by omega) (by omega)
 have i1:(⟨#[49]⟩:ByteArray)=bs (Lib.itoa 1):=i1
 have i0:(⟨#[48]⟩:ByteArray)=bs (Lib.itoa 0):=i0
 have hn:((b.natAbs:Nat):Int)=b:=by omega
 refine⟨X.fmod (b.fdiv (Int.gcd a b:Int)),?_⟩
 rw[bg.f,beq0,decide_eq_false (show ¬b=0 by omega),brF,nG,bdS]
 simp only[hn,nG,bdS,qL lf h3 (x:=a) (y:=b) (szKK (by omega)) (szKK (by omega)) (by omega),i0,i1,e1,pJ lf h3 (x:=b) (y:=(Int.gcd a b:Int)) (by have:=szKK (z:=b) (by omega);omega) (by have:=szKK (z:=(Int.gcd a b:Int)) (by omega);omega) (by omega),
  qL lf h3 (x:=X) (y:=b.fdiv (Int.gcd a b:Int)) (szKK (by omega)) (szKK (by omega)) (by omega),qK lf h3 (x:=a) (y:=X.fmod (b.fdiv (Int.gcd a b:Int))) (by omega) (by omega),diffI lf h3 (x:=(Int.gcd a b:Int)) (y:=a*X.fmod (b.fdiv (Int.gcd a b:Int))) (by omega) (by omega),
  pJ lf h3 (x:=(Int.gcd a b:Int)-a*X.fmod (b.fdiv (Int.gcd a b:Int))) (y:=b) (by have:=szKK (z:=(Int.gcd a b:Int)-a*X.fmod (b.fdiv (Int.gcd a b:Int))) (by omega);omega) (by have:=szKK (z:=b) (by omega);omega) (by omega)]
 exact⟨_,rfl,u0,by omega,ad5 (Int.gcd_dvd_left _ _) q1 e2⟩
end
section
variable (lf:Nat)(hb:Big lf){c d:Cg}(hc:WfC c)(hd:WfC d)
include hb hc hd
theorem aaH(ec:c.em=false)(ed:d.em=false)(pc:0 < c.m)(pd:0 < d.m)(dv:dvd' (Int.gcd c.m d.m) (d.r-c.r)=true){U:Int}(h:d.m∣U*c.m-(Int.gcd c.m d.m:Int)):
  metC c d=clsF (c.m / (Int.gcd c.m d.m:Int)*d.m) (c.r+U*(d.r-c.r).fdiv (Int.gcd c.m d.m:Int)*c.m):=by
 obtain⟨_,_,gp⟩:=rC (b:=d.m) pc
 have dd:=(wo _ _ (Int.natCast_nonneg _)).1 dv
 have q:(d.r-c.r)=(Int.gcd c.m d.m:Int)*(d.r-c.r).fdiv (Int.gcd c.m d.m:Int):=by
  rw[Int.fdiv_eq_ediv_of_nonneg _ (Int.le_of_lt gp)];exact(Int.mul_ediv_cancel' dd).symm
 refine aa6 ec ed pc pd ?_ (crt gp pc pd (Int.gcd_dvd_left _ _) (Int.gcd_dvd_right _ _) h q)
 rw[show ∀ t:Int,c.r+t-c.r=t from fun t=>by omega]
 exact Int.dvd_mul_left _ _
theorem yD{U:Int}(u0:0≤U)(u1:U < C)(pc:0 < c.m)(pd:0 < d.m):
  (-K < (d.r-c.r).fdiv (Int.gcd c.m d.m:Int)∧(d.r-c.r).fdiv (Int.gcd c.m d.m:Int) < K)∧(-K < U*(d.r-c.r).fdiv (Int.gcd c.m d.m:Int)∧U*(d.r-c.r).fdiv (Int.gcd c.m d.m:Int) < K)∧
  (-K < U*(d.r-c.r).fdiv (Int.gcd c.m d.m:Int)*c.m∧U*(d.r-c.r).fdiv (Int.gcd c.m d.m:Int)*c.m < K)∧(-K < c.r+U*(d.r-c.r).fdiv (Int.gcd c.m d.m:Int)*c.m∧c.r+U*(d.r-c.r).fdiv (Int.gcd c.m d.m:Int)*c.m < K):=by
 obtain⟨k1,k2⟩:=C4_K
 have hC:=C_gt
 have hCK:=ji
 have hCC:=CC_K
 have h4:0≤C*C:=Int.mul_nonneg (by omega) (by omega)
 obtain⟨_,_,gp⟩:=rC (b:=d.m) pc
 have r1:=hc.r
 have r2:=hd.r
 have m1:=hc.m
 have e1:=aat (x:=d.r-c.r) (y:=(Int.gcd c.m d.m:Int)) (by omega)
 have e2:=abO (a:=U) (b:=(d.r-c.r).fdiv (Int.gcd c.m d.m:Int)) (A:=C) (B:=C+C) (by omega) (by omega)
 have e3:=abO (b:=c.m) (B:=C) e2 (by omega)
 refine⟨?_,?_,?_,?_⟩<;>omega
theorem af6:lI.f lf (cc c) (cc d)=some (cc (metC c d),0,()):=by
 obtain⟨b1,b2,b3,b4,b5,b6,b7,b8,b9,b10⟩:=bounds lf hb hc hd
 have hlf:=hb.1
 rw[lI.f,cboth lf hb hc hd,bdS]
 cases ec:c.em with
 | true =>
  have:metC c d=Ec:=by unfold metC;rw[if_pos ec]
  rw[this,nM ec];simp only[bne_self_eq_false,brF,brT,bY.f,bdS];rfl
 | false=>cases ed:d.em with
  | true =>
   have:metC c d=Ec:=by unfold metC;rw[if_neg (by simp[ec]),if_pos ed]
   rw[this,iy ec,nM ed];simp only[bne_self_eq_false,brF,brT,bY.f,bdS];rfl
  | false =>
   have e1:(cc c).1=false:=by rw[iy ec]
   have e2:(cc d).1=false:=by rw[iy ed]
   simp only[bne_self_eq_false,brF,e1,e2]
   rw[nH.f,wY lf hb hc hd,bdS]
   cases i1:iR c d with
   | true=>simp only[brT,bdS];rw[vI hc hd ec ed i1]
   | false =>
    simp only[brF,wY lf hb hd hc,bdS]
    cases i2:iR d c with
    | true=>simp only[brT,bdS];rw[aaI hc hd ec ed i2]
    | false =>
     have k1:(cc d).2.1=bs (Lib.itoa d.m):=by rw[iy ed]
     have k2:(cc d).2.2.1=bs (Lib.itoa d.r):=by rw[iy ed]
     have k3:(cc c).2.1=bs (Lib.itoa c.m):=by rw[iy ec]
     have k4:(cc c).2.2.1=bs (Lib.itoa c.r):=by rw[iy ec]
     have r1:=hc.r
     have r2:=hd.r
     have hC:=C_gt
     have hCK:=ji
     have b5': -K < d.r-c.r∧d.r-c.r < K:=by omega
     have n:=adN hc hd ec ed (by simp[i1]) (by simp[i2])
     simp only[brF,k1,k2,k3,k4,aaU lf hb b1 b3,wO lf hb b4 b2 b5',bdS,beq0,bY.f]
     by_cases z1:c.m=0
     ·rw[n (.inl z1),decide_eq_true z1,brT,bdS];rfl
     ·rw[decide_eq_false z1,brF]
      by_cases z2:d.m=0
      ·rw[n (.inr (.inl z2)),decide_eq_true z2,brT,bdS];rfl
      ·rw[decide_eq_false z2,brF,uS lf hlf (rD b1 b3) b5',bdS]
       simp only
       cases dv:dvd' (Int.gcd c.m d.m) (d.r-c.r)with
       | false=>rw[n (.inr (.inr dv))];simp only[Bool.not_false,brT,bdS];rfl
       | true =>
        have pc:0 < c.m:=by have:=hc.pos;omega
        have pd:0 < d.m:=by have:=hd.pos;omega
        obtain⟨_,_,gp⟩:=rC (b:=d.m) pc
        obtain⟨t1,t3,U,u1,u2,u3,u4⟩:=adi lf hb ⟨pc,hc.m.2⟩ ⟨pd,hd.m.2⟩
        obtain⟨s1,s2,s3,s4⟩:=yD lf hb hc hd u2 u3 pc pd
        have lc: -K < c.m / (Int.gcd c.m d.m:Int)*d.m∧c.m / (Int.gcd c.m d.m:Int)*d.m < K:=by
         have h1:=lcm_pos pc pd
         have x:=Int.ediv_le_self (Int.gcd c.m d.m:Int) (Int.le_of_lt pc)
         have:=Int.mul_le_mul_of_nonneg_right x (Int.le_of_lt pd)
         omega
        simp only[Bool.not_true,brF,u1,bdS,ac0 lf hlf b5' (rD b1 b3) (by omega),iF.f,adm lf hb (x:=U) (y:=(d.r-c.r).fdiv (Int.gcd c.m d.m:Int)) (by omega) s1 s2,agL lf hb ⟨pc,hc.m.2⟩ ⟨pd,hd.m.2⟩,
         adm lf hb s2 b1 s3,afJ lf hb b2 s3 s4,abr lf hlf lc s4]
        rw[aaH lf hb hc hd ec ed pc pd dv u4]
theorem agP:kG.f lf (cc c) (cc d)=some (cc (metC c d),()):=by
 obtain⟨b1,b2,b3,b4,b5,b6,b7,b8,b9,b10⟩:=bounds lf hb hc hd
 have hlf:=hb.1
 have h3:200000≤lf:=by omega
 have r1:=hc.r
 have r2:=hd.r
 have hC:=C_gt
 have hCK:=ji
 have hCD:=lX
 rw[kG.f]
 cases ec:c.em with
 | true =>
  have:metC c d=Ec:=by unfold metC;rw[if_pos ec]
  rw[this,nM ec];simp only[brT,bT.f,bdS];rfl
 | false=>cases ed:d.em with
  | true =>
   have:metC c d=Ec:=by unfold metC;rw[if_neg (by simp[ec]),if_pos ed]
   rw[this,iy ec,nM ed];simp only[brF,brT,bT.f,bdS];rfl
  | false =>
   have e1:(cc c).1=false:=by rw[iy ec]
   have e2:(cc d).1=false:=by rw[iy ed]
   have k1:(cc d).2.1=bs (Lib.itoa d.m):=by rw[iy ed]
   have k2:(cc d).2.2.1=bs (Lib.itoa d.r):=by rw[iy ed]
   have k3:(cc c).2.1=bs (Lib.itoa c.m):=by rw[iy ec]
   have k4:(cc c).2.2.1=bs (Lib.itoa c.r):=by rw[iy ec]
   have b5': -K < d.r-c.r∧d.r-c.r < K:=by omega
   simp only[brF,e1,e2,k1,k2,k3,k4,beq0,bT.f,bdS,in_r lf hb hd (a:=c.r) (by omega),in_r lf hb hc (a:=d.r) (by omega)]
   have M:metC c d=if c.m=0 then(if inC d c.r=true then c else Ec)else if d.m=0 then(if inC c d.r=true then d else Ec)else if dvd' (Int.gcd c.m d.m) (d.r-c.r)=true then metC c d else Ec:=by
    unfold metC
    rw[if_neg (by simp[ec]),if_neg (by simp[ed])]
    split
    ·rfl
    ·split
     ·rfl
     ·split<;>rfl
   by_cases z1:c.m=0
   ·rw[if_pos z1]at M
    rw[M,decide_eq_true z1,brT,Bool.not_true,brF]
    cases inC d c.r<;>simp only[brT,brF,if_true,if_false,Bool.false_eq_true]<;>rfl
   ·rw[if_neg z1]at M
    rw[decide_eq_false z1,brF]
    by_cases z2:d.m=0
    ·rw[if_pos z2]at M
     rw[M,decide_eq_true z2,brT,Bool.not_false,brT]
     cases inC c d.r<;>simp only[brT,brF,if_true,if_false,Bool.false_eq_true]<;>rfl
    ·rw[if_neg z2]at M
     rw[decide_eq_false z2,brF,sO lf hb b1 b3,bdS,diffI lf h3 b4 b2,bdS]
     simp only
     rw[qh lf h3 (szKK (rD b1 b3)) (szKK b5'),bdS]
     simp only
     cases dv:dvd' (Int.gcd c.m d.m) (d.r-c.r)with
     | false=>rw[dv,if_neg (by simp)]at M;rw[M];simp only[Bool.not_false,brT];rfl
     | true =>
      have pc:0 < c.m:=by have:=hc.pos;omega
      have pd:0 < d.m:=by have:=hd.pos;omega
      obtain⟨q1,q2,gp⟩:=rC (b:=d.m) pc
      obtain⟨U,t,u1,u2,u3,u4⟩:=afM lf hb ⟨pc,hc.m.2⟩ ⟨pd,hd.m.2⟩
      obtain⟨s1,s2,s3,s4⟩:=yD lf hb hc hd u2 u3 pc pd
      have lc: -K < c.m*d.m.fdiv (Int.gcd c.m d.m:Int)∧c.m*d.m.fdiv (Int.gcd c.m d.m:Int) < K:=by
       have h1:=lcm_pos pc pd
       rw[abG pc pd,←q2]at h1
       have x:=Int.ediv_le_self (Int.gcd c.m d.m:Int) (Int.le_of_lt pd)
       rw[←q2]at x
       have:=Int.mul_le_mul_of_nonneg_left x (Int.le_of_lt pc)
       omega
      have qd: -K < d.m.fdiv (Int.gcd c.m d.m:Int)∧d.m.fdiv (Int.gcd c.m d.m:Int) < K:=by
       have x:=Int.ediv_le_self (Int.gcd c.m d.m:Int) (Int.le_of_lt pd)
       have y:=Int.ediv_nonneg (Int.le_of_lt pd) (Int.le_of_lt gp)
       rw[←q2]at x y;omega
      have gk:=rD b1 b3
      rw[Int.mul_comm (U*(d.r-c.r).fdiv (Int.gcd c.m d.m:Int)) c.m]at s3 s4
      simp only[Bool.not_true,brF,u1,bdS,pJ lf h3 (x:=d.r-c.r) (y:=(Int.gcd c.m d.m:Int)) (by have:=szKK b5';omega) (by have:=szKK gk;omega) (by omega),qK lf h3 (x:=U) (y:=(d.r-c.r).fdiv (Int.gcd c.m d.m:Int)) (by omega) s1,
       pJ lf h3 (x:=d.m) (y:=(Int.gcd c.m d.m:Int)) (by have:=szKK b3;omega) (by have:=szKK gk;omega) (by omega),qK lf h3 (x:=c.m) (y:=d.m.fdiv (Int.gcd c.m d.m:Int)) b1 qd,qK lf h3 (x:=c.m) b1 s2,sumI lf h3 (x:=c.r) b2 s3,rV lf h3 lc s4]
      rw[aaH lf hb hc hd ec ed pc pd dv u4,abG pc pd,←q2,Int.mul_comm c.m (U*_)]
end
end Go.N
namespace Go.N
open Go Go.Q Go.Rx
theorem clipV(lf:Nat){o:Option Int}(h:okb K o):cO.f lf (ob o)=some (ob (o.bind clip),()):=by
 rw[cO.f]
 cases o with
 | none=>rw[show ob none=bs [] from rfl,oC,bdS,iJ,show body []=[] from rfl,decide_eq_false (by simp),brF];rfl
 | some z =>
  have hl:=nY h
  rw[show ob (some z)=bs (Lib.itoa z) from rfl,oC,bdS,iJ]
  have e:(((body (Lib.itoa z)).length:Nat):Int)=(sz z:Int):=rfl
  simp only[e,Option.bind]
  by_cases c: -C < z∧z < C
  ·have:=(sz_C z).2 c
   rw[decide_eq_false (by omega),brF,qF c];rfl
  ·have:¬sz z≤100:=fun x=>c ((sz_C z).1 x)
   rw[decide_eq_true (by omega),brT,acA c];rfl
set_option exponentiation.threshold 5000 in
theorem afm:C+C < Dd:=by
 have e:(10 ^ 100+10 ^ 100:Nat) < 10 ^ 1000:=by
  have:(10:Nat) ^ 1000=10 ^ 100*10 ^ 900:=by rw[←Nat.pow_add]
  rw[this]
  have:(2:Nat) < 10 ^ 900:=Nat.lt_of_lt_of_le (show(2:Nat) < 10 ^ 1 by decide) (Nat.pow_le_pow_right (by decide) (by decide))
  have h:=Nat.mul_lt_mul_of_pos_left this (show 0 < 10 ^ 100 by exact Nat.pow_pos (by decide))
  omega
 unfold C Dd;exact Int.ofNat_lt.2 e
theorem evV:((((true,(⟨#[]⟩:ByteArray),(⟨#[]⟩:ByteArray),()),(true,(⟨#[]⟩:ByteArray),(⟨#[]⟩:ByteArray),()),()):VV))=vc Ev:=rfl
theorem onV(z:Int):(((false,bs (Lib.itoa z),bs (Lib.itoa z),()),(false,(⟨#[48]⟩:ByteArray),bs (Lib.itoa z),()),()):VV)=vc (onev z):=by
 rw[i0];unfold vc onev;rw[iy rfl];rfl
theorem yG(x:Int):((bs (Lib.itoa x)).toList==(⟨#[]⟩:ByteArray).toList)=false:=by
 have:=lV (some x)
 rw[show ob (some x)=bs (Lib.itoa x) from rfl]at this
 rw[this];exact decide_eq_false nofun
theorem ob_e:((ob none).toList==(⟨#[]⟩:ByteArray).toList)=true:=by rw[lV];rfl
theorem afc(x y:Int):decide (sgn (x-y) > 0)=decide (y < x):=aej x y
theorem agU(x y:Int):(sgn (x-y)==0)=decide (x=y):=by
 rw[Bool.eq_iff_iff,beq_iff_eq,decide_eq_true_eq]
 unfold sgn;(repeat' split)<;>omega
section
variable (lf:Nat)(hb:Big lf){a:A}{c:Cg}(ha:Wf a)(hc:WfC c)
include hb ha hc
theorem lo_K{l:Int}(h: -C < l∧l < C)(p:0 < c.m): -K < loC c l∧loC c l < K∧-Dd < loC c l∧loC c l < Dd:=by
 have:=lo_m p l
 have:=hc.m
 have:=C_gt
 have:=CC_K
 have hD:=DD_K
 have hCD:=lX
 have h4:C*2≤C*C:=Int.mul_le_mul_of_nonneg_left (by omega) (by omega)
 have h5:=afm
 have h6:=Dd_K
 omega
theorem hi_K{l:Int}(h: -C < l∧l < C)(p:0 < c.m): -K < hiC c l∧hiC c l < K∧-Dd < hiC c l∧hiC c l < Dd:=by
 have:=hi_m p l
 have:=hc.m
 have:=C_gt
 have h5:=afm
 have h6:=Dd_K
 omega
theorem tK:bD.f lf (ac a) (cc c)=some (vc (red a c),()):=by
 have hlf:=hb.1
 have h3:200000≤lf:=by omega
 have hCD:=lX
 rw[bD.f]
 simp only[show(ac a).1=a.em from rfl,show(ac a).2.1=ob a.lo from rfl,show(ac a).2.2.1=ob a.hi from rfl,jf.f,bdS,evV,lS.f]
 unfold red
 cases ea:a.em with
 | true=>simp only[brT,if_true]
 | false =>
  cases ec:c.em with
  | true=>rw[nM ec];simp only[brT,brF,if_true,if_false,Bool.false_eq_true]
  | false =>
   have e1:(cc c).1=false:=by rw[iy ec]
   have e2:(cc c).2.1=bs (Lib.itoa c.m):=by rw[iy ec]
   have e3:(cc c).2.2.1=bs (Lib.itoa c.r):=by rw[iy ec]
   simp only[brF,if_false,Bool.false_eq_true,e1,e2,e3,beq0]
   by_cases m:c.m=0
   ·rw[decide_eq_true m,brT,if_pos m,adA lf h3 ha (CK hc.r),bdS]
    simp only
    cases hi:inS (ofA a) c.r with
    | true=>simp only[Bool.not_true,brF,if_true,onV]
    | false=>simp only[Bool.not_false,brT,if_false,Bool.false_eq_true]
   ·have p:0 < c.m:=by have:=hc.pos;omega
    rw[decide_eq_false m,brF,if_neg m]
    have kl:=ha.lo
    have kh:=ha.hi
    have L:=fun {l:Int} (h: -C < l∧l < C)=>aeY lf hb hc ec (a:=l) (by omega)
    have G':=fun {l:Int} (h: -C < l∧l < C)=>aa0 lf hb hc ec (a:=l) (by omega)
    have ab:∀ l,aboveC c l=some (loC c l):=fun l=>if_neg m
    have be:∀ l,belowC c l=some (hiC c l):=fun l=>if_neg m
    have cN:=clipV lf (o:=none) trivial
    cases hl:a.lo with
    | none=>cases hh:a.hi with
     | none=>simp only[ob_e,Bool.not_true,brF,cN,bdS,Option.map,fin3];rfl
     | some u =>
      rw[hh]at kh
      have g:=G' kh
      rw[be]at g
      have kk:=hi_K lf hb ha hc kh p
      have cU:=clipV lf (o:=some (hiC c u)) ⟨kk.1,kk.2.1⟩
      simp only[show ob (some u)=bs (Lib.itoa u) from rfl,show ob (some (hiC c u))=bs (Lib.itoa (hiC c u)) from rfl]at *
      simp only[ob_e,yG,Bool.not_true,Bool.not_false,brF,brT,g,cN,cU,bdS,Option.map,fin3];rfl
    | some l =>
     rw[hl]at kl
     have g:=L kl
     rw[ab]at g
     have kk:=lo_K lf hb ha hc kl p
     have cL:=clipV lf (o:=some (loC c l)) ⟨kk.1,kk.2.1⟩
     cases hh:a.hi with
     | none =>
      simp only[show ob (some l)=bs (Lib.itoa l) from rfl,show ob (some (loC c l))=bs (Lib.itoa (loC c l)) from rfl]at *
      simp only[ob_e,yG,Bool.not_true,Bool.not_false,brF,brT,g,cN,cL,bdS,Option.map,fin3];rfl
     | some u =>
      rw[hh]at kh
      have g2:=G' kh
      rw[be]at g2
      have kk2:=hi_K lf hb ha hc kh p
      have cU:=clipV lf (o:=some (hiC c u)) ⟨kk2.1,kk2.2.1⟩
      have cm:=uO lf _ _ (chkK ⟨kk.1,kk.2.1⟩) (chkK ⟨kk2.1,kk2.2.1⟩) h3
      rw[eY,eY]at cm
      simp only[show ob (some l)=bs (Lib.itoa l) from rfl,show ob (some (loC c l))=bs (Lib.itoa (loC c l)) from rfl,show ob (some u)=bs (Lib.itoa u) from rfl,show ob (some (hiC c u))=bs (Lib.itoa (hiC c u)) from rfl]at *
      simp only[ob_e,yG,Bool.not_true,Bool.not_false,brF,brT,g,g2,cm,bdS,afc,agU,Option.map,fin3]
      by_cases h1:hiC c u < loC c l
      ·rw[decide_eq_true h1,brT,if_pos h1]
      ·rw[decide_eq_false h1,brF,if_neg h1]
       by_cases h2:loC c l=hiC c u
       ·rw[decide_eq_true h2,brT,if_pos h2,onV]
       ·rw[decide_eq_false h2,brF,if_neg h2,cL,bdS,cU,bdS];rfl
theorem tu:bK.f lf (ac a) (cc c)=some (vc (red a c),()):=by
 have hlf:=hb.1
 have h3:200000≤lf:=by omega
 have hCD:=lX
 rw[bK.f]
 simp only[show(ac a).1=a.em from rfl,show(ac a).2.1=ob a.lo from rfl,show(ac a).2.2.1=ob a.hi from rfl,eG.f,bJ.f,bT.f,bdS,evV]
 unfold red
 cases ea:a.em with
 | true=>simp only[brT,if_true]
 | false =>
  cases ec:c.em with
  | true=>rw[nM ec];simp only[brT,brF,if_true,if_false,Bool.false_eq_true]
  | false =>
   have e1:(cc c).1=false:=by rw[iy ec]
   have e2:(cc c).2.1=bs (Lib.itoa c.m):=by rw[iy ec]
   have e3:(cc c).2.2.1=bs (Lib.itoa c.r):=by rw[iy ec]
   simp only[brF,if_false,Bool.false_eq_true,e1,e2,e3,beq0]
   by_cases m:c.m=0
   ·rw[decide_eq_true m,brT,if_pos m,afX lf h3 ha (CK hc.r),bdS]
    simp only
    cases hi:inS (ofA a) c.r with
    | true =>
     simp only[Bool.not_true,brF,if_true,←onV]
     rw[iy ec,m,i0]
    | false=>simp only[Bool.not_false,brT,if_false,Bool.false_eq_true]
   ·have p:0 < c.m:=by have:=hc.pos;omega
    rw[decide_eq_false m,brF,if_neg m]
    have kl:=ha.lo
    have kh:=ha.hi
    have L:=fun {l:Int} (h: -C < l∧l < C)=>abl lf hb hc ec (a:=l) (by omega)
    have G':=fun {l:Int} (h: -C < l∧l < C)=>aeJ lf hb hc ec (a:=l) (by omega)
    have ab:∀ l,aboveC c l=some (loC c l):=fun l=>if_neg m
    have be:∀ l,belowC c l=some (hiC c l):=fun l=>if_neg m
    have toL:∀ x y:Option Int,okb K x→okb K y→gt? x y=false→toA ⟨lox x,hix y⟩=⟨false,x.bind clip,y.bind clip⟩:=by
     intro x y hx hy h
     unfold toA;rw[adu hx hy,h,if_neg (by simp),abj,abh]
    cases hl:a.lo with
    | none=>cases hh:a.hi with
     | none =>
      simp only[ob_e,Bool.not_true,brF,qw lf h3 none none trivial trivial,toL none none trivial trivial rfl,bdS,Option.map,fin3];rfl
     | some u =>
      rw[hh]at kh
      have g:=G' kh
      rw[be]at g
      have kk:=hi_K lf hb ha hc kh p
      have rg:=qw lf h3 none (some (hiC c u)) trivial ⟨kk.1,kk.2.1⟩
      rw[toL none (some (hiC c u)) trivial ⟨kk.1,kk.2.1⟩ rfl]at rg
      simp only[show ob (some u)=bs (Lib.itoa u) from rfl,show ob (some (hiC c u))=bs (Lib.itoa (hiC c u)) from rfl]at *
      simp only[ob_e,yG,Bool.not_true,Bool.not_false,brF,brT,g,rg,bdS,Option.map,fin3];rfl
    | some l =>
     rw[hl]at kl
     have g:=L kl
     rw[ab]at g
     have kk:=lo_K lf hb ha hc kl p
     cases hh:a.hi with
     | none =>
      have rg:=qw lf h3 (some (loC c l)) none ⟨kk.1,kk.2.1⟩ trivial
      rw[toL (some (loC c l)) none ⟨kk.1,kk.2.1⟩ trivial rfl]at rg
      simp only[show ob (some l)=bs (Lib.itoa l) from rfl,show ob (some (loC c l))=bs (Lib.itoa (loC c l)) from rfl]at *
      simp only[ob_e,yG,Bool.not_true,Bool.not_false,brF,brT,g,rg,bdS,Option.map,fin3];rfl
     | some u =>
      rw[hh]at kh
      have g2:=G' kh
      rw[be]at g2
      have kk2:=hi_K lf hb ha hc kh p
      have ls:=lessI lf h3 (x:=hiC c u) (y:=loC c l) ⟨kk2.1,kk2.2.1⟩ ⟨kk.1,kk.2.1⟩
      have rg:=qw lf h3 (some (loC c l)) (some (hiC c u)) ⟨kk.1,kk.2.1⟩ ⟨kk2.1,kk2.2.1⟩
      have T:=toL (some (loC c l)) (some (hiC c u)) ⟨kk.1,kk.2.1⟩ ⟨kk2.1,kk2.2.1⟩
      simp only[show ob (some l)=bs (Lib.itoa l) from rfl,show ob (some (loC c l))=bs (Lib.itoa (loC c l)) from rfl,show ob (some u)=bs (Lib.itoa u) from rfl,show ob (some (hiC c u))=bs (Lib.itoa (hiC c u)) from rfl]at *
      have eqt:((bs (Lib.itoa (loC c l))).toList==(bs (Lib.itoa (hiC c u))).toList)=decide (loC c l=hiC c u):=by
       rw[kP];simp only[decide_eq_decide];exact⟨nC,fun e=>by rw[e]⟩
      simp only[ob_e,yG,Bool.not_true,Bool.not_false,brF,brT,g,g2,ls,bdS,eqt,Option.map,fin3]
      by_cases h1:hiC c u < loC c l
      ·rw[decide_eq_true h1,brT,if_pos h1]
      ·rw[decide_eq_false h1,brF,if_neg h1]
       by_cases h2:loC c l=hiC c u
       ·have kC: -C < loC c l∧loC c l < C:=by
         have:=lo_m p l
         have:=hi_m p u
         simp only[okb]at kl kh
         omega
        have hC:=C_gt
        have hCK:=ji
        rw[decide_eq_true h2,brT,if_pos h2,iY.f,kH.f,i0,rV lf h3 (m:=0) (by omega) (CK kC),bdS,bdS]
        simp only
        rw[vX (Int.le_refl 0) (by omega) kC,if_pos rfl,iy rfl]
        simp only[←i0,BEq.rfl,Bool.not_true,brF,bdS]
        rw[onV]
       ·rw[decide_eq_false h2,brF,if_neg h2,rg,T (by unfold gt?;simp;omega),bdS];rfl
end
end Go.N
namespace Go.N
open Go Go.Q Go.Rx
section
variable (lf:Nat)(h3:200000≤lf)
include h3
end
theorem ae5{s:Sp}(h:oks C s):oks C (negS s):=qG h ⟨trivial,wB (by decide) (by decide)⟩
theorem afl{s:Sp}(h:oks C s):oks C (zerS s):=qG h ⟨wB (by decide) (by decide),wB (by decide) (by decide)⟩
section
variable (lf:Nat)(h3:200000≤lf)
include h3
end
end Go.N
namespace Go.N
open Go Go.Q Go.Rx
theorem agk(x:X):sg (xneg x)= -sg x:=by
 cases x with
 | ni=>rfl
 | pi=>rfl
 | fin z=>simp only[xneg,sg,sgn];(repeat' split)<;>omega
theorem lT(x y:X):xmul x y=xmul y x:=by
 unfold xmul
 rw[Int.mul_comm (sg y) (sg x)]
 split
 ·rfl
 ·cases x<;>cases y<;>simp only[Int.mul_comm]
theorem aeF(x y:X):xmul (xneg x) y=xneg (xmul x y):=by
 unfold xmul
 rw[agk,Int.neg_mul]
 have a:=sg3 x
 have b:=sg3 y
 by_cases h:sg x*sg y=0
 ·rw[h,if_pos (by decide),if_pos rfl];rfl
 ·rw[if_neg (by omega),if_neg h]
  have one:sg x*sg y=1∨sg x*sg y= -1:=by
   rcases a with a | a | a<;>rcases b with b | b | b<;>rw[a,b]at h⊢<;>simp at h⊢
  cases x<;>cases y<;>simp only[xneg,Int.neg_mul]<;>rcases one with o | o<;>rw[o]<;>rfl
theorem yO(x y:X):xmul x (xneg y)=xneg (xmul x y):=by rw[lT,aeF,lT]
theorem sV{x y:X}:(key (xmul x y) < 0↔sg x*sg y < 0)∧(key (xmul x y)=0↔sg x*sg y=0):=by
 have hK:=K_gt
 have a:=sg3 x
 have b:=sg3 y
 unfold xmul
 by_cases h:sg x*sg y=0
 ·rw[if_pos h,h];simp[key]
 ·rw[if_neg h]
  have one:sg x*sg y=1∨sg x*sg y= -1:=by
   rcases a with a | a | a<;>rcases b with b | b | b<;>rw[a,b]at h⊢<;>simp at h⊢
  have inf:(key (if sg x*sg y=1 then X.pi else X.ni) < 0↔sg x*sg y < 0)∧(key (if sg x*sg y=1 then X.pi else X.ni)=0↔sg x*sg y=0):=by
   rcases one with o | o<;>rw[o]
   ·rw[if_pos rfl,show key X.pi=K from rfl];omega
   ·rw[if_neg (by decide),show key X.ni= -K from rfl];omega
  cases x with
  | fin u=>cases y with
   | fin v =>
    simp only[key]
    have ku:=rO (.fin u)
    have kv:=rO (.fin v)
    simp only[key]at ku kv
    rcases a with a | a | a<;>rcases b with b | b | b<;>rw[a,b]at h⊢<;>simp at h⊢
    ·have:=Int.mul_pos_of_neg_of_neg (show u < 0 by omega) (show v < 0 by omega);omega
    ·have:=Int.mul_neg_of_neg_of_pos (show u < 0 by omega) (show 0 < v by omega);omega
    ·have:=Int.mul_neg_of_pos_of_neg (show 0 < u by omega) (show v < 0 by omega);omega
    ·have:=Int.mul_pos (show 0 < u by omega) (show 0 < v by omega);omega
   | ni=>exact inf
   | pi=>exact inf
  | ni=>exact inf
  | pi=>exact inf
theorem acr{a b:Int}:xmul (.fin a) (.fin b)=.fin (a*b):=by
 unfold xmul
 split
 ·rename_i h
  have:=(sV (x:=.fin a) (y:=.fin b)).2
  have ka:=rO (.fin a)
  have kb:=rO (.fin b)
  simp only[key]at ka kb
  rcases Int.mul_eq_zero.1 h with z | z
  ·rw[ka.2.1.1 z,Int.zero_mul]
  ·rw[kb.2.1.1 z,Int.mul_zero]
 ·rfl
theorem nS{x x' y:X}(hx:okx Dd x)(hx':okx Dd x')(hy:okx Dd y)(h:key x≤key x')(h0:0≤key y):key (xmul x y)≤key (xmul x' y):=by
 have hK:=K_gt
 have hC:=Dd_K
 have k1:=oW (aaP hx hy)
 have k2:=oW (aaP hx' hy)
 have s1:=sV (x:=x) (y:=y)
 have s2:=sV (x:=x') (y:=y)
 have gx:=rO x
 have gx':=rO x'
 have gy:=rO y
 have a:=sg3 x
 have a':=sg3 x'
 have b:=sg3 y
 have inf:∀ {u v:X},(u=.ni∨u=.pi∨v=.ni∨v=.pi)→key (xmul u v)=sg u*sg v*K:=by
  intro u v hu
  have c:=sg3 u
  have d:=sg3 v
  unfold xmul
  by_cases hz:sg u*sg v=0
  ·rw[if_pos hz,hz];simp[key]
  ·rw[if_neg hz]
   have one:sg u*sg v=1∨sg u*sg v= -1:=by
    rcases c with c | c | c<;>rcases d with d | d | d<;>rw[c,d]at hz⊢<;>simp at hz⊢
   have f:key (if sg u*sg v=1 then X.pi else X.ni)=sg u*sg v*K:=by
    rcases one with o | o<;>rw[o]
    ·rw[if_pos rfl,show key X.pi=K from rfl];omega
    ·rw[if_neg (by decide),show key X.ni= -K from rfl];omega
   rcases hu with rfl | rfl | rfl | rfl
   ·exact f
   ·exact f
   ·cases u<;>exact f
   ·cases u<;>exact f
 by_cases y0:key y=0
 ·have:sg y=0:=by omega
  have e1:key (xmul x y)=0:=s1.2.2 (by rw[this,Int.mul_zero])
  have e2:key (xmul x' y)=0:=s2.2.2 (by rw[this,Int.mul_zero])
  omega
 have y1:sg y=1:=by omega
 rw[y1,Int.mul_one]at s1 s2
 cases y with
 | ni=>simp only[key]at h0;omega
 | pi =>
  rw[inf (.inr (.inr (.inr rfl))),inf (.inr (.inr (.inr rfl))),y1,Int.mul_one,Int.mul_one]
  exact Int.mul_le_mul_of_nonneg_right (by omega) (by omega)
 | fin v =>
  cases x with
  | ni =>
   rw[inf (.inl rfl),y1,Int.mul_one,show sg X.ni= -1 from rfl];omega
  | pi =>
   cases x' with
   | pi=>exact Int.le_refl _
   | ni=>simp only[key]at h;omega
   | fin w=>simp only[key,okx]at h hx';omega
  | fin u=>cases x' with
   | pi =>
    rw[inf (u:=X.pi) (.inr (.inl rfl)),y1,Int.mul_one,show sg X.pi=1 from rfl];omega
   | ni=>simp only[key,okx]at h hx;omega
   | fin w =>
    rw[acr,acr]
    simp only[key]at h h0⊢
    exact Int.mul_le_mul_of_nonneg_right h h0
theorem oJ{x x' y:X}(hx:okx Dd x)(hx':okx Dd x')(hy:okx Dd y)(h:key x≤key x')(h0:key y≤0):key (xmul x' y)≤key (xmul x y):=by
 have:=nS hx hx' (afk hy) h (by rw[xk];omega)
 rw[yO,yO,xk,xk]at this
 omega
def El(s:Sp)(x:X):Prop:=okx Dd x∧key s.lo≤key x∧key x≤key s.hi
theorem xP{s:Sp}(hs:oks C s)(he:emp s=false):El s s.lo:=⟨hs.1.D,Int.le_refl _,by have:=of_decide_eq_false he;omega⟩
theorem xO{s:Sp}(hs:oks C s)(he:emp s=false):El s s.hi:=⟨hs.2.D,by have:=of_decide_eq_false he;omega,Int.le_refl _⟩
theorem corner{s t:Sp}(hs:oks C s)(ht:oks C t){x y:X}(hx:El s x)(hy:El t y):
  (∃ cx cy,(cx=s.lo∨cx=s.hi)∧(cy=t.lo∨cy=t.hi)∧key (xmul cx cy)≤key (xmul x y))∧(∃ cx cy,(cx=s.lo∨cx=s.hi)∧(cy=t.lo∨cy=t.hi)∧key (xmul x y)≤key (xmul cx cy)):=by
 have one:∀ {s:Sp} {x y:X},oks C s→El s x→okx Dd y→(∃ cx,(cx=s.lo∨cx=s.hi)∧key (xmul cx y)≤key (xmul x y))∧(∃ cx,(cx=s.lo∨cx=s.hi)∧key (xmul x y)≤key (xmul cx y)):=by
  intro s x y hs hx hy
  by_cases h:0≤key y
  ·exact⟨⟨_,.inl rfl,nS hs.1.D hx.1 hy hx.2.1 h⟩,⟨_,.inr rfl,nS hx.1 hs.2.D hy hx.2.2 h⟩⟩
  ·exact⟨⟨_,.inr rfl,oJ hx.1 hs.2.D hy hx.2.2 (by omega)⟩,⟨_,.inl rfl,oJ hs.1.D hx.1 hy hx.2.1 (by omega)⟩⟩
 obtain⟨⟨cx,c1,c2⟩,⟨dx,d1,d2⟩⟩:=one hs hx hy.1
 have okc:∀ {c:X},(c=s.lo∨c=s.hi)→okx Dd c:=fun h=>by rcases h with rfl | rfl;exact hs.1.D;exact hs.2.D
 obtain⟨⟨cy,e1,e2⟩,_⟩:=one ht hy (okc c1)
 obtain⟨_,⟨dy,f1,f2⟩⟩:=one ht hy (okc d1)
 rw[lT cy,lT y]at e2
 rw[lT dy,lT y]at f2
 exact⟨⟨cx,cy,c1,e1,by omega⟩,⟨dx,dy,d1,f1,by omega⟩⟩
theorem aaf(x y:X):xmin x y=x∨xmin x y=y:=by unfold xmin;split;exact .inr rfl;exact .inl rfl
theorem aad(x y:X):xmax x y=x∨xmax x y=y:=by unfold xmax;split;exact .inr rfl;exact .inl rfl
theorem aaj{o:X→X→X}{s t:Sp}(hs:emp s=false)(ht:emp t=false):
  ((∃ x y,(x=s.lo∨x=s.hi)∧(y=t.lo∨y=t.hi)∧(apS o s t).lo=o x y)∧(∀ x y,(x=s.lo∨x=s.hi)→(y=t.lo∨y=t.hi)→key (apS o s t).lo≤key (o x y)))∧
  ((∃ x y,(x=s.lo∨x=s.hi)∧(y=t.lo∨y=t.hi)∧(apS o s t).hi=o x y)∧(∀ x y,(x=s.lo∨x=s.hi)→(y=t.lo∨y=t.hi)→key (o x y)≤key (apS o s t).hi)):=by
 have e:apS o s t=⟨xmin (xmin (xmin (o s.lo t.lo) (o s.lo t.hi)) (o s.hi t.lo)) (o s.hi t.hi),xmax (xmax (xmax (o s.lo t.lo) (o s.lo t.hi)) (o s.hi t.lo)) (o s.hi t.hi)⟩:=by
  unfold apS
  rw[if_neg (by simp[hs]),if_neg (by simp[ht]),adS,hullNE (rY _) (rY _)]
  have e1:=rY (o s.lo t.lo)
  have e2:=rY (o s.lo t.hi)
  have e3:=rY (o s.hi t.lo)
  have e4:=rY (o s.hi t.hi)
  have n1:=aaz e1 e2
  rw[hullNE e1 e2]at n1
  rw[hullNE n1 e3]
  have n2:=aaz n1 e3
  rw[hullNE n1 e3]at n2
  rw[hullNE n2 e4]
  rfl
 rw[e]
 refine⟨⟨?_,?_⟩,⟨?_,?_⟩⟩
 ·simp only
  rcases aaf (xmin (xmin (o s.lo t.lo) (o s.lo t.hi)) (o s.hi t.lo)) (o s.hi t.hi)with h | h<;>rw[h]
  ·rcases aaf (xmin (o s.lo t.lo) (o s.lo t.hi)) (o s.hi t.lo)with h | h<;>rw[h]
   ·rcases aaf (o s.lo t.lo) (o s.lo t.hi)with h | h<;>rw[h]
    ·exact⟨_,_,.inl rfl,.inl rfl,rfl⟩
    ·exact⟨_,_,.inl rfl,.inr rfl,rfl⟩
   ·exact⟨_,_,.inr rfl,.inl rfl,rfl⟩
  ·exact⟨_,_,.inr rfl,.inr rfl,rfl⟩
 ·intro x y hx hy
  simp only[oM]
  rcases hx with rfl | rfl<;>rcases hy with rfl | rfl<;>omega
 ·simp only
  rcases aad (xmax (xmax (o s.lo t.lo) (o s.lo t.hi)) (o s.hi t.lo)) (o s.hi t.hi)with h | h<;>rw[h]
  ·rcases aad (xmax (o s.lo t.lo) (o s.lo t.hi)) (o s.hi t.lo)with h | h<;>rw[h]
   ·rcases aad (o s.lo t.lo) (o s.lo t.hi)with h | h<;>rw[h]
    ·exact⟨_,_,.inl rfl,.inl rfl,rfl⟩
    ·exact⟨_,_,.inl rfl,.inr rfl,rfl⟩
   ·exact⟨_,_,.inr rfl,.inl rfl,rfl⟩
  ·exact⟨_,_,.inr rfl,.inr rfl,rfl⟩
 ·intro x y hx hy
  simp only[oL]
  rcases hx with rfl | rfl<;>rcases hy with rfl | rfl<;>omega
end Go.N
namespace Go.N
open Go Go.Q Go.Rx
def pt(i:Nat)(s:Sp):Sp:=if i=0 then negS s else if i=1 then zerS s else posS s
def Qp(i k:Nat)(p q:Sp):Sp:=if i=1∨k=1 then⟨.fin 0,.fin 0⟩else if i=0 then(if k=0 then⟨xmul p.hi q.hi,xmul p.lo q.lo⟩else⟨xmul p.lo q.hi,xmul p.hi q.lo⟩)else(if k=0 then⟨xmul p.hi q.lo,xmul p.lo q.hi⟩else⟨xmul p.lo q.lo,xmul p.hi q.hi⟩)
theorem vO{s:Sp}(h:oks C s)(i:Nat):oks C (pt i s):=by
 unfold pt;split
 ·exact ae5 h
 ·split
  ·exact afl h
  ·exact ae9 h
theorem i3{i:Nat}(h:i < 3):i=0∨i=1∨i=2:=by omega
theorem zK{s:Sp}(h:oks C s):(key (negS s).lo=key s.lo∧key (negS s).hi=min (key s.hi) (-1))∧(key (zerS s).lo=max (key s.lo) 0∧key (zerS s).hi=min (key s.hi) 0)∧(key (posS s).lo=max (key s.lo) 1∧key (posS s).hi=key s.hi):=by
 have a:=oW h.K.1
 have b:=oW h.K.2
 have h1:key (negS s).lo=max (key s.lo) (-K):=oL s.lo .ni
 have h2:key (negS s).hi=min (key s.hi) (-1):=oM s.hi (.fin (-1))
 have h3:key (zerS s).lo=max (key s.lo) 0:=oL s.lo (.fin 0)
 have h4:key (zerS s).hi=min (key s.hi) 0:=oM s.hi (.fin 0)
 have h5:key (posS s).lo=max (key s.lo) 1:=oL s.lo (.fin 1)
 have h6:key (posS s).hi=min (key s.hi) K:=oM s.hi .pi
 omega
theorem yP{s:Sp}(hs:oks C s){i:Nat}{x:X}(h:El (pt i s) x):El s x:=by
 have k:=zK hs
 obtain⟨h1,h2,h3⟩:=h
 refine⟨h1,?_,?_⟩<;>unfold pt at h2 h3<;>split at h2<;>(try split at h2)<;>simp_all<;>omega
theorem xQ{s:Sp}{x:X}(h:El s x):emp s=false:=decide_eq_false (by have:=h.2;omega)
theorem vW{s:Sp}(hs:oks C s){x:X}:(El (pt 0 s) x→key x≤-1)∧(El (pt 1 s) x→key x=0)∧(El (pt 2 s) x→1≤key x):=by
 have k:=zK hs
 refine⟨fun h=>?_,fun h=>?_,fun h=>?_⟩
 ·have:=h.2.2;simp only[pt,if_true]at this;omega
 ·have a:=h.2.1
  have b:=h.2.2
  simp only[pt,Nat.one_ne_zero,if_true,if_false]at a b;omega
 ·have:=h.2.1
  simp only[pt,show ¬(2=0) by omega,show ¬(2=1) by omega,if_false]at this;omega
theorem cls{s:Sp}(hs:oks C s){x:X}(h:El s x):∃ i,i < 3∧El (pt i s) x:=by
 have k:=zK hs
 obtain⟨h1,h2,h3⟩:=h
 rcases Int.lt_trichotomy (key x) 0 with z | z | z
 ·exact⟨0,by omega,h1,by simp only[pt,if_true];omega,by simp only[pt,if_true];omega⟩
 ·exact⟨1,by omega,h1,by simp only[pt,Nat.one_ne_zero,if_true,if_false];omega,by simp only[pt,Nat.one_ne_zero,if_true,if_false];omega⟩
 ·exact⟨2,by omega,h1,by simp only[pt,show ¬(2=0) by omega,show ¬(2=1) by omega,if_false];omega,by simp only[pt,show ¬(2=0) by omega,show ¬(2=1) by omega,if_false];omega⟩
theorem sg0{x:X}(h:key x=0):sg x=0:=(rO x).2.1.2 h
theorem uq{x y:X}(h:key x=0∨key y=0):xmul x y=.fin 0:=by
 unfold xmul
 rw[if_pos]
 rcases h with h | h
 ·rw[sg0 h,Int.zero_mul]
 ·rw[sg0 h,Int.mul_zero]
theorem upr{x y y':X}(hx:okx Dd x)(hy:okx Dd y)(hy':okx Dd y')(h:key y≤key y')(h0:0≤key x):key (xmul x y)≤key (xmul x y'):=by rw[lT x y,lT x y'];exact nS hy hy' hx h h0
theorem dnr{x y y':X}(hx:okx Dd x)(hy:okx Dd y)(hy':okx Dd y')(h:key y≤key y')(h0:key x≤0):key (xmul x y')≤key (xmul x y):=by rw[lT x y,lT x y'];exact oJ hy hy' hx h h0
theorem afo{s t:Sp}(hs:oks C s)(ht:oks C t){i k:Nat}(hi:i < 3)(hk:k < 3){x y:X}(hx:El (pt i s) x)(hy:El (pt k t) y):
  key (Qp i k (pt i s) (pt k t)).lo≤key (xmul x y)∧key (xmul x y)≤key (Qp i k (pt i s) (pt k t)).hi:=by
 have ps:=vO hs i
 have qs:=vO ht k
 have pe:=xQ hx
 have qe:=xQ hy
 have a:=xP ps pe
 have b:=xO ps pe
 have c:=xP qs qe
 have d:=xO qs qe
 have S:=@vW s hs
 have T:=@vW t ht
 rcases i3 hi with rfl | rfl | rfl
 ·have sx:=S.1 hx
  have sa:=S.1 a
  have sb:=S.1 b
  rcases i3 hk with rfl | rfl | rfl
  ·have sy:=T.1 hy
   have sc:=T.1 c
   have sd:=T.1 d
   simp only[Qp,Nat.zero_ne_one,or_self,if_false,if_true]
   exact⟨Int.le_trans (oJ hx.1 b.1 d.1 hx.2.2 (by omega)) (dnr hx.1 hy.1 d.1 hy.2.2 (by omega)),Int.le_trans (oJ a.1 hx.1 hy.1 hx.2.1 (by omega)) (dnr a.1 c.1 hy.1 hy.2.1 (by omega))⟩
  ·have sy:=T.2.1 hy
   simp only[Qp,or_true,if_true]
   rw[uq (.inr sy)];exact⟨Int.le_refl _,Int.le_refl _⟩
  ·have sy:=T.2.2 hy
   have sc:=T.2.2 c
   have sd:=T.2.2 d
   simp only[Qp,Nat.zero_ne_one,show ¬(2=1) by omega,show ¬(2=0) by omega,or_self,if_false,if_true]
   exact⟨Int.le_trans (dnr a.1 hy.1 d.1 hy.2.2 (by omega)) (nS a.1 hx.1 hy.1 hx.2.1 (by omega)),Int.le_trans (nS hx.1 b.1 hy.1 hx.2.2 (by omega)) (dnr b.1 c.1 hy.1 hy.2.1 (by omega))⟩
 ·have sx:=S.2.1 hx
  simp only[Qp,true_or,if_true]
  rw[uq (.inl sx)];exact⟨Int.le_refl _,Int.le_refl _⟩
 ·have sx:=S.2.2 hx
  have sa:=S.2.2 a
  have sb:=S.2.2 b
  rcases i3 hk with rfl | rfl | rfl
  ·have sy:=T.1 hy
   have sc:=T.1 c
   have sd:=T.1 d
   simp only[Qp,Nat.zero_ne_one,show ¬(2=1) by omega,show ¬(2=0) by omega,or_self,if_false,if_true]
   exact⟨Int.le_trans (oJ hx.1 b.1 c.1 hx.2.2 (by omega)) (upr hx.1 c.1 hy.1 hy.2.1 (by omega)),Int.le_trans (oJ a.1 hx.1 hy.1 hx.2.1 (by omega)) (upr a.1 hy.1 d.1 hy.2.2 (by omega))⟩
  ·have sy:=T.2.1 hy
   simp only[Qp,or_true,if_true]
   rw[uq (.inr sy)];exact⟨Int.le_refl _,Int.le_refl _⟩
  ·have sy:=T.2.2 hy
   have sc:=T.2.2 c
   have sd:=T.2.2 d
   simp only[Qp,show ¬(2=1) by omega,show ¬(2=0) by omega,or_self,if_false]
   exact⟨Int.le_trans (nS a.1 hx.1 c.1 hx.2.1 (by omega)) (upr hx.1 c.1 hy.1 hy.2.1 (by omega)),Int.le_trans (nS hx.1 b.1 hy.1 hx.2.2 (by omega)) (upr b.1 hy.1 d.1 hy.2.2 (by omega))⟩
theorem aeH{s t:Sp}(hs:oks C s)(ht:oks C t){i k:Nat}(hi:i < 3)(hk:k < 3)(ei:emp (pt i s)=false)(ek:emp (pt k t)=false):
  (∃ x y,El (pt i s) x∧El (pt k t) y∧(Qp i k (pt i s) (pt k t)).lo=xmul x y)∧(∃ x y,El (pt i s) x∧El (pt k t) y∧(Qp i k (pt i s) (pt k t)).hi=xmul x y):=by
 have a:=xP (vO hs i) ei
 have b:=xO (vO hs i) ei
 have c:=xP (vO ht k) ek
 have d:=xO (vO ht k) ek
 by_cases z:i=1∨k=1
 ·have e:xmul (pt i s).lo (pt k t).lo=.fin 0:=by
   apply uq
   rcases z with rfl | rfl
   ·exact .inl ((vW hs).2.1 a)
   ·exact .inr ((vW ht).2.1 c)
  simp only[Qp,if_pos z]
  exact⟨⟨_,_,a,c,e.symm⟩,⟨_,_,a,c,e.symm⟩⟩
 ·unfold Qp
  rw[if_neg z]
  split<;>split
  ·exact⟨⟨_,_,b,d,rfl⟩,⟨_,_,a,c,rfl⟩⟩
  ·exact⟨⟨_,_,a,d,rfl⟩,⟨_,_,b,c,rfl⟩⟩
  ·exact⟨⟨_,_,b,c,rfl⟩,⟨_,_,a,d,rfl⟩⟩
  ·exact⟨⟨_,_,a,c,rfl⟩,⟨_,_,b,d,rfl⟩⟩
theorem afp{s t:Sp}(hs:oks C s)(ht:oks C t)(i k:Nat):oks K (Qp i k (pt i s) (pt k t)):=by
 have hK:=K_gt
 have p:=vO hs i
 have q:=vO ht k
 have z:okx K (.fin 0):=by simp only[okx];omega
 unfold Qp
 split
 ·exact⟨z,z⟩
 ·split<;>split
  ·exact⟨pG p.2 q.2,pG p.1 q.1⟩
  ·exact⟨pG p.1 q.2,pG p.2 q.1⟩
  ·exact⟨pG p.2 q.1,pG p.1 q.2⟩
  ·exact⟨pG p.1 q.1,pG p.2 q.2⟩
section
variable {s t:Sp}(hs:oks C s)(ht:oks C t)(es:emp s=false)(et:emp t=false)(ps:Pr s)(pt':Pr t)
include hs ht es et
theorem yc{x y:X}(hx:x=s.lo∨x=s.hi)(hy:y=t.lo∨y=t.hi):El s x∧El t y:=by
 constructor
 ·rcases hx with rfl | rfl
  ·exact xP hs es
  ·exact xO hs es
 ·rcases hy with rfl | rfl
  ·exact xP ht et
  ·exact xO ht et
theorem F1{i k:Nat}(hi:i < 3)(hk:k < 3)(ei:emp (pt i s)=false)(ek:emp (pt k t)=false):
  key (apS xmul s t).lo≤key (Qp i k (pt i s) (pt k t)).lo∧key (Qp i k (pt i s) (pt k t)).hi≤key (apS xmul s t).hi:=by
 obtain⟨⟨x,y,hx,hy,e⟩,⟨x',y',hx',hy',e'⟩⟩:=aeH hs ht hi hk ei ek
 have en:=aaj (o:=xmul) es et
 obtain⟨⟨cx,cy,c1,c2,c3⟩,_⟩:=corner hs ht (yP hs hx) (yP ht hy)
 obtain⟨_,⟨dx,dy,d1,d2,d3⟩⟩:=corner hs ht (yP hs hx') (yP ht hy')
 have a:=en.1.2 cx cy c1 c2
 have b:=en.2.2 dx dy d1 d2
 rw[e,e']
 omega
theorem F2:(∃ i k,i < 3∧k < 3∧emp (pt i s)=false∧emp (pt k t)=false∧(Qp i k (pt i s) (pt k t)).lo=(apS xmul s t).lo)∧
  (∃ i k,i < 3∧k < 3∧emp (pt i s)=false∧emp (pt k t)=false∧(Qp i k (pt i s) (pt k t)).hi=(apS xmul s t).hi):=by
 have en:=aaj (o:=xmul) es et
 have ok:=ae4 hs ht
 constructor
 ·obtain⟨cx,cy,c1,c2,c3⟩:=en.1.1
  have co:=yc hs ht es et c1 c2
  obtain⟨i,hi,xi⟩:=cls hs co.1
  obtain⟨k,hk,yk⟩:=cls ht co.2
  have ei:=xQ xi
  have ek:=xQ yk
  have q:=afo hs ht hi hk xi yk
  have f:=F1 hs ht es et hi hk ei ek
  refine⟨i,k,hi,hk,ei,ek,key_inj (afp hs ht i k).1 ok.1 ?_⟩
  rw[←c3]at q
  omega
 ·obtain⟨cx,cy,c1,c2,c3⟩:=en.2.1
  have co:=yc hs ht es et c1 c2
  obtain⟨i,hi,xi⟩:=cls hs co.1
  obtain⟨k,hk,yk⟩:=cls ht co.2
  have ei:=xQ xi
  have ek:=xQ yk
  have q:=afo hs ht hi hk xi yk
  have f:=F1 hs ht es et hi hk ei ek
  refine⟨i,k,hi,hk,ei,ek,key_inj (afp hs ht i k).2 ok.2 ?_⟩
  rw[←c3]at q
  omega
end
section
variable {s t:Sp}(hs:oks C s)(ht:oks C t)(es:emp s=false)(et:emp t=false)(ps:Pr s)(pt':Pr t)
include hs ht es et ps pt'
end
section
variable {s t:Sp}(hs:oks C s)(ht:oks C t)(es:emp s=false)(et:emp t=false)(ps:Pr s)(pt':Pr t)
include hs ht es et ps pt'
end
end Go.N
namespace Go.N
open Go Go.Q Go.Rx
def pp(i:Nat)(s:Sp):Sp:=if i=0 then⟨xneg (negS s).hi,xneg (negS s).lo⟩else posS s
section
variable (lf:Nat)(h3:200000≤lf){s t:Sp}(hs:oks C s)(ht:oks C t)(ps:Pr s)(pt':Pr t)
include h3 hs ht ps pt'
def sv(s:Sp):List IV:=[ac (toA (negS s)),ac (toA (zerS s)),ac (toA (posS s))]
end
end Go.N
namespace Go.N
open Go Go.Q Go.Rx
theorem abE{s:Sp}{z:Int}:inS s z=true↔key s.lo≤z∧z≤key s.hi:=by unfold inS;simp
theorem agG{s:Sp}{z:Int}(h:inS s z=true):emp s=false:=acE h
section
variable {s t:Sp}(hs:oks C s)(ht:oks C t){x y:Int}(bx: -Dd < x∧x < Dd)(by': -Dd < y∧y < Dd)(hx:inS s x=true)(hy:inS t y=true)
include hs ht bx by' hx hy
end
section
variable {s t:Sp}(hs:oks C s)(ht:oks C t)(ps:Pr s)(pt':Pr t){x y:Int}(bx: -Dd < x∧x < Dd)(by': -Dd < y∧y < Dd)(hx:inS s x=true)(hy:inS t y=true)
include hs ht ps pt' bx by' hx hy
end
end Go.N
namespace Go.N
open Go Go.Q Go.Rx
theorem agq:Wf (toA non):=abg uZ (.inl rX)
theorem adU{a:A}(h:a.em=true):ofA a=non:=by unfold ofA;rw[if_pos h]
section
variable {a b:A}(ha:Wf a)(hb:Wf b)
include ha hb
theorem zk:Wf (toA (hull (ofA a) (ofA b))):=by
 have hK:=K_gt
 have kh:=xh (ofA a) (ofA b)
 have ka:=ha.ks.keys
 have kb:=hb.ks.keys
 exact zV (nI ha.okK hb.okK) (by intro h;rw[kh.1,kh.2]at *;split at*<;>(try split at *)<;>omega)
theorem aap:Wf (toA (common (ofA a) (ofA b))):=by
 have hK:=K_gt
 have k1:key (common (ofA a) (ofA b)).lo=max (key (ofA a).lo) (key (ofA b).lo):=oL _ _
 have k2:key (common (ofA a) (ofA b)).hi=min (key (ofA a).hi) (key (ofA b).hi):=oM _ _
 have ka:=ha.ks.keys
 have kb:=hb.ks.keys
 exact zV (qG ha.okK hb.okK) (by intro h;rw[k1,k2]at *;omega)
theorem uw:Wf (toA (narrow a b)):=by
 unfold narrow
 split
 ·exact agq
 ·refine abg ⟨uz (ve ha.loK hb.loK),uy (ve ha.hiK hb.hiK)⟩ (.inr ⟨?_,?_⟩)
  ·cases orO a.lo b.lo<;>simp[lox]
  ·cases orO a.hi b.hi<;>simp[hix]
end
theorem zx(s:Sp):leqA s s=true:=by rw[pV];apply decide_eq_true;omega
theorem wI{a b:A}(ha:Wf a)(hb:Wf b){zs:List Int}(hz:Th zs):
  Wf (toA (widen (ofA a) (ofA b) zs))∧leqA (ofA a) (ofA (toA (widen (ofA a) (ofA b) zs)))=true∧leqA (ofA b) (ofA (toA (widen (ofA a) (ofA b) zs)))=true:=by
 have hK:=K_gt
 cases ea:a.em with
 | true =>
  have e:toA (widen (ofA a) (ofA b) zs)=b:=by
   unfold widen hull
   rw[ig ha,ea,if_pos (.inl rfl),if_pos rfl,qx hb]
  rw[e]
  refine⟨hb,?_,zx _⟩
  unfold leqA;rw[ig ha,ea];rfl
 | false=>cases eb:b.em with
  | true =>
   have e:toA (widen (ofA a) (ofA b) zs)=a:=by
    unfold widen hull
    rw[ig ha,ig hb,ea,eb,if_pos (.inr rfl),if_neg (by simp),if_pos rfl,qx ha]
   rw[e]
   refine⟨ha,zx _,?_⟩
   unfold leqA;rw[ig hb,eb];rfl
  | false =>
   have ka:=ha.ks.e2 ea
   have kb:=hb.ks.e2 eb
   obtain⟨he,hp,hn⟩:=yh ha hb ea eb
   have hCo:=nI ha.okC hb.okC
   have hKo:=nI ha.okK hb.okK
   have kh:=xh (ofA a) (ofA b)
   rw[if_neg (by omega),if_neg (by omega),if_neg (by omega),if_neg (by omega)]at kh
   have hW:widen (ofA a) (ofA b) zs=⟨if key (hull (ofA a) (ofA b)).lo≠key (ofA a).lo then below zs (hull (ofA a) (ofA b)).lo else(hull (ofA a) (ofA b)).lo,if key (hull (ofA a) (ofA b)).hi≠key (ofA a).hi then above zs (hull (ofA a) (ofA b)).hi else(hull (ofA a) (ofA b)).hi⟩:=by
    unfold widen;rw[ig ha,ig hb,ea,eb,if_neg (by simp)]
   generalize hull (ofA a) (ofA b)=H at *
   have le1:=below_le zs hKo.1
   have le2:=aah zs hKo.2
   have o1:=aal hz H.lo
   have o2:=aai hz H.hi
   rw[hW]
   obtain⟨lo,hlo⟩:∃ lo,lo=(if key H.lo≠key (ofA a).lo then below zs H.lo else H.lo):=⟨_,rfl⟩
   obtain⟨hi,hhi⟩:∃ hi,hi=(if key H.hi≠key (ofA a).hi then above zs H.hi else H.hi):=⟨_,rfl⟩
   rw[←hlo,←hhi]
   have olo:okx C lo:=by rw[hlo];split;exact o1;exact hCo.1
   have ohi:okx C hi:=by rw[hhi];split;exact o2;exact hCo.2
   have klo:key lo≤key H.lo:=by rw[hlo];split;exact le1;exact Int.le_refl _
   have khi:key H.hi≤key hi:=by rw[hhi];split;exact le2;exact Int.le_refl _
   have kk:=aaD (s:=⟨lo,hi⟩) ⟨olo,ohi⟩ (fun _=>by simp only;omega)
   have wf:=zV (s:=⟨lo,hi⟩) ⟨olo.mono (Int.le_of_lt ji),ohi.mono (Int.le_of_lt ji)⟩ (fun _=>by simp only;omega)
   simp only at kk
   rw[if_neg (by omega),if_neg (by omega)]at kk
   refine⟨wf,?_,?_⟩
   ·rw[pV,kk.1,kk.2];apply decide_eq_true;omega
   ·rw[pV,kk.1,kk.2];apply decide_eq_true;omega
end Go.N
namespace Go.N
open Go Go.Q Go.Rx
def leqV(v w:Vl):Bool:=leqA (ofA v.a) (ofA w.a)&&iR v.c w.c
theorem adI{a b:A}(h:a.em=true):leqA (ofA a) (ofA b)=true:=by
 unfold leqA;rw[adU h,rX];rfl
theorem abI{a b:A}(ha:Wf a)(hb:Wf b)(ea:a.em=false)(eb:b.em=false):
  leqA (ofA a) (ofA b)=true↔(∀ l,b.lo=some l→∃ k,a.lo=some k∧l≤k)∧∀ u,b.hi=some u→∃ k,a.hi=some k∧k≤u:=by
 have a1:=ha.loK
 have a2:=ha.hiK
 have b1:=hb.loK
 have b2:=hb.hiK
 have e:emp (ofA a)=false:=by rw[ig ha,ea]
 unfold leqA
 rw[e,Bool.false_or]
 unfold ofA
 rw[ea,eb,if_neg (by simp),if_neg (by simp)]
 simp only[Bool.and_eq_true,decide_eq_true_eq]
 have L:key (lox b.lo)≤key (lox a.lo)↔∀ l,b.lo=some l→∃ k,a.lo=some k∧l≤k:=by
  revert a1 b1
  cases b.lo with
  | none=>cases a.lo with
   | none=>simp[lox,key]
   | some k=>simp[lox,key,okb]<;>omega
  | some l=>cases a.lo with
   | none=>simp[lox,key,okb]<;>omega
   | some k=>simp[lox,key]
 have U:key (hix a.hi)≤key (hix b.hi)↔∀ u,b.hi=some u→∃ k,a.hi=some k∧k≤u:=by
  revert a2 b2
  cases b.hi with
  | none=>cases a.hi with
   | none=>simp[hix,key]
   | some k=>simp[hix,key,okb]<;>omega
  | some l=>cases a.hi with
   | none=>simp[hix,key,okb]<;>omega
   | some k=>simp[hix,key]
 rw[L,U]
theorem zu{a b:A}(ha:Wf a)(hb:Wf b)(h:leqA (ofA a) (ofA b)=true)(ea:a.em=false):b.em=false:=by
 cases eb:b.em with
 | false=>rfl
 | true =>
  have hK:=K_gt
  have e:emp (ofA a)=false:=by rw[ig ha,ea]
  have k:=ha.ks.keys
  rw[pV,decide_eq_true_eq,adU eb,zn.1,zn.2]at h
  have:=of_decide_eq_false e
  omega
theorem aeZ{s t:Sp}(h:leqA s t=true){z:Int}(hz:inS s z=true):inS t z=true:=by
 have e:=agG hz
 rw[pV,decide_eq_true_eq]at h
 have:=of_decide_eq_false e
 have:=abE.1 hz
 exact abE.2 (by omega)
namespace WfV
variable {v:Vl}(h:WfV v)
include h
theorem em:v.a.em=v.c.em:=by
 have r:=h.red
 unfold Go.N.red at r
 cases e1:v.a.em with
 | true =>
  rw[if_pos e1]at r
  rw[←r];rfl
 | false=>cases e2:v.c.em with
  | false=>rfl
  | true =>
   rw[if_neg (by simp[e1]),if_pos e2]at r
   rw[←r]at e1;simp[Ev,E0]at e1
theorem ev(e:v.a.em=true):v=Ev:=by
 have r:=h.red
 unfold Go.N.red at r
 rw[if_pos e]at r
 exact r.symm
theorem one(e:v.a.em=false)(m:v.c.m=0):v=onev v.c.r∧inS (ofA v.a) v.c.r=true:=by
 have r:=h.red
 have e2:v.c.em=false:=by rw[←h.em,e]
 unfold Go.N.red at r
 rw[if_neg (by simp[e]),if_neg (by simp[e2]),if_pos m]at r
 split at r
 ·exact⟨r.symm,by assumption⟩
 ·rw[←r]at e;simp[Ev,E0]at e
theorem fin(e:v.a.em=false)(m:v.c.m≠0):fin3 (v.a.lo.map (loC v.c)) (v.a.hi.map (hiC v.c)) v.c=v:=by
 have r:=h.red
 have e2:v.c.em=false:=by rw[←h.em,e]
 unfold Go.N.red at r
 rwa [if_neg (by simp[e]),if_neg (by simp[e2]),if_neg m]at r
theorem bnd(e:v.a.em=false):(∀ l,v.a.lo=some l→inC v.c l=true)∧∀ l,v.a.hi=some l→inC v.c l=true:=by
 have e2:v.c.em=false:=by rw[←h.em,e]
 by_cases m:v.c.m=0
 ·obtain⟨o,i⟩:=h.one e m
  have hs:inC v.c v.c.r=true:=(nJ e2 h.c.pos).2 (by simp)
  constructor
  ·intro l hl
   rw[o]at hl;cases hl;exact hs
  ·intro l hl
   rw[o]at hl;cases hl;exact hs
 ·have p:0 < v.c.m:=by have:=h.c.pos;omega
  have f:=h.fin e m
  have ck:=h.a
  have lo:=ck.lo
  have hi:=ck.hi
  revert f lo hi
  cases hl:v.a.lo with
  | none=>cases hh:v.a.hi with
   | none=>intro _ _ _;exact⟨nofun,nofun⟩
   | some u =>
    intro f lo hi
    have f2:=congrArg (fun x=>x.a.hi) f
    simp only[Option.map,fin3,Option.bind,hh]at f2
    have hu:hiC v.c u=u:=by
     unfold clip at f2;split at f2
     ·exact Option.some.inj f2
     ·cases f2
    exact⟨nofun,fun l x=>by cases x;exact(nJ e2 h.c.pos).2 (by have:=abC p u;rwa [hu]at this)⟩
  | some l=>cases hh:v.a.hi with
   | none =>
    intro f lo hi
    have f2:=congrArg (fun x=>x.a.lo) f
    simp only[Option.map,fin3,Option.bind,hl]at f2
    have hu:loC v.c l=l:=by
     unfold clip at f2;split at f2
     ·exact Option.some.inj f2
     ·cases f2
    exact⟨fun l x=>(by cases x;exact(nJ e2 h.c.pos).2 (by have:=abK p l;rwa [hu]at this)),nofun⟩
   | some u =>
    intro f lo hi
    simp only[Option.map,fin3]at f
    split at f
    ·rw[←f]at e;simp[Ev,E0]at e
    ·split at f
     ·rw[←f]at m;simp[onev]at m
     ·have f1:=congrArg (fun x=>x.a.lo) f
      have f2:=congrArg (fun x=>x.a.hi) f
      simp only[hl,hh]at f1 f2
      have h1:loC v.c l=l:=by
       unfold clip at f1;split at f1
       ·exact Option.some.inj f1
       ·cases f1
      have h2:hiC v.c u=u:=by
       unfold clip at f2;split at f2
       ·exact Option.some.inj f2
       ·cases f2
      exact⟨fun k x=>(by cases x;exact(nJ e2 h.c.pos).2 (by have:=abK p l;rwa [h1]at this)),fun k x=>(by cases x;exact(nJ e2 h.c.pos).2 (by have:=abC p u;rwa [h2]at this))⟩
theorem eqb(e:v.a.em=false){z:Int}(h1:v.a.lo=some z)(h2:v.a.hi=some z):v=onev z:=by
 have e2:v.c.em=false:=by rw[←h.em,e]
 by_cases m:v.c.m=0
 ·obtain⟨o,i⟩:=h.one e m
  rw[o]at h1
  cases h1;exact o
 ·have p:0 < v.c.m:=by have:=h.c.pos;omega
  have f:=h.fin e m
  have d1:=(nJ e2 h.c.pos).1 ((h.bnd e).1 z h1)
  have d2:=(nJ e2 h.c.pos).1 ((h.bnd e).2 z h2)
  rw[h1,h2]at f
  simp only[Option.map,fin3,aa4 p d1,aa1 p d2]at f
  rw[if_neg (by omega),if_pos trivial]at f
  exact f.symm
end WfV
theorem yC{v:Vl}(h:WfV v):leqV v v=true:=by
 unfold leqV;rw[zx,rE h.c];rfl
theorem acK{c d:Cg}(h:iR c d=true)(e:c.em=false):d.em=false:=by
 unfold iR at h
 rw[if_neg (by simp[e])]at h
 revert h;cases d.em<;>simp
theorem abJ{v:Vl}(hv:WfV v){r:A}{c:Cg}(hr:Wf r)(hc:WfC c)(h1:leqA (ofA v.a) (ofA r)=true)(h2:iR v.c c=true):leqV v (red r c)=true:=by
 cases e:v.a.em with
 | true =>
  have e2:v.c.em=true:=by rw[←hv.em,e]
  unfold leqV
  rw[adI e,yu e2];rfl
 | false =>
  have e2:v.c.em=false:=by rw[←hv.em,e]
  have er:=zu hv.a hr h1 e
  have ec:=acK h2 e2
  obtain⟨q1,q2⟩:=(lF hc e2 ec).1 h2
  obtain⟨g1,g2⟩:=(abI hv.a hr e er).1 h1
  obtain⟨b1,b2⟩:=hv.bnd e
  have wr:=ad4 hr hc
  by_cases m:c.m=0
  ·rw[m]at q1 q2
   have m1:=Int.zero_dvd.1 q1
   have m2:v.c.r=c.r:=by have:=Int.zero_dvd.1 q2;omega
   obtain⟨o,i⟩:=hv.one e m1
   have:red r c=onev v.c.r:=by
    unfold red
    rw[if_neg (by simp[er]),if_neg (by simp[ec]),if_pos m,←m2,if_pos (aeZ h1 i)]
   rw[this,←o]
   exact yC hv
  ·have p:0 < c.m:=by have:=hc.pos;omega
   have C1:∀ x,r.lo.map (loC c)=some x→∃ k,v.a.lo=some k∧x≤k:=by
    intro x hx
    cases hl:r.lo with
    | none=>rw[hl]at hx;cases hx
    | some l =>
     rw[hl]at hx;cases hx
     obtain⟨k,k1,k2⟩:=g1 l hl
     exact⟨k,k1,adL p ((nJ ec hc.pos).1 (yw hv.c hc h2 (b1 k k1))) k2⟩
   have C2:∀ x,r.hi.map (hiC c)=some x→∃ k,v.a.hi=some k∧k≤x:=by
    intro x hx
    cases hl:r.hi with
    | none=>rw[hl]at hx;cases hx
    | some l =>
     rw[hl]at hx;cases hx
     obtain⟨k,k1,k2⟩:=g2 l hl
     exact⟨k,k1,aeP p ((nJ ec hc.pos).1 (yw hv.c hc h2 (b2 k k1))) k2⟩
   have R:red r c=fin3 (r.lo.map (loC c)) (r.hi.map (hiC c)) c:=by
    unfold red
    rw[if_neg (by simp[er]),if_neg (by simp[ec]),if_neg m]
   rw[R]at wr⊢
   revert C1 C2 wr
   generalize r.lo.map (loC c)=x
   generalize r.hi.map (hiC c)=y
   intro wr C1 C2
   have nb:∀ (z w:Int),clip z=some w→w=z:=by
    intro z w h
    unfold clip at h;split at h
    ·cases h;rfl
    ·cases h
   have fin:∀ t u:Option Int,Wf ⟨false,t,u⟩→(∀ l,t=some l→∃ k,v.a.lo=some k∧l≤k)→(∀ l,u=some l→∃ k,v.a.hi=some k∧k≤l)→leqV v ⟨⟨false,t,u⟩,c⟩=true:=by
    intro t u hw ht hu
    unfold leqV
    rw[(abI hv.a hw e rfl).2 ⟨ht,hu⟩,h2];rfl
   cases x with
   | none=>cases y with
    | none=>exact fin _ _ wr.a nofun nofun
    | some w=>exact fin _ _ wr.a nofun (fun l h=>by rw[nb _ _ h];exact C2 _ rfl)
   | some z=>cases y with
    | none=>exact fin _ _ wr.a (fun l h=>by rw[nb _ _ h];exact C1 _ rfl) nofun
    | some w =>
     obtain⟨k,k1,k2⟩:=C1 _ rfl
     obtain⟨k',k3,k4⟩:=C2 _ rfl
     have le:=hv.a.le
     rw[k1,k3]at le
     simp only[le?]at le
     unfold fin3 at wr⊢
     simp only at wr⊢
     rw[if_neg (by omega)]at wr⊢
     by_cases h3:z=w
     ·rw[if_pos h3]at wr⊢
      have k5:k=z:=by omega
      have k6:k'=z:=by omega
      rw[k5]at k1;rw[k6]at k3
      rw[←hv.eqb e k1 k3]
      exact yC hv
     ·rw[if_neg h3]at wr⊢
      exact fin _ _ wr.a (fun l h=>by rw[nb _ _ h];exact C1 _ rfl) (fun l h=>by rw[nb _ _ h];exact C2 _ rfl)
end Go.N
namespace Go.N
open Go Go.Q Go.Rx
def joinV(a b:Vl):Vl:=red (toA (hull (ofA a.a) (ofA b.a))) (joinC a.c b.c)
noncomputable def metV (a b:Vl):Vl:=red (toA (common (ofA a.a) (ofA b.a))) (metC a.c b.c)
def widV(zs:List Int)(a b:Vl):Vl:=red (toA (widen (ofA a.a) (ofA b.a) zs)) (joinC a.c b.c)
def narV(a b:Vl):Vl:=red (toA (narrow a.a b.a)) (if a.c=topC then b.c else a.c)
section
variable {a b:Vl}(ha:WfV a)(hb:WfV b)
include ha hb
theorem aeV:WfV (joinV a b):=ad4 (zk ha.a hb.a) (oP ha.c hb.c)
theorem agt{zs:List Int}(hz:Th zs):WfV (widV zs a b):=ad4 (wI ha.a hb.a hz).1 (oP ha.c hb.c)
end
section
variable {a b:Vl}(ha:WfV a)(hb:WfV b)
include ha hb
theorem adK{zs:List Int}(hz:Th zs):leqV a (widV zs a b)=true:=by
 obtain⟨w,l1,l2⟩:=wI ha.a hb.a hz
 exact abJ ha w (oP ha.c hb.c) l1 (uo ha.c)
theorem acM:leqA (ofA a.a) (ofA (toA (hull (ofA a.a) (ofA b.a))))=true:=by
 have hK:=K_gt
 have kh:=xh (ofA a.a) (ofA b.a)
 have ka:=ha.a.ks.keys
 have kb:=hb.a.ks.keys
 have hj:=aaD (nI ha.a.okC hb.a.okC) (by intro h;rw[kh.1,kh.2]at *;split at*<;>(try split at *)<;>omega)
 rw[pV,hj.1,hj.2,kh.1,kh.2]
 apply decide_eq_true
 (repeat' split)<;>omega
theorem acN:leqV a (joinV a b)=true:=abJ ha (zk ha.a hb.a) (oP ha.c hb.c) (acM ha hb) (uo ha.c)
end
end Go.N
namespace Go.N
open Go Go.Q Go.Rx
abbrev tb(b:ByteArray):Nat:=b.data.toList.length
def SmV(x:VV):Prop:=tb x.1.2.1≤100000∧tb x.1.2.2.1≤100000∧tb x.2.1.2.1≤100000∧tb x.2.1.2.2.1≤100000
theorem abk(x y:VV):(((x.1.1==y.1.1)&&((x.1.2.1==y.1.2.1)&&((x.1.2.2.1==y.1.2.2.1)&&true)))&&(((x.2.1.1==y.2.1.1)&&((x.2.1.2.1==y.2.1.2.1)&&((x.2.1.2.2.1==y.2.1.2.2.1)&&true)))&&true))=decide (x=y):=by
 obtain⟨⟨e1,l1,m1,⟨⟩⟩,⟨e2,l2,m2,⟨⟩⟩,⟨⟩⟩:=x
 obtain⟨⟨f1,p1,q1,⟨⟩⟩,⟨f2,p2,q2,⟨⟩⟩,⟨⟩⟩:=y
 rw[Bool.eq_iff_iff]
 simp only[adg,Bool.and_eq_true,beq_iff_eq,decide_eq_true_eq,Bool.and_true,Prod.mk.injEq,and_true]
theorem agV{a:A}{c:Cg}(ha:Wf a)(hc:WfC c)(h:vc (red a c)=vc ⟨a,c⟩):∃ v,vc ⟨a,c⟩=vc v∧WfV v:=by
 simp only[vc,Prod.mk.injEq]at h
 have e1:=afD h.1
 obtain⟨e2,e3⟩:=afK h.2.1
 cases ec:c.em with
 | true =>
  have hE:red a c=Ev:=by
   unfold red
   by_cases e:a.em=true
   ·rw[if_pos e]
   ·rw[if_neg e,if_pos ec]
  refine⟨Ev,?_,Ev_V⟩
  rw[hE]at e1
  simp only[vc,←e1]
  rw[nM ec];rfl
 | false =>
  rw[ec]at e2
  refine⟨⟨a,c⟩,rfl,ha,hc,?_⟩
  have e4:=e3 e2
  show red a c=⟨a,c⟩
  generalize red a c=r at *
  cases r;simp_all
section
variable (lf:Nat)(hb:Big lf)
include hb
theorem chkV{x:VV}(hx:SmV x):∃ n:Int,dS.f lf x=some (n,())∧gQ.f lf x=some (n,())∧(n=0→∃ v,x=vc v∧WfV v):=by
 have hlf:=hb.1
 have h3:200000≤lf:=by omega
 obtain⟨⟨e1,l1,m1,⟨⟩⟩,⟨e2,l2,m2,⟨⟩⟩,⟨⟩⟩:=x
 obtain⟨x1,x2,x3,x4⟩:=hx
 rw[←oV l1,←oV m1,←oV l2,←oV m2]
 simp only[tb]at x1 x2 x3 x4
 revert x1 x2 x3 x4
 generalize l1.data.toList=l1
 generalize m1.data.toList=m1
 generalize l2.data.toList=l2
 generalize m2.data.toList=m2
 intro x1 x2 x3 x4
 have p1:=aao lf h3 e1 l1 m1 (by omega) (by omega)
 have p2:=xW lf h3 e1 l1 m1 (by omega) (by omega) (by omega) (by omega)
 have q1:=afr lf h3 e2 l2 m2 (by omega) (by omega)
 have q2:=abq lf h3 e2 l2 m2 (by omega) (by omega) (by omega) (by omega)
 rw[dS.f,mO.f,gQ.f]
 simp only[p1,p2,bdS]
 by_cases k1:ck e1 l1 m1=0
 ·rw[k1]
  simp only[bne_self_eq_false,brF,q1,q2,bdS]
  by_cases k2:ckc e2 l2 m2=0
  ·obtain⟨a,ea,ha⟩:=agA k1
   obtain⟨c,ec,hc⟩:=afL k2
   rw[k2]
   have r1:=tK lf hb ha hc
   have r2:=tu lf hb ha hc
   rw[←ea,←ec]at r1 r2
   simp only[bne_self_eq_false,brF,r1,r2,bdS]
   have bq:=abk (vc (red a c)) ((e1,bs l1,bs m1,()),(e2,bs l2,bs m2,()),())
   simp only at bq
   rw[bq,ea,ec]
   by_cases h:vc (red a c)=(ac a,cc c,())
   ·rw[decide_eq_true h,Bool.not_true,brF]
    exact⟨0,rfl,rfl,fun _=>agV ha hc h⟩
   ·rw[decide_eq_false h,Bool.not_false,brT]
    exact⟨3,rfl,rfl,nofun⟩
  ·simp only[bneT k2,brT]
   exact⟨_,rfl,rfl,fun h=>absurd h k2⟩
 ·simp only[bneT k1,brT,bdS]
  exact⟨_,rfl,rfl,fun h=>absurd h k1⟩
theorem chk_wf{v:Vl}(h:WfV v):dS.f lf (vc v)=some (0,())∧gQ.f lf (vc v)=some (0,()):=by
 have hlf:=hb.1
 have h3:200000≤lf:=by omega
 have p1:=kR lf h3 h.a
 have p2:=yR lf h3 h.a
 have q1:=ccheck lf hb h.c
 have q2:=rcheck lf hb h.c
 have r1:=tK lf hb h.a h.c
 have r2:=tu lf hb h.a h.c
 rw[h.red]at r1 r2
 have bq:=abk (vc v) (vc v)
 rw[decide_eq_true rfl]at bq
 constructor
 ·rw[dS.f,mO.f]
  simp only[show(vc v).1=ac v.a from rfl,show(vc v).2.1=cc v.c from rfl]at bq⊢
  simp only[p1,q1,r1,bdS,bne_self_eq_false,brF]
  simp only[show(vc v).1=ac v.a from rfl,show(vc v).2.1=cc v.c from rfl,bq,Bool.not_true,brF]
 ·rw[gQ.f]
  simp only[show(vc v).1=ac v.a from rfl,show(vc v).2.1=cc v.c from rfl]at bq⊢
  simp only[p2,q2,r2,bdS,bne_self_eq_false,brF]
  simp only[show(vc v).1=ac v.a from rfl,show(vc v).2.1=cc v.c from rfl,bq,Bool.not_true,brF]
theorem wL{v w:Vl}(h:WfV v)(k:WfV w):fD.f lf (vc v) (vc w)=some (0,()):=by
 rw[fD.f,(chk_wf lf hb h).1,bdS]
 simp only[bne_self_eq_false,brF,(chk_wf lf hb k).1,bdS]
end
end Go.N
namespace Go.N
open Go Go.Q Go.Rx
section
variable (lf:Nat)(hb:Big lf){v w:Vl}(hv:WfV v)(hw:WfV w)
include hb hv hw
theorem aeW:mM.f lf (vc v) (vc w)=some (vc (joinV v w),0,()):=by
 have h3:200000≤lf:=by have:=hb.1;omega
 rw[mM.f,wL lf hb hv hw,bdS]
 simp only[bne_self_eq_false,brF]
 simp only[show(vc v).1=ac v.a from rfl,show(vc v).2.1=cc v.c from rfl,show(vc w).1=ac w.a from rfl,show(vc w).2.1=cc w.c from rfl,afZ lf h3 hv.a hw.a,adF lf hb hv.c hw.c,bdS,bne_self_eq_false,brF,tK lf hb (zk hv.a hw.a) (oP hv.c hw.c)]
 rfl
theorem aeX:iP.f lf (vc v) (vc w)=some (vc (joinV v w),()):=by
 have h3:200000≤lf:=by have:=hb.1;omega
 rw[iP.f]
 simp only[show(vc v).1=ac v.a from rfl,show(vc v).2.1=cc v.c from rfl,show(vc w).1=ac w.a from rfl,show(vc w).2.1=cc w.c from rfl,xg lf h3 hv.a hw.a,aaC lf hb hv.c hw.c,bdS,tu lf hb (zk hv.a hw.a) (oP hv.c hw.c)]
 rfl
theorem aga:iZ.f lf (vc v) (vc w)=some (vc (metV v w),0,()):=by
 have h3:200000≤lf:=by have:=hb.1;omega
 rw[iZ.f,wL lf hb hv hw,bdS]
 simp only[bne_self_eq_false,brF]
 simp only[show(vc v).1=ac v.a from rfl,show(vc v).2.1=cc v.c from rfl,show(vc w).1=ac w.a from rfl,show(vc w).2.1=cc w.c from rfl,af7 lf h3 hv.a hw.a,af6 lf hb hv.c hw.c,bdS,bne_self_eq_false,brF,tK lf hb (aap hv.a hw.a) (abN hv.c hw.c)]
 rfl
theorem agb:jG.f lf (vc v) (vc w)=some (vc (metV v w),()):=by
 have h3:200000≤lf:=by have:=hb.1;omega
 rw[jG.f]
 simp only[show(vc v).1=ac v.a from rfl,show(vc v).2.1=cc v.c from rfl,show(vc w).1=ac w.a from rfl,show(vc w).2.1=cc w.c from rfl,ae3 lf h3 hv.a hw.a,agP lf hb hv.c hw.c,bdS,tu lf hb (aap hv.a hw.a) (abN hv.c hw.c)]
 rfl
theorem af0:pK.f lf (vc v) (vc w)=some (leqV v w,0,()):=by
 have h3:200000≤lf:=by have:=hb.1;omega
 rw[pK.f,wL lf hb hv hw,bdS]
 simp only[bne_self_eq_false,brF]
 simp only[show(vc v).1=ac v.a from rfl,show(vc v).2.1=cc v.c from rfl,show(vc w).1=ac w.a from rfl,show(vc w).2.1=cc w.c from rfl,agO lf h3 hv.a hw.a,agN lf hb hv.c hw.c,bdS]
 unfold leqV
 cases leqA (ofA v.a) (ofA w.a)<;>simp only[brT,brF,Bool.true_and,Bool.false_and]
theorem af2:iO.f lf (vc v) (vc w)=some (leqV v w,()):=by
 have h3:200000≤lf:=by have:=hb.1;omega
 rw[iO.f]
 simp only[show(vc v).1=ac v.a from rfl,show(vc v).2.1=cc v.c from rfl,show(vc w).1=ac w.a from rfl,show(vc w).2.1=cc w.c from rfl,aa2 lf h3 hv.a hw.a,adD lf hb hv.c hw.c,bdS]
 unfold leqV
 cases leqA (ofA v.a) (ofA w.a)<;>simp only[brT,brF,Bool.true_and,Bool.false_and]
end
section
variable (lf:Nat)(hb:Big lf){v:Vl}(hv:WfV v)
include hb hv
end
section
variable (lf:Nat)(hb:Big lf){x y:VV}(hx:SmV x)(hy:SmV y)
include hb hx hy
end
end Go.N
namespace Go.N
open Go Go.Q Go.Rx
theorem aeM{v w:Vl}(hv:WfV v)(hw:WfV w)(zs:List Int)(e:v.a.em=true):widV zs v w=w:=by
 have e1:toA (widen (ofA v.a) (ofA w.a) zs)=w.a:=by
  unfold widen hull
  rw[ig hv.a,e,if_pos (.inl rfl),if_pos rfl,qx hw.a]
 have e2:joinC v.c w.c=w.c:=by unfold joinC;rw[if_pos (by rw[←hv.em];exact e)]
 unfold widV
 rw[e1,e2,hw.red]
theorem adw{v w:Vl}(hv:WfV v)(hw:WfV w)(zs:List Int)(e:v.a.em=false)(e':w.a.em=true):widV zs v w=v:=by
 have e1:toA (widen (ofA v.a) (ofA w.a) zs)=v.a:=by
  unfold widen hull
  rw[ig hv.a,ig hw.a,e,e',if_pos (.inr rfl),if_neg (by simp),if_pos rfl,qx hv.a]
 have e2:joinC v.c w.c=v.c:=by unfold joinC;rw[if_neg (by rw[←hv.em,e];simp),if_pos (by rw[←hw.em];exact e')]
 unfold widV
 rw[e1,e2,hv.red]
section
variable (lf:Nat)(hb:Big lf){v w:Vl}(hv:WfV v)(hw:WfV w)
include hb hv hw
theorem agu{zs:List Int}(hz:Th zs)(hl:zs.length≤1024)(hasc:bI.f lf (zs.map bz)=some (0,())):nR.f lf (vc v) (vc w) (zs.map bz)=some (vc (widV zs v w),0,()):=by
 have h3:200000≤lf:=by have:=hb.1;omega
 rw[nR.f,wL lf hb hv hw,bdS]
 simp only[bne_self_eq_false,brF]
 simp only[show(vc v).1=ac v.a from rfl,show(vc v).2.1=cc v.c from rfl,show(vc w).1=ac w.a from rfl,show(vc w).2.1=cc w.c from rfl,show(ac v.a).1=v.a.em from rfl,show(ac w.a).1=w.a.em from rfl,acn lf h3 hv.a hw.a hz hl hasc,bdS,bne_self_eq_false,brF]
 cases e:v.a.em with
 | true=>simp only[brT];rw[aeM hv hw zs e]
 | false=>cases e':w.a.em with
  | true=>simp only[brT,brF];rw[adw hv hw zs e e']
  | false =>
   simp only[brF,adF lf hb hv.c hw.c,bdS,bne_self_eq_false,tK lf hb (wI hv.a hw.a hz).1 (oP hv.c hw.c)]
   rfl
theorem agv{zs:List Int}(hz:Th zs)(hl:zs.length≤1024):iI.f lf (vc v) (vc w) (zs.map bz)=some (vc (widV zs v w),()):=by
 have h3:200000≤lf:=by have:=hb.1;omega
 rw[iI.f]
 simp only[show(vc v).1=ac v.a from rfl,show(vc v).2.1=cc v.c from rfl,show(vc w).1=ac w.a from rfl,show(vc w).2.1=cc w.c from rfl,aaO lf h3 hv.a hw.a hz hl,aaC lf hb hv.c hw.c,bdS,tu lf hb (wI hv.a hw.a hz).1 (oP hv.c hw.c)]
 rfl
theorem top1:((cc v.c).2.1.toList==(⟨#[49]⟩:ByteArray).toList)=decide (v.c=topC):=by
 rw[i1]
 cases e:v.c.em with
 | true =>
  rw[nM e,kP]
  simp only[decide_eq_decide]
  exact⟨fun x=>absurd x.symm (jS 1),fun x=>by rw[x]at e;cases e⟩
 | false =>
  rw[iy e,kP]
  simp only[decide_eq_decide]
  refine⟨fun x=>?_,fun x=>by rw[x];rfl⟩
  have m:=nC x
  have r:=hv.c.rng (by omega)
  rw[Cg.eta e,m,show v.c.r=0 by omega];rfl
theorem agh:mV.f lf (vc v) (vc w)=some (vc (narV v w),0,()):=by
 have h3:200000≤lf:=by have:=hb.1;omega
 rw[mV.f,wL lf hb hv hw,bdS]
 simp only[bne_self_eq_false,brF]
 simp only[show(vc v).1=ac v.a from rfl,show(vc v).2.1=cc v.c from rfl,show(vc w).1=ac w.a from rfl,show(vc w).2.1=cc w.c from rfl,adQ lf h3 hv.a hw.a,bdS,bne_self_eq_false,brF,top1 lf hb hv hw]
 unfold narV
 by_cases h:v.c=topC
 ·rw[decide_eq_true h,brT,if_pos h,tK lf hb (uw hv.a hw.a) hw.c,bdS]
 ·rw[decide_eq_false h,brF,if_neg h,tK lf hb (uw hv.a hw.a) hv.c,bdS]
theorem agi:iw.f lf (vc v) (vc w)=some (vc (narV v w),()):=by
 have h3:200000≤lf:=by have:=hb.1;omega
 have t:((((cc v.c).1==false)&&(((cc v.c).2.1==(⟨#[49]⟩:ByteArray))&&(((cc v.c).2.2.1==(⟨#[48]⟩:ByteArray))&&true))))=decide (v.c=topC):=by
  rw[i1,i0]
  cases e:v.c.em with
  | true =>
   rw[nM e]
   have:¬v.c=topC:=fun x=>by rw[x]at e;cases e
   rw[decide_eq_false this];rfl
  | false =>
   rw[iy e]
   simp only[adg,BEq.rfl,Bool.true_and,Bool.and_true]
   rw[Bool.eq_iff_iff]
   simp only[Bool.and_eq_true,decide_eq_true_eq]
   constructor
   ·rintro ⟨x,y⟩
    rw[Cg.eta e,nC (rq x),nC (rq y)];rfl
   ·intro x;rw[x];exact⟨rfl,rfl⟩
 rw[iw.f]
 simp only[dX.f,bdS,show(vc v).1=ac v.a from rfl,show(vc v).2.1=cc v.c from rfl,show(vc w).1=ac w.a from rfl,show(vc w).2.1=cc w.c from rfl,t,zH lf h3 hv.a hw.a]
 unfold narV
 by_cases h:v.c=topC
 ·rw[decide_eq_true h,brT,if_pos h,tu lf hb (uw hv.a hw.a) hw.c,bdS]
 ·rw[decide_eq_false h,brF,if_neg h,tu lf hb (uw hv.a hw.a) hv.c,bdS]
end
section
variable (lf:Nat)(hb:Big lf){x y:VV}(hx:SmV x)(hy:SmV y)
include hb hx hy
end
section
variable (lf:Nat)(hb:Big lf){x:VV}(hx:SmV x)
include hb hx
end
end Go.N
namespace Go.N
open Go Go.Q Go.Rx
theorem aby(lf:Nat)(x:IV):∃ b,jE.f lf x=some (b,())∧(b=true→tb x.2.1≤100000∧tb x.2.2.1≤100000):=by
 rw[jE.f]
 simp only[kD.f,bdS]
 by_cases h:((x.2.1.size:Nat):Int)≤250
 ·rw[decide_eq_true h,brT]
  refine⟨_,rfl,fun k=>?_⟩
  have k:=of_decide_eq_true k
  rw[Lib.size_eq]at h k
  exact⟨by simp only[tb];omega,by simp only[tb];omega⟩
 ·rw[decide_eq_false h,brF]
  exact⟨_,rfl,nofun⟩
theorem aeN(lf:Nat)(x y:IV):∃ b,kE.f lf x y=some (b,())∧(b=true→(tb x.2.1≤100000∧tb x.2.2.1≤100000)∧(tb y.2.1≤100000∧tb y.2.2.1≤100000)):=by
 rw[kE.f]
 by_cases h1:((x.2.1.size:Nat):Int)≤450
 ·rw[decide_eq_true h1,brT]
  by_cases h2:((x.2.2.1.size:Nat):Int)≤450
  ·rw[decide_eq_true h2,brT]
   by_cases h3:((y.2.1.size:Nat):Int)≤450
   ·rw[decide_eq_true h3,brT]
    refine⟨_,rfl,fun k=>?_⟩
    have k:=of_decide_eq_true k
    rw[Lib.size_eq]at h1 h2 h3 k
    exact⟨⟨by simp only[tb];omega,by simp only[tb];omega⟩,by simp only[tb];omega,by simp only[tb];omega⟩
   ·rw[decide_eq_false h3,brF];exact⟨_,rfl,nofun⟩
  ·rw[decide_eq_false h2,brF];exact⟨_,rfl,nofun⟩
 ·rw[decide_eq_false h1,brF];exact⟨_,rfl,nofun⟩
theorem afU(lf:Nat)(x y:VV):∃ b,jF.f lf x y=some (b,())∧(b=true→SmV x∧SmV y):=by
 obtain⟨a,a1,a2⟩:=aeN lf x.1 y.1
 obtain⟨b,b1,b2⟩:=aby lf x.2.1
 obtain⟨c,c1,c2⟩:=aby lf y.2.1
 rw[jF.f,a1,bdS]
 cases a with
 | false=>simp only[brF];exact⟨_,rfl,nofun⟩
 | true =>
  simp only[brT,b1,bdS]
  cases b with
  | false=>simp only[brF];exact⟨_,rfl,nofun⟩
  | true =>
   simp only[brT,c1,bdS]
   refine⟨_,rfl,fun k=>?_⟩
   obtain⟨q1,q2⟩:=a2 rfl
   have q3:=b2 rfl
   have q4:=c2 k
   exact⟨⟨q1.1,q1.2,q3.1,q3.2⟩,q2.1,q2.2,q4.1,q4.2⟩
theorem bigN(n:Nat):∃ lf,Big lf∧n≤lf:=⟨2000000000+K.toNat+n,⟨by omega,by omega⟩,by omega⟩
end Go.N
namespace Go.N
open Go.IntKind (i64)
open Go Go.Q Go.Rx
theorem apLe{α:Type}(b:Nat)(l l':List α)(hb:b≤1000)(h:l.length+l'.length≤1000000):apL true b l l'=some (l++l'):=by
 unfold apL
 have:(l.length+l'.length)*b≤1000000*1000:=Nat.mul_le_mul h hb
 rw[if_pos ⟨rfl,by simp only[maxLen];omega,by omega⟩]
theorem ltE{j k:Nat}:decide ((j:Int) < ((k:Nat):Int))=decide (j < k):=by simp
theorem wrE{j:Nat}(h:j < 1000000):i64.wrap ((j:Int)+1)=((j+1:Nat):Int):=by rw[w64 (by omega) (by omega)];omega
theorem combE{L:Nat→Int→List VV→Option (Bool×((List VV)×Unit)×((List VV)×Unit)×Unit)}{rs:List Vl}(hr:rs.length≤100)
  (h1:∀ (n j:Nat) (acc:List VV) (hj:j < rs.length),acc.length≤100→L (n+1) (j:Int) acc=bif (rs[j]).a.em then some (true,(acc,()),([],()),())else L n ((j+1:Nat):Int) (acc++[vc rs[j]]))
  (h2:∀ (n:Nat) (acc:List VV),L (n+1) (rs.length:Nat) acc=some (false,([],()),(acc,()),())):∀ (d n j:Nat) (acc:List VV),j+d=rs.length→d < n→acc.length=j→
  ((∀ r∈rs.drop j,r.a.em=false)→L n (j:Nat) acc=some (false,([],()),(acc++(rs.drop j).map vc,()),()))∧((∃ r∈rs.drop j,r.a.em=true)→∃ q,L n (j:Nat) acc=some (true,(q,()),([],()),()))
 | 0,n,j,acc,hd,hn,ha=>by
  obtain⟨n,rfl⟩:∃ q,n=q+1:=⟨n-1,by omega⟩
  obtain rfl:j=rs.length:=by omega
  rw[h2,List.drop_length]
  exact⟨fun _=>by simp,fun⟨r,hr,_⟩=>by cases hr⟩
 | d+1,n,j,acc,hd,hn,ha=>by
  obtain⟨n,rfl⟩:∃ q,n=q+1:=⟨n-1,by omega⟩
  have hj:j < rs.length:=by omega
  obtain⟨i1,i2⟩:=combE hr h1 h2 d n (j+1) (acc++[vc rs[j]]) (by omega) (by omega) (by simp[ha])
  rw[h1 n j acc hj (by omega),List.drop_eq_getElem_cons hj]
  constructor
  ·intro h
   rw[h _ (List.mem_cons_self ..),cond_false,i1 fun r hr=>h r (List.mem_cons_of_mem _ hr),List.map_cons,List.append_assoc]
   rfl
  ·rintro ⟨r,hr,he⟩
   cases hx:(rs[j]).a.em with
   | true=>exact⟨acc,by rw[cond_true]⟩
   | false =>
    rw[cond_false]
    rcases List.mem_cons.1 hr with rfl | hr
    ·rw[hx]at he;cases he
    ·exact i2 ⟨r,hr,he⟩
theorem listE{L:Nat→Int→List VV→Option (((List VV)×Unit)×Unit)}{rs:List Vl}(hr:rs.length≤100)
  (h1:∀ (n j:Nat) (acc:List VV) (hj:j < rs.length),acc.length≤100→L (n+1) (j:Int) acc=L n ((j+1:Nat):Int) (acc++[vc rs[j]]))
  (h2:∀ (n:Nat) (acc:List VV),L (n+1) (rs.length:Nat) acc=some ((acc,()),())):∀ (d n j:Nat) (acc:List VV),j+d=rs.length→d < n→acc.length=j→L n (j:Nat) acc=some ((acc++(rs.drop j).map vc,()),())
 | 0,n,j,acc,hd,hn,ha=>by
  obtain⟨n,rfl⟩:∃ q,n=q+1:=⟨n-1,by omega⟩
  obtain rfl:j=rs.length:=by omega
  rw[h2,List.drop_length];simp
 | d+1,n,j,acc,hd,hn,ha=>by
  obtain⟨n,rfl⟩:∃ q,n=q+1:=⟨n-1,by omega⟩
  have hj:j < rs.length:=by omega
  rw[h1 n j acc hj (by omega),listE hr h1 h2 d n (j+1) (acc++[vc rs[j]]) (by omega) (by omega) (by simp[ha]),List.drop_eq_getElem_cons hj,List.map_cons,List.append_assoc]
  rfl
structure WfE(vs:List Vl):Prop where
 v:∀ v∈vs,WfV v
 ne:∀ v∈vs,v.a.em=false
 len:vs.length≤32
section
variable (lf:Nat)(hb:Big lf)
include hb
theorem abz{l:List VV}(hl:l.length≤40):∀ (d n j:Nat),j+d=l.length→d < n→∃ b,fB.l0 lf l n j=some (b,(),(),())∧(b=false→∀ s∈l.drop j,SmV s)
 | 0,n,j,hd,hn=>by
  obtain⟨n,rfl⟩:∃ q,n=q+1:=⟨n-1,by omega⟩
  refine⟨false,?_,fun _ s hs=>?_⟩
  ·rw[fB.l0,fB.r0,ltE,decide_eq_false (by omega),brF]
  ·rw[List.drop_eq_nil_of_le (by omega)]at hs;cases hs
 | d+1,n,j,hd,hn=>by
  obtain⟨n,rfl⟩:∃ q,n=q+1:=⟨n-1,by omega⟩
  have hj:j < l.length:=by omega
  obtain⟨b,b1,b2⟩:=afU lf l[j] l[j]
  obtain⟨c,c1,c2⟩:=abz hl d n (j+1) (by omega) (by omega)
  rw[fB.l0,fB.r0,ltE,decide_eq_true hj,brT,bF l j hj,bdS,bdS,b1,bdS,wrE (by omega),c1]
  cases b with
  | false=>exact⟨true,by rw[Bool.not_false,brT],fun h=>by cases h⟩
  | true =>
   refine⟨c,by rw[Bool.not_true,brF],fun h s hs=>?_⟩
   rw[List.drop_eq_getElem_cons hj]at hs
   rcases List.mem_cons.1 hs with rfl | hs
   ·exact(b2 rfl).1
   ·exact c2 h s hs
theorem aft(l:List VV):∃ b,fB.f lf l=some (b,())∧(b=true→l.length≤40∧∀ s∈l,SmV s):=by
 rw[fB.f]
 by_cases h:40 < l.length
 ·exact⟨false,by rw[show decide (((l.length:Nat):Int) > 40)=true by simp;omega,brT],fun h=>by cases h⟩
 ·rw[show decide (((l.length:Nat):Int) > 40)=false by simp;omega,brF]
  obtain⟨b,b1,b2⟩:=abz lf hb (l:=l) (by omega) l.length (lf+40) 0 (by omega) (by have:=hb.1;omega)
  rw[show((0:Nat):Int)=0 from rfl]at b1
  rw[b1,bdS]
  cases b with
  | true=>exact⟨false,by rw[brT],fun h=>by cases h⟩
  | false=>exact⟨true,by rw[brF],fun _=>⟨by omega,fun s hs=>b2 rfl s (by simpa using hs)⟩⟩
theorem aaL{l:List VV}(hl:l.length≤1000):∀ (d n j:Nat),j+d=l.length→d < n→aO.l0 lf l l n j=some (false,(),(),())
 | 0,n,j,hd,hn=>by
  obtain⟨n,rfl⟩:∃ q,n=q+1:=⟨n-1,by omega⟩
  rw[aO.l0,aO.r0,ltE,decide_eq_false (by omega),brF]
 | d+1,n,j,hd,hn=>by
  obtain⟨n,rfl⟩:∃ q,n=q+1:=⟨n-1,by omega⟩
  have hj:j < l.length:=by omega
  rw[aO.l0,aO.r0,ltE,decide_eq_true hj,brT,bF l j hj,bdS,bdS,abk,bdS]
  simp only[BEq.rfl,decide_true,Bool.not_true]
  rw[brF,wrE (by omega)]
  exact aaL hl d n (j+1) (by omega) (by omega)
theorem zS(l:List VV)(hl:l.length≤1000):aO.f lf l l=some (true,()):=by
 rw[aO.f,show((((l.length:Nat):Int)) !=((l.length:Nat):Int))=false by simp,brF]
 have:=aaL lf hb hl l.length (lf+40) 0 (by omega) (by have:=hb.1;omega)
 rw[show((0:Nat):Int)=0 from rfl]at this
 rw[this,bdS,brF]
theorem adk{l:List VV}(hs:∀ x∈l,SmV x)(hl:l.length≤40):∀ (d n j:Nat),j+d=l.length→d < n→∃ (b:Bool) (e:Int),gG.l0 lf l (l.length:Nat) n j=some (b,(e,()),(),())∧dQ.l0 lf l n j=some (b,(e,()),(),())∧
      (b=true→e≠0)∧(b=false→∃ vs:List Vl,l.drop j=vs.map vc∧(∀ v∈vs,WfV v)∧∀ v∈vs,v.a.em=false)
  | 0,n,j,hd,hn=>by
    obtain⟨n,rfl⟩:∃ q,n=q+1:=⟨n-1,by omega⟩
    refine⟨false,0,?_,?_,nofun,fun _=>⟨[],?_,by simp,by simp⟩⟩
    · rw[gG.l0,gG.r0,ltE,decide_eq_false (by omega),brF]
    · rw[dQ.l0,dQ.r0,ltE,decide_eq_false (by omega),brF]
    · rw[List.drop_eq_nil_of_le (by omega)];rfl
  | d+1,n,j,hd,hn=>by
    obtain⟨n,rfl⟩:∃ q,n=q+1:=⟨n-1,by omega⟩
    have hj:j < l.length:=by omega
    obtain⟨k,k1,k2,k3⟩:=chkV lf hb (hs _ (List.getElem_mem hj))
    obtain⟨b,e,i1,i2,i3,i4⟩:=adk hs hl d n (j+1) (by omega) (by omega)
    rw[gG.l0,gG.r0,dQ.l0,dQ.r0,ltE,decide_eq_true hj,brT,brT,bF l j hj,bdS,bdS,k1,k2,bdS,bdS]
    by_cases h:k=0
    · subst h
      obtain⟨v,ev,hv⟩:=k3 rfl
      simp only[bne_self_eq_false,brF,gm.f,bdS]
      cases hem:(l[j]).1.1 with
      | true=>simp only[brT];exact⟨true,16,rfl,rfl,fun _=>by decide,nofun⟩
      | false =>
        simp only[brF,wrE (show j < 1000000 by omega),i1,i2]
        refine⟨b,e,rfl,rfl,i3,fun hbf=>?_⟩
        obtain⟨vs,e1,e2,e3⟩:=i4 hbf
        refine⟨v::vs,by rw[List.drop_eq_getElem_cons hj,e1,ev];rfl,fun w hw=>?_,fun w hw=>?_⟩
        · rcases List.mem_cons.1 hw with rfl | hw
          · exact hv
          · exact e2 w hw
        · rcases List.mem_cons.1 hw with rfl | hw
          · rw[ev]at hem;exact hem
          · exact e3 w hw
    · simp only[bneT h,brT]
      exact⟨true,k,rfl,rfl,fun _=>h,nofun⟩
theorem chkE{l:List VV}(hs:∀ x∈l,SmV x)(hl:l.length≤40):∃ e:Int,gG.f lf l=some (e,())∧dQ.f lf l=some (e,())∧(e=0→∃ vs:List Vl,l=vs.map vc∧WfE vs):=by
 rw[gG.f,dQ.f]
 by_cases h:32 < l.length
 ·rw[show decide (((l.length:Nat):Int) > 32)=true by simp;omega,brT,brT]
  exact⟨5,rfl,rfl,nofun⟩
 ·rw[show decide (((l.length:Nat):Int) > 32)=false by simp;omega,brF,brF]
  obtain⟨b,e,i1,i2,i3,i4⟩:=adk lf hb hs hl l.length (lf+40) 0 (by omega) (by have:=hb.1;omega)
  rw[show((0:Nat):Int)=0 from rfl]at i1 i2
  rw[i1,i2,bdS]
  cases b with
  | true=>simp only[brT];exact⟨e,rfl,rfl,fun h=>absurd h (i3 rfl)⟩
  | false =>
   simp only[brF]
   obtain⟨vs,e1,e2,e3⟩:=i4 rfl
   refine⟨0,rfl,rfl,fun _=>⟨vs,by simpa using e1,e2,e3,?_⟩⟩
   have:l.length=vs.length:=by have:=congrArg List.length e1;simpa using this
   omega
theorem bothE{l m:List VV}(hs:∀ x∈l,SmV x)(hl:l.length≤40)(ks:∀ x∈m,SmV x)(kl:m.length≤40):∃ e:Int,iL.f lf l m=some (e,())∧dD.f lf l m=some (e,())∧
  (e=0→∃ vs ws:List Vl,l=vs.map vc∧m=ws.map vc∧WfE vs∧WfE ws∧vs.length=ws.length):=by
 obtain⟨e,a1,a2,a3⟩:=chkE lf hb hs hl
 obtain⟨f,b1,b2,b3⟩:=chkE lf hb ks kl
 rw[iL.f,dD.f,a1,a2,bdS,bdS]
 by_cases h:e=0
 ·subst h
  simp only[bne_self_eq_false,brF,b1,b2,bdS]
  by_cases h':f=0
  ·subst h'
   simp only[bne_self_eq_false,brF]
   by_cases hn:l.length=m.length
   ·rw[hn]
    simp only[bne_self_eq_false,brF]
    obtain⟨vs,rfl,hv⟩:=a3 rfl
    obtain⟨ws,rfl,hw⟩:=b3 rfl
    exact⟨0,rfl,rfl,fun _=>⟨vs,ws,rfl,rfl,hv,hw,by simpa using hn⟩⟩
   ·rw[show(((l.length:Nat):Int) !=((m.length:Nat):Int))=true by simp;omega,brT]
    exact⟨22,rfl,rfl,nofun⟩
  ·simp only[bneT h',brT]
   exact⟨f,rfl,rfl,fun h=>absurd h h'⟩
 ·simp only[bneT h,brT]
  exact⟨e,rfl,rfl,fun h'=>absurd h' h⟩
theorem acg{rs:List Vl}(hr:rs.length≤100):∀ (d n j:Nat),j+d=rs.length→d < n→∃ b,bU.l0 lf (rs.map vc) n j=some (b,(),(),())∧(b=true↔∃ r∈rs.drop j,r.a.em=true)
 | 0,n,j,hd,hn=>by
  obtain⟨n,rfl⟩:∃ q,n=q+1:=⟨n-1,by omega⟩
  refine⟨false,?_,?_⟩
  ·rw[bU.l0,bU.r0,List.length_map,ltE,decide_eq_false (by omega),brF]
  ·rw[List.drop_eq_nil_of_le (by omega)];simp
 | d+1,n,j,hd,hn=>by
  obtain⟨n,rfl⟩:∃ q,n=q+1:=⟨n-1,by omega⟩
  have hj:j < rs.length:=by omega
  obtain⟨b,i1,i2⟩:=acg hr d n (j+1) (by omega) (by omega)
  rw[bU.l0,bU.r0,List.length_map,ltE,decide_eq_true hj,brT,bF _ j (by simpa using hj),bdS,gm.f,bdS,List.drop_eq_getElem_cons hj,wrE (by omega),i1]
  simp only[List.getElem_map,show ∀ v:Vl,(vc v).1.1=v.a.em from fun _=>rfl]
  cases hx:(rs[j]).a.em with
  | true=>exact⟨true,by rw[brT],fun _=>⟨_,List.mem_cons_self ..,hx⟩,fun _=>rfl⟩
  | false =>
   refine⟨b,by rw[brF],fun h=>?_,fun⟨r,hr,he⟩=>?_⟩
   ·obtain⟨r,h1,h2⟩:=i2.1 h
    exact⟨r,List.mem_cons_of_mem _ h1,h2⟩
   ·rcases List.mem_cons.1 hr with rfl | hr
    ·rw[hx]at he;cases he
    ·exact i2.2 ⟨r,hr,he⟩
theorem acf{rs:List Vl}(hr:rs.length≤100):((∀ r∈rs,r.a.em=false)→bU.f lf (rs.map vc)=some (rs.map vc,true,()))∧((∃ r∈rs,r.a.em=true)→bU.f lf (rs.map vc)=some ([],false,())):=by
 obtain⟨b,i1,i2⟩:=acg lf hb hr rs.length (lf+40) 0 (by omega) (by have:=hb.1;omega)
 rw[show((0:Nat):Int)=0 from rfl]at i1
 rw[bU.f,i1,bdS]
 rw[List.drop_zero]at i2
 constructor
 ·intro h
  cases b with
  | true=>obtain⟨r,hr,he⟩:=i2.1 rfl;rw[h r hr]at he;cases he
  | false=>rw[brF]
 ·intro h
  rw[i2.2 h,brT]
end
def zipE(f:Vl→Vl→Vl)(vs ws:List Vl):List Vl:=List.zipWith f vs ws
theorem lM{f:Vl→Vl→Vl}{vs ws:List Vl}(h:vs.length=ws.length):(zipE f vs ws).length=vs.length:=by simp[zipE,h]
theorem pI{f:Vl→Vl→Vl}{vs ws:List Vl}{j:Nat}(h:j < (zipE f vs ws).length)(h1:j < vs.length)(h2:j < ws.length):(zipE f vs ws)[j]=f vs[j] ws[j]:=by simp[zipE]
theorem acu{f:Vl→Vl→Vl}{vs ws:List Vl}(hf:∀ v∈vs,∀ w∈ws,(f v w).a.em=false):∀ r∈zipE f vs ws,r.a.em=false:=by
 intro r hr
 obtain⟨j,hj,rfl⟩:=List.mem_iff_getElem.1 hr
 have hj':j < vs.length∧j < ws.length:=by simpa [zipE,Nat.lt_min]using hj
 rw[pI hj hj'.1 hj'.2]
 exact hf _ (List.getElem_mem hj'.1) _ (List.getElem_mem hj'.2)
section
variable (lf:Nat)(hb:Big lf){vs ws:List Vl}(hv:WfE vs)(hw:WfE ws)(hn:vs.length=ws.length)
include hb hv hw hn
theorem aeT:((∀ r∈zipE joinV vs ws,r.a.em=false)→kV.l0 lf (vs.map vc) (ws.map vc) ((vs.length:Nat):Int) (lf+40) 0 []=some (false,([],()),((zipE joinV vs ws).map vc,()),()))∧
  ((∃ r∈zipE joinV vs ws,r.a.em=true)→∃ q,kV.l0 lf (vs.map vc) (ws.map vc) ((vs.length:Nat):Int) (lf+40) 0 []=some (true,(q,()),([],()),())):=by
 have hlen:=lM (f:=joinV) hn
 have h32:=hv.len
 have:=combE (L:=kV.l0 lf (vs.map vc) (ws.map vc) ((vs.length:Nat):Int)) (rs:=zipE joinV vs ws) (by omega) (fun n j acc hj ha=>by
   have j1:j < vs.length:=by omega
   have j2:j < ws.length:=by omega
   rw[kV.l0,kV.r0,ltE,decide_eq_true j1,brT,bF _ j (by simpa using j1),bdS,bF _ j (by simpa using j2),bdS]
   simp only[List.getElem_map]
   rw[aeW lf hb (hv.v _ (List.getElem_mem j1)) (hw.v _ (List.getElem_mem j2)),bdS,dU.f,bdS,pI hj j1 j2]
   show br (joinV vs[j] ws[j]).a.em _ _=_
   cases (joinV vs[j] ws[j]).a.em with
   | true=>rw[brT,cond_true]
   | false=>rw[brF,cond_false,apLe 80 acc _ (by omega) (by simp;omega),bdS,wrE (by omega)])
  (fun n acc=>by rw[kV.l0,kV.r0,hlen,ltE,decide_eq_false (by omega),brF]) (zipE joinV vs ws).length (lf+40) 0 [] (by omega) (by have:=hb.1;omega) rfl
 simpa using this
theorem aeU:dR.l0 lf (vs.map vc) (ws.map vc) (lf+40) 0 []=some (((zipE joinV vs ws).map vc,()),()):=by
 have hlen:=lM (f:=joinV) hn
 have h32:=hv.len
 have:=listE (L:=dR.l0 lf (vs.map vc) (ws.map vc)) (rs:=zipE joinV vs ws) (by omega) (fun n j acc hj ha=>by
   have j1:j < vs.length:=by omega
   have j2:j < ws.length:=by omega
   rw[dR.l0,dR.r0,List.length_map,ltE,decide_eq_true j1,brT,bF _ j (by simpa using j1),bdS,bF _ j (by simpa using j2),bdS]
   simp only[List.getElem_map]
   rw[aeX lf hb (hv.v _ (List.getElem_mem j1)) (hw.v _ (List.getElem_mem j2)),bdS,apLe 80 acc _ (by omega) (by simp;omega),bdS,wrE (by omega),pI hj j1 j2])
  (fun n acc=>by rw[dR.l0,dR.r0,List.length_map,hlen,ltE,decide_eq_false (by omega),brF]) (zipE joinV vs ws).length (lf+40) 0 [] (by omega) (by have:=hb.1;omega) rfl
 simpa using this
theorem af8:((∀ r∈zipE metV vs ws,r.a.em=false)→kW.l0 lf (vs.map vc) (ws.map vc) ((vs.length:Nat):Int) (lf+40) 0 []=some (false,([],()),((zipE metV vs ws).map vc,()),()))∧
  ((∃ r∈zipE metV vs ws,r.a.em=true)→∃ q,kW.l0 lf (vs.map vc) (ws.map vc) ((vs.length:Nat):Int) (lf+40) 0 []=some (true,(q,()),([],()),())):=by
 have hlen:=lM (f:=metV) hn
 have h32:=hv.len
 have:=combE (L:=kW.l0 lf (vs.map vc) (ws.map vc) ((vs.length:Nat):Int)) (rs:=zipE metV vs ws) (by omega) (fun n j acc hj ha=>by
   have j1:j < vs.length:=by omega
   have j2:j < ws.length:=by omega
   rw[kW.l0,kW.r0,ltE,decide_eq_true j1,brT,bF _ j (by simpa using j1),bdS,bF _ j (by simpa using j2),bdS]
   simp only[List.getElem_map]
   rw[aga lf hb (hv.v _ (List.getElem_mem j1)) (hw.v _ (List.getElem_mem j2)),bdS,dU.f,bdS,pI hj j1 j2]
   show br (metV vs[j] ws[j]).a.em _ _=_
   cases (metV vs[j] ws[j]).a.em with
   | true=>rw[brT,cond_true]
   | false=>rw[brF,cond_false,apLe 80 acc _ (by omega) (by simp;omega),bdS,wrE (by omega)])
  (fun n acc=>by rw[kW.l0,kW.r0,hlen,ltE,decide_eq_false (by omega),brF]) (zipE metV vs ws).length (lf+40) 0 [] (by omega) (by have:=hb.1;omega) rfl
 simpa using this
theorem af9:fP.l0 lf (vs.map vc) (ws.map vc) (lf+40) 0 []=some (((zipE metV vs ws).map vc,()),()):=by
 have hlen:=lM (f:=metV) hn
 have h32:=hv.len
 have:=listE (L:=fP.l0 lf (vs.map vc) (ws.map vc)) (rs:=zipE metV vs ws) (by omega) (fun n j acc hj ha=>by
   have j1:j < vs.length:=by omega
   have j2:j < ws.length:=by omega
   rw[fP.l0,fP.r0,List.length_map,ltE,decide_eq_true j1,brT,bF _ j (by simpa using j1),bdS,bF _ j (by simpa using j2),bdS]
   simp only[List.getElem_map]
   rw[agb lf hb (hv.v _ (List.getElem_mem j1)) (hw.v _ (List.getElem_mem j2)),bdS,apLe 80 acc _ (by omega) (by simp;omega),bdS,wrE (by omega),pI hj j1 j2])
  (fun n acc=>by rw[fP.l0,fP.r0,List.length_map,hlen,ltE,decide_eq_false (by omega),brF]) (zipE metV vs ws).length (lf+40) 0 [] (by omega) (by have:=hb.1;omega) rfl
 simpa using this
theorem agd:((∀ r∈zipE narV vs ws,r.a.em=false)→jk.l0 lf (vs.map vc) (ws.map vc) ((vs.length:Nat):Int) (lf+40) 0 []=some (false,([],()),((zipE narV vs ws).map vc,()),()))∧
  ((∃ r∈zipE narV vs ws,r.a.em=true)→∃ q,jk.l0 lf (vs.map vc) (ws.map vc) ((vs.length:Nat):Int) (lf+40) 0 []=some (true,(q,()),([],()),())):=by
 have hlen:=lM (f:=narV) hn
 have h32:=hv.len
 have:=combE (L:=jk.l0 lf (vs.map vc) (ws.map vc) ((vs.length:Nat):Int)) (rs:=zipE narV vs ws) (by omega) (fun n j acc hj ha=>by
   have j1:j < vs.length:=by omega
   have j2:j < ws.length:=by omega
   rw[jk.l0,jk.r0,ltE,decide_eq_true j1,brT,bF _ j (by simpa using j1),bdS,bF _ j (by simpa using j2),bdS]
   simp only[List.getElem_map]
   rw[agh lf hb (hv.v _ (List.getElem_mem j1)) (hw.v _ (List.getElem_mem j2)),bdS,dU.f,bdS,pI hj j1 j2]
   show br (narV vs[j] ws[j]).a.em _ _=_
   cases (narV vs[j] ws[j]).a.em with
   | true=>rw[brT,cond_true]
   | false=>rw[brF,cond_false,apLe 80 acc _ (by omega) (by simp;omega),bdS,wrE (by omega)])
  (fun n acc=>by rw[jk.l0,jk.r0,hlen,ltE,decide_eq_false (by omega),brF]) (zipE narV vs ws).length (lf+40) 0 [] (by omega) (by have:=hb.1;omega) rfl
 simpa using this
theorem agf:dF.l0 lf (vs.map vc) (ws.map vc) (lf+40) 0 []=some (((zipE narV vs ws).map vc,()),()):=by
 have hlen:=lM (f:=narV) hn
 have h32:=hv.len
 have:=listE (L:=dF.l0 lf (vs.map vc) (ws.map vc)) (rs:=zipE narV vs ws) (by omega) (fun n j acc hj ha=>by
   have j1:j < vs.length:=by omega
   have j2:j < ws.length:=by omega
   rw[dF.l0,dF.r0,List.length_map,ltE,decide_eq_true j1,brT,bF _ j (by simpa using j1),bdS,bF _ j (by simpa using j2),bdS]
   simp only[List.getElem_map]
   rw[agi lf hb (hv.v _ (List.getElem_mem j1)) (hw.v _ (List.getElem_mem j2)),bdS,apLe 80 acc _ (by omega) (by simp;omega),bdS,wrE (by omega),pI hj j1 j2])
  (fun n acc=>by rw[dF.l0,dF.r0,List.length_map,hlen,ltE,decide_eq_false (by omega),brF]) (zipE narV vs ws).length (lf+40) 0 [] (by omega) (by have:=hb.1;omega) rfl
 simpa using this
theorem agr{zs:List Int}(hz:Th zs)(hzl:zs.length≤1024)(hasc:bI.f lf (zs.map bz)=some (0,()))(x:Bool)(y z:ByteArray):((∀ r∈zipE (widV zs) vs ws,r.a.em=false)→jU.l0 lf (vs.map vc) (ws.map vc) ((vs.length:Nat):Int) (zs.map bz) x y z (lf+40) 0 []=some (false,([],()),((zipE (widV zs) vs ws).map vc,()),()))∧
  ((∃ r∈zipE (widV zs) vs ws,r.a.em=true)→∃ q,jU.l0 lf (vs.map vc) (ws.map vc) ((vs.length:Nat):Int) (zs.map bz) x y z (lf+40) 0 []=some (true,(q,()),([],()),())):=by
 have hlen:=lM (f:=(widV zs)) hn
 have h32:=hv.len
 have:=combE (L:=jU.l0 lf (vs.map vc) (ws.map vc) ((vs.length:Nat):Int) (zs.map bz) x y z) (rs:=zipE (widV zs) vs ws) (by omega) (fun n j acc hj ha=>by
   have j1:j < vs.length:=by omega
   have j2:j < ws.length:=by omega
   rw[jU.l0,jU.r0,ltE,decide_eq_true j1,brT,bF _ j (by simpa using j1),bdS,bF _ j (by simpa using j2),bdS]
   simp only[List.getElem_map]
   rw[agu lf hb (hv.v _ (List.getElem_mem j1)) (hw.v _ (List.getElem_mem j2)) hz hzl hasc,bdS,dU.f,bdS,pI hj j1 j2]
   show br ((widV zs) vs[j] ws[j]).a.em _ _=_
   cases ((widV zs) vs[j] ws[j]).a.em with
   | true=>rw[brT,cond_true]
   | false=>rw[brF,cond_false,apLe 80 acc _ (by omega) (by simp;omega),bdS,wrE (by omega)])
  (fun n acc=>by rw[jU.l0,jU.r0,hlen,ltE,decide_eq_false (by omega),brF]) (zipE (widV zs) vs ws).length (lf+40) 0 [] (by omega) (by have:=hb.1;omega) rfl
 simpa using this
theorem ags{zs:List Int}(hz:Th zs)(hzl:zs.length≤1024):dJ.l0 lf (vs.map vc) (ws.map vc) (zs.map bz) (lf+40) 0 []=some (((zipE (widV zs) vs ws).map vc,()),()):=by
 have hlen:=lM (f:=(widV zs)) hn
 have h32:=hv.len
 have:=listE (L:=dJ.l0 lf (vs.map vc) (ws.map vc) (zs.map bz)) (rs:=zipE (widV zs) vs ws) (by omega) (fun n j acc hj ha=>by
   have j1:j < vs.length:=by omega
   have j2:j < ws.length:=by omega
   rw[dJ.l0,dJ.r0,List.length_map,ltE,decide_eq_true j1,brT,bF _ j (by simpa using j1),bdS,bF _ j (by simpa using j2),bdS]
   simp only[List.getElem_map]
   rw[agv lf hb (hv.v _ (List.getElem_mem j1)) (hw.v _ (List.getElem_mem j2)) hz hzl,bdS,apLe 80 acc _ (by omega) (by simp;omega),bdS,wrE (by omega),pI hj j1 j2])
  (fun n acc=>by rw[dJ.l0,dJ.r0,List.length_map,hlen,ltE,decide_eq_false (by omega),brF]) (zipE (widV zs) vs ws).length (lf+40) 0 [] (by omega) (by have:=hb.1;omega) rfl
 simpa using this
theorem adJ:∀ (d n j:Nat),j+d=vs.length→d < n→∃ b,nT.l0 lf (vs.map vc) (ws.map vc) ((vs.length:Nat):Int) n j=some (b,(0,()),(),())∧fC.l0 lf (vs.map vc) (ws.map vc) n j=some (b,(),(),())
 | 0,n,j,hd,hn'=>by
  obtain⟨n,rfl⟩:∃ q,n=q+1:=⟨n-1,by omega⟩
  refine⟨false,?_,?_⟩
  ·rw[nT.l0,nT.r0,ltE,decide_eq_false (by omega),brF]
  ·rw[fC.l0,fC.r0,List.length_map,ltE,decide_eq_false (by omega),brF]
 | d+1,n,j,hd,hn'=>by
  obtain⟨n,rfl⟩:∃ q,n=q+1:=⟨n-1,by omega⟩
  have j1:j < vs.length:=by omega
  have j2:j < ws.length:=by omega
  have h32:=hv.len
  obtain⟨b,i1,i2⟩:=adJ d n (j+1) (by omega) (by omega)
  rw[nT.l0,nT.r0,fC.l0,fC.r0,List.length_map,ltE,decide_eq_true j1,brT,brT,bF _ j (by simpa using j1),bdS,bdS,bF _ j (by simpa using j2),bdS,bdS]
  simp only[List.getElem_map]
  rw[af0 lf hb (hv.v _ (List.getElem_mem j1)) (hw.v _ (List.getElem_mem j2)),af2 lf hb (hv.v _ (List.getElem_mem j1)) (hw.v _ (List.getElem_mem j2)),bdS,bdS,wrE (by omega),i1,i2]
  simp only[bne_self_eq_false,brF]
  cases leqV vs[j] ws[j]with
  | true=>simp only[Bool.not_true,brF];exact⟨b,rfl,rfl⟩
  | false=>simp only[Bool.not_false,brT];exact⟨true,rfl,rfl⟩
end
section
variable (lf:Nat)(hb:Big lf){l m:List VV}(hs:∀ x∈l,SmV x)(hl:l.length≤40)(ks:∀ x∈m,SmV x)(kl:m.length≤40)
include hb hs hl ks kl
theorem acL:∃ r,nT.f lf l m=some r∧jH.f lf l m=some r:=by
 obtain⟨e,a1,a2,a3⟩:=bothE lf hb hs hl ks kl
 rw[nT.f,jH.f,a1,a2,bdS,bdS]
 by_cases h:e=0
 ·subst h
  obtain⟨vs,ws,rfl,rfl,hv,hw,hn⟩:=a3 rfl
  obtain⟨b,i1,i2⟩:=adJ lf hb hv hw hn vs.length (lf+40) 0 (by omega) (by have:=hb.1;have:=hv.len;omega)
  rw[show((0:Nat):Int)=0 from rfl]at i1 i2
  simp only[bne_self_eq_false,brF,List.length_map,i1,bdS,fC.f,i2]
  cases b with
  | true=>simp only[brT,bdS];exact⟨_,rfl,rfl⟩
  | false=>simp only[brF,bdS];exact⟨_,rfl,rfl⟩
 ·simp only[bneT h,brT]
  exact⟨_,rfl,rfl⟩
theorem aa3:∃ r,kV.f lf l m=some r∧jo.f lf l m=some r∧r.1.length≤1000:=by
 obtain⟨e,a1,a2,a3⟩:=bothE lf hb hs hl ks kl
 rw[kV.f,jo.f,a1,a2,bdS,bdS]
 by_cases h:e=0
 ·subst h
  obtain⟨vs,ws,rfl,rfl,hv,hw,hn⟩:=a3 rfl
  have hem:∀ r∈zipE joinV vs ws,r.a.em=false:=acu fun v hv' w hw'=>by
   have h1:=acN (hv.v v hv') (hw.v w hw')
   unfold leqV at h1
   rw[Bool.and_eq_true]at h1
   exact zu (hv.v v hv').a (aeV (hv.v v hv') (hw.v w hw')).a h1.1 (hv.ne v hv')
  have i1:=(aeT lf hb hv hw hn).1 hem
  simp only[bne_self_eq_false,brF,List.length_map,i1,bdS,dR.f,aeU lf hb hv hw hn]
  refine⟨_,rfl,rfl,?_⟩
  have:=lM (f:=joinV) hn
  have:=hv.len
  simp only[List.length_map];omega
 ·simp only[bneT h,brT]
  exact⟨_,rfl,rfl,by simp⟩
theorem acT:∃ r,kW.f lf l m=some r∧jq.f lf l m=some r∧r.1.length≤1000:=by
 obtain⟨e,a1,a2,a3⟩:=bothE lf hb hs hl ks kl
 rw[kW.f,jq.f,a1,a2,bdS,bdS]
 by_cases h:e=0
 ·subst h
  obtain⟨vs,ws,rfl,rfl,hv,hw,hn⟩:=a3 rfl
  obtain⟨i1,i2⟩:=af8 lf hb hv hw hn
  have hlen:=lM (f:=metV) hn
  have h32:=hv.len
  obtain⟨s1,s2⟩:=acf lf hb (rs:=zipE metV vs ws) (by omega)
  simp only[bne_self_eq_false,brF,List.length_map,bdS,fP.f,af9 lf hb hv hw hn]
  by_cases hc:∃ r∈zipE metV vs ws,r.a.em=true
  ·obtain⟨q,i2⟩:=i2 hc
   rw[i2,s2 hc,bdS,brT,bdS,bdS]
   exact⟨_,rfl,rfl,by simp⟩
  ·have hc':∀ r∈zipE metV vs ws,r.a.em=false:=fun r hr=>by
    cases hx:r.a.em with
    | false=>rfl
    | true=>exact absurd ⟨r,hr,hx⟩ hc
   rw[i1 hc',s1 hc',bdS,brF,bdS,bdS]
   refine⟨_,rfl,rfl,?_⟩
   simp only[List.length_map];omega
 ·simp only[bneT h,brT]
  exact⟨_,rfl,rfl,by simp⟩
theorem acV:∃ r,jk.f lf l m=some r∧iQ.f lf l m=some r∧r.1.length≤1000:=by
 obtain⟨e,a1,a2,a3⟩:=bothE lf hb hs hl ks kl
 rw[jk.f,iQ.f,a1,a2,bdS,bdS]
 by_cases h:e=0
 ·subst h
  obtain⟨vs,ws,rfl,rfl,hv,hw,hn⟩:=a3 rfl
  obtain⟨i1,i2⟩:=agd lf hb hv hw hn
  have hlen:=lM (f:=narV) hn
  have h32:=hv.len
  obtain⟨s1,s2⟩:=acf lf hb (rs:=zipE narV vs ws) (by omega)
  simp only[bne_self_eq_false,brF,List.length_map,bdS,dF.f,agf lf hb hv hw hn]
  by_cases hc:∃ r∈zipE narV vs ws,r.a.em=true
  ·obtain⟨q,i2⟩:=i2 hc
   rw[i2,s2 hc,bdS,brT,bdS,bdS]
   exact⟨_,rfl,rfl,by simp⟩
  ·have hc':∀ r∈zipE narV vs ws,r.a.em=false:=fun r hr=>by
    cases hx:r.a.em with
    | false=>rfl
    | true=>exact absurd ⟨r,hr,hx⟩ hc
   rw[i1 hc',s1 hc',bdS,brF,bdS,bdS]
   refine⟨_,rfl,rfl,?_⟩
   simp only[List.length_map];omega
 ·simp only[bneT h,brT]
  exact⟨_,rfl,rfl,by simp⟩
theorem adb(ts:List ByteArray)(tl1:ts.length≤9223372036854775807)(tl2:∀ b∈ts,(tl b).length≤9223372036854775807∧(tl b).length≤lf):∃ r,jU.f lf l m ts=some r∧je.f lf l m ts=some r∧r.1.length≤1000:=by
 have h3:200000≤lf:=by have:=hb.1;omega
 obtain⟨e,a1,a2,a3⟩:=bothE lf hb hs hl ks kl
 rw[jU.f,je.f,a1,a2,bdS,bdS]
 by_cases h:e=0
 ·subst h
  obtain⟨vs,ws,rfl,rfl,hv,hw,hn⟩:=a3 rfl
  have hT:∀ lf,mP.f lf=some (ac ⟨false,none,none⟩,()):=fun lf=>rfl
  have hTw:Wf (⟨false,none,none⟩:A):=⟨nofun,trivial,trivial,trivial⟩
  obtain⟨t,t1,t2,t3⟩:=aer lf h3 ts tl1 tl2
  simp only[bne_self_eq_false,brF,hT,bdS,t2]
  by_cases ht:t=0
  ·subst ht
   obtain⟨zs,rfl,hz,hzl,_⟩:=t3 rfl
   have hem:∀ r∈zipE (widV zs) vs ws,r.a.em=false:=acu fun v hv' w hw'=>by
    have h1:=adK (hv.v v hv') (hw.v w hw') hz
    unfold leqV at h1
    rw[Bool.and_eq_true]at h1
    exact zu (hv.v v hv').a (agt (hv.v v hv') (hw.v w hw') hz).a h1.1 (hv.ne v hv')
   have wt:=acn lf h3 hTw hTw hz hzl t1
   simp only[wt,bdS,bne_self_eq_false,brF,List.length_map,(agr lf hb hv hw hn hz hzl t1 _ _ _).1 hem,dJ.f,ags lf hb hv hw hn hz hzl]
   refine⟨_,rfl,rfl,?_⟩
   have:=lM (f:=widV zs) hn
   have:=hv.len
   simp only[List.length_map];omega
  ·have wt:∃ q,aU.f lf (ac ⟨false,none,none⟩) (ac ⟨false,none,none⟩) ts=some (q,t,()):=by
    rw[aU.f]
    simp only[kR lf h3 hTw,bdS,bne_self_eq_false,brF,t1,bneT ht,brT]
    exact⟨_,rfl⟩
   obtain⟨q,wt⟩:=wt
   simp only[wt,bdS,bneT ht,brT]
   exact⟨_,rfl,rfl,by simp⟩
 ·simp only[bneT h,brT]
  exact⟨_,rfl,rfl,by simp⟩
end
end Go.N
namespace Go.N
open Go Go.Q
theorem awakeE(lf:Nat):gJ.f lf=some (true,()):=by kernel_rfl
end Go.N
namespace Go.Q
open Go Go.RowKit Go.ChangeShapes Go.WideShapes
def flat:Ty→Bool
 | .sl _=>false
 | .pair a b=>flat a&&flat b
 | _=>true
def partsOf(P:Program)(t:TypeId):List (TypeId×Nat):=match P.underlying t with
 | some (.struct fs)=>fs.toList.map fun f=>(f.type,f.offset)
 | some (.array n e)=>(List.range n).map fun i=>(e,i*P.cellsOf e)
 | _=>[]
mutual
def fitT(P:Program):Ty→TypeId→Bool
 | .int k,t=>match P.underlying t with
  | some (.int k')=>decide (k'=k)
  | _=>false
 | .bool,t=>match P.underlying t with
  | some .bool=>true
  | _=>false
 | .str,t=>match P.underlying t with
  | some .string=>true
  | _=>false
 | .unit,_=>false
 | .nul,_=>false
 | .rc _,_=>false
 | .pair a b,t=>match partsOf P t with
  | p::r=>p.2==0&&(fitT P a p.1&&(P.cellsOf p.1==a.n&&(fitL P b r a.n&&P.cellsOf t==a.n+b.n)))
  | []=>false
 | .sl e,t=>match P.underlying t with
  | some (.slice e')=>fitT P e e'&&(flat e&&P.cellsOf e'==e.n)
  | _=>false
def fitL(P:Program):Ty→List (TypeId×Nat)→Nat→Bool
 | .unit,l,_=>match l with
  | []=>true
  | _=>false
 | .pair a b,l,k=>match l with
  | p::r=>p.2==k&&(fitT P a p.1&&(P.cellsOf p.1==a.n&&fitL P b r (k+a.n)))
  | []=>false
 | _,_,_=>false
end
def Bnd:(T:Ty)→T.α→Prop
 | .int k,x=>k.min≤x∧x≤k.max
 | .str,x=>x.size≤9223372036854775807
 | .pair a b,x=>Bnd a x.1∧Bnd b x.2
 | .sl e,l=>l.length≤9223372036854775807∧∀ y∈l,Bnd e y
 | _,_=>True
def Bnds:(ps:List Ty)→Tys ps→Prop
 | [],_=>True
 | t::ts,x=>Bnd t x.1∧Bnds ts x.2
section
variable {H:Type}{enc:TypeId×Value→H}{P:Program}{w:World}{F:Nat→Prop}{sp:Nat→Bool}{held:Bool}
theorem xH{t:TypeId}{fuel:Nat}{cs:List Value}{x:DataW H×List MemPlace}(hp:partsOf P t≠[])(h:DataW.trod enc P w 0 sp held fuel t cs=some x):
  cs.length=P.cellsOf t∧∃ n,∀ p∈partsOf P t,∃ y,DataW.trod enc P w 0 sp held n p.1 ((cs.drop p.2).take (P.cellsOf p.1))=some y:=by
 unfold partsOf at hp⊢
 split at hp
 ·rename_i fs hu
  obtain⟨xs,n,_,_,hl,hxl,hf⟩:=DataW.trod_struct hu h
  refine⟨hl,n,fun p hm=>?_⟩
  simp only[List.mem_map]at hm
  obtain⟨f,hfm,rfl⟩:=hm
  obtain⟨i,hi,he⟩:=List.mem_iff_getElem.1 hfm
  have h1:fs[i]? = some f:=by
   have:fs.toList[i]? = some f:=by rw[List.getElem?_eq_getElem hi,he]
   simpa using this
  have h2:i < xs.length:=by
   rw[hxl];simpa using hi
  exact⟨xs[i],by rw[hf i f h1,List.getElem?_eq_getElem h2]⟩
 ·rename_i n e hu
  obtain⟨xs,m,_,_,hl,hxl,hf⟩:=DataW.trod_array hu h
  refine⟨hl,m,fun p hm=>?_⟩
  simp only[List.mem_map,List.mem_range]at hm
  obtain⟨i,hi,rfl⟩:=hm
  exact⟨xs[i],by rw[hf i hi,List.getElem?_eq_getElem (by omega)]⟩
 ·exact absurd rfl hp
mutual
theorem oK:∀ (T:Ty) (t:TypeId) (cs:List Value) (x:DataW H×List MemPlace) (fuel:Nat),flat T=true→fitT P T t=true→DataW.trod enc P w 0 sp held fuel t cs=some x→∃ y:T.α,DR F w T y cs∧Bnd T y
 | .int k,t,cs,x,fuel,_,hf,h=>by
  unfold fitT at hf
  split at hf
  ·rename_i k' hu
   obtain rfl:k'=k:=by simpa using hf
   obtain⟨n,rfl,_,hw⟩:=DataW.trod_int hu h
   exact⟨n,rfl,by simpa [Lit.wf,Bnd]using hw⟩
  ·cases hf
 | .bool,t,cs,x,fuel,_,hf,h=>by
  unfold fitT at hf
  split at hf
  ·rename_i hu
   obtain⟨b,rfl,_⟩:=DataW.trod_bool hu h
   exact⟨b,rfl,trivial⟩
  ·cases hf
 | .str,t,cs,x,fuel,_,hf,h=>by
  unfold fitT at hf
  split at hf
  ·rename_i hu
   obtain⟨s,rfl,_,hs⟩:=DataW.trod_string hu h
   exact⟨s,rfl,by simpa [maxLen,Bnd]using hs⟩
  ·cases hf
 | .unit,t,cs,x,fuel,_,hf,h=>by simp[fitT]at hf
 | .nul,t,cs,x,fuel,_,hf,h=>by simp[fitT]at hf
 | .rc _,t,cs,x,fuel,_,hf,h=>by simp[fitT]at hf
 | .sl e,t,cs,x,fuel,hfl,_,_=>by simp[flat]at hfl
 | .pair a b,t,cs,x,fuel,hfl,hf,h=>by
  unfold fitT at hf
  split at hf
  ·rename_i p r hp
   simp only[Bool.and_eq_true,beq_iff_eq]at hf
   obtain⟨h0,h1,h2,h3,h4⟩:=hf
   simp only[flat,Bool.and_eq_true]at hfl
   obtain⟨hl,n,hm⟩:=xH (by rw[hp];simp) h
   rw[hp]at hm
   obtain⟨y0,hy0⟩:=hm p (by simp)
   rw[h0,h2]at hy0
   obtain⟨u,d1,b1⟩:=oK a p.1 _ _ n hfl.1 h1 hy0
   obtain⟨v,d2,b2⟩:=aar b r a.n cs n hfl.2 h3 (fun q hq=>hm q (by simp[hq])) (by omega)
   refine⟨(u,v),⟨_,_,?_,d1,d2⟩,b1,b2⟩
   have e:(cs.drop a.n).take b.n=cs.drop a.n:=List.take_of_length_le (by rw[List.length_drop];omega)
   rw[e];simp
  ·cases hf
theorem aar:∀ (T:Ty) (l:List (TypeId×Nat)) (k:Nat) (cs:List Value) (n:Nat),flat T=true→fitL P T l k=true→(∀ p∈l,∃ y,DataW.trod enc P w 0 sp held n p.1 ((cs.drop p.2).take (P.cellsOf p.1))=some y)→k+T.n≤cs.length→∃ y:T.α,DR F w T y ((cs.drop k).take T.n)∧Bnd T y
 | .int k',l,k,cs,n,_,hf,_,_=>by simp[fitL]at hf
 | .bool,l,k,cs,n,_,hf,_,_=>by simp[fitL]at hf
 | .str,l,k,cs,n,_,hf,_,_=>by simp[fitL]at hf
 | .nul,l,k,cs,n,_,hf,_,_=>by simp[fitL]at hf
 | .rc _,l,k,cs,n,_,hf,_,_=>by simp[fitL]at hf
 | .sl _,l,k,cs,n,_,hf,_,_=>by simp[fitL]at hf
 | .unit,l,k,cs,n,_,hf,_,_=>⟨(),by simp[DR,Ty.n],trivial⟩
 | .pair a b,l,k,cs,n,hfl,hf,hm,hk=>by
  unfold fitL at hf
  split at hf
  ·rename_i p r
   simp only[Bool.and_eq_true,beq_iff_eq]at hf
   obtain⟨h0,h1,h2,h3⟩:=hf
   simp only[flat,Bool.and_eq_true]at hfl
   simp only[Ty.n]at hk
   obtain⟨y0,hy0⟩:=hm p (by simp)
   rw[h0,h2]at hy0
   obtain⟨u,d1,b1⟩:=oK a p.1 _ _ n hfl.1 h1 hy0
   obtain⟨v,d2,b2⟩:=aar b r (k+a.n) cs n hfl.2 h3 (fun q hq=>hm q (by simp[hq])) (by omega)
   refine⟨(u,v),⟨_,_,?_,d1,d2⟩,b1,b2⟩
   simp only[Ty.n]
   rw[List.take_add,List.drop_drop]
  ·cases hf
end
theorem zA{α:Type}{R:Nat→α→Prop}:∀ (n:Nat),(∀ i,i < n→∃ y,R i y)→∃ l:List α,l.length=n∧∀ (i:Nat) (y:α),l[i]? = some y→R i y
 | 0,_=>⟨[],rfl,fun i y h=>by simp at h⟩
 | n+1,h=>by
  obtain⟨l,hl,hr⟩:=zA n fun i hi=>h i (by omega)
  obtain⟨y,hy⟩:=h n (by omega)
  refine⟨l++[y],by simp[hl],fun i z hz=>?_⟩
  by_cases hi:i < l.length
  ·rw[List.getElem?_append_left hi]at hz;exact hr i z hz
  ·rw[List.getElem?_append_right (by omega)]at hz
   have:i=l.length:=by
    by_cases e:i-l.length=0
    ·omega
    ·obtain⟨q,hq⟩:=Nat.exists_eq_succ_of_ne_zero e
     rw[hq]at hz;simp at hz
   subst this
   simp only[Nat.sub_self,List.getElem?_cons_zero,Option.some.injEq]at hz
   subst hz;rw[hl];exact hy
def topS:Ty→Bool
 | .sl e=>flat e
 | .pair a b=>topS a&&topS b
 | T=>flat T
def topOK:Ty→Bool
 | .sl e=>flat e
 | T=>topS T
theorem tV(b o n:Nat):(Addr.add ⟨b,o,none⟩ n)=⟨b,o+n,none⟩:=by
 unfold Addr.add;split
 ·rename_i h;rw[h];rfl
 ·rfl
theorem yx{i:Nat}{q:TypeId×Nat}(h:w.shape? i=some q):IsC w i:=by
 unfold World.shape? at h
 unfold IsC
 cases hb:w.heap[i]? with
 | none=>rw[hb]at h;simp at h
 | some o=>cases o<;>rw[hb]at h<;>simp_all
def SlOK(w:World)(v:Value):Prop:=∀ a len cap,v=.slice (some a) len cap→a.spot=none∧IsC w a.block
theorem ac7{base:Nat}{u:TypeId}{v:Value}(h:Cell.okWide P w .any base u v):SlOK w v:=by
 rintro a len cap rfl
 cases hu:P.underlying u with
 | none=>simp[Cell.okWide,Cell.ok,hu]at h
 | some d =>
  cases d<;>simp only[Cell.okWide,Cell.ok,hu]at h
  case slice e =>
   obtain⟨_,hspot,row,cells,hsh,_⟩:=h.2.2
   exact⟨hspot,yx hsh⟩
mutual
theorem aaW:∀ (T:Ty) (t:TypeId) (cs:List Value) (x:DataW H×List MemPlace) (fuel:Nat),topS T=true→fitT P T t=true→(∀ v∈cs,SlOK w v)→DataW.trod enc P w 0 sp held fuel t cs=some x→∃ y:T.α,DR (IsC w) w T y cs∧Bnd T y
 | .int k,t,cs,x,fuel,_,hf,_,h=>oK (.int k) t cs x fuel rfl hf h
 | .bool,t,cs,x,fuel,_,hf,_,h=>oK .bool t cs x fuel rfl hf h
 | .str,t,cs,x,fuel,_,hf,_,h=>oK .str t cs x fuel rfl hf h
 | .unit,t,cs,x,fuel,_,hf,_,h=>by simp[fitT]at hf
 | .nul,t,cs,x,fuel,_,hf,_,h=>by simp[fitT]at hf
 | .rc _,t,cs,x,fuel,_,hf,_,h=>by simp[fitT]at hf
 | .sl e,t,cs,x,fuel,_,hf,hok,h=>by
  unfold fitT at hf
  split at hf
  ·rename_i e' hu
   simp only[Bool.and_eq_true,beq_iff_eq]at hf
   obtain⟨h1,h2,h3⟩:=hf
   rcases DataW.trod_slice hu h with⟨hc,_⟩ | ⟨a',len',cap',elems,rest,n,_,hc,_,_,hle,hcm,hel,hread,_⟩
   ·subst hc
    exact⟨[],⟨_,rfl,.inl ⟨rfl,rfl⟩⟩,by simp[Bnd]⟩
   ·subst hc
    obtain⟨hspot,hisc⟩:=hok _ (List.mem_cons_self ..) a' len' cap' rfl
    obtain⟨b,o,s⟩:=a'
    simp only at hspot hisc;subst hspot
    obtain⟨l,hl,hr⟩:=zA (α:=e.α) (R:=fun i y=>(∃ ds:List Value,DR (IsC w) w e y ds∧∀ (j:Nat) (d:Value),ds[j]? = some d→w.cell? ⟨b,o+(i*e.n+j),none⟩=some d)∧Bnd e y) len' fun i hi=>by
     have hq:=hread i hi
     rw[List.getElem?_eq_getElem (by omega),Option.bind_eq_some_iff]at hq
     obtain⟨cs,c1,c2⟩:=hq
     obtain⟨y,k1,k2⟩:=oK (F:=IsC w) e e' cs _ n h2 h1 c2
     refine⟨y,⟨cs,k1,fun j d' hd=>?_⟩,k2⟩
     obtain⟨_,m1,m2⟩:=World.cells?_some c1
     have hj:j < cs.length:=(List.getElem?_eq_some_iff.1 hd).1
     have:=m2 j (by omega)
     rw[tV,tV,h3]at this
     rw[←Nat.add_assoc,this];exact hd
    refine⟨l,⟨_,rfl,.inr ⟨b,o,cap',by rw[hl],hisc,by omega,fun i x hx=>(hr i x hx).1⟩⟩,?_,?_⟩
    ·rw[hl];simp only[maxLen]at hcm;omega
    ·intro y hy
     obtain⟨i,hi,he⟩:=List.mem_iff_getElem.1 hy
     exact(hr i y (by rw[List.getElem?_eq_getElem hi,he])).2
  ·cases hf
 | .pair a b,t,cs,x,fuel,hfl,hf,hok,h=>by
  unfold fitT at hf
  split at hf
  ·rename_i p r hp
   simp only[Bool.and_eq_true,beq_iff_eq]at hf
   obtain⟨h0,h1,h2,h3,h4⟩:=hf
   simp only[topS,Bool.and_eq_true]at hfl
   obtain⟨hl,n,hm⟩:=xH (by rw[hp];simp) h
   rw[hp]at hm
   obtain⟨y0,hy0⟩:=hm p (by simp)
   rw[h0,h2]at hy0
   obtain⟨u,d1,b1⟩:=aaW a p.1 _ _ n hfl.1 h1 (fun v hv=>hok v (List.mem_of_mem_drop (List.mem_of_mem_take hv))) hy0
   obtain⟨v,d2,b2⟩:=abw b r a.n cs n hfl.2 h3 hok (fun q hq=>hm q (by simp[hq])) (by omega)
   refine⟨(u,v),⟨_,_,?_,d1,d2⟩,b1,b2⟩
   have e:(cs.drop a.n).take b.n=cs.drop a.n:=List.take_of_length_le (by rw[List.length_drop];omega)
   rw[e];simp
  ·cases hf
theorem abw:∀ (T:Ty) (l:List (TypeId×Nat)) (k:Nat) (cs:List Value) (n:Nat),topS T=true→fitL P T l k=true→(∀ v∈cs,SlOK w v)→(∀ p∈l,∃ y,DataW.trod enc P w 0 sp held n p.1 ((cs.drop p.2).take (P.cellsOf p.1))=some y)→k+T.n≤cs.length→∃ y:T.α,DR (IsC w) w T y ((cs.drop k).take T.n)∧Bnd T y
 | .int k',l,k,cs,n,_,hf,_,_,_=>by simp[fitL]at hf
 | .bool,l,k,cs,n,_,hf,_,_,_=>by simp[fitL]at hf
 | .str,l,k,cs,n,_,hf,_,_,_=>by simp[fitL]at hf
 | .nul,l,k,cs,n,_,hf,_,_,_=>by simp[fitL]at hf
 | .rc _,l,k,cs,n,_,hf,_,_,_=>by simp[fitL]at hf
 | .sl _,l,k,cs,n,_,hf,_,_,_=>by simp[fitL]at hf
 | .unit,l,k,cs,n,_,hf,_,_,_=>⟨(),by simp[DR,Ty.n],trivial⟩
 | .pair a b,l,k,cs,n,hfl,hf,hok,hm,hk=>by
  unfold fitL at hf
  split at hf
  ·rename_i p r
   simp only[Bool.and_eq_true,beq_iff_eq]at hf
   obtain⟨h0,h1,h2,h3⟩:=hf
   simp only[topS,Bool.and_eq_true]at hfl
   simp only[Ty.n]at hk
   obtain⟨y0,hy0⟩:=hm p (by simp)
   rw[h0,h2]at hy0
   obtain⟨u,d1,b1⟩:=aaW a p.1 _ _ n hfl.1 h1 (fun v hv=>hok v (List.mem_of_mem_drop (List.mem_of_mem_take hv))) hy0
   obtain⟨v,d2,b2⟩:=abw b r (k+a.n) cs n hfl.2 h3 hok (fun q hq=>hm q (by simp[hq])) (by omega)
   refine⟨(u,v),⟨_,_,?_,d1,d2⟩,b1,b2⟩
   simp only[Ty.n]
   rw[List.take_add,List.drop_drop]
  ·cases hf
end
theorem zZ{T:Ty}{t:TypeId}{v:Value}{d:DataW H}{p:List MemPlace}{base:Nat}(ht:topOK T=true)(hf:fitT P T t=true)(hv:Value.okWide P w .any base t v)(h:DataW.Trod enc P w 0 sp held t v d p):∃ y:T.α,ValR (IsC w) w T y v∧Bnd T y:=by
 obtain⟨fuel,h⟩:=h
 unfold ValR
 cases T with
 | int k =>
  obtain⟨y,h1,h2⟩:=oK (F:=IsC w) (.int k) t _ _ fuel rfl hf h
  unfold fitT at hf
  split at hf
  ·rename_i k' hu
   obtain⟨n,rfl⟩:=okWide_int hu hv
   exact⟨y,by rw[if_neg (by simp[isSt])];simpa [Value.cells]using h1,h2⟩
  ·cases hf
 | bool =>
  obtain⟨y,h1,h2⟩:=oK (F:=IsC w) .bool t _ _ fuel rfl hf h
  unfold fitT at hf
  split at hf
  ·rename_i hu
   obtain⟨n,rfl⟩:=okWide_bool hu hv
   exact⟨y,by rw[if_neg (by simp[isSt])];simpa [Value.cells]using h1,h2⟩
  ·cases hf
 | str =>
  obtain⟨y,h1,h2⟩:=oK (F:=IsC w) .str t _ _ fuel rfl hf h
  unfold fitT at hf
  split at hf
  ·rename_i hu
   obtain⟨n,rfl⟩:=okWide_string hu hv
   exact⟨y,by rw[if_neg (by simp[isSt])];simpa [Value.cells]using h1,h2⟩
  ·cases hf
 | unit=>simp[fitT]at hf
 | nul=>simp[fitT]at hf
 | rc c=>simp[fitT]at hf
 | pair a b =>
  obtain⟨cs,rfl,hok⟩:∃ cs,v=.agg cs∧∀ y∈cs.toList,SlOK w y:=by
   unfold fitT at hf
   split at hf
   ·rename_i q r hp
    have row:∀ cs:Array Value,Row.okWide P w .any base t cs→∀ y∈cs.toList,SlOK w y:=fun cs hr y hy=>by
     obtain⟨ts,_,_,hc⟩:=hr
     obtain⟨i,hi,he⟩:=List.mem_iff_getElem.1 hy
     have h1:cs[i]? = some y:=by
      have:cs.toList[i]? = some y:=by rw[List.getElem?_eq_getElem hi,he]
      simpa using this
     obtain⟨u,_,hu⟩:=hc i y h1
     exact ac7 hu
    unfold partsOf at hp
    unfold Value.okWide at hv
    split at hp
    ·rename_i fs hu
     rw[hu]at hv
     obtain⟨cs,e,_,hr⟩:=hv
     exact⟨cs,e,row cs hr⟩
    ·rename_i n e hu
     rw[hu]at hv
     obtain⟨cs,e,_,hr⟩:=hv
     exact⟨cs,e,row cs hr⟩
    ·cases hp
   ·cases hf
  obtain⟨y,h1,h2⟩:=aaW (.pair a b) t cs.toList _ fuel ht hf hok h
  exact⟨y,by rw[if_pos (show isSt (.pair a b)=true from rfl)];exact⟨cs.toList,by simp,h1⟩,h2⟩
 | sl e =>
  unfold fitT at hf
  split at hf
  ·rename_i e' hu
   simp only[Bool.and_eq_true,beq_iff_eq]at hf
   obtain⟨h1,h2,h3⟩:=hf
   obtain⟨a,len,cap,rfl⟩:=okWide_slice hu hv
   rcases DataW.trod_slice hu h with⟨hc,_⟩ | ⟨a',len',cap',elems,rest,n,_,hc,_,_,hle,hcm,hel,hread,_⟩
   ·simp only[Value.cells,List.cons.injEq,Value.slice.injEq,and_true]at hc
    obtain⟨rfl,rfl,rfl⟩:=hc
    exact⟨[],by rw[if_neg (by simp[isSt])];exact⟨_,rfl,.inl ⟨rfl,rfl⟩⟩,by simp[Bnd]⟩
   ·simp only[Value.cells,List.cons.injEq,Value.slice.injEq,and_true]at hc
    obtain⟨rfl,rfl,rfl⟩:=hc
    have hhas:w.has P .any base a' e' cap:=by
     unfold Value.okWide Cell.okWide Cell.ok at hv
     rw[hu]at hv
     exact hv.2.2
    obtain⟨_,hspot,row,cells,hsh,_⟩:=hhas
    obtain⟨b,o,s⟩:=a'
    simp only at hspot;subst hspot
    have hisc:IsC w b:=yx hsh
    obtain⟨l,hl,hr⟩:=zA (α:=e.α) (R:=fun i y=>(∃ ds:List Value,DR (IsC w) w e y ds∧∀ (j:Nat) (d:Value),ds[j]? = some d→w.cell? ⟨b,o+(i*e.n+j),none⟩=some d)∧Bnd e y) len fun i hi=>by
     have hq:=hread i hi
     rw[List.getElem?_eq_getElem (by omega),Option.bind_eq_some_iff]at hq
     obtain⟨cs,c1,c2⟩:=hq
     obtain⟨y,k1,k2⟩:=oK (F:=IsC w) e e' cs _ n h2 h1 c2
     refine⟨y,⟨cs,k1,fun j d' hd=>?_⟩,k2⟩
     obtain⟨_,m1,m2⟩:=World.cells?_some c1
     have hj:j < cs.length:=(List.getElem?_eq_some_iff.1 hd).1
     have:=m2 j (by omega)
     rw[tV,tV,h3]at this
     rw[←Nat.add_assoc,this];exact hd
    refine⟨l,?_,?_,?_⟩
    ·rw[if_neg (by simp[isSt])]
     refine⟨_,rfl,.inr ⟨b,o,cap,by rw[hl],hisc,by omega,fun i x hx=>(hr i x hx).1⟩⟩
    ·rw[hl];simp only[maxLen]at hcm;omega
    ·intro y hy
     obtain⟨i,hi,he⟩:=List.mem_iff_getElem.1 hy
     exact(hr i y (by rw[List.getElem?_eq_getElem hi,he])).2
  ·cases hf
def fitAll(P:Program):List Ty→List TypeId→Bool
 | [],[]=>true
 | T::Ts,t::ts=>(topOK T&&fitT P T t)&&fitAll P Ts ts
 | _,_=>false
theorem sH:∀ {Ts:List Ty} {ts:List TypeId} {vs:List Value} {ds:List (DataW H)} {p:List MemPlace} {base:Nat},fitAll P Ts ts=true→(∀ (j:Nat) t v,ts[j]? = some t→vs[j]? = some v→Value.okWide P w .any base t v)→
  DataW.TrodAll enc P w 0 sp held ts vs ds p→∃ x:Tys Ts,ArgsR (IsC w) w Ts x vs∧Bnds Ts x
 | [],[],vs,ds,p,base,_,_,h=>by
  cases vs with
  | nil=>exact⟨(),rfl,trivial⟩
  | cons _ _=>cases ds<;>exact absurd h (by simp[DataW.TrodAll])
 | [],_::_,vs,ds,p,base,hf,_,h=>by simp[fitAll]at hf
 | _::_,[],vs,ds,p,base,hf,_,h=>by simp[fitAll]at hf
 | T::Ts,t::ts,vs,ds,p,base,hf,hv,h=>by
  simp only[fitAll,Bool.and_eq_true]at hf
  cases vs with
  | nil=>cases ds<;>exact absurd h (by simp[DataW.TrodAll])
  | cons v vs =>
   cases ds with
   | nil=>exact absurd h (by simp[DataW.TrodAll])
   | cons d ds =>
    obtain⟨p1,p2,h1,h2,_⟩:=h
    obtain⟨y,k1,k2⟩:=zZ hf.1.1 hf.1.2 (hv 0 t v rfl rfl) h1
    obtain⟨x,m1,m2⟩:=sH hf.2 (fun j t' v' a b=>hv (j+1) t' v' (by simpa using a) (by simpa using b)) h2
    exact⟨(y,x),⟨v,vs,rfl,k1,m1⟩,k2,m2⟩
theorem sK{W W':World}(hl:laidOutB P=true)(hb:Below W.heap.size W W'):∀ {ts:List TypeId} {vs:List Value} {ds:List (DataW H)} {p:List MemPlace},(ts.all fun t=>P.readableRec t&&decide (t < P.types.size))=true→
  DataW.TrodAll enc P W 0 (fun _=>true) true ts vs ds p→DataW.TrodAll enc P W' 0 (fun b=>decide (b < W.heap.size)) true ts vs ds p
 | [],vs,ds,p,_,h=>by cases vs<;>cases ds<;>simp_all [DataW.TrodAll]
 | t::ts,vs,ds,p,ha,h=>by
  cases vs with
  | nil=>cases ds<;>exact absurd h (by simp[DataW.TrodAll])
  | cons v vs =>
   cases ds with
   | nil=>exact absurd h (by simp[DataW.TrodAll])
   | cons d ds =>
    simp only[List.all_cons,Bool.and_eq_true,decide_eq_true_eq]at ha
    obtain⟨p1,p2,h1,h2,rfl⟩:=h
    have hlt:∀ x∈p1,x.block < W.heap.size:=by
     obtain⟨m,hm⟩:=h1
     exact DataW.trod_lt m _ _ _ hm
    exact⟨p1,p2,Below.trod hl ha.1.1 ha.1.2 h1 hb hlt,sK hl hb ha.2 h2,rfl⟩
theorem aaN{ts:List TypeId}:∀ {vs:List Value} {ds:List (DataW H)} {p:List MemPlace},DataW.TrodAll enc P w 0 sp held ts vs ds p→ds.length=ts.length:=by
 induction ts with
 | nil=>intro vs ds p h;cases vs<;>cases ds<;>simp_all [DataW.TrodAll]
 | cons t ts ih =>
  intro vs ds p h
  cases vs with
  | nil=>cases ds<;>exact absurd h (by simp[DataW.TrodAll])
  | cons v vs =>
   cases ds with
   | nil=>exact absurd h (by simp[DataW.TrodAll])
   | cons d ds=>obtain⟨_,_,_,h2,_⟩:=h;simp[ih h2]
end
def GTabs(W:World):Prop:=∀ (g j:Nat) (v:Int),(gtab g)[j]? = some v→W.cell? ⟨g,j,none⟩=some (.int .i64 v)
theorem adE{w:World}{g j:Nat}{v:Value}(h:w.cell? ⟨g,j,none⟩=some v):IsC w g:=by
 unfold World.cell? at h
 unfold IsC
 cases hb:w.heap[g]? with
 | none=>rw[hb]at h;cases h
 | some o=>cases o<;>rw[hb]at h<;>simp_all
theorem xN{laid:List (String×DataW Unit)}{W:World}(hp:(laid.all fun x=>x.2.handleName?.isNone)=true){t e:TypeId}{rest:List (String×DataW Unit)}
  (hg:Proofs.Tryz.prog.globalNamed "surveyor/expr.operands" = some gtN) (hty:(Proofs.Tryz.prog.globals[gtN]?).map (·.type)=some t) (ht:Proofs.Tryz.prog.underlying t=some (.array 8 e)) (he:Proofs.Tryz.prog.underlying e=some (.int .i64))
  (hce:Proofs.Tryz.prog.cellsOf e=1) (hct:Proofs.Tryz.prog.cellsOf t=8)
  (hh:(laid.filter fun x=>x.1 == "surveyor/expr.operands")=("surveyor/expr.operands",Lib.tabData .i64 [0,0,1,2,2,2,2,2])::rest)
  (h:laidMetH Proofs.Tryz.prog laid W):GTabs W:=by
 rw[MakeChecks.laidMetH_plain _ _ _ hp]at h
 have h':=laidMet.filter (fun x=>x.1 == "surveyor/expr.operands") h
 rw[hh]at h'
 have k:=Lib.tabIs_of_head hg hty ht he hce hct h'
 intro g j v hv
 unfold gtab at hv
 cases hc:(g==gtN&&Nat.blt gtN 1000000000)with
 | false=>rw[hc]at hv;simp at hv
 | true =>
  rw[hc,cond_true]at hv
  simp only[Bool.and_eq_true,beq_iff_eq]at hc
  obtain⟨rfl,_⟩:=hc
  unfold Lib.TabIs World.var? at k
  rw[hg]at k
  simp only[Option.bind_some]at k
  unfold World.cell?
  cases hb:W.heap[gtN]? with
  | none=>rw[hb]at k;cases k
  | some o =>
   rw[hb]at k
   cases o with
   | cells c u z =>
    have e':=Option.some.inj k
    simp only[Option.isSome_none,Bool.false_eq_true,if_false]
    rw[e',List.getElem?_toArray,List.getElem?_map,hv]
    rfl
   | _=>cases k
section
variable {H:Type}{enc:TypeId×Value→H}
theorem adG{L:World→Prop}(hl:laidOutB Proofs.Tryz.prog=true){n:FuncId}{fn:Func}{s:ChangeSpec}{Ts:List Ty}{f:Nat→Tys Ts→Option (Bool×Unit)}(hE:∀ lf,EntryOK Proofs.Tryz.prog TabG n ⟨Ts,[.bool],f lf⟩)
  (hf:fitAll Proofs.Tryz.prog Ts fn.params.toList=true) (hrd:(fn.params.toList.all fun t=>Proofs.Tryz.prog.readableRec t&&decide (t < Proofs.Tryz.prog.types.size))=true)
  {rt:TypeId} (hrt:fn.resultTypes=#[rt]) (hub:Proofs.Tryz.prog.underlying rt=some .bool) (hsv:s.vars=[])
  (hs:∀ ds:List (DataW H),ds.length=fn.params.toList.length→s.fn H ds={ results:=[.lit (.bool true)],args:=ds })
  (hpure:∀ x:Tys Ts,Bnds Ts x→∃ lf,f lf x=some (true,()))
  (hgt:∀ W:World,L W→GTabs W)
  {W:World} {base:Nat} {args:Array Value} {ds gs:List (DataW H)} {before:List MemPlace} {apart fresh handsOn:Bool}
  (hval:∀ (j:Nat) t v,fn.params[j]? = some t→args[j]? = some v→Value.okWide Proofs.Tryz.prog W .any base t v)
  (hW:DataW.Whole enc Proofs.Tryz.prog fn.params.toList s.vars apart W args.toList ds gs before) (hG:TabG W) (hL:L W) :
  Calls Proofs.Tryz.prog n args W fun e W'=>∃ v,e=.returned v∧s.post enc Proofs.Tryz.prog fn apart fresh handsOn false W args v W':=by
 have hW':=hW
 obtain⟨p,q,hA,hV,rfl,_,_⟩:=hW
 rw[hsv]at hV
 obtain⟨rfl,rfl⟩:=trodVars_none hV
 have hv':∀ (j:Nat) (t:TypeId) (v:Value),fn.params.toList[j]? = some t→args.toList[j]? = some v→Value.okWide Proofs.Tryz.prog W .any base t v:=by
  intro j t v a b
  rw[Array.getElem?_toList]at a b
  exact hval j t v a b
 obtain⟨x,k1,k2⟩:=sH hf hv' hA
 obtain⟨lf,hlf⟩:=hpure x k2
 have hlen:=aaN hA
 have h:=hE lf x (true,()) hlf (IsC W) W args.toList hG ⟨fun i hi=>hi,fun g j v hv=>⟨adE (hgt W hL g j v hv),hgt W hL g j v hv⟩⟩ k1
 rw[Array.toArray_toList]at h
 refine h.mono ?_
 rintro e W' ⟨v,rfl,hb,hr⟩
 obtain⟨vs,⟨u,r,rfl,h1,h2⟩,rfl⟩:=hr
 obtain rfl:r=[]:=h2
 have hu:u=.bool true:=by
  unfold ValR at h1
  rw[if_neg (by simp[isSt])]at h1
  simpa [DR]using h1
 subst hu
 refine⟨_,rfl,ds,[],p++[],[],p,[],hW',?_,?_,?_,hb.frame _,fun h=>by cases h⟩
 ·rw[List.append_nil,hs ds hlen,hrt]
  exact trodAll_mk1 (shut_bool hub true)
 ·rw[List.append_nil,hs ds hlen]
  exact sK hl hb hrd hA
 ·rw[List.append_nil,hs ds hlen,hsv]
  rfl
end
theorem zT{laid:List (String×DataW Unit)}{W:World}(hp:(laid.all fun x=>x.2.handleName?.isNone)=true){g:Nat}{t e:TypeId}{n:Nat}{rest:List (String×DataW Unit)}
  (hg:Proofs.Tryz.prog.globalNamed "internal/strconv.uint64pow10" = some g) (hty:(Proofs.Tryz.prog.globals[g]?).map (·.type)=some t) (ht:Proofs.Tryz.prog.underlying t=some (.array n e)) (he:Proofs.Tryz.prog.underlying e=some (.int .u64))
  (hce:Proofs.Tryz.prog.cellsOf e=1) (hct:Proofs.Tryz.prog.cellsOf t=n)
  (hh:(laid.filter fun x=>x.1 == "internal/strconv.uint64pow10")=("internal/strconv.uint64pow10",Lib.tabData .u64 Lib.pow10Tab)::rest)
  (h:laidMetH Proofs.Tryz.prog laid W):TabG W:=by
 rw[MakeChecks.laidMetH_plain _ _ _ hp]at h
 have h':=laidMet.filter (fun x=>x.1 == "internal/strconv.uint64pow10") h
 rw[hh]at h'
 exact Lib.tabIs_of_head hg hty ht he hce hct h'
theorem aeO{P:Program}{c:OpenClaim}(h:P.funcs.any Func.goes=false)(hs:c.start=.entering):false=c.goesBy P:=by
 have key:∀ (g:Nat) (fn:Func),P.funcs[g]? = some fn→fn.goes=false:=by
  intro g fn hg
  have:=Array.any_eq_false.1 h
  obtain⟨hlt,e⟩:=Array.getElem?_eq_some_iff.1 hg
  have:=this g hlt
  rw[e]at this
  simpa using this
 have k2:∀ g:Nat,(P.funcs[g]?).any Func.goes=false:=by
  intro g
  cases hg:P.funcs[g]? with
  | none=>rfl
  | some fn=>simp[key g fn hg]
 unfold OpenClaim.goesBy Program.goesAt Program.goesFrom
 rw[hs]
 have k3:∀ f,P.goes f=false:=by
  intro f
  unfold Program.goes
  rw[h,Bool.and_false,Bool.or_false]
  simp only[k2]
  simp
 cases P.funcNamed c.func with
 | none=>rfl
 | some f=>simp[k3]
end Go.Q
namespace Go.Q
open Go Go.N
def totE:List ByteArray→Nat
 | []=>0
 | b::l=>(tl b).length+totE l
theorem aci:∀ {l:List ByteArray} {b:ByteArray},b∈l→(tl b).length≤totE l
 | c::l,b,h=>by
  rw[totE]
  rcases List.mem_cons.1 h with rfl | h
  ·omega
  ·have:=aci h;omega
theorem Pure.EnvCombines(x:Tys (eP.E 0).ps)(h:Bnds (eP.E 0).ps x):∃ lf,eP.f lf x.1 x.2.1 x.2.2.1=some (true,()):=by
 obtain⟨l,m,ts,⟨⟩⟩:=x
 obtain⟨_,_,⟨hl,ht⟩,_⟩:=h
 simp only at hl
 obtain⟨lf,hb,hlf⟩:=bigN (totE ts)
 refine⟨lf,?_⟩
 obtain⟨b,b1,b2⟩:=aft lf hb l
 obtain⟨c,c1,c2⟩:=aft lf hb m
 rw[eP.f]
 simp only[b1,bdS,awakeE,c1]
 cases b with
 | false=>simp only[Bool.not_false,Go.N.brT]
 | true =>
  simp only[Bool.not_true,Go.N.brF]
  cases c with
  | false=>simp only[Bool.not_false,Go.N.brT]
  | true =>
   obtain⟨h1,h2⟩:=b2 rfl
   obtain⟨k1,k2⟩:=c2 rfl
   have hs:∀ b∈ts,(tl b).length≤9223372036854775807∧(tl b).length≤lf:=fun b hm=>by
    have q1:=aci hm
    have q2:=ht b hm
    simp only[Bnd,Lib.size_eq]at q2
    simp only[tl]at *
    omega
   obtain⟨r,r1,r2⟩:=acL lf hb h2 h1 k2 k1
   obtain⟨j,j1,j2,j3⟩:=aa3 lf hb h2 h1 k2 k1
   obtain⟨n,n1,n2,n3⟩:=acT lf hb h2 h1 k2 k1
   obtain⟨w,w1,w2,w3⟩:=adb lf hb h2 h1 k2 k1 ts hl hs
   obtain⟨o,o1,o2,o3⟩:=acV lf hb h2 h1 k2 k1
   simp only[Bool.not_true,Go.N.brF,r1,r2,j1,j2,n1,n2,w1,w2,o1,o2,zS lf hb _ j3,zS lf hb _ n3,zS lf hb _ w3,zS lf hb _ o3,bdS,bne_self_eq_false,BEq.rfl,Go.N.brT]
   by_cases g1:((ts.length:Nat):Int) > 60
   ·rw[decide_eq_true g1,Go.N.brT]
    by_cases g2:((ts.length:Nat):Int)≤1024
    ·rw[decide_eq_true g2,Go.N.brT]
    ·rw[decide_eq_false g2,Go.N.brF]
   ·rw[decide_eq_false g1,Go.N.brF]
end Go.Q
