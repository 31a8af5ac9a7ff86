import Derived.KernelRfl
import Derived.Test.YtioemjeplgnccaaGreatDoorChecked
import Derived.ProofKit
import Derived.OpenShut
import Derived.LaidMore
import Derived.Lay
import Derived.Carry
import Derived.SevenTiedAt
import Derived.Stop.Joined
import Derived.Lib.LaidTab
import Derived.LaidSub
import Derived.Test.YtioemjeplgnccaaGreatDoorTDE3
import Derived.Test.YtioemjeplgnccaaGreatDoorTDG10
import Derived.Test.YtioemjeplgnccaaGreatDoorTDG7
import Derived.Test.YtioemjeplgnccaaGreatDoorTDG8
import Derived.Test.YtioemjeplgnccaaGreatDoorTDG9
import Derived.Test.YtioemjeplgnccaaGreatDoorTDN1
set_option linter.unusedVariables false
set_option linter.unusedSimpArgs false
set_option linter.unusedSectionVars false
set_option maxRecDepth 100000
namespace Go.N
open Go.IntKind (i64)
open Go Go.Q Go.Rx
theorem aaJ(A V P q0 R r1 B:Int)(h:r1=R-V):V*(A+P*(q0+1-q0))+P*r1=V*A+P*R:=by subst h;grind
theorem ads(lf:Nat)(h3:200000≤lf)(a v5 v6 ys:List Int)(i:Nat)(hy:Dg 10 ys)(ty:Tr ys)(hyb:ys.length≤60000):∀ (c n:Nat) (rest q:List Int),c < n→Dg 10 rest→Tr rest→rest.length≤80000→lv 10 rest < (c+1)*lv 10 ys→Dg 10 q→(hi:i < q.length)→q[i]+c≤9→
  ∃ rest' q',bf.l1 lf a ys (i:Nat) v5 v6 n rest q=some ((rest',q',()),())∧Dg 10 rest'∧Tr rest'∧rest'.length≤rest.length∧lv 10 rest' < lv 10 ys∧Dg 10 q'∧q'.length=q.length∧
   lv 10 ys*lv 10 q'+10 ^ i*lv 10 rest'=lv 10 ys*lv 10 q+10 ^ i*lv 10 rest∧∀ p,p≠i→q'[p]? = q[p]? := by
 intro c
 induction c with
 | zero =>
  intro n rest q hn hr tr' hl hlt hq hi hc
  obtain⟨m,rfl⟩:=Nat.exists_eq_succ_of_ne_zero (show n≠0 by omega)
  have lt:lv 10 rest < lv 10 ys:=by simpa using hlt
  refine⟨rest,q,?_,hr,tr',Nat.le_refl _,lt,hq,rfl,rfl,fun p _=>rfl⟩
  rw[bf.l1,bf.r1,uf lf rest ys hr hy tr' ty (by omega) (by omega) h3,bdS,decide_eq_false (by unfold sgn;rw[if_pos (by omega)];decide),brF]
 | succ c ih =>
  intro n rest q hn hr tr' hl hlt hq hi hc
  obtain⟨m,rfl⟩:=Nat.exists_eq_succ_of_ne_zero (show n≠0 by omega)
  rw[bf.l1,bf.r1,uf lf rest ys hr hy tr' ty (by omega) (by omega) h3,bdS]
  by_cases lt:lv 10 rest < lv 10 ys
  ·rw[decide_eq_false (by unfold sgn;rw[if_pos (by omega)];decide),brF]
   exact⟨rest,q,rfl,hr,tr',Nat.le_refl _,lt,hq,rfl,rfl,fun p _=>rfl⟩
  ·rw[decide_eq_true (by unfold sgn;rw[if_neg (by omega)];split<;>decide),brT]
   obtain⟨r1,e,d1,d2,d3,d4⟩:=sS lf h3 hr hy (by omega) (by omega)
   have q0:=hq.at i hi
   have e1:i64.wrap (q[i]+1)=q[i]+1:=w64 (by omega) (by omega)
   have lt1:lv 10 r1 < ((c:Int)+1)*lv 10 ys:=by
    have:((c+1:Nat):Int)+1=((c:Int)+1)+1:=by omega
    rw[this,Int.add_mul ((c:Int)+1) 1,Int.one_mul]at hlt
    omega
   obtain⟨r',q',t1,t2,t3,t4,t5,t6,t7,t8,t9⟩:=ih m r1 (q.set i (q[i]+1)) (by omega) d1 d2 (by omega) lt1 (nR hq i ⟨by omega,by omega⟩) (by rw[List.length_set];exact hi) (by rw[List.getElem_set_self];omega)
   refine⟨r',q',?_,t2,t3,by omega,t5,t6,by rw[t7,List.length_set],?_,fun p hp=>by rw[t9 p hp,List.getElem?_set_ne (by omega)]⟩
   ·rw[e,bdS,dM _ _ hi,bdS,List.getElem?_eq_getElem hi,bdS,bdS,e1,lD _ _ _ hi,bdS]
    exact t1
   ·rw[t8,nK 10 q i _ hi]
    exact aaJ _ _ _ _ _ _ 10 d4
theorem uY(lf:Nat)(h3:200000≤lf)(xs ys v5 v6:List Int)(hx:Dg 10 xs)(hy:Dg 10 ys)(ty:Tr ys)(hyb:ys.length≤60000)(k:Nat)(hk:k < xs.length)(rest q:List Int)(hr:Dg 10 rest)(hl:rest.length≤70000)(hlt:lv 10 rest < lv 10 ys)(hq:Dg 10 q)(hkq:k < q.length)(hz:q[k]=0):
  ∃ rest' q',bf.l1 lf xs ys (k:Nat) v5 v6 (lf+40) (tr ([xs[k]]++rest)) q=some ((rest',q',()),())∧Dg 10 rest'∧Tr rest'∧lv 10 rest' < lv 10 ys∧Dg 10 q'∧q'.length=q.length∧
   lv 10 ys*lv 10 q'+10 ^ k*lv 10 rest'=lv 10 ys*lv 10 q+10 ^ k*(xs[k]+10*lv 10 rest)∧∀ p,p≠k→q'[p]? = q[p]? := by
 have x0:=hx.at k hk
 have hd:Dg 10 ([xs[k]]++rest):=Dg.cons x0 hr
 have hl2:=kH ([xs[k]]++rest)
 have e:lv 10 ([xs[k]]++rest)=xs[k]+10*lv 10 rest:=rfl
 obtain⟨r',q',t1,t2,t3,_,t5,t6,t7,t8,t9⟩:=ads lf h3 xs v5 v6 ys k hy ty hyb 9 (lf+40) (tr ([xs[k]]++rest)) q (by omega) (lU hd) (nP _) (by simp at hl2;simp;omega) (by rw[kX,e];omega) hq hkq (by rw[hz];decide)
 rw[kX,e]at t8
 exact⟨r',q',t1,t2,t3,t5,t6,t7,t8,t9⟩
theorem aad{rest ys:List Int}(hy:Dg 10 ys)(hr:Dg 10 rest)(tr':Tr rest)(h:lv 10 rest < lv 10 ys):rest.length≤ys.length:=by
 by_cases z:rest.length≤ys.length
 ·exact z
 ·have:=mr (B:=10) (by decide) hy hr tr' (by omega);omega
theorem xR(V Q Q' P x R R' L:Int)(h:V*Q'+P*R'=V*Q+P*(x+10*R)):V*Q'+(P*R'+L)=V*Q+(P*10*R+(L+P*x)):=by grind
theorem adt(lf:Nat)(h3:200000≤lf)(xs ys v5:List Int)(hx:Dg 10 xs)(hy:Dg 10 ys)(ty:Tr ys)(hyb:ys.length≤60000)(hxb:xs.length≤60000):∀ (k n:Nat) (rest q:List Int),k < n→k≤xs.length→Dg 10 rest→Tr rest→lv 10 rest < lv 10 ys→Dg 10 q→k≤q.length→(∀ p,p < k→q[p]? = some 0)→
  ∃ rest' q',bf.l2 lf xs ys v5 n rest (((k:Nat):Int)-1) q=some ((rest',q',v5,()),())∧Dg 10 rest'∧Tr rest'∧lv 10 rest' < lv 10 ys∧Dg 10 q'∧q'.length=q.length∧
   lv 10 ys*lv 10 q'+lv 10 rest'=lv 10 ys*lv 10 q+(10 ^ k*lv 10 rest+lv 10 (xs.take k)):=by
 intro k
 induction k with
 | zero =>
  intro n rest q hn hk hr tr' hlt hq hkq hz
  obtain⟨m,rfl⟩:=Nat.exists_eq_succ_of_ne_zero (show n≠0 by omega)
  refine⟨rest,q,?_,hr,tr',hlt,hq,rfl,by simp[lv]⟩
  rw[bf.l2,bf.r2,decide_eq_false (by omega),brF]
 | succ k ih =>
  intro n rest q hn hk hr tr' hlt hq hkq hz
  obtain⟨m,rfl⟩:=Nat.exists_eq_succ_of_ne_zero (show n≠0 by omega)
  have hkl:k < xs.length:=by omega
  have rl:=aad hy hr tr' hlt
  have z0:q[k]'(by omega)=0:=by
   have h1:=hz k (by omega)
   rw[List.getElem?_eq_getElem (by omega)]at h1
   exact Option.some.inj h1
  obtain⟨r1,q1,t1,t2,t3,t4,t5,t6,t7,t8⟩:=uY lf h3 xs ys v5 ([xs[k]]++rest) hx hy ty hyb k hkl rest q hr (by omega) hlt hq (by omega) z0
  obtain⟨r2,q2,s1,s2,s3,s4,s5,s6,s7⟩:=ih m r1 q1 (by omega) (by omega) t2 t3 t4 t5 (by omega) (fun p hp=>by rw[t8 p (by omega)];exact hz p (by omega))
  refine⟨r2,q2,?_,s2,s3,s4,s5,by rw[s6,t6],?_⟩
  ·rw[bf.l2,bf.r2,show((k+1:Nat):Int)-1=((k:Nat):Int) by omega,decide_eq_true (by omega),brT,dV _ _ hkl,bdS,lK _ _ _ (by decide) (by simp;omega),bdS,pJ lf _ (by simp;omega) h3,bdS]
   simp only[t1,bdS]
   rw[w64 (n:=((k:Nat):Int)-1) (by omega) (by omega)]
   exact s1
  ·rw[s7,wz 10 xs k hkl,Int.pow_succ]
   exact xR _ _ _ _ _ _ _ _ t7
theorem adr(lf:Nat)(h3:200000≤lf)(xs ys:List Int)(hx:Dg 10 xs)(hy:Dg 10 ys)(ty:Tr ys)(hyb:ys.length≤60000)(hxb:xs.length≤60000)(k:Nat)(rest q:List Int)(hk:k≤xs.length)(hr:Dg 10 rest)(tr':Tr rest)(hlt:lv 10 rest < lv 10 ys)(hq:Dg 10 q)(hkq:k≤q.length)(hz:∀ p,p < k→q[p]? = some 0):
  ∃ b rest' q' w,bf.l0 lf xs ys (((k:Nat):Int)-1) q rest (lf+40)=some w∧w.1=b∧(if b=true then w.2.1.1=q'∧w.2.1.2.1=rest' else w.2.2.1.2.1=q'∧w.2.2.1.1=rest')∧Dg 10 rest'∧Tr rest'∧lv 10 rest' < lv 10 ys∧Dg 10 q'∧q'.length=q.length∧
   lv 10 ys*lv 10 q'+lv 10 rest'=lv 10 ys*lv 10 q+(10 ^ k*lv 10 rest+lv 10 (xs.take k)):=by
 cases k with
 | zero =>
  refine⟨true,rest,q,(true,(q,rest,()),(([],[],[],()),())),?_,rfl,by rw[if_pos rfl];exact⟨rfl,rfl⟩,hr,tr',hlt,hq,rfl,by simp[lv]⟩
  rw[show lf+40=(lf+39)+1 from rfl,bf.l0,bf.r0,decide_eq_false (by omega),brF]
 | succ k =>
  have hkl:k < xs.length:=by omega
  have rl:=aad hy hr tr' hlt
  have z0:q[k]'(by omega)=0:=by
   have h1:=hz k (by omega)
   rw[List.getElem?_eq_getElem (by omega)]at h1
   exact Option.some.inj h1
  obtain⟨r1,q1,t1,t2,t3,t4,t5,t6,t7,t8⟩:=uY lf h3 xs ys rest ([xs[k]]++rest) hx hy ty hyb k hkl rest q hr (by omega) hlt hq (by omega) z0
  obtain⟨r2,q2,s1,s2,s3,s4,s5,s6,s7⟩:=adt lf h3 xs ys rest hx hy ty hyb hxb k (lf+39) r1 q1 (by omega) (by omega) t2 t3 t4 t5 (by omega) (fun p hp=>by rw[t8 p (by omega)];exact hz p (by omega))
  refine⟨false,r2,q2,(false,([],[],()),((r2,q2,rest,()),())),?_,rfl,by simp,s2,s3,s4,s5,by rw[s6,t6],?_⟩
  ·rw[show lf+40=(lf+39)+1 from rfl,bf.l0,bf.r0,show((k+1:Nat):Int)-1=((k:Nat):Int) by omega,decide_eq_true (by omega),brT,dV _ _ hkl,bdS,lK _ _ _ (by decide) (by simp;omega),bdS,pJ lf _ (by simp;omega) h3,bdS]
   simp only[t1,bdS]
   rw[w64 (n:=((k:Nat):Int)-1) (by omega) (by omega),s1,bdS]
  ·rw[s7,wz 10 xs k hkl,Int.pow_succ]
   exact xR _ _ _ _ _ _ _ _ t7
theorem ab5(lf:Nat)(h3:200000≤lf){xs ys:List Int}(hx:Dg 10 xs)(hy:Dg 10 ys)(tx:Tr xs)(ty:Tr ys)(hyn:ys≠[])(hxb:xs.length≤60000)(hyb:ys.length≤60000):
  ∃ Q R,bf.f lf xs ys=some (Q,R,())∧Dg 10 Q∧Q.length≤xs.length+1∧Dg 10 R∧Tr R∧lv 10 xs=lv 10 ys*lv 10 Q+lv 10 R∧lv 10 R < lv 10 ys:=by
 have yl:1≤ys.length:=List.length_pos_iff.2 hyn
 obtain⟨n,hn⟩:∃ n,n=xs.length+1-ys.length:=⟨_,rfl⟩
 have yt:=uI (B:=10) (by decide) hy ty hyn
 have e0:(if(i64.wrap ((i64.wrap (((xs.length:Nat):Int)-((ys.length:Nat):Int)))+1)) > 0 then(i64.wrap ((i64.wrap (((xs.length:Nat):Int)-((ys.length:Nat):Int)))+1))else 0)=((n:Nat):Int):=by
  rw[w64 (n:=((xs.length:Nat):Int)-((ys.length:Nat):Int)) (by omega) (by omega),w64 (by omega) (by omega)]
  split<;>omega
 have e1:i64.wrap (((n:Nat):Int)-1)=((n:Nat):Int)-1:=w64 (by omega) (by omega)
 have nx:n≤xs.length:=by omega
 have rT:Tr (xs.drop n):=by
  unfold Tr at *
  by_cases z:n < xs.length
  ·rw[List.getLast?_drop,if_neg (by omega)];exact tx
  ·rw[List.drop_of_length_le (by omega)];simp
 have rlt:lv 10 (xs.drop n) < lv 10 ys:=by
  have a:=mY (B:=10) (by decide) (hx.drop n)
  rw[List.length_drop]at a
  have b:=jY (B:=10) (by decide) (show xs.length-n≤ys.length-1 by omega)
  omega
 obtain⟨b,R,Q,w,t1,t2,t3,t4,t5,t6,t7,t8,t9⟩:=adr lf h3 xs ys hx hy ty hyb hxb n (xs.drop n) (List.replicate n 0) nx (hx.drop n) rT rlt (Dg.zeros (by decide) _) (by simp) (fun p hp=>by rw[List.getElem?_replicate,if_pos hp])
 rw[List.length_replicate]at t8
 rw[oG,Int.mul_zero,Int.zero_add]at t9
 have sp:=mV 10 xs n nx
 refine⟨tr Q,R,?_,lU t7,by have:=kH Q;omega,t4,t5,by rw[kX];omega,t6⟩
 rw[bf.f,e0,e1,oL _ _ _ n rfl rfl (by omega),bdS,abN _ _ n rfl nx,bdS,lK _ _ _ (by decide) (by simp;omega),bdS,List.nil_append,t1,bdS,t2]
 cases b with
 | true =>
  rw[if_pos rfl]at t3
  rw[brT,t3.1,t3.2,pJ lf Q (by omega) h3,bdS]
 | false =>
  rw[if_neg (by simp)]at t3
  rw[brF,t3.1,t3.2,pJ lf Q (by omega) h3,bdS]
theorem abS(lf:Nat){x y:Int}(hx:x.natAbs < 100000000000000000)(hy:y.natAbs < 100000000000000000)(h0:y≠0):jF.f lf x y=some (x.fdiv y,()):=by
 have e:=Int.mul_tdiv_add_tmod x y
 have e1:iRem x y=some (Int.tmod x y):=by unfold iRem;rw[if_neg h0]
 have qb:(Int.tdiv x y).natAbs≤x.natAbs:=by rw[Int.natAbs_tdiv];exact Nat.div_le_self _ _
 have e2:iQuo .i64 x y=some (Int.tdiv x y):=by
  unfold iQuo;rw[if_neg h0]
  congr 1
  apply w64<;>omega
 have sg:(0≤x→0≤Int.tmod x y)∧(x≤0→Int.tmod x y≤0):=by
  refine⟨fun h=>Int.tmod_nonneg y h,fun h=>?_⟩
  have:=Int.tmod_nonneg y (show 0≤-x by omega)
  rw[Int.neg_tmod]at this
  omega
 have ab:(Int.tmod x y).natAbs < y.natAbs:=by
  rw[Int.natAbs_tmod]
  exact Nat.mod_lt _ (by omega)
 rw[jF.f,e2,bdS,e1,bdS]
 by_cases r0:Int.tmod x y=0
 ·rw[r0,bne_self_eq_false,brF]
  have:=(gZ (x:=x) (y:=y) (q:=Int.tdiv x y) (r:=0) (by omega) (by omega)).1
  rw[this]
 ·rw[show(Int.tmod x y != 0)=true by simpa using r0,brT]
  by_cases hs:decide (x < 0)=decide (y < 0)
  ·have hs':(x < 0↔y < 0):=by simpa using hs
   rw[show(decide (x < 0) != decide (y < 0))=false by rw[hs,bne_self_eq_false],brF]
   have:=(gZ (x:=x) (y:=y) (q:=Int.tdiv x y) (r:=Int.tmod x y) (by omega) (by omega)).1
   rw[this]
  ·have hs':¬(x < 0↔y < 0):=by simpa using hs
   rw[show(decide (x < 0) != decide (y < 0))=true by simpa using hs,brT,w64 (by omega) (by omega)]
   have:=(gZ (x:=x) (y:=y) (q:=Int.tdiv x y-1) (r:=Int.tmod x y+y) (by rw[Int.mul_sub];omega) (by omega)).1
   rw[this]
theorem wJ{z:Int}{k:Nat}(hk:1≤k)(h:(z.natAbs:Int) < 10 ^ k):sz z≤k:=by
 obtain⟨j,rfl⟩:=Nat.exists_eq_succ_of_ne_zero (show k≠0 by omega)
 rw[←oJ]
 apply lg
 have:((10 ^ (j+1):Nat):Int)=(10:Int) ^ (j+1):=by norm_cast
 have h':(z.natAbs:Int) < ((10 ^ (j+1):Nat):Int):=by rw[this];exact h
 exact Int.ofNat_lt.1 h'
theorem wu(lf:Nat)(h3:200000≤lf){x y:Int}(hx:sz x≤40000)(hy:sz y≤40000)(h0:y≠0):
    (bd (aQ.f lf (bs (Lib.itoa x))) fun r18 =>
 bd (aH.f lf r18.1) fun r19 =>
 bd (aQ.f lf (bs (Lib.itoa y))) fun r20 =>
 bd (aH.f lf r20.1) fun r21 =>
 bd (bf.f lf r19.1 r21.1) fun r22 =>
 bd (aA.f lf (bs (Lib.itoa x))) fun r23 =>
 bd (aA.f lf (bs (Lib.itoa y))) fun r24 =>
 bd (aU.f lf r22.1 (r23.1 != r24.1)) fun r25 =>
 bd (aA.f lf (bs (Lib.itoa x))) fun r26 =>
 bd (aA.f lf (bs (Lib.itoa y))) fun r27 =>
 br (r26.1 != r27.1) (
 br (decide (((r22.2.1.length:Nat):Int) > 0)) (
 bd (cZ.f lf r25.1 (⟨#[49]⟩:ByteArray)) fun r28 =>
 some (r28.1,())) (
 some (r25.1,()))) (
 some (r25.1,())))=some (bs (Lib.itoa (x.fdiv y)),()):=by
  have a:=ld_body (z:=x)
  have b:=ld_body (z:=y)
  have lx:=qW x
  have ly:=qW y
  have tx:=kH (ld (body (Lib.itoa x)))
  have ty:=kH (ld (body (Lib.itoa y)))
  have hyn:tr (ld (body (Lib.itoa y)))≠[]:=by
    intro e
    have:=kX 10 (ld (body (Lib.itoa y)))
    rw[e,b.2.1]at this
    simp only[lv]at this
    omega
  obtain⟨Q,R,e,dq,lq,dr,tr',val,lt⟩:=ab5 lf h3 (lU a.1) (lU b.1) (nP _) (nP _) hyn (by omega) (by omega)
  rw[kX,kX,a.2.1,b.2.1]at val
  rw[kX,b.2.1]at lt
  have R0:=dh (B:=10) (by decide) dr
  have Q0:=dh (B:=10) (by decide) dq
  rw[lV lf _ (jh x) (by omega) h3,bdS,pJ lf (ld (body (Lib.itoa x))) (by omega) h3,bdS,lV lf _ (jh y) (by omega) h3,bdS,pJ lf (ld (body (Lib.itoa y))) (by omega) h3,bdS]
  simp only
  rw[e,bdS,jd lf _ (jW x),bdS,jd lf _ (jW y),bdS]
  simp only
  rw[qY lf h3 dq (by omega),bdS,bdS,bdS]
  simp only[qZ]
  by_cases hs:decide (x < 0)=decide (y < 0)
  · have hs':(x < 0↔y < 0):=by simpa using hs
    rw[hs,bne_self_eq_false,brF,if_neg (by simp)]
    refine congrArg (fun z:Int=>some (bs (Lib.itoa z),())) ?_
    refine(gZ (x:=x) (y:=y) (q:=lv 10 Q) (r:=if x < 0 then -lv 10 R else lv 10 R) ?_ ?_).1
    · by_cases hx0:x < 0
      · have:=hs'.1 hx0
        rw[if_pos hx0]
        have e1:(y.natAbs:Int)= -y:=by omega
        have e2:(x.natAbs:Int)= -x:=by omega
        rw[e1,e2,Int.neg_mul]at val
        omega
      · have:¬y < 0:=fun e=>hx0 (hs'.2 e)
        rw[if_neg hx0]
        have e1:(y.natAbs:Int)=y:=by omega
        have e2:(x.natAbs:Int)=x:=by omega
        rw[e1,e2]at val
        omega
    · split<;>omega
  · have hs':¬(x < 0↔y < 0):=by simpa using hs
    rw[show(decide (x < 0) != decide (y < 0))=true by simpa using hs,brT,if_pos rfl]
    have val2:x=y*(-lv 10 Q)+(if x < 0 then -lv 10 R else lv 10 R):=by
      by_cases hx0:x < 0
      · have e1:(y.natAbs:Int)=y:=by omega
        have e2:(x.natAbs:Int)= -x:=by omega
        rw[e1,e2]at val
        rw[if_pos hx0,Int.mul_neg]
        omega
      · have e1:(y.natAbs:Int)= -y:=by omega
        have e2:(x.natAbs:Int)=x:=by omega
        rw[e1,e2,Int.neg_mul]at val
        rw[if_neg hx0,Int.mul_neg]
        omega
    by_cases hR:R=[]
    · subst hR
      rw[decide_eq_false (by simp),brF]
      refine congrArg (fun z:Int=>some (bs (Lib.itoa z),())) ?_
      refine(gZ (x:=x) (y:=y) (q:= -lv 10 Q) (r:=0) ?_ (by omega)).1
      simp only[lv,Int.neg_zero,ite_self,Int.add_zero]at val2
      omega
    · have Rl:0 < R.length:=List.length_pos_iff.2 hR
      have Rp:=pq (B:=10) (by decide) dr tr' hR
      have Qb:sz (-lv 10 Q)≤50000:=by
        have:=wJ (z:= -lv 10 Q) (k:=Q.length+1) (by omega) (by
          have a1:=mY (B:=10) (by decide) dq
          have a2:=jY (B:=10) (by decide) (show Q.length≤Q.length+1 by omega)
          omega)
        omega
      have i1:Lib.itoa 1=[49]:=by decide +kernel
      have s1:sz 1≤50000:=by unfold sz;rw[i1];decide
      rw[decide_eq_true (by omega),brT,show(⟨#[49]⟩:ByteArray)=bs [49] from rfl,←i1,vS lf h3 Qb s1,bdS]
      refine congrArg (fun z:Int=>some (bs (Lib.itoa z),())) ?_
      refine(gZ (x:=x) (y:=y) (q:= -lv 10 Q-1) (r:=(if x < 0 then -lv 10 R else lv 10 R)+y) ?_ ?_).1
      · rw[Int.mul_sub];omega
      · split<;>omega
theorem abI(lf:Nat)(h3:200000≤lf){x y:Int}(hx:sz x≤40000)(hy:sz y≤40000)(h0:y≠0):jD.f lf (bs (Lib.itoa x)) (bs (Lib.itoa y))=some (bs (Lib.itoa (x.fdiv y)),()):=by
 rw[jD.f,rZ lf (by omega),bdS]
 simp only
 by_cases c1:(sz x:Int)≤17
 ·rw[decide_eq_true c1,brT,rZ lf (by omega),bdS]
  simp only
  by_cases c2:(sz y:Int)≤17
  ·have a:=qK (z:=x) (k:=17) (by omega) (by omega)
   have b:=qK (z:=y) (k:=17) (by omega) (by omega)
   have p:(10:Int) ^ 17=100000000000000000:=by decide
   have fb:(x.fdiv y).natAbs≤200000000000000000:=by
    have m:=Int.mul_fdiv_add_fmod x y
    have h1:(x.fdiv y).natAbs*1≤(x.fdiv y).natAbs*y.natAbs:=Nat.mul_le_mul_left _ (by omega)
    have h2:(y*x.fdiv y).natAbs=y.natAbs*(x.fdiv y).natAbs:=Int.natAbs_mul _ _
    rw[Nat.mul_comm]at h2
    have h3:(x.fmod y).natAbs < y.natAbs:=by
     rcases Int.lt_or_lt_of_ne h0 with z | z
     ·have a:=Int.fmod_nonneg_of_pos (-x) (show 0 < -y by omega)
      have b:=Int.fmod_lt_of_pos (-x) (show 0 < -y by omega)
      rw[Int.neg_fmod_neg]at a b
      omega
     ·have a:=Int.fmod_nonneg_of_pos x z
      have b:=Int.fmod_lt_of_pos x z
      omega
    omega
   rw[decide_eq_true c2,brT,nS lf h3 (by omega),bdS,nS lf h3 (by omega),bdS]
   simp only
   rw[abS lf (by omega) (by omega) h0,bdS,uO lf h3 (by omega) (by omega),bdS]
  ·rw[decide_eq_false c2,brF]
   exact wu lf h3 hx hy h0
 ·rw[decide_eq_false c1,brF]
  exact wu lf h3 hx hy h0
theorem vW{x y:Int}(h0:y≠0):(x.fmod y).natAbs < y.natAbs:=by
 rcases Int.lt_or_lt_of_ne h0 with z | z
 ·have a:=Int.fmod_nonneg_of_pos (-x) (show 0 < -y by omega)
  have b:=Int.fmod_lt_of_pos (-x) (show 0 < -y by omega)
  rw[Int.neg_fmod_neg]at a b
  omega
 ·have a:=Int.fmod_nonneg_of_pos x z
  have b:=Int.fmod_lt_of_pos x z
  omega
theorem tJ{x y:Int}(h0:y≠0):(x.fdiv y).natAbs≤x.natAbs+1:=by
 by_cases q0:x.fdiv y=0
 ·rw[q0];simp
 have m:=Int.mul_fdiv_add_fmod x y
 have h2:(y*x.fdiv y).natAbs=y.natAbs*(x.fdiv y).natAbs:=Int.natAbs_mul _ _
 have h3:=vW (x:=x) h0
 obtain⟨k,hk⟩:=Nat.exists_eq_succ_of_ne_zero (show(x.fdiv y).natAbs≠0 by omega)
 rw[hk,Nat.mul_succ]at h2
 have h4:1*k≤y.natAbs*k:=Nat.mul_le_mul_right _ (by omega)
 omega
theorem aeC{x y:Int}{k:Nat}(hk:1≤k)(h0:y≠0)(h:sz x≤k):sz (x.fdiv y)≤k+1:=by
 apply wJ (by omega)
 have a:=qK h hk
 have b:=tJ (x:=x) h0
 have c:(10:Int) ^ (k+1)=10 ^ k*10:=Int.pow_succ ..
 omega
theorem afC{x y:Int}{j k:Nat}(hj:1≤j)(hk:1≤k)(h1:sz x≤j)(h2:sz y≤k):sz (x*y)≤j+k:=by
 apply wJ (by omega)
 have a:=qK h1 hj
 have b:=qK h2 hk
 rw[Int.natAbs_mul,Int.natCast_mul,Int.pow_add]
 have p:=jV (B:=10) (by decide) k
 have c:=Int.mul_le_mul_of_nonneg_left (Int.le_of_lt b) (show 0≤(x.natAbs:Int) by omega)
 have d:=Int.mul_lt_mul_of_pos_right a p
 omega
theorem wF(lf:Nat)(h3:200000≤lf){x y:Int}(hx:sz x≤20000)(hy:sz y≤20000)(h0:y≠0):eH.f lf (bs (Lib.itoa x)) (bs (Lib.itoa y))=some (bs (Lib.itoa (x.fmod y)),()):=by
 have q:=aeC (by omega) h0 hx
 have p:=afC (by omega) (by omega) hy q
 rw[eH.f,abI lf h3 (by omega) (by omega) h0,bdS,zZ lf h3 (by omega) (by omega),bdS,vS lf h3 (by omega) (by omega),bdS]
 have m:=Int.mul_fdiv_add_fmod x y
 refine congrArg (fun z:Int=>some (bs (Lib.itoa z),())) ?_
 omega
end Go.N
namespace Go.N
open Go Go.Q Go.Rx
theorem szK{z:Int}(h: -K < z∧z < K):sz z≤4096:=(sz_K z).2 h
theorem sumI(lf:Nat)(h3:200000≤lf){x y:Int}(hx: -K < x∧x < K)(hy: -K < y∧y < K):gI.f lf (bs (Lib.itoa x)) (bs (Lib.itoa y))=some (bs (Lib.itoa (x+y)),()):=by
 have:=szK hx
 have:=szK hy
 exact abA lf h3 (by omega) (by omega)
theorem diffI(lf:Nat)(h3:200000≤lf){x y:Int}(hx: -K < x∧x < K)(hy: -K < y∧y < K):cZ.f lf (bs (Lib.itoa x)) (bs (Lib.itoa y))=some (bs (Lib.itoa (x-y)),()):=by
 have:=szK hx
 have:=szK hy
 exact vS lf h3 (by omega) (by omega)
theorem CK{z:Int}(h: -C < z∧z < C): -K < z∧z < K:=by have:=gJ;omega
def negS(s:Sp):Sp:=common s ⟨.ni,.fin (-1)⟩
def zerS(s:Sp):Sp:=common s ⟨.fin 0,.fin 0⟩
theorem hullNE{s t:Sp}(hs:emp s=false)(ht:emp t=false):hull s t=⟨xmin s.lo t.lo,xmax s.hi t.hi⟩:=by
 unfold hull;rw[if_neg (by simp[hs]),if_neg (by simp[ht])]
def Po:X→Prop
 | .fin b=>1≤b
 | .pi=>True
 | .ni=>False
theorem pX{a a' b:Int}(hb:1≤b)(h:a≤a'):a.fdiv b≤a'.fdiv b:=by
 rw[Int.fdiv_eq_ediv_of_nonneg _ (by omega),Int.fdiv_eq_ediv_of_nonneg _ (by omega)]
 exact Int.ediv_le_ediv (by omega) h
theorem yE{a b:Int}(hb:1≤b)(h:0≤a):0≤a.fdiv b:=by
 have:=pX (a:=0) hb h
 rwa [Int.zero_fdiv]at this
theorem aaW{a b:Int}(hb:1≤b)(h:a < 0):a.fdiv b≤-1:=by
 have m:=Int.mul_fdiv_add_fmod a b
 have r0:=Int.fmod_nonneg_of_pos a (show 0 < b by omega)
 by_cases z:a.fdiv b≤-1
 ·exact z
 ·have:=Int.mul_nonneg (show 0≤b by omega) (show 0≤a.fdiv b by omega);omega
theorem abH{x x' y:X}(hx:okx Dd x)(hx':okx Dd x')(hy:Po y)(h:key x≤key x'):key (xover x y)≤key (xover x' y):=by
 have hK:=Dd_K
 have hC:=Int.lt_trans C_gt fV
 have po:∀ b,y=.fin b→1≤b:=fun b e=>by subst e;exact hy
 have k1:=qV ((xY hx po).mono (Int.le_of_lt hK))
 have k2:=qV ((xY hx' po).mono (Int.le_of_lt hK))
 cases x with
 | ni=>exact k2.1
 | pi=>cases x' with
  | pi=>exact Int.le_refl _
  | ni=>simp only[key]at h;omega
  | fin z=>simp only[key,okx]at h hx';omega
 | fin z=>cases x' with
  | pi=>exact k1.2
  | ni=>simp only[key,okx]at h hx;omega
  | fin w =>
   simp only[key]at h
   cases y with
   | ni=>exact hy.elim
   | fin b=>exact pX hy h
   | pi=>simp only[xover];split<;>split<;>simp only[key]<;>omega
theorem adQ{x y y':X}(hx:okx Dd x)(hy:Po y)(hy':Po y')(oy:okx Dd y)(oy':okx Dd y')(h:key y≤key y')(hn:key x < 0):key (xover x y)≤key (xover x y'):=by
 have hK:=Dd_K
 have hC:=Int.lt_trans C_gt fV
 cases x with
 | ni=>exact Int.le_refl _
 | pi=>simp only[key]at hn;omega
 | fin z =>
  simp only[key]at hn
  cases y with
  | ni=>exact hy.elim
  | pi=>cases y' with
   | ni=>exact hy'.elim
   | pi=>exact Int.le_refl _
   | fin b=>simp only[key,okx]at h oy';omega
  | fin b=>cases y' with
   | ni=>exact hy'.elim
   | pi =>
    simp only[xover];rw[if_pos hn];exact aaW hy hn
   | fin c =>
    simp only[key]at h
    simp only[xover,key]
    have m:=Int.mul_fdiv_add_fmod z b
    have m':=Int.mul_fdiv_add_fmod z c
    have r0:=Int.fmod_nonneg_of_pos z (show 0 < b by have:1≤b:=hy;omega)
    have r1:=Int.fmod_lt_of_pos z (show 0 < c by have:1≤c:=hy';omega)
    have q:=aaW (b:=b) hy hn
    by_cases g:z.fdiv b≤z.fdiv c
    ·exact g
    ·have hb:1≤b:=hy
     have e1:=Int.mul_le_mul_of_nonneg_left (show z.fdiv c+1≤z.fdiv b by omega) (show 0≤c by have:1≤c:=hy';omega)
     have e2:=Int.mul_le_mul_of_nonneg_right h (show 0≤-z.fdiv b by omega)
     rw[Int.mul_add]at e1
     rw[Int.mul_neg,Int.mul_neg]at e2
     omega
theorem adR{x y y':X}(hx:okx Dd x)(hy:Po y)(hy':Po y')(oy:okx Dd y)(oy':okx Dd y')(h:key y≤key y')(hn:0≤key x):key (xover x y')≤key (xover x y):=by
 have hK:=Dd_K
 have hC:=Int.lt_trans C_gt fV
 cases x with
 | pi=>exact Int.le_refl _
 | ni=>simp only[key]at hn;omega
 | fin z =>
  simp only[key]at hn
  cases y with
  | ni=>exact hy.elim
  | pi=>cases y' with
   | ni=>exact hy'.elim
   | pi=>exact Int.le_refl _
   | fin b=>simp only[key,okx]at h oy';omega
  | fin b=>cases y' with
   | ni=>exact hy'.elim
   | pi =>
    simp only[xover];rw[if_neg (by omega)];exact yE hy hn
   | fin c =>
    simp only[key]at h
    simp only[xover,key]
    have m:=Int.mul_fdiv_add_fmod z b
    have m':=Int.mul_fdiv_add_fmod z c
    have r0:=Int.fmod_nonneg_of_pos z (show 0 < c by have:1≤c:=hy';omega)
    have r1:=Int.fmod_lt_of_pos z (show 0 < b by have:1≤b:=hy;omega)
    have q:=yE (b:=c) hy' hn
    by_cases g:z.fdiv c≤z.fdiv b
    ·exact g
    ·have e1:=Int.mul_le_mul_of_nonneg_left (show z.fdiv b+1≤z.fdiv c by omega) (show 0≤b by have:1≤b:=hy;omega)
     have e2:=Int.mul_le_mul_of_nonneg_right h q
     rw[Int.mul_add]at e1
     omega
theorem aeB(z:Int):decide (sgn z < 0)=decide (z < 0):=by simp only[decide_eq_decide];unfold sgn;(repeat' split)<;>omega
section
variable (lf:Nat)(h3:200000≤lf)
include h3
theorem rng:bQ.f lf (ob none) (ob none)=some (ac (toA ⟨.ni,.pi⟩),()):=tZ lf h3 none none trivial trivial
end
end Go.N
namespace Go.N
open Go Go.Q Go.Rx
theorem acv{x y q r:Int}(h:x=y*q+r)(hy:0 < y)(h0:0≤r)(h1:r < y)(hx:0≤x):Int.gcd y r=Int.gcd x y:=by
 have e:r=x % y:=by rw[h,Int.mul_add_emod_self_left];exact(Int.emod_eq_of_lt h0 h1).symm
 obtain⟨a,rfl⟩:=Int.eq_ofNat_of_zero_le hx
 obtain⟨b,rfl⟩:=Int.eq_ofNat_of_zero_le (Int.le_of_lt hy)
 have e':r=((a % b:Nat):Int):=by rw[e];rfl
 rw[e',Int.gcd_natCast_natCast,Int.gcd_natCast_natCast,Nat.gcd_comm a b,Nat.gcd_rec b a,Nat.gcd_comm]
theorem abM(lf:Nat)(hlf:2000000000≤lf):∀ (k n:Nat) (xs ys:List Int),lv G ys≤k→k < n→Dg G xs→Dg G ys→Tr xs→Tr ys→xs.length≤40000→ys.length≤40000→
  ∃ r,gK.l0 lf n xs ys=some ((r,()),())∧Dg G r∧Tr r∧r.length≤max xs.length ys.length∧lv G r=(Int.gcd (lv G xs) (lv G ys):Int):=by
 intro k
 induction k with
 | zero =>
  intro n xs ys hk hn hx hy tx ty lx ly
  obtain⟨m,rfl⟩:=Nat.exists_eq_succ_of_ne_zero (show n≠0 by omega)
  have y0:=dh (B:=G) (by decide) hy
  have x0:=dh (B:=G) (by decide) hx
  have:ys=[]:=(sN (B:=G) (by decide) hy ty).1 (by omega)
  subst this
  refine⟨xs,?_,hx,tx,by omega,?_⟩
  ·rw[gK.l0,gK.r0,decide_eq_false (by simp),brF]
  ·rw[show lv G []=0 from rfl,Int.gcd_zero_right];omega
 | succ k ih =>
  intro n xs ys hk hn hx hy tx ty lx ly
  obtain⟨m,rfl⟩:=Nat.exists_eq_succ_of_ne_zero (show n≠0 by omega)
  have x0:=dh (B:=G) (by decide) hx
  by_cases h:ys=[]
  ·subst h
   refine⟨xs,?_,hx,tx,by omega,?_⟩
   ·rw[gK.l0,gK.r0,decide_eq_false (by simp),brF]
   ·rw[show lv G []=0 from rfl,Int.gcd_zero_right];omega
  ·obtain⟨Q,R,e,dq,tq,dr,tr',val,lt⟩:=zG lf xs ys hx hy tx ty h (by omega) (by omega) hlf
   have yp:=pq (B:=G) (by decide) hy ty h
   have R0:=dh (B:=G) (by decide) dr
   have lR:R.length≤ys.length:=by
    by_cases z:R.length≤ys.length
    ·exact z
    ·have:=mr (B:=G) (by decide) hy dr tr' (by omega);omega
   obtain⟨r,r1,r2,r3,r4,r5⟩:=ih m ys R (by omega) (by omega) hy dr ty tr' ly (by omega)
   refine⟨r,?_,r2,r3,by omega,?_⟩
   ·have:0 < ys.length:=List.length_pos_iff.2 h
    rw[gK.l0,gK.r0,decide_eq_true (by omega),brT,e,bdS]
    exact r1
   ·rw[r5,acv val yp R0 lt x0]
def Big(lf:Nat):Prop:=2000000000≤lf∧K < (lf:Int)
theorem afP(lf:Nat)(hb:Big lf){x y:Int}(hx: -K < x∧x < K)(hy: -K < y∧y < K):oP.f lf (bs (Lib.itoa x)) (bs (Lib.itoa y))=some (bs (Lib.itoa (Int.gcd x y)),0,()):=by
 obtain⟨hlf,hK⟩:=hb
 obtain⟨p,q,e,k1,k2,_⟩:=uM lf _ _ (chkK hx) (chkK hy) (by omega)
 rw[dm]at k1 k2
 have vx:lv G p.2.1=(x.natAbs:Int):=by
  have:=k1.val
  have:=dh (B:=G) (by decide) k1.dg
  split at*<;> omega
 have vy:lv G q.2.1=(y.natAbs:Int):=by
  have:=k2.val
  have:=dh (B:=G) (by decide) k2.dg
  split at*<;> omega
 obtain⟨r,r1,r2,r3,r4,r5⟩:=abM lf hlf (lf+39) (lf+40) p.2.1 q.2.1 (by omega) (by omega) k1.dg k2.dg k1.tr k2.tr (by have:=k1.len;omega) (by have:=k2.len;omega)
 rw[vx,vy]at r5
 have g:(Int.gcd (x.natAbs:Int) (y.natAbs:Int):Int)=(Int.gcd x y:Int):=by
  rw[Int.gcd_natCast_natCast];rfl
 have rn:RN (false,r,()) (Int.gcd x y) 4096:=⟨r2,r3,by have:=k1.len;have:=k2.len;simp only;omega,by simp only[Bool.false_eq_true,if_false];rw[r5,g]⟩
 rw[oP.f,e,bdS]
 simp only[bne_self_eq_false,brF]
 rw[gK.f,r1,bdS,bdS,vF lf rn (by omega) (by omega),bdS]
theorem wU(lf:Nat)(z:Int):ig.f lf (bs (Lib.itoa z))=some (bs (Lib.itoa (z.natAbs:Int)),()):=by
 rw[ig.f,jd lf _ (jW z),bdS]
 simp only
 rw[qZ]
 have e':Lib.itoa (z.natAbs:Int)=D z.natAbs:=by unfold Lib.itoa;rw[if_neg (by omega)];rfl
 rw[e']
 by_cases hn:z < 0
 ·have e:Lib.itoa z=45::D z.natAbs:=by unfold Lib.itoa;rw[if_pos hn]
  rw[decide_eq_true hn,brT,e,qi (45::D z.natAbs) 1 1 rfl (by simp),bdS]
  rfl
 ·have e:Lib.itoa z=D z.natAbs:=by unfold Lib.itoa;rw[if_neg hn];congr 1;omega
  rw[decide_eq_false hn,brF,e]
theorem i0':Lib.itoa 0=[48]:=by unfold Lib.itoa;rw[if_neg (by omega)];exact lT
theorem beq0(z:Int):((bs (Lib.itoa z)).toList==(⟨#[48]⟩:ByteArray).toList)=decide (z=0):=by
 rw[show(⟨#[48]⟩:ByteArray)=bs [48] from rfl,kY,←i0']
 simp only[decide_eq_decide]
 exact⟨fun e=>mQ e,fun e=>by rw[e]⟩
end Go.N
namespace Go.N
open Go Go.Q Go.Rx
def ckc(em:Bool)(l h:List UInt8):Int :=
 if em=true then(if l≠[]∨h≠[]then 3 else 0)else if num l≠0 then num l else if num h≠0 then num h else if iv l < 0∨(iv l≠0∧(iv h < 0∨¬iv h < iv l))then 2 else 0
theorem aeT(lf:Nat)(l:List UInt8)(hl:l.length≤9223372036854775807)(hf:l.length≤lf):iq.f lf (bs l)=some (num l,()):=by
 rw[iq.f,acu lf l hl hf,bdS]
 unfold num chk
 cases hc:can l with
 | false=>simp[brT]
 | true =>
  simp only[Bool.not_true,brF,if_true]
  rw[mZ lf l (jP hc).2.2 hl,bdS]
  by_cases h:nlen l > 100
  ·rw[decide_eq_true (by omega),brT]
   by_cases h2:nlen l > 4096
   ·rw[if_pos h2];rfl
   ·rw[if_neg h2,if_neg (by simp),if_pos h]
  ·rw[decide_eq_false (by omega),brF,if_neg (show ¬nlen l > 4096 by omega),if_neg (by simp),if_neg h]
theorem acS(lf:Nat)(l:List UInt8)(hl:l.length≤9223372036854775807):fA.f lf (bs l)=some (decide (nlen l > 100),()):=by
 have:=vC l
 rw[fA.f,mJ,bdS,gB]
 congr 2
 simp only[decide_eq_decide];unfold nlen;omega
theorem numC(lf:Nat)(l:List UInt8)(hl:l.length≤9223372036854775807):jo.f lf (bs l)=some (num l,()):=by
 rw[jo.f,nD lf l hl,bdS]
 simp only[acS lf l hl,bdS]
 unfold num
 by_cases h:chk l=0
 ·rw[h]
  simp only[show((0:Int)==10)=false from rfl,brF,BEq.rfl,brT,bne_self_eq_false,ne_eq,not_true,if_false]
  by_cases h2:nlen l > 100
  ·rw[decide_eq_true h2,brT,if_pos h2]
  ·rw[decide_eq_false h2,brF,if_neg h2]
 ·rw[if_pos h,show(chk l==0)=false from beq_eq_false_iff_ne.2 h,brF,bneT h,brT]
  by_cases h2:chk l=10
  ·rw[h2,BEq.rfl,brT]
  ·rw[show(chk l==10)=false from beq_eq_false_iff_ne.2 h2,brF]
theorem wo(lf:Nat)(l m:List UInt8)(h1:chk l=0)(h2:chk m=0)(h3:200000≤lf):eU.f lf (bs l) (bs m)=some (decide (iv l < iv m),()):=by
 rw[eU.f,rH lf l m h1 h2 h3,bdS]
 simp only
 rw[kM.f,bdS]
 congr 2
 simp only[decide_eq_decide];unfold sgn;(repeat' split)<;>omega
theorem aeO(lf:Nat)(h3:200000≤lf)(em:Bool)(l h:List UInt8)(hl:l.length≤9223372036854775807)(hh:h.length≤9223372036854775807):dB.f lf (em,bs l,bs h,())=some (ckc em l h,()):=by
 rw[dB.f]
 simp only[e0,kY,numC lf l hl,numC lf h hh,bdS]
 unfold ckc
 cases em with
 | true =>
  rw[brT,if_pos rfl]
  by_cases c1:l=[]<;>by_cases c2:h=[]<;>simp[c1,c2,brT,brF]
 | false =>
  rw[brF,if_neg (by simp)]
  by_cases c1:num l=0
  ·rw[c1,bne_self_eq_false,brF,if_neg (by simp)]
   by_cases c2:num h=0
   ·rw[c2,bne_self_eq_false,brF,if_neg (by simp)]
    have k1:=rV c1
    have k2:=rV c2
    have z:(⟨#[48]⟩:ByteArray)=bs [48]:=rfl
    rw[z,wo lf l [48] k1 aaP h3,bdS,wo lf h [48] k2 aaP h3,wo lf h l k2 k1 h3,iv48]
    simp only[bdS]
    have e:l=[48]↔iv l=0:=(vz (kR.1 k1).1).symm
    by_cases a:iv l < 0
    ·rw[decide_eq_true a,brT,if_pos (.inl a)]
    ·rw[decide_eq_false a,brF]
     by_cases b:iv l=0
     ·rw[decide_eq_true (e.2 b),Bool.not_true,brF,if_neg (by omega)]
     ·rw[decide_eq_false (fun x=>b (e.1 x)),Bool.not_false,brT]
      by_cases c:iv h < 0
      ·rw[decide_eq_true c,brT,if_pos (.inr ⟨b,.inl c⟩)]
      ·rw[decide_eq_false c,brF]
       by_cases d:iv h < iv l
       ·rw[decide_eq_true d,Bool.not_true,brF,if_neg (by omega)]
       ·rw[decide_eq_false d,Bool.not_false,brT,if_pos (.inr ⟨b,.inr d⟩)]
   ·rw[bneT c2,brT,if_pos c2]
  ·rw[bneT c1,brT,if_pos c1]
theorem aaQ(lf:Nat)(h3:200000≤lf)(em:Bool)(l h:List UInt8)(hl:l.length≤9223372036854775807)(hh:h.length≤9223372036854775807)(fl:l.length≤lf)(fh:h.length≤lf):iW.f lf (em,bs l,bs h,())=some (ckc em l h,()):=by
 rw[iW.f]
 simp only[e0,kY,aeT lf l hl fl,aeT lf h hh fh,bdS]
 unfold ckc
 cases em with
 | true =>
  rw[brT,if_pos rfl]
  by_cases c1:l=[]<;>by_cases c2:h=[]<;>simp[c1,c2,brT,brF]
 | false =>
  rw[brF,if_neg (by simp)]
  by_cases c1:num l=0
  ·rw[c1,bne_self_eq_false,brF,if_neg (by simp)]
   by_cases c2:num h=0
   ·rw[c2,bne_self_eq_false,brF,if_neg (by simp)]
    have k1:=rV c1
    have k2:=rV c2
    have l1:=qH c1
    have l2:=qH c2
    have z:(⟨#[48]⟩:ByteArray)=bs [48]:=rfl
    rw[uo lf l (kR.1 k1).1,bdS,uo lf h (kR.1 k2).1,aav lf h l (kR.1 k2).1 (kR.1 k1).1 (by omega) (by omega) h3]
    simp only[bdS,aeB]
    have e:l=[48]↔iv l=0:=(vz (kR.1 k1).1).symm
    by_cases a:iv l < 0
    ·rw[decide_eq_true a,brT,if_pos (.inl a)]
    ·rw[decide_eq_false a,brF]
     by_cases b:iv l=0
     ·rw[decide_eq_true (e.2 b),Bool.not_true,brF,if_neg (by omega)]
     ·rw[decide_eq_false (fun x=>b (e.1 x)),Bool.not_false,brT]
      by_cases c:iv h < 0
      ·rw[decide_eq_true c,brT,if_pos (.inr ⟨b,.inl c⟩)]
      ·rw[decide_eq_false c,brF]
       by_cases d:iv h < iv l
       ·rw[decide_eq_true d,Bool.not_true,brF,if_neg (by omega)]
       ·rw[decide_eq_false d,Bool.not_false,brT,if_pos (.inr ⟨b,.inr d⟩)]
   ·rw[bneT c2,brT,if_pos c2]
  ·rw[bneT c1,brT,if_pos c1]
structure Cg where
 em:Bool
 m:Int
 r:Int
deriving DecidableEq
def cc(c:Cg):IV:=if c.em=true then(true,bs [],bs [],())else(false,bs (Lib.itoa c.m),bs (Lib.itoa c.r),())
structure WfC(c:Cg):Prop where
 m: -C < c.m∧c.m < C
 r: -C < c.r∧c.r < C
 pos:0≤c.m
 rng:c.m≠0→0≤c.r∧c.r < c.m
def Ec:Cg:=⟨true,0,0⟩
def topC:Cg:=⟨false,1,0⟩
theorem afg{em:Bool}{l h:List UInt8}(hc:ckc em l h=0):∃ c:Cg,((em,bs l,bs h,()):IV)=cc c∧WfC c:=by
 have hC:=C_gt
 unfold ckc at hc
 cases em with
 | true =>
  rw[if_pos rfl]at hc
  have:¬(l≠[]∨h≠[]):=fun x=>by rw[if_pos x]at hc;cases hc
  have l0:l=[]:=by simpa using fun x=>this (.inl x)
  have h0:h=[]:=by simpa using fun x=>this (.inr x)
  subst l0 h0
  exact⟨Ec,rfl,⟨by simp only[Ec];omega,by simp only[Ec];omega,by simp[Ec],fun x=>absurd rfl x⟩⟩
 | false =>
  rw[if_neg (by simp)]at hc
  by_cases c1:num l=0
  ·rw[if_neg (by simp[c1])]at hc
   by_cases c2:num h=0
   ·rw[if_neg (by simp[c2])]at hc
    have n:¬(iv l < 0∨(iv l≠0∧(iv h < 0∨¬iv h < iv l))):=fun x=>by rw[if_pos x]at hc;cases hc
    have i1:=rQ (mW.1 c1).1
    have i2:=rQ (mW.1 c2).1
    refine⟨⟨false,iv l,iv h⟩,by unfold cc;rw[if_neg (by simp)];simp only;rw[←i1,←i2],?_⟩
    rw[i1,qf]at c1
    rw[i2,qf]at c2
    exact⟨c1,c2,by simp only;omega,fun x=>by simp only at x⊢;omega⟩
   ·rw[if_pos c2]at hc;exact absurd hc c2
  ·rw[if_pos c1]at hc;exact absurd hc c1
def clsF(m r:Int):Cg :=
 if sz (m.natAbs:Int) > 100∨sz (if m=0 then r else r.fmod (m.natAbs:Int)) > 100 then topC else⟨false,(m.natAbs:Int),if m=0 then r else r.fmod (m.natAbs:Int)⟩
theorem longI(lf:Nat){z:Int}(hz: -K < z∧z < K):fA.f lf (bs (Lib.itoa z))=some (decide (sz z > 100),()):=by
 have:=lN hz
 rw[acS lf _ (by omega)];rfl
theorem afI(lf:Nat){z:Int}(hz: -K < z∧z < K):oO.f lf (bs (Lib.itoa z))=some (bs (Lib.itoa (z.natAbs:Int)),0,()):=by
 have:=lN hz
 rw[oO.f,nD lf _ (by omega),bdS]
 simp only[chkK hz,bne_self_eq_false,brF]
 rw[mJ,bdS,uw]
 have e':Lib.itoa (z.natAbs:Int)=D z.natAbs:=by unfold Lib.itoa;rw[if_neg (by omega)];rfl
 rw[e']
theorem adB:((false,(⟨#[49]⟩:ByteArray),(⟨#[48]⟩:ByteArray),()):IV)=cc topC:=by
 unfold cc topC;rw[if_neg (by simp)];simp only;rw[i1,i0]
theorem sQ{x m:Int}(hx: -K < x∧x < K)(hm: -K < m∧m < K)(h0:m≠0): -K < x.fmod m∧x.fmod m < K:=by
 have:=vW (x:=x) h0
 omega
theorem rG(lf:Nat)(hlf:2000000000≤lf){m r:Int}(hm: -K < m∧m < K)(hr: -K < r∧r < K):dD.f lf (bs (Lib.itoa m)) (bs (Lib.itoa r))=some (cc (clsF m r),()):=by
 have ha: -K < (m.natAbs:Int)∧(m.natAbs:Int) < K:=by omega
 rw[dD.f,afI lf hm,bdS]
 simp only[fB.f,bdS,beq0,longI lf ha,fP.f,adB]
 unfold clsF
 by_cases h:m=0
 ·subst h
  simp only[longI lf hr,bdS]
  rw[decide_eq_true (by trivial),Bool.not_true,brF]
  by_cases c1:sz ((0:Int).natAbs:Int) > 100
  ·rw[decide_eq_true c1,brT,if_pos (.inl c1)]
  ·rw[decide_eq_false c1,brF]
   by_cases c2:sz r > 100
   ·rw[decide_eq_true c2,brT,if_pos (.inr (by rw[if_pos trivial];exact c2))]
   ·rw[decide_eq_false c2,brF,if_neg (by rw[if_pos trivial];exact fun x=>x.elim c1 c2),if_pos trivial]
    unfold cc;rw[if_neg (by simp)]
 ·have h':(m.natAbs:Int)≠0:=by omega
  have rk:=sQ hr ha h'
  simp only[jr lf hlf hr ha h',bdS,longI lf rk]
  rw[decide_eq_false h',Bool.not_false,brT]
  by_cases c1:sz (m.natAbs:Int) > 100
  ·rw[decide_eq_true c1,brT,if_pos (.inl c1)]
  ·rw[decide_eq_false c1,brF]
   by_cases c2:sz (r.fmod (m.natAbs:Int)) > 100
   ·rw[decide_eq_true c2,brT,if_pos (.inr (by rw[if_neg h];exact c2))]
   ·rw[decide_eq_false c2,brF,if_neg (by rw[if_neg h];exact fun x=>x.elim c1 c2),if_neg h]
    unfold cc;rw[if_neg (by simp)]
theorem pK(lf:Nat){z:Int}(hz: -K < z∧z < K):aF.f lf (bs (Lib.itoa z))=some ((sz z:Int),()):=by
 have:=lN hz
 exact mZ lf _ (jW z) (by omega)
theorem acw(n:Nat):decide (((n:Nat):Int) > 100)=decide (n > 100):=by simp only[decide_eq_decide];omega
theorem xh(lf:Nat)(h3:200000≤lf){m r:Int}(hm: -K < m∧m < K)(hr: -K < r∧r < K):gq.f lf (bs (Lib.itoa m)) (bs (Lib.itoa r))=some (cc (clsF m r),()):=by
 have ha: -K < (m.natAbs:Int)∧(m.natAbs:Int) < K:=by omega
 rw[gq.f,wU,bdS]
 simp only[beq0,pK lf ha,bdS,fG.f,adB,acw]
 unfold clsF
 by_cases h:m=0
 ·subst h
  simp only[pK lf hr,bdS,acw]
  rw[decide_eq_true (by trivial),Bool.not_true,brF]
  by_cases c1:sz ((0:Int).natAbs:Int) > 100
  ·rw[decide_eq_true c1,brT,if_pos (.inl c1)]
  ·rw[decide_eq_false c1,brF]
   by_cases c2:sz r > 100
   ·rw[decide_eq_true c2,brT,if_pos (.inr (by rw[if_pos trivial];exact c2))]
   ·rw[decide_eq_false c2,brF,if_neg (by rw[if_pos trivial];exact fun x=>x.elim c1 c2),if_pos trivial]
    unfold cc;rw[if_neg (by simp)]
 ·have h':(m.natAbs:Int)≠0:=by omega
  have rk:=sQ hr ha h'
  have s1:=szK hr
  have s2:=szK ha
  simp only[wF lf h3 (x:=r) (y:=(m.natAbs:Int)) (by omega) (by omega) h',bdS,pK lf rk,acw]
  rw[decide_eq_false h,Bool.not_false,brT]
  by_cases c1:sz (m.natAbs:Int) > 100
  ·rw[decide_eq_true c1,brT,if_pos (.inl c1)]
  ·rw[decide_eq_false c1,brF]
   by_cases c2:sz (r.fmod (m.natAbs:Int)) > 100
   ·rw[decide_eq_true c2,brT,if_pos (.inr (by rw[if_neg h];exact c2))]
   ·rw[decide_eq_false c2,brF,if_neg (by rw[if_neg h];exact fun x=>x.elim c1 c2),if_neg h]
    unfold cc;rw[if_neg (by simp)]
def dvd'(m a:Int):Bool:=if m=0 then decide (a=0)else decide (a.fmod m=0)
theorem xA(lf:Nat)(hlf:2000000000≤lf){m a:Int}(hm: -K < m∧m < K)(ha: -K < a∧a < K):gW.f lf (bs (Lib.itoa m)) (bs (Lib.itoa a))=some (dvd' m a,()):=by
 rw[gW.f,beq0]
 unfold dvd'
 by_cases h:m=0
 ·rw[decide_eq_true h,brT,if_pos h,beq0]
 ·rw[decide_eq_false h,brF,if_neg h,jr lf hlf ha hm h,bdS,fB.f,bdS,beq0]
theorem zH(lf:Nat)(h3:200000≤lf){m a:Int}(hm:sz m≤20000)(ha:sz a≤20000):ja.f lf (bs (Lib.itoa m)) (bs (Lib.itoa a))=some (dvd' m a,()):=by
 rw[ja.f,beq0]
 unfold dvd'
 by_cases h:m=0
 ·rw[decide_eq_true h,brT,if_pos h,beq0]
 ·rw[decide_eq_false h,brF,if_neg h,wF lf h3 ha hm h,bdS,beq0]
end Go.N
namespace Go.N
open Go Go.Q Go.Rx
theorem uG{k x y:Int}(hx: -k < x∧x < k)(hy: -k < y∧y < k): -k < (Int.gcd x y:Int)∧(Int.gcd x y:Int) < k:=by
 by_cases h:x=0
 ·subst h;rw[Int.gcd_zero_left];omega
 ·have:=Nat.gcd_le_left y.natAbs (show 0 < x.natAbs by omega)
  have e:Int.gcd x y=Nat.gcd x.natAbs y.natAbs:=rfl
  omega
section
variable (lf:Nat)(hb:Big lf)
include hb
theorem uz{x y:Int}(hx: -K < x∧x < K)(hy: -K < y∧y < K):dL.f lf (bs (Lib.itoa x)) (bs (Lib.itoa y))=some (bs (Lib.itoa (Int.gcd x y)),()):=by
 rw[dL.f,afP lf hb hx hy,bdS,fB.f,bdS]
theorem aam{x y:Int}(hx: -K < x∧x < K)(hy: -K < y∧y < K)(h: -K < x-y∧x-y < K):jU.f lf (bs (Lib.itoa x)) (bs (Lib.itoa y))=some (bs (Lib.itoa (x-y)),()):=by
 have:=(sz_K (x-y)).2 h
 rw[jU.f,abz lf _ _ (chkK hx) (chkK hy) (by have:=hb.1;omega),dm,dm,oJ,if_neg (by omega),bdS,fB.f,bdS]
theorem afd{x y:Int}(hx: -K < x∧x < K)(hy: -K < y∧y < K)(h: -K < x+y∧x+y < K):lS.f lf (bs (Lib.itoa x)) (bs (Lib.itoa y))=some (bs (Lib.itoa (x+y)),()):=by
 rw[lS.f,oN lf (by have:=hb.1;omega) hx hy h,bdS,fB.f,bdS]
theorem yj{x y:Int}(hx: -K < x∧x < K)(hy: -K < y∧y < K)(h: -K < x*y∧x*y < K):ji.f lf (bs (Lib.itoa x)) (bs (Lib.itoa y))=some (bs (Lib.itoa (x*y)),()):=by
 rw[ji.f,rU lf (by have:=hb.1;omega) hx hy h,bdS,fB.f,bdS]
end
def plusC(c d:Cg):Cg:=if c.em=true then Ec else if d.em=true then Ec else clsF (Int.gcd c.m d.m) (c.r+d.r)
def minusC(c d:Cg):Cg:=if c.em=true then Ec else if d.em=true then Ec else clsF (Int.gcd c.m d.m) (c.r-d.r)
def timesC(c d:Cg):Cg:=if c.em=true then Ec else if d.em=true then Ec else clsF (Int.gcd (c.m*d.m) (Int.gcd (c.m*d.r) (d.m*c.r))) (c.r*d.r)
theorem iw{c:Cg}(h:c.em=false):cc c=(false,bs (Lib.itoa c.m),bs (Lib.itoa c.r),()):=by unfold cc;rw[if_neg (by simp[h])]
theorem ou{c:Cg}(h:c.em=true):cc c=(true,bs [],bs [],()):=by unfold cc;rw[if_pos h]
theorem adL{c:Cg}(h:WfC c):∃ (l m:List UInt8),cc c=(c.em,bs l,bs m,())∧ckc c.em l m=0∧l.length≤101∧m.length≤101:=by
 have hK:=gJ
 cases e:c.em with
 | true=>exact⟨[],[],ou e,by simp[ckc],by simp,by simp⟩
 | false =>
  have n1:=(qf c.m).2 h.m
  have n2:=(qf c.r).2 h.r
  refine⟨Lib.itoa c.m,Lib.itoa c.r,iw e,?_,qH n1,qH n2⟩
  unfold ckc
  rw[if_neg (by simp),n1,n2,dm,dm,if_neg (by simp),if_neg (by simp),if_neg]
  have a:=h.pos
  have b:=h.rng
  intro x
  rcases x with x | ⟨x,y⟩
  ·omega
  ·have:=b x;omega
section
variable (lf:Nat)(hb:Big lf){c d:Cg}(hc:WfC c)(hd:WfC d)
include hb hc
theorem ccheck:dB.f lf (cc c)=some (0,()):=by
 obtain⟨l,m,e,h,a,b⟩:=adL hc
 rw[e,aeO lf (by have:=hb.1;omega) _ _ _ (by omega) (by omega),h]
theorem rcheck:iW.f lf (cc c)=some (0,()):=by
 obtain⟨l,m,e,h,a,b⟩:=adL hc
 have:=hb.1
 rw[e,aaQ lf (by omega) _ _ _ (by omega) (by omega) (by omega) (by omega),h]
include hd
theorem cboth:dQ.f lf (cc c) (cc d)=some (0,()):=by
 rw[dQ.f,ccheck lf hb hc,bdS]
 simp only[bne_self_eq_false,brF]
 rw[ccheck lf hb hd,bdS]
theorem bounds:(-K < c.m∧c.m < K)∧(-K < c.r∧c.r < K)∧(-K < d.m∧d.m < K)∧(-K < d.r∧d.r < K)∧(-K < c.r-d.r∧c.r-d.r < K)∧(-K < c.r+d.r∧c.r+d.r < K)∧(-K < c.m*d.m∧c.m*d.m < K)∧(-K < c.m*d.r∧c.m*d.r < K)∧(-K < d.m*c.r∧d.m*c.r < K)∧(-K < c.r*d.r∧c.r*d.r < K):=by
 have hK:=CC_K
 have hC:=C_gt
 have hCK:=gJ
 have h4:0≤C*C:=Int.mul_nonneg (by omega) (by omega)
 have a1:=hc.m
 have a2:=hc.r
 have a3:=hd.m
 have a4:=hd.r
 have m1:=xI a1 a3
 have m2:=xI a1 a4
 have m3:=xI a3 a2
 have m4:=xI a2 a4
 refine⟨by omega,by omega,by omega,by omega,by omega,by omega,by omega,by omega,by omega,by omega⟩
theorem aeN:iE.f lf (cc c) (cc d)=some (cc (plusC c d),0,()):=by
 obtain⟨b1,b2,b3,b4,b5,b6,b7,b8,b9,b10⟩:=bounds lf hb hc hd
 rw[iE.f,cboth lf hb hc hd,bdS]
 unfold plusC
 cases ec:c.em with
 | true=>rw[ou ec];simp only[bne_self_eq_false,brF,brT,if_true,aX.f,bdS];rfl
 | false=>cases ed:d.em with
  | true=>rw[iw ec,ou ed];simp only[bne_self_eq_false,brF,brT,if_true,if_false,Bool.false_eq_true,aX.f,bdS];rfl
  | false =>
   rw[iw ec,iw ed]
   simp only[bne_self_eq_false,brF,if_false,Bool.false_eq_true,lY.f,uz lf hb b1 b3,afd lf hb b2 b4 b6,bdS,rG lf hb.1 (uG b1 b3) b6]
theorem ae2:iJ.f lf (cc c) (cc d)=some (cc (minusC c d),0,()):=by
 obtain⟨b1,b2,b3,b4,b5,b6,b7,b8,b9,b10⟩:=bounds lf hb hc hd
 rw[iJ.f,cboth lf hb hc hd,bdS]
 unfold minusC
 cases ec:c.em with
 | true=>rw[ou ec];simp only[bne_self_eq_false,brF,brT,if_true,aX.f,bdS];rfl
 | false=>cases ed:d.em with
  | true=>rw[iw ec,ou ed];simp only[bne_self_eq_false,brF,brT,if_true,if_false,Bool.false_eq_true,aX.f,bdS];rfl
  | false =>
   rw[iw ec,iw ed]
   simp only[bne_self_eq_false,brF,if_false,Bool.false_eq_true,mg.f,uz lf hb b1 b3,aam lf hb b2 b4 b5,bdS,rG lf hb.1 (uG b1 b3) b5]
theorem aeS:iF.f lf (cc c) (cc d)=some (cc (timesC c d),0,()):=by
 obtain⟨b1,b2,b3,b4,b5,b6,b7,b8,b9,b10⟩:=bounds lf hb hc hd
 rw[iF.f,cboth lf hb hc hd,bdS]
 unfold timesC
 cases ec:c.em with
 | true=>rw[ou ec];simp only[bne_self_eq_false,brF,brT,if_true,aX.f,bdS];rfl
 | false=>cases ed:d.em with
  | true=>rw[iw ec,ou ed];simp only[bne_self_eq_false,brF,brT,if_true,if_false,Bool.false_eq_true,aX.f,bdS];rfl
  | false =>
   rw[iw ec,iw ed]
   have g1:=uG b8 b9
   simp only[bne_self_eq_false,brF,if_false,Bool.false_eq_true,lZ.f,yj lf hb b1 b3 b7,yj lf hb b1 b4 b8,yj lf hb b3 b2 b9,yj lf hb b2 b4 b10,bdS,uz lf hb b8 b9,uz lf hb b7 g1,rG lf hb.1 (uG b7 g1) b10]
end
end Go.N
namespace Go.N
open Go Go.Q Go.Rx
def zeroC(c:Cg):Bool:=decide (c.m=0∧c.r=0)
theorem zero_eq{c:Cg}(h:c.em=false):(((cc c).1==false)&&(((cc c).2.1==(⟨#[48]⟩:ByteArray))&&(((cc c).2.2.1==(⟨#[48]⟩:ByteArray))&&true)))=zeroC c:=by
 rw[iw h]
 simp only[aaj,i0,BEq.rfl,Bool.true_and,Bool.and_true,zeroC]
 have e:∀ z:Int,decide (bs (Lib.itoa z)=bs (Lib.itoa 0))=decide (z=0):=fun z=>by
  simp only[decide_eq_decide]
  exact⟨fun x=>mQ (uy x),fun x=>by rw[x]⟩
 rw[e,e]
 by_cases h1:c.m=0<;>by_cases h2:c.r=0<;>simp[h1,h2]
def quoC(c d:Cg):Cg:=if c.em=true then Ec else if d.em=true then Ec else if zeroC d=true then Ec else if d.m≠0 then(if zeroC c=true then c else topC)else if dvd' d.r c.m=true then clsF (c.m.fdiv d.r) (c.r.fdiv d.r)else topC
section
variable (lf:Nat)(hb:Big lf){c d:Cg}(hc:WfC c)(hd:WfC d)
include hb hc hd
theorem aeV:iG.f lf (cc c) (cc d)=some (cc (quoC c d),0,()):=by
 obtain⟨b1,b2,b3,b4,b5,b6,b7,b8,b9,b10⟩:=bounds lf hb hc hd
 have hlf:=hb.1
 rw[iG.f,cboth lf hb hc hd,bdS]
 unfold quoC
 cases ec:c.em with
 | true=>rw[ou ec];simp only[bne_self_eq_false,brF,brT,if_true,aX.f,bdS];rfl
 | false=>cases ed:d.em with
  | true=>rw[iw ec,ou ed];simp only[bne_self_eq_false,brF,brT,if_true,if_false,Bool.false_eq_true,aX.f,bdS];rfl
  | false =>
   have z1:=zero_eq ec
   have z2:=zero_eq ed
   have e1:(cc c).1=false:=by rw[iw ec]
   have e2:(cc d).1=false:=by rw[iw ed]
   simp only[bne_self_eq_false,brF,e1,e2,if_false,Bool.false_eq_true]
   rw[nG.f,gG.f]
   simp only[bdS,z1,z2,aX.f,fP.f,adB]
   cases zd:zeroC d with
   | true=>simp only[brT,if_true,bdS];rfl
   | false =>
    have k1:(cc d).2.1=bs (Lib.itoa d.m):=by rw[iw ed]
    have k2:(cc d).2.2.1=bs (Lib.itoa d.r):=by rw[iw ed]
    have k3:(cc c).2.1=bs (Lib.itoa c.m):=by rw[iw ec]
    have k4:(cc c).2.2.1=bs (Lib.itoa c.r):=by rw[iw ec]
    simp only[brF,if_false,Bool.false_eq_true,k1,k2,k3,k4,beq0]
    by_cases h:d.m=0
    ·rw[decide_eq_true h,Bool.not_true,brF,if_neg (by simpa using h),xA lf hlf b4 b1,bdS]
     have r0:d.r≠0:=fun x=>by unfold zeroC at zd;simp[h,x]at zd
     simp only
     cases dv:dvd' d.r c.m with
     | true =>
      have q1: -K < c.m.fdiv d.r∧c.m.fdiv d.r < K:=by have:=tJ (x:=c.m) r0;have:=hc.m;have:=CC_K;have:=C_gt;have:=Int.mul_nonneg (show 0≤C by omega) (show 0≤C by omega);omega
      have q2: -K < c.r.fdiv d.r∧c.r.fdiv d.r < K:=by have:=tJ (x:=c.r) r0;have:=hc.r;have:=CC_K;have:=C_gt;have:=Int.mul_nonneg (show 0≤C by omega) (show 0≤C by omega);omega
      simp only[brT,if_true,qg lf hlf b1 b4 r0,qg lf hlf b2 b4 r0,bdS,fB.f,rG lf hlf q1 q2]
     | false=>simp only[brF,if_false,Bool.false_eq_true,bdS]
    ·rw[decide_eq_false h,Bool.not_false,brT,if_pos h]
     cases zc:zeroC c with
     | true=>simp only[brT,if_true,bdS]
     | false=>simp only[brF,if_false,Bool.false_eq_true,bdS]
end
end Go.N
namespace Go.N
open Go Go.Q Go.Rx
def restC(c d:Cg):Cg:=if c.em=true then Ec else if d.em=true then Ec else if zeroC d=true then Ec else if d.m=0∧dvd' d.r c.m=true then clsF 0 (c.r.fmod d.r)else clsF (Int.gcd c.m (Int.gcd d.m d.r)) c.r
section
variable (lf:Nat)(hb:Big lf){c d:Cg}(hc:WfC c)(hd:WfC d)
include hb hc hd
theorem aeY:iH.f lf (cc c) (cc d)=some (cc (restC c d),0,()):=by
 obtain⟨b1,b2,b3,b4,b5,b6,b7,b8,b9,b10⟩:=bounds lf hb hc hd
 have hlf:=hb.1
 have g1:=uG b3 b4
 have g2:=uG b1 g1
 rw[iH.f,cboth lf hb hc hd,bdS]
 unfold restC
 cases ec:c.em with
 | true=>rw[ou ec];simp only[bne_self_eq_false,brF,brT,if_true,aX.f,bdS];rfl
 | false=>cases ed:d.em with
  | true=>rw[iw ec,ou ed];simp only[bne_self_eq_false,brF,brT,if_true,if_false,Bool.false_eq_true,aX.f,bdS];rfl
  | false =>
   have z2:=zero_eq ed
   have e1:(cc c).1=false:=by rw[iw ec]
   have e2:(cc d).1=false:=by rw[iw ed]
   simp only[bne_self_eq_false,brF,e1,e2,if_false,Bool.false_eq_true]
   rw[mX.f,gG.f]
   simp only[bdS,z2,aX.f]
   cases zd:zeroC d with
   | true=>simp only[brT,if_true,bdS];rfl
   | false =>
    have k1:(cc d).2.1=bs (Lib.itoa d.m):=by rw[iw ed]
    have k2:(cc d).2.2.1=bs (Lib.itoa d.r):=by rw[iw ed]
    have k3:(cc c).2.1=bs (Lib.itoa c.m):=by rw[iw ec]
    have k4:(cc c).2.2.1=bs (Lib.itoa c.r):=by rw[iw ec]
    simp only[brF,if_false,Bool.false_eq_true,k1,k2,k3,k4,beq0,uz lf hb b3 b4,uz lf hb b1 g1,bdS,rG lf hlf g2 b2]
    by_cases h:d.m=0
    ·rw[decide_eq_true h,brT,xA lf hlf b4 b1,bdS]
     have r0:d.r≠0:=fun x=>by unfold zeroC at zd;simp[h,x]at zd
     have k0: -K < (0:Int)∧(0:Int) < K:=by have:=K_gt;omega
     simp only
     cases dv:dvd' d.r c.m with
     | true =>
      rw[if_pos ⟨h,rfl⟩]
      simp only[brT,jr lf hlf b2 b4 r0,bdS,fB.f,i0,rG lf hlf k0 (sQ b2 b4 r0)]
     | false=>rw[if_neg (by simp)];simp only[brF,bdS]
    ·rw[decide_eq_false h,brF,if_neg (fun x=>h x.1),bdS]
end
end Go.N
namespace Go.N
open Go Go.Q Go.Rx
theorem qB{m r:Int}:WfC (clsF m r):=by
 have hC:=C_gt
 unfold clsF
 by_cases h:sz (m.natAbs:Int) > 100∨sz (if m=0 then r else r.fmod (m.natAbs:Int)) > 100
 ·rw[if_pos h]
  exact⟨by simp only[topC];omega,by simp only[topC];omega,by simp[topC],fun _=>by simp[topC]⟩
 ·rw[if_neg h]
  have h1:=(sz_C (m.natAbs:Int)).1 (by omega)
  have h2:=(sz_C (if m=0 then r else r.fmod (m.natAbs:Int))).1 (by omega)
  refine⟨h1,h2,by simp only;omega,fun x=>?_⟩
  simp only at x⊢
  have h0:m≠0:=by omega
  rw[if_neg h0]
  exact⟨Int.fmod_nonneg_of_pos r (by omega),Int.fmod_lt_of_pos r (by omega)⟩
theorem pG:WfC Ec:=by
 have hC:=C_gt
 exact⟨by simp only[Ec];omega,by simp only[Ec];omega,by simp[Ec],fun x=>absurd rfl x⟩
theorem abB:WfC topC:=by
 have hC:=C_gt
 exact⟨by simp only[topC];omega,by simp only[topC];omega,by simp[topC],fun _=>by simp[topC]⟩
theorem ac6{c d:Cg}:WfC (plusC c d):=by unfold plusC;split;exact pG;split;exact pG;exact qB
theorem abU{c d:Cg}:WfC (minusC c d):=by unfold minusC;split;exact pG;split;exact pG;exact qB
theorem ab7{c d:Cg}:WfC (timesC c d):=by unfold timesC;split;exact pG;split;exact pG;exact qB
theorem aes{c d:Cg}(hc:WfC c):WfC (quoC c d):=by
 unfold quoC;split;exact pG;split;exact pG;split;exact pG;split
 ·split;exact hc;exact abB
 ·split;exact qB;exact abB
theorem ade{c d:Cg}:WfC (restC c d):=by unfold restC;split;exact pG;split;exact pG;split;exact pG;split;exact qB;exact qB
def inC(c:Cg)(a:Int):Bool:=!c.em&&dvd' c.m (a-c.r)
section
variable (lf:Nat)(hb:Big lf){c d:Cg}(hc:WfC c)(hd:WfC d)
include hb hc hd
end
theorem afr{c:Cg}(hc:WfC c)(h:c.em=false)(a:Int):inC c a=if c.m=0 then decide (a=c.r)else decide (a.fmod c.m=c.r):=by
 unfold inC dvd'
 rw[h,Bool.not_false,Bool.true_and]
 by_cases z:c.m=0
 ·rw[if_pos z,if_pos z];simp only[decide_eq_decide];omega
 ·rw[if_neg z,if_neg z]
  have r:=hc.rng z
  have p:0 < c.m:=by have:=hc.pos;omega
  simp only[decide_eq_decide]
  have m1:=Int.mul_fdiv_add_fmod a c.m
  have m2:=Int.mul_fdiv_add_fmod (a-c.r) c.m
  constructor
  ·intro e
   exact((gZ (x:=a) (y:=c.m) (q:=(a-c.r).fdiv c.m) (r:=c.r) (by omega) (.inl r)).2).symm
  ·intro e
   exact((gZ (x:=a-c.r) (y:=c.m) (q:=a.fdiv c.m) (r:=0) (by omega) (.inl (by omega))).2).symm
section
variable (lf:Nat)(hb:Big lf){c:Cg}(hc:WfC c)
include hb hc
theorem rM{a:Int}(ha: -K < a∧a < K):bG.f lf (cc c) (bs (Lib.itoa a))=some (inC c a,0,()):=by
 have hlf:=hb.1
 have hl:=lN ha
 have bm:=CK hc.m
 rw[bG.f,ccheck lf hb hc,bdS]
 simp only[bne_self_eq_false,brF,nD lf (Lib.itoa a) (by omega),chkK ha,bdS]
 cases ec:c.em with
 | true=>rw[ou ec];simp only[brT,inC,ec,Bool.not_true,Bool.false_and]
 | false =>
  rw[afr hc ec,iw ec]
  simp only[brF,beq0]
  have bq:∀ x y:Int,((bs (Lib.itoa x)).toList==(bs (Lib.itoa y)).toList)=decide (x=y):=fun x y=>by
   rw[kY];simp only[decide_eq_decide];exact⟨fun e=>mQ e,fun e=>by rw[e]⟩
  by_cases z:c.m=0
  ·rw[decide_eq_true z,brT,if_pos z,bq]
  ·rw[decide_eq_false z,brF,if_neg z,jr lf hlf ha bm z,bdS,fB.f,bdS,bq]
theorem in_r{a:Int}(ha: -Dd < a∧a < Dd):kW.f lf (cc c) (bs (Lib.itoa a))=some (inC c a,()):=by
 have h3:200000≤lf:=by have:=hb.1;omega
 have hD:=DD_K
 have hC:=C_gt
 have hCD:=fV
 have h4:0≤Dd*Dd:=Int.mul_nonneg (by omega) (by omega)
 have bm:=hc.m
 have br':=hc.r
 rw[kW.f]
 unfold inC
 cases ec:c.em with
 | true=>rw[ou ec];simp only[Bool.not_true,brF,Bool.false_and]
 | false =>
  rw[iw ec]
  have s1:=szK (CK bm)
  have s2:=szK (z:=a-c.r) (by omega)
  simp only[Bool.not_false,brT,Bool.true_and,diffI lf h3 (x:=a) (y:=c.r) (by omega) (by omega),bdS,zH lf h3 (m:=c.m) (a:=a-c.r) (by omega) (by omega)]
end
end Go.N
namespace Go.N
open Go Go.Q Go.Rx
def negC(c:Cg):Cg:=if c.em=true then Ec else clsF c.m (-c.r)
theorem aa9{c:Cg}:WfC (negC c):=by unfold negC;split;exact pG;exact qB
section
variable (lf:Nat)(hb:Big lf){c:Cg}(hc:WfC c)
include hb hc
theorem aax:iP.f lf (cc c)=some (cc (negC c),()):=by
 have h3:200000≤lf:=by have:=hb.1;omega
 have bm:=CK hc.m
 have br':=CK hc.r
 rw[iP.f]
 unfold negC
 cases ec:c.em with
 | true=>rw[ou ec];simp only[brT,if_true];rfl
 | false =>
  rw[iw ec]
  simp only[brF,if_false,Bool.false_eq_true,rf lf br',bdS,xh lf h3 bm (r:= -c.r) (by omega)]
end
end Go.N
namespace Go.N
open Go Go.Q Go.Rx
def aboveC(c:Cg)(a:Int):Option Int:=if c.m=0 then(if c.r < a then none else some c.r)else some (a+(c.r-a).fmod c.m)
theorem tK{x y m:Int}(h:0 < m):(x.fmod m-y.fmod m).fmod m=(x-y).fmod m:=by
 rw[Int.fmod_eq_emod_of_nonneg _ (Int.le_of_lt h),Int.fmod_eq_emod_of_nonneg _ (Int.le_of_lt h),Int.fmod_eq_emod_of_nonneg _ (Int.le_of_lt h),Int.fmod_eq_emod_of_nonneg _ (Int.le_of_lt h),←Int.sub_emod]
section
variable (lf:Nat)(hb:Big lf){c:Cg}(hc:WfC c)(he:c.em=false){a:Int}(ha: -Dd < a∧a < Dd)
include hb hc he ha
theorem aeh:kS.f lf (cc c) (bs (Lib.itoa a))=some (match aboveC c a with
  | none=>(bs [],6,())
  | some v=>(bs (Lib.itoa v),0,())):=by
 have hlf:=hb.1
 have hD:=DD_K
 have hC:=C_gt
 have hCD:=fV
 have h4:0≤Dd*Dd:=Int.mul_nonneg (by omega) (by omega)
 have ka: -K < a∧a < K:=by omega
 have hl:=lN ka
 have m1:=hc.m
 have r1:=hc.r
 have bm:=CK hc.m
 have br':=CK hc.r
 rw[kS.f,ccheck lf hb hc,bdS]
 simp only[bne_self_eq_false,brF,nD lf (Lib.itoa a) (by omega),chkK ka,bdS]
 rw[iw he]
 simp only[brF,beq0]
 unfold aboveC
 by_cases z:c.m=0
 ·rw[decide_eq_true z,Bool.not_true,brF,if_pos z,wo lf _ _ (chkK br') (chkK ka) (by omega),dm,dm,bdS]
  simp only
  by_cases h:c.r < a
  ·rw[decide_eq_true h,brT,if_pos h]
  ·rw[decide_eq_false h,brF,if_neg h]
 ·have p:0 < c.m:=by have:=hc.pos;omega
  have k1:=sQ br' bm z
  have k2:=sQ ka bm z
  have g1:=Int.fmod_nonneg_of_pos c.r p
  have g2:=Int.fmod_lt_of_pos c.r p
  have g3:=Int.fmod_nonneg_of_pos a p
  have g4:=Int.fmod_lt_of_pos a p
  have k3: -K < c.r.fmod c.m-a.fmod c.m∧c.r.fmod c.m-a.fmod c.m < K:=by omega
  have g5:=Int.fmod_nonneg_of_pos (c.r-a) p
  have g6:=Int.fmod_lt_of_pos (c.r-a) p
  rw[decide_eq_false z,Bool.not_false,brT,if_neg z,iK.f,jr lf hlf br' bm z,bdS]
  simp only[bne_self_eq_false,brF,jr lf hlf ka bm z,bdS,aam lf hb k1 k2 k3,jr lf hlf k3 bm z,tK p,oN lf (by omega) ka (y:=(c.r-a).fmod c.m) (by omega) (by omega)]
theorem aaL:gm.f lf (cc c) (bs (Lib.itoa a))=some (match aboveC c a with
  | none=>(bs [],false,())
  | some v=>(bs (Lib.itoa v),true,())):=by
 have h3:200000≤lf:=by have:=hb.1;omega
 have hD:=DD_K
 have hC:=C_gt
 have hCD:=fV
 have h4:0≤Dd*Dd:=Int.mul_nonneg (by omega) (by omega)
 have ka: -K < a∧a < K:=by omega
 have m1:=hc.m
 have r1:=hc.r
 have bm:=CK hc.m
 have br':=CK hc.r
 rw[gm.f,iw he]
 simp only[beq0]
 unfold aboveC
 by_cases z:c.m=0
 ·rw[decide_eq_true z,brT,if_pos z,lessI lf h3 br' ka,bdS]
  simp only
  by_cases h:c.r < a
  ·rw[decide_eq_true h,brT,if_pos h]
  ·rw[decide_eq_false h,brF,if_neg h]
 ·have p:0 < c.m:=by have:=hc.pos;omega
  have g5:=Int.fmod_nonneg_of_pos (c.r-a) p
  have g6:=Int.fmod_lt_of_pos (c.r-a) p
  have kd: -K < c.r-a∧c.r-a < K:=by omega
  have s1:=szK kd
  have s2:=szK bm
  simp only[decide_eq_false z,brF,if_neg z,diffI lf h3 br' ka,bdS,wF lf h3 (x:=c.r-a) (y:=c.m) (by omega) (by omega) z,sumI lf h3 ka (y:=(c.r-a).fmod c.m) (by omega)]
end
end Go.N
namespace Go.N
open Go Go.Q Go.Rx
def belowC(c:Cg)(a:Int):Option Int:=if c.m=0 then(if a < c.r then none else some c.r)else some (a-(a-c.r).fmod c.m)
theorem yh{m r:Int}(h0:0≤m)(hm: -C < m∧m < C)(hr: -C < r∧r < C):clsF m r=⟨false,m,if m=0 then r else r.fmod m⟩:=by
 have e:(m.natAbs:Int)=m:=by omega
 unfold clsF
 rw[e]
 have s1:=(sz_C m).2 hm
 have s2:sz (if m=0 then r else r.fmod m)≤100:=by
  apply (sz_C _).2
  split
  ·exact hr
  ·have a:=Int.fmod_nonneg_of_pos r (show 0 < m by omega)
   have b:=Int.fmod_lt_of_pos r (show 0 < m by omega)
   omega
 rw[if_neg (by omega)]
theorem abK{c:Cg}(hc:WfC c)(he:c.em=false)(a:Int):belowC c a=(aboveC (negC c) (-a)).map fun v=> -v:=by
 have e:negC c=⟨false,c.m,if c.m=0 then -c.r else(-c.r).fmod c.m⟩:=by
  unfold negC
  rw[if_neg (by simp[he])]
  exact yh hc.pos hc.m (by have:=hc.r;omega)
 rw[e]
 unfold belowC aboveC
 simp only
 by_cases z:c.m=0
 ·simp only[z,if_true]
  by_cases h:a < c.r
  ·rw[if_pos h,if_pos (by omega)];rfl
  ·rw[if_neg h,if_neg (by omega)];simp
 ·have p:0 < c.m:=by have:=hc.pos;omega
  simp only[if_neg z,Option.map_some]
  have k:((-c.r).fmod c.m - -a).fmod c.m=(a-c.r).fmod c.m:=by
   have h1:=tK (x:=(-c.r).fmod c.m) (y:= -a) p
   have h2:=tK (x:= -c.r) (y:= -a) p
   have h3:((-c.r).fmod c.m).fmod c.m=(-c.r).fmod c.m:=by
    rw[Int.fmod_eq_emod_of_nonneg _ (Int.le_of_lt p),Int.fmod_eq_emod_of_nonneg _ (Int.le_of_lt p),Int.emod_emod]
   rw[←h1,h3,h2]
   congr 1;omega
  rw[k]
  congr 1;omega
section
variable (lf:Nat)(hb:Big lf){c:Cg}(hc:WfC c)(he:c.em=false){a:Int}(ha: -Dd < a∧a < Dd)
include hb hc he ha
theorem adW:iU.f lf (cc c) (bs (Lib.itoa a))=some (match belowC c a with
  | none=>(bs [],false,())
  | some v=>(bs (Lib.itoa v),true,())):=by
 have hD:=DD_K
 have hC:=C_gt
 have hCD:=fV
 have h4:0≤Dd*Dd:=Int.mul_nonneg (by omega) (by omega)
 have ne:(negC c).em=false:=by
  have:negC c=⟨false,c.m,if c.m=0 then -c.r else(-c.r).fmod c.m⟩:=by
   unfold negC
   rw[if_neg (by simp[he])]
   exact yh hc.pos hc.m (by have:=hc.r;omega)
  rw[this]
 have ab:=aaL lf hb aa9 ne (a:= -a) (by omega)
 rw[iU.f,aax lf hb hc,bdS,rf lf (z:=a) (by omega),bdS,ab,bdS,abK hc he]
 cases h:aboveC (negC c) (-a)with
 | none=>simp only[Bool.not_false,brT,Option.map_none]
 | some v =>
  have kv: -K < v∧v < K:=by
   unfold aboveC at h
   have w:=aa9 (c:=c)
   have m1:=w.m
   have r1:=w.r
   split at h
   ·split at h
    ·cases h
    ·injection h with h;omega
   ·rename_i z
    have p:0 < (negC c).m:=by have:=w.pos;omega
    have g5:=Int.fmod_nonneg_of_pos ((negC c).r - -a) p
    have g6:=Int.fmod_lt_of_pos ((negC c).r - -a) p
    injection h with h
    omega
  simp only[Bool.not_true,brF,Option.map_some,rf lf kv,bdS]
theorem aas:iR.f lf (cc c) (bs (Lib.itoa a))=some (match belowC c a with
  | none=>(bs [],6,())
  | some v=>(bs (Lib.itoa v),0,())):=by
 have hlf:=hb.1
 have hD:=DD_K
 have hC:=C_gt
 have hCD:=fV
 have h4:0≤Dd*Dd:=Int.mul_nonneg (by omega) (by omega)
 have ka: -K < a∧a < K:=by omega
 have hl:=lN ka
 have m1:=hc.m
 have r1:=hc.r
 have bm:=CK hc.m
 have br':=CK hc.r
 rw[iR.f,ccheck lf hb hc,bdS]
 simp only[bne_self_eq_false,brF,nD lf (Lib.itoa a) (by omega),chkK ka,bdS]
 rw[iw he]
 simp only[brF,beq0]
 unfold belowC
 by_cases z:c.m=0
 ·rw[decide_eq_true z,Bool.not_true,brF,if_pos z,wo lf _ _ (chkK ka) (chkK br') (by omega),dm,dm,bdS]
  simp only
  by_cases h:a < c.r
  ·rw[decide_eq_true h,brT,if_pos h]
  ·rw[decide_eq_false h,brF,if_neg h]
 ·have p:0 < c.m:=by have:=hc.pos;omega
  have k1:=sQ br' bm z
  have k2:=sQ ka bm z
  have g1:=Int.fmod_nonneg_of_pos c.r p
  have g2:=Int.fmod_lt_of_pos c.r p
  have g3:=Int.fmod_nonneg_of_pos a p
  have g4:=Int.fmod_lt_of_pos a p
  have k3: -K < a.fmod c.m-c.r.fmod c.m∧a.fmod c.m-c.r.fmod c.m < K:=by omega
  have g5:=Int.fmod_nonneg_of_pos (a-c.r) p
  have g6:=Int.fmod_lt_of_pos (a-c.r) p
  have kf: -K < (a-c.r).fmod c.m∧(a-c.r).fmod c.m < K:=by omega
  have kd: -K < a-(a-c.r).fmod c.m∧a-(a-c.r).fmod c.m < K:=by omega
  have sd:=(sz_K _).2 kd
  have sb:=abz lf _ _ (chkK ka) (chkK kf) (by omega)
  rw[dm,dm,oJ,if_neg (by omega)]at sb
  rw[decide_eq_false z,Bool.not_false,brT,if_neg z,iK.f,jr lf hlf ka bm z,bdS]
  simp only[bne_self_eq_false,brF,jr lf hlf br' bm z,bdS,aam lf hb k2 k1 k3,jr lf hlf k3 bm z,tK p,sb]
end
end Go.N
namespace Go.N
open Go Go.Q Go.Rx
end Go.N
namespace Go.N
open Go Go.Q Go.Rx
end Go.N
namespace Go.N
open Go Go.Q Go.Rx
abbrev Nb:Type:=Bool×(List Int×Unit)
theorem RN.natAbs{p:Nb}{z:Int}{k:Nat}(h:RN p z k):lv G p.2.1=(z.natAbs:Int):=by
 have:=h.val
 have:=dh (B:=G) (by decide) h.dg
 split at*<;> omega
theorem RN.nil{p:Nb}{k:Nat}(h:RN p 0 k):p.2.1=[]:=(sN (B:=G) (by decide) h.dg h.tr).1 (by rw[h.natAbs];rfl)
theorem RN.ne{p:Nb}{z:Int}{k:Nat}(h:RN p z k)(h0:z≠0):0 < p.2.1.length:=by
 refine List.length_pos_iff.2 fun e=>h0 ?_
 have:=h.natAbs
 rw[e]at this
 simp only[lv]at this
 omega
section
variable (lf:Nat)(hlf:2000000000≤lf){a b:Int}(hb:b < C)
include hlf hb
end
end Go.N
namespace Go.N
open Go Go.Q Go.Rx
structure Vl where
 a:A
 c:Cg
deriving DecidableEq
abbrev VV:Type:=IV×(IV×Unit)
def vc(v:Vl):VV:=(ac v.a,cc v.c,())
def Ev:Vl:=⟨E0,Ec⟩
def onev(z:Int):Vl:=⟨⟨false,some z,some z⟩,⟨false,0,z⟩⟩
def loC(c:Cg)(a:Int):Int:=a+(c.r-a).fmod c.m
def hiC(c:Cg)(a:Int):Int:=a-(a-c.r).fmod c.m
def fin3(x y:Option Int)(c:Cg):Vl:=match x,y with
 | some x,some y=>if y < x then Ev else if x=y then onev x else⟨⟨false,clip x,clip y⟩,c⟩
 | x,y=>⟨⟨false,x.bind clip,y.bind clip⟩,c⟩
def red(a:A)(c:Cg):Vl:=if a.em=true then Ev else if c.em=true then Ev else if c.m=0 then(if inS (ofA a) c.r=true then onev c.r else Ev)else fin3 (a.lo.map (loC c)) (a.hi.map (hiC c)) c
def inV(v:Vl)(z:Int):Bool:=inS (ofA v.a) z&&inC v.c z
structure WfV(v:Vl):Prop where
 a:Wf v.a
 c:WfC v.c
 red:red v.a v.c=v
theorem lo_m{c:Cg}(p:0 < c.m)(a:Int):a≤loC c a∧loC c a < a+c.m:=by
 have:=Int.fmod_nonneg_of_pos (c.r-a) p
 have:=Int.fmod_lt_of_pos (c.r-a) p
 unfold loC;omega
theorem hi_m{c:Cg}(p:0 < c.m)(a:Int):hiC c a≤a∧a-c.m < hiC c a:=by
 have:=Int.fmod_nonneg_of_pos (a-c.r) p
 have:=Int.fmod_lt_of_pos (a-c.r) p
 unfold hiC;omega
theorem acr{m a:Int}(p:0 < m):a.fmod m=0↔m∣a:=by
 rw[Int.fmod_eq_emod_of_nonneg _ (Int.le_of_lt p)]
 exact⟨Int.dvd_of_emod_eq_zero,Int.emod_eq_zero_of_dvd⟩
theorem vX{m:Int}(p:0 < m)(a:Int):m∣a-a.fmod m:=by
 rw[Int.fmod_eq_emod_of_nonneg _ (Int.le_of_lt p)]
 exact Int.dvd_self_sub_emod
theorem oZ{c:Cg}(he:c.em=false)(hp:0≤c.m){z:Int}:inC c z=true↔c.m∣z-c.r:=by
 unfold inC dvd'
 rw[he]
 by_cases h:c.m=0
 ·rw[if_pos h,h];simp
 ·rw[if_neg h]
  simp only[Bool.not_false,Bool.true_and,decide_eq_true_eq]
  exact acr (by omega)
theorem aa6{c:Cg}(p:0 < c.m)(a:Int):c.m∣loC c a-c.r:=by
 obtain⟨k,hk⟩:=vX p (c.r-a)
 exact⟨-k,by unfold loC;rw[Int.mul_neg,←hk];omega⟩
theorem aa0{c:Cg}(p:0 < c.m)(a:Int):c.m∣hiC c a-c.r:=by
 obtain⟨k,hk⟩:=vX p (a-c.r)
 exact⟨k,by unfold hiC;rw[←hk];omega⟩
theorem acP{c:Cg}(p:0 < c.m){a:Int}(h:c.m∣a-c.r):loC c a=a:=by
 have:(c.r-a).fmod c.m=0:=(acr p).2 (by have:=Int.dvd_neg.2 h;rwa [Int.neg_sub]at this)
 unfold loC;omega
theorem acz{c:Cg}(p:0 < c.m){a:Int}(h:c.m∣a-c.r):hiC c a=a:=by
 have:(a-c.r).fmod c.m=0:=(acr p).2 h
 unfold hiC;omega
theorem acQ{c:Cg}(p:0 < c.m){a z:Int}(h:c.m∣z-c.r)(hz:a≤z):loC c a≤z:=by
 have l:=aa6 p a
 have b:=lo_m p a
 obtain⟨k,hk⟩:=Int.dvd_sub h l
 have: -1 < k:=by
  by_cases q: -1 < k
  ·exact q
  ·have:=Int.mul_le_mul_of_nonneg_left (show k≤-1 by omega) (Int.le_of_lt p)
   omega
 have:=Int.mul_nonneg (Int.le_of_lt p) (show 0≤k by omega)
 omega
theorem ad6{c:Cg}(p:0 < c.m){a z:Int}(h:c.m∣z-c.r)(hz:z≤a):z≤hiC c a:=by
 have l:=aa0 p a
 have b:=hi_m p a
 obtain⟨k,hk⟩:=Int.dvd_sub h l
 have:k < 1:=by
  by_cases q:k < 1
  ·exact q
  ·have:=Int.mul_le_mul_of_nonneg_left (show 1≤k by omega) (Int.le_of_lt p)
   omega
 have:=Int.mul_nonneg (Int.le_of_lt p) (show 0≤-k by omega)
 rw[Int.mul_neg]at this
 omega
theorem pV{z:Int}(h: -C < z∧z < C):clip z=some z:=if_pos h
theorem abL{z:Int}(h:¬(-C < z∧z < C)):clip z=none:=if_neg h
theorem Wf.inS{a:A}(h:Wf a)(he:a.em=false){z:Int}(hz: -K < z∧z < K):inS (ofA a) z=true↔(∀ l,a.lo=some l→l≤z)∧∀ u,a.hi=some u→z≤u:=by
 unfold Go.N.inS ofA
 rw[he,if_neg (by simp)]
 simp only[Bool.and_eq_true,decide_eq_true_eq]
 cases a.lo with
 | none=>cases a.hi with
  | none=>simp[lox,hix,key];omega
  | some u=>simp[lox,hix,key];omega
 | some l=>cases a.hi with
  | none=>simp[lox,hix,key];omega
  | some u=>simp[lox,hix,key]
theorem yR{z:Int}(hz: -C < z∧z < C):Wf (onev z).a∧WfC (onev z).c:=by
 have hC:=C_gt
 exact⟨⟨fun h=>by simp[onev]at h,hz,hz,Int.le_refl _⟩,⟨by simp only[onev];omega,hz,by simp[onev],fun h=>absurd rfl h⟩⟩
theorem aeK:Wf Ev.a∧WfC Ev.c:=⟨afY,pG⟩
theorem ac3{z:Int}(hz: -C < z∧z < C):red (onev z).a (onev z).c=onev z:=by
 have h:inS (ofA (onev z).a) z=true:=by
  unfold inS ofA onev
  simp[lox,hix,key]
 unfold red
 rw[if_neg (by simp[onev]),if_neg (by simp[onev]),if_pos (by rfl)]
 exact if_pos h
theorem ae7:red Ev.a Ev.c=Ev:=if_pos rfl
theorem ac2{z:Int}(hz: -C < z∧z < C):WfV (onev z):=⟨(yR hz).1,(yR hz).2,ac3 hz⟩
theorem Ev_V:WfV Ev:=⟨aeK.1,aeK.2,ae7⟩
theorem afq{c:Cg}(hc:WfC c)(he:c.em=false)(hm:c.m≠0){x y:Option Int}(hx:∀ v,x=some v→c.m∣v-c.r)(hy:∀ v,y=some v→c.m∣v-c.r)(bd:∀ v u,x=some v→y=some u→v=u→-C < v∧v < C):WfV (fin3 x y c):=by
 have p:0 < c.m:=by have:=hc.pos;omega
 have key3:∀ u v:Option Int,(∀ z,u=some z→(-C < z∧z < C)∧c.m∣z-c.r)→(∀ z,v=some z→(-C < z∧z < C)∧c.m∣z-c.r)→(∀ z w,u=some z→v=some w→z < w)→WfV ⟨⟨false,u,v⟩,c⟩:=by
  intro u v hu hv huv
  refine⟨⟨fun h=>by simp at h,?_,?_,?_⟩,hc,?_⟩
  ·cases u with
   | none=>trivial
   | some z=>exact(hu z rfl).1
  ·cases v with
   | none=>trivial
   | some z=>exact(hv z rfl).1
  ·cases u with
   | none=>trivial
   | some z=>cases v with
    | none=>trivial
    | some w=>exact Int.le_of_lt (huv z w rfl rfl)
  ·unfold red
   rw[if_neg (by simp),if_neg (by simp[he]),if_neg hm]
   cases u with
   | none=>cases v with
    | none=>rfl
    | some w =>
     simp only[Option.map,acz p (hv w rfl).2,fin3,Option.bind,pV (hv w rfl).1]
   | some z=>cases v with
    | none=>simp only[Option.map,acP p (hu z rfl).2,fin3,Option.bind,pV (hu z rfl).1]
    | some w =>
     have:=huv z w rfl rfl
     simp only[Option.map,acP p (hu z rfl).2,acz p (hv w rfl).2,fin3,pV (hu z rfl).1,pV (hv w rfl).1]
     rw[if_neg (by omega),if_neg (by omega)]
 have cl:∀ z w,clip z=some w→w=z∧-C < z∧z < C:=by
  intro z w h
  unfold clip at h;split at h
  ·cases h;exact⟨rfl,by assumption⟩
  ·cases h
 cases x with
 | none=>cases y with
  | none=>exact key3 none none (fun z h=>by cases h) (fun z h=>by cases h) (fun z w h=>by cases h)
  | some w=>exact key3 none (clip w) (fun z h=>by cases h) (fun z h=>by obtain⟨rfl,h⟩:=cl _ _ h;exact⟨h,hy _ rfl⟩) (fun z w h=>by cases h)
 | some z=>cases y with
  | none=>exact key3 (clip z) none (fun z h=>by obtain⟨rfl,h⟩:=cl _ _ h;exact⟨h,hx _ rfl⟩) (fun z h=>by cases h) (fun z w _ h=>by cases h)
  | some w =>
   unfold fin3
   simp only
   by_cases h1:w < z
   ·rw[if_pos h1];exact Ev_V
   ·rw[if_neg h1]
    by_cases h2:z=w
    ·rw[if_pos h2];exact ac2 (bd z w rfl rfl h2)
    ·rw[if_neg h2]
     exact key3 (clip z) (clip w) (fun z h=>by obtain⟨rfl,h⟩:=cl _ _ h;exact⟨h,hx _ rfl⟩) (fun z h=>by obtain⟨rfl,h⟩:=cl _ _ h;exact⟨h,hy _ rfl⟩) (fun u v hu hv=>by obtain⟨rfl,_⟩:=cl _ _ hu;obtain⟨rfl,_⟩:=cl _ _ hv;omega)
theorem aeX{a:A}{c:Cg}(ha:Wf a)(hc:WfC c):WfV (red a c):=by
 unfold red
 by_cases e1:a.em=true
 ·rw[if_pos e1];exact Ev_V
 ·by_cases e2:c.em=true
  ·rw[if_neg e1,if_pos e2];exact Ev_V
  ·rw[if_neg e1,if_neg e2]
   by_cases z:c.m=0
   ·rw[if_pos z]
    split
    ·exact ac2 hc.r
    ·exact Ev_V
   ·rw[if_neg z]
    have p:0 < c.m:=by have:=hc.pos;omega
    have e2:c.em=false:=by simpa using e2
    refine afq hc e2 z ?_ ?_ ?_
    ·intro v h
     cases hl:a.lo with
     | none=>rw[hl]at h;cases h
     | some l=>rw[hl]at h;cases h;exact aa6 p l
    ·intro v h
     cases hl:a.hi with
     | none=>rw[hl]at h;cases h
     | some l=>rw[hl]at h;cases h;exact aa0 p l
    ·intro v u h1 h2 h3
     have lk:=ha.lo
     have hk:=ha.hi
     cases hl:a.lo with
     | none=>rw[hl]at h1;cases h1
     | some l =>
      cases hh:a.hi with
      | none=>rw[hh]at h2;cases h2
      | some k =>
       rw[hl]at h1 lk;rw[hh]at h2 hk
       cases h1;cases h2
       have:=lo_m p l
       have:=hi_m p k
       simp only[okb]at lk hk
       omega
theorem afw{a:A}{c:Cg}(ha:Wf a)(hc:WfC c){z:Int}(hz: -K < z∧z < K)(h1:inS (ofA a) z=true)(h2:inC c z=true):inV (red a c) z=true:=by
 have e1:a.em=false:=by rw[←vw ha];exact xB h1
 have e2:c.em=false:=by unfold inC at h2;revert h2;cases c.em<;>simp
 have d:=(oZ e2 hc.pos).1 h2
 unfold red
 rw[if_neg (by simp[e1]),if_neg (by simp[e2])]
 by_cases m0:c.m=0
 ·rw[if_pos m0]
  rw[m0]at d
  have:z=c.r:=by have:=Int.zero_dvd.1 d;omega
  subst this
  rw[if_pos h1]
  unfold inV
  rw[(Wf.inS (yR hc.r).1 rfl hz).2 ⟨fun l h=>by cases h;exact Int.le_refl _,fun l h=>by cases h;exact Int.le_refl _⟩,Bool.true_and]
  exact(oZ rfl (Int.le_refl _)).2 (by simp[onev])
 ·rw[if_neg m0]
  have p:0 < c.m:=by have:=hc.pos;omega
  obtain⟨k1,k2⟩:=(Wf.inS ha e1 hz).1 h1
  have g1:∀ v,a.lo.map (loC c)=some v→v≤z:=by
   intro v h
   cases hl:a.lo with
   | none=>rw[hl]at h;cases h
   | some l=>rw[hl]at h;cases h;exact acQ p d (k1 l hl)
  have g2:∀ v,a.hi.map (hiC c)=some v→z≤v:=by
   intro v h
   cases hl:a.hi with
   | none=>rw[hl]at h;cases h
   | some l=>rw[hl]at h;cases h;exact ad6 p d (k2 l hl)
  have V:=aeX ha hc
  unfold red at V
  rw[if_neg (by simp[e1]),if_neg (by simp[e2]),if_neg m0]at V
  revert V g1 g2
  generalize a.lo.map (loC c)=x
  generalize a.hi.map (hiC c)=y
  intro g1 g2 V
  have nb:∀ (z w:Int),clip z=some w→w=z:=by
   intro z w h
   unfold clip at h;split at h
   ·cases h;rfl
   ·cases h
  have fin:∀ u v:Option Int,Wf ⟨false,u,v⟩→(∀ l,u=some l→l≤z)→(∀ l,v=some l→z≤l)→inV ⟨⟨false,u,v⟩,c⟩ z=true:=by
   intro u v hw hu hv
   unfold inV
   rw[(Wf.inS hw rfl hz).2 ⟨hu,hv⟩,h2];rfl
  cases x with
  | none=>cases y with
   | none=>exact fin _ _ V.a (fun l h=>by cases h) (fun l h=>by cases h)
   | some w=>exact fin _ _ V.a (fun l h=>by cases h) (fun l h=>by rw[nb _ _ h];exact g2 _ rfl)
  | some v=>cases y with
   | none=>exact fin _ _ V.a (fun l h=>by rw[nb _ _ h];exact g1 _ rfl) (fun l h=>by cases h)
   | some w =>
    have:=g1 _ rfl
    have:=g2 _ rfl
    unfold fin3 at V⊢
    simp only at V⊢
    rw[if_neg (by omega)]at V⊢
    by_cases h3:v=w
    ·rw[if_pos h3]at V⊢
     obtain rfl:z=v:=by omega
     unfold inV
     rw[(Wf.inS V.a rfl hz).2 ⟨fun l h=>by cases h;exact Int.le_refl _,fun l h=>by cases h;exact Int.le_refl _⟩,Bool.true_and]
     exact(oZ rfl (Int.le_refl _)).2 (by simp[onev])
    ·rw[if_neg h3]at V⊢
     exact fin _ _ V.a (fun l h=>by rw[nb _ _ h];exact g1 _ rfl) (fun l h=>by rw[nb _ _ h];exact g2 _ rfl)
end Go.N
namespace Go.N
open Go Go.Q Go.Rx
theorem oW{c:Cg}{z:Int}(h:inC c z=true):c.em=false:=by unfold inC at h;revert h;cases c.em<;>simp
theorem nX{c:Cg}(hc:WfC c){z:Int}(h:inC c z=true):c.m∣z-c.r:=(oZ (oW h) hc.pos).1 h
theorem aat(z:Int):inC topC z=true:=(oZ rfl (by decide)).2 (Int.one_dvd _)
theorem adX(m r:Int):clsF m r=topC∨clsF m r=⟨false,(m.natAbs:Int),if m=0 then r else r.fmod (m.natAbs:Int)⟩:=by
 unfold clsF
 by_cases h:sz (m.natAbs:Int) > 100∨sz (if m=0 then r else r.fmod (m.natAbs:Int)) > 100
 ·exact .inl (if_pos h)
 ·exact .inr (if_neg h)
theorem rO{m r z:Int}(h:m∣z-r):inC (clsF m r) z=true:=by
 rcases adX m r with e | e
 ·rw[e];exact aat z
 ·rw[e]
  refine(oZ rfl (Int.natCast_nonneg _)).2 ?_
  simp only
  by_cases h0:m=0
  ·subst h0
   simpa using h
  ·rw[if_neg h0]
   have d:=vX (show 0 < (m.natAbs:Int) by omega) r
   have h':(m.natAbs:Int)∣z-r:=Int.natAbs_dvd.2 h
   have:=Int.dvd_add h' d
   rwa [show z-r+(r-r.fmod (m.natAbs:Int))=z-r.fmod (m.natAbs:Int) by omega]at this
section
variable {c d:Cg}(hc:WfC c)(hd:WfC d){z w:Int}(hz:inC c z=true)(hw:inC d w=true)
include hc hd hz hw
theorem aa3:inC (plusC c d) (z+w)=true:=by
 unfold plusC
 rw[if_neg (by simp[oW hz]),if_neg (by simp[oW hw])]
 refine rO ?_
 have:=Int.dvd_add (Int.dvd_trans (Int.gcd_dvd_left c.m d.m) (nX hc hz)) (Int.dvd_trans (Int.gcd_dvd_right c.m d.m) (nX hd hw))
 rwa [show z-c.r+(w-d.r)=z+w-(c.r+d.r) by omega]at this
theorem zO:inC (minusC c d) (z-w)=true:=by
 unfold minusC
 rw[if_neg (by simp[oW hz]),if_neg (by simp[oW hw])]
 refine rO ?_
 have:=Int.dvd_sub (Int.dvd_trans (Int.gcd_dvd_left c.m d.m) (nX hc hz)) (Int.dvd_trans (Int.gcd_dvd_right c.m d.m) (nX hd hw))
 rwa [show z-c.r-(w-d.r)=z-w-(c.r-d.r) by omega]at this
theorem zQ:inC (timesC c d) (z*w)=true:=by
 unfold timesC
 rw[if_neg (by simp[oW hz]),if_neg (by simp[oW hw])]
 refine rO ?_
 obtain⟨k,hk⟩:=nX hc hz
 obtain⟨l,hl⟩:=nX hd hw
 have e:z*w-c.r*d.r=(c.m*d.m)*(k*l)+((c.m*d.r)*k+(d.m*c.r)*l):=by
  have e1:z=c.r+c.m*k:=by omega
  have e2:w=d.r+d.m*l:=by omega
  rw[e1,e2];grind
 rw[e]
 have g:=Int.gcd_dvd_right (c.m*d.m) (Int.gcd (c.m*d.r) (d.m*c.r))
 refine Int.dvd_add (Int.dvd_trans (Int.gcd_dvd_left _ _) (Int.dvd_mul_right _ _)) (Int.dvd_add ?_ ?_)
 ·exact Int.dvd_trans (Int.dvd_trans g (Int.gcd_dvd_left _ _)) (Int.dvd_mul_right _ _)
 ·exact Int.dvd_trans (Int.dvd_trans g (Int.gcd_dvd_right _ _)) (Int.dvd_mul_right _ _)
theorem acI(h0:w≠0):inC (quoC c d) (z.fdiv w)=true:=by
 have dz:=nX hc hz
 have dw:=nX hd hw
 have hz0:zeroC d=false:=by
  unfold zeroC
  simp only[decide_eq_false_iff_not]
  intro ⟨a,b⟩
  rw[a]at dw
  have:=Int.zero_dvd.1 dw
  omega
 unfold quoC
 rw[if_neg (by simp[oW hz]),if_neg (by simp[oW hw]),if_neg (by simp[hz0])]
 by_cases m0:d.m=0
 ·rw[if_neg (by simpa using m0)]
  rw[m0]at dw
  have:w=d.r:=by have:=Int.zero_dvd.1 dw;omega
  subst this
  split
  ·rename_i dv
   unfold dvd' at dv
   rw[if_neg h0,decide_eq_true_eq]at dv
   have q:=Int.mul_fdiv_add_fmod c.m d.r
   rw[dv,Int.add_zero]at q
   obtain⟨k,hk⟩:=dz
   refine rO ⟨k,?_⟩
   have e:z=c.r+d.r*(c.m.fdiv d.r*k):=by
    rw[←Int.mul_assoc,q];omega
   rw[e,Int.add_mul_fdiv_left _ _ h0];omega
  ·exact aat _
 ·rw[if_pos m0]
  split
  ·rename_i zc
   unfold zeroC at zc
   simp only[decide_eq_true_eq]at zc
   obtain⟨a,b⟩:=zc
   rw[a,b]at dz
   have:z=0:=by have:=Int.zero_dvd.1 dz;omega
   subst this
   rw[Int.zero_fdiv];exact hz
  ·exact aat _
theorem aa4(h0:w≠0):inC (restC c d) (z.fmod w)=true:=by
 have dz:=nX hc hz
 have dw:=nX hd hw
 have hz0:zeroC d=false:=by
  unfold zeroC
  simp only[decide_eq_false_iff_not]
  intro ⟨a,b⟩
  rw[a]at dw
  have:=Int.zero_dvd.1 dw
  omega
 unfold restC
 rw[if_neg (by simp[oW hz]),if_neg (by simp[oW hw]),if_neg (by simp[hz0])]
 split
 ·rename_i h
  obtain⟨m0,dv⟩:=h
  rw[m0]at dw
  have:w=d.r:=by have:=Int.zero_dvd.1 dw;omega
  subst this
  unfold dvd' at dv
  rw[if_neg h0,decide_eq_true_eq]at dv
  have q:=Int.mul_fdiv_add_fmod c.m d.r
  rw[dv,Int.add_zero]at q
  obtain⟨k,hk⟩:=dz
  refine rO ?_
  have e:z=c.r+d.r*(c.m.fdiv d.r*k):=by
   rw[←Int.mul_assoc,q];omega
  rw[e,Int.add_mul_fmod_self_left];simp
 ·refine rO ?_
  have q:=Int.mul_fdiv_add_fmod z w
  have a:=Int.dvd_trans (Int.gcd_dvd_left c.m (Int.gcd d.m d.r)) dz
  have b:=Int.gcd_dvd_right c.m (Int.gcd d.m d.r)
  have b1:=Int.dvd_trans (Int.dvd_trans b (Int.gcd_dvd_left _ _)) dw
  have b2:=Int.dvd_trans b (Int.gcd_dvd_right d.m d.r)
  have bw:=Int.dvd_add b1 b2
  rw[show w-d.r+d.r=w by omega]at bw
  have:=Int.dvd_sub a (Int.dvd_trans bw (Int.dvd_mul_right w (z.fdiv w)))
  rwa [show z-c.r-w*z.fdiv w=z.fmod w-c.r by omega]at this
end
theorem afe{c d:Cg}(h:cc c=cc d):c.em=d.em∧(c.em=false→c=d):=by
 unfold cc at h
 cases e1:c.em with
 | true=>cases e2:d.em with
  | true=>exact⟨rfl,nofun⟩
  | false=>rw[if_pos e1,if_neg (by simp[e2])]at h;have:=congrArg Prod.fst h;simp at this
 | false=>cases e2:d.em with
  | true=>rw[if_neg (by simp[e1]),if_pos e2]at h;have:=congrArg Prod.fst h;simp at this
  | false =>
   rw[if_neg (by simp[e1]),if_neg (by simp[e2])]at h
   simp only[Prod.mk.injEq]at h
   refine⟨rfl,fun _=>?_⟩
   have h1:=mQ (uy h.2.1)
   have h2:=mQ (uy h.2.2.1)
   cases c;cases d;simp_all
end Go.N
namespace Go.N
open Go Go.Q Go.Rx
section
variable {c d:Cg}(hc:WfC c)(hd:WfC d)(ec:c.em=false)(ed:d.em=false)
include hc hd ec ed
end
end Go.N
namespace Go.N
open Go Go.Q Go.Rx
section
variable (lf:Nat)(hb:Big lf){a b:Int}(ha:0 < a∧a < C)(hbb:0 < b∧b < C)
include hb ha hbb
end
section
variable (lf:Nat)(hb:Big lf){c d:Cg}(hc:WfC c)(hd:WfC d)
include hb hc hd
end
end Go.N
namespace Go.N
open Go Go.Q Go.Rx
theorem clipV(lf:Nat){o:Option Int}(h:okb K o):cu.f lf (ob o)=some (ob (o.bind clip),()):=by
 rw[cu.f]
 cases o with
 | none=>rw[show ob none=bs [] from rfl,mJ,bdS,gB,show body []=[] from rfl,decide_eq_false (by simp),brF];rfl
 | some z =>
  have hl:=lN h
  rw[show ob (some z)=bs (Lib.itoa z) from rfl,mJ,bdS,gB]
  have e:(((body (Lib.itoa z)).length:Nat):Int)=(sz z:Int):=rfl
  simp only[e,Option.bind]
  by_cases c: -C < z∧z < C
  ·have:=(sz_C z).2 c
   rw[decide_eq_false (by omega),brF,pV c];rfl
  ·have:¬sz z≤100:=fun x=>c ((sz_C z).1 x)
   rw[decide_eq_true (by omega),brT,abL c];rfl
set_option exponentiation.threshold 5000 in
theorem aeJ:C+C < Dd:=by
 have e:(10 ^ 100+10 ^ 100:Nat) < 10 ^ 1000:=by
  have:(10:Nat) ^ 1000=10 ^ 100*10 ^ 900:=by rw[←Nat.pow_add]
  rw[this]
  have:(2:Nat) < 10 ^ 900:=Nat.lt_of_lt_of_le (show(2:Nat) < 10 ^ 1 by decide) (Nat.pow_le_pow_right (by decide) (by decide))
  have h:=Nat.mul_lt_mul_of_pos_left this (show 0 < 10 ^ 100 by exact Nat.pow_pos (by decide))
  omega
 unfold C Dd;exact Int.ofNat_lt.2 e
theorem evV:((((true,(⟨#[]⟩:ByteArray),(⟨#[]⟩:ByteArray),()),(true,(⟨#[]⟩:ByteArray),(⟨#[]⟩:ByteArray),()),()):VV))=vc Ev:=rfl
theorem onV(z:Int):(((false,bs (Lib.itoa z),bs (Lib.itoa z),()),(false,(⟨#[48]⟩:ByteArray),bs (Lib.itoa z),()),()):VV)=vc (onev z):=by
 rw[i0];unfold vc onev;rw[iw rfl];rfl
theorem xM(x:Int):((bs (Lib.itoa x)).toList==(⟨#[]⟩:ByteArray).toList)=false:=by
 have:=uK (some x)
 rw[show ob (some x)=bs (Lib.itoa x) from rfl]at this
 rw[this];exact decide_eq_false nofun
theorem ob_e:((ob none).toList==(⟨#[]⟩:ByteArray).toList)=true:=by rw[uK];rfl
theorem aeA(x y:Int):decide (sgn (x-y) > 0)=decide (y < x):=aaB x y
theorem afW(x y:Int):(sgn (x-y)==0)=decide (x=y):=by
 rw[Bool.eq_iff_iff,beq_iff_eq,decide_eq_true_eq]
 unfold sgn;(repeat' split)<;>omega
section
variable (lf:Nat)(hb:Big lf){a:A}{c:Cg}(ha:Wf a)(hc:WfC c)
include hb ha hc
theorem lo_K{l:Int}(h: -C < l∧l < C)(p:0 < c.m): -K < loC c l∧loC c l < K∧-Dd < loC c l∧loC c l < Dd:=by
 have:=lo_m p l
 have:=hc.m
 have:=C_gt
 have:=CC_K
 have hD:=DD_K
 have hCD:=fV
 have h4:C*2≤C*C:=Int.mul_le_mul_of_nonneg_left (by omega) (by omega)
 have h5:=aeJ
 have h6:=Dd_K
 omega
theorem hi_K{l:Int}(h: -C < l∧l < C)(p:0 < c.m): -K < hiC c l∧hiC c l < K∧-Dd < hiC c l∧hiC c l < Dd:=by
 have:=hi_m p l
 have:=hc.m
 have:=C_gt
 have h5:=aeJ
 have h6:=Dd_K
 omega
theorem aaK:fD.f lf (ac a) (cc c)=some (vc (red a c),()):=by
 have hlf:=hb.1
 have h3:200000≤lf:=by omega
 have hCD:=fV
 rw[fD.f]
 simp only[show(ac a).1=a.em from rfl,show(ac a).2.1=ob a.lo from rfl,show(ac a).2.2.1=ob a.hi from rfl,jO.f,bdS,evV,lI.f]
 unfold red
 cases ea:a.em with
 | true=>simp only[brT,if_true]
 | false =>
  cases ec:c.em with
  | true=>rw[ou ec];simp only[brT,brF,if_true,if_false,Bool.false_eq_true]
  | false =>
   have e1:(cc c).1=false:=by rw[iw ec]
   have e2:(cc c).2.1=bs (Lib.itoa c.m):=by rw[iw ec]
   have e3:(cc c).2.2.1=bs (Lib.itoa c.r):=by rw[iw ec]
   simp only[brF,if_false,Bool.false_eq_true,e1,e2,e3,beq0]
   by_cases m:c.m=0
   ·rw[decide_eq_true m,brT,if_pos m,oU lf h3 ha (CK hc.r),bdS]
    simp only
    cases hi:inS (ofA a) c.r with
    | true=>simp only[Bool.not_true,brF,if_true,onV]
    | false=>simp only[Bool.not_false,brT,if_false,Bool.false_eq_true]
   ·have p:0 < c.m:=by have:=hc.pos;omega
    rw[decide_eq_false m,brF,if_neg m]
    have kl:=ha.lo
    have kh:=ha.hi
    have L:=fun {l:Int} (h: -C < l∧l < C)=>aeh lf hb hc ec (a:=l) (by omega)
    have G':=fun {l:Int} (h: -C < l∧l < C)=>aas lf hb hc ec (a:=l) (by omega)
    have ab:∀ l,aboveC c l=some (loC c l):=fun l=>if_neg m
    have be:∀ l,belowC c l=some (hiC c l):=fun l=>if_neg m
    have cN:=clipV lf (o:=none) trivial
    cases hl:a.lo with
    | none=>cases hh:a.hi with
     | none=>simp only[ob_e,Bool.not_true,brF,cN,bdS,Option.map,fin3];rfl
     | some u =>
      rw[hh]at kh
      have g:=G' kh
      rw[be]at g
      have kk:=hi_K lf hb ha hc kh p
      have cU:=clipV lf (o:=some (hiC c u)) ⟨kk.1,kk.2.1⟩
      simp only[show ob (some u)=bs (Lib.itoa u) from rfl,show ob (some (hiC c u))=bs (Lib.itoa (hiC c u)) from rfl]at *
      simp only[ob_e,xM,Bool.not_true,Bool.not_false,brF,brT,g,cN,cU,bdS,Option.map,fin3];rfl
    | some l =>
     rw[hl]at kl
     have g:=L kl
     rw[ab]at g
     have kk:=lo_K lf hb ha hc kl p
     have cL:=clipV lf (o:=some (loC c l)) ⟨kk.1,kk.2.1⟩
     cases hh:a.hi with
     | none =>
      simp only[show ob (some l)=bs (Lib.itoa l) from rfl,show ob (some (loC c l))=bs (Lib.itoa (loC c l)) from rfl]at *
      simp only[ob_e,xM,Bool.not_true,Bool.not_false,brF,brT,g,cN,cL,bdS,Option.map,fin3];rfl
     | some u =>
      rw[hh]at kh
      have g2:=G' kh
      rw[be]at g2
      have kk2:=hi_K lf hb ha hc kh p
      have cU:=clipV lf (o:=some (hiC c u)) ⟨kk2.1,kk2.2.1⟩
      have cm:=rH lf _ _ (chkK ⟨kk.1,kk.2.1⟩) (chkK ⟨kk2.1,kk2.2.1⟩) h3
      rw[dm,dm]at cm
      simp only[show ob (some l)=bs (Lib.itoa l) from rfl,show ob (some (loC c l))=bs (Lib.itoa (loC c l)) from rfl,show ob (some u)=bs (Lib.itoa u) from rfl,show ob (some (hiC c u))=bs (Lib.itoa (hiC c u)) from rfl]at *
      simp only[ob_e,xM,Bool.not_true,Bool.not_false,brF,brT,g,g2,cm,bdS,aeA,afW,Option.map,fin3]
      by_cases h1:hiC c u < loC c l
      ·rw[decide_eq_true h1,brT,if_pos h1]
      ·rw[decide_eq_false h1,brF,if_neg h1]
       by_cases h2:loC c l=hiC c u
       ·rw[decide_eq_true h2,brT,if_pos h2,onV]
       ·rw[decide_eq_false h2,brF,if_neg h2,cL,bdS,cU,bdS];rfl
theorem adg:jb.f lf (ac a) (cc c)=some (vc (red a c),()):=by
 have hlf:=hb.1
 have h3:200000≤lf:=by omega
 have hCD:=fV
 rw[jb.f]
 simp only[show(ac a).1=a.em from rfl,show(ac a).2.1=ob a.lo from rfl,show(ac a).2.2.1=ob a.hi from rfl,dP.f,gX.f,kN.f,bdS,evV]
 unfold red
 cases ea:a.em with
 | true=>simp only[brT,if_true]
 | false =>
  cases ec:c.em with
  | true=>rw[ou ec];simp only[brT,brF,if_true,if_false,Bool.false_eq_true]
  | false =>
   have e1:(cc c).1=false:=by rw[iw ec]
   have e2:(cc c).2.1=bs (Lib.itoa c.m):=by rw[iw ec]
   have e3:(cc c).2.2.1=bs (Lib.itoa c.r):=by rw[iw ec]
   simp only[brF,if_false,Bool.false_eq_true,e1,e2,e3,beq0]
   by_cases m:c.m=0
   ·rw[decide_eq_true m,brT,if_pos m,acJ lf h3 ha (CK hc.r),bdS]
    simp only
    cases hi:inS (ofA a) c.r with
    | true =>
     simp only[Bool.not_true,brF,if_true,←onV]
     rw[iw ec,m,i0]
    | false=>simp only[Bool.not_false,brT,if_false,Bool.false_eq_true]
   ·have p:0 < c.m:=by have:=hc.pos;omega
    rw[decide_eq_false m,brF,if_neg m]
    have kl:=ha.lo
    have kh:=ha.hi
    have L:=fun {l:Int} (h: -C < l∧l < C)=>aaL lf hb hc ec (a:=l) (by omega)
    have G':=fun {l:Int} (h: -C < l∧l < C)=>adW lf hb hc ec (a:=l) (by omega)
    have ab:∀ l,aboveC c l=some (loC c l):=fun l=>if_neg m
    have be:∀ l,belowC c l=some (hiC c l):=fun l=>if_neg m
    have toL:∀ x y:Option Int,okb K x→okb K y→gt? x y=false→toA ⟨lox x,hix y⟩=⟨false,x.bind clip,y.bind clip⟩:=by
     intro x y hx hy h
     unfold toA;rw[acn hx hy,h,if_neg (by simp),adE,adD]
    cases hl:a.lo with
    | none=>cases hh:a.hi with
     | none =>
      simp only[ob_e,Bool.not_true,brF,tZ lf h3 none none trivial trivial,toL none none trivial trivial rfl,bdS,Option.map,fin3];rfl
     | some u =>
      rw[hh]at kh
      have g:=G' kh
      rw[be]at g
      have kk:=hi_K lf hb ha hc kh p
      have rg:=tZ lf h3 none (some (hiC c u)) trivial ⟨kk.1,kk.2.1⟩
      rw[toL none (some (hiC c u)) trivial ⟨kk.1,kk.2.1⟩ rfl]at rg
      simp only[show ob (some u)=bs (Lib.itoa u) from rfl,show ob (some (hiC c u))=bs (Lib.itoa (hiC c u)) from rfl]at *
      simp only[ob_e,xM,Bool.not_true,Bool.not_false,brF,brT,g,rg,bdS,Option.map,fin3];rfl
    | some l =>
     rw[hl]at kl
     have g:=L kl
     rw[ab]at g
     have kk:=lo_K lf hb ha hc kl p
     cases hh:a.hi with
     | none =>
      have rg:=tZ lf h3 (some (loC c l)) none ⟨kk.1,kk.2.1⟩ trivial
      rw[toL (some (loC c l)) none ⟨kk.1,kk.2.1⟩ trivial rfl]at rg
      simp only[show ob (some l)=bs (Lib.itoa l) from rfl,show ob (some (loC c l))=bs (Lib.itoa (loC c l)) from rfl]at *
      simp only[ob_e,xM,Bool.not_true,Bool.not_false,brF,brT,g,rg,bdS,Option.map,fin3];rfl
     | some u =>
      rw[hh]at kh
      have g2:=G' kh
      rw[be]at g2
      have kk2:=hi_K lf hb ha hc kh p
      have ls:=lessI lf h3 (x:=hiC c u) (y:=loC c l) ⟨kk2.1,kk2.2.1⟩ ⟨kk.1,kk.2.1⟩
      have rg:=tZ lf h3 (some (loC c l)) (some (hiC c u)) ⟨kk.1,kk.2.1⟩ ⟨kk2.1,kk2.2.1⟩
      have T:=toL (some (loC c l)) (some (hiC c u)) ⟨kk.1,kk.2.1⟩ ⟨kk2.1,kk2.2.1⟩
      simp only[show ob (some l)=bs (Lib.itoa l) from rfl,show ob (some (loC c l))=bs (Lib.itoa (loC c l)) from rfl,show ob (some u)=bs (Lib.itoa u) from rfl,show ob (some (hiC c u))=bs (Lib.itoa (hiC c u)) from rfl]at *
      have eqt:((bs (Lib.itoa (loC c l))).toList==(bs (Lib.itoa (hiC c u))).toList)=decide (loC c l=hiC c u):=by
       rw[kY];simp only[decide_eq_decide];exact⟨mQ,fun e=>by rw[e]⟩
      simp only[ob_e,xM,Bool.not_true,Bool.not_false,brF,brT,g,g2,ls,bdS,eqt,Option.map,fin3]
      by_cases h1:hiC c u < loC c l
      ·rw[decide_eq_true h1,brT,if_pos h1]
      ·rw[decide_eq_false h1,brF,if_neg h1]
       by_cases h2:loC c l=hiC c u
       ·have kC: -C < loC c l∧loC c l < C:=by
         have:=lo_m p l
         have:=hi_m p u
         simp only[okb]at kl kh
         omega
        have hC:=C_gt
        have hCK:=gJ
        rw[decide_eq_true h2,brT,if_pos h2,iQ.f,kE.f,i0,xh lf h3 (m:=0) (by omega) (CK kC),bdS,bdS]
        simp only
        rw[yh (Int.le_refl 0) (by omega) kC,if_pos rfl,iw rfl]
        simp only[←i0,BEq.rfl,Bool.not_true,brF,bdS]
        rw[onV]
       ·rw[decide_eq_false h2,brF,if_neg h2,rg,T (by unfold gt?;simp;omega),bdS];rfl
end
end Go.N
namespace Go.N
open Go Go.Q Go.Rx
theorem ru(x:Int){c:Int}(h:1≤c):0≤x.fmod c∧x.fmod c < c:=⟨Int.fmod_nonneg_of_pos x (by omega),Int.fmod_lt_of_pos x (by omega)⟩
theorem adb{l h c:Int}(hc:1≤c)(hl:l≤h):(if h-l≥c-1 then allS c else if l.fmod c > h.fmod c then allS c else⟨.fin (l.fmod c),.fin (h.fmod c)⟩)=if l.fdiv c=h.fdiv c then(⟨.fin (l.fmod c),.fin (h.fmod c)⟩:Sp)else allS c:=by
 have m1:=Int.mul_fdiv_add_fmod l c
 have m2:=Int.mul_fdiv_add_fmod h c
 have b1:=ru l hc
 have b2:=ru h hc
 by_cases e:l.fdiv c=h.fdiv c
 ·rw[if_pos e]
  rw[e]at m1
  by_cases c1:h-l≥c-1
  ·rw[if_pos c1]
   unfold allS
   congr 2<;>omega
  ·rw[if_neg c1,if_neg (by omega)]
 ·rw[if_neg e]
  by_cases c1:h-l≥c-1
  ·rw[if_pos c1]
  ·rw[if_neg c1,if_pos ?_]
   have mono:=pX hc hl
   have:=Int.mul_le_mul_of_nonneg_left (show 1≤h.fdiv c-l.fdiv c by omega) (show 0≤c by omega)
   rw[Int.mul_sub]at this
   omega
section
variable (lf:Nat)(h3:200000≤lf)
include h3
end
theorem abd{s:Sp}(he:emp (posS s)=false)(hs:oks C s)(hp:Pr s):∃ l,(posS s).lo=.fin l∧1≤l∧Po (posS s).hi:=by
 obtain⟨l,e1,e2,e3,e4,e5,e6⟩:=abe he hs hp
 refine⟨l,e1,e2,?_⟩
 cases h:(posS s).hi with
 | ni=>rw[e5]at h;exact absurd h e6
 | pi=>trivial
 | fin z=>have:=e4 z h;simp only[Po];omega
theorem aem{s:Sp}(h:oks C s):oks C (negS s):=uD h ⟨trivial,rW (by decide) (by decide)⟩
theorem aeI{s:Sp}(h:oks C s):oks C (zerS s):=uD h ⟨rW (by decide) (by decide),rW (by decide) (by decide)⟩
section
variable (lf:Nat)(h3:200000≤lf)
include h3
end
end Go.N
namespace Go.N
open Go Go.Q Go.Rx
theorem afy(x:X):sg (xneg x)= -sg x:=by
 cases x with
 | ni=>rfl
 | pi=>rfl
 | fin z=>simp only[xneg,sg,sgn];(repeat' split)<;>omega
theorem lJ(x y:X):xmul x y=xmul y x:=by
 unfold xmul
 rw[Int.mul_comm (sg y) (sg x)]
 split
 ·rfl
 ·cases x<;>cases y<;>simp only[Int.mul_comm]
theorem adP(x y:X):xmul (xneg x) y=xneg (xmul x y):=by
 unfold xmul
 rw[afy,Int.neg_mul]
 have a:=sg3 x
 have b:=sg3 y
 by_cases h:sg x*sg y=0
 ·rw[h,if_pos (by decide),if_pos rfl];rfl
 ·rw[if_neg (by omega),if_neg h]
  have one:sg x*sg y=1∨sg x*sg y= -1:=by
   rcases a with a | a | a<;>rcases b with b | b | b<;>rw[a,b]at h⊢<;>simp at h⊢
  cases x<;>cases y<;>simp only[xneg,Int.neg_mul]<;>rcases one with o | o<;>rw[o]<;>rfl
theorem xX(x y:X):xmul x (xneg y)=xneg (xmul x y):=by rw[lJ,adP,lJ]
theorem sK{x y:X}:(key (xmul x y) < 0↔sg x*sg y < 0)∧(key (xmul x y)=0↔sg x*sg y=0):=by
 have hK:=K_gt
 have a:=sg3 x
 have b:=sg3 y
 unfold xmul
 by_cases h:sg x*sg y=0
 ·rw[if_pos h,h];simp[key]
 ·rw[if_neg h]
  have one:sg x*sg y=1∨sg x*sg y= -1:=by
   rcases a with a | a | a<;>rcases b with b | b | b<;>rw[a,b]at h⊢<;>simp at h⊢
  have inf:(key (if sg x*sg y=1 then X.pi else X.ni) < 0↔sg x*sg y < 0)∧(key (if sg x*sg y=1 then X.pi else X.ni)=0↔sg x*sg y=0):=by
   rcases one with o | o<;>rw[o]
   ·rw[if_pos rfl,show key X.pi=K from rfl];omega
   ·rw[if_neg (by decide),show key X.ni= -K from rfl];omega
  cases x with
  | fin u=>cases y with
   | fin v =>
    simp only[key]
    have ku:=pz (.fin u)
    have kv:=pz (.fin v)
    simp only[key]at ku kv
    rcases a with a | a | a<;>rcases b with b | b | b<;>rw[a,b]at h⊢<;>simp at h⊢
    ·have:=Int.mul_pos_of_neg_of_neg (show u < 0 by omega) (show v < 0 by omega);omega
    ·have:=Int.mul_neg_of_neg_of_pos (show u < 0 by omega) (show 0 < v by omega);omega
    ·have:=Int.mul_neg_of_pos_of_neg (show 0 < u by omega) (show v < 0 by omega);omega
    ·have:=Int.mul_pos (show 0 < u by omega) (show 0 < v by omega);omega
   | ni=>exact inf
   | pi=>exact inf
  | ni=>exact inf
  | pi=>exact inf
theorem zu{a b:Int}:xmul (.fin a) (.fin b)=.fin (a*b):=by
 unfold xmul
 split
 ·rename_i h
  have:=(sK (x:=.fin a) (y:=.fin b)).2
  have ka:=pz (.fin a)
  have kb:=pz (.fin b)
  simp only[key]at ka kb
  rcases Int.mul_eq_zero.1 h with z | z
  ·rw[ka.2.1.1 z,Int.zero_mul]
  ·rw[kb.2.1.1 z,Int.mul_zero]
 ·rfl
theorem ny{x x' y:X}(hx:okx Dd x)(hx':okx Dd x')(hy:okx Dd y)(h:key x≤key x')(h0:0≤key y):key (xmul x y)≤key (xmul x' y):=by
 have hK:=K_gt
 have hC:=Dd_K
 have k1:=qV (aaf hx hy)
 have k2:=qV (aaf hx' hy)
 have s1:=sK (x:=x) (y:=y)
 have s2:=sK (x:=x') (y:=y)
 have gx:=pz x
 have gx':=pz x'
 have gy:=pz y
 have a:=sg3 x
 have a':=sg3 x'
 have b:=sg3 y
 have inf:∀ {u v:X},(u=.ni∨u=.pi∨v=.ni∨v=.pi)→key (xmul u v)=sg u*sg v*K:=by
  intro u v hu
  have c:=sg3 u
  have d:=sg3 v
  unfold xmul
  by_cases hz:sg u*sg v=0
  ·rw[if_pos hz,hz];simp[key]
  ·rw[if_neg hz]
   have one:sg u*sg v=1∨sg u*sg v= -1:=by
    rcases c with c | c | c<;>rcases d with d | d | d<;>rw[c,d]at hz⊢<;>simp at hz⊢
   have f:key (if sg u*sg v=1 then X.pi else X.ni)=sg u*sg v*K:=by
    rcases one with o | o<;>rw[o]
    ·rw[if_pos rfl,show key X.pi=K from rfl];omega
    ·rw[if_neg (by decide),show key X.ni= -K from rfl];omega
   rcases hu with rfl | rfl | rfl | rfl
   ·exact f
   ·exact f
   ·cases u<;>exact f
   ·cases u<;>exact f
 by_cases y0:key y=0
 ·have:sg y=0:=by omega
  have e1:key (xmul x y)=0:=s1.2.2 (by rw[this,Int.mul_zero])
  have e2:key (xmul x' y)=0:=s2.2.2 (by rw[this,Int.mul_zero])
  omega
 have y1:sg y=1:=by omega
 rw[y1,Int.mul_one]at s1 s2
 cases y with
 | ni=>simp only[key]at h0;omega
 | pi =>
  rw[inf (.inr (.inr (.inr rfl))),inf (.inr (.inr (.inr rfl))),y1,Int.mul_one,Int.mul_one]
  exact Int.mul_le_mul_of_nonneg_right (by omega) (by omega)
 | fin v =>
  cases x with
  | ni =>
   rw[inf (.inl rfl),y1,Int.mul_one,show sg X.ni= -1 from rfl];omega
  | pi =>
   cases x' with
   | pi=>exact Int.le_refl _
   | ni=>simp only[key]at h;omega
   | fin w=>simp only[key,okx]at h hx';omega
  | fin u=>cases x' with
   | pi =>
    rw[inf (u:=X.pi) (.inr (.inl rfl)),y1,Int.mul_one,show sg X.pi=1 from rfl];omega
   | ni=>simp only[key,okx]at h hx;omega
   | fin w =>
    rw[zu,zu]
    simp only[key]at h h0⊢
    exact Int.mul_le_mul_of_nonneg_right h h0
theorem nT{x x' y:X}(hx:okx Dd x)(hx':okx Dd x')(hy:okx Dd y)(h:key x≤key x')(h0:key y≤0):key (xmul x' y)≤key (xmul x y):=by
 have:=ny hx hx' (zx hy) h (by rw[pY];omega)
 rw[xX,xX,pY,pY]at this
 omega
def El(s:Sp)(x:X):Prop:=okx Dd x∧key s.lo≤key x∧key x≤key s.hi
theorem wX{s:Sp}(hs:oks C s)(he:emp s=false):El s s.lo:=⟨hs.1.D,Int.le_refl _,by have:=of_decide_eq_false he;omega⟩
theorem wW{s:Sp}(hs:oks C s)(he:emp s=false):El s s.hi:=⟨hs.2.D,by have:=of_decide_eq_false he;omega,Int.le_refl _⟩
theorem corner{s t:Sp}(hs:oks C s)(ht:oks C t){x y:X}(hx:El s x)(hy:El t y):
  (∃ cx cy,(cx=s.lo∨cx=s.hi)∧(cy=t.lo∨cy=t.hi)∧key (xmul cx cy)≤key (xmul x y))∧(∃ cx cy,(cx=s.lo∨cx=s.hi)∧(cy=t.lo∨cy=t.hi)∧key (xmul x y)≤key (xmul cx cy)):=by
 have one:∀ {s:Sp} {x y:X},oks C s→El s x→okx Dd y→(∃ cx,(cx=s.lo∨cx=s.hi)∧key (xmul cx y)≤key (xmul x y))∧(∃ cx,(cx=s.lo∨cx=s.hi)∧key (xmul x y)≤key (xmul cx y)):=by
  intro s x y hs hx hy
  by_cases h:0≤key y
  ·exact⟨⟨_,.inl rfl,ny hs.1.D hx.1 hy hx.2.1 h⟩,⟨_,.inr rfl,ny hx.1 hs.2.D hy hx.2.2 h⟩⟩
  ·exact⟨⟨_,.inr rfl,nT hx.1 hs.2.D hy hx.2.2 (by omega)⟩,⟨_,.inl rfl,nT hs.1.D hx.1 hy hx.2.1 (by omega)⟩⟩
 obtain⟨⟨cx,c1,c2⟩,⟨dx,d1,d2⟩⟩:=one hs hx hy.1
 have okc:∀ {c:X},(c=s.lo∨c=s.hi)→okx Dd c:=fun h=>by rcases h with rfl | rfl;exact hs.1.D;exact hs.2.D
 obtain⟨⟨cy,e1,e2⟩,_⟩:=one ht hy (okc c1)
 obtain⟨_,⟨dy,f1,f2⟩⟩:=one ht hy (okc d1)
 rw[lJ cy,lJ y]at e2
 rw[lJ dy,lJ y]at f2
 exact⟨⟨cx,cy,c1,e1,by omega⟩,⟨dx,dy,d1,f1,by omega⟩⟩
theorem zq(x y:X):xmin x y=x∨xmin x y=y:=by unfold xmin;split;exact .inr rfl;exact .inl rfl
theorem zn(x y:X):xmax x y=x∨xmax x y=y:=by unfold xmax;split;exact .inr rfl;exact .inl rfl
theorem tu{o:X→X→X}{s t:Sp}(hs:emp s=false)(ht:emp t=false):
  ((∃ x y,(x=s.lo∨x=s.hi)∧(y=t.lo∨y=t.hi)∧(apS o s t).lo=o x y)∧(∀ x y,(x=s.lo∨x=s.hi)→(y=t.lo∨y=t.hi)→key (apS o s t).lo≤key (o x y)))∧
  ((∃ x y,(x=s.lo∨x=s.hi)∧(y=t.lo∨y=t.hi)∧(apS o s t).hi=o x y)∧(∀ x y,(x=s.lo∨x=s.hi)→(y=t.lo∨y=t.hi)→key (o x y)≤key (apS o s t).hi)):=by
 have e:apS o s t=⟨xmin (xmin (xmin (o s.lo t.lo) (o s.lo t.hi)) (o s.hi t.lo)) (o s.hi t.hi),xmax (xmax (xmax (o s.lo t.lo) (o s.lo t.hi)) (o s.hi t.lo)) (o s.hi t.hi)⟩:=by
  unfold apS
  rw[if_neg (by simp[hs]),if_neg (by simp[ht]),tY,hullNE (nV _) (nV _)]
  have e1:=nV (o s.lo t.lo)
  have e2:=nV (o s.lo t.hi)
  have e3:=nV (o s.hi t.lo)
  have e4:=nV (o s.hi t.hi)
  have n1:=qQ e1 e2
  rw[hullNE e1 e2]at n1
  rw[hullNE n1 e3]
  have n2:=qQ n1 e3
  rw[hullNE n1 e3]at n2
  rw[hullNE n2 e4]
  rfl
 rw[e]
 refine⟨⟨?_,?_⟩,⟨?_,?_⟩⟩
 ·simp only
  rcases zq (xmin (xmin (o s.lo t.lo) (o s.lo t.hi)) (o s.hi t.lo)) (o s.hi t.hi)with h | h<;>rw[h]
  ·rcases zq (xmin (o s.lo t.lo) (o s.lo t.hi)) (o s.hi t.lo)with h | h<;>rw[h]
   ·rcases zq (o s.lo t.lo) (o s.lo t.hi)with h | h<;>rw[h]
    ·exact⟨_,_,.inl rfl,.inl rfl,rfl⟩
    ·exact⟨_,_,.inl rfl,.inr rfl,rfl⟩
   ·exact⟨_,_,.inr rfl,.inl rfl,rfl⟩
  ·exact⟨_,_,.inr rfl,.inr rfl,rfl⟩
 ·intro x y hx hy
  simp only[nZ]
  rcases hx with rfl | rfl<;>rcases hy with rfl | rfl<;>omega
 ·simp only
  rcases zn (xmax (xmax (o s.lo t.lo) (o s.lo t.hi)) (o s.hi t.lo)) (o s.hi t.hi)with h | h<;>rw[h]
  ·rcases zn (xmax (o s.lo t.lo) (o s.lo t.hi)) (o s.hi t.lo)with h | h<;>rw[h]
   ·rcases zn (o s.lo t.lo) (o s.lo t.hi)with h | h<;>rw[h]
    ·exact⟨_,_,.inl rfl,.inl rfl,rfl⟩
    ·exact⟨_,_,.inl rfl,.inr rfl,rfl⟩
   ·exact⟨_,_,.inr rfl,.inl rfl,rfl⟩
  ·exact⟨_,_,.inr rfl,.inr rfl,rfl⟩
 ·intro x y hx hy
  simp only[nY]
  rcases hx with rfl | rfl<;>rcases hy with rfl | rfl<;>omega
end Go.N
namespace Go.N
open Go Go.Q Go.Rx
def pt(i:Nat)(s:Sp):Sp:=if i=0 then negS s else if i=1 then zerS s else posS s
def Qp(i k:Nat)(p q:Sp):Sp:=if i=1∨k=1 then⟨.fin 0,.fin 0⟩else if i=0 then(if k=0 then⟨xmul p.hi q.hi,xmul p.lo q.lo⟩else⟨xmul p.lo q.hi,xmul p.hi q.lo⟩)else(if k=0 then⟨xmul p.hi q.lo,xmul p.lo q.hi⟩else⟨xmul p.lo q.lo,xmul p.hi q.hi⟩)
theorem uX{s:Sp}(h:oks C s)(i:Nat):oks C (pt i s):=by
 unfold pt;split
 ·exact aem h
 ·split
  ·exact aeI h
  ·exact jg h
theorem i3{i:Nat}(h:i < 3):i=0∨i=1∨i=2:=by omega
theorem vG{s:Sp}(h:oks C s):(key (negS s).lo=key s.lo∧key (negS s).hi=min (key s.hi) (-1))∧(key (zerS s).lo=max (key s.lo) 0∧key (zerS s).hi=min (key s.hi) 0)∧(key (posS s).lo=max (key s.lo) 1∧key (posS s).hi=key s.hi):=by
 have a:=qV h.K.1
 have b:=qV h.K.2
 have h1:key (negS s).lo=max (key s.lo) (-K):=nY s.lo .ni
 have h2:key (negS s).hi=min (key s.hi) (-1):=nZ s.hi (.fin (-1))
 have h3:key (zerS s).lo=max (key s.lo) 0:=nY s.lo (.fin 0)
 have h4:key (zerS s).hi=min (key s.hi) 0:=nZ s.hi (.fin 0)
 have h5:key (posS s).lo=max (key s.lo) 1:=nY s.lo (.fin 1)
 have h6:key (posS s).hi=min (key s.hi) K:=nZ s.hi .pi
 omega
theorem xZ{s:Sp}(hs:oks C s){i:Nat}{x:X}(h:El (pt i s) x):El s x:=by
 have k:=vG hs
 obtain⟨h1,h2,h3⟩:=h
 refine⟨h1,?_,?_⟩<;>unfold pt at h2 h3<;>split at h2<;>(try split at h2)<;>simp_all<;>omega
theorem wY{s:Sp}{x:X}(h:El s x):emp s=false:=decide_eq_false (by have:=h.2;omega)
theorem ve{s:Sp}(hs:oks C s){x:X}:(El (pt 0 s) x→key x≤-1)∧(El (pt 1 s) x→key x=0)∧(El (pt 2 s) x→1≤key x):=by
 have k:=vG hs
 refine⟨fun h=>?_,fun h=>?_,fun h=>?_⟩
 ·have:=h.2.2;simp only[pt,if_true]at this;omega
 ·have a:=h.2.1
  have b:=h.2.2
  simp only[pt,Nat.one_ne_zero,if_true,if_false]at a b;omega
 ·have:=h.2.1
  simp only[pt,show ¬(2=0) by omega,show ¬(2=1) by omega,if_false]at this;omega
theorem cls{s:Sp}(hs:oks C s){x:X}(h:El s x):∃ i,i < 3∧El (pt i s) x:=by
 have k:=vG hs
 obtain⟨h1,h2,h3⟩:=h
 rcases Int.lt_trichotomy (key x) 0 with z | z | z
 ·exact⟨0,by omega,h1,by simp only[pt,if_true];omega,by simp only[pt,if_true];omega⟩
 ·exact⟨1,by omega,h1,by simp only[pt,Nat.one_ne_zero,if_true,if_false];omega,by simp only[pt,Nat.one_ne_zero,if_true,if_false];omega⟩
 ·exact⟨2,by omega,h1,by simp only[pt,show ¬(2=0) by omega,show ¬(2=1) by omega,if_false];omega,by simp only[pt,show ¬(2=0) by omega,show ¬(2=1) by omega,if_false];omega⟩
theorem sg0{x:X}(h:key x=0):sg x=0:=(pz x).2.1.2 h
theorem tX{x y:X}(h:key x=0∨key y=0):xmul x y=.fin 0:=by
 unfold xmul
 rw[if_pos]
 rcases h with h | h
 ·rw[sg0 h,Int.zero_mul]
 ·rw[sg0 h,Int.mul_zero]
theorem upr{x y y':X}(hx:okx Dd x)(hy:okx Dd y)(hy':okx Dd y')(h:key y≤key y')(h0:0≤key x):key (xmul x y)≤key (xmul x y'):=by rw[lJ x y,lJ x y'];exact ny hy hy' hx h h0
theorem dnr{x y y':X}(hx:okx Dd x)(hy:okx Dd y)(hy':okx Dd y')(h:key y≤key y')(h0:key x≤0):key (xmul x y')≤key (xmul x y):=by rw[lJ x y,lJ x y'];exact nT hy hy' hx h h0
theorem aeL{s t:Sp}(hs:oks C s)(ht:oks C t){i k:Nat}(hi:i < 3)(hk:k < 3){x y:X}(hx:El (pt i s) x)(hy:El (pt k t) y):
  key (Qp i k (pt i s) (pt k t)).lo≤key (xmul x y)∧key (xmul x y)≤key (Qp i k (pt i s) (pt k t)).hi:=by
 have ps:=uX hs i
 have qs:=uX ht k
 have pe:=wY hx
 have qe:=wY hy
 have a:=wX ps pe
 have b:=wW ps pe
 have c:=wX qs qe
 have d:=wW qs qe
 have S:=@ve s hs
 have T:=@ve t ht
 rcases i3 hi with rfl | rfl | rfl
 ·have sx:=S.1 hx
  have sa:=S.1 a
  have sb:=S.1 b
  rcases i3 hk with rfl | rfl | rfl
  ·have sy:=T.1 hy
   have sc:=T.1 c
   have sd:=T.1 d
   simp only[Qp,Nat.zero_ne_one,or_self,if_false,if_true]
   exact⟨Int.le_trans (nT hx.1 b.1 d.1 hx.2.2 (by omega)) (dnr hx.1 hy.1 d.1 hy.2.2 (by omega)),Int.le_trans (nT a.1 hx.1 hy.1 hx.2.1 (by omega)) (dnr a.1 c.1 hy.1 hy.2.1 (by omega))⟩
  ·have sy:=T.2.1 hy
   simp only[Qp,or_true,if_true]
   rw[tX (.inr sy)];exact⟨Int.le_refl _,Int.le_refl _⟩
  ·have sy:=T.2.2 hy
   have sc:=T.2.2 c
   have sd:=T.2.2 d
   simp only[Qp,Nat.zero_ne_one,show ¬(2=1) by omega,show ¬(2=0) by omega,or_self,if_false,if_true]
   exact⟨Int.le_trans (dnr a.1 hy.1 d.1 hy.2.2 (by omega)) (ny a.1 hx.1 hy.1 hx.2.1 (by omega)),Int.le_trans (ny hx.1 b.1 hy.1 hx.2.2 (by omega)) (dnr b.1 c.1 hy.1 hy.2.1 (by omega))⟩
 ·have sx:=S.2.1 hx
  simp only[Qp,true_or,if_true]
  rw[tX (.inl sx)];exact⟨Int.le_refl _,Int.le_refl _⟩
 ·have sx:=S.2.2 hx
  have sa:=S.2.2 a
  have sb:=S.2.2 b
  rcases i3 hk with rfl | rfl | rfl
  ·have sy:=T.1 hy
   have sc:=T.1 c
   have sd:=T.1 d
   simp only[Qp,Nat.zero_ne_one,show ¬(2=1) by omega,show ¬(2=0) by omega,or_self,if_false,if_true]
   exact⟨Int.le_trans (nT hx.1 b.1 c.1 hx.2.2 (by omega)) (upr hx.1 c.1 hy.1 hy.2.1 (by omega)),Int.le_trans (nT a.1 hx.1 hy.1 hx.2.1 (by omega)) (upr a.1 hy.1 d.1 hy.2.2 (by omega))⟩
  ·have sy:=T.2.1 hy
   simp only[Qp,or_true,if_true]
   rw[tX (.inr sy)];exact⟨Int.le_refl _,Int.le_refl _⟩
  ·have sy:=T.2.2 hy
   have sc:=T.2.2 c
   have sd:=T.2.2 d
   simp only[Qp,show ¬(2=1) by omega,show ¬(2=0) by omega,or_self,if_false]
   exact⟨Int.le_trans (ny a.1 hx.1 c.1 hx.2.1 (by omega)) (upr hx.1 c.1 hy.1 hy.2.1 (by omega)),Int.le_trans (ny hx.1 b.1 hy.1 hx.2.2 (by omega)) (upr b.1 hy.1 d.1 hy.2.2 (by omega))⟩
theorem adT{s t:Sp}(hs:oks C s)(ht:oks C t){i k:Nat}(hi:i < 3)(hk:k < 3)(ei:emp (pt i s)=false)(ek:emp (pt k t)=false):
  (∃ x y,El (pt i s) x∧El (pt k t) y∧(Qp i k (pt i s) (pt k t)).lo=xmul x y)∧(∃ x y,El (pt i s) x∧El (pt k t) y∧(Qp i k (pt i s) (pt k t)).hi=xmul x y):=by
 have a:=wX (uX hs i) ei
 have b:=wW (uX hs i) ei
 have c:=wX (uX ht k) ek
 have d:=wW (uX ht k) ek
 by_cases z:i=1∨k=1
 ·have e:xmul (pt i s).lo (pt k t).lo=.fin 0:=by
   apply tX
   rcases z with rfl | rfl
   ·exact .inl ((ve hs).2.1 a)
   ·exact .inr ((ve ht).2.1 c)
  simp only[Qp,if_pos z]
  exact⟨⟨_,_,a,c,e.symm⟩,⟨_,_,a,c,e.symm⟩⟩
 ·unfold Qp
  rw[if_neg z]
  split<;>split
  ·exact⟨⟨_,_,b,d,rfl⟩,⟨_,_,a,c,rfl⟩⟩
  ·exact⟨⟨_,_,a,d,rfl⟩,⟨_,_,b,c,rfl⟩⟩
  ·exact⟨⟨_,_,b,c,rfl⟩,⟨_,_,a,d,rfl⟩⟩
  ·exact⟨⟨_,_,a,c,rfl⟩,⟨_,_,b,d,rfl⟩⟩
theorem aeM{s t:Sp}(hs:oks C s)(ht:oks C t)(i k:Nat):oks K (Qp i k (pt i s) (pt k t)):=by
 have hK:=K_gt
 have p:=uX hs i
 have q:=uX ht k
 have z:okx K (.fin 0):=by simp only[okx];omega
 unfold Qp
 split
 ·exact⟨z,z⟩
 ·split<;>split
  ·exact⟨mM p.2 q.2,mM p.1 q.1⟩
  ·exact⟨mM p.1 q.2,mM p.2 q.1⟩
  ·exact⟨mM p.2 q.1,mM p.1 q.2⟩
  ·exact⟨mM p.1 q.1,mM p.2 q.2⟩
section
variable {s t:Sp}(hs:oks C s)(ht:oks C t)(es:emp s=false)(et:emp t=false)(ps:Pr s)(pt':Pr t)
include hs ht es et
theorem xu{x y:X}(hx:x=s.lo∨x=s.hi)(hy:y=t.lo∨y=t.hi):El s x∧El t y:=by
 constructor
 ·rcases hx with rfl | rfl
  ·exact wX hs es
  ·exact wW hs es
 ·rcases hy with rfl | rfl
  ·exact wX ht et
  ·exact wW ht et
theorem F1{i k:Nat}(hi:i < 3)(hk:k < 3)(ei:emp (pt i s)=false)(ek:emp (pt k t)=false):
  key (apS xmul s t).lo≤key (Qp i k (pt i s) (pt k t)).lo∧key (Qp i k (pt i s) (pt k t)).hi≤key (apS xmul s t).hi:=by
 obtain⟨⟨x,y,hx,hy,e⟩,⟨x',y',hx',hy',e'⟩⟩:=adT hs ht hi hk ei ek
 have en:=tu (o:=xmul) es et
 obtain⟨⟨cx,cy,c1,c2,c3⟩,_⟩:=corner hs ht (xZ hs hx) (xZ ht hy)
 obtain⟨_,⟨dx,dy,d1,d2,d3⟩⟩:=corner hs ht (xZ hs hx') (xZ ht hy')
 have a:=en.1.2 cx cy c1 c2
 have b:=en.2.2 dx dy d1 d2
 rw[e,e']
 omega
theorem F2:(∃ i k,i < 3∧k < 3∧emp (pt i s)=false∧emp (pt k t)=false∧(Qp i k (pt i s) (pt k t)).lo=(apS xmul s t).lo)∧
  (∃ i k,i < 3∧k < 3∧emp (pt i s)=false∧emp (pt k t)=false∧(Qp i k (pt i s) (pt k t)).hi=(apS xmul s t).hi):=by
 have en:=tu (o:=xmul) es et
 have ok:=aa8 hs ht
 constructor
 ·obtain⟨cx,cy,c1,c2,c3⟩:=en.1.1
  have co:=xu hs ht es et c1 c2
  obtain⟨i,hi,xi⟩:=cls hs co.1
  obtain⟨k,hk,yk⟩:=cls ht co.2
  have ei:=wY xi
  have ek:=wY yk
  have q:=aeL hs ht hi hk xi yk
  have f:=F1 hs ht es et hi hk ei ek
  refine⟨i,k,hi,hk,ei,ek,key_inj (aeM hs ht i k).1 ok.1 ?_⟩
  rw[←c3]at q
  omega
 ·obtain⟨cx,cy,c1,c2,c3⟩:=en.2.1
  have co:=xu hs ht es et c1 c2
  obtain⟨i,hi,xi⟩:=cls hs co.1
  obtain⟨k,hk,yk⟩:=cls ht co.2
  have ei:=wY xi
  have ek:=wY yk
  have q:=aeL hs ht hi hk xi yk
  have f:=F1 hs ht es et hi hk ei ek
  refine⟨i,k,hi,hk,ei,ek,key_inj (aeM hs ht i k).2 ok.2 ?_⟩
  rw[←c3]at q
  omega
end
section
variable {s t:Sp}(hs:oks C s)(ht:oks C t)(es:emp s=false)(et:emp t=false)(ps:Pr s)(pt':Pr t)
include hs ht es et ps pt'
end
section
variable {s t:Sp}(hs:oks C s)(ht:oks C t)(es:emp s=false)(et:emp t=false)(ps:Pr s)(pt':Pr t)
include hs ht es et ps pt'
end
end Go.N
namespace Go.N
open Go Go.Q Go.Rx
def pp(i:Nat)(s:Sp):Sp:=if i=0 then⟨xneg (negS s).hi,xneg (negS s).lo⟩else posS s
section
variable (lf:Nat)(h3:200000≤lf){s t:Sp}(hs:oks C s)(ht:oks C t)(ps:Pr s)(pt':Pr t)
include h3 hs ht ps pt'
def sv(s:Sp):List IV:=[ac (toA (negS s)),ac (toA (zerS s)),ac (toA (posS s))]
end
def opS(op:Int)(s t:Sp):Sp:=if op=3 then addS s t else if op=4 then addS s (turn t)else if op=5 then apS xmul s t else if op=6 then quoS s t else remS s t
theorem op3{op:Int}(h:3≤op∧op≤7):op=3∨op=4∨op=5∨op=6∨op=7:=by omega
end Go.N
namespace Go.N
open Go Go.Q Go.Rx
theorem nI{s:Sp}{z:Int}:inS s z=true↔key s.lo≤z∧z≤key s.hi:=by unfold inS;simp
theorem oC{s:Sp}{z:Int}(h:inS s z=true):emp s=false:=xB h
theorem rP{s:Sp}{z:Int}(h:inS s z=true):inS (turn s) (-z)=true:=by
 have e:=oC h
 rw[nI]at h⊢
 unfold turn
 rw[if_neg (by simp[e])]
 simp only[pY];omega
theorem zM{s t:Sp}{z:Int}(h:inS s z=true):inS (hull s t) z=true:=by
 have e:=oC h
 rw[nI]at h⊢
 unfold hull
 rw[if_neg (by simp[e])]
 split
 ·exact h
 ·simp only[nZ,nY];omega
theorem zN{s t:Sp}{z:Int}(h:inS t z=true):inS (hull s t) z=true:=by
 have e:=oC h
 rw[nI]at h⊢
 unfold hull
 split
 ·exact h
 ·rw[if_neg (by simp[e])]
  simp only[nZ,nY];omega
theorem yF{s:Sp}(hs:oks C s){z:Int}(h:inS s z=true)(h1:1≤z):inS (posS s) z=true:=by
 have k:=vG hs
 rw[nI]at h⊢
 omega
section
variable {s t:Sp}(hs:oks C s)(ht:oks C t){x y:Int}(bx: -Dd < x∧x < Dd)(by': -Dd < y∧y < Dd)(hx:inS s x=true)(hy:inS t y=true)
include hs ht bx by' hx hy
theorem acG:inS (addS s t) (x+y)=true:=by
 have hK:=DD_K
 have hC:=C_gt
 have hD:=fV
 have h4:0≤Dd*Dd:=Int.mul_nonneg (by omega) (by omega)
 have e1:=oC hx
 have e2:=oC hy
 rw[nI]at hx hy⊢
 unfold addS
 rw[if_neg (by simp[e1]),if_neg (by simp[e2])]
 obtain⟨sl,sh⟩:=s
 obtain⟨tl,th⟩:=t
 simp only at hx hy⊢
 have pl:=hx.1
 have ph:=hx.2
 have ql:=hy.1
 have qh:=hy.2
 constructor
 ·cases sl<;>cases tl<;>simp only[xadd,key]at pl ql⊢<;>omega
 ·cases sh<;>cases th<;>simp only[xadd,key]at ph qh⊢<;>omega
theorem afs:inS (apS xmul s t) (x*y)=true:=by
 have e1:=oC hx
 have e2:=oC hy
 rw[nI]at hx hy⊢
 have en:=tu (o:=xmul) e1 e2
 obtain⟨⟨cx,cy,c1,c2,c3⟩,⟨dx,dy,d1,d2,d3⟩⟩:=corner hs ht (x:=.fin x) (y:=.fin y) ⟨bx,hx⟩ ⟨by',hy⟩
 have a:=en.1.2 cx cy c1 c2
 have b:=en.2.2 dx dy d1 d2
 rw[zu,show key (X.fin (x*y))=x*y from rfl]at c3 d3
 omega
theorem aa2(h1:1≤y)(p1:Po t.lo)(p2:Po t.hi):inS (apS xover s t) (x.fdiv y)=true:=by
 have e1:=oC hx
 have e2:=oC hy
 rw[nI]at hx hy⊢
 have en:=tu (o:=xover) e1 e2
 have py:Po (.fin y):=h1
 have oy:okx Dd (.fin y):=by'
 have ox:okx Dd (.fin x):=bx
 have kx:key (X.fin x)=x:=rfl
 have ky:key (X.fin y)=y:=rfl
 have kq:key (xover (.fin x) (.fin y))=x.fdiv y:=rfl
 have lo:=abH hs.1.D ox py (by rw[kx];exact hx.1)
 have hi:=abH ox hs.2.D py (by rw[kx];exact hx.2)
 rw[kq]at lo hi
 constructor
 ·by_cases n:key s.lo < 0
  ·have:=adQ hs.1.D p1 py ht.1.D oy (by rw[ky];exact hy.1) n
   have:=en.1.2 s.lo t.lo (.inl rfl) (.inl rfl)
   omega
  ·have:=adR hs.1.D py p2 oy ht.2.D (by rw[ky];exact hy.2) (by omega)
   have:=en.1.2 s.lo t.hi (.inl rfl) (.inr rfl)
   omega
 ·by_cases n:key s.hi < 0
  ·have:=adQ hs.2.D py p2 oy ht.2.D (by rw[ky];exact hy.2) n
   have:=en.2.2 s.hi t.hi (.inr rfl) (.inr rfl)
   omega
  ·have:=adR hs.2.D p1 py ht.1.D oy (by rw[ky];exact hy.1) (by omega)
   have:=en.2.2 s.hi t.lo (.inr rfl) (.inl rfl)
   omega
theorem acK(h1:1≤y):inS (remI s t) (x.fmod y)=true:=by
 have hK:=Dd_K
 have hC:=C_gt
 have hD:=fV
 have m:=Int.mul_fdiv_add_fmod x y
 have b:=ru x h1
 have le_x:0≤x→x.fmod y≤x:=fun h0=>by
  have:=yE h1 h0
  have:=Int.mul_nonneg (show 0≤y by omega) this
  omega
 have e1:=oC hx
 have e2:=oC hy
 rw[nI]at hx hy
 rw[nI]
 unfold remI
 split
 ·rename_i sg
  obtain⟨tl,th⟩:=t
  have ex:∃ c,tl=.fin c∧th=.fin c:=by
   cases tl<;>cases th<;>simp[single]at sg
   exact⟨_,rfl,by rw[sg]⟩
  obtain⟨c,rfl,rfl⟩:=ex
  simp only[key]at hy
  obtain rfl:y=c:=by omega
  simp only[valX]
  have all:key (allS y).lo≤x.fmod y∧x.fmod y≤key (allS y).hi:=by simp only[allS,key];omega
  obtain⟨sl,sh⟩:=s
  cases sl with
  | ni=>simp only[resS];exact all
  | pi=>simp only[resS];exact all
  | fin l=>cases sh with
   | ni=>simp only[resS];exact all
   | pi=>simp only[resS];exact all
   | fin h =>
    simp only[key]at hx
    simp only[resS]
    rw[adb h1 (by omega)]
    split
    ·rename_i q
     have m1:=Int.mul_fdiv_add_fmod l y
     have m2:=Int.mul_fdiv_add_fmod h y
     have g1:=pX h1 hx.1
     have g2:=pX h1 hx.2
     have e:x.fdiv y=l.fdiv y:=by omega
     rw[e]at m
     rw[←q]at m2
     simp only[key];omega
    ·exact all
 ·split
  ·rename_i c1 c2
   have:x.fmod y=x:=by
    have:=(gZ (x:=x) (y:=y) (q:=0) (r:=x) (by rw[Int.mul_zero];omega) (.inl (by omega))).2
    omega
   rw[this];exact hx
  ·rename_i c1 c2
   refine⟨b.1,?_⟩
   have kx:x.fmod y≤key (xsh t.hi (-1)):=by
    have hh:=hy.2
    cases e:t.hi with
    | ni=>rw[e]at hh;simp only[key]at hh;omega
    | pi=>simp only[xsh,key];omega
    | fin v=>rw[e]at hh;simp only[xsh,key]at hh⊢;omega
   simp only
   split
   ·rename_i c3
    rw[nZ]
    have:=le_x (by omega)
    omega
   ·exact kx
end
section
variable {s t:Sp}(hs:oks C s)(ht:oks C t)(ps:Pr s)(pt':Pr t){x y:Int}(bx: -Dd < x∧x < Dd)(by': -Dd < y∧y < Dd)(hx:inS s x=true)(hy:inS t y=true)
include hs ht ps pt' bx by' hx hy
theorem ad9(h0:y≠0):inS (quoS s t) (x.fdiv y)=true:=by
 have e1:=oC hx
 unfold quoS
 rw[if_neg (by simp[e1])]
 rcases Int.lt_or_lt_of_ne h0 with z | z
 ·have hy':=yF (fZ ht) (rP hy) (show 1≤-y by omega)
  have e:=oC hy'
  obtain⟨l,l1,l2,l3⟩:=abd e (fZ ht) pt'.turn
  rw[if_neg (show ¬emp (posS (turn t))=true by simp[e])]
  apply zN
  have:=aa2 (fZ hs) (jg (fZ ht)) (x:= -x) (y:= -y) (by omega) (by omega) (rP hx) hy' (by omega) (by rw[l1];exact l2) l3
  have q:(-x).fdiv (-y)=x.fdiv y:=by
   have m:=Int.mul_fdiv_add_fmod x y
   have a:=Int.fmod_nonneg_of_pos (-x) (show 0 < -y by omega)
   have b:=Int.fmod_lt_of_pos (-x) (show 0 < -y by omega)
   rw[Int.neg_fmod_neg]at a b
   exact((gZ (x:= -x) (y:= -y) (q:=x.fdiv y) (r:= -x.fmod y) (by rw[Int.neg_mul];omega) (.inl (by omega))).1).symm
  rw[q]at this
  exact this
 ·have hy':=yF ht hy (show 1≤y by omega)
  have e:=oC hy'
  obtain⟨l,l1,l2,l3⟩:=abd e ht pt'
  rw[if_neg (show ¬emp (posS t)=true by simp[e])]
  apply zM
  exact aa2 hs (jg ht) bx by' hx hy' (by omega) (by rw[l1];exact l2) l3
theorem aea(h0:y≠0):inS (remS s t) (x.fmod y)=true:=by
 have e1:=oC hx
 unfold remS
 rw[if_neg (by simp[e1])]
 rcases Int.lt_or_lt_of_ne h0 with z | z
 ·have hy':=yF (fZ ht) (rP hy) (show 1≤-y by omega)
  have e:=oC hy'
  have:=rP (acK (fZ hs) (jg (fZ ht)) (x:= -x) (y:= -y) (by omega) (by omega) (rP hx) hy' (by omega))
  rw[Int.neg_fmod_neg,Int.neg_neg]at this
  split
  ·rw[if_neg (show ¬emp (posS (turn t))=true by simp[e])];exact this
  ·rw[if_neg (show ¬emp (posS (turn t))=true by simp[e])];exact zN this
 ·have hy':=yF ht hy (show 1≤y by omega)
  have e:=oC hy'
  have:=acK hs (jg ht) bx by' hx hy' (by omega)
  rw[if_neg (show ¬emp (posS t)=true by simp[e])]
  split
  ·exact this
  ·exact zM this
end
def valO(op x y:Int):Int:=if op=3 then x+y else if op=4 then x-y else if op=5 then x*y else if op=6 then x.fdiv y else x.fmod y
theorem acH{s t:Sp}(hs:oks C s)(ht:oks C t)(ps:Pr s)(pt':Pr t){x y:Int}(bx: -Dd < x∧x < Dd)(by': -Dd < y∧y < Dd)(hx:inS s x=true)(hy:inS t y=true){op:Int}(ho:3≤op∧op≤7)(h0:op≤5∨y≠0):inS (opS op s t) (valO op x y)=true:=by
 rcases op3 ho with rfl | rfl | rfl | rfl | rfl
 ·exact acG hs ht bx by' hx hy
 ·have:=acG hs (fZ ht) bx (y:= -y) (by omega) hx (rP hy)
  rw[←Int.sub_eq_add_neg]at this
  exact this
 ·exact afs hs ht bx by' hx hy
 ·exact ad9 hs ht ps pt' bx by' hx hy (h0.resolve_left (by decide))
 ·exact aea hs ht ps pt' bx by' hx hy (h0.resolve_left (by decide))
theorem aew{s t:Sp}(hs:oks C s)(ht:oks C t)(ps:Pr s)(pt':Pr t):oks K (remS s t):=by
 unfold remS
 split
 ·exact je
 ·split
  ·split
   ·exact je
   ·rename_i e
    exact(fZ (rX (fZ hs) (jg (fZ ht)) (kV (by simpa using e) (fZ ht) pt'.turn))).K
  ·rename_i e
   have a:=rX hs (jg ht) (kV (by simpa using e) ht pt')
   split
   ·exact a.K
   ·rename_i e2
    exact gU a.K (fZ (rX (fZ hs) (jg (fZ ht)) (kV (by simpa using e2) (fZ ht) pt'.turn))).K
theorem aeu{s t:Sp}(hs:oks C s)(ht:oks C t)(ps:Pr s)(pt':Pr t):oks K (quoS s t):=by
 unfold quoS
 split
 ·exact je
 ·apply gU
  ·split
   ·exact je
   ·rename_i e
    exact vN hs (kV (by simpa using e) ht pt')
  ·split
   ·exact je
   ·rename_i e
    exact vN (fZ hs) (kV (by simpa using e) (fZ ht) pt'.turn)
theorem aay{s t:Sp}(hs:oks C s)(ht:oks C t)(ps:Pr s)(pt':Pr t){op:Int}:oks K (opS op s t):=by
 unfold opS
 split
 ·exact vg hs ht
 ·split
  ·exact vg hs (fZ ht)
  ·split
   ·exact aa8 hs ht
   ·split
    ·exact aeu hs ht ps pt'
    ·exact aew hs ht ps pt'
end Go.N
namespace Go.N
open Go Go.Q Go.Rx
theorem aby{a:A}(ha:Wf a)(he:a.em=false):∃ z,(-C < z∧z < C)∧inS (ofA a) z=true:=by
 have hC:=C_gt
 have hK:=gJ
 have l:=ha.lo
 have u:=ha.hi
 have le:=ha.le
 cases hl:a.lo with
 | some z =>
  rw[hl]at l le
  refine⟨z,l,(Wf.inS ha he (CK l)).2 ⟨fun v h=>(by rw[hl]at h;cases h;exact Int.le_refl _),fun v h=>?_⟩⟩
  rw[h]at le;exact le
 | none=>cases hh:a.hi with
  | some z =>
   rw[hh]at u
   exact⟨z,u,(Wf.inS ha he (CK u)).2 ⟨fun v h=>(by rw[hl]at h;cases h),fun v h=>(by rw[hh]at h;cases h;exact Int.le_refl _)⟩⟩
  | none=>exact⟨0,by omega,(Wf.inS ha he (by omega)).2 ⟨fun v h=>(by rw[hl]at h;cases h),fun v h=>(by rw[hh]at h;cases h)⟩⟩
theorem adM{s:Sp}(h:oks K s){z:Int}(hz: -K < z∧z < K)(hi:inS s z=true):Wf (toA s):=by
 refine adA h (.inr ⟨fun e=>?_,fun e=>?_⟩)
 ·have:=nI.1 hi;rw[e]at this;simp only[key]at this;omega
 ·have:=nI.1 hi;rw[e]at this;simp only[key]at this;omega
theorem zl:Wf (toA non):=adA je (.inl lM)
theorem ac0{a:A}(h:a.em=true):ofA a=non:=by unfold ofA;rw[if_pos h]
theorem ac8:emp (posS non)=true:=by
 have hK:=K_gt
 refine decide_eq_true ?_
 show key (xmax non.lo (.fin 1)) > key (xmin non.hi .pi)
 rw[nY,nZ]
 simp only[non,key];omega
theorem abW:emp (posS (⟨.fin 0,.fin 0⟩:Sp))=true:=by
 have hK:=K_gt
 refine decide_eq_true ?_
 show key (xmax (.fin 0) (.fin 1)) > key (xmin (.fin 0) .pi)
 rw[nY,nZ]
 simp only[key];omega
theorem pR{x y op:Int}(bx: -Dd < x∧x < Dd)(by': -Dd < y∧y < Dd)(ho:3≤op∧op≤7)(h0:op≤5∨y≠0): -K < valO op x y∧valO op x y < K:=by
 have hK:=DD_K
 have hC:=C_gt
 have hD:=fV
 have h4:0≤Dd*Dd:=Int.mul_nonneg (by omega) (by omega)
 rcases op3 ho with rfl | rfl | rfl | rfl | rfl
 ·show -K < x+y∧x+y < K;omega
 ·show -K < x-y∧x-y < K;omega
 ·have:=acV bx by';show -K < x*y∧x*y < K;omega
 ·have:=tJ (x:=x) (h0.resolve_left (by decide));show -K < x.fdiv y∧x.fdiv y < K;omega
 ·have:=vW (x:=x) (h0.resolve_left (by decide));show -K < x.fmod y∧x.fmod y < K;omega
section
variable {a b:A}(ha:Wf a)(hb:Wf b)
include ha hb
theorem non0(eb:b.em=false):(∃ z,(-C < z∧z < C)∧z≠0∧inS (ofA b) z=true)∨ofA b=⟨.fin 0,.fin 0⟩:=by
 have hC:=C_gt
 have hK:=gJ
 have l:=hb.lo
 have u:=hb.hi
 have le:=hb.le
 have I:=fun z (hz: -C < z∧z < C)=>Wf.inS hb eb (CK hz)
 cases hl:b.lo with
 | some z =>
  rw[hl]at l le
  by_cases h0:z=0
  ·subst h0
   cases hh:b.hi with
   | some w =>
    rw[hh]at u le
    by_cases h1:w=0
    ·subst h1
     right
     unfold ofA;rw[eb,if_neg (by simp),hl,hh];rfl
    ·exact .inl ⟨w,u,h1,(I w u).2 ⟨fun v h=>(by rw[hl]at h;cases h;exact le),fun v h=>(by rw[hh]at h;cases h;exact Int.le_refl _)⟩⟩
   | none=>exact .inl ⟨1,by omega,by omega,(I 1 (by omega)).2 ⟨fun v h=>(by rw[hl]at h;cases h;omega),fun v h=>(by rw[hh]at h;cases h)⟩⟩
  ·exact .inl ⟨z,l,h0,(I z l).2 ⟨fun v h=>(by rw[hl]at h;cases h;exact Int.le_refl _),fun v h=>(by rw[h]at le;exact le)⟩⟩
 | none=>cases hh:b.hi with
  | some w =>
   rw[hh]at u
   by_cases h1:w=0
   ·subst h1
    exact .inl ⟨-1,by omega,by omega,(I (-1) (by omega)).2 ⟨fun v h=>(by rw[hl]at h;cases h),fun v h=>(by rw[hh]at h;cases h;omega)⟩⟩
   ·exact .inl ⟨w,u,h1,(I w u).2 ⟨fun v h=>(by rw[hl]at h;cases h),fun v h=>(by rw[hh]at h;cases h;exact Int.le_refl _)⟩⟩
  | none=>exact .inl ⟨1,by omega,by omega,(I 1 (by omega)).2 ⟨fun v h=>(by rw[hl]at h;cases h),fun v h=>(by rw[hh]at h;cases h)⟩⟩
theorem aep{op:Int}(h:a.em=true):opS op (ofA a) (ofA b)=non:=by
 rw[ac0 h]
 unfold opS addS apS quoS remS
 simp[lM]
theorem ac4{op:Int}(ho:3≤op∧op≤7)(e:a.em=false)(h:b.em=true):opS op (ofA a) (ofA b)=non:=by
 rw[ac0 h]
 have t:turn non=non:=by unfold turn;rw[if_pos lM]
 have p:=ac8
 have ea:=vw ha
 rw[e]at ea
 rcases op3 ho with rfl | rfl | rfl | rfl | rfl
 ·simp[opS,addS,ea,lM]
 ·simp[opS,addS,ea,lM,t]
 ·simp[opS,apS,ea,lM]
 ·simp[opS,quoS,ea,t,p,hull,lM]
 ·simp[opS,remS,ea,t,p]
theorem uV{op:Int}(ho:3≤op∧op≤7):Wf (toA (opS op (ofA a) (ofA b))):=by
 have hD:=fV
 cases ea:a.em with
 | true=>rw[aep ha hb ea];exact zl
 | false=>cases eb:b.em with
  | true=>rw[ac4 ha hb ho ea eb];exact zl
  | false =>
   obtain⟨x,hx,ix⟩:=aby ha ea
   have ok:=aay (op:=op) ha.okC hb.okC ha.pr hb.pr
   have fin:∀ y,(-C < y∧y < C)→inS (ofA b) y=true→(op≤5∨y≠0)→Wf (toA (opS op (ofA a) (ofA b))):=fun y hy iy h0 =>
    adM ok (pR (x:=x) (y:=y) (by omega) (by omega) ho h0) (acH ha.okC hb.okC ha.pr hb.pr (by omega) (by omega) ix iy ho h0)
   rcases non0 ha hb eb with⟨y,hy,y0,iy⟩ | e
   ·exact fin y hy iy (.inr y0)
   ·by_cases h5:op≤5
    ·obtain⟨y,hy,iy⟩:=aby hb eb
     exact fin y hy iy (.inl h5)
    ·rw[e]
     have t:turn (⟨.fin 0,.fin 0⟩:Sp)=⟨.fin 0,.fin 0⟩:=by decide
     have p:=abW
     have ea':=vw ha
     rw[ea]at ea'
     have:op=6∨op=7:=by omega
     rcases this with rfl | rfl
     ·simp[opS,quoS,ea',t,p,hull,lM];exact zl
     ·simp[opS,remS,ea',t,p];exact zl
end
end Go.N
namespace Go.N
open Go Go.Q Go.Rx
namespace WfV
variable {v:Vl}(h:WfV v)
include h
theorem em:v.a.em=v.c.em:=by
 have r:=h.red
 unfold Go.N.red at r
 cases e1:v.a.em with
 | true =>
  rw[if_pos e1]at r
  rw[←r];rfl
 | false=>cases e2:v.c.em with
  | false=>rfl
  | true =>
   rw[if_neg (by simp[e1]),if_pos e2]at r
   rw[←r]at e1;simp[Ev,E0]at e1
theorem ev(e:v.a.em=true):v=Ev:=by
 have r:=h.red
 unfold Go.N.red at r
 rw[if_pos e]at r
 exact r.symm
theorem one(e:v.a.em=false)(m:v.c.m=0):v=onev v.c.r∧inS (ofA v.a) v.c.r=true:=by
 have r:=h.red
 have e2:v.c.em=false:=by rw[←h.em,e]
 unfold Go.N.red at r
 rw[if_neg (by simp[e]),if_neg (by simp[e2]),if_pos m]at r
 split at r
 ·exact⟨r.symm,by assumption⟩
 ·rw[←r]at e;simp[Ev,E0]at e
theorem fin(e:v.a.em=false)(m:v.c.m≠0):fin3 (v.a.lo.map (loC v.c)) (v.a.hi.map (hiC v.c)) v.c=v:=by
 have r:=h.red
 have e2:v.c.em=false:=by rw[←h.em,e]
 unfold Go.N.red at r
 rwa [if_neg (by simp[e]),if_neg (by simp[e2]),if_neg m]at r
theorem bnd(e:v.a.em=false):(∀ l,v.a.lo=some l→inC v.c l=true)∧∀ l,v.a.hi=some l→inC v.c l=true:=by
 have e2:v.c.em=false:=by rw[←h.em,e]
 by_cases m:v.c.m=0
 ·obtain⟨o,i⟩:=h.one e m
  have hs:inC v.c v.c.r=true:=(oZ e2 h.c.pos).2 (by simp)
  constructor
  ·intro l hl
   rw[o]at hl;cases hl;exact hs
  ·intro l hl
   rw[o]at hl;cases hl;exact hs
 ·have p:0 < v.c.m:=by have:=h.c.pos;omega
  have f:=h.fin e m
  have ck:=h.a
  have lo:=ck.lo
  have hi:=ck.hi
  revert f lo hi
  cases hl:v.a.lo with
  | none=>cases hh:v.a.hi with
   | none=>intro _ _ _;exact⟨nofun,nofun⟩
   | some u =>
    intro f lo hi
    have f2:=congrArg (fun x=>x.a.hi) f
    simp only[Option.map,fin3,Option.bind,hh]at f2
    have hu:hiC v.c u=u:=by
     unfold clip at f2;split at f2
     ·exact Option.some.inj f2
     ·cases f2
    exact⟨nofun,fun l x=>by cases x;exact(oZ e2 h.c.pos).2 (by have:=aa0 p u;rwa [hu]at this)⟩
  | some l=>cases hh:v.a.hi with
   | none =>
    intro f lo hi
    have f2:=congrArg (fun x=>x.a.lo) f
    simp only[Option.map,fin3,Option.bind,hl]at f2
    have hu:loC v.c l=l:=by
     unfold clip at f2;split at f2
     ·exact Option.some.inj f2
     ·cases f2
    exact⟨fun l x=>(by cases x;exact(oZ e2 h.c.pos).2 (by have:=aa6 p l;rwa [hu]at this)),nofun⟩
   | some u =>
    intro f lo hi
    simp only[Option.map,fin3]at f
    split at f
    ·rw[←f]at e;simp[Ev,E0]at e
    ·split at f
     ·rw[←f]at m;simp[onev]at m
     ·have f1:=congrArg (fun x=>x.a.lo) f
      have f2:=congrArg (fun x=>x.a.hi) f
      simp only[hl,hh]at f1 f2
      have h1:loC v.c l=l:=by
       unfold clip at f1;split at f1
       ·exact Option.some.inj f1
       ·cases f1
      have h2:hiC v.c u=u:=by
       unfold clip at f2;split at f2
       ·exact Option.some.inj f2
       ·cases f2
      exact⟨fun k x=>(by cases x;exact(oZ e2 h.c.pos).2 (by have:=aa6 p l;rwa [h1]at this)),fun k x=>(by cases x;exact(oZ e2 h.c.pos).2 (by have:=aa0 p u;rwa [h2]at this))⟩
end WfV
end Go.N
namespace Go.N
open Go Go.Q Go.Rx
def opC(op:Int)(c d:Cg):Cg:=if op=3 then plusC c d else if op=4 then minusC c d else if op=5 then timesC c d else if op=6 then quoC c d else restC c d
def opV(op:Int)(a b:Vl):Vl:=red (toA (opS op (ofA a.a) (ofA b.a))) (opC op a.c b.c)
theorem rq{op:Int}{c d:Cg}(hc:WfC c):WfC (opC op c d):=by
 unfold opC;split;exact ac6;split;exact abU;split;exact ab7;split;exact aes hc;exact ade
section
variable {a b:Vl}(ha:WfV a)(hb:WfV b)
include ha hb
theorem zY{op:Int}(ho:3≤op∧op≤7):WfV (opV op a b):=aeX (uV ha.a hb.a ho) (rq ha.c)
end
theorem xE{v:Vl}{z:Int}(h:inV v z=true):inS (ofA v.a) z=true∧inC v.c z=true:=by
 unfold inV at h;rwa [Bool.and_eq_true]at h
section
variable {a b:Vl}(ha:WfV a)(hb:WfV b)
include ha hb
theorem vZ{op x y:Int}(ho:3≤op∧op≤7)(bx: -Dd < x∧x < Dd)(by': -Dd < y∧y < Dd)(h1:inV a x=true)(h2:inV b y=true)(h0:op≤5∨y≠0):inV (opV op a b) (valO op x y)=true:=by
 obtain⟨h1,h3⟩:=xE h1
 obtain⟨h2,h4⟩:=xE h2
 have hk:=pR bx by' ho h0
 refine afw (uV ha.a hb.a ho) (rq ha.c) hk (aa1 (aay ha.a.okC hb.a.okC ha.a.pr hb.a.pr) hk (acH ha.a.okC hb.a.okC ha.a.pr hb.a.pr bx by' h1 h2 ho h0)) ?_
 rcases op3 ho with rfl | rfl | rfl | rfl | rfl
 ·exact aa3 ha.c hb.c h3 h4
 ·exact zO ha.c hb.c h3 h4
 ·exact zQ ha.c hb.c h3 h4
 ·exact acI ha.c hb.c h3 h4 (h0.resolve_left (by decide))
 ·exact aa4 ha.c hb.c h3 h4 (h0.resolve_left (by decide))
end
end Go.N
namespace Go.N
open Go Go.Q Go.Rx
abbrev tb(b:ByteArray):Nat:=b.data.toList.length
def SmV(x:VV):Prop:=tb x.1.2.1≤100000∧tb x.1.2.2.1≤100000∧tb x.2.1.2.1≤100000∧tb x.2.1.2.2.1≤100000
theorem adK(x y:VV):(((x.1.1==y.1.1)&&((x.1.2.1==y.1.2.1)&&((x.1.2.2.1==y.1.2.2.1)&&true)))&&(((x.2.1.1==y.2.1.1)&&((x.2.1.2.1==y.2.1.2.1)&&((x.2.1.2.2.1==y.2.1.2.2.1)&&true)))&&true))=decide (x=y):=by
 obtain⟨⟨e1,l1,m1,⟨⟩⟩,⟨e2,l2,m2,⟨⟩⟩,⟨⟩⟩:=x
 obtain⟨⟨f1,p1,q1,⟨⟩⟩,⟨f2,p2,q2,⟨⟩⟩,⟨⟩⟩:=y
 rw[Bool.eq_iff_iff]
 simp only[aaj,Bool.and_eq_true,beq_iff_eq,decide_eq_true_eq,Bool.and_true,Prod.mk.injEq,and_true]
theorem afX{a:A}{c:Cg}(ha:Wf a)(hc:WfC c)(h:vc (red a c)=vc ⟨a,c⟩):∃ v,vc ⟨a,c⟩=vc v∧WfV v:=by
 simp only[vc,Prod.mk.injEq]at h
 have e1:=ae8 h.1
 obtain⟨e2,e3⟩:=afe h.2.1
 cases ec:c.em with
 | true =>
  have hE:red a c=Ev:=by
   unfold red
   by_cases e:a.em=true
   ·rw[if_pos e]
   ·rw[if_neg e,if_pos ec]
  refine⟨Ev,?_,Ev_V⟩
  rw[hE]at e1
  simp only[vc,←e1]
  rw[ou ec];rfl
 | false =>
  rw[ec]at e2
  refine⟨⟨a,c⟩,rfl,ha,hc,?_⟩
  have e4:=e3 e2
  show red a c=⟨a,c⟩
  generalize red a c=r at *
  cases r;simp_all
section
variable (lf:Nat)(hb:Big lf)
include hb
theorem chkV{x:VV}(hx:SmV x):∃ n:Int,jM.f lf x=some (n,())∧aN.f lf x=some (n,())∧(n=0→∃ v,x=vc v∧WfV v):=by
 have hlf:=hb.1
 have h3:200000≤lf:=by omega
 obtain⟨⟨e1,l1,m1,⟨⟩⟩,⟨e2,l2,m2,⟨⟩⟩,⟨⟩⟩:=x
 obtain⟨x1,x2,x3,x4⟩:=hx
 rw[←qN l1,←qN m1,←qN l2,←qN m2]
 simp only[tb]at x1 x2 x3 x4
 revert x1 x2 x3 x4
 generalize l1.data.toList=l1
 generalize m1.data.toList=m1
 generalize l2.data.toList=l2
 generalize m2.data.toList=m2
 intro x1 x2 x3 x4
 have p1:=zD lf h3 e1 l1 m1 (by omega) (by omega)
 have p2:=xg lf h3 e1 l1 m1 (by omega) (by omega) (by omega) (by omega)
 have q1:=aeO lf h3 e2 l2 m2 (by omega) (by omega)
 have q2:=aaQ lf h3 e2 l2 m2 (by omega) (by omega) (by omega) (by omega)
 rw[jM.f,lX.f,aN.f]
 simp only[p1,p2,bdS]
 by_cases k1:ck e1 l1 m1=0
 ·rw[k1]
  simp only[bne_self_eq_false,brF,q1,q2,bdS]
  by_cases k2:ckc e2 l2 m2=0
  ·obtain⟨a,ea,ha⟩:=afK k1
   obtain⟨c,ec,hc⟩:=afg k2
   rw[k2]
   have r1:=aaK lf hb ha hc
   have r2:=adg lf hb ha hc
   rw[←ea,←ec]at r1 r2
   simp only[bne_self_eq_false,brF,r1,r2,bdS]
   have bq:=adK (vc (red a c)) ((e1,bs l1,bs m1,()),(e2,bs l2,bs m2,()),())
   simp only at bq
   rw[bq,ea,ec]
   by_cases h:vc (red a c)=(ac a,cc c,())
   ·rw[decide_eq_true h,Bool.not_true,brF]
    exact⟨0,rfl,rfl,fun _=>afX ha hc h⟩
   ·rw[decide_eq_false h,Bool.not_false,brT]
    exact⟨3,rfl,rfl,nofun⟩
  ·simp only[bneT k2,brT]
   exact⟨_,rfl,rfl,fun h=>absurd h k2⟩
 ·simp only[bneT k1,brT,bdS]
  exact⟨_,rfl,rfl,fun h=>absurd h k1⟩
theorem chk_wf{v:Vl}(h:WfV v):jM.f lf (vc v)=some (0,())∧aN.f lf (vc v)=some (0,()):=by
 have hlf:=hb.1
 have h3:200000≤lf:=by omega
 have p1:=lG lf h3 h.a
 have p2:=yg lf h3 h.a
 have q1:=ccheck lf hb h.c
 have q2:=rcheck lf hb h.c
 have r1:=aaK lf hb h.a h.c
 have r2:=adg lf hb h.a h.c
 rw[h.red]at r1 r2
 have bq:=adK (vc v) (vc v)
 rw[decide_eq_true rfl]at bq
 constructor
 ·rw[jM.f,lX.f]
  simp only[show(vc v).1=ac v.a from rfl,show(vc v).2.1=cc v.c from rfl]at bq⊢
  simp only[p1,q1,r1,bdS,bne_self_eq_false,brF]
  simp only[show(vc v).1=ac v.a from rfl,show(vc v).2.1=cc v.c from rfl,bq,Bool.not_true,brF]
 ·rw[aN.f]
  simp only[show(vc v).1=ac v.a from rfl,show(vc v).2.1=cc v.c from rfl]at bq⊢
  simp only[p2,q2,r2,bdS,bne_self_eq_false,brF]
  simp only[show(vc v).1=ac v.a from rfl,show(vc v).2.1=cc v.c from rfl,bq,Bool.not_true,brF]
theorem aff{v w:Vl}(h:WfV v)(k:WfV w):jL.f lf (vc v) (vc w)=some (0,()):=by
 rw[jL.f,(chk_wf lf hb h).1,bdS]
 simp only[bne_self_eq_false,brF,(chk_wf lf hb k).1,bdS]
end
end Go.N
namespace Go.N
open Go Go.Q Go.Rx
section
variable (lf:Nat)(hb:Big lf)
include hb
theorem aeQ{v:Vl}(hv:WfV v){z:Int}(hz: -Dd < z∧z < Dd):aY.f lf (vc v) (bs (Lib.itoa z))=some (inV v z,()):=by
 have h3:200000≤lf:=by have:=hb.1;omega
 have hk: -K < z∧z < K:=by have:=Dd_K;omega
 rw[aY.f]
 simp only[show(vc v).1=ac v.a from rfl,show(vc v).2.1=cc v.c from rfl,acJ lf h3 hv.a hk,in_r lf hb hv.c hz,bdS]
 unfold inV
 cases inS (ofA v.a) z<;>simp only[brT,brF,Bool.true_and,Bool.false_and]
end
end Go.N
namespace Go.N
def sgn3(z:Int):Nat:=if z < 0 then 0 else if z=0 then 1 else 2
theorem wG{z:Int}(h:z < 0):sgn3 z=0:=by unfold sgn3;rw[if_pos h]
theorem wH{z:Int}(h:0 < z):sgn3 z=2:=by unfold sgn3;rw[if_neg (by omega),if_neg (by omega)]
theorem dZ(z:Int):z < 0∧sgn3 z=0∨z=0∧sgn3 z=1∨0 < z∧sgn3 z=2:=by
 rcases Int.lt_trichotomy z 0 with h | h | h
 ·exact .inl ⟨h,wG h⟩
 ·exact .inr (.inl ⟨h,by rw[h];rfl⟩)
 ·exact .inr (.inr ⟨h,wH h⟩)
theorem aaY(x:Int){y:Int}(k:y < 0):x.fmod y≤0:=by
 have:=Int.fmod_nonneg_of_pos (-x) (show 0 < -y by omega)
 rw[Int.neg_fmod_neg]at this;omega
def sgAdd(i j:Nat):Nat:=[1,1,7,1,2,4,7,4,4].getD (3*i+j) 0
def sgSub(i j:Nat):Nat:=sgAdd i (2-j)
def sgMul(i j:Nat):Nat:=[4,2,1,2,2,2,1,2,4].getD (3*i+j) 0
def sgQuo(i j:Nat):Nat:=[6,0,1,2,0,2,1,0,6].getD (3*i+j) 0
def sgRem(i j:Nat):Nat:=[3,0,6,2,0,2,3,0,6].getD (3*i+j) 0
theorem adk(x y:Int):(sgAdd (sgn3 x) (sgn3 y)).testBit (sgn3 (x+y))=true:=by
 rcases dZ x with⟨h,e⟩ | ⟨h,e⟩ | ⟨h,e⟩<;>rcases dZ y with⟨k,f⟩ | ⟨k,f⟩ | ⟨k,f⟩<;>rcases dZ (x+y)with⟨l,g⟩ | ⟨l,g⟩ | ⟨l,g⟩<;>rw[e,f,g]<;>first | decide | (exfalso;omega)
theorem ado(x y:Int):(sgSub (sgn3 x) (sgn3 y)).testBit (sgn3 (x-y))=true:=by
 rcases dZ x with⟨h,e⟩ | ⟨h,e⟩ | ⟨h,e⟩<;>rcases dZ y with⟨k,f⟩ | ⟨k,f⟩ | ⟨k,f⟩<;>rcases dZ (x-y)with⟨l,g⟩ | ⟨l,g⟩ | ⟨l,g⟩<;>rw[e,f,g]<;>first | decide | (exfalso;omega)
theorem adl(x y:Int):(sgMul (sgn3 x) (sgn3 y)).testBit (sgn3 (x*y))=true:=by
 rcases dZ x with⟨h,e⟩ | ⟨h,e⟩ | ⟨h,e⟩<;>rcases dZ y with⟨k,f⟩ | ⟨k,f⟩ | ⟨k,f⟩
 ·rw[e,f,wH (Int.mul_pos_of_neg_of_neg h k)];decide
 ·rw[e,f,k,Int.mul_zero];decide
 ·rw[e,f,wG (Int.mul_neg_of_neg_of_pos h k)];decide
 ·rw[e,f,h,Int.zero_mul];decide
 ·rw[e,f,h,Int.zero_mul];decide
 ·rw[e,f,h,Int.zero_mul];decide
 ·rw[e,f,wG (Int.mul_neg_of_pos_of_neg h k)];decide
 ·rw[e,f,k,Int.mul_zero];decide
 ·rw[e,f,wH (Int.mul_pos h k)];decide
theorem adm(x y:Int)(hy:y≠0):(sgQuo (sgn3 x) (sgn3 y)).testBit (sgn3 (x.fdiv y))=true:=by
 rcases dZ y with⟨k,f⟩ | ⟨k,f⟩ | ⟨k,f⟩
 ·have r1:x.fmod y≤0:=aaY x k
  have r2:y < x.fmod y:=by
   have:=Int.fmod_lt_of_pos (-x) (show 0 < -y by omega)
   rw[Int.neg_fmod_neg]at this;omega
  have d:=Int.mul_fdiv_add_fmod x y
  rcases dZ x with⟨h,e⟩ | ⟨h,e⟩ | ⟨h,e⟩<;>rcases dZ (x.fdiv y)with⟨l,g⟩ | ⟨l,g⟩ | ⟨l,g⟩<;>rw[e,f,g]<;>first | decide | skip
  ·exfalso
   have: -y≤y*x.fdiv y:=by
    have:=Int.mul_le_mul_of_nonneg_left (show(1:Int)≤-x.fdiv y by omega) (show 0≤-y by omega)
    rw[Int.mul_one,Int.neg_mul_neg]at this;exact this
   omega
  ·exfalso
   subst h;rw[Int.zero_fdiv]at l;omega
  ·exfalso
   subst h;rw[Int.zero_fdiv]at l;omega
  ·exfalso;rw[l,Int.mul_zero]at d;omega
  ·exfalso
   have:=Int.mul_neg_of_neg_of_pos k l;omega
 ·exact absurd k hy
 ·have r1:0≤x.fmod y:=Int.fmod_nonneg_of_pos x k
  have r2:x.fmod y < y:=Int.fmod_lt_of_pos x k
  have d:=Int.mul_fdiv_add_fmod x y
  rcases dZ x with⟨h,e⟩ | ⟨h,e⟩ | ⟨h,e⟩<;>rcases dZ (x.fdiv y)with⟨l,g⟩ | ⟨l,g⟩ | ⟨l,g⟩<;>rw[e,f,g]<;>first | decide | skip
  ·exfalso;rw[l,Int.mul_zero]at d;omega
  ·exfalso
   have:=Int.mul_pos k l;omega
  ·exfalso
   subst h;rw[Int.zero_fdiv]at l;omega
  ·exfalso
   subst h;rw[Int.zero_fdiv]at l;omega
  ·exfalso
   have:y*x.fdiv y≤-y:=by
    have:=Int.mul_le_mul_of_nonneg_left (show x.fdiv y≤-1 by omega) (show 0≤y by omega)
    rw[Int.mul_neg_one]at this;exact this
   omega
theorem adn(x y:Int)(hy:y≠0):(sgRem (sgn3 x) (sgn3 y)).testBit (sgn3 (x.fmod y))=true:=by
 rcases dZ y with⟨k,f⟩ | ⟨k,f⟩ | ⟨k,f⟩
 ·have r1:x.fmod y≤0:=aaY x k
  rcases dZ x with⟨h,e⟩ | ⟨h,e⟩ | ⟨h,e⟩<;>rcases dZ (x.fmod y)with⟨l,g⟩ | ⟨l,g⟩ | ⟨l,g⟩<;>rw[e,f,g]<;>first | decide | (exfalso;omega) | (exfalso;subst h;rw[Int.zero_fmod]at l;omega)
 ·exact absurd k hy
 ·have r1:0≤x.fmod y:=Int.fmod_nonneg_of_pos x k
  rcases dZ x with⟨h,e⟩ | ⟨h,e⟩ | ⟨h,e⟩<;>rcases dZ (x.fmod y)with⟨l,g⟩ | ⟨l,g⟩ | ⟨l,g⟩<;>rw[e,f,g]<;>first | decide | (exfalso;omega) | (exfalso;subst h;rw[Int.zero_fmod]at l;omega)
end Go.N
namespace Go.N
open Go Go.Q Go.Rx
section
variable {a b:Vl}(ha:WfV a)(hb:WfV b)
include ha hb
theorem vY{op x y:Int}(ho:3≤op∧op≤7)(bx: -Dd < x∧x < Dd)(by': -Dd < y∧y < Dd)(h1:inV a x=true)(h2:inV b y=true)(h0:op≤5∨y≠0):inS (ofA (toA (opS op (ofA a.a) (ofA b.a)))) (valO op x y)=true:=by
 obtain⟨h1,h3⟩:=xE h1
 obtain⟨h2,h4⟩:=xE h2
 have hk:=pR bx by' ho h0
 exact aa1 (aay ha.a.okC hb.a.okC ha.a.pr hb.a.pr) hk (acH ha.a.okC hb.a.okC ha.a.pr hb.a.pr bx by' h1 h2 ho h0)
theorem tV{op x y:Int}(ho:3≤op∧op≤7)(h1:inV a x=true)(h2:inV b y=true)(h0:op≤5∨y≠0):inC (opC op a.c b.c) (valO op x y)=true:=by
 obtain⟨h1,h3⟩:=xE h1
 obtain⟨h2,h4⟩:=xE h2
 rcases op3 ho with rfl | rfl | rfl | rfl | rfl
 ·exact aa3 ha.c hb.c h3 h4
 ·exact zO ha.c hb.c h3 h4
 ·exact zQ ha.c hb.c h3 h4
 ·exact acI ha.c hb.c h3 h4 (h0.resolve_left (by decide))
 ·exact aa4 ha.c hb.c h3 h4 (h0.resolve_left (by decide))
end
def sgM(op:Int)(i j:Nat):Nat:=if op=3 then sgAdd i j else if op=4 then sgSub i j else if op=5 then sgMul i j else if op=6 then sgQuo i j else sgRem i j
theorem aez{op x y:Int}(ho:3≤op∧op≤7)(h0:op≤5∨y≠0):(sgM op (sgn3 x) (sgn3 y)).testBit (sgn3 (valO op x y))=true:=by
 rcases op3 ho with rfl | rfl | rfl | rfl | rfl
 ·exact adk x y
 ·exact ado x y
 ·exact adl x y
 ·exact adm x y (h0.resolve_left (by decide))
 ·exact adn x y (h0.resolve_left (by decide))
end Go.N
namespace Go.N
open Go Go.Q Go.Rx
theorem aaX(lf:Nat)(x:IV):∃ b,jv.f lf x=some (b,())∧(b=true→tb x.2.1≤100000∧tb x.2.2.1≤100000):=by
 rw[jv.f]
 simp only[kz.f,bdS]
 by_cases h:((x.2.1.size:Nat):Int)≤250
 ·rw[decide_eq_true h,brT]
  refine⟨_,rfl,fun k=>?_⟩
  have k:=of_decide_eq_true k
  rw[Lib.size_eq]at h k
  exact⟨by simp only[tb];omega,by simp only[tb];omega⟩
 ·rw[decide_eq_false h,brF]
  exact⟨_,rfl,nofun⟩
theorem ad4(lf:Nat)(x y:IV):∃ b,kD.f lf x y=some (b,())∧(b=true→(tb x.2.1≤100000∧tb x.2.2.1≤100000)∧(tb y.2.1≤100000∧tb y.2.2.1≤100000)):=by
 rw[kD.f]
 by_cases h1:((x.2.1.size:Nat):Int)≤450
 ·rw[decide_eq_true h1,brT]
  by_cases h2:((x.2.2.1.size:Nat):Int)≤450
  ·rw[decide_eq_true h2,brT]
   by_cases h3:((y.2.1.size:Nat):Int)≤450
   ·rw[decide_eq_true h3,brT]
    refine⟨_,rfl,fun k=>?_⟩
    have k:=of_decide_eq_true k
    rw[Lib.size_eq]at h1 h2 h3 k
    exact⟨⟨by simp only[tb];omega,by simp only[tb];omega⟩,by simp only[tb];omega,by simp only[tb];omega⟩
   ·rw[decide_eq_false h3,brF];exact⟨_,rfl,nofun⟩
  ·rw[decide_eq_false h2,brF];exact⟨_,rfl,nofun⟩
 ·rw[decide_eq_false h1,brF];exact⟨_,rfl,nofun⟩
theorem afp(lf:Nat)(x y:VV):∃ b,bH.f lf x y=some (b,())∧(b=true→SmV x∧SmV y):=by
 obtain⟨a,a1,a2⟩:=ad4 lf x.1 y.1
 obtain⟨b,b1,b2⟩:=aaX lf x.2.1
 obtain⟨c,c1,c2⟩:=aaX lf y.2.1
 rw[bH.f,a1,bdS]
 cases a with
 | false=>simp only[brF];exact⟨_,rfl,nofun⟩
 | true =>
  simp only[brT,b1,bdS]
  cases b with
  | false=>simp only[brF];exact⟨_,rfl,nofun⟩
  | true =>
   simp only[brT,c1,bdS]
   refine⟨_,rfl,fun k=>?_⟩
   obtain⟨q1,q2⟩:=a2 rfl
   have q3:=b2 rfl
   have q4:=c2 k
   exact⟨⟨q1.1,q1.2,q3.1,q3.2⟩,q2.1,q2.2,q4.1,q4.2⟩
theorem bigN(n:Nat):∃ lf,Big lf∧n≤lf:=⟨2000000000+K.toNat+n,⟨by omega,by omega⟩,by omega⟩
theorem bigE:∃ lf,Big lf:=⟨_,(bigN 0).choose_spec.1⟩
end Go.N
namespace Go.N
open Go Go.Q
theorem playV(lf:Nat):au.f lf=some (true,()):=by kernel_rfl
end Go.N
namespace Go.N
open Go.IntKind (i64)
open Go Go.Q Go.Rx
set_option maxRecDepth 20000
def bitm:Nat→Int
 | 0=>1
 | 1=>2
 | _=>4
theorem ltP{j k:Nat}:decide ((j:Int) < ((k:Nat):Int))=decide (j < k):=by simp
theorem wrP{j:Nat}(h:j < 1000000):i64.wrap ((j:Int)+1)=((j+1:Nat):Int):=by rw[w64 (by omega) (by omega)];omega
theorem mG(z:Int):sgn3 z < 3:=by rcases dZ z with⟨_,e⟩ | ⟨_,e⟩ | ⟨_,e⟩<;>omega
theorem w4z:(i64.wrap ((i64.wrap ((i64.wrap ((0:Int)+0))+0))+0) != 0)=false:=by decide
theorem w5z:(i64.wrap ((i64.wrap ((i64.wrap ((i64.wrap ((0:Int)+0))+0))+0))+0) != 0)=false:=by decide
theorem w5e:(i64.wrap ((i64.wrap ((i64.wrap ((i64.wrap ((0:Int)+0))+0))+0))+0)==0)=true:=by decide
theorem andm:∀ m s:Nat,m < 8→s < 3→m.testBit s=true→((i64.wrap ((BitVec.ofInt i64.bits (m:Int) &&& BitVec.ofInt i64.bits (bitm s)).toNat)) != 0)=true
 | 0,0,_,_,h=>absurd h (by decide)
 | 0,1,_,_,h=>absurd h (by decide)
 | 0,2,_,_,h=>absurd h (by decide)
 | 1,0,_,_,h=>by kernel_rfl
 | 1,1,_,_,h=>absurd h (by decide)
 | 1,2,_,_,h=>absurd h (by decide)
 | 2,0,_,_,h=>absurd h (by decide)
 | 2,1,_,_,h=>by kernel_rfl
 | 2,2,_,_,h=>absurd h (by decide)
 | 3,0,_,_,h=>by kernel_rfl
 | 3,1,_,_,h=>by kernel_rfl
 | 3,2,_,_,h=>absurd h (by decide)
 | 4,0,_,_,h=>absurd h (by decide)
 | 4,1,_,_,h=>absurd h (by decide)
 | 4,2,_,_,h=>by kernel_rfl
 | 5,0,_,_,h=>by kernel_rfl
 | 5,1,_,_,h=>absurd h (by decide)
 | 5,2,_,_,h=>by kernel_rfl
 | 6,0,_,_,h=>absurd h (by decide)
 | 6,1,_,_,h=>by kernel_rfl
 | 6,2,_,_,h=>by kernel_rfl
 | 7,0,_,_,h=>by kernel_rfl
 | 7,1,_,_,h=>by kernel_rfl
 | 7,2,_,_,h=>by kernel_rfl
 | m+8,_,h,_,_=>absurd h (by omega)
 | _,s+3,_,h,_=>absurd h (by omega)
theorem shl0:(bd (iShl .i64 1 (i64.wrap (-1+1))) fun r2=>some (r2,(0:Int),()))=some (bitm 0,0,()):=by kernel_rfl
theorem shl1:(bd (iShl .i64 1 (i64.wrap (sgn (0-0)+1))) fun r2=>some (r2,(0:Int),()))=some (bitm 1,0,()):=by kernel_rfl
theorem shl2:(bd (iShl .i64 1 (i64.wrap (1+1))) fun r2=>some (r2,(0:Int),()))=some (bitm 2,0,()):=by kernel_rfl
theorem afx(op:Int):∀ i j:Nat,i < 3→j < 3→sgM op i j < 8:=by
 intro i j hi hj
 have hi:i=0∨i=1∨i=2:=by omega
 have hj:j=0∨j=1∨j=2:=by omega
 unfold sgM
 rcases hi with rfl | rfl | rfl<;>rcases hj with rfl | rfl | rfl<;>(repeat' split)<;>decide
theorem aaE(lf:Nat):∀ i j:Nat,i < 3→j < 3→qj.f lf (bitm i) (bitm j)=some (((sgM 3 i j:Nat):Int),0,())
 | 0,0,_,_=>by kernel_rfl
 | 0,1,_,_=>by kernel_rfl
 | 0,2,_,_=>by kernel_rfl
 | 1,0,_,_=>by kernel_rfl
 | 1,1,_,_=>by kernel_rfl
 | 1,2,_,_=>by kernel_rfl
 | 2,0,_,_=>by kernel_rfl
 | 2,1,_,_=>by kernel_rfl
 | 2,2,_,_=>by kernel_rfl
 | i+3,_,h,_=>absurd h (by omega)
 | _,j+3,_,h=>absurd h (by omega)
theorem aaI(lf:Nat):∀ i j:Nat,i < 3→j < 3→qw.f lf (bitm i) (bitm j)=some (((sgM 4 i j:Nat):Int),0,())
 | 0,0,_,_=>by kernel_rfl
 | 0,1,_,_=>by kernel_rfl
 | 0,2,_,_=>by kernel_rfl
 | 1,0,_,_=>by kernel_rfl
 | 1,1,_,_=>by kernel_rfl
 | 1,2,_,_=>by kernel_rfl
 | 2,0,_,_=>by kernel_rfl
 | 2,1,_,_=>by kernel_rfl
 | 2,2,_,_=>by kernel_rfl
 | i+3,_,h,_=>absurd h (by omega)
 | _,j+3,_,h=>absurd h (by omega)
theorem aaF(lf:Nat):∀ i j:Nat,i < 3→j < 3→oH.f lf (bitm i) (bitm j)=some (((sgM 5 i j:Nat):Int),0,())
 | 0,0,_,_=>by kernel_rfl
 | 0,1,_,_=>by kernel_rfl
 | 0,2,_,_=>by kernel_rfl
 | 1,0,_,_=>by kernel_rfl
 | 1,1,_,_=>by kernel_rfl
 | 1,2,_,_=>by kernel_rfl
 | 2,0,_,_=>by kernel_rfl
 | 2,1,_,_=>by kernel_rfl
 | 2,2,_,_=>by kernel_rfl
 | i+3,_,h,_=>absurd h (by omega)
 | _,j+3,_,h=>absurd h (by omega)
theorem aaG(lf:Nat):∀ i j:Nat,i < 3→j < 3→qm.f lf (bitm i) (bitm j)=some (((sgM 6 i j:Nat):Int),0,())
 | 0,0,_,_=>by kernel_rfl
 | 0,1,_,_=>by kernel_rfl
 | 0,2,_,_=>by kernel_rfl
 | 1,0,_,_=>by kernel_rfl
 | 1,1,_,_=>by kernel_rfl
 | 1,2,_,_=>by kernel_rfl
 | 2,0,_,_=>by kernel_rfl
 | 2,1,_,_=>by kernel_rfl
 | 2,2,_,_=>by kernel_rfl
 | i+3,_,h,_=>absurd h (by omega)
 | _,j+3,_,h=>absurd h (by omega)
theorem aaH(lf:Nat):∀ i j:Nat,i < 3→j < 3→qo.f lf (bitm i) (bitm j)=some (((sgM 7 i j:Nat):Int),0,())
 | 0,0,_,_=>by kernel_rfl
 | 0,1,_,_=>by kernel_rfl
 | 0,2,_,_=>by kernel_rfl
 | 1,0,_,_=>by kernel_rfl
 | 1,1,_,_=>by kernel_rfl
 | 1,2,_,_=>by kernel_rfl
 | 2,0,_,_=>by kernel_rfl
 | 2,1,_,_=>by kernel_rfl
 | 2,2,_,_=>by kernel_rfl
 | i+3,_,h,_=>absurd h (by omega)
 | _,j+3,_,h=>absurd h (by omega)
section
variable (lf:Nat)(hb:Big lf)
include hb
theorem adv{x y:Int}(hx: -K < x∧x < K)(hy: -K < y∧y < K)(hs: -K < x-y∧x-y < K):fM.f lf (bs (Lib.itoa x)) (bs (Lib.itoa y))=some (bs (Lib.itoa (x-y)),0,()):=by
 have h3:200000≤lf:=by have:=hb.1;omega
 have h:=(sz_K (x-y)).2 hs
 rw[abz lf _ _ (chkK hx) (chkK hy) h3,dm,dm,oJ,if_neg (by omega)]
theorem zL{l:List ByteArray}(hl:l.length≤40):∀ (d n j:Nat),j+d=l.length→d < n→∃ b,aO.l0 lf l n j=some (b,(),(),())∧(b=false→∀ s∈l.drop j,(tl s).length≤1000)
 | 0,n,j,hd,hn=>by
  obtain⟨n,rfl⟩:∃ q,n=q+1:=⟨n-1,by omega⟩
  refine⟨false,?_,fun _ s hs=>?_⟩
  ·rw[aO.l0,aO.r0,ltP,decide_eq_false (by omega),brF]
  ·rw[List.drop_eq_nil_of_le (by omega)]at hs;cases hs
 | d+1,n,j,hd,hn=>by
  obtain⟨n,rfl⟩:∃ q,n=q+1:=⟨n-1,by omega⟩
  have hj:j < l.length:=by omega
  obtain⟨c,c1,c2⟩:=zL hl d n (j+1) (by omega) (by omega)
  rw[aO.l0,aO.r0,ltP,decide_eq_true hj,brT,dV l j hj,bdS,iZ.f,bdS,wrP (by omega),c1]
  by_cases hq:(((l[j]).size:Nat):Int)≤450
  ·refine⟨c,by simp only[decide_eq_true hq,Bool.not_true,brF],fun h s hs=>?_⟩
   rw[List.drop_eq_getElem_cons hj]at hs
   rcases List.mem_cons.1 hs with rfl | hs
   ·rw[Lib.size_eq]at hq
    simp only[tl];omega
   ·exact c2 h s hs
  ·exact⟨true,by simp only[decide_eq_false hq,Bool.not_false,brT],fun h=>by cases h⟩
theorem afo(l:List ByteArray)(h:l.length≤40):∃ b,aO.f lf l=some (b,())∧(b=true→∀ s∈l,(tl s).length≤1000):=by
 rw[aO.f,show decide (((l.length:Nat):Int) > 40)=false by simp;omega,brF]
 obtain⟨b,b1,b2⟩:=zL lf hb (l:=l) (by omega) l.length (lf+40) 0 (by omega) (by have:=hb.1;omega)
 rw[show((0:Nat):Int)=0 from rfl]at b1
 rw[b1,bdS]
 cases b with
 | true=>exact⟨false,by rw[brT],fun h=>by cases h⟩
 | false=>exact⟨true,by rw[brF],fun _ s hs=>b2 rfl s (by simpa using hs)⟩
theorem acY{l:List ByteArray}(hp:∀ p∈l,(tl p).length≤1000)(hl:l.length≤100):∀ (d n j:Nat),j+d=l.length→d < n→∃ (b:Bool) (e:Int),aP.l0 lf l n j=some (b,(e,()),(),())∧(b=true→e≠0)∧(b=false→∀ s∈l.drop j,num (tl s)=0)
 | 0,n,j,hd,hn=>by
  obtain⟨n,rfl⟩:∃ q,n=q+1:=⟨n-1,by omega⟩
  refine⟨false,0,?_,nofun,fun _ s hs=>?_⟩
  ·rw[aP.l0,aP.r0,ltP,decide_eq_false (by omega),brF]
  ·rw[List.drop_eq_nil_of_le (by omega)]at hs;cases hs
 | d+1,n,j,hd,hn=>by
  obtain⟨n,rfl⟩:∃ q,n=q+1:=⟨n-1,by omega⟩
  have hj:j < l.length:=by omega
  have hq:=hp _ (List.getElem_mem hj)
  have hlf:=hb.1
  obtain⟨b,e,i1,i2,i3⟩:=acY hp hl d n (j+1) (by omega) (by omega)
  rw[aP.l0,aP.r0,ltP,decide_eq_true hj,brT,dV l j hj,bdS,←qN l[j],xO lf (tl l[j]) (by omega) (by omega),bdS,wrP (by omega),i1]
  by_cases hk:num (tl l[j])=0
  ·simp only[hk,bne_self_eq_false,brF]
   refine⟨b,e,rfl,i2,fun h s hs=>?_⟩
   rw[List.drop_eq_getElem_cons hj]at hs
   rcases List.mem_cons.1 hs with rfl | hs
   ·exact hk
   ·exact i3 h s hs
  ·simp only[bneT hk,brT]
   exact⟨true,_,rfl,fun _=>hk,nofun⟩
theorem afu{l:List ByteArray}(hp:∀ p∈l,(tl p).length≤1000)(hl:l.length≤100):∃ e:Int,aP.f lf l=some (e,())∧(e=0→∀ s∈l,num (tl s)=0):=by
 obtain⟨b,e,i1,i2,i3⟩:=acY lf hb hp hl l.length (lf+40) 0 (by omega) (by have:=hb.1;omega)
 rw[show((0:Nat):Int)=0 from rfl]at i1
 rw[aP.f,i1,bdS]
 cases b with
 | true=>exact⟨e,by rw[brT],fun h=>absurd h (i2 rfl)⟩
 | false=>exact⟨0,by rw[brF],fun _ s hs=>i3 rfl s (by simpa using hs)⟩
theorem aeU{l:List UInt8}(h:num l=0):∃ z:Int,l=Lib.itoa z∧-C < z∧z < C:=by
 obtain⟨h1,h2⟩:=mW.1 h
 have e:=rQ h1
 refine⟨iv l,e,(sz_C _).1 ?_⟩
 unfold sz;rw[←e];omega
theorem qy{A B:VV}{X Y:ByteArray}(k:Option (Bool×Unit))(hk:∀ (v w:Vl) (x y:Int),A=vc v→B=vc w→WfV v→WfV w→X=bs (Lib.itoa x)→Y=bs (Lib.itoa y)→(-C < x∧x < C)→(-C < y∧y < C)→inV v x=true→inV w y=true→k=some (true,())):
  (bd (bH.f lf A B) fun r1=>br (!r1.1) (some (true,())) (bd (aN.f lf A) fun r3=>br (r3.1 != 0) (some (true,())) (bd (aN.f lf B) fun r5=>br (r5.1 != 0) (some (true,()))
   (bd (aO.f lf [X,Y]) fun r7=>br (!r7.1) (some (true,())) (bd (aP.f lf [X,Y]) fun r9=>br (r9.1 != 0) (some (true,()))
   (bd (aY.f lf A X) fun r11=>br (!r11.1) (some (true,())) (bd (aY.f lf B Y) fun r13=>br (!r13.1) (some (true,())) k)))))))=some (true,()):=by
 obtain⟨b,b1,b2⟩:=afp lf A B
 rw[b1,bdS]
 cases b with
 | false=>simp only[Bool.not_false,brT]
 | true =>
  obtain⟨hA,hB⟩:=b2 rfl
  obtain⟨m,_,m2,m3⟩:=chkV lf hb hA
  obtain⟨n,_,n2,n3⟩:=chkV lf hb hB
  simp only[Bool.not_true,brF,m2,n2,bdS]
  by_cases hm:m=0
  ·obtain⟨v,rfl,hv⟩:=m3 hm
   simp only[hm,bne_self_eq_false,brF]
   by_cases hn:n=0
   ·obtain⟨w,rfl,hw⟩:=n3 hn
    simp only[hn,bne_self_eq_false,brF]
    obtain⟨c,c1,c2⟩:=afo lf hb [X,Y] (by simp)
    rw[c1,bdS]
    cases c with
    | false=>simp only[Bool.not_false,brT]
    | true =>
     have hp:=c2 rfl
     obtain⟨e,e1,e2⟩:=afu lf hb hp (by simp)
     simp only[Bool.not_true,brF,e1,bdS]
     by_cases he:e=0
     ·simp only[he,bne_self_eq_false,brF]
      have hX:=e2 he X (by simp)
      have hY:=e2 he Y (by simp)
      obtain⟨x,x1,x2⟩:=aeU lf hb hX
      obtain⟨y,y1,y2⟩:=aeU lf hb hY
      have hCD:=fV
      have eX:X=bs (Lib.itoa x):=by rw[←qN X];exact congrArg bs x1
      have eY:Y=bs (Lib.itoa y):=by rw[←qN Y];exact congrArg bs y1
      rw[eX,eY,aeQ lf hb hv (by omega),aeQ lf hb hw (by omega),bdS,bdS]
      cases ix:inV v x with
      | false=>simp only[Bool.not_false,brT]
      | true =>
       cases iy:inV w y with
       | false=>simp only[Bool.not_true,brF,Bool.not_false,brT]
       | true =>
        simp only[Bool.not_true,brF]
        exact hk v w x y rfl rfl hv hw eX eY x2 y2 ix iy
     ·simp only[bneT he,brT]
   ·simp only[bneT hn,brT]
  ·simp only[bneT hm,brT]
theorem lW{z:Int}(hz: -K < z∧z < K):dS.f lf (bs (Lib.itoa z))=some (bitm (sgn3 z),0,()):=by
 have h3:200000≤lf:=by have:=hb.1;omega
 have hK:=K_gt
 rw[dS.f,pI.f,i0,rH lf _ _ (chkK hz) (chkK (show -K < (0:Int)∧(0:Int) < K by omega)) h3,bdS,bdS,dm,dm]
 simp only[bne_self_eq_false,brF]
 rcases dZ z with⟨h,e⟩ | ⟨h,e⟩ | ⟨h,e⟩
 ·rw[e,show sgn (z-0)= -1 by unfold sgn;rw[if_pos (by omega)]];exact shl0
 ·subst h;rw[e];exact shl1
 ·rw[e,show sgn (z-0)=1 by unfold sgn;rw[if_neg (by omega),if_neg (by omega)]];exact shl2
theorem aa5{z:Int}:kF.f lf (bs (Lib.itoa z))=some (decide (¬(-C < z∧z < C)),()):=by
 rw[kF.f,mJ,bdS,gB]
 have:(body (Lib.itoa z)).length=sz z:=rfl
 rw[this]
 by_cases h: -C < z∧z < C
 ·have:=(sz_C z).2 h
  rw[decide_eq_false (by omega),decide_eq_false (by simpa using h)]
 ·have:¬sz z≤100:=fun q=>h ((sz_C z).1 q)
  rw[decide_eq_true (by omega),decide_eq_true h]
theorem zX{z:Int}(hz: -C < z∧z < C):jy.f lf (bs (Lib.itoa z))=some (0,()):=by
 have hK: -K < z∧z < K:=by have:=gJ;omega
 have hl:=lN hK
 rw[jy.f,nD lf _ (by omega),chkK hK,bdS]
 simp only[bne_self_eq_false,brF,aa5 lf hb,bdS]
 rw[decide_eq_false (by simpa using hz),brF]
theorem of_k{z:Int}(hz: -C < z∧z < C):dO.f lf (bs (Lib.itoa z))=some ((1,bs (Lib.itoa z),()),()):=by
 rw[dO.f,aa5 lf hb,bdS]
 simp only[decide_eq_false (show ¬¬(-C < z∧z < C) by simpa using hz),brF]
theorem Of_k{z:Int}(hz: -C < z∧z < C):bK.f lf (bs (Lib.itoa z))=some ((1,bs (Lib.itoa z),()),0,()):=by
 rw[bK.f,zX lf hb hz,bdS]
 simp only[bne_self_eq_false,brF,of_k lf hb hz,bdS]
theorem yc{z:Int}(hz: -C < z∧z < C):jk.f lf (1,bs (Lib.itoa z),())=some (0,()):=by
 rw[jk.f,show decide ((1:Int) < 0)=false from rfl,brF,show decide ((1:Int) > 2)=false from rfl,brF,show((1:Int)==1)=true from rfl,brT]
 simp only[zX lf hb hz,bdS]
theorem qO{x y:Int}(hx: -C < x∧x < C)(hy: -C < y∧y < C):aV.f lf [(1,bs (Lib.itoa x),()),(1,bs (Lib.itoa y),())]=some (0,()):=by
 have hlf:=hb.1
 have z1:∀ n,aV.l0 lf [(1,bs (Lib.itoa x),()),(1,bs (Lib.itoa y),())] ((2:Nat):Int) (n+1) ((2:Nat):Int)=some (false,(0,()),(),()):=fun n=>by
  rw[aV.l0,aV.r0,ltP,decide_eq_false (by omega),brF]
 have z2:∀ n,aV.l0 lf [(1,bs (Lib.itoa x),()),(1,bs (Lib.itoa y),())] ((2:Nat):Int) (n+1+1) ((1:Nat):Int)=some (false,(0,()),(),()):=fun n=>by
  rw[aV.l0,aV.r0,ltP,decide_eq_true (by omega),brT,dV _ 1 (by simp),bdS]
  simp only[List.getElem_cons_succ,List.getElem_cons_zero,yc lf hb hy,bdS,bne_self_eq_false,brF]
  rw[wrP (by omega)];exact z1 n
 have z3:∀ n,aV.l0 lf [(1,bs (Lib.itoa x),()),(1,bs (Lib.itoa y),())] ((2:Nat):Int) (n+1+1+1) ((0:Nat):Int)=some (false,(0,()),(),()):=fun n=>by
  rw[aV.l0,aV.r0,ltP,decide_eq_true (by omega),brT,dV _ 0 (by simp),bdS]
  simp only[List.getElem_cons_zero,yc lf hb hx,bdS,bne_self_eq_false,brF]
  rw[wrP (by omega)];exact z2 n
 have:=z3 (lf+37)
 rw[show((0:Nat):Int)=0 from rfl]at this
 rw[aV.f]
 simp only[List.length_cons,List.length_nil,Nat.zero_add,show lf+37+1+1+1=lf+40 from rfl]at this⊢
 rw[this,bdS,brF]
theorem kHolds{z:Int}(hz: -C < z∧z < C):bM.f lf (1,bs (Lib.itoa z),()) (bs (Lib.itoa z))=some (true,0,()):=by
 have hK: -K < z∧z < K:=by have:=gJ;omega
 have hl:=lN hK
 rw[bM.f,yc lf hb hz,bdS]
 simp only[bne_self_eq_false,brF,nD lf _ (show(Lib.itoa z).length≤9223372036854775807 by omega),chkK hK,bdS,show((1:Int)==2)=false from rfl,BEq.rfl,aaj,decide_true,Bool.and_self,Bool.and_true]
theorem sHolds{op x y:Int}(ho:3≤op∧op≤7)(h0:op≤5∨y≠0)(hz: -K < valO op x y∧valO op x y < K):dN.f lf ((sgM op (sgn3 x) (sgn3 y):Nat):Int) (bs (Lib.itoa (valO op x y)))=some (true,0,()):=by
 have h8:=afx op _ _ (mG x) (mG y)
 rw[dN.f,iO.f,decide_eq_false (by omega),brF,decide_eq_false (by omega),brF,bdS]
 simp only[bne_self_eq_false,brF,lW lf hb hz,bdS,andm _ _ h8 (mG _) (aez ho h0)]
theorem qP{v:Vl}(hv:WfV v){z:Int}(hk: -K < z∧z < K):dF.f lf (vc v) (bs (Lib.itoa z))=some (inV v z,0,()):=by
 have h3:200000≤lf:=by have:=hb.1;omega
 rw[dF.f,(chk_wf lf hb hv).1,bdS]
 simp only[bne_self_eq_false,brF]
 simp only[show(vc v).1=ac v.a from rfl,show(vc v).2.1=cc v.c from rfl,oU lf h3 hv.a hk,rM lf hb hv.c hk,bdS,bne_self_eq_false,brF]
 unfold inV
 cases inS (ofA v.a) z with
 | false=>simp only[brF,Bool.false_and]
 | true =>
  cases inC v.c z with
  | false=>simp only[brT,brF,Bool.true_and]
  | true=>simp only[brT,BEq.rfl,Bool.true_and]
end
section
variable (lf:Nat)(hb:Big lf){v w:Vl}(hv:WfV v)(hw:WfV w)
include hb hv hw
theorem wB{op:Int}(ho:3≤op∧op≤7):di.f lf op (vc v) (vc w)=some (vc (opV op v w),0,()):=by
 have hlf:=hb.1
 have h3:200000≤lf:=by omega
 have wO:=uV hv.a hw.a ho
 have wC:=rq (op:=op) (d:=w.c) hv.c
 have rd:=aaK lf hb wO wC
 have p1:(vc v).1=ac v.a:=rfl
 have p2:(vc v).2.1=cc v.c:=rfl
 have p3:(vc w).1=ac w.a:=rfl
 have p4:(vc w).2.1=cc w.c:=rfl
 rw[di.f]
 simp only[aff lf hb hv hw,bdS,bne_self_eq_false,brF,p1,p2,p3,p4]
 rcases op3 ho with rfl | rfl | rfl | rfl | rfl
 ·rw[show((3:Int)==3)=true from rfl,brT]
  simp only[acB lf h3 hv.a hw.a,aeN lf hb hv.c hw.c,bdS,bne_self_eq_false,brF]
  rw[show opS 3 (ofA v.a) (ofA w.a)=addS (ofA v.a) (ofA w.a) from rfl,show opC 3 v.c w.c=plusC v.c w.c from rfl]at rd
  rw[rd,bdS];rfl
 ·rw[show((4:Int)==3)=false from rfl,brF,show((4:Int)==4)=true from rfl,brT]
  simp only[acF lf h3 hv.a hw.a,ae2 lf hb hv.c hw.c,bdS,bne_self_eq_false,brF]
  rw[show opS 4 (ofA v.a) (ofA w.a)=addS (ofA v.a) (turn (ofA w.a)) from rfl,show opC 4 v.c w.c=minusC v.c w.c from rfl]at rd
  rw[rd,bdS];rfl
 ·rw[show((5:Int)==3)=false from rfl,brF,show((5:Int)==4)=false from rfl,brF,show((5:Int)==5)=true from rfl,brT]
  simp only[acC lf h3 hv.a hw.a,aeS lf hb hv.c hw.c,bdS,bne_self_eq_false,brF]
  rw[show opS 5 (ofA v.a) (ofA w.a)=apS xmul (ofA v.a) (ofA w.a) from rfl,show opC 5 v.c w.c=timesC v.c w.c from rfl]at rd
  rw[rd,bdS];rfl
 ·rw[show((6:Int)==3)=false from rfl,brF,show((6:Int)==4)=false from rfl,brF,show((6:Int)==5)=false from rfl,brF,show((6:Int)==6)=true from rfl,brT]
  simp only[acD lf hlf hv.a hw.a,aeV lf hb hv.c hw.c,bdS,bne_self_eq_false,brF]
  rw[show opS 6 (ofA v.a) (ofA w.a)=quoS (ofA v.a) (ofA w.a) from rfl,show opC 6 v.c w.c=quoC v.c w.c from rfl]at rd
  rw[rd,bdS];rfl
 ·rw[show((7:Int)==3)=false from rfl,brF,show((7:Int)==4)=false from rfl,brF,show((7:Int)==5)=false from rfl,brF,show((7:Int)==6)=false from rfl,brF,show((7:Int)==7)=true from rfl,brT]
  simp only[acE lf hlf hv.a hw.a,aeY lf hb hv.c hw.c,bdS,bne_self_eq_false,brF]
  rw[show opS 7 (ofA v.a) (ofA w.a)=remS (ofA v.a) (ofA w.a) from rfl,show opC 7 v.c w.c=restC v.c w.c from rfl]at rd
  rw[rd,bdS];rfl
theorem adY{x y:Int}(cx: -C < x∧x < C)(cy: -C < y∧y < C)(cz: -C < valO 3 x y∧valO 3 x y < C):aS.f lf 3 (1,bs (Lib.itoa x),()) (1,bs (Lib.itoa y),())=some ((1,bs (Lib.itoa (valO 3 x y)),()),0,()):=by
 have hlf:=hb.1
 have h3:200000≤lf:=by omega
 have hCK:=gJ
 have bx: -K < x∧x < K:=by omega
 have by1: -K < y∧y < K:=by omega
 have hk: -K < valO 3 x y∧valO 3 x y < K:=by omega
 have ez:valO 3 x y=x+y:=rfl
 rw[ez]at hk cz⊢
 rw[aS.f]
 rw[show((3:Int)==3)=true from rfl,brT]
 rw[aS.f0]
 simp only[qO lf hb cx cy,bdS,bne_self_eq_false,brF,show((1:Int)==0)=false from rfl,oN lf h3 bx by1 hk,show((0:Int)==19)=false from rfl,of_k lf hb cz]
theorem aec{x y:Int}(cx: -C < x∧x < C)(cy: -C < y∧y < C)(i1:inV v x=true)(i2:inV w y=true):(bd (fJ.f lf (bs (Lib.itoa x)) (bs (Lib.itoa y))) fun r15=>br (r15.2.1==0) (bd (aF.f lf r15.1) fun r16=>br (!(decide (r16.1≤100))) (some (true,())) (bd (dS.f lf (bs (Lib.itoa x))) fun r18=>bd (dS.f lf (bs (Lib.itoa y))) fun r19=>bd (bK.f lf (bs (Lib.itoa x))) fun r20=>bd (bK.f lf (bs (Lib.itoa y))) fun r21=>br ((i64.wrap ((i64.wrap ((i64.wrap (r18.2.1+r19.2.1))+r20.2.1))+r21.2.1)) != 0) (some (false,())) (bd (qj.f lf r18.1 r19.1) fun r22=>bd (aS.f lf 3 r20.1 r21.1) fun r23=>bd (jG.f lf (vc v).1 (vc w).1) fun r24=>bd (iE.f lf (vc v).2.1 (vc w).2.1) fun r25=>bd (di.f lf 3 (vc v) (vc w)) fun r26=>br ((i64.wrap ((i64.wrap ((i64.wrap ((i64.wrap (r22.2.1+r23.2.1))+r24.2.1))+r25.2.1))+r26.2.1)) != 0) (some (false,())) (bd (dN.f lf r22.1 r15.1) fun r27=>bd (bM.f lf r23.1 r15.1) fun r28=>bd (bJ.f lf r24.1 r15.1) fun r29=>bd (bG.f lf r25.1 r15.1) fun r30=>bd (dF.f lf r26.1 r15.1) fun r31=>br ((i64.wrap ((i64.wrap ((i64.wrap ((i64.wrap (r27.2.1+r28.2.1))+r29.2.1))+r30.2.1))+r31.2.1))==0) (br r27.1 (br r28.1 (br r29.1 (br r30.1 (br r31.1 (some (true,())) (some (false,()))) (some (false,()))) (some (false,()))) (some (false,()))) (some (false,()))) (some (false,())))))) (some (true,())))=some (true,()):=by
 have hlf:=hb.1
 have h3:200000≤lf:=by omega
 have hCK:=gJ
 have hCD:=fV
 have bx: -K < x∧x < K:=by omega
 have by1: -K < y∧y < K:=by omega
 have ho:(3:Int)≤3∧(3:Int)≤7:=by decide
 have hk:=pR (op:=3) (x:=x) (y:=y) (by omega) (by omega) ho (.inl (by decide))
 have sh:=sHolds lf hb (x:=x) (y:=y) ho (.inl (by decide)) hk
 have iI:=vY hv hw ho (by omega) (by omega) i1 i2 (.inl (by decide))
 have iC:=tV hv hw ho i1 i2 (.inl (by decide))
 have iV:=vZ hv hw ho (by omega) (by omega) i1 i2 (.inl (by decide))
 have wI:=uV hv.a hw.a ho
 have wC:=rq (op:=3) (d:=w.c) hv.c
 have wV:=zY hv hw ho
 have hI:=oU lf h3 wI hk
 have hC:=rM lf hb wC hk
 have hV:=qP lf hb wV hk
 have oV:=wB lf hb hv hw ho
 have kk:=adY lf hb hv hw cx cy
 have kh:=kHolds lf hb (z:=valO 3 x y)
 have p1:(vc v).1=ac v.a:=rfl
 have p2:(vc v).2.1=cc v.c:=rfl
 have p3:(vc w).1=ac w.a:=rfl
 have p4:(vc w).2.1=cc w.c:=rfl
 rw[iI]at hI
 rw[iC]at hC
 rw[iV]at hV
 have ez:valO 3 x y=x+y:=rfl
 rw[ez]at hk sh hI hC hV kk kh
 rw[show opS 3 (ofA v.a) (ofA w.a)=addS (ofA v.a) (ofA w.a) from rfl]at hI
 rw[show opC 3 v.c w.c=plusC v.c w.c from rfl]at hC
 rw[oN lf h3 bx by1 hk,bdS]
 simp only[BEq.rfl,brT,pK lf hk,bdS]
 by_cases hc:sz (x+y)≤100
 ·have cz:=(sz_C _).1 hc
  rw[decide_eq_true (by omega)]
  simp only[Bool.not_true,brF,lW lf hb bx,lW lf hb by1,Of_k lf hb cx,Of_k lf hb cy,bdS,w4z,aaE lf _ _ (mG x) (mG y),kk cz,p1,p2,p3,p4,acB lf h3 hv.a hw.a,aeN lf hb hv.c hw.c,oV,w5z,sh,kh cz,hI,hC,hV,w5e,brT]
 ·rw[decide_eq_false (by omega),Bool.not_false,brT]
theorem ad3{x y:Int}(cx: -C < x∧x < C)(cy: -C < y∧y < C)(cz: -C < valO 4 x y∧valO 4 x y < C):aS.f lf 4 (1,bs (Lib.itoa x),()) (1,bs (Lib.itoa y),())=some ((1,bs (Lib.itoa (valO 4 x y)),()),0,()):=by
 have hlf:=hb.1
 have h3:200000≤lf:=by omega
 have hCK:=gJ
 have bx: -K < x∧x < K:=by omega
 have by1: -K < y∧y < K:=by omega
 have hk: -K < valO 4 x y∧valO 4 x y < K:=by omega
 have ez:valO 4 x y=x-y:=rfl
 rw[ez]at hk cz⊢
 rw[aS.f]
 rw[show((4:Int)==3)=false from rfl,brF]
 rw[show((4:Int)==4)=true from rfl,brT]
 rw[aS.f1]
 simp only[qO lf hb cx cy,bdS,bne_self_eq_false,brF,show((1:Int)==0)=false from rfl,adv lf hb bx by1 hk,show((0:Int)==19)=false from rfl,of_k lf hb cz]
theorem aeg{x y:Int}(cx: -C < x∧x < C)(cy: -C < y∧y < C)(i1:inV v x=true)(i2:inV w y=true):(bd (fM.f lf (bs (Lib.itoa x)) (bs (Lib.itoa y))) fun r15=>br (r15.2.1==0) (bd (aF.f lf r15.1) fun r16=>br (!(decide (r16.1≤100))) (some (true,())) (bd (dS.f lf (bs (Lib.itoa x))) fun r18=>bd (dS.f lf (bs (Lib.itoa y))) fun r19=>bd (bK.f lf (bs (Lib.itoa x))) fun r20=>bd (bK.f lf (bs (Lib.itoa y))) fun r21=>br ((i64.wrap ((i64.wrap ((i64.wrap (r18.2.1+r19.2.1))+r20.2.1))+r21.2.1)) != 0) (some (false,())) (bd (qw.f lf r18.1 r19.1) fun r22=>bd (aS.f lf 4 r20.1 r21.1) fun r23=>bd (jK.f lf (vc v).1 (vc w).1) fun r24=>bd (iJ.f lf (vc v).2.1 (vc w).2.1) fun r25=>bd (di.f lf 4 (vc v) (vc w)) fun r26=>br ((i64.wrap ((i64.wrap ((i64.wrap ((i64.wrap (r22.2.1+r23.2.1))+r24.2.1))+r25.2.1))+r26.2.1)) != 0) (some (false,())) (bd (dN.f lf r22.1 r15.1) fun r27=>bd (bM.f lf r23.1 r15.1) fun r28=>bd (bJ.f lf r24.1 r15.1) fun r29=>bd (bG.f lf r25.1 r15.1) fun r30=>bd (dF.f lf r26.1 r15.1) fun r31=>br ((i64.wrap ((i64.wrap ((i64.wrap ((i64.wrap (r27.2.1+r28.2.1))+r29.2.1))+r30.2.1))+r31.2.1))==0) (br r27.1 (br r28.1 (br r29.1 (br r30.1 (br r31.1 (some (true,())) (some (false,()))) (some (false,()))) (some (false,()))) (some (false,()))) (some (false,()))) (some (false,())))))) (some (true,())))=some (true,()):=by
 have hlf:=hb.1
 have h3:200000≤lf:=by omega
 have hCK:=gJ
 have hCD:=fV
 have bx: -K < x∧x < K:=by omega
 have by1: -K < y∧y < K:=by omega
 have ho:(3:Int)≤4∧(4:Int)≤7:=by decide
 have hk:=pR (op:=4) (x:=x) (y:=y) (by omega) (by omega) ho (.inl (by decide))
 have sh:=sHolds lf hb (x:=x) (y:=y) ho (.inl (by decide)) hk
 have iI:=vY hv hw ho (by omega) (by omega) i1 i2 (.inl (by decide))
 have iC:=tV hv hw ho i1 i2 (.inl (by decide))
 have iV:=vZ hv hw ho (by omega) (by omega) i1 i2 (.inl (by decide))
 have wI:=uV hv.a hw.a ho
 have wC:=rq (op:=4) (d:=w.c) hv.c
 have wV:=zY hv hw ho
 have hI:=oU lf h3 wI hk
 have hC:=rM lf hb wC hk
 have hV:=qP lf hb wV hk
 have oV:=wB lf hb hv hw ho
 have kk:=ad3 lf hb hv hw cx cy
 have kh:=kHolds lf hb (z:=valO 4 x y)
 have p1:(vc v).1=ac v.a:=rfl
 have p2:(vc v).2.1=cc v.c:=rfl
 have p3:(vc w).1=ac w.a:=rfl
 have p4:(vc w).2.1=cc w.c:=rfl
 rw[iI]at hI
 rw[iC]at hC
 rw[iV]at hV
 have ez:valO 4 x y=x-y:=rfl
 rw[ez]at hk sh hI hC hV kk kh
 rw[show opS 4 (ofA v.a) (ofA w.a)=addS (ofA v.a) (turn (ofA w.a)) from rfl]at hI
 rw[show opC 4 v.c w.c=minusC v.c w.c from rfl]at hC
 rw[adv lf hb bx by1 hk,bdS]
 simp only[BEq.rfl,brT,pK lf hk,bdS]
 by_cases hc:sz (x-y)≤100
 ·have cz:=(sz_C _).1 hc
  rw[decide_eq_true (by omega)]
  simp only[Bool.not_true,brF,lW lf hb bx,lW lf hb by1,Of_k lf hb cx,Of_k lf hb cy,bdS,w4z,aaI lf _ _ (mG x) (mG y),kk cz,p1,p2,p3,p4,acF lf h3 hv.a hw.a,ae2 lf hb hv.c hw.c,oV,w5z,sh,kh cz,hI,hC,hV,w5e,brT]
 ·rw[decide_eq_false (by omega),Bool.not_false,brT]
theorem adZ{x y:Int}(cx: -C < x∧x < C)(cy: -C < y∧y < C)(cz: -C < valO 5 x y∧valO 5 x y < C):aS.f lf 5 (1,bs (Lib.itoa x),()) (1,bs (Lib.itoa y),())=some ((1,bs (Lib.itoa (valO 5 x y)),()),0,()):=by
 have hlf:=hb.1
 have h3:200000≤lf:=by omega
 have hCK:=gJ
 have bx: -K < x∧x < K:=by omega
 have by1: -K < y∧y < K:=by omega
 have hk: -K < valO 5 x y∧valO 5 x y < K:=by omega
 have ez:valO 5 x y=x*y:=rfl
 rw[ez]at hk cz⊢
 rw[aS.f]
 rw[show((5:Int)==3)=false from rfl,brF]
 rw[show((5:Int)==4)=false from rfl,brF]
 rw[show((5:Int)==5)=true from rfl,brT]
 rw[aS.f2]
 simp only[qO lf hb cx cy,bdS,bne_self_eq_false,brF,show((1:Int)==0)=false from rfl,rU lf h3 bx by1 hk,show((0:Int)==19)=false from rfl,of_k lf hb cz]
theorem aed{x y:Int}(cx: -C < x∧x < C)(cy: -C < y∧y < C)(i1:inV v x=true)(i2:inV w y=true):(bd (gV.f lf (bs (Lib.itoa x)) (bs (Lib.itoa y))) fun r15=>br (r15.2.1==0) (bd (aF.f lf r15.1) fun r16=>br (!(decide (r16.1≤100))) (some (true,())) (bd (dS.f lf (bs (Lib.itoa x))) fun r18=>bd (dS.f lf (bs (Lib.itoa y))) fun r19=>bd (bK.f lf (bs (Lib.itoa x))) fun r20=>bd (bK.f lf (bs (Lib.itoa y))) fun r21=>br ((i64.wrap ((i64.wrap ((i64.wrap (r18.2.1+r19.2.1))+r20.2.1))+r21.2.1)) != 0) (some (false,())) (bd (oH.f lf r18.1 r19.1) fun r22=>bd (aS.f lf 5 r20.1 r21.1) fun r23=>bd (jH.f lf (vc v).1 (vc w).1) fun r24=>bd (iF.f lf (vc v).2.1 (vc w).2.1) fun r25=>bd (di.f lf 5 (vc v) (vc w)) fun r26=>br ((i64.wrap ((i64.wrap ((i64.wrap ((i64.wrap (r22.2.1+r23.2.1))+r24.2.1))+r25.2.1))+r26.2.1)) != 0) (some (false,())) (bd (dN.f lf r22.1 r15.1) fun r27=>bd (bM.f lf r23.1 r15.1) fun r28=>bd (bJ.f lf r24.1 r15.1) fun r29=>bd (bG.f lf r25.1 r15.1) fun r30=>bd (dF.f lf r26.1 r15.1) fun r31=>br ((i64.wrap ((i64.wrap ((i64.wrap ((i64.wrap (r27.2.1+r28.2.1))+r29.2.1))+r30.2.1))+r31.2.1))==0) (br r27.1 (br r28.1 (br r29.1 (br r30.1 (br r31.1 (some (true,())) (some (false,()))) (some (false,()))) (some (false,()))) (some (false,()))) (some (false,()))) (some (false,())))))) (some (true,())))=some (true,()):=by
 have hlf:=hb.1
 have h3:200000≤lf:=by omega
 have hCK:=gJ
 have hCD:=fV
 have bx: -K < x∧x < K:=by omega
 have by1: -K < y∧y < K:=by omega
 have ho:(3:Int)≤5∧(5:Int)≤7:=by decide
 have hk:=pR (op:=5) (x:=x) (y:=y) (by omega) (by omega) ho (.inl (by decide))
 have sh:=sHolds lf hb (x:=x) (y:=y) ho (.inl (by decide)) hk
 have iI:=vY hv hw ho (by omega) (by omega) i1 i2 (.inl (by decide))
 have iC:=tV hv hw ho i1 i2 (.inl (by decide))
 have iV:=vZ hv hw ho (by omega) (by omega) i1 i2 (.inl (by decide))
 have wI:=uV hv.a hw.a ho
 have wC:=rq (op:=5) (d:=w.c) hv.c
 have wV:=zY hv hw ho
 have hI:=oU lf h3 wI hk
 have hC:=rM lf hb wC hk
 have hV:=qP lf hb wV hk
 have oV:=wB lf hb hv hw ho
 have kk:=adZ lf hb hv hw cx cy
 have kh:=kHolds lf hb (z:=valO 5 x y)
 have p1:(vc v).1=ac v.a:=rfl
 have p2:(vc v).2.1=cc v.c:=rfl
 have p3:(vc w).1=ac w.a:=rfl
 have p4:(vc w).2.1=cc w.c:=rfl
 rw[iI]at hI
 rw[iC]at hC
 rw[iV]at hV
 have ez:valO 5 x y=x*y:=rfl
 rw[ez]at hk sh hI hC hV kk kh
 rw[show opS 5 (ofA v.a) (ofA w.a)=apS xmul (ofA v.a) (ofA w.a) from rfl]at hI
 rw[show opC 5 v.c w.c=timesC v.c w.c from rfl]at hC
 rw[rU lf h3 bx by1 hk,bdS]
 simp only[BEq.rfl,brT,pK lf hk,bdS]
 by_cases hc:sz (x*y)≤100
 ·have cz:=(sz_C _).1 hc
  rw[decide_eq_true (by omega)]
  simp only[Bool.not_true,brF,lW lf hb bx,lW lf hb by1,Of_k lf hb cx,Of_k lf hb cy,bdS,w4z,aaF lf _ _ (mG x) (mG y),kk cz,p1,p2,p3,p4,acC lf h3 hv.a hw.a,aeS lf hb hv.c hw.c,oV,w5z,sh,kh cz,hI,hC,hV,w5e,brT]
 ·rw[decide_eq_false (by omega),Bool.not_false,brT]
theorem ad1{x y:Int}(cx: -C < x∧x < C)(cy: -C < y∧y < C)(h0:y≠0)(cz: -C < valO 6 x y∧valO 6 x y < C):aS.f lf 6 (1,bs (Lib.itoa x),()) (1,bs (Lib.itoa y),())=some ((1,bs (Lib.itoa (valO 6 x y)),()),0,()):=by
 have hlf:=hb.1
 have h3:200000≤lf:=by omega
 have hCK:=gJ
 have bx: -K < x∧x < K:=by omega
 have by1: -K < y∧y < K:=by omega
 have hk: -K < valO 6 x y∧valO 6 x y < K:=by omega
 have ez:valO 6 x y=x.fdiv y:=rfl
 rw[ez]at hk cz⊢
 rw[aS.f]
 rw[show((6:Int)==3)=false from rfl,brF]
 rw[show((6:Int)==4)=false from rfl,brF]
 rw[show((6:Int)==5)=false from rfl,brF]
 rw[show((6:Int)==6)=true from rfl,brT]
 rw[aS.f3]
 simp only[qO lf hb cx cy,bdS,bne_self_eq_false,brF,show((1:Int)==0)=false from rfl,qg lf hlf bx by1 h0,show((0:Int)==19)=false from rfl,of_k lf hb cz]
theorem aee{x y:Int}(cx: -C < x∧x < C)(cy: -C < y∧y < C)(i1:inV v x=true)(i2:inV w y=true):(bd (fK.f lf (bs (Lib.itoa x)) (bs (Lib.itoa y))) fun r15=>br (r15.2.1==0) (bd (aF.f lf r15.1) fun r16=>br (!(decide (r16.1≤100))) (some (true,())) (bd (dS.f lf (bs (Lib.itoa x))) fun r18=>bd (dS.f lf (bs (Lib.itoa y))) fun r19=>bd (bK.f lf (bs (Lib.itoa x))) fun r20=>bd (bK.f lf (bs (Lib.itoa y))) fun r21=>br ((i64.wrap ((i64.wrap ((i64.wrap (r18.2.1+r19.2.1))+r20.2.1))+r21.2.1)) != 0) (some (false,())) (bd (qm.f lf r18.1 r19.1) fun r22=>bd (aS.f lf 6 r20.1 r21.1) fun r23=>bd (jI.f lf (vc v).1 (vc w).1) fun r24=>bd (iG.f lf (vc v).2.1 (vc w).2.1) fun r25=>bd (di.f lf 6 (vc v) (vc w)) fun r26=>br ((i64.wrap ((i64.wrap ((i64.wrap ((i64.wrap (r22.2.1+r23.2.1))+r24.2.1))+r25.2.1))+r26.2.1)) != 0) (some (false,())) (bd (dN.f lf r22.1 r15.1) fun r27=>bd (bM.f lf r23.1 r15.1) fun r28=>bd (bJ.f lf r24.1 r15.1) fun r29=>bd (bG.f lf r25.1 r15.1) fun r30=>bd (dF.f lf r26.1 r15.1) fun r31=>br ((i64.wrap ((i64.wrap ((i64.wrap ((i64.wrap (r27.2.1+r28.2.1))+r29.2.1))+r30.2.1))+r31.2.1))==0) (br r27.1 (br r28.1 (br r29.1 (br r30.1 (br r31.1 (some (true,())) (some (false,()))) (some (false,()))) (some (false,()))) (some (false,()))) (some (false,()))) (some (false,())))))) (some (true,())))=some (true,()):=by
 have hlf:=hb.1
 have h3:200000≤lf:=by omega
 have hCK:=gJ
 have hCD:=fV
 have bx: -K < x∧x < K:=by omega
 have by1: -K < y∧y < K:=by omega
 by_cases h0:y=0
 ·have e0:fK.f lf (bs (Lib.itoa x)) (bs (Lib.itoa y))=some (bs [],19,()):=by
   rw[aeW lf hlf _ _ (chkK bx) (chkK by1),dm,if_pos h0]
  rw[e0,bdS,show((19:Int)==0)=false from rfl,brF]
 have ho:(3:Int)≤6∧(6:Int)≤7:=by decide
 have hk:=pR (op:=6) (x:=x) (y:=y) (by omega) (by omega) ho (.inr h0)
 have sh:=sHolds lf hb (x:=x) (y:=y) ho (.inr h0) hk
 have iI:=vY hv hw ho (by omega) (by omega) i1 i2 (.inr h0)
 have iC:=tV hv hw ho i1 i2 (.inr h0)
 have iV:=vZ hv hw ho (by omega) (by omega) i1 i2 (.inr h0)
 have wI:=uV hv.a hw.a ho
 have wC:=rq (op:=6) (d:=w.c) hv.c
 have wV:=zY hv hw ho
 have hI:=oU lf h3 wI hk
 have hC:=rM lf hb wC hk
 have hV:=qP lf hb wV hk
 have oV:=wB lf hb hv hw ho
 have kk:=ad1 lf hb hv hw cx cy h0
 have kh:=kHolds lf hb (z:=valO 6 x y)
 have p1:(vc v).1=ac v.a:=rfl
 have p2:(vc v).2.1=cc v.c:=rfl
 have p3:(vc w).1=ac w.a:=rfl
 have p4:(vc w).2.1=cc w.c:=rfl
 rw[iI]at hI
 rw[iC]at hC
 rw[iV]at hV
 have ez:valO 6 x y=x.fdiv y:=rfl
 rw[ez]at hk sh hI hC hV kk kh
 rw[show opS 6 (ofA v.a) (ofA w.a)=quoS (ofA v.a) (ofA w.a) from rfl]at hI
 rw[show opC 6 v.c w.c=quoC v.c w.c from rfl]at hC
 rw[qg lf hlf bx by1 h0,bdS]
 simp only[BEq.rfl,brT,pK lf hk,bdS]
 by_cases hc:sz (x.fdiv y)≤100
 ·have cz:=(sz_C _).1 hc
  rw[decide_eq_true (by omega)]
  simp only[Bool.not_true,brF,lW lf hb bx,lW lf hb by1,Of_k lf hb cx,Of_k lf hb cy,bdS,w4z,aaG lf _ _ (mG x) (mG y),kk cz,p1,p2,p3,p4,acD lf hlf hv.a hw.a,aeV lf hb hv.c hw.c,oV,w5z,sh,kh cz,hI,hC,hV,w5e,brT]
 ·rw[decide_eq_false (by omega),Bool.not_false,brT]
theorem ad2{x y:Int}(cx: -C < x∧x < C)(cy: -C < y∧y < C)(h0:y≠0)(cz: -C < valO 7 x y∧valO 7 x y < C):aS.f lf 7 (1,bs (Lib.itoa x),()) (1,bs (Lib.itoa y),())=some ((1,bs (Lib.itoa (valO 7 x y)),()),0,()):=by
 have hlf:=hb.1
 have h3:200000≤lf:=by omega
 have hCK:=gJ
 have bx: -K < x∧x < K:=by omega
 have by1: -K < y∧y < K:=by omega
 have hk: -K < valO 7 x y∧valO 7 x y < K:=by omega
 have ez:valO 7 x y=x.fmod y:=rfl
 rw[ez]at hk cz⊢
 rw[aS.f]
 rw[show((7:Int)==3)=false from rfl,brF]
 rw[show((7:Int)==4)=false from rfl,brF]
 rw[show((7:Int)==5)=false from rfl,brF]
 rw[show((7:Int)==6)=false from rfl,brF]
 rw[show((7:Int)==7)=true from rfl,brT]
 rw[aS.f4]
 simp only[qO lf hb cx cy,bdS,bne_self_eq_false,brF,show((1:Int)==0)=false from rfl,jr lf hlf bx by1 h0,show((0:Int)==19)=false from rfl,of_k lf hb cz]
theorem aef{x y:Int}(cx: -C < x∧x < C)(cy: -C < y∧y < C)(i1:inV v x=true)(i2:inV w y=true):(bd (dA.f lf (bs (Lib.itoa x)) (bs (Lib.itoa y))) fun r15=>br (r15.2.1==0) (bd (aF.f lf r15.1) fun r16=>br (!(decide (r16.1≤100))) (some (true,())) (bd (dS.f lf (bs (Lib.itoa x))) fun r18=>bd (dS.f lf (bs (Lib.itoa y))) fun r19=>bd (bK.f lf (bs (Lib.itoa x))) fun r20=>bd (bK.f lf (bs (Lib.itoa y))) fun r21=>br ((i64.wrap ((i64.wrap ((i64.wrap (r18.2.1+r19.2.1))+r20.2.1))+r21.2.1)) != 0) (some (false,())) (bd (qo.f lf r18.1 r19.1) fun r22=>bd (aS.f lf 7 r20.1 r21.1) fun r23=>bd (jJ.f lf (vc v).1 (vc w).1) fun r24=>bd (iH.f lf (vc v).2.1 (vc w).2.1) fun r25=>bd (di.f lf 7 (vc v) (vc w)) fun r26=>br ((i64.wrap ((i64.wrap ((i64.wrap ((i64.wrap (r22.2.1+r23.2.1))+r24.2.1))+r25.2.1))+r26.2.1)) != 0) (some (false,())) (bd (dN.f lf r22.1 r15.1) fun r27=>bd (bM.f lf r23.1 r15.1) fun r28=>bd (bJ.f lf r24.1 r15.1) fun r29=>bd (bG.f lf r25.1 r15.1) fun r30=>bd (dF.f lf r26.1 r15.1) fun r31=>br ((i64.wrap ((i64.wrap ((i64.wrap ((i64.wrap (r27.2.1+r28.2.1))+r29.2.1))+r30.2.1))+r31.2.1))==0) (br r27.1 (br r28.1 (br r29.1 (br r30.1 (br r31.1 (some (true,())) (some (false,()))) (some (false,()))) (some (false,()))) (some (false,()))) (some (false,()))) (some (false,())))))) (some (true,())))=some (true,()):=by
 have hlf:=hb.1
 have h3:200000≤lf:=by omega
 have hCK:=gJ
 have hCD:=fV
 have bx: -K < x∧x < K:=by omega
 have by1: -K < y∧y < K:=by omega
 by_cases h0:y=0
 ·have e0:dA.f lf (bs (Lib.itoa x)) (bs (Lib.itoa y))=some (bs [],19,()):=by
   rw[aeZ lf hlf _ _ (chkK bx) (chkK by1),dm,if_pos h0]
  rw[e0,bdS,show((19:Int)==0)=false from rfl,brF]
 have ho:(3:Int)≤7∧(7:Int)≤7:=by decide
 have hk:=pR (op:=7) (x:=x) (y:=y) (by omega) (by omega) ho (.inr h0)
 have sh:=sHolds lf hb (x:=x) (y:=y) ho (.inr h0) hk
 have iI:=vY hv hw ho (by omega) (by omega) i1 i2 (.inr h0)
 have iC:=tV hv hw ho i1 i2 (.inr h0)
 have iV:=vZ hv hw ho (by omega) (by omega) i1 i2 (.inr h0)
 have wI:=uV hv.a hw.a ho
 have wC:=rq (op:=7) (d:=w.c) hv.c
 have wV:=zY hv hw ho
 have hI:=oU lf h3 wI hk
 have hC:=rM lf hb wC hk
 have hV:=qP lf hb wV hk
 have oV:=wB lf hb hv hw ho
 have kk:=ad2 lf hb hv hw cx cy h0
 have kh:=kHolds lf hb (z:=valO 7 x y)
 have p1:(vc v).1=ac v.a:=rfl
 have p2:(vc v).2.1=cc v.c:=rfl
 have p3:(vc w).1=ac w.a:=rfl
 have p4:(vc w).2.1=cc w.c:=rfl
 rw[iI]at hI
 rw[iC]at hC
 rw[iV]at hV
 have ez:valO 7 x y=x.fmod y:=rfl
 rw[ez]at hk sh hI hC hV kk kh
 rw[show opS 7 (ofA v.a) (ofA w.a)=remS (ofA v.a) (ofA w.a) from rfl]at hI
 rw[show opC 7 v.c w.c=restC v.c w.c from rfl]at hC
 rw[jr lf hlf bx by1 h0,bdS]
 simp only[BEq.rfl,brT,pK lf hk,bdS]
 by_cases hc:sz (x.fmod y)≤100
 ·have cz:=(sz_C _).1 hc
  rw[decide_eq_true (by omega)]
  simp only[Bool.not_true,brF,lW lf hb bx,lW lf hb by1,Of_k lf hb cx,Of_k lf hb cy,bdS,w4z,aaH lf _ _ (mG x) (mG y),kk cz,p1,p2,p3,p4,acE lf hlf hv.a hw.a,aeY lf hb hv.c hw.c,oV,w5z,sh,kh cz,hI,hC,hV,w5e,brT]
 ·rw[decide_eq_false (by omega),Bool.not_false,brT]
end
theorem afE(a:Int×VV×VV×ByteArray×ByteArray×Unit):∃ lf,bD.f lf a=some (true,()):=by
 obtain⟨lf,hb⟩:=bigE
 refine⟨lf,?_⟩
 obtain⟨op,A,B,X,Y,⟨⟩⟩:=a
 rw[bD.f]
 by_cases o3:op=3
 ·subst o3
  rw[show((3:Int)==3)=true from rfl,brT,bD.f0]
  simp only[playV,bdS]
  refine qy lf hb _ fun v w x y e1 e2 hv hw e3 e4 cx cy i1 i2=>?_
  subst e1 e2 e3 e4
  exact aec lf hb hv hw cx cy i1 i2
 rw[show(op==3)=false by simpa using o3,brF]
 by_cases o4:op=4
 ·subst o4
  rw[show((4:Int)==4)=true from rfl,brT,bD.f1]
  simp only[playV,bdS]
  refine qy lf hb _ fun v w x y e1 e2 hv hw e3 e4 cx cy i1 i2=>?_
  subst e1 e2 e3 e4
  exact aeg lf hb hv hw cx cy i1 i2
 rw[show(op==4)=false by simpa using o4,brF]
 by_cases o5:op=5
 ·subst o5
  rw[show((5:Int)==5)=true from rfl,brT,bD.f2]
  simp only[playV,bdS]
  refine qy lf hb _ fun v w x y e1 e2 hv hw e3 e4 cx cy i1 i2=>?_
  subst e1 e2 e3 e4
  exact aed lf hb hv hw cx cy i1 i2
 rw[show(op==5)=false by simpa using o5,brF]
 by_cases o6:op=6
 ·subst o6
  rw[show((6:Int)==6)=true from rfl,brT,bD.f3]
  simp only[playV,bdS]
  refine qy lf hb _ fun v w x y e1 e2 hv hw e3 e4 cx cy i1 i2=>?_
  subst e1 e2 e3 e4
  exact aee lf hb hv hw cx cy i1 i2
 rw[show(op==6)=false by simpa using o6,brF]
 by_cases o7:op=7
 ·subst o7
  rw[show((7:Int)==7)=true from rfl,brT,bD.f4]
  simp only[playV,bdS]
  refine qy lf hb _ fun v w x y e1 e2 hv hw e3 e4 cx cy i1 i2=>?_
  subst e1 e2 e3 e4
  exact aef lf hb hv hw cx cy i1 i2
 rw[show(op==7)=false by simpa using o7,brF]
 rw[bD.fE]
 simp only[playV,bdS]
 refine qy lf hb _ fun v w x y e1 e2 hv hw e3 e4 cx cy i1 i2=>?_
 simp only[show(op==3)=false by simpa using o3,show(op==4)=false by simpa using o4,show(op==5)=false by simpa using o5,show(op==6)=false by simpa using o6,show(op==7)=false by simpa using o7,brF]
end Go.N
namespace Go.Q
open Go Go.RowKit Go.ChangeShapes Go.WideShapes
def flat:Ty→Bool
 | .sl _=>false
 | .pair a b=>flat a&&flat b
 | _=>true
def partsOf(P:Program)(t:TypeId):List (TypeId×Nat):=match P.underlying t with
 | some (.struct fs)=>fs.toList.map fun f=>(f.type,f.offset)
 | some (.array n e)=>(List.range n).map fun i=>(e,i*P.cellsOf e)
 | _=>[]
mutual
def fitT(P:Program):Ty→TypeId→Bool
 | .int k,t=>match P.underlying t with
  | some (.int k')=>decide (k'=k)
  | _=>false
 | .bool,t=>match P.underlying t with
  | some .bool=>true
  | _=>false
 | .str,t=>match P.underlying t with
  | some .string=>true
  | _=>false
 | .unit,_=>false
 | .nul,_=>false
 | .rc _,_=>false
 | .pair a b,t=>match partsOf P t with
  | p::r=>p.2==0&&(fitT P a p.1&&(P.cellsOf p.1==a.n&&(fitL P b r a.n&&P.cellsOf t==a.n+b.n)))
  | []=>false
 | .sl e,t=>match P.underlying t with
  | some (.slice e')=>fitT P e e'&&(flat e&&P.cellsOf e'==e.n)
  | _=>false
def fitL(P:Program):Ty→List (TypeId×Nat)→Nat→Bool
 | .unit,l,_=>match l with
  | []=>true
  | _=>false
 | .pair a b,l,k=>match l with
  | p::r=>p.2==k&&(fitT P a p.1&&(P.cellsOf p.1==a.n&&fitL P b r (k+a.n)))
  | []=>false
 | _,_,_=>false
end
def Bnd:(T:Ty)→T.α→Prop
 | .int k,x=>k.min≤x∧x≤k.max
 | .str,x=>x.size≤9223372036854775807
 | .pair a b,x=>Bnd a x.1∧Bnd b x.2
 | .sl e,l=>l.length≤9223372036854775807∧∀ y∈l,Bnd e y
 | _,_=>True
def Bnds:(ps:List Ty)→Tys ps→Prop
 | [],_=>True
 | t::ts,x=>Bnd t x.1∧Bnds ts x.2
section
variable {H:Type}{enc:TypeId×Value→H}{P:Program}{w:World}{F:Nat→Prop}{sp:Nat→Bool}{held:Bool}
theorem wM{t:TypeId}{fuel:Nat}{cs:List Value}{x:DataW H×List MemPlace}(hp:partsOf P t≠[])(h:DataW.trod enc P w 0 sp held fuel t cs=some x):
  cs.length=P.cellsOf t∧∃ n,∀ p∈partsOf P t,∃ y,DataW.trod enc P w 0 sp held n p.1 ((cs.drop p.2).take (P.cellsOf p.1))=some y:=by
 unfold partsOf at hp⊢
 split at hp
 ·rename_i fs hu
  obtain⟨xs,n,_,_,hl,hxl,hf⟩:=DataW.trod_struct hu h
  refine⟨hl,n,fun p hm=>?_⟩
  simp only[List.mem_map]at hm
  obtain⟨f,hfm,rfl⟩:=hm
  obtain⟨i,hi,he⟩:=List.mem_iff_getElem.1 hfm
  have h1:fs[i]? = some f:=by
   have:fs.toList[i]? = some f:=by rw[List.getElem?_eq_getElem hi,he]
   simpa using this
  have h2:i < xs.length:=by
   rw[hxl];simpa using hi
  exact⟨xs[i],by rw[hf i f h1,List.getElem?_eq_getElem h2]⟩
 ·rename_i n e hu
  obtain⟨xs,m,_,_,hl,hxl,hf⟩:=DataW.trod_array hu h
  refine⟨hl,m,fun p hm=>?_⟩
  simp only[List.mem_map,List.mem_range]at hm
  obtain⟨i,hi,rfl⟩:=hm
  exact⟨xs[i],by rw[hf i hi,List.getElem?_eq_getElem (by omega)]⟩
 ·exact absurd rfl hp
mutual
theorem nU:∀ (T:Ty) (t:TypeId) (cs:List Value) (x:DataW H×List MemPlace) (fuel:Nat),flat T=true→fitT P T t=true→DataW.trod enc P w 0 sp held fuel t cs=some x→∃ y:T.α,DR F w T y cs∧Bnd T y
 | .int k,t,cs,x,fuel,_,hf,h=>by
  unfold fitT at hf
  split at hf
  ·rename_i k' hu
   obtain rfl:k'=k:=by simpa using hf
   obtain⟨n,rfl,_,hw⟩:=DataW.trod_int hu h
   exact⟨n,rfl,by simpa [Lit.wf,Bnd]using hw⟩
  ·cases hf
 | .bool,t,cs,x,fuel,_,hf,h=>by
  unfold fitT at hf
  split at hf
  ·rename_i hu
   obtain⟨b,rfl,_⟩:=DataW.trod_bool hu h
   exact⟨b,rfl,trivial⟩
  ·cases hf
 | .str,t,cs,x,fuel,_,hf,h=>by
  unfold fitT at hf
  split at hf
  ·rename_i hu
   obtain⟨s,rfl,_,hs⟩:=DataW.trod_string hu h
   exact⟨s,rfl,by simpa [maxLen,Bnd]using hs⟩
  ·cases hf
 | .unit,t,cs,x,fuel,_,hf,h=>by simp[fitT]at hf
 | .nul,t,cs,x,fuel,_,hf,h=>by simp[fitT]at hf
 | .rc _,t,cs,x,fuel,_,hf,h=>by simp[fitT]at hf
 | .sl e,t,cs,x,fuel,hfl,_,_=>by simp[flat]at hfl
 | .pair a b,t,cs,x,fuel,hfl,hf,h=>by
  unfold fitT at hf
  split at hf
  ·rename_i p r hp
   simp only[Bool.and_eq_true,beq_iff_eq]at hf
   obtain⟨h0,h1,h2,h3,h4⟩:=hf
   simp only[flat,Bool.and_eq_true]at hfl
   obtain⟨hl,n,hm⟩:=wM (by rw[hp];simp) h
   rw[hp]at hm
   obtain⟨y0,hy0⟩:=hm p (by simp)
   rw[h0,h2]at hy0
   obtain⟨u,d1,b1⟩:=nU a p.1 _ _ n hfl.1 h1 hy0
   obtain⟨v,d2,b2⟩:=zI b r a.n cs n hfl.2 h3 (fun q hq=>hm q (by simp[hq])) (by omega)
   refine⟨(u,v),⟨_,_,?_,d1,d2⟩,b1,b2⟩
   have e:(cs.drop a.n).take b.n=cs.drop a.n:=List.take_of_length_le (by rw[List.length_drop];omega)
   rw[e];simp
  ·cases hf
theorem zI:∀ (T:Ty) (l:List (TypeId×Nat)) (k:Nat) (cs:List Value) (n:Nat),flat T=true→fitL P T l k=true→(∀ p∈l,∃ y,DataW.trod enc P w 0 sp held n p.1 ((cs.drop p.2).take (P.cellsOf p.1))=some y)→k+T.n≤cs.length→∃ y:T.α,DR F w T y ((cs.drop k).take T.n)∧Bnd T y
 | .int k',l,k,cs,n,_,hf,_,_=>by simp[fitL]at hf
 | .bool,l,k,cs,n,_,hf,_,_=>by simp[fitL]at hf
 | .str,l,k,cs,n,_,hf,_,_=>by simp[fitL]at hf
 | .nul,l,k,cs,n,_,hf,_,_=>by simp[fitL]at hf
 | .rc _,l,k,cs,n,_,hf,_,_=>by simp[fitL]at hf
 | .sl _,l,k,cs,n,_,hf,_,_=>by simp[fitL]at hf
 | .unit,l,k,cs,n,_,hf,_,_=>⟨(),by simp[DR,Ty.n],trivial⟩
 | .pair a b,l,k,cs,n,hfl,hf,hm,hk=>by
  unfold fitL at hf
  split at hf
  ·rename_i p r
   simp only[Bool.and_eq_true,beq_iff_eq]at hf
   obtain⟨h0,h1,h2,h3⟩:=hf
   simp only[flat,Bool.and_eq_true]at hfl
   simp only[Ty.n]at hk
   obtain⟨y0,hy0⟩:=hm p (by simp)
   rw[h0,h2]at hy0
   obtain⟨u,d1,b1⟩:=nU a p.1 _ _ n hfl.1 h1 hy0
   obtain⟨v,d2,b2⟩:=zI b r (k+a.n) cs n hfl.2 h3 (fun q hq=>hm q (by simp[hq])) (by omega)
   refine⟨(u,v),⟨_,_,?_,d1,d2⟩,b1,b2⟩
   simp only[Ty.n]
   rw[List.take_add,List.drop_drop]
  ·cases hf
end
theorem yL{α:Type}{R:Nat→α→Prop}:∀ (n:Nat),(∀ i,i < n→∃ y,R i y)→∃ l:List α,l.length=n∧∀ (i:Nat) (y:α),l[i]? = some y→R i y
 | 0,_=>⟨[],rfl,fun i y h=>by simp at h⟩
 | n+1,h=>by
  obtain⟨l,hl,hr⟩:=yL n fun i hi=>h i (by omega)
  obtain⟨y,hy⟩:=h n (by omega)
  refine⟨l++[y],by simp[hl],fun i z hz=>?_⟩
  by_cases hi:i < l.length
  ·rw[List.getElem?_append_left hi]at hz;exact hr i z hz
  ·rw[List.getElem?_append_right (by omega)]at hz
   have:i=l.length:=by
    by_cases e:i-l.length=0
    ·omega
    ·obtain⟨q,hq⟩:=Nat.exists_eq_succ_of_ne_zero e
     rw[hq]at hz;simp at hz
   subst this
   simp only[Nat.sub_self,List.getElem?_cons_zero,Option.some.injEq]at hz
   subst hz;rw[hl];exact hy
def topS:Ty→Bool
 | .sl e=>flat e
 | .pair a b=>topS a&&topS b
 | T=>flat T
def topOK:Ty→Bool
 | .sl e=>flat e
 | T=>topS T
theorem sZ(b o n:Nat):(Addr.add ⟨b,o,none⟩ n)=⟨b,o+n,none⟩:=by
 unfold Addr.add;split
 ·rename_i h;rw[h];rfl
 ·rfl
theorem xG{i:Nat}{q:TypeId×Nat}(h:w.shape? i=some q):IsC w i:=by
 unfold World.shape? at h
 unfold IsC
 cases hb:w.heap[i]? with
 | none=>rw[hb]at h;simp at h
 | some o=>cases o<;>rw[hb]at h<;>simp_all
def SlOK(w:World)(v:Value):Prop:=∀ a len cap,v=.slice (some a) len cap→a.spot=none∧IsC w a.block
theorem ab4{base:Nat}{u:TypeId}{v:Value}(h:Cell.okWide P w .any base u v):SlOK w v:=by
 rintro a len cap rfl
 cases hu:P.underlying u with
 | none=>simp[Cell.okWide,Cell.ok,hu]at h
 | some d =>
  cases d<;>simp only[Cell.okWide,Cell.ok,hu]at h
  case slice e =>
   obtain⟨_,hspot,row,cells,hsh,_⟩:=h.2.2
   exact⟨hspot,xG hsh⟩
mutual
theorem aao:∀ (T:Ty) (t:TypeId) (cs:List Value) (x:DataW H×List MemPlace) (fuel:Nat),topS T=true→fitT P T t=true→(∀ v∈cs,SlOK w v)→DataW.trod enc P w 0 sp held fuel t cs=some x→∃ y:T.α,DR (IsC w) w T y cs∧Bnd T y
 | .int k,t,cs,x,fuel,_,hf,_,h=>nU (.int k) t cs x fuel rfl hf h
 | .bool,t,cs,x,fuel,_,hf,_,h=>nU .bool t cs x fuel rfl hf h
 | .str,t,cs,x,fuel,_,hf,_,h=>nU .str t cs x fuel rfl hf h
 | .unit,t,cs,x,fuel,_,hf,_,h=>by simp[fitT]at hf
 | .nul,t,cs,x,fuel,_,hf,_,h=>by simp[fitT]at hf
 | .rc _,t,cs,x,fuel,_,hf,_,h=>by simp[fitT]at hf
 | .sl e,t,cs,x,fuel,_,hf,hok,h=>by
  unfold fitT at hf
  split at hf
  ·rename_i e' hu
   simp only[Bool.and_eq_true,beq_iff_eq]at hf
   obtain⟨h1,h2,h3⟩:=hf
   rcases DataW.trod_slice hu h with⟨hc,_⟩ | ⟨a',len',cap',elems,rest,n,_,hc,_,_,hle,hcm,hel,hread,_⟩
   ·subst hc
    exact⟨[],⟨_,rfl,.inl ⟨rfl,rfl⟩⟩,by simp[Bnd]⟩
   ·subst hc
    obtain⟨hspot,hisc⟩:=hok _ (List.mem_cons_self ..) a' len' cap' rfl
    obtain⟨b,o,s⟩:=a'
    simp only at hspot hisc;subst hspot
    obtain⟨l,hl,hr⟩:=yL (α:=e.α) (R:=fun i y=>(∃ ds:List Value,DR (IsC w) w e y ds∧∀ (j:Nat) (d:Value),ds[j]? = some d→w.cell? ⟨b,o+(i*e.n+j),none⟩=some d)∧Bnd e y) len' fun i hi=>by
     have hq:=hread i hi
     rw[List.getElem?_eq_getElem (by omega),Option.bind_eq_some_iff]at hq
     obtain⟨cs,c1,c2⟩:=hq
     obtain⟨y,k1,k2⟩:=nU (F:=IsC w) e e' cs _ n h2 h1 c2
     refine⟨y,⟨cs,k1,fun j d' hd=>?_⟩,k2⟩
     obtain⟨_,m1,m2⟩:=World.cells?_some c1
     have hj:j < cs.length:=(List.getElem?_eq_some_iff.1 hd).1
     have:=m2 j (by omega)
     rw[sZ,sZ,h3]at this
     rw[←Nat.add_assoc,this];exact hd
    refine⟨l,⟨_,rfl,.inr ⟨b,o,cap',by rw[hl],hisc,by omega,fun i x hx=>(hr i x hx).1⟩⟩,?_,?_⟩
    ·rw[hl];simp only[maxLen]at hcm;omega
    ·intro y hy
     obtain⟨i,hi,he⟩:=List.mem_iff_getElem.1 hy
     exact(hr i y (by rw[List.getElem?_eq_getElem hi,he])).2
  ·cases hf
 | .pair a b,t,cs,x,fuel,hfl,hf,hok,h=>by
  unfold fitT at hf
  split at hf
  ·rename_i p r hp
   simp only[Bool.and_eq_true,beq_iff_eq]at hf
   obtain⟨h0,h1,h2,h3,h4⟩:=hf
   simp only[topS,Bool.and_eq_true]at hfl
   obtain⟨hl,n,hm⟩:=wM (by rw[hp];simp) h
   rw[hp]at hm
   obtain⟨y0,hy0⟩:=hm p (by simp)
   rw[h0,h2]at hy0
   obtain⟨u,d1,b1⟩:=aao a p.1 _ _ n hfl.1 h1 (fun v hv=>hok v (List.mem_of_mem_drop (List.mem_of_mem_take hv))) hy0
   obtain⟨v,d2,b2⟩:=aaU b r a.n cs n hfl.2 h3 hok (fun q hq=>hm q (by simp[hq])) (by omega)
   refine⟨(u,v),⟨_,_,?_,d1,d2⟩,b1,b2⟩
   have e:(cs.drop a.n).take b.n=cs.drop a.n:=List.take_of_length_le (by rw[List.length_drop];omega)
   rw[e];simp
  ·cases hf
theorem aaU:∀ (T:Ty) (l:List (TypeId×Nat)) (k:Nat) (cs:List Value) (n:Nat),topS T=true→fitL P T l k=true→(∀ v∈cs,SlOK w v)→(∀ p∈l,∃ y,DataW.trod enc P w 0 sp held n p.1 ((cs.drop p.2).take (P.cellsOf p.1))=some y)→k+T.n≤cs.length→∃ y:T.α,DR (IsC w) w T y ((cs.drop k).take T.n)∧Bnd T y
 | .int k',l,k,cs,n,_,hf,_,_,_=>by simp[fitL]at hf
 | .bool,l,k,cs,n,_,hf,_,_,_=>by simp[fitL]at hf
 | .str,l,k,cs,n,_,hf,_,_,_=>by simp[fitL]at hf
 | .nul,l,k,cs,n,_,hf,_,_,_=>by simp[fitL]at hf
 | .rc _,l,k,cs,n,_,hf,_,_,_=>by simp[fitL]at hf
 | .sl _,l,k,cs,n,_,hf,_,_,_=>by simp[fitL]at hf
 | .unit,l,k,cs,n,_,hf,_,_,_=>⟨(),by simp[DR,Ty.n],trivial⟩
 | .pair a b,l,k,cs,n,hfl,hf,hok,hm,hk=>by
  unfold fitL at hf
  split at hf
  ·rename_i p r
   simp only[Bool.and_eq_true,beq_iff_eq]at hf
   obtain⟨h0,h1,h2,h3⟩:=hf
   simp only[topS,Bool.and_eq_true]at hfl
   simp only[Ty.n]at hk
   obtain⟨y0,hy0⟩:=hm p (by simp)
   rw[h0,h2]at hy0
   obtain⟨u,d1,b1⟩:=aao a p.1 _ _ n hfl.1 h1 (fun v hv=>hok v (List.mem_of_mem_drop (List.mem_of_mem_take hv))) hy0
   obtain⟨v,d2,b2⟩:=aaU b r (k+a.n) cs n hfl.2 h3 hok (fun q hq=>hm q (by simp[hq])) (by omega)
   refine⟨(u,v),⟨_,_,?_,d1,d2⟩,b1,b2⟩
   simp only[Ty.n]
   rw[List.take_add,List.drop_drop]
  ·cases hf
end
theorem zk{T:Ty}{t:TypeId}{v:Value}{d:DataW H}{p:List MemPlace}{base:Nat}(ht:topOK T=true)(hf:fitT P T t=true)(hv:Value.okWide P w .any base t v)(h:DataW.Trod enc P w 0 sp held t v d p):∃ y:T.α,ValR (IsC w) w T y v∧Bnd T y:=by
 obtain⟨fuel,h⟩:=h
 unfold ValR
 cases T with
 | int k =>
  obtain⟨y,h1,h2⟩:=nU (F:=IsC w) (.int k) t _ _ fuel rfl hf h
  unfold fitT at hf
  split at hf
  ·rename_i k' hu
   obtain⟨n,rfl⟩:=okWide_int hu hv
   exact⟨y,by rw[if_neg (by simp[isSt])];simpa [Value.cells]using h1,h2⟩
  ·cases hf
 | bool =>
  obtain⟨y,h1,h2⟩:=nU (F:=IsC w) .bool t _ _ fuel rfl hf h
  unfold fitT at hf
  split at hf
  ·rename_i hu
   obtain⟨n,rfl⟩:=okWide_bool hu hv
   exact⟨y,by rw[if_neg (by simp[isSt])];simpa [Value.cells]using h1,h2⟩
  ·cases hf
 | str =>
  obtain⟨y,h1,h2⟩:=nU (F:=IsC w) .str t _ _ fuel rfl hf h
  unfold fitT at hf
  split at hf
  ·rename_i hu
   obtain⟨n,rfl⟩:=okWide_string hu hv
   exact⟨y,by rw[if_neg (by simp[isSt])];simpa [Value.cells]using h1,h2⟩
  ·cases hf
 | unit=>simp[fitT]at hf
 | nul=>simp[fitT]at hf
 | rc c=>simp[fitT]at hf
 | pair a b =>
  obtain⟨cs,rfl,hok⟩:∃ cs,v=.agg cs∧∀ y∈cs.toList,SlOK w y:=by
   unfold fitT at hf
   split at hf
   ·rename_i q r hp
    have row:∀ cs:Array Value,Row.okWide P w .any base t cs→∀ y∈cs.toList,SlOK w y:=fun cs hr y hy=>by
     obtain⟨ts,_,_,hc⟩:=hr
     obtain⟨i,hi,he⟩:=List.mem_iff_getElem.1 hy
     have h1:cs[i]? = some y:=by
      have:cs.toList[i]? = some y:=by rw[List.getElem?_eq_getElem hi,he]
      simpa using this
     obtain⟨u,_,hu⟩:=hc i y h1
     exact ab4 hu
    unfold partsOf at hp
    unfold Value.okWide at hv
    split at hp
    ·rename_i fs hu
     rw[hu]at hv
     obtain⟨cs,e,_,hr⟩:=hv
     exact⟨cs,e,row cs hr⟩
    ·rename_i n e hu
     rw[hu]at hv
     obtain⟨cs,e,_,hr⟩:=hv
     exact⟨cs,e,row cs hr⟩
    ·cases hp
   ·cases hf
  obtain⟨y,h1,h2⟩:=aao (.pair a b) t cs.toList _ fuel ht hf hok h
  exact⟨y,by rw[if_pos (show isSt (.pair a b)=true from rfl)];exact⟨cs.toList,by simp,h1⟩,h2⟩
 | sl e =>
  unfold fitT at hf
  split at hf
  ·rename_i e' hu
   simp only[Bool.and_eq_true,beq_iff_eq]at hf
   obtain⟨h1,h2,h3⟩:=hf
   obtain⟨a,len,cap,rfl⟩:=okWide_slice hu hv
   rcases DataW.trod_slice hu h with⟨hc,_⟩ | ⟨a',len',cap',elems,rest,n,_,hc,_,_,hle,hcm,hel,hread,_⟩
   ·simp only[Value.cells,List.cons.injEq,Value.slice.injEq,and_true]at hc
    obtain⟨rfl,rfl,rfl⟩:=hc
    exact⟨[],by rw[if_neg (by simp[isSt])];exact⟨_,rfl,.inl ⟨rfl,rfl⟩⟩,by simp[Bnd]⟩
   ·simp only[Value.cells,List.cons.injEq,Value.slice.injEq,and_true]at hc
    obtain⟨rfl,rfl,rfl⟩:=hc
    have hhas:w.has P .any base a' e' cap:=by
     unfold Value.okWide Cell.okWide Cell.ok at hv
     rw[hu]at hv
     exact hv.2.2
    obtain⟨_,hspot,row,cells,hsh,_⟩:=hhas
    obtain⟨b,o,s⟩:=a'
    simp only at hspot;subst hspot
    have hisc:IsC w b:=xG hsh
    obtain⟨l,hl,hr⟩:=yL (α:=e.α) (R:=fun i y=>(∃ ds:List Value,DR (IsC w) w e y ds∧∀ (j:Nat) (d:Value),ds[j]? = some d→w.cell? ⟨b,o+(i*e.n+j),none⟩=some d)∧Bnd e y) len fun i hi=>by
     have hq:=hread i hi
     rw[List.getElem?_eq_getElem (by omega),Option.bind_eq_some_iff]at hq
     obtain⟨cs,c1,c2⟩:=hq
     obtain⟨y,k1,k2⟩:=nU (F:=IsC w) e e' cs _ n h2 h1 c2
     refine⟨y,⟨cs,k1,fun j d' hd=>?_⟩,k2⟩
     obtain⟨_,m1,m2⟩:=World.cells?_some c1
     have hj:j < cs.length:=(List.getElem?_eq_some_iff.1 hd).1
     have:=m2 j (by omega)
     rw[sZ,sZ,h3]at this
     rw[←Nat.add_assoc,this];exact hd
    refine⟨l,?_,?_,?_⟩
    ·rw[if_neg (by simp[isSt])]
     refine⟨_,rfl,.inr ⟨b,o,cap,by rw[hl],hisc,by omega,fun i x hx=>(hr i x hx).1⟩⟩
    ·rw[hl];simp only[maxLen]at hcm;omega
    ·intro y hy
     obtain⟨i,hi,he⟩:=List.mem_iff_getElem.1 hy
     exact(hr i y (by rw[List.getElem?_eq_getElem hi,he])).2
  ·cases hf
def fitAll(P:Program):List Ty→List TypeId→Bool
 | [],[]=>true
 | T::Ts,t::ts=>(topOK T&&fitT P T t)&&fitAll P Ts ts
 | _,_=>false
theorem sF:∀ {Ts:List Ty} {ts:List TypeId} {vs:List Value} {ds:List (DataW H)} {p:List MemPlace} {base:Nat},fitAll P Ts ts=true→(∀ (j:Nat) t v,ts[j]? = some t→vs[j]? = some v→Value.okWide P w .any base t v)→
  DataW.TrodAll enc P w 0 sp held ts vs ds p→∃ x:Tys Ts,ArgsR (IsC w) w Ts x vs∧Bnds Ts x
 | [],[],vs,ds,p,base,_,_,h=>by
  cases vs with
  | nil=>exact⟨(),rfl,trivial⟩
  | cons _ _=>cases ds<;>exact absurd h (by simp[DataW.TrodAll])
 | [],_::_,vs,ds,p,base,hf,_,h=>by simp[fitAll]at hf
 | _::_,[],vs,ds,p,base,hf,_,h=>by simp[fitAll]at hf
 | T::Ts,t::ts,vs,ds,p,base,hf,hv,h=>by
  simp only[fitAll,Bool.and_eq_true]at hf
  cases vs with
  | nil=>cases ds<;>exact absurd h (by simp[DataW.TrodAll])
  | cons v vs =>
   cases ds with
   | nil=>exact absurd h (by simp[DataW.TrodAll])
   | cons d ds =>
    obtain⟨p1,p2,h1,h2,_⟩:=h
    obtain⟨y,k1,k2⟩:=zk hf.1.1 hf.1.2 (hv 0 t v rfl rfl) h1
    obtain⟨x,m1,m2⟩:=sF hf.2 (fun j t' v' a b=>hv (j+1) t' v' (by simpa using a) (by simpa using b)) h2
    exact⟨(y,x),⟨v,vs,rfl,k1,m1⟩,k2,m2⟩
theorem sH{W W':World}(hl:laidOutB P=true)(hb:Below W.heap.size W W'):∀ {ts:List TypeId} {vs:List Value} {ds:List (DataW H)} {p:List MemPlace},(ts.all fun t=>P.readableRec t&&decide (t < P.types.size))=true→
  DataW.TrodAll enc P W 0 (fun _=>true) true ts vs ds p→DataW.TrodAll enc P W' 0 (fun b=>decide (b < W.heap.size)) true ts vs ds p
 | [],vs,ds,p,_,h=>by cases vs<;>cases ds<;>simp_all [DataW.TrodAll]
 | t::ts,vs,ds,p,ha,h=>by
  cases vs with
  | nil=>cases ds<;>exact absurd h (by simp[DataW.TrodAll])
  | cons v vs =>
   cases ds with
   | nil=>exact absurd h (by simp[DataW.TrodAll])
   | cons d ds =>
    simp only[List.all_cons,Bool.and_eq_true,decide_eq_true_eq]at ha
    obtain⟨p1,p2,h1,h2,rfl⟩:=h
    have hlt:∀ x∈p1,x.block < W.heap.size:=by
     obtain⟨m,hm⟩:=h1
     exact DataW.trod_lt m _ _ _ hm
    exact⟨p1,p2,Below.trod hl ha.1.1 ha.1.2 h1 hb hlt,sH hl hb ha.2 h2,rfl⟩
theorem aae{ts:List TypeId}:∀ {vs:List Value} {ds:List (DataW H)} {p:List MemPlace},DataW.TrodAll enc P w 0 sp held ts vs ds p→ds.length=ts.length:=by
 induction ts with
 | nil=>intro vs ds p h;cases vs<;>cases ds<;>simp_all [DataW.TrodAll]
 | cons t ts ih =>
  intro vs ds p h
  cases vs with
  | nil=>cases ds<;>exact absurd h (by simp[DataW.TrodAll])
  | cons v vs =>
   cases ds with
   | nil=>exact absurd h (by simp[DataW.TrodAll])
   | cons d ds=>obtain⟨_,_,_,h2,_⟩:=h;simp[ih h2]
end
def GTabs(W:World):Prop:=∀ (g j:Nat) (v:Int),(gtab g)[j]? = some v→W.cell? ⟨g,j,none⟩=some (.int .i64 v)
theorem acM{w:World}{g j:Nat}{v:Value}(h:w.cell? ⟨g,j,none⟩=some v):IsC w g:=by
 unfold World.cell? at h
 unfold IsC
 cases hb:w.heap[g]? with
 | none=>rw[hb]at h;cases h
 | some o=>cases o<;>rw[hb]at h<;>simp_all
theorem acy{W:World}(h:Nat.blt gtN 1000000000=false):GTabs W:=fun g j v hv=>by
 unfold gtab at hv
 rw[h,Bool.and_false]at hv
 simp at hv
section
variable {H:Type}{enc:TypeId×Value→H}
theorem acN{L:World→Prop}(hl:laidOutB Proofs.Tryz.prog=true){n:FuncId}{fn:Func}{s:ChangeSpec}{Ts:List Ty}{f:Nat→Tys Ts→Option (Bool×Unit)}(hE:∀ lf,EntryOK Proofs.Tryz.prog TabG n ⟨Ts,[.bool],f lf⟩)
  (hf:fitAll Proofs.Tryz.prog Ts fn.params.toList=true) (hrd:(fn.params.toList.all fun t=>Proofs.Tryz.prog.readableRec t&&decide (t < Proofs.Tryz.prog.types.size))=true)
  {rt:TypeId} (hrt:fn.resultTypes=#[rt]) (hub:Proofs.Tryz.prog.underlying rt=some .bool) (hsv:s.vars=[])
  (hs:∀ ds:List (DataW H),ds.length=fn.params.toList.length→s.fn H ds={ results:=[.lit (.bool true)],args:=ds })
  (hpure:∀ x:Tys Ts,Bnds Ts x→∃ lf,f lf x=some (true,()))
  (hgt:∀ W:World,L W→GTabs W)
  {W:World} {base:Nat} {args:Array Value} {ds gs:List (DataW H)} {before:List MemPlace} {apart fresh handsOn:Bool}
  (hval:∀ (j:Nat) t v,fn.params[j]? = some t→args[j]? = some v→Value.okWide Proofs.Tryz.prog W .any base t v)
  (hW:DataW.Whole enc Proofs.Tryz.prog fn.params.toList s.vars apart W args.toList ds gs before) (hG:TabG W) (hL:L W) :
  Calls Proofs.Tryz.prog n args W fun e W'=>∃ v,e=.returned v∧s.post enc Proofs.Tryz.prog fn apart fresh handsOn false W args v W':=by
 have hW':=hW
 obtain⟨p,q,hA,hV,rfl,_,_⟩:=hW
 rw[hsv]at hV
 obtain⟨rfl,rfl⟩:=trodVars_none hV
 have hv':∀ (j:Nat) (t:TypeId) (v:Value),fn.params.toList[j]? = some t→args.toList[j]? = some v→Value.okWide Proofs.Tryz.prog W .any base t v:=by
  intro j t v a b
  rw[Array.getElem?_toList]at a b
  exact hval j t v a b
 obtain⟨x,k1,k2⟩:=sF hf hv' hA
 obtain⟨lf,hlf⟩:=hpure x k2
 have hlen:=aae hA
 have h:=hE lf x (true,()) hlf (IsC W) W args.toList hG ⟨fun i hi=>hi,fun g j v hv=>⟨acM (hgt W hL g j v hv),hgt W hL g j v hv⟩⟩ k1
 rw[Array.toArray_toList]at h
 refine h.mono ?_
 rintro e W' ⟨v,rfl,hb,hr⟩
 obtain⟨vs,⟨u,r,rfl,h1,h2⟩,rfl⟩:=hr
 obtain rfl:r=[]:=h2
 have hu:u=.bool true:=by
  unfold ValR at h1
  rw[if_neg (by simp[isSt])]at h1
  simpa [DR]using h1
 subst hu
 refine⟨_,rfl,ds,[],p++[],[],p,[],hW',?_,?_,?_,hb.frame _,fun h=>by cases h⟩
 ·rw[List.append_nil,hs ds hlen,hrt]
  exact trodAll_mk1 (shut_bool hub true)
 ·rw[List.append_nil,hs ds hlen]
  exact sH hl hb hrd hA
 ·rw[List.append_nil,hs ds hlen,hsv]
  rfl
end
theorem y9{laid:List (String×DataW Unit)}{W:World}(hp:(laid.all fun x=>x.2.handleName?.isNone)=true){g:Nat}{t e:TypeId}{n:Nat}{rest:List (String×DataW Unit)}
  (hg:Proofs.Tryz.prog.globalNamed "internal/strconv.uint64pow10" = some g) (hty:(Proofs.Tryz.prog.globals[g]?).map (·.type)=some t) (ht:Proofs.Tryz.prog.underlying t=some (.array n e)) (he:Proofs.Tryz.prog.underlying e=some (.int .u64))
  (hce:Proofs.Tryz.prog.cellsOf e=1) (hct:Proofs.Tryz.prog.cellsOf t=n)
  (hh:(laid.filter fun x=>x.1 == "internal/strconv.uint64pow10")=("internal/strconv.uint64pow10",Lib.tabData .u64 Lib.pow10Tab)::rest)
  (h:laidMetH Proofs.Tryz.prog laid W):TabG W:=by
 rw[MakeChecks.laidMetH_plain _ _ _ hp]at h
 have h':=laidMet.filter (fun x=>x.1 == "internal/strconv.uint64pow10") h
 rw[hh]at h'
 exact Lib.tabIs_of_head hg hty ht he hce hct h'
theorem ad5{P:Program}{c:OpenClaim}(h:P.funcs.any Func.goes=false)(hs:c.start=.entering):false=c.goesBy P:=by
 have key:∀ (g:Nat) (fn:Func),P.funcs[g]? = some fn→fn.goes=false:=by
  intro g fn hg
  have:=Array.any_eq_false.1 h
  obtain⟨hlt,e⟩:=Array.getElem?_eq_some_iff.1 hg
  have:=this g hlt
  rw[e]at this
  simpa using this
 have k2:∀ g:Nat,(P.funcs[g]?).any Func.goes=false:=by
  intro g
  cases hg:P.funcs[g]? with
  | none=>rfl
  | some fn=>simp[key g fn hg]
 unfold OpenClaim.goesBy Program.goesAt Program.goesFrom
 rw[hs]
 have k3:∀ f,P.goes f=false:=by
  intro f
  unfold Program.goes
  rw[h,Bool.and_false,Bool.or_false]
  simp only[k2]
  simp
 cases P.funcNamed c.func with
 | none=>rfl
 | some f=>simp[k3]
end Go.Q
namespace Go.Q
open Go Go.N
theorem Pure.TopDomainsSound(x:Tys (bD.E 0).ps)(h:Bnds (bD.E 0).ps x):∃ lf,bD.f lf x.1=some (true,()):=by
 exact afE x.1
end Go.Q
