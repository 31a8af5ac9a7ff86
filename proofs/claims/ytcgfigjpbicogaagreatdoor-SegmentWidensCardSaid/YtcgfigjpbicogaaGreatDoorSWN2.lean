import Derived.KernelRfl
import Derived.Test.YtcgfigjpbicogaaGreatDoorChecked
import Derived.ProofKit
import Derived.OpenShut
import Derived.LaidMore
import Derived.Lay
import Derived.Carry
import Derived.SevenTiedAt
import Derived.Stop.Joined
import Derived.Lib.LaidTab
import Derived.LaidSub
import Derived.Test.YtcgfigjpbicogaaGreatDoorSWE3
import Derived.Test.YtcgfigjpbicogaaGreatDoorSWG10
import Derived.Test.YtcgfigjpbicogaaGreatDoorSWG11
import Derived.Test.YtcgfigjpbicogaaGreatDoorSWG12
import Derived.Test.YtcgfigjpbicogaaGreatDoorSWG13
import Derived.Test.YtcgfigjpbicogaaGreatDoorSWG6
import Derived.Test.YtcgfigjpbicogaaGreatDoorSWG7
import Derived.Test.YtcgfigjpbicogaaGreatDoorSWG8
import Derived.Test.YtcgfigjpbicogaaGreatDoorSWG9
import Derived.Test.YtcgfigjpbicogaaGreatDoorSWN1
set_option linter.unusedVariables false
set_option linter.unusedSimpArgs false
set_option linter.unusedSectionVars false
set_option maxRecDepth 100000
namespace Go.N
open Go.IntKind (i64)
open Go Go.Q Go.Rx
theorem aap(A V P q0 R r1 B:Int)(h:r1=R-V):V*(A+P*(q0+1-q0))+P*r1=V*A+P*R:=by subst h;grind
theorem adf(lf:Nat)(h3:200000≤lf)(a v5 v6 ys:List Int)(i:Nat)(hy:Dg 10 ys)(ty:Tr ys)(hyb:ys.length≤60000):∀ (c n:Nat) (rest q:List Int),c < n→Dg 10 rest→Tr rest→rest.length≤80000→lv 10 rest < (c+1)*lv 10 ys→Dg 10 q→(hi:i < q.length)→q[i]+c≤9→
  ∃ rest' q',aG.l1 lf a ys (i:Nat) v5 v6 n rest q=some ((rest',q',()),())∧Dg 10 rest'∧Tr rest'∧rest'.length≤rest.length∧lv 10 rest' < lv 10 ys∧Dg 10 q'∧q'.length=q.length∧
   lv 10 ys*lv 10 q'+10 ^ i*lv 10 rest'=lv 10 ys*lv 10 q+10 ^ i*lv 10 rest∧∀ p,p≠i→q'[p]? = q[p]? := by
 intro c
 induction c with
 | zero =>
  intro n rest q hn hr tr' hl hlt hq hi hc
  obtain⟨m,rfl⟩:=Nat.exists_eq_succ_of_ne_zero (show n≠0 by omega)
  have lt:lv 10 rest < lv 10 ys:=by simpa using hlt
  refine⟨rest,q,?_,hr,tr',Nat.le_refl _,lt,hq,rfl,rfl,fun p _=>rfl⟩
  rw[aG.l1,aG.r1,ru lf rest ys hr hy tr' ty (by omega) (by omega) h3,bdS,decide_eq_false (by unfold sgn;rw[if_pos (by omega)];decide),brF]
 | succ c ih =>
  intro n rest q hn hr tr' hl hlt hq hi hc
  obtain⟨m,rfl⟩:=Nat.exists_eq_succ_of_ne_zero (show n≠0 by omega)
  rw[aG.l1,aG.r1,ru lf rest ys hr hy tr' ty (by omega) (by omega) h3,bdS]
  by_cases lt:lv 10 rest < lv 10 ys
  ·rw[decide_eq_false (by unfold sgn;rw[if_pos (by omega)];decide),brF]
   exact⟨rest,q,rfl,hr,tr',Nat.le_refl _,lt,hq,rfl,rfl,fun p _=>rfl⟩
  ·rw[decide_eq_true (by unfold sgn;rw[if_neg (by omega)];split<;>decide),brT]
   obtain⟨r1,e,d1,d2,d3,d4⟩:=qM lf h3 hr hy (by omega) (by omega)
   have q0:=hq.at i hi
   have e1:i64.wrap (q[i]+1)=q[i]+1:=w64 (by omega) (by omega)
   have lt1:lv 10 r1 < ((c:Int)+1)*lv 10 ys:=by
    have:((c+1:Nat):Int)+1=((c:Int)+1)+1:=by omega
    rw[this,Int.add_mul ((c:Int)+1) 1,Int.one_mul]at hlt
    omega
   obtain⟨r',q',t1,t2,t3,t4,t5,t6,t7,t8,t9⟩:=ih m r1 (q.set i (q[i]+1)) (by omega) d1 d2 (by omega) lt1 (nJ hq i ⟨by omega,by omega⟩) (by rw[List.length_set];exact hi) (by rw[List.getElem_set_self];omega)
   refine⟨r',q',?_,t2,t3,by omega,t5,t6,by rw[t7,List.length_set],?_,fun p hp=>by rw[t9 p hp,List.getElem?_set_ne (by omega)]⟩
   ·rw[e,bdS,bV _ _ hi,bdS,List.getElem?_eq_getElem hi,bdS,bdS,e1,kM _ _ _ hi,bdS]
    exact t1
   ·rw[t8,mX 10 q i _ hi]
    exact aap _ _ _ _ _ _ 10 d4
theorem tK(lf:Nat)(h3:200000≤lf)(xs ys v5 v6:List Int)(hx:Dg 10 xs)(hy:Dg 10 ys)(ty:Tr ys)(hyb:ys.length≤60000)(k:Nat)(hk:k < xs.length)(rest q:List Int)(hr:Dg 10 rest)(hl:rest.length≤70000)(hlt:lv 10 rest < lv 10 ys)(hq:Dg 10 q)(hkq:k < q.length)(hz:q[k]=0):
  ∃ rest' q',aG.l1 lf xs ys (k:Nat) v5 v6 (lf+40) (tr ([xs[k]]++rest)) q=some ((rest',q',()),())∧Dg 10 rest'∧Tr rest'∧lv 10 rest' < lv 10 ys∧Dg 10 q'∧q'.length=q.length∧
   lv 10 ys*lv 10 q'+10 ^ k*lv 10 rest'=lv 10 ys*lv 10 q+10 ^ k*(xs[k]+10*lv 10 rest)∧∀ p,p≠k→q'[p]? = q[p]? := by
 have x0:=hx.at k hk
 have hd:Dg 10 ([xs[k]]++rest):=Dg.cons x0 hr
 have hl2:=jS ([xs[k]]++rest)
 have e:lv 10 ([xs[k]]++rest)=xs[k]+10*lv 10 rest:=rfl
 obtain⟨r',q',t1,t2,t3,_,t5,t6,t7,t8,t9⟩:=adf lf h3 xs v5 v6 ys k hy ty hyb 9 (lf+40) (tr ([xs[k]]++rest)) q (by omega) (kW hd) (mM _) (by simp at hl2;simp;omega) (by rw[jY,e];omega) hq hkq (by rw[hz];decide)
 rw[jY,e]at t8
 exact⟨r',q',t1,t2,t3,t5,t6,t7,t8,t9⟩
theorem zC{rest ys:List Int}(hy:Dg 10 ys)(hr:Dg 10 rest)(tr':Tr rest)(h:lv 10 rest < lv 10 ys):rest.length≤ys.length:=by
 by_cases z:rest.length≤ys.length
 ·exact z
 ·have:=kU (B:=10) (by decide) hy hr tr' (by omega);omega
theorem wL(V Q Q' P x R R' L:Int)(h:V*Q'+P*R'=V*Q+P*(x+10*R)):V*Q'+(P*R'+L)=V*Q+(P*10*R+(L+P*x)):=by grind
theorem adg(lf:Nat)(h3:200000≤lf)(xs ys v5:List Int)(hx:Dg 10 xs)(hy:Dg 10 ys)(ty:Tr ys)(hyb:ys.length≤60000)(hxb:xs.length≤60000):∀ (k n:Nat) (rest q:List Int),k < n→k≤xs.length→Dg 10 rest→Tr rest→lv 10 rest < lv 10 ys→Dg 10 q→k≤q.length→(∀ p,p < k→q[p]? = some 0)→
  ∃ rest' q',aG.l2 lf xs ys v5 n rest (((k:Nat):Int)-1) q=some ((rest',q',v5,()),())∧Dg 10 rest'∧Tr rest'∧lv 10 rest' < lv 10 ys∧Dg 10 q'∧q'.length=q.length∧
   lv 10 ys*lv 10 q'+lv 10 rest'=lv 10 ys*lv 10 q+(10 ^ k*lv 10 rest+lv 10 (xs.take k)):=by
 intro k
 induction k with
 | zero =>
  intro n rest q hn hk hr tr' hlt hq hkq hz
  obtain⟨m,rfl⟩:=Nat.exists_eq_succ_of_ne_zero (show n≠0 by omega)
  refine⟨rest,q,?_,hr,tr',hlt,hq,rfl,by simp[lv]⟩
  rw[aG.l2,aG.r2,decide_eq_false (by omega),brF]
 | succ k ih =>
  intro n rest q hn hk hr tr' hlt hq hkq hz
  obtain⟨m,rfl⟩:=Nat.exists_eq_succ_of_ne_zero (show n≠0 by omega)
  have hkl:k < xs.length:=by omega
  have rl:=zC hy hr tr' hlt
  have z0:q[k]'(by omega)=0:=by
   have h1:=hz k (by omega)
   rw[List.getElem?_eq_getElem (by omega)]at h1
   exact Option.some.inj h1
  obtain⟨r1,q1,t1,t2,t3,t4,t5,t6,t7,t8⟩:=tK lf h3 xs ys v5 ([xs[k]]++rest) hx hy ty hyb k hkl rest q hr (by omega) hlt hq (by omega) z0
  obtain⟨r2,q2,s1,s2,s3,s4,s5,s6,s7⟩:=ih m r1 q1 (by omega) (by omega) t2 t3 t4 t5 (by omega) (fun p hp=>by rw[t8 p (by omega)];exact hz p (by omega))
  refine⟨r2,q2,?_,s2,s3,s4,s5,by rw[s6,t6],?_⟩
  ·rw[aG.l2,aG.r2,show((k+1:Nat):Int)-1=((k:Nat):Int) by omega,decide_eq_true (by omega),brT,bZ _ _ hkl,bdS,kH _ _ _ (by decide) (by simp;omega),bdS,nU lf _ (by simp;omega) h3,bdS]
   simp only[t1,bdS]
   rw[w64 (n:=((k:Nat):Int)-1) (by omega) (by omega)]
   exact s1
  ·rw[s7,uY 10 xs k hkl,Int.pow_succ]
   exact wL _ _ _ _ _ _ _ _ t7
theorem ade(lf:Nat)(h3:200000≤lf)(xs ys:List Int)(hx:Dg 10 xs)(hy:Dg 10 ys)(ty:Tr ys)(hyb:ys.length≤60000)(hxb:xs.length≤60000)(k:Nat)(rest q:List Int)(hk:k≤xs.length)(hr:Dg 10 rest)(tr':Tr rest)(hlt:lv 10 rest < lv 10 ys)(hq:Dg 10 q)(hkq:k≤q.length)(hz:∀ p,p < k→q[p]? = some 0):
  ∃ b rest' q' w,aG.l0 lf xs ys (((k:Nat):Int)-1) q rest (lf+40)=some w∧w.1=b∧(if b=true then w.2.1.1=q'∧w.2.1.2.1=rest' else w.2.2.1.2.1=q'∧w.2.2.1.1=rest')∧Dg 10 rest'∧Tr rest'∧lv 10 rest' < lv 10 ys∧Dg 10 q'∧q'.length=q.length∧
   lv 10 ys*lv 10 q'+lv 10 rest'=lv 10 ys*lv 10 q+(10 ^ k*lv 10 rest+lv 10 (xs.take k)):=by
 cases k with
 | zero =>
  refine⟨true,rest,q,(true,(q,rest,()),(([],[],[],()),())),?_,rfl,by rw[if_pos rfl];exact⟨rfl,rfl⟩,hr,tr',hlt,hq,rfl,by simp[lv]⟩
  rw[show lf+40=(lf+39)+1 from rfl,aG.l0,aG.r0,decide_eq_false (by omega),brF]
 | succ k =>
  have hkl:k < xs.length:=by omega
  have rl:=zC hy hr tr' hlt
  have z0:q[k]'(by omega)=0:=by
   have h1:=hz k (by omega)
   rw[List.getElem?_eq_getElem (by omega)]at h1
   exact Option.some.inj h1
  obtain⟨r1,q1,t1,t2,t3,t4,t5,t6,t7,t8⟩:=tK lf h3 xs ys rest ([xs[k]]++rest) hx hy ty hyb k hkl rest q hr (by omega) hlt hq (by omega) z0
  obtain⟨r2,q2,s1,s2,s3,s4,s5,s6,s7⟩:=adg lf h3 xs ys rest hx hy ty hyb hxb k (lf+39) r1 q1 (by omega) (by omega) t2 t3 t4 t5 (by omega) (fun p hp=>by rw[t8 p (by omega)];exact hz p (by omega))
  refine⟨false,r2,q2,(false,([],[],()),((r2,q2,rest,()),())),?_,rfl,by simp,s2,s3,s4,s5,by rw[s6,t6],?_⟩
  ·rw[show lf+40=(lf+39)+1 from rfl,aG.l0,aG.r0,show((k+1:Nat):Int)-1=((k:Nat):Int) by omega,decide_eq_true (by omega),brT,bZ _ _ hkl,bdS,kH _ _ _ (by decide) (by simp;omega),bdS,nU lf _ (by simp;omega) h3,bdS]
   simp only[t1,bdS]
   rw[w64 (n:=((k:Nat):Int)-1) (by omega) (by omega),s1,bdS]
  ·rw[s7,uY 10 xs k hkl,Int.pow_succ]
   exact wL _ _ _ _ _ _ _ _ t7
theorem abT(lf:Nat)(h3:200000≤lf){xs ys:List Int}(hx:Dg 10 xs)(hy:Dg 10 ys)(tx:Tr xs)(ty:Tr ys)(hyn:ys≠[])(hxb:xs.length≤60000)(hyb:ys.length≤60000):
  ∃ Q R,aG.f lf xs ys=some (Q,R,())∧Dg 10 Q∧Q.length≤xs.length+1∧Dg 10 R∧Tr R∧lv 10 xs=lv 10 ys*lv 10 Q+lv 10 R∧lv 10 R < lv 10 ys:=by
 have yl:1≤ys.length:=List.length_pos_iff.2 hyn
 obtain⟨n,hn⟩:∃ n,n=xs.length+1-ys.length:=⟨_,rfl⟩
 have yt:=sG (B:=10) (by decide) hy ty hyn
 have e0:(if(i64.wrap ((i64.wrap (((xs.length:Nat):Int)-((ys.length:Nat):Int)))+1)) > 0 then(i64.wrap ((i64.wrap (((xs.length:Nat):Int)-((ys.length:Nat):Int)))+1))else 0)=((n:Nat):Int):=by
  rw[w64 (n:=((xs.length:Nat):Int)-((ys.length:Nat):Int)) (by omega) (by omega),w64 (by omega) (by omega)]
  split<;>omega
 have e1:i64.wrap (((n:Nat):Int)-1)=((n:Nat):Int)-1:=w64 (by omega) (by omega)
 have nx:n≤xs.length:=by omega
 have rT:Tr (xs.drop n):=by
  unfold Tr at *
  by_cases z:n < xs.length
  ·rw[List.getLast?_drop,if_neg (by omega)];exact tx
  ·rw[List.drop_of_length_le (by omega)];simp
 have rlt:lv 10 (xs.drop n) < lv 10 ys:=by
  have a:=lC (B:=10) (by decide) (hx.drop n)
  rw[List.length_drop]at a
  have b:=jy (B:=10) (by decide) (show xs.length-n≤ys.length-1 by omega)
  omega
 obtain⟨b,R,Q,w,t1,t2,t3,t4,t5,t6,t7,t8,t9⟩:=ade lf h3 xs ys hx hy ty hyb hxb n (xs.drop n) (List.replicate n 0) nx (hx.drop n) rT rlt (Dg.zeros (by decide) _) (by simp) (fun p hp=>by rw[List.getElem?_replicate,if_pos hp])
 rw[List.length_replicate]at t8
 rw[mG,Int.mul_zero,Int.zero_add]at t9
 have sp:=kZ 10 xs n nx
 refine⟨tr Q,R,?_,kW t7,by have:=jS Q;omega,t4,t5,by rw[jY];omega,t6⟩
 rw[aG.f,e0,e1,nX _ _ _ n rfl rfl (by omega),bdS,abt _ _ n rfl nx,bdS,kH _ _ _ (by decide) (by simp;omega),bdS,List.nil_append,t1,bdS,t2]
 cases b with
 | true =>
  rw[if_pos rfl]at t3
  rw[brT,t3.1,t3.2,nU lf Q (by omega) h3,bdS]
 | false =>
  rw[if_neg (by simp)]at t3
  rw[brF,t3.1,t3.2,nU lf Q (by omega) h3,bdS]
theorem abA(lf:Nat){x y:Int}(hx:x.natAbs < 100000000000000000)(hy:y.natAbs < 100000000000000000)(h0:y≠0):jd.f lf x y=some (x.fdiv y,()):=by
 have e:=Int.mul_tdiv_add_tmod x y
 have e1:iRem x y=some (Int.tmod x y):=by unfold iRem;rw[if_neg h0]
 have qb:(Int.tdiv x y).natAbs≤x.natAbs:=by rw[Int.natAbs_tdiv];exact Nat.div_le_self _ _
 have e2:iQuo .i64 x y=some (Int.tdiv x y):=by
  unfold iQuo;rw[if_neg h0]
  congr 1
  apply w64<;>omega
 have sg:(0≤x→0≤Int.tmod x y)∧(x≤0→Int.tmod x y≤0):=by
  refine⟨fun h=>Int.tmod_nonneg y h,fun h=>?_⟩
  have:=Int.tmod_nonneg y (show 0≤-x by omega)
  rw[Int.neg_tmod]at this
  omega
 have ab:(Int.tmod x y).natAbs < y.natAbs:=by
  rw[Int.natAbs_tmod]
  exact Nat.mod_lt _ (by omega)
 rw[jd.f,e2,bdS,e1,bdS]
 by_cases r0:Int.tmod x y=0
 ·rw[r0,bne_self_eq_false,brF]
  have:=(jB (x:=x) (y:=y) (q:=Int.tdiv x y) (r:=0) (by omega) (by omega)).1
  rw[this]
 ·rw[show(Int.tmod x y != 0)=true by simpa using r0,brT]
  by_cases hs:decide (x < 0)=decide (y < 0)
  ·have hs':(x < 0↔y < 0):=by simpa using hs
   rw[show(decide (x < 0) != decide (y < 0))=false by rw[hs,bne_self_eq_false],brF]
   have:=(jB (x:=x) (y:=y) (q:=Int.tdiv x y) (r:=Int.tmod x y) (by omega) (by omega)).1
   rw[this]
  ·have hs':¬(x < 0↔y < 0):=by simpa using hs
   rw[show(decide (x < 0) != decide (y < 0))=true by simpa using hs,brT,w64 (by omega) (by omega)]
   have:=(jB (x:=x) (y:=y) (q:=Int.tdiv x y-1) (r:=Int.tmod x y+y) (by rw[Int.mul_sub];omega) (by omega)).1
   rw[this]
theorem rP{z:Int}{k:Nat}(hk:1≤k)(h:(z.natAbs:Int) < 10 ^ k):sz z≤k:=by
 obtain⟨j,rfl⟩:=Nat.exists_eq_succ_of_ne_zero (show k≠0 by omega)
 rw[←qm]
 apply jU
 have:((10 ^ (j+1):Nat):Int)=(10:Int) ^ (j+1):=by norm_cast
 have h':(z.natAbs:Int) < ((10 ^ (j+1):Nat):Int):=by rw[this];exact h
 exact Int.ofNat_lt.1 h'
theorem uX(lf:Nat)(h3:200000≤lf){x y:Int}(hx:sz x≤40000)(hy:sz y≤40000)(h0:y≠0):
    (bd (aA.f lf (bs (Lib.itoa x))) fun r18 =>
 bd (ay.f lf r18.1) fun r19 =>
 bd (aA.f lf (bs (Lib.itoa y))) fun r20 =>
 bd (ay.f lf r20.1) fun r21 =>
 bd (aG.f lf r19.1 r21.1) fun r22 =>
 bd (ah.f lf (bs (Lib.itoa x))) fun r23 =>
 bd (ah.f lf (bs (Lib.itoa y))) fun r24 =>
 bd (aB.f lf r22.1 (r23.1 != r24.1)) fun r25 =>
 bd (ah.f lf (bs (Lib.itoa x))) fun r26 =>
 bd (ah.f lf (bs (Lib.itoa y))) fun r27 =>
 br (r26.1 != r27.1) (
 br (decide (((r22.2.1.length:Nat):Int) > 0)) (
 bd (bP.f lf r25.1 (⟨#[49]⟩:ByteArray)) fun r28 =>
 some (r28.1,())) (
 some (r25.1,()))) (
 some (r25.1,())))=some (bs (Lib.itoa (x.fdiv y)),()):=by
  have a:=ld_body (z:=x)
  have b:=ld_body (z:=y)
  have lx:=pO x
  have ly:=pO y
  have tx:=jS (ld (body (Lib.itoa x)))
  have ty:=jS (ld (body (Lib.itoa y)))
  have hyn:tr (ld (body (Lib.itoa y)))≠[]:=by
    intro e
    have:=jY 10 (ld (body (Lib.itoa y)))
    rw[e,b.2.1]at this
    simp only[lv]at this
    omega
  obtain⟨Q,R,e,dq,lq,dr,tr',val,lt⟩:=abT lf h3 (kW a.1) (kW b.1) (mM _) (mM _) hyn (by omega) (by omega)
  rw[jY,jY,a.2.1,b.2.1]at val
  rw[jY,b.2.1]at lt
  have R0:=bQ (B:=10) (by decide) dr
  have Q0:=bQ (B:=10) (by decide) dq
  rw[kQ lf _ (iJ x) (by omega) h3,bdS,nU lf (ld (body (Lib.itoa x))) (by omega) h3,bdS,kQ lf _ (iJ y) (by omega) h3,bdS,nU lf (ld (body (Lib.itoa y))) (by omega) h3,bdS]
  simp only
  rw[e,bdS,iG lf _ (jg x),bdS,iG lf _ (jg y),bdS]
  simp only
  rw[pV lf h3 dq (by omega),bdS,bdS,bdS]
  simp only[pW]
  by_cases hs:decide (x < 0)=decide (y < 0)
  · have hs':(x < 0↔y < 0):=by simpa using hs
    rw[hs,bne_self_eq_false,brF,if_neg (by simp)]
    refine congrArg (fun z:Int=>some (bs (Lib.itoa z),())) ?_
    refine(jB (x:=x) (y:=y) (q:=lv 10 Q) (r:=if x < 0 then -lv 10 R else lv 10 R) ?_ ?_).1
    · by_cases hx0:x < 0
      · have:=hs'.1 hx0
        rw[if_pos hx0]
        have e1:(y.natAbs:Int)= -y:=by omega
        have e2:(x.natAbs:Int)= -x:=by omega
        rw[e1,e2,Int.neg_mul]at val
        omega
      · have:¬y < 0:=fun e=>hx0 (hs'.2 e)
        rw[if_neg hx0]
        have e1:(y.natAbs:Int)=y:=by omega
        have e2:(x.natAbs:Int)=x:=by omega
        rw[e1,e2]at val
        omega
    · split<;>omega
  · have hs':¬(x < 0↔y < 0):=by simpa using hs
    rw[show(decide (x < 0) != decide (y < 0))=true by simpa using hs,brT,if_pos rfl]
    have val2:x=y*(-lv 10 Q)+(if x < 0 then -lv 10 R else lv 10 R):=by
      by_cases hx0:x < 0
      · have e1:(y.natAbs:Int)=y:=by omega
        have e2:(x.natAbs:Int)= -x:=by omega
        rw[e1,e2]at val
        rw[if_pos hx0,Int.mul_neg]
        omega
      · have e1:(y.natAbs:Int)= -y:=by omega
        have e2:(x.natAbs:Int)=x:=by omega
        rw[e1,e2,Int.neg_mul]at val
        rw[if_neg hx0,Int.mul_neg]
        omega
    by_cases hR:R=[]
    · subst hR
      rw[decide_eq_false (by simp),brF]
      refine congrArg (fun z:Int=>some (bs (Lib.itoa z),())) ?_
      refine(jB (x:=x) (y:=y) (q:= -lv 10 Q) (r:=0) ?_ (by omega)).1
      simp only[lv,Int.neg_zero,ite_self,Int.add_zero]at val2
      omega
    · have Rl:0 < R.length:=List.length_pos_iff.2 hR
      have Rp:=nO (B:=10) (by decide) dr tr' hR
      have Qb:sz (-lv 10 Q)≤50000:=by
        have:=rP (z:= -lv 10 Q) (k:=Q.length+1) (by omega) (by
          have a1:=lC (B:=10) (by decide) dq
          have a2:=jy (B:=10) (by decide) (show Q.length≤Q.length+1 by omega)
          omega)
        omega
      have i1:Lib.itoa 1=[49]:=by decide +kernel
      have s1:sz 1≤50000:=by unfold sz;rw[i1];decide
      rw[decide_eq_true (by omega),brT,show(⟨#[49]⟩:ByteArray)=bs [49] from rfl,←i1,uM lf h3 Qb s1,bdS]
      refine congrArg (fun z:Int=>some (bs (Lib.itoa z),())) ?_
      refine(jB (x:=x) (y:=y) (q:= -lv 10 Q-1) (r:=(if x < 0 then -lv 10 R else lv 10 R)+y) ?_ ?_).1
      · rw[Int.mul_sub];omega
      · split<;>omega
theorem abj(lf:Nat)(h3:200000≤lf){x y:Int}(hx:sz x≤40000)(hy:sz y≤40000)(h0:y≠0):jb.f lf (bs (Lib.itoa x)) (bs (Lib.itoa y))=some (bs (Lib.itoa (x.fdiv y)),()):=by
 rw[jb.f,qy lf (by omega),bdS]
 simp only
 by_cases c1:(sz x:Int)≤17
 ·rw[decide_eq_true c1,brT,qy lf (by omega),bdS]
  simp only
  by_cases c2:(sz y:Int)≤17
  ·have a:=oH (z:=x) (k:=17) (by omega) (by omega)
   have b:=oH (z:=y) (k:=17) (by omega) (by omega)
   have p:(10:Int) ^ 17=100000000000000000:=by decide
   have fb:(x.fdiv y).natAbs≤200000000000000000:=by
    have m:=Int.mul_fdiv_add_fmod x y
    have h1:(x.fdiv y).natAbs*1≤(x.fdiv y).natAbs*y.natAbs:=Nat.mul_le_mul_left _ (by omega)
    have h2:(y*x.fdiv y).natAbs=y.natAbs*(x.fdiv y).natAbs:=Int.natAbs_mul _ _
    rw[Nat.mul_comm]at h2
    have h3:(x.fmod y).natAbs < y.natAbs:=by
     rcases Int.lt_or_lt_of_ne h0 with z | z
     ·have a:=Int.fmod_nonneg_of_pos (-x) (show 0 < -y by omega)
      have b:=Int.fmod_lt_of_pos (-x) (show 0 < -y by omega)
      rw[Int.neg_fmod_neg]at a b
      omega
     ·have a:=Int.fmod_nonneg_of_pos x z
      have b:=Int.fmod_lt_of_pos x z
      omega
    omega
   rw[decide_eq_true c2,brT,lS lf h3 (by omega),bdS,lS lf h3 (by omega),bdS]
   simp only
   rw[abA lf (by omega) (by omega) h0,bdS,sQ lf h3 (by omega) (by omega),bdS]
  ·rw[decide_eq_false c2,brF]
   exact uX lf h3 hx hy h0
 ·rw[decide_eq_false c1,brF]
  exact uX lf h3 hx hy h0
theorem yY{x y:Int}(h0:y≠0):(x.fmod y).natAbs < y.natAbs:=by
 rcases Int.lt_or_lt_of_ne h0 with z | z
 ·have a:=Int.fmod_nonneg_of_pos (-x) (show 0 < -y by omega)
  have b:=Int.fmod_lt_of_pos (-x) (show 0 < -y by omega)
  rw[Int.neg_fmod_neg]at a b
  omega
 ·have a:=Int.fmod_nonneg_of_pos x z
  have b:=Int.fmod_lt_of_pos x z
  omega
theorem acg{x y:Int}(h0:y≠0):(x.fdiv y).natAbs≤x.natAbs+1:=by
 by_cases q0:x.fdiv y=0
 ·rw[q0];simp
 have m:=Int.mul_fdiv_add_fmod x y
 have h2:(y*x.fdiv y).natAbs=y.natAbs*(x.fdiv y).natAbs:=Int.natAbs_mul _ _
 have h3:=yY (x:=x) h0
 obtain⟨k,hk⟩:=Nat.exists_eq_succ_of_ne_zero (show(x.fdiv y).natAbs≠0 by omega)
 rw[hk,Nat.mul_succ]at h2
 have h4:1*k≤y.natAbs*k:=Nat.mul_le_mul_right _ (by omega)
 omega
theorem aec{x y:Int}{k:Nat}(hk:1≤k)(h0:y≠0)(h:sz x≤k):sz (x.fdiv y)≤k+1:=by
 apply rP (by omega)
 have a:=oH h hk
 have b:=acg (x:=x) h0
 have c:(10:Int) ^ (k+1)=10 ^ k*10:=Int.pow_succ ..
 omega
theorem afj{x y:Int}{j k:Nat}(hj:1≤j)(hk:1≤k)(h1:sz x≤j)(h2:sz y≤k):sz (x*y)≤j+k:=by
 apply rP (by omega)
 have a:=oH h1 hj
 have b:=oH h2 hk
 rw[Int.natAbs_mul,Int.natCast_mul,Int.pow_add]
 have p:=jv (B:=10) (by decide) k
 have c:=Int.mul_le_mul_of_nonneg_left (Int.le_of_lt b) (show 0≤(x.natAbs:Int) by omega)
 have d:=Int.mul_lt_mul_of_pos_right a p
 omega
theorem vk(lf:Nat)(h3:200000≤lf){x y:Int}(hx:sz x≤20000)(hy:sz y≤20000)(h0:y≠0):dO.f lf (bs (Lib.itoa x)) (bs (Lib.itoa y))=some (bs (Lib.itoa (x.fmod y)),()):=by
 have q:=aec (by omega) h0 hx
 have p:=afj (by omega) (by omega) hy q
 rw[dO.f,abj lf h3 (by omega) (by omega) h0,bdS,zy lf h3 (by omega) (by omega),bdS,uM lf h3 (by omega) (by omega),bdS]
 have m:=Int.mul_fdiv_add_fmod x y
 refine congrArg (fun z:Int=>some (bs (Lib.itoa z),())) ?_
 omega
end Go.N
namespace Go.N
open Go Go.Q Go.Rx
set_option exponentiation.threshold 5000
theorem abl(lf:Nat)(h3:200000≤lf){x y:Int}(hx: -K < x∧x < K)(hy: -K < y∧y < K)(hs: -K < x+y∧x+y < K):kN.f lf (bs (Lib.itoa x)) (bs (Lib.itoa y))=some (bs (Lib.itoa (x+y)),0,()):=by
 have h:=(sz_K (x+y)).2 hs
 rw[afr lf _ _ ((oJ x).2 hx) ((oJ y).2 hy) h3,fG,fG,qm,if_neg (by omega)]
theorem i1:(⟨#[49]⟩:ByteArray)=bs (Lib.itoa 1):=by
 have:Lib.itoa 1=[49]:=by unfold Lib.itoa;rw[if_neg (by omega)];exact jQ (by omega)
 rw[this]
theorem i0:(⟨#[48]⟩:ByteArray)=bs (Lib.itoa 0):=by
 have:Lib.itoa 0=[48]:=by unfold Lib.itoa;rw[if_neg (by omega)];exact kP
 rw[this]
end Go.N
namespace Go.N
open Go Go.Q Go.Rx
def E0:A:=⟨true,none,none⟩
theorem abx{s:Sp}{z:Int}(h:inS s z=true):emp s=false:=by
 unfold inS at h
 simp only[Bool.and_eq_true,decide_eq_true_eq]at h
 exact decide_eq_false (by omega)
theorem afJ:Wf E0:=⟨fun _=>⟨rfl,rfl⟩,trivial,trivial,trivial⟩
end Go.N
namespace Go.N
open Go Go.Q Go.Rx
set_option exponentiation.threshold 5000
theorem CC_K:C*C+C+C+10 < K:=by
 have h1:C*C=((10 ^ 200:Nat):Int):=by
  unfold C
  rw[←Int.natCast_mul,←Nat.pow_add]
 have h2:((10 ^ 200:Nat):Int)*10≤K:=by
  unfold K
  have:(10:Nat) ^ 200*10≤10 ^ 4096:=by rw[←Nat.pow_succ];exact Nat.pow_le_pow_right (by omega) (by omega)
  have h:(((10 ^ 200*10:Nat):Int))≤((10 ^ 4096:Nat):Int):=Int.ofNat_le.2 this
  rw[Int.natCast_mul]at h
  exact h
 have h3:=C_gt
 have h4:C*1000000≤C*C:=Int.mul_le_mul_of_nonneg_left (by omega) (by omega)
 omega
@[irreducible] def Dd : Int := ((10 ^ 1000 : Nat) : Int)
theorem lm:C < Dd:=by
 unfold C Dd
 have:(10:Nat) ^ 100 < 10 ^ 1000:=Nat.pow_lt_pow_right (by omega) (by omega)
 exact Int.ofNat_lt.2 this
theorem DD_K:Dd*Dd+Dd+Dd+10 < K:=by
 have h1:Dd*Dd=((10 ^ 2000:Nat):Int):=by
  unfold Dd
  rw[←Int.natCast_mul,←Nat.pow_add]
 have h2:((10 ^ 2000:Nat):Int)*10≤K:=by
  unfold K
  have:(10:Nat) ^ 2000*10≤10 ^ 4096:=by rw[←Nat.pow_succ];exact Nat.pow_le_pow_right (by omega) (by omega)
  have h:(((10 ^ 2000*10:Nat):Int))≤((10 ^ 4096:Nat):Int):=Int.ofNat_le.2 this
  rw[Int.natCast_mul]at h
  exact h
 have h3:=C_gt
 have h5:=lm
 have h4:Dd*1000000≤Dd*Dd:=Int.mul_le_mul_of_nonneg_left (by omega) (by omega)
 omega
theorem Dd_K:Dd < K:=by
 have h:=DD_K
 have h3:=C_gt
 have h5:=lm
 have h4:0≤Dd*Dd:=Int.mul_nonneg (by omega) (by omega)
 omega
theorem afc{a b:Int}(ha: -Dd < a∧a < Dd)(hb: -Dd < b∧b < Dd): -(Dd*Dd) < a*b∧a*b < Dd*Dd:=by
 have hC:=C_gt
 have hD:=lm
 have h1:(a*b).natAbs=a.natAbs*b.natAbs:=Int.natAbs_mul a b
 have h2:((a*b).natAbs:Int)=(a.natAbs:Int)*(b.natAbs:Int):=by rw[h1,Int.natCast_mul]
 have h3:(a.natAbs:Int)*(b.natAbs:Int)≤(Dd-1)*(Dd-1):=Int.mul_le_mul (by omega) (by omega) (by omega) (by omega)
 have h4:(Dd-1)*(Dd-1)=Dd*Dd-Dd-Dd+1:=by grind
 omega
theorem zx{a b:Int}(ha: -C < a∧a < C)(hb: -C < b∧b < C): -(C*C) < a*b∧a*b < C*C:=by
 have hC:=C_gt
 have h1:(a*b).natAbs=a.natAbs*b.natAbs:=Int.natAbs_mul a b
 have h2:((a*b).natAbs:Int)=(a.natAbs:Int)*(b.natAbs:Int):=by rw[h1,Int.natCast_mul]
 have h3:(a.natAbs:Int)*(b.natAbs:Int)≤(C-1)*(C-1):=Int.mul_le_mul (by omega) (by omega) (by omega) (by omega)
 have h4:(C-1)*(C-1)=C*C-C-C+1:=by grind
 omega
theorem chkK{z:Int}(h: -K < z∧z < K):chk (Lib.itoa z)=0:=(oJ z).2 h
def Pr(s:Sp):Prop:=emp s=true∨(s.lo≠.pi∧s.hi≠.ni)
theorem uT(x:X):key (xneg x)= -key x:=by cases x<;>simp[key,xneg]
theorem oks.K{s:Sp}(h:oks C s):oks K s:=h.mono (Int.le_of_lt kG)
def sg:X→Int
 | .ni=> -1
 | .fin z=>sgn z
 | .pi=>1
theorem sg3(x:X):sg x= -1∨sg x=0∨sg x=1:=by
 cases x with
 | ni=>exact .inl rfl
 | pi=>exact .inr (.inr rfl)
 | fin z=>simp only[sg,sgn];(repeat' split)<;>omega
def xmul(x y:X):X:=if sg x*sg y=0 then .fin 0 else match x,y with
 | .fin a,.fin b=>.fin (a*b)
 | _,_=>if sg x*sg y=1 then .pi else .ni
theorem nD{x y:X}(hx:okx C x)(hy:okx C y):okx K (xmul x y):=by
 have hK:=CC_K
 have hC:=C_gt
 have h4:0≤C*C:=Int.mul_nonneg (by omega) (by omega)
 unfold xmul
 split
 ·simp only[okx];omega
 ·cases x with
  | fin u=>cases y with
   | fin v =>
    have m:=zx hx hy
    simp only[okx];omega
   | ni=>simp only;split<;>trivial
   | pi=>simp only;split<;>trivial
  | ni=>simp only;split<;>trivial
  | pi=>simp only;split<;>trivial
theorem zJ{x y:X}(hx:okx Dd x)(hy:okx Dd y):okx K (xmul x y):=by
 have hK:=DD_K
 have hC:=C_gt
 have hD:=lm
 have h4:0≤Dd*Dd:=Int.mul_nonneg (by omega) (by omega)
 unfold xmul
 split
 ·simp only[okx];omega
 ·cases x with
  | fin u=>cases y with
   | fin v =>
    have m:=afc hx hy
    simp only[okx];omega
   | ni=>simp only;split<;>trivial
   | pi=>simp only;split<;>trivial
  | ni=>simp only;split<;>trivial
  | pi=>simp only;split<;>trivial
theorem okx.D{x:X}(h:okx C x):okx Dd x:=h.mono (Int.le_of_lt lm)
def one(v:X):Sp:=⟨v,v⟩
def apS(o:X→X→X)(s t:Sp):Sp:=if emp s=true then non else if emp t=true then non else
 hull (hull (hull (hull non (one (o s.lo t.lo))) (one (o s.lo t.hi))) (one (o s.hi t.lo))) (one (o s.hi t.hi))
theorem xW{k:Int}{v:X}(h:okx k v):oks k (one v):=⟨h,h⟩
theorem aeO{o:X→X→X}{s t:Sp}(h:∀ x y,(x=s.lo∨x=s.hi)→(y=t.lo∨y=t.hi)→okx K (o x y)):oks K (apS o s t):=by
 unfold apS;split
 ·exact sH
 ·split
  ·exact sH
  ·exact mY (mY (mY (mY sH (xW (h _ _ (.inl rfl) (.inl rfl)))) (xW (h _ _ (.inl rfl) (.inr rfl)))) (xW (h _ _ (.inr rfl) (.inl rfl)))) (xW (h _ _ (.inr rfl) (.inr rfl)))
theorem ad2{s t:Sp}(hs:oks C s)(ht:oks C t):oks K (apS xmul s t):=aeO fun x y hx hy=>by
 rcases hx with rfl | rfl<;>rcases hy with rfl | rfl<;>exact nD (by first | exact hs.1 | exact hs.2) (by first | exact ht.1 | exact ht.2)
end Go.N
namespace Go.N
open Go Go.Q Go.Rx
theorem lU(lf:Nat)(hlf:2000000000≤lf){x y:Int}(hx: -K < x∧x < K)(hy: -K < y∧y < K)(h0:y≠0):fD.f lf (bs (Lib.itoa x)) (bs (Lib.itoa y))=some (bs (Lib.itoa (x.fmod y)),0,()):=by
 rw[afG lf hlf _ _ (chkK hx) (chkK hy),fG,fG,if_neg h0]
theorem qc(x:X):(sg x < 0↔key x < 0)∧(sg x=0↔key x=0)∧(0 < sg x↔0 < key x):=by
 have:=K_gt
 cases x with
 | ni=>simp only[sg,key];omega
 | pi=>simp only[sg,key];omega
 | fin z=>simp only[sg,key,sgn];(repeat' split)<;>omega
def posS(s:Sp):Sp:=common s ⟨.fin 1,.pi⟩
theorem um{z:Int}(h1: -10≤z)(h2:z≤10):okx C (.fin z):=by have:=C_gt;simp only[okx];omega
theorem ad7{s:Sp}(h:oks C s):oks C (posS s):=rX h ⟨um (by decide) (by decide),trivial⟩
theorem qo(v:X):emp (one v)=false:=by unfold emp one;simp
theorem zk{s t:Sp}(hs:emp s=false)(ht:emp t=false):emp (hull s t)=false:=by
 unfold hull
 rw[if_neg (by simp[hs]),if_neg (by simp[ht])]
 unfold emp at hs ht⊢
 simp only[decide_eq_false_iff_not,pz,pq]at hs ht⊢
 omega
theorem acG(s:Sp):hull non s=s:=by unfold hull;rw[if_pos qX]
end Go.N
namespace Go.N
open Go Go.Q Go.Rx
theorem szK{z:Int}(h: -K < z∧z < K):sz z≤4096:=(sz_K z).2 h
theorem sumI(lf:Nat)(h3:200000≤lf){x y:Int}(hx: -K < x∧x < K)(hy: -K < y∧y < K):gm.f lf (bs (Lib.itoa x)) (bs (Lib.itoa y))=some (bs (Lib.itoa (x+y)),()):=by
 have:=szK hx
 have:=szK hy
 exact aa9 lf h3 (by omega) (by omega)
theorem diffI(lf:Nat)(h3:200000≤lf){x y:Int}(hx: -K < x∧x < K)(hy: -K < y∧y < K):bP.f lf (bs (Lib.itoa x)) (bs (Lib.itoa y))=some (bs (Lib.itoa (x-y)),()):=by
 have:=szK hx
 have:=szK hy
 exact uM lf h3 (by omega) (by omega)
theorem CK{z:Int}(h: -C < z∧z < C): -K < z∧z < K:=by have:=kG;omega
def negS(s:Sp):Sp:=common s ⟨.ni,.fin (-1)⟩
def zerS(s:Sp):Sp:=common s ⟨.fin 0,.fin 0⟩
theorem hullNE{s t:Sp}(hs:emp s=false)(ht:emp t=false):hull s t=⟨xmin s.lo t.lo,xmax s.hi t.hi⟩:=by
 unfold hull;rw[if_neg (by simp[hs]),if_neg (by simp[ht])]
theorem aeb(z:Int):decide (sgn z < 0)=decide (z < 0):=by simp only[decide_eq_decide];unfold sgn;(repeat' split)<;>omega
section
variable (lf:Nat)(h3:200000≤lf)
include h3
theorem rng:aC.f lf (ob none) (ob none)=some (ac (toA ⟨.ni,.pi⟩),()):=pG lf h3 none none trivial trivial
end
end Go.N
namespace Go.N
open Go Go.Q Go.Rx
theorem zi{x y q r:Int}(h:x=y*q+r)(hy:0 < y)(h0:0≤r)(h1:r < y)(hx:0≤x):Int.gcd y r=Int.gcd x y:=by
 have e:r=x % y:=by rw[h,Int.mul_add_emod_self_left];exact(Int.emod_eq_of_lt h0 h1).symm
 obtain⟨a,rfl⟩:=Int.eq_ofNat_of_zero_le hx
 obtain⟨b,rfl⟩:=Int.eq_ofNat_of_zero_le (Int.le_of_lt hy)
 have e':r=((a % b:Nat):Int):=by rw[e];rfl
 rw[e',Int.gcd_natCast_natCast,Int.gcd_natCast_natCast,Nat.gcd_comm a b,Nat.gcd_rec b a,Nat.gcd_comm]
theorem abr(lf:Nat)(hlf:2000000000≤lf):∀ (k n:Nat) (xs ys:List Int),lv G ys≤k→k < n→Dg G xs→Dg G ys→Tr xs→Tr ys→xs.length≤40000→ys.length≤40000→
  ∃ r,eY.l0 lf n xs ys=some ((r,()),())∧Dg G r∧Tr r∧r.length≤max xs.length ys.length∧lv G r=(Int.gcd (lv G xs) (lv G ys):Int):=by
 intro k
 induction k with
 | zero =>
  intro n xs ys hk hn hx hy tx ty lx ly
  obtain⟨m,rfl⟩:=Nat.exists_eq_succ_of_ne_zero (show n≠0 by omega)
  have y0:=bQ (B:=G) (by decide) hy
  have x0:=bQ (B:=G) (by decide) hx
  have:ys=[]:=(qL (B:=G) (by decide) hy ty).1 (by omega)
  subst this
  refine⟨xs,?_,hx,tx,by omega,?_⟩
  ·rw[eY.l0,eY.r0,decide_eq_false (by simp),brF]
  ·rw[show lv G []=0 from rfl,Int.gcd_zero_right];omega
 | succ k ih =>
  intro n xs ys hk hn hx hy tx ty lx ly
  obtain⟨m,rfl⟩:=Nat.exists_eq_succ_of_ne_zero (show n≠0 by omega)
  have x0:=bQ (B:=G) (by decide) hx
  by_cases h:ys=[]
  ·subst h
   refine⟨xs,?_,hx,tx,by omega,?_⟩
   ·rw[eY.l0,eY.r0,decide_eq_false (by simp),brF]
   ·rw[show lv G []=0 from rfl,Int.gcd_zero_right];omega
  ·obtain⟨Q,R,e,dq,tq,dr,tr',val,lt⟩:=yQ lf xs ys hx hy tx ty h (by omega) (by omega) hlf
   have yp:=nO (B:=G) (by decide) hy ty h
   have R0:=bQ (B:=G) (by decide) dr
   have lR:R.length≤ys.length:=by
    by_cases z:R.length≤ys.length
    ·exact z
    ·have:=kU (B:=G) (by decide) hy dr tr' (by omega);omega
   obtain⟨r,r1,r2,r3,r4,r5⟩:=ih m ys R (by omega) (by omega) hy dr ty tr' ly (by omega)
   refine⟨r,?_,r2,r3,by omega,?_⟩
   ·have:0 < ys.length:=List.length_pos_iff.2 h
    rw[eY.l0,eY.r0,decide_eq_true (by omega),brT,e,bdS]
    exact r1
   ·rw[r5,zi val yp R0 lt x0]
def Big(lf:Nat):Prop:=2000000000≤lf∧K < (lf:Int)
theorem afx(lf:Nat)(hb:Big lf){x y:Int}(hx: -K < x∧x < K)(hy: -K < y∧y < K):nH.f lf (bs (Lib.itoa x)) (bs (Lib.itoa y))=some (bs (Lib.itoa (Int.gcd x y)),0,()):=by
 obtain⟨hlf,hK⟩:=hb
 obtain⟨p,q,e,k1,k2,_⟩:=vg lf _ _ (chkK hx) (chkK hy) (by omega)
 rw[fG]at k1 k2
 have vx:lv G p.2.1=(x.natAbs:Int):=by
  have:=k1.val
  have:=bQ (B:=G) (by decide) k1.dg
  split at*<;> omega
 have vy:lv G q.2.1=(y.natAbs:Int):=by
  have:=k2.val
  have:=bQ (B:=G) (by decide) k2.dg
  split at*<;> omega
 obtain⟨r,r1,r2,r3,r4,r5⟩:=abr lf hlf (lf+39) (lf+40) p.2.1 q.2.1 (by omega) (by omega) k1.dg k2.dg k1.tr k2.tr (by have:=k1.len;omega) (by have:=k2.len;omega)
 rw[vx,vy]at r5
 have g:(Int.gcd (x.natAbs:Int) (y.natAbs:Int):Int)=(Int.gcd x y:Int):=by
  rw[Int.gcd_natCast_natCast];rfl
 have rn:RN (false,r,()) (Int.gcd x y) 4096:=⟨r2,r3,by have:=k1.len;have:=k2.len;simp only;omega,by simp only[Bool.false_eq_true,if_false];rw[r5,g]⟩
 rw[nH.f,e,bdS]
 simp only[bne_self_eq_false,brF]
 rw[eY.f,r1,bdS,bdS,ug lf rn (by omega) (by omega),bdS]
theorem oG(lf:Nat)(z:Int):cu.f lf (bs (Lib.itoa z))=some (bs (Lib.itoa (z.natAbs:Int)),()):=by
 rw[cu.f,iG lf _ (jg z),bdS]
 simp only
 rw[pW]
 have e':Lib.itoa (z.natAbs:Int)=D z.natAbs:=by unfold Lib.itoa;rw[if_neg (by omega)];rfl
 rw[e']
 by_cases hn:z < 0
 ·have e:Lib.itoa z=45::D z.natAbs:=by unfold Lib.itoa;rw[if_pos hn]
  rw[decide_eq_true hn,brT,e,oN (45::D z.natAbs) 1 1 rfl (by simp),bdS]
  rfl
 ·have e:Lib.itoa z=D z.natAbs:=by unfold Lib.itoa;rw[if_neg hn];congr 1;omega
  rw[decide_eq_false hn,brF,e]
theorem i0':Lib.itoa 0=[48]:=by unfold Lib.itoa;rw[if_neg (by omega)];exact kP
theorem beq0(z:Int):((bs (Lib.itoa z)).toList==(⟨#[48]⟩:ByteArray).toList)=decide (z=0):=by
 rw[show(⟨#[48]⟩:ByteArray)=bs [48] from rfl,jK,←i0']
 simp only[decide_eq_decide]
 exact⟨fun e=>kY e,fun e=>by rw[e]⟩
theorem aaj(lf:Nat)(h3:200000≤lf):∀ (k n:Nat) (x y:Int),0≤x→0≤y→y≤k→k < n→sz x≤20000→sz y≤20000→
  bY.l0 lf n (bs (Lib.itoa x)) (bs (Lib.itoa y))=some ((bs (Lib.itoa (Int.gcd x y)),()),()):=by
 intro k
 induction k with
 | zero =>
  intro n x y x0 y0 hk hn sx sy
  obtain⟨m,rfl⟩:=Nat.exists_eq_succ_of_ne_zero (show n≠0 by omega)
  obtain rfl:y=0:=by omega
  rw[bY.l0,bY.r0,beq0,decide_eq_true rfl,Bool.not_true,brF,Int.gcd_zero_right,show((x.natAbs:Nat):Int)=x by omega]
 | succ k ih =>
  intro n x y x0 y0 hk hn sx sy
  obtain⟨m,rfl⟩:=Nat.exists_eq_succ_of_ne_zero (show n≠0 by omega)
  rw[bY.l0,bY.r0,beq0]
  by_cases h:y=0
  ·subst h
   rw[decide_eq_true rfl,Bool.not_true,brF,Int.gcd_zero_right,show((x.natAbs:Nat):Int)=x by omega]
  ·have m1:=Int.mul_fdiv_add_fmod x y
   have a:=Int.fmod_nonneg_of_pos x (show 0 < y by omega)
   have b:=Int.fmod_lt_of_pos x (show 0 < y by omega)
   have sr:sz (x.fmod y)≤20000:=by
    have:=oH sy (by omega)
    exact rP (by omega) (by omega)
   rw[decide_eq_false h,Bool.not_false,brT,vk lf h3 sx sy h,bdS]
   have:=ih m y (x.fmod y) (by omega) a (by omega) (by omega) sy sr
   rw[zi m1.symm (by omega) a b x0]at this
   exact this
theorem uH(lf:Nat)(hb:Big lf){x y:Int}(hx: -K < x∧x < K)(hy: -K < y∧y < K):bY.f lf (bs (Lib.itoa x)) (bs (Lib.itoa y))=some (bs (Lib.itoa (Int.gcd x y)),()):=by
 obtain⟨hlf,hK⟩:=hb
 have sx:=(sz_K (x.natAbs:Int)).2 (by omega)
 have sy:=(sz_K (y.natAbs:Int)).2 (by omega)
 rw[bY.f,oG,bdS,oG,bdS,aaj lf (by omega) (lf+39) (lf+40) _ _ (by omega) (by omega) (by omega) (by omega) (by omega) (by omega),bdS]
 have g:(Int.gcd (x.natAbs:Int) (y.natAbs:Int))=Int.gcd x y:=by rw[Int.gcd_natCast_natCast];rfl
 rw[g]
end Go.N
namespace Go.N
open Go Go.Q Go.Rx
def ckc(em:Bool)(l h:List UInt8):Int :=
 if em=true then(if l≠[]∨h≠[]then 3 else 0)else if num l≠0 then num l else if num h≠0 then num h else if iv l < 0∨(iv l≠0∧(iv h < 0∨¬iv h < iv l))then 2 else 0
theorem aeC(lf:Nat)(l:List UInt8)(hl:l.length≤9223372036854775807)(hf:l.length≤lf):gG.f lf (bs l)=some (num l,()):=by
 rw[gG.f,acj lf l hl hf,bdS]
 unfold num chk
 cases hc:can l with
 | false=>simp[brT]
 | true =>
  simp only[Bool.not_true,brF,if_true]
  rw[lD lf l (jl hc).2.2 hl,bdS]
  by_cases h:nlen l > 100
  ·rw[decide_eq_true (by omega),brT]
   by_cases h2:nlen l > 4096
   ·rw[if_pos h2];rfl
   ·rw[if_neg h2,if_neg (by simp),if_pos h]
  ·rw[decide_eq_false (by omega),brF,if_neg (show ¬nlen l > 4096 by omega),if_neg (by simp),if_neg h]
theorem acB(lf:Nat)(l:List UInt8)(hl:l.length≤9223372036854775807):eX.f lf (bs l)=some (decide (nlen l > 100),()):=by
 have:=uf l
 rw[eX.f,lK,bdS,gq]
 congr 2
 simp only[decide_eq_decide];unfold nlen;omega
theorem numC(lf:Nat)(l:List UInt8)(hl:l.length≤9223372036854775807):iQ.f lf (bs l)=some (num l,()):=by
 rw[iQ.f,nT lf l hl,bdS]
 simp only[acB lf l hl,bdS]
 unfold num
 by_cases h:chk l=0
 ·rw[h]
  simp only[show((0:Int)==10)=false from rfl,brF,BEq.rfl,brT,bne_self_eq_false,ne_eq,not_true,if_false]
  by_cases h2:nlen l > 100
  ·rw[decide_eq_true h2,brT,if_pos h2]
  ·rw[decide_eq_false h2,brF,if_neg h2]
 ·rw[if_pos h,show(chk l==0)=false from beq_eq_false_iff_ne.2 h,brF,bneT h,brT]
  by_cases h2:chk l=10
  ·rw[h2,BEq.rfl,brT]
  ·rw[show(chk l==10)=false from beq_eq_false_iff_ne.2 h2,brF]
theorem uU(lf:Nat)(l m:List UInt8)(h1:chk l=0)(h2:chk m=0)(h3:200000≤lf):eU.f lf (bs l) (bs m)=some (decide (iv l < iv m),()):=by
 rw[eU.f,rY lf l m h1 h2 h3,bdS]
 simp only
 rw[jI.f,bdS]
 congr 2
 simp only[decide_eq_decide];unfold sgn;(repeat' split)<;>omega
theorem aez(lf:Nat)(h3:200000≤lf)(em:Bool)(l h:List UInt8)(hl:l.length≤9223372036854775807)(hh:h.length≤9223372036854775807):bg.f lf (em,bs l,bs h,())=some (ckc em l h,()):=by
 rw[bg.f]
 simp only[e0,jK,numC lf l hl,numC lf h hh,bdS]
 unfold ckc
 cases em with
 | true =>
  rw[brT,if_pos rfl]
  by_cases c1:l=[]<;>by_cases c2:h=[]<;>simp[c1,c2,brT,brF]
 | false =>
  rw[brF,if_neg (by simp)]
  by_cases c1:num l=0
  ·rw[c1,bne_self_eq_false,brF,if_neg (by simp)]
   by_cases c2:num h=0
   ·rw[c2,bne_self_eq_false,brF,if_neg (by simp)]
    have k1:=nY c1
    have k2:=nY c2
    have z:(⟨#[48]⟩:ByteArray)=bs [48]:=rfl
    rw[z,uU lf l [48] k1 aew h3,bdS,uU lf h [48] k2 aew h3,uU lf h l k2 k1 h3,iv48]
    simp only[bdS]
    have e:l=[48]↔iv l=0:=(tZ (jO.1 k1).1).symm
    by_cases a:iv l < 0
    ·rw[decide_eq_true a,brT,if_pos (.inl a)]
    ·rw[decide_eq_false a,brF]
     by_cases b:iv l=0
     ·rw[decide_eq_true (e.2 b),Bool.not_true,brF,if_neg (by omega)]
     ·rw[decide_eq_false (fun x=>b (e.1 x)),Bool.not_false,brT]
      by_cases c:iv h < 0
      ·rw[decide_eq_true c,brT,if_pos (.inr ⟨b,.inl c⟩)]
      ·rw[decide_eq_false c,brF]
       by_cases d:iv h < iv l
       ·rw[decide_eq_true d,Bool.not_true,brF,if_neg (by omega)]
       ·rw[decide_eq_false d,Bool.not_false,brT,if_pos (.inr ⟨b,.inr d⟩)]
   ·rw[bneT c2,brT,if_pos c2]
  ·rw[bneT c1,brT,if_pos c1]
theorem aax(lf:Nat)(h3:200000≤lf)(em:Bool)(l h:List UInt8)(hl:l.length≤9223372036854775807)(hh:h.length≤9223372036854775807)(fl:l.length≤lf)(fh:h.length≤lf):iw.f lf (em,bs l,bs h,())=some (ckc em l h,()):=by
 rw[iw.f]
 simp only[e0,jK,aeC lf l hl fl,aeC lf h hh fh,bdS]
 unfold ckc
 cases em with
 | true =>
  rw[brT,if_pos rfl]
  by_cases c1:l=[]<;>by_cases c2:h=[]<;>simp[c1,c2,brT,brF]
 | false =>
  rw[brF,if_neg (by simp)]
  by_cases c1:num l=0
  ·rw[c1,bne_self_eq_false,brF,if_neg (by simp)]
   by_cases c2:num h=0
   ·rw[c2,bne_self_eq_false,brF,if_neg (by simp)]
    have k1:=nY c1
    have k2:=nY c2
    have l1:=mZ c1
    have l2:=mZ c2
    have z:(⟨#[48]⟩:ByteArray)=bs [48]:=rfl
    rw[rM lf l (jO.1 k1).1,bdS,rM lf h (jO.1 k2).1,xI lf h l (jO.1 k2).1 (jO.1 k1).1 (by omega) (by omega) h3]
    simp only[bdS,aeb]
    have e:l=[48]↔iv l=0:=(tZ (jO.1 k1).1).symm
    by_cases a:iv l < 0
    ·rw[decide_eq_true a,brT,if_pos (.inl a)]
    ·rw[decide_eq_false a,brF]
     by_cases b:iv l=0
     ·rw[decide_eq_true (e.2 b),Bool.not_true,brF,if_neg (by omega)]
     ·rw[decide_eq_false (fun x=>b (e.1 x)),Bool.not_false,brT]
      by_cases c:iv h < 0
      ·rw[decide_eq_true c,brT,if_pos (.inr ⟨b,.inl c⟩)]
      ·rw[decide_eq_false c,brF]
       by_cases d:iv h < iv l
       ·rw[decide_eq_true d,Bool.not_true,brF,if_neg (by omega)]
       ·rw[decide_eq_false d,Bool.not_false,brT,if_pos (.inr ⟨b,.inr d⟩)]
   ·rw[bneT c2,brT,if_pos c2]
  ·rw[bneT c1,brT,if_pos c1]
structure Cg where
 em:Bool
 m:Int
 r:Int
deriving DecidableEq
def cc(c:Cg):IV:=if c.em=true then(true,bs [],bs [],())else(false,bs (Lib.itoa c.m),bs (Lib.itoa c.r),())
structure WfC(c:Cg):Prop where
 m: -C < c.m∧c.m < C
 r: -C < c.r∧c.r < C
 pos:0≤c.m
 rng:c.m≠0→0≤c.r∧c.r < c.m
def Ec:Cg:=⟨true,0,0⟩
def topC:Cg:=⟨false,1,0⟩
theorem aeU{em:Bool}{l h:List UInt8}(hc:ckc em l h=0):∃ c:Cg,((em,bs l,bs h,()):IV)=cc c∧WfC c:=by
 have hC:=C_gt
 unfold ckc at hc
 cases em with
 | true =>
  rw[if_pos rfl]at hc
  have:¬(l≠[]∨h≠[]):=fun x=>by rw[if_pos x]at hc;cases hc
  have l0:l=[]:=by simpa using fun x=>this (.inl x)
  have h0:h=[]:=by simpa using fun x=>this (.inr x)
  subst l0 h0
  exact⟨Ec,rfl,⟨by simp only[Ec];omega,by simp only[Ec];omega,by simp[Ec],fun x=>absurd rfl x⟩⟩
 | false =>
  rw[if_neg (by simp)]at hc
  by_cases c1:num l=0
  ·rw[if_neg (by simp[c1])]at hc
   by_cases c2:num h=0
   ·rw[if_neg (by simp[c2])]at hc
    have n:¬(iv l < 0∨(iv l≠0∧(iv h < 0∨¬iv h < iv l))):=fun x=>by rw[if_pos x]at hc;cases hc
    have i1:=qw (jZ.1 c1).1
    have i2:=qw (jZ.1 c2).1
    refine⟨⟨false,iv l,iv h⟩,by unfold cc;rw[if_neg (by simp)];simp only;rw[←i1,←i2],?_⟩
    rw[i1,nP]at c1
    rw[i2,nP]at c2
    exact⟨c1,c2,by simp only;omega,fun x=>by simp only at x⊢;omega⟩
   ·rw[if_pos c2]at hc;exact absurd hc c2
  ·rw[if_pos c1]at hc;exact absurd hc c1
def clsF(m r:Int):Cg :=
 if sz (m.natAbs:Int) > 100∨sz (if m=0 then r else r.fmod (m.natAbs:Int)) > 100 then topC else⟨false,(m.natAbs:Int),if m=0 then r else r.fmod (m.natAbs:Int)⟩
theorem longI(lf:Nat){z:Int}(hz: -K < z∧z < K):eX.f lf (bs (Lib.itoa z))=some (decide (sz z > 100),()):=by
 have:=lI hz
 rw[acB lf _ (by omega)];rfl
theorem afq(lf:Nat){z:Int}(hz: -K < z∧z < K):nG.f lf (bs (Lib.itoa z))=some (bs (Lib.itoa (z.natAbs:Int)),0,()):=by
 have:=lI hz
 rw[nG.f,nT lf _ (by omega),bdS]
 simp only[chkK hz,bne_self_eq_false,brF]
 rw[lK,bdS,rV]
 have e':Lib.itoa (z.natAbs:Int)=D z.natAbs:=by unfold Lib.itoa;rw[if_neg (by omega)];rfl
 rw[e']
theorem aeJ:((false,(⟨#[49]⟩:ByteArray),(⟨#[48]⟩:ByteArray),()):IV)=cc topC:=by
 unfold cc topC;rw[if_neg (by simp)];simp only;rw[i1,i0]
theorem sK{x m:Int}(hx: -K < x∧x < K)(hm: -K < m∧m < K)(h0:m≠0): -K < x.fmod m∧x.fmod m < K:=by
 have:=yY (x:=x) h0
 omega
theorem adI(lf:Nat)(hlf:2000000000≤lf){m r:Int}(hm: -K < m∧m < K)(hr: -K < r∧r < K):iE.f lf (bs (Lib.itoa m)) (bs (Lib.itoa r))=some (cc (clsF m r),()):=by
 have ha: -K < (m.natAbs:Int)∧(m.natAbs:Int) < K:=by omega
 rw[iE.f,afq lf hm,bdS]
 simp only[fU.f,bdS,beq0,longI lf ha,jq.f,aeJ]
 unfold clsF
 by_cases h:m=0
 ·subst h
  simp only[longI lf hr,bdS]
  rw[decide_eq_true (by trivial),Bool.not_true,brF]
  by_cases c1:sz ((0:Int).natAbs:Int) > 100
  ·rw[decide_eq_true c1,brT,if_pos (.inl c1)]
  ·rw[decide_eq_false c1,brF]
   by_cases c2:sz r > 100
   ·rw[decide_eq_true c2,brT,if_pos (.inr (by rw[if_pos trivial];exact c2))]
   ·rw[decide_eq_false c2,brF,if_neg (by rw[if_pos trivial];exact fun x=>x.elim c1 c2),if_pos trivial]
    unfold cc;rw[if_neg (by simp)]
 ·have h':(m.natAbs:Int)≠0:=by omega
  have rk:=sK hr ha h'
  simp only[lU lf hlf hr ha h',bdS,longI lf rk]
  rw[decide_eq_false h',Bool.not_false,brT]
  by_cases c1:sz (m.natAbs:Int) > 100
  ·rw[decide_eq_true c1,brT,if_pos (.inl c1)]
  ·rw[decide_eq_false c1,brF]
   by_cases c2:sz (r.fmod (m.natAbs:Int)) > 100
   ·rw[decide_eq_true c2,brT,if_pos (.inr (by rw[if_neg h];exact c2))]
   ·rw[decide_eq_false c2,brF,if_neg (by rw[if_neg h];exact fun x=>x.elim c1 c2),if_neg h]
    unfold cc;rw[if_neg (by simp)]
theorem xg(lf:Nat){z:Int}(hz: -K < z∧z < K):aF.f lf (bs (Lib.itoa z))=some ((sz z:Int),()):=by
 have:=lI hz
 exact lD lf _ (jg z) (by omega)
theorem ack(n:Nat):decide (((n:Nat):Int) > 100)=decide (n > 100):=by simp only[decide_eq_decide];omega
theorem rW(lf:Nat)(h3:200000≤lf){m r:Int}(hm: -K < m∧m < K)(hr: -K < r∧r < K):dU.f lf (bs (Lib.itoa m)) (bs (Lib.itoa r))=some (cc (clsF m r),()):=by
 have ha: -K < (m.natAbs:Int)∧(m.natAbs:Int) < K:=by omega
 rw[dU.f,oG,bdS]
 simp only[beq0,xg lf ha,bdS,dF.f,aeJ,ack]
 unfold clsF
 by_cases h:m=0
 ·subst h
  simp only[xg lf hr,bdS,ack]
  rw[decide_eq_true (by trivial),Bool.not_true,brF]
  by_cases c1:sz ((0:Int).natAbs:Int) > 100
  ·rw[decide_eq_true c1,brT,if_pos (.inl c1)]
  ·rw[decide_eq_false c1,brF]
   by_cases c2:sz r > 100
   ·rw[decide_eq_true c2,brT,if_pos (.inr (by rw[if_pos trivial];exact c2))]
   ·rw[decide_eq_false c2,brF,if_neg (by rw[if_pos trivial];exact fun x=>x.elim c1 c2),if_pos trivial]
    unfold cc;rw[if_neg (by simp)]
 ·have h':(m.natAbs:Int)≠0:=by omega
  have rk:=sK hr ha h'
  have s1:=szK hr
  have s2:=szK ha
  simp only[vk lf h3 (x:=r) (y:=(m.natAbs:Int)) (by omega) (by omega) h',bdS,xg lf rk,ack]
  rw[decide_eq_false h,Bool.not_false,brT]
  by_cases c1:sz (m.natAbs:Int) > 100
  ·rw[decide_eq_true c1,brT,if_pos (.inl c1)]
  ·rw[decide_eq_false c1,brF]
   by_cases c2:sz (r.fmod (m.natAbs:Int)) > 100
   ·rw[decide_eq_true c2,brT,if_pos (.inr (by rw[if_neg h];exact c2))]
   ·rw[decide_eq_false c2,brF,if_neg (by rw[if_neg h];exact fun x=>x.elim c1 c2),if_neg h]
    unfold cc;rw[if_neg (by simp)]
def dvd'(m a:Int):Bool:=if m=0 then decide (a=0)else decide (a.fmod m=0)
end Go.N
namespace Go.N
open Go Go.Q Go.Rx
theorem xk{k x y:Int}(hx: -k < x∧x < k)(hy: -k < y∧y < k): -k < (Int.gcd x y:Int)∧(Int.gcd x y:Int) < k:=by
 by_cases h:x=0
 ·subst h;rw[Int.gcd_zero_left];omega
 ·have:=Nat.gcd_le_left y.natAbs (show 0 < x.natAbs by omega)
  have e:Int.gcd x y=Nat.gcd x.natAbs y.natAbs:=rfl
  omega
section
variable (lf:Nat)(hb:Big lf)
include hb
theorem ab2{x y:Int}(hx: -K < x∧x < K)(hy: -K < y∧y < K):iK.f lf (bs (Lib.itoa x)) (bs (Lib.itoa y))=some (bs (Lib.itoa (Int.gcd x y)),()):=by
 rw[iK.f,afx lf hb hx hy,bdS,fU.f,bdS]
theorem zQ{x y:Int}(hx: -K < x∧x < K)(hy: -K < y∧y < K)(h: -K < x-y∧x-y < K):fJ.f lf (bs (Lib.itoa x)) (bs (Lib.itoa y))=some (bs (Lib.itoa (x-y)),()):=by
 have:=(sz_K (x-y)).2 h
 rw[fJ.f,aeH lf _ _ (chkK hx) (chkK hy) (by have:=hb.1;omega),fG,fG,qm,if_neg (by omega),bdS,fU.f,bdS]
end
def joinC(c d:Cg):Cg:=if c.em=true then d else if d.em=true then c else clsF (Int.gcd (Int.gcd c.m d.m) (c.r-d.r)) c.r
theorem kJ{c:Cg}(h:c.em=false):cc c=(false,bs (Lib.itoa c.m),bs (Lib.itoa c.r),()):=by unfold cc;rw[if_neg (by simp[h])]
theorem pM{c:Cg}(h:c.em=true):cc c=(true,bs [],bs [],()):=by unfold cc;rw[if_pos h]
theorem ads{c:Cg}(h:WfC c):∃ (l m:List UInt8),cc c=(c.em,bs l,bs m,())∧ckc c.em l m=0∧l.length≤101∧m.length≤101:=by
 have hK:=kG
 cases e:c.em with
 | true=>exact⟨[],[],pM e,by simp[ckc],by simp,by simp⟩
 | false =>
  have n1:=(nP c.m).2 h.m
  have n2:=(nP c.r).2 h.r
  refine⟨Lib.itoa c.m,Lib.itoa c.r,kJ e,?_,mZ n1,mZ n2⟩
  unfold ckc
  rw[if_neg (by simp),n1,n2,fG,fG,if_neg (by simp),if_neg (by simp),if_neg]
  have a:=h.pos
  have b:=h.rng
  intro x
  rcases x with x | ⟨x,y⟩
  ·omega
  ·have:=b x;omega
section
variable (lf:Nat)(hb:Big lf){c d:Cg}(hc:WfC c)(hd:WfC d)
include hb hc
theorem ccheck:bg.f lf (cc c)=some (0,()):=by
 obtain⟨l,m,e,h,a,b⟩:=ads hc
 rw[e,aez lf (by have:=hb.1;omega) _ _ _ (by omega) (by omega),h]
theorem rcheck:iw.f lf (cc c)=some (0,()):=by
 obtain⟨l,m,e,h,a,b⟩:=ads hc
 have:=hb.1
 rw[e,aax lf (by omega) _ _ _ (by omega) (by omega) (by omega) (by omega),h]
include hd
theorem cboth:iW.f lf (cc c) (cc d)=some (0,()):=by
 rw[iW.f,ccheck lf hb hc,bdS]
 simp only[bne_self_eq_false,brF]
 rw[ccheck lf hb hd,bdS]
theorem bounds:(-K < c.m∧c.m < K)∧(-K < c.r∧c.r < K)∧(-K < d.m∧d.m < K)∧(-K < d.r∧d.r < K)∧(-K < c.r-d.r∧c.r-d.r < K)∧(-K < c.r+d.r∧c.r+d.r < K)∧(-K < c.m*d.m∧c.m*d.m < K)∧(-K < c.m*d.r∧c.m*d.r < K)∧(-K < d.m*c.r∧d.m*c.r < K)∧(-K < c.r*d.r∧c.r*d.r < K):=by
 have hK:=CC_K
 have hC:=C_gt
 have hCK:=kG
 have h4:0≤C*C:=Int.mul_nonneg (by omega) (by omega)
 have a1:=hc.m
 have a2:=hc.r
 have a3:=hd.m
 have a4:=hd.r
 have m1:=zx a1 a3
 have m2:=zx a1 a4
 have m3:=zx a3 a2
 have m4:=zx a2 a4
 refine⟨by omega,by omega,by omega,by omega,by omega,by omega,by omega,by omega,by omega,by omega⟩
theorem ae8:iV.f lf (cc c) (cc d)=some (cc (joinC c d),0,()):=by
 obtain⟨b1,b2,b3,b4,b5,b6,b7,b8,b9,b10⟩:=bounds lf hb hc hd
 rw[iV.f,cboth lf hb hc hd,bdS]
 unfold joinC
 cases ec:c.em with
 | true=>rw[pM ec];simp only[bne_self_eq_false,brF,brT,if_true]
 | false=>cases ed:d.em with
  | true=>rw[kJ ec,pM ed];simp only[bne_self_eq_false,brF,brT,if_true,if_false,Bool.false_eq_true];rw[kJ ec]
  | false =>
   rw[kJ ec,kJ ed]
   have g1:=xk b1 b3
   simp only[bne_self_eq_false,brF,if_false,Bool.false_eq_true,ab2 lf hb b1 b3,zQ lf hb b2 b4 b5,bdS,ab2 lf hb g1 b5,adI lf hb.1 (xk g1 b5) b2]
theorem acp:iO.f lf (cc c) (cc d)=some (cc (joinC c d),()):=by
 obtain⟨b1,b2,b3,b4,b5,b6,b7,b8,b9,b10⟩:=bounds lf hb hc hd
 have h3:200000≤lf:=by have:=hb.1;omega
 rw[iO.f]
 unfold joinC
 cases ec:c.em with
 | true=>rw[pM ec];simp only[brT,if_true]
 | false=>cases ed:d.em with
  | true=>rw[kJ ec,pM ed];simp only[brF,brT,if_true,if_false,Bool.false_eq_true];rw[kJ ec]
  | false =>
   rw[kJ ec,kJ ed]
   have g1:=xk b1 b3
   simp only[brF,if_false,Bool.false_eq_true,uH lf hb b1 b3,diffI lf h3 b2 b4,bdS,uH lf hb g1 b5,rW lf h3 (xk g1 b5) b2]
end
end Go.N
namespace Go.N
open Go Go.Q Go.Rx
section
variable (lf:Nat)(hb:Big lf){c d:Cg}(hc:WfC c)(hd:WfC d)
include hb hc hd
end
end Go.N
namespace Go.N
open Go Go.Q Go.Rx
section
variable (lf:Nat)(hb:Big lf){c d:Cg}(hc:WfC c)(hd:WfC d)
include hb hc hd
end
end Go.N
namespace Go.N
open Go Go.Q Go.Rx
theorem wU{m r:Int}:WfC (clsF m r):=by
 have hC:=C_gt
 unfold clsF
 by_cases h:sz (m.natAbs:Int) > 100∨sz (if m=0 then r else r.fmod (m.natAbs:Int)) > 100
 ·rw[if_pos h]
  exact⟨by simp only[topC];omega,by simp only[topC];omega,by simp[topC],fun _=>by simp[topC]⟩
 ·rw[if_neg h]
  have h1:=(sz_C (m.natAbs:Int)).1 (by omega)
  have h2:=(sz_C (if m=0 then r else r.fmod (m.natAbs:Int))).1 (by omega)
  refine⟨h1,h2,by simp only;omega,fun x=>?_⟩
  simp only at x⊢
  have h0:m≠0:=by omega
  rw[if_neg h0]
  exact⟨Int.fmod_nonneg_of_pos r (by omega),Int.fmod_lt_of_pos r (by omega)⟩
theorem aer:WfC Ec:=by
 have hC:=C_gt
 exact⟨by simp only[Ec];omega,by simp only[Ec];omega,by simp[Ec],fun x=>absurd rfl x⟩
theorem aeg:WfC topC:=by
 have hC:=C_gt
 exact⟨by simp only[topC];omega,by simp only[topC];omega,by simp[topC],fun _=>by simp[topC]⟩
theorem qZ{c d:Cg}(hc:WfC c)(hd:WfC d):WfC (joinC c d):=by
 unfold joinC;split
 ·exact hd
 ·split
  ·exact hc
  ·exact wU
def inC(c:Cg)(a:Int):Bool:=!c.em&&dvd' c.m (a-c.r)
def kT(c d:Cg):Bool:=if c.em=true then true else if d.em=true then false else dvd' d.m c.m&&dvd' d.m (c.r-d.r)
section
variable (lf:Nat)(hb:Big lf){c d:Cg}(hc:WfC c)(hd:WfC d)
include hb hc hd
end
section
variable (lf:Nat)(hb:Big lf){c:Cg}(hc:WfC c)
include hb hc
end
end Go.N
namespace Go.N
open Go Go.Q Go.Rx
def negC(c:Cg):Cg:=if c.em=true then Ec else clsF c.m (-c.r)
theorem aaO{c:Cg}:WfC (negC c):=by unfold negC;split;exact aer;exact wU
section
variable (lf:Nat)(hb:Big lf){c:Cg}(hc:WfC c)
include hb hc
theorem aae:gU.f lf (cc c)=some (cc (negC c),()):=by
 have h3:200000≤lf:=by have:=hb.1;omega
 have bm:=CK hc.m
 have br':=CK hc.r
 rw[gU.f]
 unfold negC
 cases ec:c.em with
 | true=>rw[pM ec];simp only[brT,if_true];rfl
 | false =>
  rw[kJ ec]
  simp only[brF,if_false,Bool.false_eq_true,pX lf br',bdS,rW lf h3 bm (r:= -c.r) (by omega)]
end
end Go.N
namespace Go.N
open Go Go.Q Go.Rx
def aboveC(c:Cg)(a:Int):Option Int:=if c.m=0 then(if c.r < a then none else some c.r)else some (a+(c.r-a).fmod c.m)
theorem qY{x y m:Int}(h:0 < m):(x.fmod m-y.fmod m).fmod m=(x-y).fmod m:=by
 rw[Int.fmod_eq_emod_of_nonneg _ (Int.le_of_lt h),Int.fmod_eq_emod_of_nonneg _ (Int.le_of_lt h),Int.fmod_eq_emod_of_nonneg _ (Int.le_of_lt h),Int.fmod_eq_emod_of_nonneg _ (Int.le_of_lt h),←Int.sub_emod]
section
variable (lf:Nat)(hb:Big lf){c:Cg}(hc:WfC c)(he:c.em=false){a:Int}(ha: -Dd < a∧a < Dd)
include hb hc he ha
theorem adT:jP.f lf (cc c) (bs (Lib.itoa a))=some (match aboveC c a with
  | none=>(bs [],6,())
  | some v=>(bs (Lib.itoa v),0,())):=by
 have hlf:=hb.1
 have hD:=DD_K
 have hC:=C_gt
 have hCD:=lm
 have h4:0≤Dd*Dd:=Int.mul_nonneg (by omega) (by omega)
 have ka: -K < a∧a < K:=by omega
 have hl:=lI ka
 have m1:=hc.m
 have r1:=hc.r
 have bm:=CK hc.m
 have br':=CK hc.r
 rw[jP.f,ccheck lf hb hc,bdS]
 simp only[bne_self_eq_false,brF,nT lf (Lib.itoa a) (by omega),chkK ka,bdS]
 rw[kJ he]
 simp only[brF,beq0]
 unfold aboveC
 by_cases z:c.m=0
 ·rw[decide_eq_true z,Bool.not_true,brF,if_pos z,uU lf _ _ (chkK br') (chkK ka) (by omega),fG,fG,bdS]
  simp only
  by_cases h:c.r < a
  ·rw[decide_eq_true h,brT,if_pos h]
  ·rw[decide_eq_false h,brF,if_neg h]
 ·have p:0 < c.m:=by have:=hc.pos;omega
  have k1:=sK br' bm z
  have k2:=sK ka bm z
  have g1:=Int.fmod_nonneg_of_pos c.r p
  have g2:=Int.fmod_lt_of_pos c.r p
  have g3:=Int.fmod_nonneg_of_pos a p
  have g4:=Int.fmod_lt_of_pos a p
  have k3: -K < c.r.fmod c.m-a.fmod c.m∧c.r.fmod c.m-a.fmod c.m < K:=by omega
  have g5:=Int.fmod_nonneg_of_pos (c.r-a) p
  have g6:=Int.fmod_lt_of_pos (c.r-a) p
  rw[decide_eq_false z,Bool.not_false,brT,if_neg z,gJ.f,lU lf hlf br' bm z,bdS]
  simp only[bne_self_eq_false,brF,lU lf hlf ka bm z,bdS,zQ lf hb k1 k2 k3,lU lf hlf k3 bm z,qY p,abl lf (by omega) ka (y:=(c.r-a).fmod c.m) (by omega) (by omega)]
theorem aav:fQ.f lf (cc c) (bs (Lib.itoa a))=some (match aboveC c a with
  | none=>(bs [],false,())
  | some v=>(bs (Lib.itoa v),true,())):=by
 have h3:200000≤lf:=by have:=hb.1;omega
 have hD:=DD_K
 have hC:=C_gt
 have hCD:=lm
 have h4:0≤Dd*Dd:=Int.mul_nonneg (by omega) (by omega)
 have ka: -K < a∧a < K:=by omega
 have m1:=hc.m
 have r1:=hc.r
 have bm:=CK hc.m
 have br':=CK hc.r
 rw[fQ.f,kJ he]
 simp only[beq0]
 unfold aboveC
 by_cases z:c.m=0
 ·rw[decide_eq_true z,brT,if_pos z,lessI lf h3 br' ka,bdS]
  simp only
  by_cases h:c.r < a
  ·rw[decide_eq_true h,brT,if_pos h]
  ·rw[decide_eq_false h,brF,if_neg h]
 ·have p:0 < c.m:=by have:=hc.pos;omega
  have g5:=Int.fmod_nonneg_of_pos (c.r-a) p
  have g6:=Int.fmod_lt_of_pos (c.r-a) p
  have kd: -K < c.r-a∧c.r-a < K:=by omega
  have s1:=szK kd
  have s2:=szK bm
  simp only[decide_eq_false z,brF,if_neg z,diffI lf h3 br' ka,bdS,vk lf h3 (x:=c.r-a) (y:=c.m) (by omega) (by omega) z,sumI lf h3 ka (y:=(c.r-a).fmod c.m) (by omega)]
end
end Go.N
namespace Go.N
open Go Go.Q Go.Rx
def belowC(c:Cg)(a:Int):Option Int:=if c.m=0 then(if a < c.r then none else some c.r)else some (a-(a-c.r).fmod c.m)
theorem wS{m r:Int}(h0:0≤m)(hm: -C < m∧m < C)(hr: -C < r∧r < C):clsF m r=⟨false,m,if m=0 then r else r.fmod m⟩:=by
 have e:(m.natAbs:Int)=m:=by omega
 unfold clsF
 rw[e]
 have s1:=(sz_C m).2 hm
 have s2:sz (if m=0 then r else r.fmod m)≤100:=by
  apply (sz_C _).2
  split
  ·exact hr
  ·have a:=Int.fmod_nonneg_of_pos r (show 0 < m by omega)
   have b:=Int.fmod_lt_of_pos r (show 0 < m by omega)
   omega
 rw[if_neg (by omega)]
theorem abn{c:Cg}(hc:WfC c)(he:c.em=false)(a:Int):belowC c a=(aboveC (negC c) (-a)).map fun v=> -v:=by
 have e:negC c=⟨false,c.m,if c.m=0 then -c.r else(-c.r).fmod c.m⟩:=by
  unfold negC
  rw[if_neg (by simp[he])]
  exact wS hc.pos hc.m (by have:=hc.r;omega)
 rw[e]
 unfold belowC aboveC
 simp only
 by_cases z:c.m=0
 ·simp only[z,if_true]
  by_cases h:a < c.r
  ·rw[if_pos h,if_pos (by omega)];rfl
  ·rw[if_neg h,if_neg (by omega)];simp
 ·have p:0 < c.m:=by have:=hc.pos;omega
  simp only[if_neg z,Option.map_some]
  have k:((-c.r).fmod c.m - -a).fmod c.m=(a-c.r).fmod c.m:=by
   have h1:=qY (x:=(-c.r).fmod c.m) (y:= -a) p
   have h2:=qY (x:= -c.r) (y:= -a) p
   have h3:((-c.r).fmod c.m).fmod c.m=(-c.r).fmod c.m:=by
    rw[Int.fmod_eq_emod_of_nonneg _ (Int.le_of_lt p),Int.fmod_eq_emod_of_nonneg _ (Int.le_of_lt p),Int.emod_emod]
   rw[←h1,h3,h2]
   congr 1;omega
  rw[k]
  congr 1;omega
section
variable (lf:Nat)(hb:Big lf){c:Cg}(hc:WfC c)(he:c.em=false){a:Int}(ha: -Dd < a∧a < Dd)
include hb hc he ha
theorem adG:iq.f lf (cc c) (bs (Lib.itoa a))=some (match belowC c a with
  | none=>(bs [],false,())
  | some v=>(bs (Lib.itoa v),true,())):=by
 have hD:=DD_K
 have hC:=C_gt
 have hCD:=lm
 have h4:0≤Dd*Dd:=Int.mul_nonneg (by omega) (by omega)
 have ne:(negC c).em=false:=by
  have:negC c=⟨false,c.m,if c.m=0 then -c.r else(-c.r).fmod c.m⟩:=by
   unfold negC
   rw[if_neg (by simp[he])]
   exact wS hc.pos hc.m (by have:=hc.r;omega)
  rw[this]
 have ab:=aav lf hb aaO ne (a:= -a) (by omega)
 rw[iq.f,aae lf hb hc,bdS,pX lf (z:=a) (by omega),bdS,ab,bdS,abn hc he]
 cases h:aboveC (negC c) (-a)with
 | none=>simp only[Bool.not_false,brT,Option.map_none]
 | some v =>
  have kv: -K < v∧v < K:=by
   unfold aboveC at h
   have w:=aaO (c:=c)
   have m1:=w.m
   have r1:=w.r
   split at h
   ·split at h
    ·cases h
    ·injection h with h;omega
   ·rename_i z
    have p:0 < (negC c).m:=by have:=w.pos;omega
    have g5:=Int.fmod_nonneg_of_pos ((negC c).r - -a) p
    have g6:=Int.fmod_lt_of_pos ((negC c).r - -a) p
    injection h with h
    omega
  simp only[Bool.not_true,brF,Option.map_some,pX lf kv,bdS]
theorem zX:gY.f lf (cc c) (bs (Lib.itoa a))=some (match belowC c a with
  | none=>(bs [],6,())
  | some v=>(bs (Lib.itoa v),0,())):=by
 have hlf:=hb.1
 have hD:=DD_K
 have hC:=C_gt
 have hCD:=lm
 have h4:0≤Dd*Dd:=Int.mul_nonneg (by omega) (by omega)
 have ka: -K < a∧a < K:=by omega
 have hl:=lI ka
 have m1:=hc.m
 have r1:=hc.r
 have bm:=CK hc.m
 have br':=CK hc.r
 rw[gY.f,ccheck lf hb hc,bdS]
 simp only[bne_self_eq_false,brF,nT lf (Lib.itoa a) (by omega),chkK ka,bdS]
 rw[kJ he]
 simp only[brF,beq0]
 unfold belowC
 by_cases z:c.m=0
 ·rw[decide_eq_true z,Bool.not_true,brF,if_pos z,uU lf _ _ (chkK ka) (chkK br') (by omega),fG,fG,bdS]
  simp only
  by_cases h:a < c.r
  ·rw[decide_eq_true h,brT,if_pos h]
  ·rw[decide_eq_false h,brF,if_neg h]
 ·have p:0 < c.m:=by have:=hc.pos;omega
  have k1:=sK br' bm z
  have k2:=sK ka bm z
  have g1:=Int.fmod_nonneg_of_pos c.r p
  have g2:=Int.fmod_lt_of_pos c.r p
  have g3:=Int.fmod_nonneg_of_pos a p
  have g4:=Int.fmod_lt_of_pos a p
  have k3: -K < a.fmod c.m-c.r.fmod c.m∧a.fmod c.m-c.r.fmod c.m < K:=by omega
  have g5:=Int.fmod_nonneg_of_pos (a-c.r) p
  have g6:=Int.fmod_lt_of_pos (a-c.r) p
  have kf: -K < (a-c.r).fmod c.m∧(a-c.r).fmod c.m < K:=by omega
  have kd: -K < a-(a-c.r).fmod c.m∧a-(a-c.r).fmod c.m < K:=by omega
  have sd:=(sz_K _).2 kd
  have sb:=aeH lf _ _ (chkK ka) (chkK kf) (by omega)
  rw[fG,fG,qm,if_neg (by omega)]at sb
  rw[decide_eq_false z,Bool.not_false,brT,if_neg z,gJ.f,lU lf hlf ka bm z,bdS]
  simp only[bne_self_eq_false,brF,lU lf hlf br' bm z,bdS,zQ lf hb k2 k1 k3,lU lf hlf k3 bm z,qY p,sb]
end
end Go.N
namespace Go.N
open Go Go.Q Go.Rx
end Go.N
namespace Go.N
open Go Go.Q Go.Rx
end Go.N
namespace Go.N
open Go Go.Q Go.Rx
abbrev Nb:Type:=Bool×(List Int×Unit)
theorem RN.natAbs{p:Nb}{z:Int}{k:Nat}(h:RN p z k):lv G p.2.1=(z.natAbs:Int):=by
 have:=h.val
 have:=bQ (B:=G) (by decide) h.dg
 split at*<;> omega
theorem RN.nil{p:Nb}{k:Nat}(h:RN p 0 k):p.2.1=[]:=(qL (B:=G) (by decide) h.dg h.tr).1 (by rw[h.natAbs];rfl)
theorem RN.ne{p:Nb}{z:Int}{k:Nat}(h:RN p z k)(h0:z≠0):0 < p.2.1.length:=by
 refine List.length_pos_iff.2 fun e=>h0 ?_
 have:=h.natAbs
 rw[e]at this
 simp only[lv]at this
 omega
section
variable (lf:Nat)(hlf:2000000000≤lf){a b:Int}(hb:b < C)
include hlf hb
end
end Go.N
namespace Go.N
open Go Go.Q Go.Rx
structure Vl where
 a:A
 c:Cg
deriving DecidableEq
abbrev VV:Type:=IV×(IV×Unit)
def vc(v:Vl):VV:=(ac v.a,cc v.c,())
def Ev:Vl:=⟨E0,Ec⟩
def onev(z:Int):Vl:=⟨⟨false,some z,some z⟩,⟨false,0,z⟩⟩
def loC(c:Cg)(a:Int):Int:=a+(c.r-a).fmod c.m
def hiC(c:Cg)(a:Int):Int:=a-(a-c.r).fmod c.m
def fin3(x y:Option Int)(c:Cg):Vl:=match x,y with
 | some x,some y=>if y < x then Ev else if x=y then onev x else⟨⟨false,clip x,clip y⟩,c⟩
 | x,y=>⟨⟨false,x.bind clip,y.bind clip⟩,c⟩
def red(a:A)(c:Cg):Vl:=if a.em=true then Ev else if c.em=true then Ev else if c.m=0 then(if inS (ofA a) c.r=true then onev c.r else Ev)else fin3 (a.lo.map (loC c)) (a.hi.map (hiC c)) c
structure WfV(v:Vl):Prop where
 a:Wf v.a
 c:WfC v.c
 red:red v.a v.c=v
theorem lo_m{c:Cg}(p:0 < c.m)(a:Int):a≤loC c a∧loC c a < a+c.m:=by
 have:=Int.fmod_nonneg_of_pos (c.r-a) p
 have:=Int.fmod_lt_of_pos (c.r-a) p
 unfold loC;omega
theorem hi_m{c:Cg}(p:0 < c.m)(a:Int):hiC c a≤a∧a-c.m < hiC c a:=by
 have:=Int.fmod_nonneg_of_pos (a-c.r) p
 have:=Int.fmod_lt_of_pos (a-c.r) p
 unfold hiC;omega
theorem aaG{m a:Int}(p:0 < m):a.fmod m=0↔m∣a:=by
 rw[Int.fmod_eq_emod_of_nonneg _ (Int.le_of_lt p)]
 exact⟨Int.dvd_of_emod_eq_zero,Int.emod_eq_zero_of_dvd⟩
theorem uP{m:Int}(p:0 < m)(a:Int):m∣a-a.fmod m:=by
 rw[Int.fmod_eq_emod_of_nonneg _ (Int.le_of_lt p)]
 exact Int.dvd_self_sub_emod
theorem nK{c:Cg}(he:c.em=false)(hp:0≤c.m){z:Int}:inC c z=true↔c.m∣z-c.r:=by
 unfold inC dvd'
 rw[he]
 by_cases h:c.m=0
 ·rw[if_pos h,h];simp
 ·rw[if_neg h]
  simp only[Bool.not_false,Bool.true_and,decide_eq_true_eq]
  exact aaG (by omega)
theorem aaM{c:Cg}(p:0 < c.m)(a:Int):c.m∣loC c a-c.r:=by
 obtain⟨k,hk⟩:=uP p (c.r-a)
 exact⟨-k,by unfold loC;rw[Int.mul_neg,←hk];omega⟩
theorem aaI{c:Cg}(p:0 < c.m)(a:Int):c.m∣hiC c a-c.r:=by
 obtain⟨k,hk⟩:=uP p (a-c.r)
 exact⟨k,by unfold hiC;rw[←hk];omega⟩
theorem aac{c:Cg}(p:0 < c.m){a:Int}(h:c.m∣a-c.r):loC c a=a:=by
 have:(c.r-a).fmod c.m=0:=(aaG p).2 (by have:=Int.dvd_neg.2 h;rwa [Int.neg_sub]at this)
 unfold loC;omega
theorem zY{c:Cg}(p:0 < c.m){a:Int}(h:c.m∣a-c.r):hiC c a=a:=by
 have:(a-c.r).fmod c.m=0:=(aaG p).2 h
 unfold hiC;omega
theorem acA{c:Cg}(p:0 < c.m){a z:Int}(h:c.m∣z-c.r)(hz:a≤z):loC c a≤z:=by
 have l:=aaM p a
 have b:=lo_m p a
 obtain⟨k,hk⟩:=Int.dvd_sub h l
 have: -1 < k:=by
  by_cases q: -1 < k
  ·exact q
  ·have:=Int.mul_le_mul_of_nonneg_left (show k≤-1 by omega) (Int.le_of_lt p)
   omega
 have:=Int.mul_nonneg (Int.le_of_lt p) (show 0≤k by omega)
 omega
theorem adO{c:Cg}(p:0 < c.m){a z:Int}(h:c.m∣z-c.r)(hz:z≤a):z≤hiC c a:=by
 have l:=aaI p a
 have b:=hi_m p a
 obtain⟨k,hk⟩:=Int.dvd_sub h l
 have:k < 1:=by
  by_cases q:k < 1
  ·exact q
  ·have:=Int.mul_le_mul_of_nonneg_left (show 1≤k by omega) (Int.le_of_lt p)
   omega
 have:=Int.mul_nonneg (Int.le_of_lt p) (show 0≤-k by omega)
 rw[Int.mul_neg]at this
 omega
theorem oK{z:Int}(h: -C < z∧z < C):clip z=some z:=if_pos h
theorem abq{z:Int}(h:¬(-C < z∧z < C)):clip z=none:=if_neg h
theorem Wf.inS{a:A}(h:Wf a)(he:a.em=false){z:Int}(hz: -K < z∧z < K):inS (ofA a) z=true↔(∀ l,a.lo=some l→l≤z)∧∀ u,a.hi=some u→z≤u:=by
 unfold Go.N.inS ofA
 rw[he,if_neg (by simp)]
 simp only[Bool.and_eq_true,decide_eq_true_eq]
 cases a.lo with
 | none=>cases a.hi with
  | none=>simp[lox,hix,key];omega
  | some u=>simp[lox,hix,key];omega
 | some l=>cases a.hi with
  | none=>simp[lox,hix,key];omega
  | some u=>simp[lox,hix,key]
theorem aaP{z:Int}(hz: -C < z∧z < C):Wf (onev z).a∧WfC (onev z).c:=by
 have hC:=C_gt
 exact⟨⟨fun h=>by simp[onev]at h,hz,hz,Int.le_refl _⟩,⟨by simp only[onev];omega,hz,by simp[onev],fun h=>absurd rfl h⟩⟩
theorem aes:Wf Ev.a∧WfC Ev.c:=⟨afJ,aer⟩
theorem acL{z:Int}(hz: -C < z∧z < C):red (onev z).a (onev z).c=onev z:=by
 have h:inS (ofA (onev z).a) z=true:=by
  unfold inS ofA onev
  simp[lox,hix,key]
 unfold red
 rw[if_neg (by simp[onev]),if_neg (by simp[onev]),if_pos (by rfl)]
 exact if_pos h
theorem aeM:red Ev.a Ev.c=Ev:=if_pos rfl
theorem acK{z:Int}(hz: -C < z∧z < C):WfV (onev z):=⟨(aaP hz).1,(aaP hz).2,acL hz⟩
theorem Ev_V:WfV Ev:=⟨aes.1,aes.2,aeM⟩
theorem ae3{c:Cg}(hc:WfC c)(he:c.em=false)(hm:c.m≠0){x y:Option Int}(hx:∀ v,x=some v→c.m∣v-c.r)(hy:∀ v,y=some v→c.m∣v-c.r)(bd:∀ v u,x=some v→y=some u→v=u→-C < v∧v < C):WfV (fin3 x y c):=by
 have p:0 < c.m:=by have:=hc.pos;omega
 have key3:∀ u v:Option Int,(∀ z,u=some z→(-C < z∧z < C)∧c.m∣z-c.r)→(∀ z,v=some z→(-C < z∧z < C)∧c.m∣z-c.r)→(∀ z w,u=some z→v=some w→z < w)→WfV ⟨⟨false,u,v⟩,c⟩:=by
  intro u v hu hv huv
  refine⟨⟨fun h=>by simp at h,?_,?_,?_⟩,hc,?_⟩
  ·cases u with
   | none=>trivial
   | some z=>exact(hu z rfl).1
  ·cases v with
   | none=>trivial
   | some z=>exact(hv z rfl).1
  ·cases u with
   | none=>trivial
   | some z=>cases v with
    | none=>trivial
    | some w=>exact Int.le_of_lt (huv z w rfl rfl)
  ·unfold red
   rw[if_neg (by simp),if_neg (by simp[he]),if_neg hm]
   cases u with
   | none=>cases v with
    | none=>rfl
    | some w =>
     simp only[Option.map,zY p (hv w rfl).2,fin3,Option.bind,oK (hv w rfl).1]
   | some z=>cases v with
    | none=>simp only[Option.map,aac p (hu z rfl).2,fin3,Option.bind,oK (hu z rfl).1]
    | some w =>
     have:=huv z w rfl rfl
     simp only[Option.map,aac p (hu z rfl).2,zY p (hv w rfl).2,fin3,oK (hu z rfl).1,oK (hv w rfl).1]
     rw[if_neg (by omega),if_neg (by omega)]
 have cl:∀ z w,clip z=some w→w=z∧-C < z∧z < C:=by
  intro z w h
  unfold clip at h;split at h
  ·cases h;exact⟨rfl,by assumption⟩
  ·cases h
 cases x with
 | none=>cases y with
  | none=>exact key3 none none (fun z h=>by cases h) (fun z h=>by cases h) (fun z w h=>by cases h)
  | some w=>exact key3 none (clip w) (fun z h=>by cases h) (fun z h=>by obtain⟨rfl,h⟩:=cl _ _ h;exact⟨h,hy _ rfl⟩) (fun z w h=>by cases h)
 | some z=>cases y with
  | none=>exact key3 (clip z) none (fun z h=>by obtain⟨rfl,h⟩:=cl _ _ h;exact⟨h,hx _ rfl⟩) (fun z h=>by cases h) (fun z w _ h=>by cases h)
  | some w =>
   unfold fin3
   simp only
   by_cases h1:w < z
   ·rw[if_pos h1];exact Ev_V
   ·rw[if_neg h1]
    by_cases h2:z=w
    ·rw[if_pos h2];exact acK (bd z w rfl rfl h2)
    ·rw[if_neg h2]
     exact key3 (clip z) (clip w) (fun z h=>by obtain⟨rfl,h⟩:=cl _ _ h;exact⟨h,hx _ rfl⟩) (fun z h=>by obtain⟨rfl,h⟩:=cl _ _ h;exact⟨h,hy _ rfl⟩) (fun u v hu hv=>by obtain⟨rfl,_⟩:=cl _ _ hu;obtain⟨rfl,_⟩:=cl _ _ hv;omega)
theorem aeF{a:A}{c:Cg}(ha:Wf a)(hc:WfC c):WfV (red a c):=by
 unfold red
 by_cases e1:a.em=true
 ·rw[if_pos e1];exact Ev_V
 ·by_cases e2:c.em=true
  ·rw[if_neg e1,if_pos e2];exact Ev_V
  ·rw[if_neg e1,if_neg e2]
   by_cases z:c.m=0
   ·rw[if_pos z]
    split
    ·exact acK hc.r
    ·exact Ev_V
   ·rw[if_neg z]
    have p:0 < c.m:=by have:=hc.pos;omega
    have e2:c.em=false:=by simpa using e2
    refine ae3 hc e2 z ?_ ?_ ?_
    ·intro v h
     cases hl:a.lo with
     | none=>rw[hl]at h;cases h
     | some l=>rw[hl]at h;cases h;exact aaM p l
    ·intro v h
     cases hl:a.hi with
     | none=>rw[hl]at h;cases h
     | some l=>rw[hl]at h;cases h;exact aaI p l
    ·intro v u h1 h2 h3
     have lk:=ha.lo
     have hk:=ha.hi
     cases hl:a.lo with
     | none=>rw[hl]at h1;cases h1
     | some l =>
      cases hh:a.hi with
      | none=>rw[hh]at h2;cases h2
      | some k =>
       rw[hl]at h1 lk;rw[hh]at h2 hk
       cases h1;cases h2
       have:=lo_m p l
       have:=hi_m p k
       simp only[okb]at lk hk
       omega
end Go.N
namespace Go.N
open Go Go.Q Go.Rx
theorem aco{c:Cg}{z:Int}(h:inC c z=true):c.em=false:=by unfold inC at h;revert h;cases c.em<;>simp
theorem adR{c:Cg}(hc:WfC c){z:Int}(h:inC c z=true):c.m∣z-c.r:=(nK (aco h) hc.pos).1 h
theorem adJ(m r:Int):clsF m r=topC∨clsF m r=⟨false,(m.natAbs:Int),if m=0 then r else r.fmod (m.natAbs:Int)⟩:=by
 unfold clsF
 by_cases h:sz (m.natAbs:Int) > 100∨sz (if m=0 then r else r.fmod (m.natAbs:Int)) > 100
 ·exact .inl (if_pos h)
 ·exact .inr (if_neg h)
section
variable {c d:Cg}(hc:WfC c)(hd:WfC d){z w:Int}(hz:inC c z=true)(hw:inC d w=true)
include hc hd hz hw
end
theorem aaC(m a:Int)(h:0≤m):dvd' m a=true↔m∣a:=by
 unfold dvd'
 by_cases h0:m=0
 ·rw[if_pos h0,h0];simp
 ·rw[if_neg h0,decide_eq_true_eq];exact aaG (by omega)
theorem nM{c d:Cg}(hd:WfC d)(h1:c.em=false)(h2:d.em=false):kT c d=true↔d.m∣c.m∧d.m∣c.r-d.r:=by
 unfold kT
 rw[if_neg (by simp[h1]),if_neg (by simp[h2]),Bool.and_eq_true,aaC _ _ hd.pos,aaC _ _ hd.pos]
theorem wu{c d:Cg}(hc:WfC c)(hd:WfC d)(h:kT c d=true){z:Int}(hz:inC c z=true):inC d z=true:=by
 have e:=aco hz
 have e2:d.em=false:=by
  unfold kT at h
  rw[if_neg (by simp[e])]at h
  revert h;cases d.em<;>simp
 obtain⟨a,b⟩:=(nM hd e e2).1 h
 refine(nK e2 hd.pos).2 ?_
 have:=Int.dvd_add (Int.dvd_trans a (adR hc hz)) b
 rwa [show z-c.r+(c.r-d.r)=z-d.r by omega]at this
theorem sW{c:Cg}(hc:WfC c):kT c c=true:=by
 cases e:c.em with
 | true=>unfold kT;rw[if_pos e]
 | false=>exact(nM hc e e).2 ⟨Int.dvd_refl _,by simp⟩
theorem wo{c d:Cg}(h:c.em=true):kT c d=true:=if_pos h
theorem zl{c:Cg}(he:c.em=false){m r:Int}(h1:m∣c.m)(h2:m∣c.r-r):kT c (clsF m r)=true:=by
 have w:=wU (m:=m) (r:=r)
 rcases adJ m r with e | e
 ·rw[e];exact(nM aeg he rfl).2 ⟨Int.one_dvd _,Int.one_dvd _⟩
 ·rw[e]at w⊢
  refine(nM w he rfl).2 ⟨Int.natAbs_dvd.2 h1,?_⟩
  simp only
  by_cases h0:m=0
  ·rw[if_pos h0];exact Int.natAbs_dvd.2 h2
  ·rw[if_neg h0]
   have d:=uP (show 0 < (m.natAbs:Int) by omega) r
   have:=Int.dvd_add (Int.natAbs_dvd.2 h2) d
   rwa [show c.r-r+(r-r.fmod (m.natAbs:Int))=c.r-r.fmod (m.natAbs:Int) by omega]at this
theorem xA{c d:Cg}(hc:WfC c):kT c (joinC c d)=true:=by
 cases e:c.em with
 | true=>exact wo e
 | false =>
  unfold joinC
  rw[if_neg (by simp[e])]
  split
  ·exact sW hc
  ·exact zl e (Int.dvd_trans (Int.gcd_dvd_left _ _) (Int.gcd_dvd_left _ _)) (by simp)
theorem aeT{c d:Cg}(h:cc c=cc d):c.em=d.em∧(c.em=false→c=d):=by
 unfold cc at h
 cases e1:c.em with
 | true=>cases e2:d.em with
  | true=>exact⟨rfl,nofun⟩
  | false=>rw[if_pos e1,if_neg (by simp[e2])]at h;have:=congrArg Prod.fst h;simp at this
 | false=>cases e2:d.em with
  | true=>rw[if_neg (by simp[e1]),if_pos e2]at h;have:=congrArg Prod.fst h;simp at this
  | false =>
   rw[if_neg (by simp[e1]),if_neg (by simp[e2])]at h
   simp only[Prod.mk.injEq]at h
   refine⟨rfl,fun _=>?_⟩
   have h1:=kY (pK h.2.1)
   have h2:=kY (pK h.2.2.1)
   cases c;cases d;simp_all
end Go.N
namespace Go.N
open Go Go.Q Go.Rx
theorem Cg.eta{c:Cg}(h:c.em=false):c=⟨false,c.m,c.r⟩:=by cases c;simp_all
section
variable {c d:Cg}(hc:WfC c)(hd:WfC d)(ec:c.em=false)(ed:d.em=false)
include hc hd ec ed
end
end Go.N
namespace Go.N
open Go Go.Q Go.Rx
section
variable (lf:Nat)(hb:Big lf){a b:Int}(ha:0 < a∧a < C)(hbb:0 < b∧b < C)
include hb ha hbb
end
section
variable (lf:Nat)(hb:Big lf){c d:Cg}(hc:WfC c)(hd:WfC d)
include hb hc hd
end
end Go.N
namespace Go.N
open Go Go.Q Go.Rx
theorem clipV(lf:Nat){o:Option Int}(h:okb K o):bF.f lf (ob o)=some (ob (o.bind clip),()):=by
 rw[bF.f]
 cases o with
 | none=>rw[show ob none=bs [] from rfl,lK,bdS,gq,show body []=[] from rfl,decide_eq_false (by simp),brF];rfl
 | some z =>
  have hl:=lI h
  rw[show ob (some z)=bs (Lib.itoa z) from rfl,lK,bdS,gq]
  have e:(((body (Lib.itoa z)).length:Nat):Int)=(sz z:Int):=rfl
  simp only[e,Option.bind]
  by_cases c: -C < z∧z < C
  ·have:=(sz_C z).2 c
   rw[decide_eq_false (by omega),brF,oK c];rfl
  ·have:¬sz z≤100:=fun x=>c ((sz_C z).1 x)
   rw[decide_eq_true (by omega),brT,abq c];rfl
set_option exponentiation.threshold 5000 in
theorem aep:C+C < Dd:=by
 have e:(10 ^ 100+10 ^ 100:Nat) < 10 ^ 1000:=by
  have:(10:Nat) ^ 1000=10 ^ 100*10 ^ 900:=by rw[←Nat.pow_add]
  rw[this]
  have:(2:Nat) < 10 ^ 900:=Nat.lt_of_lt_of_le (show(2:Nat) < 10 ^ 1 by decide) (Nat.pow_le_pow_right (by decide) (by decide))
  have h:=Nat.mul_lt_mul_of_pos_left this (show 0 < 10 ^ 100 by exact Nat.pow_pos (by decide))
  omega
 unfold C Dd;exact Int.ofNat_lt.2 e
theorem evV:((((true,(⟨#[]⟩:ByteArray),(⟨#[]⟩:ByteArray),()),(true,(⟨#[]⟩:ByteArray),(⟨#[]⟩:ByteArray),()),()):VV))=vc Ev:=rfl
theorem onV(z:Int):(((false,bs (Lib.itoa z),bs (Lib.itoa z),()),(false,(⟨#[48]⟩:ByteArray),bs (Lib.itoa z),()),()):VV)=vc (onev z):=by
 rw[i0];unfold vc onev;rw[kJ rfl];rfl
theorem wH(x:Int):((bs (Lib.itoa x)).toList==(⟨#[]⟩:ByteArray).toList)=false:=by
 have:=lT (some x)
 rw[show ob (some x)=bs (Lib.itoa x) from rfl]at this
 rw[this];exact decide_eq_false nofun
theorem ob_e:((ob none).toList==(⟨#[]⟩:ByteArray).toList)=true:=by rw[lT];rfl
theorem aea(x y:Int):decide (sgn (x-y) > 0)=decide (y < x):=ada x y
theorem afH(x y:Int):(sgn (x-y)==0)=decide (x=y):=by
 rw[Bool.eq_iff_iff,beq_iff_eq,decide_eq_true_eq]
 unfold sgn;(repeat' split)<;>omega
section
variable (lf:Nat)(hb:Big lf){a:A}{c:Cg}(ha:Wf a)(hc:WfC c)
include hb ha hc
theorem lo_K{l:Int}(h: -C < l∧l < C)(p:0 < c.m): -K < loC c l∧loC c l < K∧-Dd < loC c l∧loC c l < Dd:=by
 have:=lo_m p l
 have:=hc.m
 have:=C_gt
 have:=CC_K
 have hD:=DD_K
 have hCD:=lm
 have h4:C*2≤C*C:=Int.mul_le_mul_of_nonneg_left (by omega) (by omega)
 have h5:=aep
 have h6:=Dd_K
 omega
theorem hi_K{l:Int}(h: -C < l∧l < C)(p:0 < c.m): -K < hiC c l∧hiC c l < K∧-Dd < hiC c l∧hiC c l < Dd:=by
 have:=hi_m p l
 have:=hc.m
 have:=C_gt
 have h5:=aep
 have h6:=Dd_K
 omega
theorem vH:dZ.f lf (ac a) (cc c)=some (vc (red a c),()):=by
 have hlf:=hb.1
 have h3:200000≤lf:=by omega
 have hCD:=lm
 rw[dZ.f]
 simp only[show(ac a).1=a.em from rfl,show(ac a).2.1=ob a.lo from rfl,show(ac a).2.2.1=ob a.hi from rfl,jk.f,bdS,evV,jA.f]
 unfold red
 cases ea:a.em with
 | true=>simp only[brT,if_true]
 | false =>
  cases ec:c.em with
  | true=>rw[pM ec];simp only[brT,brF,if_true,if_false,Bool.false_eq_true]
  | false =>
   have e1:(cc c).1=false:=by rw[kJ ec]
   have e2:(cc c).2.1=bs (Lib.itoa c.m):=by rw[kJ ec]
   have e3:(cc c).2.2.1=bs (Lib.itoa c.r):=by rw[kJ ec]
   simp only[brF,if_false,Bool.false_eq_true,e1,e2,e3,beq0]
   by_cases m:c.m=0
   ·rw[decide_eq_true m,brT,if_pos m,acn lf h3 ha (CK hc.r),bdS]
    simp only
    cases hi:inS (ofA a) c.r with
    | true=>simp only[Bool.not_true,brF,if_true,onV]
    | false=>simp only[Bool.not_false,brT,if_false,Bool.false_eq_true]
   ·have p:0 < c.m:=by have:=hc.pos;omega
    rw[decide_eq_false m,brF,if_neg m]
    have kl:=ha.lo
    have kh:=ha.hi
    have L:=fun {l:Int} (h: -C < l∧l < C)=>adT lf hb hc ec (a:=l) (by omega)
    have G':=fun {l:Int} (h: -C < l∧l < C)=>zX lf hb hc ec (a:=l) (by omega)
    have ab:∀ l,aboveC c l=some (loC c l):=fun l=>if_neg m
    have be:∀ l,belowC c l=some (hiC c l):=fun l=>if_neg m
    have cN:=clipV lf (o:=none) trivial
    cases hl:a.lo with
    | none=>cases hh:a.hi with
     | none=>simp only[ob_e,Bool.not_true,brF,cN,bdS,Option.map,fin3];rfl
     | some u =>
      rw[hh]at kh
      have g:=G' kh
      rw[be]at g
      have kk:=hi_K lf hb ha hc kh p
      have cU:=clipV lf (o:=some (hiC c u)) ⟨kk.1,kk.2.1⟩
      simp only[show ob (some u)=bs (Lib.itoa u) from rfl,show ob (some (hiC c u))=bs (Lib.itoa (hiC c u)) from rfl]at *
      simp only[ob_e,wH,Bool.not_true,Bool.not_false,brF,brT,g,cN,cU,bdS,Option.map,fin3];rfl
    | some l =>
     rw[hl]at kl
     have g:=L kl
     rw[ab]at g
     have kk:=lo_K lf hb ha hc kl p
     have cL:=clipV lf (o:=some (loC c l)) ⟨kk.1,kk.2.1⟩
     cases hh:a.hi with
     | none =>
      simp only[show ob (some l)=bs (Lib.itoa l) from rfl,show ob (some (loC c l))=bs (Lib.itoa (loC c l)) from rfl]at *
      simp only[ob_e,wH,Bool.not_true,Bool.not_false,brF,brT,g,cN,cL,bdS,Option.map,fin3];rfl
     | some u =>
      rw[hh]at kh
      have g2:=G' kh
      rw[be]at g2
      have kk2:=hi_K lf hb ha hc kh p
      have cU:=clipV lf (o:=some (hiC c u)) ⟨kk2.1,kk2.2.1⟩
      have cm:=rY lf _ _ (chkK ⟨kk.1,kk.2.1⟩) (chkK ⟨kk2.1,kk2.2.1⟩) h3
      rw[fG,fG]at cm
      simp only[show ob (some l)=bs (Lib.itoa l) from rfl,show ob (some (loC c l))=bs (Lib.itoa (loC c l)) from rfl,show ob (some u)=bs (Lib.itoa u) from rfl,show ob (some (hiC c u))=bs (Lib.itoa (hiC c u)) from rfl]at *
      simp only[ob_e,wH,Bool.not_true,Bool.not_false,brF,brT,g,g2,cm,bdS,aea,afH,Option.map,fin3]
      by_cases h1:hiC c u < loC c l
      ·rw[decide_eq_true h1,brT,if_pos h1]
      ·rw[decide_eq_false h1,brF,if_neg h1]
       by_cases h2:loC c l=hiC c u
       ·rw[decide_eq_true h2,brT,if_pos h2,onV]
       ·rw[decide_eq_false h2,brF,if_neg h2,cL,bdS,cU,bdS];rfl
theorem vw:bf.f lf (ac a) (cc c)=some (vc (red a c),()):=by
 have hlf:=hb.1
 have h3:200000≤lf:=by omega
 have hCD:=lm
 rw[bf.f]
 simp only[show(ac a).1=a.em from rfl,show(ac a).2.1=ob a.lo from rfl,show(ac a).2.2.1=ob a.hi from rfl,dJ.f,dh.f,jJ.f,bdS,evV]
 unfold red
 cases ea:a.em with
 | true=>simp only[brT,if_true]
 | false =>
  cases ec:c.em with
  | true=>rw[pM ec];simp only[brT,brF,if_true,if_false,Bool.false_eq_true]
  | false =>
   have e1:(cc c).1=false:=by rw[kJ ec]
   have e2:(cc c).2.1=bs (Lib.itoa c.m):=by rw[kJ ec]
   have e3:(cc c).2.2.1=bs (Lib.itoa c.r):=by rw[kJ ec]
   simp only[brF,if_false,Bool.false_eq_true,e1,e2,e3,beq0]
   by_cases m:c.m=0
   ·rw[decide_eq_true m,brT,if_pos m,ae6 lf h3 ha (CK hc.r),bdS]
    simp only
    cases hi:inS (ofA a) c.r with
    | true =>
     simp only[Bool.not_true,brF,if_true,←onV]
     rw[kJ ec,m,i0]
    | false=>simp only[Bool.not_false,brT,if_false,Bool.false_eq_true]
   ·have p:0 < c.m:=by have:=hc.pos;omega
    rw[decide_eq_false m,brF,if_neg m]
    have kl:=ha.lo
    have kh:=ha.hi
    have L:=fun {l:Int} (h: -C < l∧l < C)=>aav lf hb hc ec (a:=l) (by omega)
    have G':=fun {l:Int} (h: -C < l∧l < C)=>adG lf hb hc ec (a:=l) (by omega)
    have ab:∀ l,aboveC c l=some (loC c l):=fun l=>if_neg m
    have be:∀ l,belowC c l=some (hiC c l):=fun l=>if_neg m
    have toL:∀ x y:Option Int,okb K x→okb K y→gt? x y=false→toA ⟨lox x,hix y⟩=⟨false,x.bind clip,y.bind clip⟩:=by
     intro x y hx hy h
     unfold toA;rw[acd hx hy,h,if_neg (by simp),aas,aar]
    cases hl:a.lo with
    | none=>cases hh:a.hi with
     | none =>
      simp only[ob_e,Bool.not_true,brF,pG lf h3 none none trivial trivial,toL none none trivial trivial rfl,bdS,Option.map,fin3];rfl
     | some u =>
      rw[hh]at kh
      have g:=G' kh
      rw[be]at g
      have kk:=hi_K lf hb ha hc kh p
      have rg:=pG lf h3 none (some (hiC c u)) trivial ⟨kk.1,kk.2.1⟩
      rw[toL none (some (hiC c u)) trivial ⟨kk.1,kk.2.1⟩ rfl]at rg
      simp only[show ob (some u)=bs (Lib.itoa u) from rfl,show ob (some (hiC c u))=bs (Lib.itoa (hiC c u)) from rfl]at *
      simp only[ob_e,wH,Bool.not_true,Bool.not_false,brF,brT,g,rg,bdS,Option.map,fin3];rfl
    | some l =>
     rw[hl]at kl
     have g:=L kl
     rw[ab]at g
     have kk:=lo_K lf hb ha hc kl p
     cases hh:a.hi with
     | none =>
      have rg:=pG lf h3 (some (loC c l)) none ⟨kk.1,kk.2.1⟩ trivial
      rw[toL (some (loC c l)) none ⟨kk.1,kk.2.1⟩ trivial rfl]at rg
      simp only[show ob (some l)=bs (Lib.itoa l) from rfl,show ob (some (loC c l))=bs (Lib.itoa (loC c l)) from rfl]at *
      simp only[ob_e,wH,Bool.not_true,Bool.not_false,brF,brT,g,rg,bdS,Option.map,fin3];rfl
     | some u =>
      rw[hh]at kh
      have g2:=G' kh
      rw[be]at g2
      have kk2:=hi_K lf hb ha hc kh p
      have ls:=lessI lf h3 (x:=hiC c u) (y:=loC c l) ⟨kk2.1,kk2.2.1⟩ ⟨kk.1,kk.2.1⟩
      have rg:=pG lf h3 (some (loC c l)) (some (hiC c u)) ⟨kk.1,kk.2.1⟩ ⟨kk2.1,kk2.2.1⟩
      have T:=toL (some (loC c l)) (some (hiC c u)) ⟨kk.1,kk.2.1⟩ ⟨kk2.1,kk2.2.1⟩
      simp only[show ob (some l)=bs (Lib.itoa l) from rfl,show ob (some (loC c l))=bs (Lib.itoa (loC c l)) from rfl,show ob (some u)=bs (Lib.itoa u) from rfl,show ob (some (hiC c u))=bs (Lib.itoa (hiC c u)) from rfl]at *
      have eqt:((bs (Lib.itoa (loC c l))).toList==(bs (Lib.itoa (hiC c u))).toList)=decide (loC c l=hiC c u):=by
       rw[jK];simp only[decide_eq_decide];exact⟨kY,fun e=>by rw[e]⟩
      simp only[ob_e,wH,Bool.not_true,Bool.not_false,brF,brT,g,g2,ls,bdS,eqt,Option.map,fin3]
      by_cases h1:hiC c u < loC c l
      ·rw[decide_eq_true h1,brT,if_pos h1]
      ·rw[decide_eq_false h1,brF,if_neg h1]
       by_cases h2:loC c l=hiC c u
       ·have kC: -C < loC c l∧loC c l < C:=by
         have:=lo_m p l
         have:=hi_m p u
         simp only[okb]at kl kh
         omega
        have hC:=C_gt
        have hCK:=kG
        rw[decide_eq_true h2,brT,if_pos h2,gV.f,jD.f,i0,rW lf h3 (m:=0) (by omega) (CK kC),bdS,bdS]
        simp only
        rw[wS (Int.le_refl 0) (by omega) kC,if_pos rfl,kJ rfl]
        simp only[←i0,BEq.rfl,Bool.not_true,brF,bdS]
        rw[onV]
       ·rw[decide_eq_false h2,brF,if_neg h2,rg,T (by unfold gt?;simp;omega),bdS];rfl
end
end Go.N
namespace Go.N
open Go Go.Q Go.Rx
section
variable (lf:Nat)(h3:200000≤lf)
include h3
end
theorem ad3{s:Sp}(h:oks C s):oks C (negS s):=rX h ⟨trivial,um (by decide) (by decide)⟩
theorem aeo{s:Sp}(h:oks C s):oks C (zerS s):=rX h ⟨um (by decide) (by decide),um (by decide) (by decide)⟩
section
variable (lf:Nat)(h3:200000≤lf)
include h3
end
end Go.N
namespace Go.N
open Go Go.Q Go.Rx
theorem afg(x:X):sg (xneg x)= -sg x:=by
 cases x with
 | ni=>rfl
 | pi=>rfl
 | fin z=>simp only[xneg,sg,sgn];(repeat' split)<;>omega
theorem kF(x y:X):xmul x y=xmul y x:=by
 unfold xmul
 rw[Int.mul_comm (sg y) (sg x)]
 split
 ·rfl
 ·cases x<;>cases y<;>simp only[Int.mul_comm]
theorem adB(x y:X):xmul (xneg x) y=xneg (xmul x y):=by
 unfold xmul
 rw[afg,Int.neg_mul]
 have a:=sg3 x
 have b:=sg3 y
 by_cases h:sg x*sg y=0
 ·rw[h,if_pos (by decide),if_pos rfl];rfl
 ·rw[if_neg (by omega),if_neg h]
  have one:sg x*sg y=1∨sg x*sg y= -1:=by
   rcases a with a | a | a<;>rcases b with b | b | b<;>rw[a,b]at h⊢<;>simp at h⊢
  cases x<;>cases y<;>simp only[xneg,Int.neg_mul]<;>rcases one with o | o<;>rw[o]<;>rfl
theorem wP(x y:X):xmul x (xneg y)=xneg (xmul x y):=by rw[kF,adB,kF]
theorem qK{x y:X}:(key (xmul x y) < 0↔sg x*sg y < 0)∧(key (xmul x y)=0↔sg x*sg y=0):=by
 have hK:=K_gt
 have a:=sg3 x
 have b:=sg3 y
 unfold xmul
 by_cases h:sg x*sg y=0
 ·rw[if_pos h,h];simp[key]
 ·rw[if_neg h]
  have one:sg x*sg y=1∨sg x*sg y= -1:=by
   rcases a with a | a | a<;>rcases b with b | b | b<;>rw[a,b]at h⊢<;>simp at h⊢
  have inf:(key (if sg x*sg y=1 then X.pi else X.ni) < 0↔sg x*sg y < 0)∧(key (if sg x*sg y=1 then X.pi else X.ni)=0↔sg x*sg y=0):=by
   rcases one with o | o<;>rw[o]
   ·rw[if_pos rfl,show key X.pi=K from rfl];omega
   ·rw[if_neg (by decide),show key X.ni= -K from rfl];omega
  cases x with
  | fin u=>cases y with
   | fin v =>
    simp only[key]
    have ku:=qc (.fin u)
    have kv:=qc (.fin v)
    simp only[key]at ku kv
    rcases a with a | a | a<;>rcases b with b | b | b<;>rw[a,b]at h⊢<;>simp at h⊢
    ·have:=Int.mul_pos_of_neg_of_neg (show u < 0 by omega) (show v < 0 by omega);omega
    ·have:=Int.mul_neg_of_neg_of_pos (show u < 0 by omega) (show 0 < v by omega);omega
    ·have:=Int.mul_neg_of_pos_of_neg (show 0 < u by omega) (show v < 0 by omega);omega
    ·have:=Int.mul_pos (show 0 < u by omega) (show 0 < v by omega);omega
   | ni=>exact inf
   | pi=>exact inf
  | ni=>exact inf
  | pi=>exact inf
theorem abh{a b:Int}:xmul (.fin a) (.fin b)=.fin (a*b):=by
 unfold xmul
 split
 ·rename_i h
  have:=(qK (x:=.fin a) (y:=.fin b)).2
  have ka:=qc (.fin a)
  have kb:=qc (.fin b)
  simp only[key]at ka kb
  rcases Int.mul_eq_zero.1 h with z | z
  ·rw[ka.2.1.1 z,Int.zero_mul]
  ·rw[kb.2.1.1 z,Int.mul_zero]
 ·rfl
theorem lF{x x' y:X}(hx:okx Dd x)(hx':okx Dd x')(hy:okx Dd y)(h:key x≤key x')(h0:0≤key y):key (xmul x y)≤key (xmul x' y):=by
 have hK:=K_gt
 have hC:=Dd_K
 have k1:=sD (zJ hx hy)
 have k2:=sD (zJ hx' hy)
 have s1:=qK (x:=x) (y:=y)
 have s2:=qK (x:=x') (y:=y)
 have gx:=qc x
 have gx':=qc x'
 have gy:=qc y
 have a:=sg3 x
 have a':=sg3 x'
 have b:=sg3 y
 have inf:∀ {u v:X},(u=.ni∨u=.pi∨v=.ni∨v=.pi)→key (xmul u v)=sg u*sg v*K:=by
  intro u v hu
  have c:=sg3 u
  have d:=sg3 v
  unfold xmul
  by_cases hz:sg u*sg v=0
  ·rw[if_pos hz,hz];simp[key]
  ·rw[if_neg hz]
   have one:sg u*sg v=1∨sg u*sg v= -1:=by
    rcases c with c | c | c<;>rcases d with d | d | d<;>rw[c,d]at hz⊢<;>simp at hz⊢
   have f:key (if sg u*sg v=1 then X.pi else X.ni)=sg u*sg v*K:=by
    rcases one with o | o<;>rw[o]
    ·rw[if_pos rfl,show key X.pi=K from rfl];omega
    ·rw[if_neg (by decide),show key X.ni= -K from rfl];omega
   rcases hu with rfl | rfl | rfl | rfl
   ·exact f
   ·exact f
   ·cases u<;>exact f
   ·cases u<;>exact f
 by_cases y0:key y=0
 ·have:sg y=0:=by omega
  have e1:key (xmul x y)=0:=s1.2.2 (by rw[this,Int.mul_zero])
  have e2:key (xmul x' y)=0:=s2.2.2 (by rw[this,Int.mul_zero])
  omega
 have y1:sg y=1:=by omega
 rw[y1,Int.mul_one]at s1 s2
 cases y with
 | ni=>simp only[key]at h0;omega
 | pi =>
  rw[inf (.inr (.inr (.inr rfl))),inf (.inr (.inr (.inr rfl))),y1,Int.mul_one,Int.mul_one]
  exact Int.mul_le_mul_of_nonneg_right (by omega) (by omega)
 | fin v =>
  cases x with
  | ni =>
   rw[inf (.inl rfl),y1,Int.mul_one,show sg X.ni= -1 from rfl];omega
  | pi =>
   cases x' with
   | pi=>exact Int.le_refl _
   | ni=>simp only[key]at h;omega
   | fin w=>simp only[key,okx]at h hx';omega
  | fin u=>cases x' with
   | pi =>
    rw[inf (u:=X.pi) (.inr (.inl rfl)),y1,Int.mul_one,show sg X.pi=1 from rfl];omega
   | ni=>simp only[key,okx]at h hx;omega
   | fin w =>
    rw[abh,abh]
    simp only[key]at h h0⊢
    exact Int.mul_le_mul_of_nonneg_right h h0
theorem lV{x x' y:X}(hx:okx Dd x)(hx':okx Dd x')(hy:okx Dd y)(h:key x≤key x')(h0:key y≤0):key (xmul x' y)≤key (xmul x y):=by
 have:=lF hx hx' (aen hy) h (by rw[uT];omega)
 rw[wP,wP,uT,uT]at this
 omega
def El(s:Sp)(x:X):Prop:=okx Dd x∧key s.lo≤key x∧key x≤key s.hi
theorem vM{s:Sp}(hs:oks C s)(he:emp s=false):El s s.lo:=⟨hs.1.D,Int.le_refl _,by have:=of_decide_eq_false he;omega⟩
theorem vK{s:Sp}(hs:oks C s)(he:emp s=false):El s s.hi:=⟨hs.2.D,by have:=of_decide_eq_false he;omega,Int.le_refl _⟩
theorem corner{s t:Sp}(hs:oks C s)(ht:oks C t){x y:X}(hx:El s x)(hy:El t y):
  (∃ cx cy,(cx=s.lo∨cx=s.hi)∧(cy=t.lo∨cy=t.hi)∧key (xmul cx cy)≤key (xmul x y))∧(∃ cx cy,(cx=s.lo∨cx=s.hi)∧(cy=t.lo∨cy=t.hi)∧key (xmul x y)≤key (xmul cx cy)):=by
 have one:∀ {s:Sp} {x y:X},oks C s→El s x→okx Dd y→(∃ cx,(cx=s.lo∨cx=s.hi)∧key (xmul cx y)≤key (xmul x y))∧(∃ cx,(cx=s.lo∨cx=s.hi)∧key (xmul x y)≤key (xmul cx y)):=by
  intro s x y hs hx hy
  by_cases h:0≤key y
  ·exact⟨⟨_,.inl rfl,lF hs.1.D hx.1 hy hx.2.1 h⟩,⟨_,.inr rfl,lF hx.1 hs.2.D hy hx.2.2 h⟩⟩
  ·exact⟨⟨_,.inr rfl,lV hx.1 hs.2.D hy hx.2.2 (by omega)⟩,⟨_,.inl rfl,lV hs.1.D hx.1 hy hx.2.1 (by omega)⟩⟩
 obtain⟨⟨cx,c1,c2⟩,⟨dx,d1,d2⟩⟩:=one hs hx hy.1
 have okc:∀ {c:X},(c=s.lo∨c=s.hi)→okx Dd c:=fun h=>by rcases h with rfl | rfl;exact hs.1.D;exact hs.2.D
 obtain⟨⟨cy,e1,e2⟩,_⟩:=one ht hy (okc c1)
 obtain⟨_,⟨dy,f1,f2⟩⟩:=one ht hy (okc d1)
 rw[kF cy,kF y]at e2
 rw[kF dy,kF y]at f2
 exact⟨⟨cx,cy,c1,e1,by omega⟩,⟨dx,dy,d1,f1,by omega⟩⟩
theorem yE(x y:X):xmin x y=x∨xmin x y=y:=by unfold xmin;split;exact .inr rfl;exact .inl rfl
theorem yD(x y:X):xmax x y=x∨xmax x y=y:=by unfold xmax;split;exact .inr rfl;exact .inl rfl
theorem yH{o:X→X→X}{s t:Sp}(hs:emp s=false)(ht:emp t=false):
  ((∃ x y,(x=s.lo∨x=s.hi)∧(y=t.lo∨y=t.hi)∧(apS o s t).lo=o x y)∧(∀ x y,(x=s.lo∨x=s.hi)→(y=t.lo∨y=t.hi)→key (apS o s t).lo≤key (o x y)))∧
  ((∃ x y,(x=s.lo∨x=s.hi)∧(y=t.lo∨y=t.hi)∧(apS o s t).hi=o x y)∧(∀ x y,(x=s.lo∨x=s.hi)→(y=t.lo∨y=t.hi)→key (o x y)≤key (apS o s t).hi)):=by
 have e:apS o s t=⟨xmin (xmin (xmin (o s.lo t.lo) (o s.lo t.hi)) (o s.hi t.lo)) (o s.hi t.hi),xmax (xmax (xmax (o s.lo t.lo) (o s.lo t.hi)) (o s.hi t.lo)) (o s.hi t.hi)⟩:=by
  unfold apS
  rw[if_neg (by simp[hs]),if_neg (by simp[ht]),acG,hullNE (qo _) (qo _)]
  have e1:=qo (o s.lo t.lo)
  have e2:=qo (o s.lo t.hi)
  have e3:=qo (o s.hi t.lo)
  have e4:=qo (o s.hi t.hi)
  have n1:=zk e1 e2
  rw[hullNE e1 e2]at n1
  rw[hullNE n1 e3]
  have n2:=zk n1 e3
  rw[hullNE n1 e3]at n2
  rw[hullNE n2 e4]
  rfl
 rw[e]
 refine⟨⟨?_,?_⟩,⟨?_,?_⟩⟩
 ·simp only
  rcases yE (xmin (xmin (o s.lo t.lo) (o s.lo t.hi)) (o s.hi t.lo)) (o s.hi t.hi)with h | h<;>rw[h]
  ·rcases yE (xmin (o s.lo t.lo) (o s.lo t.hi)) (o s.hi t.lo)with h | h<;>rw[h]
   ·rcases yE (o s.lo t.lo) (o s.lo t.hi)with h | h<;>rw[h]
    ·exact⟨_,_,.inl rfl,.inl rfl,rfl⟩
    ·exact⟨_,_,.inl rfl,.inr rfl,rfl⟩
   ·exact⟨_,_,.inr rfl,.inl rfl,rfl⟩
  ·exact⟨_,_,.inr rfl,.inr rfl,rfl⟩
 ·intro x y hx hy
  simp only[pz]
  rcases hx with rfl | rfl<;>rcases hy with rfl | rfl<;>omega
 ·simp only
  rcases yD (xmax (xmax (o s.lo t.lo) (o s.lo t.hi)) (o s.hi t.lo)) (o s.hi t.hi)with h | h<;>rw[h]
  ·rcases yD (xmax (o s.lo t.lo) (o s.lo t.hi)) (o s.hi t.lo)with h | h<;>rw[h]
   ·rcases yD (o s.lo t.lo) (o s.lo t.hi)with h | h<;>rw[h]
    ·exact⟨_,_,.inl rfl,.inl rfl,rfl⟩
    ·exact⟨_,_,.inl rfl,.inr rfl,rfl⟩
   ·exact⟨_,_,.inr rfl,.inl rfl,rfl⟩
  ·exact⟨_,_,.inr rfl,.inr rfl,rfl⟩
 ·intro x y hx hy
  simp only[pq]
  rcases hx with rfl | rfl<;>rcases hy with rfl | rfl<;>omega
end Go.N
namespace Go.N
open Go Go.Q Go.Rx
def pt(i:Nat)(s:Sp):Sp:=if i=0 then negS s else if i=1 then zerS s else posS s
def Qp(i k:Nat)(p q:Sp):Sp:=if i=1∨k=1 then⟨.fin 0,.fin 0⟩else if i=0 then(if k=0 then⟨xmul p.hi q.hi,xmul p.lo q.lo⟩else⟨xmul p.lo q.hi,xmul p.hi q.lo⟩)else(if k=0 then⟨xmul p.hi q.lo,xmul p.lo q.hi⟩else⟨xmul p.lo q.lo,xmul p.hi q.hi⟩)
theorem tH{s:Sp}(h:oks C s)(i:Nat):oks C (pt i s):=by
 unfold pt;split
 ·exact ad3 h
 ·split
  ·exact aeo h
  ·exact ad7 h
theorem i3{i:Nat}(h:i < 3):i=0∨i=1∨i=2:=by omega
theorem xX{s:Sp}(h:oks C s):(key (negS s).lo=key s.lo∧key (negS s).hi=min (key s.hi) (-1))∧(key (zerS s).lo=max (key s.lo) 0∧key (zerS s).hi=min (key s.hi) 0)∧(key (posS s).lo=max (key s.lo) 1∧key (posS s).hi=key s.hi):=by
 have a:=sD h.K.1
 have b:=sD h.K.2
 have h1:key (negS s).lo=max (key s.lo) (-K):=pq s.lo .ni
 have h2:key (negS s).hi=min (key s.hi) (-1):=pz s.hi (.fin (-1))
 have h3:key (zerS s).lo=max (key s.lo) 0:=pq s.lo (.fin 0)
 have h4:key (zerS s).hi=min (key s.hi) 0:=pz s.hi (.fin 0)
 have h5:key (posS s).lo=max (key s.lo) 1:=pq s.lo (.fin 1)
 have h6:key (posS s).hi=min (key s.hi) K:=pz s.hi .pi
 omega
theorem wQ{s:Sp}(hs:oks C s){i:Nat}{x:X}(h:El (pt i s) x):El s x:=by
 have k:=xX hs
 obtain⟨h1,h2,h3⟩:=h
 refine⟨h1,?_,?_⟩<;>unfold pt at h2 h3<;>split at h2<;>(try split at h2)<;>simp_all<;>omega
theorem vN{s:Sp}{x:X}(h:El s x):emp s=false:=decide_eq_false (by have:=h.2;omega)
theorem tX{s:Sp}(hs:oks C s){x:X}:(El (pt 0 s) x→key x≤-1)∧(El (pt 1 s) x→key x=0)∧(El (pt 2 s) x→1≤key x):=by
 have k:=xX hs
 refine⟨fun h=>?_,fun h=>?_,fun h=>?_⟩
 ·have:=h.2.2;simp only[pt,if_true]at this;omega
 ·have a:=h.2.1
  have b:=h.2.2
  simp only[pt,Nat.one_ne_zero,if_true,if_false]at a b;omega
 ·have:=h.2.1
  simp only[pt,show ¬(2=0) by omega,show ¬(2=1) by omega,if_false]at this;omega
theorem cls{s:Sp}(hs:oks C s){x:X}(h:El s x):∃ i,i < 3∧El (pt i s) x:=by
 have k:=xX hs
 obtain⟨h1,h2,h3⟩:=h
 rcases Int.lt_trichotomy (key x) 0 with z | z | z
 ·exact⟨0,by omega,h1,by simp only[pt,if_true];omega,by simp only[pt,if_true];omega⟩
 ·exact⟨1,by omega,h1,by simp only[pt,Nat.one_ne_zero,if_true,if_false];omega,by simp only[pt,Nat.one_ne_zero,if_true,if_false];omega⟩
 ·exact⟨2,by omega,h1,by simp only[pt,show ¬(2=0) by omega,show ¬(2=1) by omega,if_false];omega,by simp only[pt,show ¬(2=0) by omega,show ¬(2=1) by omega,if_false];omega⟩
theorem sg0{x:X}(h:key x=0):sg x=0:=(qc x).2.1.2 h
theorem rf{x y:X}(h:key x=0∨key y=0):xmul x y=.fin 0:=by
 unfold xmul
 rw[if_pos]
 rcases h with h | h
 ·rw[sg0 h,Int.zero_mul]
 ·rw[sg0 h,Int.mul_zero]
theorem upr{x y y':X}(hx:okx Dd x)(hy:okx Dd y)(hy':okx Dd y')(h:key y≤key y')(h0:0≤key x):key (xmul x y)≤key (xmul x y'):=by rw[kF x y,kF x y'];exact lF hy hy' hx h h0
theorem dnr{x y y':X}(hx:okx Dd x)(hy:okx Dd y)(hy':okx Dd y')(h:key y≤key y')(h0:key x≤0):key (xmul x y')≤key (xmul x y):=by rw[kF x y,kF x y'];exact lV hy hy' hx h h0
theorem aeu{s t:Sp}(hs:oks C s)(ht:oks C t){i k:Nat}(hi:i < 3)(hk:k < 3){x y:X}(hx:El (pt i s) x)(hy:El (pt k t) y):
  key (Qp i k (pt i s) (pt k t)).lo≤key (xmul x y)∧key (xmul x y)≤key (Qp i k (pt i s) (pt k t)).hi:=by
 have ps:=tH hs i
 have qs:=tH ht k
 have pe:=vN hx
 have qe:=vN hy
 have a:=vM ps pe
 have b:=vK ps pe
 have c:=vM qs qe
 have d:=vK qs qe
 have S:=@tX s hs
 have T:=@tX t ht
 rcases i3 hi with rfl | rfl | rfl
 ·have sx:=S.1 hx
  have sa:=S.1 a
  have sb:=S.1 b
  rcases i3 hk with rfl | rfl | rfl
  ·have sy:=T.1 hy
   have sc:=T.1 c
   have sd:=T.1 d
   simp only[Qp,Nat.zero_ne_one,or_self,if_false,if_true]
   exact⟨Int.le_trans (lV hx.1 b.1 d.1 hx.2.2 (by omega)) (dnr hx.1 hy.1 d.1 hy.2.2 (by omega)),Int.le_trans (lV a.1 hx.1 hy.1 hx.2.1 (by omega)) (dnr a.1 c.1 hy.1 hy.2.1 (by omega))⟩
  ·have sy:=T.2.1 hy
   simp only[Qp,or_true,if_true]
   rw[rf (.inr sy)];exact⟨Int.le_refl _,Int.le_refl _⟩
  ·have sy:=T.2.2 hy
   have sc:=T.2.2 c
   have sd:=T.2.2 d
   simp only[Qp,Nat.zero_ne_one,show ¬(2=1) by omega,show ¬(2=0) by omega,or_self,if_false,if_true]
   exact⟨Int.le_trans (dnr a.1 hy.1 d.1 hy.2.2 (by omega)) (lF a.1 hx.1 hy.1 hx.2.1 (by omega)),Int.le_trans (lF hx.1 b.1 hy.1 hx.2.2 (by omega)) (dnr b.1 c.1 hy.1 hy.2.1 (by omega))⟩
 ·have sx:=S.2.1 hx
  simp only[Qp,true_or,if_true]
  rw[rf (.inl sx)];exact⟨Int.le_refl _,Int.le_refl _⟩
 ·have sx:=S.2.2 hx
  have sa:=S.2.2 a
  have sb:=S.2.2 b
  rcases i3 hk with rfl | rfl | rfl
  ·have sy:=T.1 hy
   have sc:=T.1 c
   have sd:=T.1 d
   simp only[Qp,Nat.zero_ne_one,show ¬(2=1) by omega,show ¬(2=0) by omega,or_self,if_false,if_true]
   exact⟨Int.le_trans (lV hx.1 b.1 c.1 hx.2.2 (by omega)) (upr hx.1 c.1 hy.1 hy.2.1 (by omega)),Int.le_trans (lV a.1 hx.1 hy.1 hx.2.1 (by omega)) (upr a.1 hy.1 d.1 hy.2.2 (by omega))⟩
  ·have sy:=T.2.1 hy
   simp only[Qp,or_true,if_true]
   rw[rf (.inr sy)];exact⟨Int.le_refl _,Int.le_refl _⟩
  ·have sy:=T.2.2 hy
   have sc:=T.2.2 c
   have sd:=T.2.2 d
   simp only[Qp,show ¬(2=1) by omega,show ¬(2=0) by omega,or_self,if_false]
   exact⟨Int.le_trans (lF a.1 hx.1 c.1 hx.2.1 (by omega)) (upr hx.1 c.1 hy.1 hy.2.1 (by omega)),Int.le_trans (lF hx.1 b.1 hy.1 hx.2.2 (by omega)) (upr b.1 hy.1 d.1 hy.2.2 (by omega))⟩
theorem adD{s t:Sp}(hs:oks C s)(ht:oks C t){i k:Nat}(hi:i < 3)(hk:k < 3)(ei:emp (pt i s)=false)(ek:emp (pt k t)=false):
  (∃ x y,El (pt i s) x∧El (pt k t) y∧(Qp i k (pt i s) (pt k t)).lo=xmul x y)∧(∃ x y,El (pt i s) x∧El (pt k t) y∧(Qp i k (pt i s) (pt k t)).hi=xmul x y):=by
 have a:=vM (tH hs i) ei
 have b:=vK (tH hs i) ei
 have c:=vM (tH ht k) ek
 have d:=vK (tH ht k) ek
 by_cases z:i=1∨k=1
 ·have e:xmul (pt i s).lo (pt k t).lo=.fin 0:=by
   apply rf
   rcases z with rfl | rfl
   ·exact .inl ((tX hs).2.1 a)
   ·exact .inr ((tX ht).2.1 c)
  simp only[Qp,if_pos z]
  exact⟨⟨_,_,a,c,e.symm⟩,⟨_,_,a,c,e.symm⟩⟩
 ·unfold Qp
  rw[if_neg z]
  split<;>split
  ·exact⟨⟨_,_,b,d,rfl⟩,⟨_,_,a,c,rfl⟩⟩
  ·exact⟨⟨_,_,a,d,rfl⟩,⟨_,_,b,c,rfl⟩⟩
  ·exact⟨⟨_,_,b,c,rfl⟩,⟨_,_,a,d,rfl⟩⟩
  ·exact⟨⟨_,_,a,c,rfl⟩,⟨_,_,b,d,rfl⟩⟩
theorem aev{s t:Sp}(hs:oks C s)(ht:oks C t)(i k:Nat):oks K (Qp i k (pt i s) (pt k t)):=by
 have hK:=K_gt
 have p:=tH hs i
 have q:=tH ht k
 have z:okx K (.fin 0):=by simp only[okx];omega
 unfold Qp
 split
 ·exact⟨z,z⟩
 ·split<;>split
  ·exact⟨nD p.2 q.2,nD p.1 q.1⟩
  ·exact⟨nD p.1 q.2,nD p.2 q.1⟩
  ·exact⟨nD p.2 q.1,nD p.1 q.2⟩
  ·exact⟨nD p.1 q.1,nD p.2 q.2⟩
section
variable {s t:Sp}(hs:oks C s)(ht:oks C t)(es:emp s=false)(et:emp t=false)(ps:Pr s)(pt':Pr t)
include hs ht es et
theorem vX{x y:X}(hx:x=s.lo∨x=s.hi)(hy:y=t.lo∨y=t.hi):El s x∧El t y:=by
 constructor
 ·rcases hx with rfl | rfl
  ·exact vM hs es
  ·exact vK hs es
 ·rcases hy with rfl | rfl
  ·exact vM ht et
  ·exact vK ht et
theorem F1{i k:Nat}(hi:i < 3)(hk:k < 3)(ei:emp (pt i s)=false)(ek:emp (pt k t)=false):
  key (apS xmul s t).lo≤key (Qp i k (pt i s) (pt k t)).lo∧key (Qp i k (pt i s) (pt k t)).hi≤key (apS xmul s t).hi:=by
 obtain⟨⟨x,y,hx,hy,e⟩,⟨x',y',hx',hy',e'⟩⟩:=adD hs ht hi hk ei ek
 have en:=yH (o:=xmul) es et
 obtain⟨⟨cx,cy,c1,c2,c3⟩,_⟩:=corner hs ht (wQ hs hx) (wQ ht hy)
 obtain⟨_,⟨dx,dy,d1,d2,d3⟩⟩:=corner hs ht (wQ hs hx') (wQ ht hy')
 have a:=en.1.2 cx cy c1 c2
 have b:=en.2.2 dx dy d1 d2
 rw[e,e']
 omega
theorem F2:(∃ i k,i < 3∧k < 3∧emp (pt i s)=false∧emp (pt k t)=false∧(Qp i k (pt i s) (pt k t)).lo=(apS xmul s t).lo)∧
  (∃ i k,i < 3∧k < 3∧emp (pt i s)=false∧emp (pt k t)=false∧(Qp i k (pt i s) (pt k t)).hi=(apS xmul s t).hi):=by
 have en:=yH (o:=xmul) es et
 have ok:=ad2 hs ht
 constructor
 ·obtain⟨cx,cy,c1,c2,c3⟩:=en.1.1
  have co:=vX hs ht es et c1 c2
  obtain⟨i,hi,xi⟩:=cls hs co.1
  obtain⟨k,hk,yk⟩:=cls ht co.2
  have ei:=vN xi
  have ek:=vN yk
  have q:=aeu hs ht hi hk xi yk
  have f:=F1 hs ht es et hi hk ei ek
  refine⟨i,k,hi,hk,ei,ek,key_inj (aev hs ht i k).1 ok.1 ?_⟩
  rw[←c3]at q
  omega
 ·obtain⟨cx,cy,c1,c2,c3⟩:=en.2.1
  have co:=vX hs ht es et c1 c2
  obtain⟨i,hi,xi⟩:=cls hs co.1
  obtain⟨k,hk,yk⟩:=cls ht co.2
  have ei:=vN xi
  have ek:=vN yk
  have q:=aeu hs ht hi hk xi yk
  have f:=F1 hs ht es et hi hk ei ek
  refine⟨i,k,hi,hk,ei,ek,key_inj (aev hs ht i k).2 ok.2 ?_⟩
  rw[←c3]at q
  omega
end
section
variable {s t:Sp}(hs:oks C s)(ht:oks C t)(es:emp s=false)(et:emp t=false)(ps:Pr s)(pt':Pr t)
include hs ht es et ps pt'
end
section
variable {s t:Sp}(hs:oks C s)(ht:oks C t)(es:emp s=false)(et:emp t=false)(ps:Pr s)(pt':Pr t)
include hs ht es et ps pt'
end
end Go.N
namespace Go.N
open Go Go.Q Go.Rx
def pp(i:Nat)(s:Sp):Sp:=if i=0 then⟨xneg (negS s).hi,xneg (negS s).lo⟩else posS s
section
variable (lf:Nat)(h3:200000≤lf){s t:Sp}(hs:oks C s)(ht:oks C t)(ps:Pr s)(pt':Pr t)
include h3 hs ht ps pt'
def sv(s:Sp):List IV:=[ac (toA (negS s)),ac (toA (zerS s)),ac (toA (posS s))]
end
end Go.N
namespace Go.N
open Go Go.Q Go.Rx
theorem aaJ{s:Sp}{z:Int}:inS s z=true↔key s.lo≤z∧z≤key s.hi:=by unfold inS;simp
theorem afy{s:Sp}{z:Int}(h:inS s z=true):emp s=false:=abx h
section
variable {s t:Sp}(hs:oks C s)(ht:oks C t){x y:Int}(bx: -Dd < x∧x < Dd)(by': -Dd < y∧y < Dd)(hx:inS s x=true)(hy:inS t y=true)
include hs ht bx by' hx hy
end
section
variable {s t:Sp}(hs:oks C s)(ht:oks C t)(ps:Pr s)(pt':Pr t){x y:Int}(bx: -Dd < x∧x < Dd)(by': -Dd < y∧y < Dd)(hx:inS s x=true)(hy:inS t y=true)
include hs ht ps pt' bx by' hx hy
end
end Go.N
namespace Go.N
open Go Go.Q Go.Rx
theorem afl:Wf (toA non):=aaq sH (.inl qX)
theorem acI{a:A}(h:a.em=true):ofA a=non:=by unfold ofA;rw[if_pos h]
section
variable {a b:A}(ha:Wf a)(hb:Wf b)
include ha hb
theorem rq:Wf (toA (narrow a b)):=by
 unfold narrow
 split
 ·exact afl
 ·refine aaq ⟨uj (sJ ha.loK hb.loK),uh (sJ ha.hiK hb.hiK)⟩ (.inr ⟨?_,?_⟩)
  ·cases orO a.lo b.lo<;>simp[lox]
  ·cases orO a.hi b.hi<;>simp[hix]
end
theorem xH(s:Sp):leqA s s=true:=by rw[pR];apply decide_eq_true;omega
theorem uD{a b:A}(ha:Wf a)(hb:Wf b){zs:List Int}(hz:Th zs):
  Wf (toA (widen (ofA a) (ofA b) zs))∧leqA (ofA a) (ofA (toA (widen (ofA a) (ofA b) zs)))=true∧leqA (ofA b) (ofA (toA (widen (ofA a) (ofA b) zs)))=true:=by
 have hK:=K_gt
 cases ea:a.em with
 | true =>
  have e:toA (widen (ofA a) (ofA b) zs)=b:=by
   unfold widen hull
   rw[gu ha,ea,if_pos (.inl rfl),if_pos rfl,nZ hb]
  rw[e]
  refine⟨hb,?_,xH _⟩
  unfold leqA;rw[gu ha,ea];rfl
 | false=>cases eb:b.em with
  | true =>
   have e:toA (widen (ofA a) (ofA b) zs)=a:=by
    unfold widen hull
    rw[gu ha,gu hb,ea,eb,if_pos (.inr rfl),if_neg (by simp),if_pos rfl,nZ ha]
   rw[e]
   refine⟨ha,xH _,?_⟩
   unfold leqA;rw[gu hb,eb];rfl
  | false =>
   have ka:=ha.ks.e2 ea
   have kb:=hb.ks.e2 eb
   obtain⟨he,hp,hn⟩:=vY ha hb ea eb
   have hCo:=mY ha.okC hb.okC
   have hKo:=mY ha.okK hb.okK
   have kh:=acr (ofA a) (ofA b)
   rw[if_neg (by omega),if_neg (by omega),if_neg (by omega),if_neg (by omega)]at kh
   have hW:widen (ofA a) (ofA b) zs=⟨if key (hull (ofA a) (ofA b)).lo≠key (ofA a).lo then below zs (hull (ofA a) (ofA b)).lo else(hull (ofA a) (ofA b)).lo,if key (hull (ofA a) (ofA b)).hi≠key (ofA a).hi then above zs (hull (ofA a) (ofA b)).hi else(hull (ofA a) (ofA b)).hi⟩:=by
    unfold widen;rw[gu ha,gu hb,ea,eb,if_neg (by simp)]
   generalize hull (ofA a) (ofA b)=H at *
   have le1:=below_le zs hKo.1
   have le2:=yF zs hKo.2
   have o1:=yK hz H.lo
   have o2:=yG hz H.hi
   rw[hW]
   obtain⟨lo,hlo⟩:∃ lo,lo=(if key H.lo≠key (ofA a).lo then below zs H.lo else H.lo):=⟨_,rfl⟩
   obtain⟨hi,hhi⟩:∃ hi,hi=(if key H.hi≠key (ofA a).hi then above zs H.hi else H.hi):=⟨_,rfl⟩
   rw[←hlo,←hhi]
   have olo:okx C lo:=by rw[hlo];split;exact o1;exact hCo.1
   have ohi:okx C hi:=by rw[hhi];split;exact o2;exact hCo.2
   have klo:key lo≤key H.lo:=by rw[hlo];split;exact le1;exact Int.le_refl _
   have khi:key H.hi≤key hi:=by rw[hhi];split;exact le2;exact Int.le_refl _
   have kk:=acu (s:=⟨lo,hi⟩) ⟨olo,ohi⟩ (fun _=>by simp only;omega)
   have wf:=aef (s:=⟨lo,hi⟩) ⟨olo.mono (Int.le_of_lt kG),ohi.mono (Int.le_of_lt kG)⟩ (fun _=>by simp only;omega)
   simp only at kk
   rw[if_neg (by omega),if_neg (by omega)]at kk
   refine⟨wf,?_,?_⟩
   ·rw[pR,kk.1,kk.2];apply decide_eq_true;omega
   ·rw[pR,kk.1,kk.2];apply decide_eq_true;omega
end Go.N
namespace Go.N
open Go Go.Q Go.Rx
def leqV(v w:Vl):Bool:=leqA (ofA v.a) (ofA w.a)&&kT v.c w.c
theorem acy{a b:A}(h:a.em=true):leqA (ofA a) (ofA b)=true:=by
 unfold leqA;rw[acI h,qX];rfl
theorem aaL{a b:A}(ha:Wf a)(hb:Wf b)(ea:a.em=false)(eb:b.em=false):
  leqA (ofA a) (ofA b)=true↔(∀ l,b.lo=some l→∃ k,a.lo=some k∧l≤k)∧∀ u,b.hi=some u→∃ k,a.hi=some k∧k≤u:=by
 have a1:=ha.loK
 have a2:=ha.hiK
 have b1:=hb.loK
 have b2:=hb.hiK
 have e:emp (ofA a)=false:=by rw[gu ha,ea]
 unfold leqA
 rw[e,Bool.false_or]
 unfold ofA
 rw[ea,eb,if_neg (by simp),if_neg (by simp)]
 simp only[Bool.and_eq_true,decide_eq_true_eq]
 have L:key (lox b.lo)≤key (lox a.lo)↔∀ l,b.lo=some l→∃ k,a.lo=some k∧l≤k:=by
  revert a1 b1
  cases b.lo with
  | none=>cases a.lo with
   | none=>simp[lox,key]
   | some k=>simp[lox,key,okb]<;>omega
  | some l=>cases a.lo with
   | none=>simp[lox,key,okb]<;>omega
   | some k=>simp[lox,key]
 have U:key (hix a.hi)≤key (hix b.hi)↔∀ u,b.hi=some u→∃ k,a.hi=some k∧k≤u:=by
  revert a2 b2
  cases b.hi with
  | none=>cases a.hi with
   | none=>simp[hix,key]
   | some k=>simp[hix,key,okb]<;>omega
  | some l=>cases a.hi with
   | none=>simp[hix,key,okb]<;>omega
   | some k=>simp[hix,key]
 rw[L,U]
theorem aaK{a b:A}(ha:Wf a)(hb:Wf b)(h:leqA (ofA a) (ofA b)=true)(ea:a.em=false):b.em=false:=by
 cases eb:b.em with
 | false=>rfl
 | true =>
  have hK:=K_gt
  have e:emp (ofA a)=false:=by rw[gu ha,ea]
  have k:=ha.ks.keys
  rw[pR,decide_eq_true_eq,acI eb,xC.1,xC.2]at h
  have:=of_decide_eq_false e
  omega
theorem adV{s t:Sp}(h:leqA s t=true){z:Int}(hz:inS s z=true):inS t z=true:=by
 have e:=afy hz
 rw[pR,decide_eq_true_eq]at h
 have:=of_decide_eq_false e
 have:=aaJ.1 hz
 exact aaJ.2 (by omega)
namespace WfV
variable {v:Vl}(h:WfV v)
include h
theorem em:v.a.em=v.c.em:=by
 have r:=h.red
 unfold Go.N.red at r
 cases e1:v.a.em with
 | true =>
  rw[if_pos e1]at r
  rw[←r];rfl
 | false=>cases e2:v.c.em with
  | false=>rfl
  | true =>
   rw[if_neg (by simp[e1]),if_pos e2]at r
   rw[←r]at e1;simp[Ev,E0]at e1
theorem ev(e:v.a.em=true):v=Ev:=by
 have r:=h.red
 unfold Go.N.red at r
 rw[if_pos e]at r
 exact r.symm
theorem one(e:v.a.em=false)(m:v.c.m=0):v=onev v.c.r∧inS (ofA v.a) v.c.r=true:=by
 have r:=h.red
 have e2:v.c.em=false:=by rw[←h.em,e]
 unfold Go.N.red at r
 rw[if_neg (by simp[e]),if_neg (by simp[e2]),if_pos m]at r
 split at r
 ·exact⟨r.symm,by assumption⟩
 ·rw[←r]at e;simp[Ev,E0]at e
theorem fin(e:v.a.em=false)(m:v.c.m≠0):fin3 (v.a.lo.map (loC v.c)) (v.a.hi.map (hiC v.c)) v.c=v:=by
 have r:=h.red
 have e2:v.c.em=false:=by rw[←h.em,e]
 unfold Go.N.red at r
 rwa [if_neg (by simp[e]),if_neg (by simp[e2]),if_neg m]at r
theorem bnd(e:v.a.em=false):(∀ l,v.a.lo=some l→inC v.c l=true)∧∀ l,v.a.hi=some l→inC v.c l=true:=by
 have e2:v.c.em=false:=by rw[←h.em,e]
 by_cases m:v.c.m=0
 ·obtain⟨o,i⟩:=h.one e m
  have hs:inC v.c v.c.r=true:=(nK e2 h.c.pos).2 (by simp)
  constructor
  ·intro l hl
   rw[o]at hl;cases hl;exact hs
  ·intro l hl
   rw[o]at hl;cases hl;exact hs
 ·have p:0 < v.c.m:=by have:=h.c.pos;omega
  have f:=h.fin e m
  have ck:=h.a
  have lo:=ck.lo
  have hi:=ck.hi
  revert f lo hi
  cases hl:v.a.lo with
  | none=>cases hh:v.a.hi with
   | none=>intro _ _ _;exact⟨nofun,nofun⟩
   | some u =>
    intro f lo hi
    have f2:=congrArg (fun x=>x.a.hi) f
    simp only[Option.map,fin3,Option.bind,hh]at f2
    have hu:hiC v.c u=u:=by
     unfold clip at f2;split at f2
     ·exact Option.some.inj f2
     ·cases f2
    exact⟨nofun,fun l x=>by cases x;exact(nK e2 h.c.pos).2 (by have:=aaI p u;rwa [hu]at this)⟩
  | some l=>cases hh:v.a.hi with
   | none =>
    intro f lo hi
    have f2:=congrArg (fun x=>x.a.lo) f
    simp only[Option.map,fin3,Option.bind,hl]at f2
    have hu:loC v.c l=l:=by
     unfold clip at f2;split at f2
     ·exact Option.some.inj f2
     ·cases f2
    exact⟨fun l x=>(by cases x;exact(nK e2 h.c.pos).2 (by have:=aaM p l;rwa [hu]at this)),nofun⟩
   | some u =>
    intro f lo hi
    simp only[Option.map,fin3]at f
    split at f
    ·rw[←f]at e;simp[Ev,E0]at e
    ·split at f
     ·rw[←f]at m;simp[onev]at m
     ·have f1:=congrArg (fun x=>x.a.lo) f
      have f2:=congrArg (fun x=>x.a.hi) f
      simp only[hl,hh]at f1 f2
      have h1:loC v.c l=l:=by
       unfold clip at f1;split at f1
       ·exact Option.some.inj f1
       ·cases f1
      have h2:hiC v.c u=u:=by
       unfold clip at f2;split at f2
       ·exact Option.some.inj f2
       ·cases f2
      exact⟨fun k x=>(by cases x;exact(nK e2 h.c.pos).2 (by have:=aaM p l;rwa [h1]at this)),fun k x=>(by cases x;exact(nK e2 h.c.pos).2 (by have:=aaI p u;rwa [h2]at this))⟩
theorem eqb(e:v.a.em=false){z:Int}(h1:v.a.lo=some z)(h2:v.a.hi=some z):v=onev z:=by
 have e2:v.c.em=false:=by rw[←h.em,e]
 by_cases m:v.c.m=0
 ·obtain⟨o,i⟩:=h.one e m
  rw[o]at h1
  cases h1;exact o
 ·have p:0 < v.c.m:=by have:=h.c.pos;omega
  have f:=h.fin e m
  have d1:=(nK e2 h.c.pos).1 ((h.bnd e).1 z h1)
  have d2:=(nK e2 h.c.pos).1 ((h.bnd e).2 z h2)
  rw[h1,h2]at f
  simp only[Option.map,fin3,aac p d1,zY p d2]at f
  rw[if_neg (by omega),if_pos trivial]at f
  exact f.symm
end WfV
theorem wB{v:Vl}(h:WfV v):leqV v v=true:=by
 unfold leqV;rw[xH,sW h.c];rfl
theorem abC{c d:Cg}(h:kT c d=true)(e:c.em=false):d.em=false:=by
 unfold kT at h
 rw[if_neg (by simp[e])]at h
 revert h;cases d.em<;>simp
theorem adW{v:Vl}(hv:WfV v){r:A}{c:Cg}(hr:Wf r)(hc:WfC c)(h1:leqA (ofA v.a) (ofA r)=true)(h2:kT v.c c=true):leqV v (red r c)=true:=by
 cases e:v.a.em with
 | true =>
  have e2:v.c.em=true:=by rw[←hv.em,e]
  unfold leqV
  rw[acy e,wo e2];rfl
 | false =>
  have e2:v.c.em=false:=by rw[←hv.em,e]
  have er:=aaK hv.a hr h1 e
  have ec:=abC h2 e2
  obtain⟨q1,q2⟩:=(nM hc e2 ec).1 h2
  obtain⟨g1,g2⟩:=(aaL hv.a hr e er).1 h1
  obtain⟨b1,b2⟩:=hv.bnd e
  have wr:=aeF hr hc
  by_cases m:c.m=0
  ·rw[m]at q1 q2
   have m1:=Int.zero_dvd.1 q1
   have m2:v.c.r=c.r:=by have:=Int.zero_dvd.1 q2;omega
   obtain⟨o,i⟩:=hv.one e m1
   have:red r c=onev v.c.r:=by
    unfold red
    rw[if_neg (by simp[er]),if_neg (by simp[ec]),if_pos m,←m2,if_pos (adV h1 i)]
   rw[this,←o]
   exact wB hv
  ·have p:0 < c.m:=by have:=hc.pos;omega
   have C1:∀ x,r.lo.map (loC c)=some x→∃ k,v.a.lo=some k∧x≤k:=by
    intro x hx
    cases hl:r.lo with
    | none=>rw[hl]at hx;cases hx
    | some l =>
     rw[hl]at hx;cases hx
     obtain⟨k,k1,k2⟩:=g1 l hl
     exact⟨k,k1,acA p ((nK ec hc.pos).1 (wu hv.c hc h2 (b1 k k1))) k2⟩
   have C2:∀ x,r.hi.map (hiC c)=some x→∃ k,v.a.hi=some k∧k≤x:=by
    intro x hx
    cases hl:r.hi with
    | none=>rw[hl]at hx;cases hx
    | some l =>
     rw[hl]at hx;cases hx
     obtain⟨k,k1,k2⟩:=g2 l hl
     exact⟨k,k1,adO p ((nK ec hc.pos).1 (wu hv.c hc h2 (b2 k k1))) k2⟩
   have R:red r c=fin3 (r.lo.map (loC c)) (r.hi.map (hiC c)) c:=by
    unfold red
    rw[if_neg (by simp[er]),if_neg (by simp[ec]),if_neg m]
   rw[R]at wr⊢
   revert C1 C2 wr
   generalize r.lo.map (loC c)=x
   generalize r.hi.map (hiC c)=y
   intro wr C1 C2
   have nb:∀ (z w:Int),clip z=some w→w=z:=by
    intro z w h
    unfold clip at h;split at h
    ·cases h;rfl
    ·cases h
   have fin:∀ t u:Option Int,Wf ⟨false,t,u⟩→(∀ l,t=some l→∃ k,v.a.lo=some k∧l≤k)→(∀ l,u=some l→∃ k,v.a.hi=some k∧k≤l)→leqV v ⟨⟨false,t,u⟩,c⟩=true:=by
    intro t u hw ht hu
    unfold leqV
    rw[(aaL hv.a hw e rfl).2 ⟨ht,hu⟩,h2];rfl
   cases x with
   | none=>cases y with
    | none=>exact fin _ _ wr.a nofun nofun
    | some w=>exact fin _ _ wr.a nofun (fun l h=>by rw[nb _ _ h];exact C2 _ rfl)
   | some z=>cases y with
    | none=>exact fin _ _ wr.a (fun l h=>by rw[nb _ _ h];exact C1 _ rfl) nofun
    | some w =>
     obtain⟨k,k1,k2⟩:=C1 _ rfl
     obtain⟨k',k3,k4⟩:=C2 _ rfl
     have le:=hv.a.le
     rw[k1,k3]at le
     simp only[le?]at le
     unfold fin3 at wr⊢
     simp only at wr⊢
     rw[if_neg (by omega)]at wr⊢
     by_cases h3:z=w
     ·rw[if_pos h3]at wr⊢
      have k5:k=z:=by omega
      have k6:k'=z:=by omega
      rw[k5]at k1;rw[k6]at k3
      rw[←hv.eqb e k1 k3]
      exact wB hv
     ·rw[if_neg h3]at wr⊢
      exact fin _ _ wr.a (fun l h=>by rw[nb _ _ h];exact C1 _ rfl) (fun l h=>by rw[nb _ _ h];exact C2 _ rfl)
end Go.N
namespace Go.N
open Go Go.Q Go.Rx
def widV(zs:List Int)(a b:Vl):Vl:=red (toA (widen (ofA a.a) (ofA b.a) zs)) (joinC a.c b.c)
def narV(a b:Vl):Vl:=red (toA (narrow a.a b.a)) (if a.c=topC then b.c else a.c)
section
variable {a b:Vl}(ha:WfV a)(hb:WfV b)
include ha hb
theorem afm{zs:List Int}(hz:Th zs):WfV (widV zs a b):=aeF (uD ha.a hb.a hz).1 (qZ ha.c hb.c)
end
section
variable {a b:Vl}(ha:WfV a)(hb:WfV b)
include ha hb
theorem acz{zs:List Int}(hz:Th zs):leqV a (widV zs a b)=true:=by
 obtain⟨w,l1,l2⟩:=uD ha.a hb.a hz
 exact adW ha w (qZ ha.c hb.c) l1 (xA ha.c)
end
end Go.N
namespace Go.N
open Go Go.Q Go.Rx
abbrev tb(b:ByteArray):Nat:=b.data.toList.length
def SmV(x:VV):Prop:=tb x.1.2.1≤100000∧tb x.1.2.2.1≤100000∧tb x.2.1.2.1≤100000∧tb x.2.1.2.2.1≤100000
theorem qU(x y:VV):(((x.1.1==y.1.1)&&((x.1.2.1==y.1.2.1)&&((x.1.2.2.1==y.1.2.2.1)&&true)))&&(((x.2.1.1==y.2.1.1)&&((x.2.1.2.1==y.2.1.2.1)&&((x.2.1.2.2.1==y.2.1.2.2.1)&&true)))&&true))=decide (x=y):=by
 obtain⟨⟨e1,l1,m1,⟨⟩⟩,⟨e2,l2,m2,⟨⟩⟩,⟨⟩⟩:=x
 obtain⟨⟨f1,p1,q1,⟨⟩⟩,⟨f2,p2,q2,⟨⟩⟩,⟨⟩⟩:=y
 rw[Bool.eq_iff_iff]
 simp only[abZ,Bool.and_eq_true,beq_iff_eq,decide_eq_true_eq,Bool.and_true,Prod.mk.injEq,and_true]
theorem afI{a:A}{c:Cg}(ha:Wf a)(hc:WfC c)(h:vc (red a c)=vc ⟨a,c⟩):∃ v,vc ⟨a,c⟩=vc v∧WfV v:=by
 simp only[vc,Prod.mk.injEq]at h
 have e1:=aeN h.1
 obtain⟨e2,e3⟩:=aeT h.2.1
 cases ec:c.em with
 | true =>
  have hE:red a c=Ev:=by
   unfold red
   by_cases e:a.em=true
   ·rw[if_pos e]
   ·rw[if_neg e,if_pos ec]
  refine⟨Ev,?_,Ev_V⟩
  rw[hE]at e1
  simp only[vc,←e1]
  rw[pM ec];rfl
 | false =>
  rw[ec]at e2
  refine⟨⟨a,c⟩,rfl,ha,hc,?_⟩
  have e4:=e3 e2
  show red a c=⟨a,c⟩
  generalize red a c=r at *
  cases r;simp_all
section
variable (lf:Nat)(hb:Big lf)
include hb
theorem chkV{x:VV}(hx:SmV x):∃ n:Int,dB.f lf x=some (n,())∧dV.f lf x=some (n,())∧(n=0→∃ v,x=vc v∧WfV v):=by
 have hlf:=hb.1
 have h3:200000≤lf:=by omega
 obtain⟨⟨e1,l1,m1,⟨⟩⟩,⟨e2,l2,m2,⟨⟩⟩,⟨⟩⟩:=x
 obtain⟨x1,x2,x3,x4⟩:=hx
 rw[←mP l1,←mP m1,←mP l2,←mP m2]
 simp only[tb]at x1 x2 x3 x4
 revert x1 x2 x3 x4
 generalize l1.data.toList=l1
 generalize m1.data.toList=m1
 generalize l2.data.toList=l2
 generalize m2.data.toList=m2
 intro x1 x2 x3 x4
 have p1:=yN lf h3 e1 l1 m1 (by omega) (by omega)
 have p2:=vS lf h3 e1 l1 m1 (by omega) (by omega) (by omega) (by omega)
 have q1:=aez lf h3 e2 l2 m2 (by omega) (by omega)
 have q2:=aax lf h3 e2 l2 m2 (by omega) (by omega) (by omega) (by omega)
 rw[dB.f,mO.f,dV.f]
 simp only[p1,p2,bdS]
 by_cases k1:ck e1 l1 m1=0
 ·rw[k1]
  simp only[bne_self_eq_false,brF,q1,q2,bdS]
  by_cases k2:ckc e2 l2 m2=0
  ·obtain⟨a,ea,ha⟩:=afs k1
   obtain⟨c,ec,hc⟩:=aeU k2
   rw[k2]
   have r1:=vH lf hb ha hc
   have r2:=vw lf hb ha hc
   rw[←ea,←ec]at r1 r2
   simp only[bne_self_eq_false,brF,r1,r2,bdS]
   have bq:=qU (vc (red a c)) ((e1,bs l1,bs m1,()),(e2,bs l2,bs m2,()),())
   simp only at bq
   rw[bq,ea,ec]
   by_cases h:vc (red a c)=(ac a,cc c,())
   ·rw[decide_eq_true h,Bool.not_true,brF]
    exact⟨0,rfl,rfl,fun _=>afI ha hc h⟩
   ·rw[decide_eq_false h,Bool.not_false,brT]
    exact⟨3,rfl,rfl,nofun⟩
  ·simp only[bneT k2,brT]
   exact⟨_,rfl,rfl,fun h=>absurd h k2⟩
 ·simp only[bneT k1,brT,bdS]
  exact⟨_,rfl,rfl,fun h=>absurd h k1⟩
theorem chk_wf{v:Vl}(h:WfV v):dB.f lf (vc v)=some (0,())∧dV.f lf (vc v)=some (0,()):=by
 have hlf:=hb.1
 have h3:200000≤lf:=by omega
 have p1:=mg lf h3 h.a
 have p2:=wR lf h3 h.a
 have q1:=ccheck lf hb h.c
 have q2:=rcheck lf hb h.c
 have r1:=vH lf hb h.a h.c
 have r2:=vw lf hb h.a h.c
 rw[h.red]at r1 r2
 have bq:=qU (vc v) (vc v)
 rw[decide_eq_true rfl]at bq
 constructor
 ·rw[dB.f,mO.f]
  simp only[show(vc v).1=ac v.a from rfl,show(vc v).2.1=cc v.c from rfl]at bq⊢
  simp only[p1,q1,r1,bdS,bne_self_eq_false,brF]
  simp only[show(vc v).1=ac v.a from rfl,show(vc v).2.1=cc v.c from rfl,bq,Bool.not_true,brF]
 ·rw[dV.f]
  simp only[show(vc v).1=ac v.a from rfl,show(vc v).2.1=cc v.c from rfl]at bq⊢
  simp only[p2,q2,r2,bdS,bne_self_eq_false,brF]
  simp only[show(vc v).1=ac v.a from rfl,show(vc v).2.1=cc v.c from rfl,bq,Bool.not_true,brF]
theorem zO{v w:Vl}(h:WfV v)(k:WfV w):gX.f lf (vc v) (vc w)=some (0,()):=by
 rw[gX.f,(chk_wf lf hb h).1,bdS]
 simp only[bne_self_eq_false,brF,(chk_wf lf hb k).1,bdS]
end
end Go.N
namespace Go.N
open Go Go.Q Go.Rx
section
variable (lf:Nat)(hb:Big lf){v w:Vl}(hv:WfV v)(hw:WfV w)
include hb hv hw
end
section
variable (lf:Nat)(hb:Big lf){v:Vl}(hv:WfV v)
include hb hv
end
section
variable (lf:Nat)(hb:Big lf){x y:VV}(hx:SmV x)(hy:SmV y)
include hb hx hy
end
end Go.N
namespace Go.N
open Go Go.Q Go.Rx
theorem aaE(lf:Nat)(x:IV):∃ b,iR.f lf x=some (b,())∧(b=true→tb x.2.1≤100000∧tb x.2.2.1≤100000):=by
 rw[iR.f]
 simp only[fZ.f,bdS]
 by_cases h:((x.2.1.size:Nat):Int)≤250
 ·rw[decide_eq_true h,brT]
  refine⟨_,rfl,fun k=>?_⟩
  have k:=of_decide_eq_true k
  rw[Lib.size_eq]at h k
  exact⟨by simp only[tb];omega,by simp only[tb];omega⟩
 ·rw[decide_eq_false h,brF]
  exact⟨_,rfl,nofun⟩
theorem adM(lf:Nat)(x y:IV):∃ b,jC.f lf x y=some (b,())∧(b=true→(tb x.2.1≤100000∧tb x.2.2.1≤100000)∧(tb y.2.1≤100000∧tb y.2.2.1≤100000)):=by
 rw[jC.f]
 by_cases h1:((x.2.1.size:Nat):Int)≤450
 ·rw[decide_eq_true h1,brT]
  by_cases h2:((x.2.2.1.size:Nat):Int)≤450
  ·rw[decide_eq_true h2,brT]
   by_cases h3:((y.2.1.size:Nat):Int)≤450
   ·rw[decide_eq_true h3,brT]
    refine⟨_,rfl,fun k=>?_⟩
    have k:=of_decide_eq_true k
    rw[Lib.size_eq]at h1 h2 h3 k
    exact⟨⟨by simp only[tb];omega,by simp only[tb];omega⟩,by simp only[tb];omega,by simp only[tb];omega⟩
   ·rw[decide_eq_false h3,brF];exact⟨_,rfl,nofun⟩
  ·rw[decide_eq_false h2,brF];exact⟨_,rfl,nofun⟩
 ·rw[decide_eq_false h1,brF];exact⟨_,rfl,nofun⟩
theorem ae2(lf:Nat)(x y:VV):∃ b,iT.f lf x y=some (b,())∧(b=true→SmV x∧SmV y):=by
 obtain⟨a,a1,a2⟩:=adM lf x.1 y.1
 obtain⟨b,b1,b2⟩:=aaE lf x.2.1
 obtain⟨c,c1,c2⟩:=aaE lf y.2.1
 rw[iT.f,a1,bdS]
 cases a with
 | false=>simp only[brF];exact⟨_,rfl,nofun⟩
 | true =>
  simp only[brT,b1,bdS]
  cases b with
  | false=>simp only[brF];exact⟨_,rfl,nofun⟩
  | true =>
   simp only[brT,c1,bdS]
   refine⟨_,rfl,fun k=>?_⟩
   obtain⟨q1,q2⟩:=a2 rfl
   have q3:=b2 rfl
   have q4:=c2 k
   exact⟨⟨q1.1,q1.2,q3.1,q3.2⟩,q2.1,q2.2,q4.1,q4.2⟩
theorem bigN(n:Nat):∃ lf,Big lf∧n≤lf:=⟨2000000000+K.toNat+n,⟨by omega,by omega⟩,by omega⟩
theorem bigE:∃ lf,Big lf:=⟨_,(bigN 0).choose_spec.1⟩
end Go.N
namespace Go.N
open Go Go.Q Go.Rx
def GoodV(x:VV):Prop:=∃ v,x=vc v∧WfV v∧v.a.em=false
noncomputable def fulN (lf:Nat) (x:VV):Int:=((iH.f lf x).getD (0,())).1
section
variable (lf:Nat)(hb:Big lf)
include hb
theorem su{x:VV}(hx:SmV x):iH.f lf x=some (fulN lf x,())∧(bd (dV.f lf x) fun r1=>br (r1.1 != 0) (some (r1.1,())) (bd (dA.f lf x) fun r2=>br r2.1 (some (16,())) (some (0,()))))=some (fulN lf x,())∧(fulN lf x=0↔GoodV x):=by
 have key:∃ n:Int,iH.f lf x=some (n,())∧(bd (dV.f lf x) fun r1=>br (r1.1 != 0) (some (r1.1,())) (bd (dA.f lf x) fun r2=>br r2.1 (some (16,())) (some (0,()))))=some (n,())∧(n=0↔GoodV x):=by
  obtain⟨n,h1,h2,h3⟩:=chkV lf hb hx
  unfold iH.f
  rw[h1,h2,bdS,bdS]
  by_cases hn:n=0
  ·subst hn
   obtain⟨v,rfl,hv⟩:=h3 rfl
   rw[show(((0:Int),()).1 != 0)=false from rfl,brF,brF,show bW.f lf (vc v)=some (v.a.em,()) from rfl,show dA.f lf (vc v)=some (v.a.em,()) from rfl,bdS]
   cases he:v.a.em with
   | true =>
    refine⟨16,by rw[brT],by rw[brT],fun h=>(by omega),fun⟨w,e,hw,e2⟩=>?_⟩
    have:=congrArg (fun x:VV=>x.1.1) e
    have:v.a.em=w.a.em:=this
    rw[he,e2]at this;cases this
   | false=>exact⟨0,by rw[brF],by rw[brF],fun _=>⟨v,rfl,hv,he⟩,fun _=>rfl⟩
  ·rw[show((n,()).1 != 0)=true by simpa using hn,brT,brT]
   refine⟨n,rfl,rfl,fun h=>absurd h hn,fun⟨v,e,hv,_⟩=>?_⟩
   subst e
   have:=(chk_wf lf hb hv).1
   rw[h1]at this
   simp at this;exact this
 obtain⟨n,h1,h2,h3⟩:=key
 have e:fulN lf x=n:=by unfold fulN;rw[h1];rfl
 rw[e];exact⟨h1,h2,h3⟩
end
noncomputable def ckS (lf:Nat) (N:Int):Option VV→Int→List Sg3→Int×Int
 | _,e,[]=>(0,e)
 | p,e,s::r=>if s.1≠e then(20,e)else if s.2.1≤s.1 then(15,e)else if N < s.2.1 then(15,e)else if fulN lf s.2.2.1≠0 then(fulN lf s.2.2.1,e)else if p=some s.2.2.1 then(7,e)else ckS lf N (some s.2.2.1) s.2.1 r
def RS(N:Int):Option VV→Int→List Sg3→Prop
 | _,e,[]=>e=N
 | p,e,s::r=>s.1=e∧e < s.2.1∧s.2.1≤N∧GoodV s.2.2.1∧p≠some s.2.2.1∧RS N (some s.2.2.1) s.2.1 r
theorem RS.chn{N:Int}:∀ {l:List Sg3} {p:Option VV} {e:Int},RS N p e l→Chn N e l
 | [],p,e,h=>h
 | s::r,p,e,⟨h1,h2,h3,_,_,h6⟩=>⟨h1,h2,h3,h6.chn⟩
theorem RS.good{N:Int}:∀ {l:List Sg3} {p:Option VV} {e:Int},RS N p e l→∀ s∈l,GoodV s.2.2.1
 | [],p,e,h,s,hs=>by cases hs
 | s::r,p,e,⟨_,_,_,h4,_,h6⟩,q,hq=>by
  rcases List.mem_cons.1 hq with rfl | hq
  ·exact h4
  ·exact h6.good q hq
structure Right(l:List Sg3)(n:Int):Prop where
 n1:1≤n
 n2:n≤32
 ne:l≠[]
 rs:RS n none 0 l
theorem yU{l:List Sg3}(h:∀ s∈l,GoodV s.2.2.1):∀ x∈expand l,GoodV x:=by
 intro x hx
 obtain⟨s,hs,hx⟩:=List.mem_flatMap.1 hx
 rw[(List.mem_replicate.1 hx).2];exact h s hs
theorem abB{l:List VV}(h:∀ x∈l,GoodV x):∃ vs:List Vl,l=vs.map vc∧(∀ v∈vs,WfV v∧v.a.em=false):=by
 induction l with
 | nil=>exact⟨[],rfl,fun v hv=>by cases hv⟩
 | cons x l ih =>
  obtain⟨vs,rfl,h2⟩:=ih fun y hy=>h y (List.mem_cons_of_mem _ hy)
  obtain⟨v,rfl,h3,h4⟩:=h x (List.mem_cons_self ..)
  exact⟨v::vs,rfl,fun w hw=>by
   rcases List.mem_cons.1 hw with rfl | hw
   ·exact⟨h3,h4⟩
   ·exact h2 w hw⟩
theorem Right.vals{l:List Sg3}{n:Int}(h:Right l n):∃ vs:List Vl,expand l=vs.map vc∧(∀ v∈vs,WfV v∧v.a.em=false)∧(vs.length:Int)=n:=by
 obtain⟨vs,h1,h2⟩:=abB (yU h.rs.good)
 refine⟨vs,h1,h2,?_⟩
 have:=h.rs.chn.len.1
 rw[h1,List.length_map]at this
 omega
def prv(l:List Sg3)(j:Nat):Option VV:=if j=0 then none else(l[j-1]?).map fun s=>s.2.2.1
section
variable (lf:Nat)(hb:Big lf)
include hb
theorem vU{N:Int}:∀ {l:List Sg3} {p:Option VV} {e:Int},(∀ s∈l,SmV s.2.2.1)→(((ckS lf N p e l).1=0∧(ckS lf N p e l).2=N)↔RS N p e l)
 | [],p,e,_=>by simp[ckS,RS]
 | s::r,p,e,hs=>by
  have hf:=(su lf hb (hs s (List.mem_cons_self ..))).2.2
  have ih:=vU (N:=N) (l:=r) (p:=some s.2.2.1) (e:=s.2.1) fun q hq=>hs q (List.mem_cons_of_mem _ hq)
  simp only[ckS,RS]
  split
  ·rename_i h;constructor
   ·intro h';have:(20:Int)=0:=h'.1;omega
   ·intro h';exact absurd h'.1 h
  rename_i h1
  have h1:s.1=e:=Classical.not_not.1 h1
  split
  ·constructor
   ·intro h';have:(15:Int)=0:=h'.1;omega
   ·intro h';omega
  split
  ·constructor
   ·intro h';have:(15:Int)=0:=h'.1;omega
   ·intro h';omega
  split
  ·rename_i h
   constructor
   ·intro h';exact absurd h'.1 h
   ·intro h';exact absurd (hf.2 h'.2.2.2.1) h
  rename_i h4
  split
  ·rename_i h;constructor
   ·intro h';have:(7:Int)=0:=h'.1;omega
   ·intro h';exact absurd h h'.2.2.2.2.1
  ·rename_i h
   rw[ih]
   exact⟨fun h'=>⟨h1,by omega,by omega,hf.1 (Classical.not_not.1 h4),h,h'⟩,fun h'=>h'.2.2.2.2.2⟩
def ckZ(p:Int×Int):Bool×(Int×Int×Unit)×(Int×Unit)×Unit:=if p.1=0 then(false,(0,0,()),((p.2,()),()))else(true,(p.1,p.2,()),((0,()),()))
omit hb in
theorem zA{l:List Sg3}{j:Nat}(h:j < l.length):prv l (j+1)=some l[j].2.2.1:=by
 unfold prv;simp[h]
theorem aex{l:List Sg3}{N:Int}(hs:∀ s∈l,SmV s.2.2.1)(hl:l.length≤1000):∀ (d n j:Nat) (e:Int),j+d=l.length→d < n→
  bJ.l0 lf l N l (l.length:Nat) n e j=some (ckZ (ckS lf N (prv l j) e (l.drop j)))
 | 0,n,j,e,hd,hn=>by
  obtain⟨n,rfl⟩:∃ q,n=q+1:=⟨n-1,by omega⟩
  rw[bJ.l0,bJ.r0,show decide ((j:Int) < ((l.length:Nat):Int))=false by simp;omega,brF,List.drop_eq_nil_of_le (by omega)]
  rfl
 | d+1,n,j,e,hd,hn=>by
  obtain⟨n,rfl⟩:∃ q,n=q+1:=⟨n-1,by omega⟩
  have hj:j < l.length:=by omega
  have hf:=su lf hb (hs l[j] (List.getElem_mem hj))
  rw[bJ.l0,bJ.r0,show decide ((j:Int) < ((l.length:Nat):Int))=true by simp;omega,brT,bZ l j hj,bdS,List.drop_eq_getElem_cons hj,ckS]
  by_cases h1:l[j].1=e
  ·rw[show(l[j].1 != e)=false by simpa using h1,brF,if_neg (by simpa using h1)]
   by_cases h2:l[j].2.1≤l[j].1
   ·rw[show decide (l[j].1≥l[j].2.1)=true by simpa using h2,brT,if_pos h2];rfl
   ·rw[show decide (l[j].1≥l[j].2.1)=false by simpa using h2,brF,if_neg h2]
    by_cases h3:N < l[j].2.1
    ·rw[show decide (l[j].2.1 > N)=true by simpa using h3,brT,if_pos h3];rfl
    ·rw[show decide (l[j].2.1 > N)=false by simpa using h3,brF,if_neg h3,hf.1,bdS]
     by_cases h4:fulN lf l[j].2.2.1=0
     ·rw[show((fulN lf l[j].2.2.1,()).1 != 0)=false by simpa using h4,brF,if_neg (by simpa using h4)]
      rw[w64 (n:=(j:Int)+1) (by omega) (by omega),show(j:Int)+1=((j+1:Nat):Int) by omega,aex hs hl d n (j+1) l[j].2.1 (by omega) (by omega),zA hj]
      by_cases h5:j=0
      ·subst h5
       rw[show decide (((0:Nat):Int) > 0)=false by rfl,brF,if_neg (by simp[prv])]
      ·rw[show decide ((j:Int) > 0)=true by simp;omega,brT,w64 (by omega) (by omega),mr l ((j:Int)-1) (j-1) (by omega) (by omega),bdS,qU,bdS]
       have hp:prv l j=some l[j-1].2.2.1:=by unfold prv;rw[if_neg h5,List.getElem?_eq_getElem (by omega)];rfl
       rw[hp]
       by_cases h6:l[j].2.2.1=l[j-1].2.2.1
       ·rw[decide_eq_true h6,brT,if_pos (by rw[h6])];rfl
       ·rw[decide_eq_false h6,brF,if_neg (fun h=>h6 (Option.some.inj h).symm)]
     ·rw[show((fulN lf l[j].2.2.1,()).1 != 0)=true by simpa using h4,brT,if_pos h4]
      unfold ckZ;rw[if_neg h4]
  ·rw[show(l[j].1 != e)=true by simpa using h1,brT,if_pos h1];rfl
theorem afF{s:Sg3}{e N:Int}(hs:SmV s.2.2.1):iU.f lf s e N=some (if s.1≠e then 20 else if s.2.1≤s.1 then 15 else if N < s.2.1 then 15 else fulN lf s.2.2.1,()):=by
 have hf:=(su lf hb hs).2.1
 unfold iU.f
 by_cases h1:s.1=e
 ·rw[show(s.1 != e)=false by simpa using h1,brF,if_neg (by simpa using h1)]
  by_cases h2:s.2.1≤s.1
  ·rw[decide_eq_true h2,brT,if_pos h2]
  ·rw[decide_eq_false h2,brF,if_neg h2]
   by_cases h3:N < s.2.1
   ·rw[show decide (s.2.1 > N)=true by simpa using h3,brT,if_pos h3]
   ·rw[show decide (s.2.1 > N)=false by simpa using h3,brF,if_neg h3];exact hf
 ·rw[show(s.1 != e)=true by simpa using h1,brT,if_pos h1]
theorem aey{l:List Sg3}{N:Int}(hs:∀ s∈l,SmV s.2.2.1)(hl:l.length≤1000):∀ (d n j:Nat) (e:Int),j+d=l.length→d < n→
  dm.l0 lf l N n e j=some (ckZ (ckS lf N (prv l j) e (l.drop j)))
 | 0,n,j,e,hd,hn=>by
  obtain⟨n,rfl⟩:∃ q,n=q+1:=⟨n-1,by omega⟩
  rw[dm.l0,dm.r0,show decide ((j:Int) < ((l.length:Nat):Int))=false by simp;omega,brF,List.drop_eq_nil_of_le (by omega)]
  rfl
 | d+1,n,j,e,hd,hn=>by
  obtain⟨n,rfl⟩:∃ q,n=q+1:=⟨n-1,by omega⟩
  have hj:j < l.length:=by omega
  rw[dm.l0,dm.r0,show decide ((j:Int) < ((l.length:Nat):Int))=true by simp;omega,brT,bZ l j hj,bdS,afF lf hb (hs l[j] (List.getElem_mem hj)),bdS,List.drop_eq_getElem_cons hj,ckS]
  by_cases h1:l[j].1=e
  ·have h1':¬(l[j].1≠e):=fun h=>h h1
   rw[if_neg h1',if_neg h1']
   by_cases h2:l[j].2.1≤l[j].1
   ·rw[if_pos h2,if_pos h2,show(((15:Int),()).1 != 0)=true from rfl,brT];rfl
   ·rw[if_neg h2,if_neg h2]
    by_cases h3:N < l[j].2.1
    ·rw[if_pos h3,if_pos h3,show(((15:Int),()).1 != 0)=true from rfl,brT];rfl
    ·rw[if_neg h3,if_neg h3]
     by_cases h4:fulN lf l[j].2.2.1=0
     ·rw[show((fulN lf l[j].2.2.1,()).1 != 0)=false by simpa using h4,brF,if_neg (show ¬(fulN lf l[j].2.2.1≠0) from fun h=>h h4)]
      simp only[bdS]
      rw[w64 (n:=(j:Int)+1) (by omega) (by omega),show(j:Int)+1=((j+1:Nat):Int) by omega,aey hs hl d n (j+1) l[j].2.1 (by omega) (by omega),zA hj]
      by_cases h5:j=0
      ·subst h5
       rw[show decide (((0:Nat):Int) > 0)=false by rfl,brF,if_neg (by simp[prv])]
      ·rw[show decide ((j:Int) > 0)=true by simp;omega,brT,w64 (by omega) (by omega),mr l ((j:Int)-1) (j-1) (by omega) (by omega),bdS,qU]
       have hp:prv l j=some l[j-1].2.2.1:=by unfold prv;rw[if_neg h5,List.getElem?_eq_getElem (by omega)];rfl
       rw[hp]
       by_cases h6:l[j-1].2.2.1=l[j].2.2.1
       ·rw[decide_eq_true h6,brT,if_pos (by rw[h6])];rfl
       ·rw[decide_eq_false h6,brF,if_neg (fun h=>h6 (Option.some.inj h))]
     ·rw[show((fulN lf l[j].2.2.1,()).1 != 0)=true by simpa using h4,brT,if_pos h4]
      unfold ckZ;rw[if_neg h4]
  ·rw[if_pos h1,if_pos h1,show(((20:Int),()).1 != 0)=true from rfl,brT];rfl
noncomputable def ckN (l:List Sg3) (n:Int):Int:=if n < 1 then 2 else if 32 < n then 2 else if l=[]then 20 else if(ckS lf n none 0 l).1≠0 then(ckS lf n none 0 l).1 else if(ckS lf n none 0 l).2≠n then 20 else 0
omit hb in
theorem adH{p:Int×Int}{n:Int}:br (ckZ p).1 (some ((ckZ p).2.1.1,())) (br ((ckZ p).2.2.1.1 != n) (some ((20:Int),())) (some (0,())))=some (if p.1≠0 then p.1 else if p.2≠n then 20 else 0,()):=by
 unfold ckZ
 by_cases h:p.1=0
 ·rw[if_pos h,if_neg (by simpa using h),brF]
  simp only
  by_cases h2:p.2=n
  ·rw[show(p.2 != n)=false by simpa using h2,brF,if_neg (by simpa using h2)]
  ·rw[show(p.2 != n)=true by simpa using h2,brT,if_pos h2]
 ·rw[if_neg h,if_pos h,brT]
theorem uG{l:List Sg3}{n:Int}(hs:∀ s∈l,SmV s.2.2.1)(hl:l.length≤1000):bJ.f lf l n=some (ckN lf l n,())∧dm.f lf l n=some (ckN lf l n,())∧(ckN lf l n=0↔Right l n):=by
 have hlf:l.length < lf+40:=by have:=hb.1;omega
 have h1:=aex lf hb (N:=n) hs hl l.length (lf+40) 0 0 (by omega) hlf
 have h2:=aey lf hb (N:=n) hs hl l.length (lf+40) 0 0 (by omega) hlf
 have hR:=vU lf hb (N:=n) (p:=none) (e:=0) hs
 rw[List.drop_zero,show prv l 0=none from rfl]at h1 h2
 have h0:((0:Nat):Int)=0:=rfl
 rw[h0]at h1 h2
 unfold bJ.f dm.f ckN
 rw[h1,h2,bdS,adH]
 by_cases c1:n < 1
 ·rw[decide_eq_true c1,brT,if_pos c1]
  exact⟨rfl,rfl,fun h=>by omega,fun h=>by have:=h.n1;omega⟩
 rw[decide_eq_false c1,brF,if_neg c1]
 by_cases c2:32 < n
 ·rw[show decide (n > 32)=true by simpa using c2,brT,if_pos c2]
  exact⟨rfl,rfl,fun h=>by omega,fun h=>by have:=h.n2;omega⟩
 rw[show decide (n > 32)=false by simpa using c2,brF,if_neg c2]
 by_cases c3:l=[]
 ·subst c3
  rw[show((((([]:List Sg3).length:Nat):Int))==0)=true from rfl,brT,if_pos rfl]
  exact⟨rfl,rfl,fun h=>by omega,fun h=>absurd rfl h.ne⟩
 have:((l.length:Nat):Int)≠0:=fun h=>c3 (List.length_eq_zero_iff.1 (by omega))
 rw[show(((l.length:Nat):Int)==0)=false by simpa using this,brF,if_neg c3]
 refine⟨rfl,rfl,fun h=>?_,fun h=>?_⟩
 ·refine⟨by omega,by omega,c3,hR.1 ?_⟩
  split at h
  ·rename_i hc;exact absurd h hc
  ·rename_i hc
   split at h
   ·omega
   ·rename_i hd;exact⟨Classical.not_not.1 hc,Classical.not_not.1 hd⟩
 ·obtain⟨r1,r2⟩:=hR.2 h.rs
  rw[if_neg (by simpa using r1),if_neg (by simpa using r2)]
end
end Go.N
namespace Go.N
open Go.IntKind (i64)
open Go Go.Q Go.Rx
def apS1(b:Nat)(_:Int)(v:V33)(a:List V33):Option (Empty ⊕ List V33):=bd (apL true b a [v]) fun q=>some (.inr q)
theorem xY(b:Nat)(hb:b≤1000):∀ (l:List V33) (i:Int) (a:List V33),a.length+l.length≤1000000→runE (apS1 b) i l a=some (.inr (a++l))
 | [],i,a,h=>by simp[runE]
 | v::l,i,a,h=>by
  simp only[List.length_cons]at h
  rw[rC,apS1,uI,rU b a [v] hb (by simp;omega),bdS,kz,xY b hb l (i+1) (a++[v]) (by simp;omega)]
  simp
section
variable (lf:Nat)(hb:Big lf)
include hb
theorem zH{l:List Sg3}{n:Int}(h:Chn n 0 l)(hn:n≤1000)(hl:l.length≤1000):bM.f lf l=some (expand l,()):=by
 have hlen:=h.len
 have:=oO (S:=apS1 80) (l:=l) (R:=Empty) (L0:=fun n j a=>bM.l0 lf l (l.length:Nat) l n j a)
  (L1:=fun j y n i a=>bM.l1 lf l (l.length:Nat) j l y.1 y.2.1 y.2.2.1.1.1 y.2.2.1.1.2.1 y.2.2.1.1.2.2.1 y.2.2.1.2.1.1 y.2.2.1.2.1.2.1 y.2.2.1.2.1.2.2.1 n i a)
  (D:=fun z n j=>bM.l0 lf l (l.length:Nat) l n (i64.wrap (j+1)) z.1.1) (k1:=fun a=>((a,()),())) (e1:=fun r=>nomatch r) (k0:=fun a=>((a,()),())) (e0:=fun r=>nomatch r)
  (N:=n) (by omega) (q:=lf+40) (by have:=hb.1;omega) (by omega)
  (fun j s _ n i a=>by rw[bM.l1,bM.r1,apS1,uI];simp only[kz])
  (fun n j a=>by rw[bM.l0,bM.r0])
  (fun r=>nomatch r) (fun a n j=>rfl) l.length (lf+40) 0 0 [] (by omega) (by have:=hb.1;omega) (by simpa using h) (Int.le_refl _)
 rw[bM.f]
 rw[show(((0:Nat):Int))=0 from rfl]at this
 rw[this,List.drop_zero,xY 80 (by omega) _ _ _ (by simp;omega),kz,bdS]
 rfl
theorem rQ{l:List Sg3}{n:Int}(h:Chn n 0 l)(hn:n≤1000)(hl:l.length≤1000):aN.f lf l=some (expand l,()):=by
 have hlen:=h.len
 have:=oO (S:=apS1 80) (l:=l) (R:=Empty) (L0:=fun n j a=>aN.l0 lf l n j a)
  (L1:=fun j y n i a=>aN.l1 lf l j n i a)
  (D:=fun z n j=>aN.l0 lf l n (i64.wrap (j+1)) z.1.1) (k1:=fun a=>((a,()),())) (e1:=fun r=>nomatch r) (k0:=fun a=>((a,()),())) (e0:=fun r=>nomatch r)
  (N:=n) (by omega) (q:=lf+40) (by have:=hb.1;omega) (by omega)
  (fun j s hs n i a=>by rw[aN.l1,aN.r1,hs,bdS,bdS,apS1,uI];simp only[kz])
  (fun n j a=>by rw[aN.l0,aN.r0])
  (fun r=>nomatch r) (fun a n j=>rfl) l.length (lf+40) 0 0 [] (by omega) (by have:=hb.1;omega) (by simpa using h) (Int.le_refl _)
 rw[aN.f]
 rw[show(((0:Nat):Int))=0 from rfl]at this
 rw[this,List.drop_zero,xY 80 (by omega) _ _ _ (by simp;omega),kz,bdS]
 rfl
end
def ofStep(i:Int)(v:V33)(out:List Sg3):List Sg3:=match out.getLast? with
 | some s=>if s.2.2.1=v then out.dropLast++[(s.1,i+1,s.2.2.1,())]else out++[(i,i+1,v,())]
 | none=>out++[(i,i+1,v,())]
def ofL:Int→List V33→List Sg3→List Sg3
 | _,[],out=>out
 | i,v::l,out=>ofL (i+1) l (ofStep i v out)
theorem zF{α:Type}(l:List α)(z:α)(h:l≠[]):l.set (l.length-1) z=l.dropLast++[z]:=by
 obtain⟨m,x,rfl⟩:∃ m x,l=m++[x]:=⟨l.dropLast,l.getLast h,(List.dropLast_concat_getLast h).symm⟩
 simp[List.set_append]
theorem ado{α:Type}(l:List α)(i:Nat)(f:α→Option α)(h:i < l.length){z:α}(hz:f l[i]=some z):upE l i f=some (l.set i z):=by
 unfold upE
 rw[List.getElem?_eq_getElem h]
 simp only[hz]
theorem last_at{α:Type}(l:List α)(h:l≠[]):l.getLast? = some (l[l.length-1]'(by have:=List.length_pos_iff.2 h;omega)):=by
 rw[List.getLast?_eq_getElem?,List.getElem?_eq_getElem (by have:=List.length_pos_iff.2 h;omega)]
theorem aah(i:Int)(v:V33)(out:List Sg3):(ofStep i v out).length≤out.length+1:=by
 unfold ofStep
 split
 ·split
  ·simp
   try omega
  ·simp
 ·simp
section
variable (lf:Nat)(hb:Big lf)
include hb
theorem aeD{l:List V33}(hl:l.length≤1000):∀ (d n j:Nat) (out:List Sg3),j+d=l.length→d < n→out.length≤j→dN.l0 lf l (l.length:Nat) n j out=some ((ofL j (l.drop j) out,()),())
 | 0,n,j,out,hd,hn,ho=>by
  obtain⟨n,rfl⟩:∃ q,n=q+1:=⟨n-1,by omega⟩
  rw[dN.l0,dN.r0,show decide ((j:Int) < ((l.length:Nat):Int))=false by simp;omega,brF,List.drop_eq_nil_of_le (by omega)]
  rfl
 | d+1,n,j,out,hd,hn,ho=>by
  obtain⟨n,rfl⟩:∃ q,n=q+1:=⟨n-1,by omega⟩
  have hj:j < l.length:=by omega
  rw[dN.l0,dN.r0,show decide ((j:Int) < ((l.length:Nat):Int))=true by simp;omega,brT,bZ l j hj,bdS,List.drop_eq_getElem_cons hj,ofL]
  have go:∀ out',out'.length≤j+1→dN.l0 lf l (l.length:Nat) n (i64.wrap ((j:Int)+1)) out'=some ((ofL ((j:Int)+1) (l.drop (j+1)) out',()),()):=fun out' h=>by
   rw[w64 (by omega) (by omega),show(j:Int)+1=((j+1:Nat):Int) by omega]
   exact aeD hl d n (j+1) out' (by omega) (by omega) h
  have hw:i64.wrap ((j:Int)+1)=(j:Int)+1:=w64 (by omega) (by omega)
  by_cases h0:out=[]
  ·subst h0
   rw[show decide (((([]:List Sg3).length:Nat):Int) > 0)=false from rfl,brF,rU 96 _ _ (by omega) (by simp),bdS,go _ (by simp),hw]
   rfl
  ·have hp:0 < out.length:=List.length_pos_iff.2 h0
   have hlast:=last_at out h0
   rw[show decide (((out.length:Nat):Int) > 0)=true by simp;omega,brT,w64 (n:=((out.length:Nat):Int)-1) (by omega) (by omega),show((out.length:Nat):Int)-1=((out.length-1:Nat):Int) by omega,bV _ _ (by omega),bdS,List.getElem?_eq_getElem (by omega),bdS,qU,bdS]
   unfold ofStep
   rw[hlast]
   simp only
   by_cases he:out[out.length-1].2.2.1=l[j]
   ·rw[decide_eq_true he,brT,if_pos he]
    rw[show cutB3 out.length ((out.length-1:Nat):Int) ((out.length:Nat):Int) ((out.length:Nat):Int)=some (out.length-1,1) by
     unfold cutB3;simp;omega,bdS]
    simp only
    rw[show idxB 1 0=some 0 from rfl,bdS,ado out (out.length-1+0) (fun y:Sg3=>some (y.1,i64.wrap ((j:Int)+1),y.2.2.1,())) (by omega) rfl,bdS,go _ (by simp;omega),hw]
    simp only[Nat.add_zero]
    rw[zF _ _ h0]
   ·rw[decide_eq_false he,brF,if_neg he,rU 96 _ _ (by omega) (by simp;omega),bdS,go _ (by simp;omega),hw]
theorem of_p{l:List V33}(hl:l.length≤1000):dN.f lf l=some (ofL 0 l [],()):=by
 rw[dN.f]
 have:=aeD lf hb hl l.length (lf+40) 0 [] (by omega) (by have:=hb.1;omega) (by simp)
 rw[show(((0:Nat):Int))=0 from rfl,List.drop_zero]at this
 rw[this,bdS]
theorem aeE{l:List V33}(hl:l.length≤1000):∀ (d n j:Nat) (out:List Sg3),j+d=l.length→d < n→out.length≤j→bT.l0 lf l n j out=some ((ofL j (l.drop j) out,()),())
 | 0,n,j,out,hd,hn,ho=>by
  obtain⟨n,rfl⟩:∃ q,n=q+1:=⟨n-1,by omega⟩
  rw[bT.l0,bT.r0,show decide ((j:Int) < ((l.length:Nat):Int))=false by simp;omega,brF,List.drop_eq_nil_of_le (by omega)]
  rfl
 | d+1,n,j,out,hd,hn,ho=>by
  obtain⟨n,rfl⟩:∃ q,n=q+1:=⟨n-1,by omega⟩
  have hj:j < l.length:=by omega
  rw[bT.l0,bT.r0,show decide ((j:Int) < ((l.length:Nat):Int))=true by simp;omega,brT,bZ l j hj,List.drop_eq_getElem_cons hj,ofL]
  have go:∀ out',out'.length≤j+1→bT.l0 lf l n (i64.wrap ((j:Int)+1)) out'=some ((ofL ((j:Int)+1) (l.drop (j+1)) out',()),()):=fun out' h=>by
   rw[w64 (by omega) (by omega),show(j:Int)+1=((j+1:Nat):Int) by omega]
   exact aeE hl d n (j+1) out' (by omega) (by omega) h
  have hw:i64.wrap ((j:Int)+1)=(j:Int)+1:=w64 (by omega) (by omega)
  by_cases h0:out=[]
  ·subst h0
   rw[show decide (((([]:List Sg3).length:Nat):Int) > 0)=false from rfl,brF,bdS,rU 96 _ _ (by omega) (by simp),bdS,go _ (by simp),hw]
   rfl
  ·have hp:0 < out.length:=List.length_pos_iff.2 h0
   have hlast:=last_at out h0
   rw[show decide (((out.length:Nat):Int) > 0)=true by simp;omega,brT,w64 (n:=((out.length:Nat):Int)-1) (by omega) (by omega),show((out.length:Nat):Int)-1=((out.length-1:Nat):Int) by omega,bV _ _ (by omega),bdS,List.getElem?_eq_getElem (by omega),bdS,bdS,qU,bdS]
   unfold ofStep
   rw[hlast]
   simp only
   by_cases he:out[out.length-1].2.2.1=l[j]
   ·rw[decide_eq_true he,brT,if_pos he,bdS,ado out (out.length-1) (fun y:Sg3=>some (y.1,i64.wrap ((j:Int)+1),y.2.2.1,())) (by omega) rfl,bdS,go _ (by simp;omega),hw,zF _ _ h0]
   ·rw[decide_eq_false he,brF,if_neg he,bdS,rU 96 _ _ (by omega) (by simp;omega),bdS,go _ (by simp;omega),hw]
theorem of_r{l:List V33}(hl:l.length≤1000):bT.f lf l=some (ofL 0 l [],()):=by
 rw[bT.f]
 have:=aeE lf hb hl l.length (lf+40) 0 [] (by omega) (by have:=hb.1;omega) (by simp)
 rw[show(((0:Nat):Int))=0 from rfl,List.drop_zero]at this
 rw[this,bdS]
end
end Go.N
namespace Go.N
open Go Go.Q Go.Rx
theorem ltd{j:Nat}{k:Nat}:decide ((j:Int) < ((k:Nat):Int))=decide (j < k):=by simp
section
variable (lf:Nat)(hb:Big lf)
include hb
theorem aaF{l:List Sg3}(hl:l.length≤40):∀ (d n j:Nat),j+d=l.length→d < n→∃ b,dM.l0 lf l n j=some (b,(),(),())∧(b=false→∀ s∈l.drop j,SmV s.2.2.1)
 | 0,n,j,hd,hn=>by
  obtain⟨n,rfl⟩:∃ q,n=q+1:=⟨n-1,by omega⟩
  refine⟨false,?_,fun _ s hs=>?_⟩
  ·rw[dM.l0,dM.r0,ltd,decide_eq_false (by omega),brF]
  ·rw[List.drop_eq_nil_of_le (by omega)]at hs;cases hs
 | d+1,n,j,hd,hn=>by
  obtain⟨n,rfl⟩:∃ q,n=q+1:=⟨n-1,by omega⟩
  have hj:j < l.length:=by omega
  obtain⟨b,b1,b2⟩:=ae2 lf l[j].2.2.1 l[j].2.2.1
  obtain⟨c,c1,c2⟩:=aaF hl d n (j+1) (by omega) (by omega)
  rw[dM.l0,dM.r0,ltd,decide_eq_true hj,brT,bZ l j hj,bdS,bdS,b1,bdS,w64 (by omega) (by omega),show(j:Int)+1=((j+1:Nat):Int) by omega,c1]
  cases b with
  | false=>exact⟨true,by rw[Bool.not_false,brT],fun h=>by cases h⟩
  | true =>
   refine⟨c,by rw[Bool.not_true,brF],fun h s hs=>?_⟩
   rw[List.drop_eq_getElem_cons hj]at hs
   rcases List.mem_cons.1 hs with rfl | hs
   ·exact(b2 rfl).1
   ·exact c2 h s hs
theorem aeB(l:List Sg3):∃ b,dM.f lf l=some (b,())∧(b=true→l.length≤40∧∀ s∈l,SmV s.2.2.1):=by
 rw[dM.f]
 by_cases h:40 < l.length
 ·exact⟨false,by rw[show decide (((l.length:Nat):Int) > 40)=true by simp;omega,brT],fun h=>by cases h⟩
 ·rw[show decide (((l.length:Nat):Int) > 40)=false by simp;omega,brF]
  obtain⟨b,b1,b2⟩:=aaF lf hb (l:=l) (by omega) l.length (lf+40) 0 (by omega) (by have:=hb.1;omega)
  rw[show((0:Nat):Int)=0 from rfl]at b1
  rw[b1,bdS]
  cases b with
  | true=>exact⟨false,by rw[brT],fun h=>by cases h⟩
  | false=>exact⟨true,by rw[brF],fun _=>⟨by omega,fun s hs=>b2 rfl s (by simpa using hs)⟩⟩
theorem ac9{l:List Sg3}(hl:l.length≤100000):∀ (d n j:Nat),j+d=l.length→d < n→dG.l0 lf l l n j=some (false,(),(),())
 | 0,n,j,hd,hn=>by
  obtain⟨n,rfl⟩:∃ q,n=q+1:=⟨n-1,by omega⟩
  rw[dG.l0,dG.r0,ltd,decide_eq_false (by omega),brF]
 | d+1,n,j,hd,hn=>by
  obtain⟨n,rfl⟩:∃ q,n=q+1:=⟨n-1,by omega⟩
  have hj:j < l.length:=by omega
  rw[dG.l0,dG.r0,ltd,decide_eq_true hj,brT,bZ l j hj,bdS,bdS,qU,bdS]
  simp only[BEq.rfl,decide_true,Bool.and_self,Bool.not_true]
  rw[brF,w64 (by omega) (by omega),show(j:Int)+1=((j+1:Nat):Int) by omega]
  exact ac9 hl d n (j+1) (by omega) (by omega)
theorem ac8(l:List Sg3)(hl:l.length≤100000):dG.f lf l l=some (true,()):=by
 rw[dG.f,show((((l.length:Nat):Int)) !=((l.length:Nat):Int))=false by simp,brF]
 have:=ac9 lf hb hl l.length (lf+40) 0 (by omega) (by have:=hb.1;omega)
 rw[show((0:Nat):Int)=0 from rfl]at this
 rw[this,bdS,brF]
omit hb in
theorem xR:∀ (l:List V33) (i:Int) (out:List Sg3),(ofL i l out).length≤out.length+l.length
 | [],i,out=>by simp[ofL]
 | v::l,i,out=>by
  rw[ofL]
  have:=xR l (i+1) (ofStep i v out)
  have:=aah i v out
  simp only[List.length_cons];omega
end
end Go.N
namespace Go.N
open Go Go.Q Go.Rx
theorem adK{v w:Vl}(hv:WfV v)(hw:WfV w)(zs:List Int)(e:v.a.em=true):widV zs v w=w:=by
 have e1:toA (widen (ofA v.a) (ofA w.a) zs)=w.a:=by
  unfold widen hull
  rw[gu hv.a,e,if_pos (.inl rfl),if_pos rfl,nZ hw.a]
 have e2:joinC v.c w.c=w.c:=by unfold joinC;rw[if_pos (by rw[←hv.em];exact e)]
 unfold widV
 rw[e1,e2,hw.red]
theorem acf{v w:Vl}(hv:WfV v)(hw:WfV w)(zs:List Int)(e:v.a.em=false)(e':w.a.em=true):widV zs v w=v:=by
 have e1:toA (widen (ofA v.a) (ofA w.a) zs)=v.a:=by
  unfold widen hull
  rw[gu hv.a,gu hw.a,e,e',if_pos (.inr rfl),if_neg (by simp),if_pos rfl,nZ hv.a]
 have e2:joinC v.c w.c=v.c:=by unfold joinC;rw[if_neg (by rw[←hv.em,e];simp),if_pos (by rw[←hw.em];exact e')]
 unfold widV
 rw[e1,e2,hv.red]
section
variable (lf:Nat)(hb:Big lf){v w:Vl}(hv:WfV v)(hw:WfV w)
include hb hv hw
theorem afn{zs:List Int}(hz:Th zs)(hl:zs.length≤1024)(hasc:bn.f lf (zs.map bz)=some (0,())):gI.f lf (vc v) (vc w) (zs.map bz)=some (vc (widV zs v w),0,()):=by
 have h3:200000≤lf:=by have:=hb.1;omega
 rw[gI.f,zO lf hb hv hw,bdS]
 simp only[bne_self_eq_false,brF]
 simp only[show(vc v).1=ac v.a from rfl,show(vc v).2.1=cc v.c from rfl,show(vc w).1=ac w.a from rfl,show(vc w).2.1=cc w.c from rfl,show(ac v.a).1=v.a.em from rfl,show(ac w.a).1=w.a.em from rfl,ael lf h3 hv.a hw.a hz hl hasc,bdS,bne_self_eq_false,brF]
 cases e:v.a.em with
 | true=>simp only[brT];rw[adK hv hw zs e]
 | false=>cases e':w.a.em with
  | true=>simp only[brT,brF];rw[acf hv hw zs e e']
  | false =>
   simp only[brF,ae8 lf hb hv.c hw.c,bdS,bne_self_eq_false,vH lf hb (uD hv.a hw.a hz).1 (qZ hv.c hw.c)]
   rfl
theorem afo{zs:List Int}(hz:Th zs)(hl:zs.length≤1024):fE.f lf (vc v) (vc w) (zs.map bz)=some (vc (widV zs v w),()):=by
 have h3:200000≤lf:=by have:=hb.1;omega
 rw[fE.f]
 simp only[show(vc v).1=ac v.a from rfl,show(vc v).2.1=cc v.c from rfl,show(vc w).1=ac w.a from rfl,show(vc w).2.1=cc w.c from rfl,zI lf h3 hv.a hw.a hz hl,acp lf hb hv.c hw.c,bdS,vw lf hb (uD hv.a hw.a hz).1 (qZ hv.c hw.c)]
 rfl
theorem top1:((cc v.c).2.1.toList==(⟨#[49]⟩:ByteArray).toList)=decide (v.c=topC):=by
 rw[i1]
 cases e:v.c.em with
 | true =>
  rw[pM e,jK]
  simp only[decide_eq_decide]
  exact⟨fun x=>absurd x.symm (jg 1),fun x=>by rw[x]at e;cases e⟩
 | false =>
  rw[kJ e,jK]
  simp only[decide_eq_decide]
  refine⟨fun x=>?_,fun x=>by rw[x];rfl⟩
  have m:=kY x
  have r:=hv.c.rng (by omega)
  rw[Cg.eta e,m,show v.c.r=0 by omega];rfl
theorem afd:iI.f lf (vc v) (vc w)=some (vc (narV v w),0,()):=by
 have h3:200000≤lf:=by have:=hb.1;omega
 rw[iI.f,zO lf hb hv hw,bdS]
 simp only[bne_self_eq_false,brF]
 simp only[show(vc v).1=ac v.a from rfl,show(vc v).2.1=cc v.c from rfl,show(vc w).1=ac w.a from rfl,show(vc w).2.1=cc w.c from rfl,acD lf h3 hv.a hw.a,bdS,bne_self_eq_false,brF,top1 lf hb hv hw]
 unfold narV
 by_cases h:v.c=topC
 ·rw[decide_eq_true h,brT,if_pos h,vH lf hb (rq hv.a hw.a) hw.c,bdS]
 ·rw[decide_eq_false h,brF,if_neg h,vH lf hb (rq hv.a hw.a) hv.c,bdS]
theorem afe:eG.f lf (vc v) (vc w)=some (vc (narV v w),()):=by
 have h3:200000≤lf:=by have:=hb.1;omega
 have t:((((cc v.c).1==false)&&(((cc v.c).2.1==(⟨#[49]⟩:ByteArray))&&(((cc v.c).2.2.1==(⟨#[48]⟩:ByteArray))&&true))))=decide (v.c=topC):=by
  rw[i1,i0]
  cases e:v.c.em with
  | true =>
   rw[pM e]
   have:¬v.c=topC:=fun x=>by rw[x]at e;cases e
   rw[decide_eq_false this];rfl
  | false =>
   rw[kJ e]
   simp only[abZ,BEq.rfl,Bool.true_and,Bool.and_true]
   rw[Bool.eq_iff_iff]
   simp only[Bool.and_eq_true,decide_eq_true_eq]
   constructor
   ·rintro ⟨x,y⟩
    rw[Cg.eta e,kY (pK x),kY (pK y)];rfl
   ·intro x;rw[x];exact⟨rfl,rfl⟩
 rw[eG.f]
 simp only[dF.f,bdS,show(vc v).1=ac v.a from rfl,show(vc v).2.1=cc v.c from rfl,show(vc w).1=ac w.a from rfl,show(vc w).2.1=cc w.c from rfl,t,xQ lf h3 hv.a hw.a]
 unfold narV
 by_cases h:v.c=topC
 ·rw[decide_eq_true h,brT,if_pos h,vw lf hb (rq hv.a hw.a) hw.c,bdS]
 ·rw[decide_eq_false h,brF,if_neg h,vw lf hb (rq hv.a hw.a) hv.c,bdS]
end
section
variable (lf:Nat)(hb:Big lf){x y:VV}(hx:SmV x)(hy:SmV y)
include hb hx hy
end
section
variable (lf:Nat)(hb:Big lf){x:VV}(hx:SmV x)
include hb hx
end
end Go.N
namespace Go.N
open Go.IntKind (i64)
open Go Go.Q Go.Rx
noncomputable def cbS (lf:Nat) (Ff:V33→V33→Option (V33×Int×Unit)) (ws:List V33) (i:Int) (v:V33) (a:List V33):Option ((Int×List V33) ⊕ List V33) :=
 bd (idxB ws.length i) fun j=>bd (ws[j]?) fun y=>bd (Ff v y) fun r=>br (r.2.1 != 0) (some (.inl (r.2.1,a))) (bd (bW.f lf r.1) fun h=>br h.1 (some (.inl (0,a))) (bd (apL true 80 a [r.1]) fun q=>some (.inr q)))
theorem vV{A R Z α:Type}(x:Option α)(f:α→Option (R ⊕ A))(e:R→Option Z)(g:A→Option Z):contS (bd x f) e g=bd x fun y=>contS (f y) e g:=by
 rw[bd_eq,bd_eq];cases x<;>rfl
theorem aak{lf:Nat}{Ff:V33→V33→Option (V33×Int×Unit)}{F:Vl→Vl→Vl}{ws:List Vl}:∀ (vs:List Vl) (k:Nat) (a:List V33),k+vs.length=ws.length→a.length+vs.length≤1000→
  (∀ v∈vs,∀ w∈ws,Ff (vc v) (vc w)=some (vc (F v w),0,()))→
  ∃ p,runE (cbS lf Ff (ws.map vc)) k (vs.map vc) a=some (if(List.zipWith F vs (ws.drop k)).any (fun v=>v.a.em)=true then .inl (0,p)else .inr (a++(List.zipWith F vs (ws.drop k)).map vc))
 | [],k,a,hk,ha,hF=>⟨[],by simp[runE]⟩
 | v::vs,k,a,hk,ha,hF=>by
  simp only[List.length_cons]at hk ha
  have hkw:k < ws.length:=by omega
  have h1:cbS lf Ff (ws.map vc) k (vc v) a=br (F v ws[k]).a.em (some (.inl (0,a))) (some (.inr (a++[vc (F v ws[k])]))):=by
   rw[cbS,List.length_map,bV _ _ hkw,bdS,List.getElem?_map,List.getElem?_eq_getElem hkw,Option.map_some,bdS,hF v (List.mem_cons_self ..) _ (List.getElem_mem hkw),bdS]
   rw[show(((vc (F v ws[k]),(0:Int),()):V33×Int×Unit).2.1 != 0)=false from rfl,brF,show bW.f lf (vc (F v ws[k]))=some ((F v ws[k]).a.em,()) from rfl,bdS,rU 80 a _ (by omega) (by simp;omega),bdS]
  rw[List.map_cons,rC,h1,List.drop_eq_getElem_cons hkw,List.zipWith_cons_cons,List.any_cons,List.map_cons]
  cases he:(F v ws[k]).a.em with
  | true=>exact⟨a,by rw[brT,qi,Bool.true_or,if_pos rfl]⟩
  | false =>
   obtain⟨p,hp⟩:=aak vs (k+1) (a++[vc (F v ws[k])]) (by omega) (by simp;omega) (fun v hv=>hF v (List.mem_cons_of_mem _ hv))
   refine⟨p,?_⟩
   rw[brF,kz,show(k:Int)+1=((k+1:Nat):Int) by omega,hp,Bool.false_or]
   simp
def cbZ(r:(Int×List V33) ⊕ List V33):Bool×(Int×List V33×Unit)×(List V33×Unit)×Unit:=match r with
 | .inl r=>(true,(r.1,r.2,()),(([],()),()))
 | .inr a=>(false,(0,[],()),((a,()),()))
theorem vW(x:Option ((Int×List V33) ⊕ List V33)):(contS x (fun r=>some (cbZ (.inl r))) fun a=>some (cbZ (.inr a)))=x.map cbZ:=by
 cases x with
 | none=>rfl
 | some x=>cases x<;>rfl
section
variable (lf:Nat)(hb:Big lf)
include hb
theorem abH{l:List Sg3}{n:Int}(ws:List V33)(h:Chn n 0 l)(hn:n≤1000)(hl:l.length≤1000):
  dX.l0 lf l (l.length:Nat) false 0 ws l (lf+40) 0 []=(runE (cbS lf (fun v w=>iI.f lf v w) ws) 0 (expand l) []).map cbZ:=by
 have:=oO (S:=cbS lf (fun v w=>iI.f lf v w) ws) (l:=l) (L0:=fun n j a=>dX.l0 lf l (l.length:Nat) false 0 ws l n j a)
  (L1:=fun j y n i a=>dX.l1 lf l (l.length:Nat) j false 0 ws l y.1 y.2.1 y.2.2.1.1.1 y.2.2.1.1.2.1 y.2.2.1.1.2.2.1 y.2.2.1.2.1.1 y.2.2.1.2.1.2.1 y.2.2.1.2.1.2.2.1 n i a)
  (D:=fun z n j=>br z.1 (some (true,(z.2.1.1,z.2.1.2.1,()),(([],()),()))) (dX.l0 lf l (l.length:Nat) false 0 ws l n (i64.wrap (j+1)) z.2.2.1.1))
  (k1:=fun a=>cbZ (.inr a)) (e1:=fun r=>cbZ (.inl r)) (k0:=fun a=>cbZ (.inr a)) (e0:=fun r=>cbZ (.inl r))
  (N:=n) (by omega) (q:=lf+40) (by have:=hb.1;omega) (by omega)
  (fun j s _ n i a=>by rw[dX.l1,dX.r1,cbS];simp only[vV,yO,qi,kz];rfl)
  (fun n j a=>by rw[dX.l0,dX.r0];rfl)
  (fun r n j=>by simp only[cbZ,brT]) (fun a n j=>by simp only[cbZ,brF]) l.length (lf+40) 0 0 [] (by omega) (by have:=hb.1;omega) (by simpa using h) (Int.le_refl _)
 rw[List.drop_zero,vW]at this
 exact this
theorem adu{l:List Sg3}{n:Int}(ts:List ByteArray)(ws:List V33)(h:Chn n 0 l)(hn:n≤1000)(hl:l.length≤1000):
  fA.l0 lf l (l.length:Nat) ts false 0 ws l (lf+40) 0 []=(runE (cbS lf (fun v w=>gI.f lf v w ts) ws) 0 (expand l) []).map cbZ:=by
 have:=oO (S:=cbS lf (fun v w=>gI.f lf v w ts) ws) (l:=l) (L0:=fun n j a=>fA.l0 lf l (l.length:Nat) ts false 0 ws l n j a)
  (L1:=fun j y n i a=>fA.l1 lf l (l.length:Nat) j ts false 0 ws l y.1 y.2.1 y.2.2.1.1.1 y.2.2.1.1.2.1 y.2.2.1.1.2.2.1 y.2.2.1.2.1.1 y.2.2.1.2.1.2.1 y.2.2.1.2.1.2.2.1 n i a)
  (D:=fun z n j=>br z.1 (some (true,(z.2.1.1,z.2.1.2.1,()),(([],()),()))) (fA.l0 lf l (l.length:Nat) ts false 0 ws l n (i64.wrap (j+1)) z.2.2.1.1))
  (k1:=fun a=>cbZ (.inr a)) (e1:=fun r=>cbZ (.inl r)) (k0:=fun a=>cbZ (.inr a)) (e0:=fun r=>cbZ (.inl r))
  (N:=n) (by omega) (q:=lf+40) (by have:=hb.1;omega) (by omega)
  (fun j s _ n i a=>by rw[fA.l1,fA.r1,cbS];simp only[vV,yO,qi,kz];rfl)
  (fun n j a=>by rw[fA.l0,fA.r0];rfl)
  (fun r n j=>by simp only[cbZ,brT]) (fun a n j=>by simp only[cbZ,brF]) l.length (lf+40) 0 0 [] (by omega) (by have:=hb.1;omega) (by simpa using h) (Int.le_refl _)
 rw[List.drop_zero,vW]at this
 exact this
end
theorem abU{α:Type}(zs vs:List α)(k:Nat)(h1:k < zs.length)(h2:k < vs.length):(zs.take k++vs.drop k).set k zs[k]=zs.take (k+1)++vs.drop (k+1):=by
 rw[List.set_append_right _ _ (by simp;omega),List.length_take,Nat.min_eq_left (by omega),Nat.sub_self,List.drop_eq_getElem_cons h2,List.set_cons_zero,show zs.take (k+1)=zs.take k++[zs[k]] by rw[List.take_append_getElem h1],List.append_assoc]
 rfl
theorem vI{L:Nat→Int→List V33→Option ((List V33×Unit)×Unit)}{Fr:V33→V33→Option (V33×Unit)}{F:Vl→Vl→Vl}{vs ws:List Vl}(hl:vs.length=ws.length)(hN:vs.length≤1000)
  (h:∀ n i x,L (n+1) i x=br (decide (i < ((x.length:Nat):Int))) (bd (idxB x.length i) fun j3=>bd (x[j3]?) fun y4=>bd (idxB (ws.map vc).length i) fun j5=>bd ((ws.map vc)[j5]?) fun y6=>bd (Fr y4 y6) fun r7 =>
   bd (idxB x.length i) fun j8=>bd (upE x j8 fun _=>some r7.1) fun q9=>L n (i64.wrap (i+1)) q9) (some ((x,()),())))
  (hF:∀ v∈vs,∀ w∈ws,Fr (vc v) (vc w)=some (vc (F v w),())):∀ (d n k:Nat),k+d=vs.length→d < n→L n k (((List.zipWith F vs ws).take k++vs.drop k).map vc)=some (((List.zipWith F vs ws).map vc,()),())
 | 0,n,k,hk,hn=>by
  obtain⟨n,rfl⟩:∃ q,n=q+1:=⟨n-1,by omega⟩
  have hz:(List.zipWith F vs ws).length=vs.length:=by simp[hl]
  have hx:((List.zipWith F vs ws).take k++vs.drop k)=List.zipWith F vs ws:=by
   rw[List.drop_eq_nil_of_le (by omega),List.append_nil,List.take_of_length_le (by omega)]
  rw[hx,h,List.length_map,ltd,decide_eq_false (by omega),brF]
 | d+1,n,k,hk,hn=>by
  obtain⟨n,rfl⟩:∃ q,n=q+1:=⟨n-1,by omega⟩
  have hz:(List.zipWith F vs ws).length=vs.length:=by simp[hl]
  have hxl:((List.zipWith F vs ws).take k++vs.drop k).length=vs.length:=by simp only[List.length_append,List.length_take,List.length_drop];omega
  have hkv:k < vs.length:=by omega
  have hx:((List.zipWith F vs ws).take k++vs.drop k)[k]? = some vs[k]:=by
   rw[List.getElem?_append_right (by simp only[List.length_take];omega),List.length_take,Nat.min_eq_left (by omega),Nat.sub_self,List.getElem?_drop,Nat.add_zero,List.getElem?_eq_getElem hkv]
  rw[h,List.length_map,hxl,ltd,decide_eq_true hkv,brT,bV _ _ hkv,bdS,List.getElem?_map,hx,Option.map_some,bdS,List.length_map,←hl,bV _ _ hkv,bdS,List.getElem?_map,List.getElem?_eq_getElem (show k < ws.length by omega),Option.map_some,bdS,
   hF _ (List.getElem_mem _) _ (List.getElem_mem _),bdS,bdS,kM _ _ _ (by rw[List.length_map,hxl];exact hkv),bdS,w64 (by omega) (by omega),show(k:Int)+1=((k+1:Nat):Int) by omega]
  have e:(List.map vc ((List.zipWith F vs ws).take k++vs.drop k)).set k (vc (F vs[k] ws[k]))=((List.zipWith F vs ws).take (k+1)++vs.drop (k+1)).map vc:=by
   rw[←abU _ _ k (by omega) hkv,List.map_set,List.getElem_zipWith]
  rw[e]
  exact vI hl hN h hF d n (k+1) (by omega) (by omega)
end Go.N
namespace Go.N
open Go Go.Q Go.Rx
theorem abJ{v w:Vl}(hv:Wf v.a)(hw:Wf w.a)(h:leqV v w=true)(e:v.a.em=false):w.a.em=false:=by
 unfold leqV at h
 rw[Bool.and_eq_true]at h
 exact aaK hv hw h.1 e
theorem any_none{F:Vl→Vl→Vl}:∀ {vs ws:List Vl},(∀ v∈vs,∀ w∈ws,(F v w).a.em=false)→(List.zipWith F vs ws).any (fun v=>v.a.em)=false
 | [],ws,h=>by simp
 | v::vs,[],h=>by simp
 | v::vs,w::ws,h=>by
  rw[List.zipWith_cons_cons,List.any_cons,h v (List.mem_cons_self ..) w (List.mem_cons_self ..),Bool.false_or]
  exact any_none fun v hv w hw=>h v (List.mem_cons_of_mem _ hv) w (List.mem_cons_of_mem _ hw)
section
variable (lf:Nat)(hb:Big lf)
include hb
theorem vO{l m:List Sg3}{n:Int}(hl:l.length≤1000)(hm:m.length≤1000)(hs:∀ s∈l,SmV s.2.2.1)(ht:∀ s∈m,SmV s.2.2.1):
  ∃ e:Int,jh.f lf l m n=some (e,())∧fM.f lf l m n=some (e,())∧(e=0→Right l n∧Right m n):=by
 obtain⟨a1,a2,a3⟩:=uG lf hb (n:=n) hs hl
 obtain⟨b1,b2,b3⟩:=uG lf hb (n:=n) ht hm
 rw[jh.f,fM.f,a1,a2]
 simp only[b1,b2,bdS]
 by_cases h:ckN lf l n=0
 ·refine⟨ckN lf m n,?_,?_,fun e=>⟨a3.1 h,b3.1 e⟩⟩<;>rw[show((ckN lf l n,()).1 != 0)=false by simpa using h,brF]
 ·refine⟨ckN lf l n,?_,?_,fun e=>absurd e h⟩<;>rw[show((ckN lf l n,()).1 != 0)=true by simpa using h,brT]
theorem abe{l:List Vl}(hl:l.length≤1000):∀ (d n j:Nat),j+d=l.length→d < n→dn.l0 lf (l.map vc) n j=some ((l.drop j).any (fun v=>v.a.em),(),(),())
 | 0,n,j,hd,hn=>by
  obtain⟨n,rfl⟩:∃ q,n=q+1:=⟨n-1,by omega⟩
  rw[dn.l0,dn.r0,List.length_map,ltd,decide_eq_false (by omega),brF,List.drop_eq_nil_of_le (by omega)];rfl
 | d+1,n,j,hd,hn=>by
  obtain⟨n,rfl⟩:∃ q,n=q+1:=⟨n-1,by omega⟩
  have hj:j < l.length:=by omega
  rw[dn.l0,dn.r0,List.length_map,ltd,decide_eq_true hj,brT,bZ _ j (by simpa using hj),bdS,List.getElem_map,show dA.f lf (vc l[j])=some (l[j].a.em,()) from rfl,bdS,w64 (by omega) (by omega),show(j:Int)+1=((j+1:Nat):Int) by omega,abe hl d n (j+1) (by omega) (by omega),List.drop_eq_getElem_cons hj,List.any_cons]
  cases l[j].a.em with
  | true=>rw[brT,Bool.true_or]
  | false=>rw[brF,Bool.false_or]
theorem aej{l:List Vl}(hl:l.length≤1000):dn.f lf (l.map vc)=some (if l.any (fun v=>v.a.em)=true then([],false,())else(ofL 0 (l.map vc) [],true,())):=by
 have:=abe lf hb hl l.length (lf+40) 0 (by omega) (by have:=hb.1;omega)
 rw[show((0:Nat):Int)=0 from rfl,List.drop_zero]at this
 rw[dn.f,this,bdS,of_r lf hb (by simpa using hl),bdS]
 cases l.any (fun v=>v.a.em)with
 | true=>rw[brT,if_pos rfl]
 | false=>rw[brF,if_neg (by simp)]
end
section
variable (lf:Nat)(hb:Big lf)
include hb
end
end Go.N
namespace Go.N
open Go Go.Q Go.Rx
section
variable (lf:Nat)(hb:Big lf)
include hb
theorem adL(b:ByteArray):∃ c,fZ.f lf b=some (c,())∧(c=true→b.data.toList.length≤1000):=by
 refine⟨_,rfl,fun h=>?_⟩
 have h:=of_decide_eq_true h
 rw[Lib.size_eq]at h;omega
theorem ach{l:List ByteArray}(hl:l.length≤40):∀ (d n j:Nat),j+d=l.length→d < n→∃ z,dY.l0 lf l (l.length:Nat) n j=some z∧(z.1=true→0≤z.2.1.1)∧(z.1=false→∀ b∈l.drop j,b.data.toList.length≤1000)
 | 0,n,j,hd,hn=>by
  obtain⟨n,rfl⟩:∃ q,n=q+1:=⟨n-1,by omega⟩
  refine⟨(false,(0,()),(),()),?_,fun h=>(by cases h),fun _ s hs=>?_⟩
  ·rw[dY.l0,dY.r0,ltd,decide_eq_false (by omega),brF]
  ·rw[List.drop_eq_nil_of_le (by omega)]at hs;cases hs
 | d+1,n,j,hd,hn=>by
  obtain⟨n,rfl⟩:∃ q,n=q+1:=⟨n-1,by omega⟩
  have hj:j < l.length:=by omega
  obtain⟨b,b1,b2⟩:=adL lf hb l[j]
  obtain⟨c,c1,c2,c3⟩:=ach hl d n (j+1) (by omega) (by omega)
  have hf:gZ.f lf l[j]=some (!b,()):=by rw[gZ.f,b1,bdS]
  rw[dY.l0,dY.r0,ltd,decide_eq_true hj,brT,bZ l j hj,bdS,hf,bdS,w64 (by omega) (by omega),show(j:Int)+1=((j+1:Nat):Int) by omega,c1]
  cases b with
  | false=>exact⟨(true,(j,()),(),()),by rw[Bool.not_false,brT],fun _=>by simp,fun h=>by cases h⟩
  | true =>
   refine⟨c,by rw[Bool.not_true,brF],c2,fun h s hs=>?_⟩
   rw[List.drop_eq_getElem_cons hj]at hs
   rcases List.mem_cons.1 hs with rfl | hs
   ·exact b2 rfl
   ·exact c3 h s hs
theorem fewI(l:List ByteArray):∃ b,dY.f lf l=some (b,())∧(b=true→l.length≤40∧∀ s∈l,s.data.toList.length≤1000):=by
 rw[dY.f]
 by_cases h:l.length≤40
 ·rw[show decide (((l.length:Nat):Int)≤40)=true by simp;omega,brT]
  obtain⟨z,b1,b2,b3⟩:=ach lf hb (l:=l) h l.length (lf+40) 0 (by omega) (by have:=hb.1;omega)
  rw[show((0:Nat):Int)=0 from rfl]at b1
  rw[b1,bdS]
  cases hz:z.1 with
  | true=>exact⟨_,by rw[brT],fun h=>by
    have:=b2 hz
    rw[show decide (z.2.1.1≥0)=true by simpa using this]at h;cases h⟩
  | false=>exact⟨true,by rw[brF],fun _=>⟨h,fun s hs=>b3 hz s (by simpa using hs)⟩⟩
 ·exact⟨false,by rw[show decide (((l.length:Nat):Int)≤40)=false by simp;omega,brF],fun h=>by cases h⟩
theorem aek{zs:List Int}(hz:Th zs){v w:Vl}(hv:WfV v)(hw:WfV w)(e:v.a.em=false):(widV zs v w).a.em=false:=abJ hv.a (afm hv hw hz).a (acz hv hw hz) e
theorem aem{l m:List Sg3}{n:Int}{ts:List ByteArray}(hl:l.length≤1000)(hm:m.length≤1000)(hs:∀ s∈l,SmV s.2.2.1)(ht:∀ s∈m,SmV s.2.2.1)(htl:ts.length≤40)(hts:∀ b∈ts,b.data.toList.length≤1000):
  ∃ r:List Sg3×Int×Unit,fA.f lf l m n ts=some r∧jf.f lf l m n ts=some r∧r.1.length≤1000:=by
 have h3:200000≤lf:=by have:=hb.1;omega
 obtain⟨e,e1,e2,e3⟩:=vO lf hb (n:=n) hl hm hs ht
 obtain⟨t,t1,t2,t3⟩:=adl lf h3 ts (by omega) (fun b hb'=>by have:=hts b hb';exact⟨by show b.data.toList.length≤_;omega,by show b.data.toList.length≤_;omega⟩)
 rw[fA.f,jf.f,e1,e2,bdS,bdS,t2]
 by_cases h:e=0
 ·obtain⟨hR,hR'⟩:=e3 h
  subst h
  obtain⟨vs,v1,v2,v3⟩:=hR.vals
  obtain⟨ws,w1,w2,w3⟩:=hR'.vals
  have hn:=hR.n2
  have hn1:=hR.n1
  have hlen:vs.length=ws.length:=by omega
  rw[show(((0:Int),()).1 != 0)=false from rfl,brF,brF,zH lf hb hR'.rs.chn (by omega) hm,bdS,bdS,w1,adu lf hb (n:=n) ts (ws.map vc) hR.rs.chn (by omega) hl,v1]
  by_cases h0:t=0
  ·obtain⟨zs,rfl,hz,hzl,_⟩:=t3 h0
   subst h0
   have hF:∀ v∈vs,∀ w∈ws,gI.f lf (vc v) (vc w) (zs.map bz)=some (vc (widV zs v w),0,()):=fun v hv w hw=>afn lf hb (v2 v hv).1 (w2 w hw).1 hz hzl t1
   obtain⟨p,hp⟩:=aak (lf:=lf) (Ff:=fun v w=>gI.f lf v w (zs.map bz)) (F:=widV zs) (ws:=ws) vs 0 [] (by omega) (by simp;omega) hF
   rw[show((0:Nat):Int)=0 from rfl,List.drop_zero,any_none fun v hv w hw=>aek lf hb hz (v2 v hv).1 (w2 w hw).1 (v2 v hv).2,if_neg (by simp)]at hp
   have hzz:=vI (L:=fun n i x=>fF.l0 lf (zs.map bz) (ws.map vc) n i x) (Fr:=fun v w=>fE.f lf v w (zs.map bz)) (F:=widV zs) (vs:=vs) (ws:=ws) hlen (by omega)
    (fun n i x=>by rw[fF.l0,fF.r0]) (fun v hv w hw=>afo lf hb (v2 v hv).1 (w2 w hw).1 hz hzl) vs.length (lf+40) 0 (by omega) (by have:=hb.1;omega)
   rw[List.take_zero,List.nil_append,List.drop_zero,show((0:Nat):Int)=0 from rfl]at hzz
   have hz1:((List.zipWith (widV zs) vs ws).map vc).length≤1000:=by simp;omega
   refine⟨(ofL 0 ((List.zipWith (widV zs) vs ws).map vc) [],0,()),?_,?_,by have:=xR ((List.zipWith (widV zs) vs ws).map vc) 0 [];simp at this hz1⊢;omega⟩
   ·rw[hp]
    simp only[Option.map_some,bdS,cbZ,brF,List.nil_append,of_p lf hb hz1]
   ·rw[show(((0:Int),()).1 != 0)=false from rfl,brF,fF.f,rQ lf hb hR.rs.chn (by omega) hl,rQ lf hb hR'.rs.chn (by omega) hm,bdS,bdS,v1,w1]
    simp only[hzz,bdS,of_r lf hb hz1]
  ·obtain⟨v,vs',rfl⟩:∃ v vs',vs=v::vs':=by
    cases vs with
    | nil=>simp at v3;omega
    | cons v vs'=>exact⟨v,vs',rfl⟩
   obtain⟨w,ws',rfl⟩:∃ w ws',ws=w::ws':=by
    cases ws with
    | nil=>simp at hlen
    | cons w ws'=>exact⟨w,ws',rfl⟩
   obtain⟨hv,_⟩:=v2 v (List.mem_cons_self ..)
   obtain⟨hw,_⟩:=w2 w (List.mem_cons_self ..)
   have hwe:gI.f lf (vc v) (vc w) ts=some (((false,bs [],bs [],()),(false,bs [],bs [],()),()),t,()):=by
    rw[gI.f,zO lf hb hv hw,bdS]
    simp only[bne_self_eq_false,brF]
    rw[aW.f]
    simp only[show(vc v).1=ac v.a from rfl,show(vc w).1=ac w.a from rfl,mg lf h3 hv.a,mg lf h3 hw.a,bdS,bne_self_eq_false,brF,t1,bneT h0,brT]
   have hs1:cbS lf (fun v w=>gI.f lf v w ts) ((w::ws').map vc) 0 (vc v) []=some (.inl (t,[])):=by
    rw[cbS,show idxB ((w::ws').map vc).length 0=some 0 from bV _ 0 (by simp),bdS,List.map_cons,List.getElem?_cons_zero,bdS,hwe,bdS,bneT h0,brT]
   refine⟨([],t,()),?_,by rw[bneT h0,brT],by simp⟩
   rw[show List.map vc (v::vs')=vc v::List.map vc vs' from rfl,rC,hs1,qi]
   simp only[Option.map_some,bdS,cbZ,brT]
 ·rw[show((e,()).1 != 0)=true by simpa using h,brT,brT]
  exact⟨_,rfl,rfl,by simp⟩
theorem acE{l m:List Sg3}{n:Int}(hl:l.length≤1000)(hm:m.length≤1000)(hs:∀ s∈l,SmV s.2.2.1)(ht:∀ s∈m,SmV s.2.2.1):
  ∃ r:List Sg3×Bool×Int×Unit,dX.f lf l m n=some r∧iP.f lf l m n=some r∧r.1.length≤1000:=by
 obtain⟨e,e1,e2,e3⟩:=vO lf hb (n:=n) hl hm hs ht
 rw[dX.f,iP.f,e1,e2,bdS,bdS]
 by_cases h:e=0
 ·obtain⟨hR,hR'⟩:=e3 h
  subst h
  obtain⟨vs,v1,v2,v3⟩:=hR.vals
  obtain⟨ws,w1,w2,w3⟩:=hR'.vals
  have hn:=hR.n2
  have hlen:vs.length=ws.length:=by omega
  have hF:∀ v∈vs,∀ w∈ws,iI.f lf (vc v) (vc w)=some (vc (narV v w),0,()):=fun v hv w hw=>afd lf hb (v2 v hv).1 (w2 w hw).1
  obtain⟨p,hp⟩:=aak (lf:=lf) (Ff:=fun v w=>iI.f lf v w) (F:=narV) (ws:=ws) vs 0 [] (by omega) (by simp;omega) hF
  rw[show((0:Nat):Int)=0 from rfl,List.drop_zero]at hp
  have hz:=vI (L:=fun n i x=>eH.l0 lf (ws.map vc) n i x) (Fr:=fun v w=>eG.f lf v w) (F:=narV) (vs:=vs) (ws:=ws) hlen (by omega)
   (fun n i x=>by rw[eH.l0,eH.r0]) (fun v hv w hw=>afe lf hb (v2 v hv).1 (w2 w hw).1) vs.length (lf+40) 0 (by omega) (by have:=hb.1;omega)
  rw[List.take_zero,List.nil_append,List.drop_zero,show((0:Nat):Int)=0 from rfl]at hz
  have hz0:(List.zipWith narV vs ws).length≤1000:=by simp;omega
  have hz1:((List.zipWith narV vs ws).map vc).length≤1000:=by simpa using hz0
  rw[show(((0:Int),()).1 != 0)=false from rfl,brF,brF,zH lf hb hR'.rs.chn (by omega) hm,bdS,w1,abH lf hb (n:=n) (ws.map vc) hR.rs.chn (by omega) hl,v1,hp,
   eH.f,rQ lf hb hR.rs.chn (by omega) hl,rQ lf hb hR'.rs.chn (by omega) hm,bdS,bdS,v1,w1,hz]
  simp only[bdS,aej lf hb hz0]
  cases (List.zipWith narV vs ws).any (fun v=>v.a.em)with
  | true=>exact⟨([],false,0,()),by simp only[if_true,Option.map_some,bdS,cbZ,brT],by simp only[if_true],by simp⟩
  | false =>
   refine⟨(ofL 0 ((List.zipWith narV vs ws).map vc) [],true,0,()),by simp only[Bool.false_eq_true,if_false,Option.map_some,bdS,cbZ,brF,List.nil_append,of_p lf hb hz1],by simp only[Bool.false_eq_true,if_false],?_⟩
   have:=xR ((List.zipWith narV vs ws).map vc) 0 [];simp at this hz0⊢;omega
 ·rw[show((e,()).1 != 0)=true by simpa using h,brT,brT]
  exact⟨_,rfl,rfl,by simp⟩
end
end Go.N
namespace Go.N
open Go Go.Q
theorem adE(lf:Nat):fP.f lf=some (true,()):=by kernel_rfl
end Go.N
namespace Go.Q
open Go Go.RowKit Go.ChangeShapes Go.WideShapes
def flat:Ty→Bool
 | .sl _=>false
 | .pair a b=>flat a&&flat b
 | _=>true
def partsOf(P:Program)(t:TypeId):List (TypeId×Nat):=match P.underlying t with
 | some (.struct fs)=>fs.toList.map fun f=>(f.type,f.offset)
 | some (.array n e)=>(List.range n).map fun i=>(e,i*P.cellsOf e)
 | _=>[]
mutual
def fitT(P:Program):Ty→TypeId→Bool
 | .int k,t=>match P.underlying t with
  | some (.int k')=>decide (k'=k)
  | _=>false
 | .bool,t=>match P.underlying t with
  | some .bool=>true
  | _=>false
 | .str,t=>match P.underlying t with
  | some .string=>true
  | _=>false
 | .unit,_=>false
 | .nul,_=>false
 | .rc _,_=>false
 | .pair a b,t=>match partsOf P t with
  | p::r=>p.2==0&&(fitT P a p.1&&(P.cellsOf p.1==a.n&&(fitL P b r a.n&&P.cellsOf t==a.n+b.n)))
  | []=>false
 | .sl e,t=>match P.underlying t with
  | some (.slice e')=>fitT P e e'&&(flat e&&P.cellsOf e'==e.n)
  | _=>false
def fitL(P:Program):Ty→List (TypeId×Nat)→Nat→Bool
 | .unit,l,_=>match l with
  | []=>true
  | _=>false
 | .pair a b,l,k=>match l with
  | p::r=>p.2==k&&(fitT P a p.1&&(P.cellsOf p.1==a.n&&fitL P b r (k+a.n)))
  | []=>false
 | _,_,_=>false
end
def Bnd:(T:Ty)→T.α→Prop
 | .int k,x=>k.min≤x∧x≤k.max
 | .str,x=>x.size≤9223372036854775807
 | .pair a b,x=>Bnd a x.1∧Bnd b x.2
 | .sl e,l=>l.length≤9223372036854775807∧∀ y∈l,Bnd e y
 | _,_=>True
def Bnds:(ps:List Ty)→Tys ps→Prop
 | [],_=>True
 | t::ts,x=>Bnd t x.1∧Bnds ts x.2
section
variable {H:Type}{enc:TypeId×Value→H}{P:Program}{w:World}{F:Nat→Prop}{sp:Nat→Bool}{held:Bool}
theorem vF{t:TypeId}{fuel:Nat}{cs:List Value}{x:DataW H×List MemPlace}(hp:partsOf P t≠[])(h:DataW.trod enc P w 0 sp held fuel t cs=some x):
  cs.length=P.cellsOf t∧∃ n,∀ p∈partsOf P t,∃ y,DataW.trod enc P w 0 sp held n p.1 ((cs.drop p.2).take (P.cellsOf p.1))=some y:=by
 unfold partsOf at hp⊢
 split at hp
 ·rename_i fs hu
  obtain⟨xs,n,_,_,hl,hxl,hf⟩:=DataW.trod_struct hu h
  refine⟨hl,n,fun p hm=>?_⟩
  simp only[List.mem_map]at hm
  obtain⟨f,hfm,rfl⟩:=hm
  obtain⟨i,hi,he⟩:=List.mem_iff_getElem.1 hfm
  have h1:fs[i]? = some f:=by
   have:fs.toList[i]? = some f:=by rw[List.getElem?_eq_getElem hi,he]
   simpa using this
  have h2:i < xs.length:=by
   rw[hxl];simpa using hi
  exact⟨xs[i],by rw[hf i f h1,List.getElem?_eq_getElem h2]⟩
 ·rename_i n e hu
  obtain⟨xs,m,_,_,hl,hxl,hf⟩:=DataW.trod_array hu h
  refine⟨hl,m,fun p hm=>?_⟩
  simp only[List.mem_map,List.mem_range]at hm
  obtain⟨i,hi,rfl⟩:=hm
  exact⟨xs[i],by rw[hf i hi,List.getElem?_eq_getElem (by omega)]⟩
 ·exact absurd rfl hp
mutual
theorem lW:∀ (T:Ty) (t:TypeId) (cs:List Value) (x:DataW H×List MemPlace) (fuel:Nat),flat T=true→fitT P T t=true→DataW.trod enc P w 0 sp held fuel t cs=some x→∃ y:T.α,DR F w T y cs∧Bnd T y
 | .int k,t,cs,x,fuel,_,hf,h=>by
  unfold fitT at hf
  split at hf
  ·rename_i k' hu
   obtain rfl:k'=k:=by simpa using hf
   obtain⟨n,rfl,_,hw⟩:=DataW.trod_int hu h
   exact⟨n,rfl,by simpa [Lit.wf,Bnd]using hw⟩
  ·cases hf
 | .bool,t,cs,x,fuel,_,hf,h=>by
  unfold fitT at hf
  split at hf
  ·rename_i hu
   obtain⟨b,rfl,_⟩:=DataW.trod_bool hu h
   exact⟨b,rfl,trivial⟩
  ·cases hf
 | .str,t,cs,x,fuel,_,hf,h=>by
  unfold fitT at hf
  split at hf
  ·rename_i hu
   obtain⟨s,rfl,_,hs⟩:=DataW.trod_string hu h
   exact⟨s,rfl,by simpa [maxLen,Bnd]using hs⟩
  ·cases hf
 | .unit,t,cs,x,fuel,_,hf,h=>by simp[fitT]at hf
 | .nul,t,cs,x,fuel,_,hf,h=>by simp[fitT]at hf
 | .rc _,t,cs,x,fuel,_,hf,h=>by simp[fitT]at hf
 | .sl e,t,cs,x,fuel,hfl,_,_=>by simp[flat]at hfl
 | .pair a b,t,cs,x,fuel,hfl,hf,h=>by
  unfold fitT at hf
  split at hf
  ·rename_i p r hp
   simp only[Bool.and_eq_true,beq_iff_eq]at hf
   obtain⟨h0,h1,h2,h3,h4⟩:=hf
   simp only[flat,Bool.and_eq_true]at hfl
   obtain⟨hl,n,hm⟩:=vF (by rw[hp];simp) h
   rw[hp]at hm
   obtain⟨y0,hy0⟩:=hm p (by simp)
   rw[h0,h2]at hy0
   obtain⟨u,d1,b1⟩:=lW a p.1 _ _ n hfl.1 h1 hy0
   obtain⟨v,d2,b2⟩:=yR b r a.n cs n hfl.2 h3 (fun q hq=>hm q (by simp[hq])) (by omega)
   refine⟨(u,v),⟨_,_,?_,d1,d2⟩,b1,b2⟩
   have e:(cs.drop a.n).take b.n=cs.drop a.n:=List.take_of_length_le (by rw[List.length_drop];omega)
   rw[e];simp
  ·cases hf
theorem yR:∀ (T:Ty) (l:List (TypeId×Nat)) (k:Nat) (cs:List Value) (n:Nat),flat T=true→fitL P T l k=true→(∀ p∈l,∃ y,DataW.trod enc P w 0 sp held n p.1 ((cs.drop p.2).take (P.cellsOf p.1))=some y)→k+T.n≤cs.length→∃ y:T.α,DR F w T y ((cs.drop k).take T.n)∧Bnd T y
 | .int k',l,k,cs,n,_,hf,_,_=>by simp[fitL]at hf
 | .bool,l,k,cs,n,_,hf,_,_=>by simp[fitL]at hf
 | .str,l,k,cs,n,_,hf,_,_=>by simp[fitL]at hf
 | .nul,l,k,cs,n,_,hf,_,_=>by simp[fitL]at hf
 | .rc _,l,k,cs,n,_,hf,_,_=>by simp[fitL]at hf
 | .sl _,l,k,cs,n,_,hf,_,_=>by simp[fitL]at hf
 | .unit,l,k,cs,n,_,hf,_,_=>⟨(),by simp[DR,Ty.n],trivial⟩
 | .pair a b,l,k,cs,n,hfl,hf,hm,hk=>by
  unfold fitL at hf
  split at hf
  ·rename_i p r
   simp only[Bool.and_eq_true,beq_iff_eq]at hf
   obtain⟨h0,h1,h2,h3⟩:=hf
   simp only[flat,Bool.and_eq_true]at hfl
   simp only[Ty.n]at hk
   obtain⟨y0,hy0⟩:=hm p (by simp)
   rw[h0,h2]at hy0
   obtain⟨u,d1,b1⟩:=lW a p.1 _ _ n hfl.1 h1 hy0
   obtain⟨v,d2,b2⟩:=yR b r (k+a.n) cs n hfl.2 h3 (fun q hq=>hm q (by simp[hq])) (by omega)
   refine⟨(u,v),⟨_,_,?_,d1,d2⟩,b1,b2⟩
   simp only[Ty.n]
   rw[List.take_add,List.drop_drop]
  ·cases hf
end
theorem xJ{α:Type}{R:Nat→α→Prop}:∀ (n:Nat),(∀ i,i < n→∃ y,R i y)→∃ l:List α,l.length=n∧∀ (i:Nat) (y:α),l[i]? = some y→R i y
 | 0,_=>⟨[],rfl,fun i y h=>by simp at h⟩
 | n+1,h=>by
  obtain⟨l,hl,hr⟩:=xJ n fun i hi=>h i (by omega)
  obtain⟨y,hy⟩:=h n (by omega)
  refine⟨l++[y],by simp[hl],fun i z hz=>?_⟩
  by_cases hi:i < l.length
  ·rw[List.getElem?_append_left hi]at hz;exact hr i z hz
  ·rw[List.getElem?_append_right (by omega)]at hz
   have:i=l.length:=by
    by_cases e:i-l.length=0
    ·omega
    ·obtain⟨q,hq⟩:=Nat.exists_eq_succ_of_ne_zero e
     rw[hq]at hz;simp at hz
   subst this
   simp only[Nat.sub_self,List.getElem?_cons_zero,Option.some.injEq]at hz
   subst hz;rw[hl];exact hy
def topS:Ty→Bool
 | .sl e=>flat e
 | .pair a b=>topS a&&topS b
 | T=>flat T
def topOK:Ty→Bool
 | .sl e=>flat e
 | T=>topS T
theorem qV(b o n:Nat):(Addr.add ⟨b,o,none⟩ n)=⟨b,o+n,none⟩:=by
 unfold Addr.add;split
 ·rename_i h;rw[h];rfl
 ·rfl
theorem wz{i:Nat}{q:TypeId×Nat}(h:w.shape? i=some q):IsC w i:=by
 unfold World.shape? at h
 unfold IsC
 cases hb:w.heap[i]? with
 | none=>rw[hb]at h;simp at h
 | some o=>cases o<;>rw[hb]at h<;>simp_all
def SlOK(w:World)(v:Value):Prop:=∀ a len cap,v=.slice (some a) len cap→a.spot=none∧IsC w a.block
theorem abS{base:Nat}{u:TypeId}{v:Value}(h:Cell.okWide P w .any base u v):SlOK w v:=by
 rintro a len cap rfl
 cases hu:P.underlying u with
 | none=>simp[Cell.okWide,Cell.ok,hu]at h
 | some d =>
  cases d<;>simp only[Cell.okWide,Cell.ok,hu]at h
  case slice e =>
   obtain⟨_,hspot,row,cells,hsh,_⟩:=h.2.2
   exact⟨hspot,wz hsh⟩
mutual
theorem zT:∀ (T:Ty) (t:TypeId) (cs:List Value) (x:DataW H×List MemPlace) (fuel:Nat),topS T=true→fitT P T t=true→(∀ v∈cs,SlOK w v)→DataW.trod enc P w 0 sp held fuel t cs=some x→∃ y:T.α,DR (IsC w) w T y cs∧Bnd T y
 | .int k,t,cs,x,fuel,_,hf,_,h=>lW (.int k) t cs x fuel rfl hf h
 | .bool,t,cs,x,fuel,_,hf,_,h=>lW .bool t cs x fuel rfl hf h
 | .str,t,cs,x,fuel,_,hf,_,h=>lW .str t cs x fuel rfl hf h
 | .unit,t,cs,x,fuel,_,hf,_,h=>by simp[fitT]at hf
 | .nul,t,cs,x,fuel,_,hf,_,h=>by simp[fitT]at hf
 | .rc _,t,cs,x,fuel,_,hf,_,h=>by simp[fitT]at hf
 | .sl e,t,cs,x,fuel,_,hf,hok,h=>by
  unfold fitT at hf
  split at hf
  ·rename_i e' hu
   simp only[Bool.and_eq_true,beq_iff_eq]at hf
   obtain⟨h1,h2,h3⟩:=hf
   rcases DataW.trod_slice hu h with⟨hc,_⟩ | ⟨a',len',cap',elems,rest,n,_,hc,_,_,hle,hcm,hel,hread,_⟩
   ·subst hc
    exact⟨[],⟨_,rfl,.inl ⟨rfl,rfl⟩⟩,by simp[Bnd]⟩
   ·subst hc
    obtain⟨hspot,hisc⟩:=hok _ (List.mem_cons_self ..) a' len' cap' rfl
    obtain⟨b,o,s⟩:=a'
    simp only at hspot hisc;subst hspot
    obtain⟨l,hl,hr⟩:=xJ (α:=e.α) (R:=fun i y=>(∃ ds:List Value,DR (IsC w) w e y ds∧∀ (j:Nat) (d:Value),ds[j]? = some d→w.cell? ⟨b,o+(i*e.n+j),none⟩=some d)∧Bnd e y) len' fun i hi=>by
     have hq:=hread i hi
     rw[List.getElem?_eq_getElem (by omega),Option.bind_eq_some_iff]at hq
     obtain⟨cs,c1,c2⟩:=hq
     obtain⟨y,k1,k2⟩:=lW (F:=IsC w) e e' cs _ n h2 h1 c2
     refine⟨y,⟨cs,k1,fun j d' hd=>?_⟩,k2⟩
     obtain⟨_,m1,m2⟩:=World.cells?_some c1
     have hj:j < cs.length:=(List.getElem?_eq_some_iff.1 hd).1
     have:=m2 j (by omega)
     rw[qV,qV,h3]at this
     rw[←Nat.add_assoc,this];exact hd
    refine⟨l,⟨_,rfl,.inr ⟨b,o,cap',by rw[hl],hisc,by omega,fun i x hx=>(hr i x hx).1⟩⟩,?_,?_⟩
    ·rw[hl];simp only[maxLen]at hcm;omega
    ·intro y hy
     obtain⟨i,hi,he⟩:=List.mem_iff_getElem.1 hy
     exact(hr i y (by rw[List.getElem?_eq_getElem hi,he])).2
  ·cases hf
 | .pair a b,t,cs,x,fuel,hfl,hf,hok,h=>by
  unfold fitT at hf
  split at hf
  ·rename_i p r hp
   simp only[Bool.and_eq_true,beq_iff_eq]at hf
   obtain⟨h0,h1,h2,h3,h4⟩:=hf
   simp only[topS,Bool.and_eq_true]at hfl
   obtain⟨hl,n,hm⟩:=vF (by rw[hp];simp) h
   rw[hp]at hm
   obtain⟨y0,hy0⟩:=hm p (by simp)
   rw[h0,h2]at hy0
   obtain⟨u,d1,b1⟩:=zT a p.1 _ _ n hfl.1 h1 (fun v hv=>hok v (List.mem_of_mem_drop (List.mem_of_mem_take hv))) hy0
   obtain⟨v,d2,b2⟩:=aaB b r a.n cs n hfl.2 h3 hok (fun q hq=>hm q (by simp[hq])) (by omega)
   refine⟨(u,v),⟨_,_,?_,d1,d2⟩,b1,b2⟩
   have e:(cs.drop a.n).take b.n=cs.drop a.n:=List.take_of_length_le (by rw[List.length_drop];omega)
   rw[e];simp
  ·cases hf
theorem aaB:∀ (T:Ty) (l:List (TypeId×Nat)) (k:Nat) (cs:List Value) (n:Nat),topS T=true→fitL P T l k=true→(∀ v∈cs,SlOK w v)→(∀ p∈l,∃ y,DataW.trod enc P w 0 sp held n p.1 ((cs.drop p.2).take (P.cellsOf p.1))=some y)→k+T.n≤cs.length→∃ y:T.α,DR (IsC w) w T y ((cs.drop k).take T.n)∧Bnd T y
 | .int k',l,k,cs,n,_,hf,_,_,_=>by simp[fitL]at hf
 | .bool,l,k,cs,n,_,hf,_,_,_=>by simp[fitL]at hf
 | .str,l,k,cs,n,_,hf,_,_,_=>by simp[fitL]at hf
 | .nul,l,k,cs,n,_,hf,_,_,_=>by simp[fitL]at hf
 | .rc _,l,k,cs,n,_,hf,_,_,_=>by simp[fitL]at hf
 | .sl _,l,k,cs,n,_,hf,_,_,_=>by simp[fitL]at hf
 | .unit,l,k,cs,n,_,hf,_,_,_=>⟨(),by simp[DR,Ty.n],trivial⟩
 | .pair a b,l,k,cs,n,hfl,hf,hok,hm,hk=>by
  unfold fitL at hf
  split at hf
  ·rename_i p r
   simp only[Bool.and_eq_true,beq_iff_eq]at hf
   obtain⟨h0,h1,h2,h3⟩:=hf
   simp only[topS,Bool.and_eq_true]at hfl
   simp only[Ty.n]at hk
   obtain⟨y0,hy0⟩:=hm p (by simp)
   rw[h0,h2]at hy0
   obtain⟨u,d1,b1⟩:=zT a p.1 _ _ n hfl.1 h1 (fun v hv=>hok v (List.mem_of_mem_drop (List.mem_of_mem_take hv))) hy0
   obtain⟨v,d2,b2⟩:=aaB b r (k+a.n) cs n hfl.2 h3 hok (fun q hq=>hm q (by simp[hq])) (by omega)
   refine⟨(u,v),⟨_,_,?_,d1,d2⟩,b1,b2⟩
   simp only[Ty.n]
   rw[List.take_add,List.drop_drop]
  ·cases hf
end
theorem yC{T:Ty}{t:TypeId}{v:Value}{d:DataW H}{p:List MemPlace}{base:Nat}(ht:topOK T=true)(hf:fitT P T t=true)(hv:Value.okWide P w .any base t v)(h:DataW.Trod enc P w 0 sp held t v d p):∃ y:T.α,ValR (IsC w) w T y v∧Bnd T y:=by
 obtain⟨fuel,h⟩:=h
 unfold ValR
 cases T with
 | int k =>
  obtain⟨y,h1,h2⟩:=lW (F:=IsC w) (.int k) t _ _ fuel rfl hf h
  unfold fitT at hf
  split at hf
  ·rename_i k' hu
   obtain⟨n,rfl⟩:=okWide_int hu hv
   exact⟨y,by rw[if_neg (by simp[isSt])];simpa [Value.cells]using h1,h2⟩
  ·cases hf
 | bool =>
  obtain⟨y,h1,h2⟩:=lW (F:=IsC w) .bool t _ _ fuel rfl hf h
  unfold fitT at hf
  split at hf
  ·rename_i hu
   obtain⟨n,rfl⟩:=okWide_bool hu hv
   exact⟨y,by rw[if_neg (by simp[isSt])];simpa [Value.cells]using h1,h2⟩
  ·cases hf
 | str =>
  obtain⟨y,h1,h2⟩:=lW (F:=IsC w) .str t _ _ fuel rfl hf h
  unfold fitT at hf
  split at hf
  ·rename_i hu
   obtain⟨n,rfl⟩:=okWide_string hu hv
   exact⟨y,by rw[if_neg (by simp[isSt])];simpa [Value.cells]using h1,h2⟩
  ·cases hf
 | unit=>simp[fitT]at hf
 | nul=>simp[fitT]at hf
 | rc c=>simp[fitT]at hf
 | pair a b =>
  obtain⟨cs,rfl,hok⟩:∃ cs,v=.agg cs∧∀ y∈cs.toList,SlOK w y:=by
   unfold fitT at hf
   split at hf
   ·rename_i q r hp
    have row:∀ cs:Array Value,Row.okWide P w .any base t cs→∀ y∈cs.toList,SlOK w y:=fun cs hr y hy=>by
     obtain⟨ts,_,_,hc⟩:=hr
     obtain⟨i,hi,he⟩:=List.mem_iff_getElem.1 hy
     have h1:cs[i]? = some y:=by
      have:cs.toList[i]? = some y:=by rw[List.getElem?_eq_getElem hi,he]
      simpa using this
     obtain⟨u,_,hu⟩:=hc i y h1
     exact abS hu
    unfold partsOf at hp
    unfold Value.okWide at hv
    split at hp
    ·rename_i fs hu
     rw[hu]at hv
     obtain⟨cs,e,_,hr⟩:=hv
     exact⟨cs,e,row cs hr⟩
    ·rename_i n e hu
     rw[hu]at hv
     obtain⟨cs,e,_,hr⟩:=hv
     exact⟨cs,e,row cs hr⟩
    ·cases hp
   ·cases hf
  obtain⟨y,h1,h2⟩:=zT (.pair a b) t cs.toList _ fuel ht hf hok h
  exact⟨y,by rw[if_pos (show isSt (.pair a b)=true from rfl)];exact⟨cs.toList,by simp,h1⟩,h2⟩
 | sl e =>
  unfold fitT at hf
  split at hf
  ·rename_i e' hu
   simp only[Bool.and_eq_true,beq_iff_eq]at hf
   obtain⟨h1,h2,h3⟩:=hf
   obtain⟨a,len,cap,rfl⟩:=okWide_slice hu hv
   rcases DataW.trod_slice hu h with⟨hc,_⟩ | ⟨a',len',cap',elems,rest,n,_,hc,_,_,hle,hcm,hel,hread,_⟩
   ·simp only[Value.cells,List.cons.injEq,Value.slice.injEq,and_true]at hc
    obtain⟨rfl,rfl,rfl⟩:=hc
    exact⟨[],by rw[if_neg (by simp[isSt])];exact⟨_,rfl,.inl ⟨rfl,rfl⟩⟩,by simp[Bnd]⟩
   ·simp only[Value.cells,List.cons.injEq,Value.slice.injEq,and_true]at hc
    obtain⟨rfl,rfl,rfl⟩:=hc
    have hhas:w.has P .any base a' e' cap:=by
     unfold Value.okWide Cell.okWide Cell.ok at hv
     rw[hu]at hv
     exact hv.2.2
    obtain⟨_,hspot,row,cells,hsh,_⟩:=hhas
    obtain⟨b,o,s⟩:=a'
    simp only at hspot;subst hspot
    have hisc:IsC w b:=wz hsh
    obtain⟨l,hl,hr⟩:=xJ (α:=e.α) (R:=fun i y=>(∃ ds:List Value,DR (IsC w) w e y ds∧∀ (j:Nat) (d:Value),ds[j]? = some d→w.cell? ⟨b,o+(i*e.n+j),none⟩=some d)∧Bnd e y) len fun i hi=>by
     have hq:=hread i hi
     rw[List.getElem?_eq_getElem (by omega),Option.bind_eq_some_iff]at hq
     obtain⟨cs,c1,c2⟩:=hq
     obtain⟨y,k1,k2⟩:=lW (F:=IsC w) e e' cs _ n h2 h1 c2
     refine⟨y,⟨cs,k1,fun j d' hd=>?_⟩,k2⟩
     obtain⟨_,m1,m2⟩:=World.cells?_some c1
     have hj:j < cs.length:=(List.getElem?_eq_some_iff.1 hd).1
     have:=m2 j (by omega)
     rw[qV,qV,h3]at this
     rw[←Nat.add_assoc,this];exact hd
    refine⟨l,?_,?_,?_⟩
    ·rw[if_neg (by simp[isSt])]
     refine⟨_,rfl,.inr ⟨b,o,cap,by rw[hl],hisc,by omega,fun i x hx=>(hr i x hx).1⟩⟩
    ·rw[hl];simp only[maxLen]at hcm;omega
    ·intro y hy
     obtain⟨i,hi,he⟩:=List.mem_iff_getElem.1 hy
     exact(hr i y (by rw[List.getElem?_eq_getElem hi,he])).2
  ·cases hf
def fitAll(P:Program):List Ty→List TypeId→Bool
 | [],[]=>true
 | T::Ts,t::ts=>(topOK T&&fitT P T t)&&fitAll P Ts ts
 | _,_=>false
theorem qB:∀ {Ts:List Ty} {ts:List TypeId} {vs:List Value} {ds:List (DataW H)} {p:List MemPlace} {base:Nat},fitAll P Ts ts=true→(∀ (j:Nat) t v,ts[j]? = some t→vs[j]? = some v→Value.okWide P w .any base t v)→
  DataW.TrodAll enc P w 0 sp held ts vs ds p→∃ x:Tys Ts,ArgsR (IsC w) w Ts x vs∧Bnds Ts x
 | [],[],vs,ds,p,base,_,_,h=>by
  cases vs with
  | nil=>exact⟨(),rfl,trivial⟩
  | cons _ _=>cases ds<;>exact absurd h (by simp[DataW.TrodAll])
 | [],_::_,vs,ds,p,base,hf,_,h=>by simp[fitAll]at hf
 | _::_,[],vs,ds,p,base,hf,_,h=>by simp[fitAll]at hf
 | T::Ts,t::ts,vs,ds,p,base,hf,hv,h=>by
  simp only[fitAll,Bool.and_eq_true]at hf
  cases vs with
  | nil=>cases ds<;>exact absurd h (by simp[DataW.TrodAll])
  | cons v vs =>
   cases ds with
   | nil=>exact absurd h (by simp[DataW.TrodAll])
   | cons d ds =>
    obtain⟨p1,p2,h1,h2,_⟩:=h
    obtain⟨y,k1,k2⟩:=yC hf.1.1 hf.1.2 (hv 0 t v rfl rfl) h1
    obtain⟨x,m1,m2⟩:=qB hf.2 (fun j t' v' a b=>hv (j+1) t' v' (by simpa using a) (by simpa using b)) h2
    exact⟨(y,x),⟨v,vs,rfl,k1,m1⟩,k2,m2⟩
theorem qF{W W':World}(hl:laidOutB P=true)(hb:Below W.heap.size W W'):∀ {ts:List TypeId} {vs:List Value} {ds:List (DataW H)} {p:List MemPlace},(ts.all fun t=>P.readableRec t&&decide (t < P.types.size))=true→
  DataW.TrodAll enc P W 0 (fun _=>true) true ts vs ds p→DataW.TrodAll enc P W' 0 (fun b=>decide (b < W.heap.size)) true ts vs ds p
 | [],vs,ds,p,_,h=>by cases vs<;>cases ds<;>simp_all [DataW.TrodAll]
 | t::ts,vs,ds,p,ha,h=>by
  cases vs with
  | nil=>cases ds<;>exact absurd h (by simp[DataW.TrodAll])
  | cons v vs =>
   cases ds with
   | nil=>exact absurd h (by simp[DataW.TrodAll])
   | cons d ds =>
    simp only[List.all_cons,Bool.and_eq_true,decide_eq_true_eq]at ha
    obtain⟨p1,p2,h1,h2,rfl⟩:=h
    have hlt:∀ x∈p1,x.block < W.heap.size:=by
     obtain⟨m,hm⟩:=h1
     exact DataW.trod_lt m _ _ _ hm
    exact⟨p1,p2,Below.trod hl ha.1.1 ha.1.2 h1 hb hlt,qF hl hb ha.2 h2,rfl⟩
theorem zG{ts:List TypeId}:∀ {vs:List Value} {ds:List (DataW H)} {p:List MemPlace},DataW.TrodAll enc P w 0 sp held ts vs ds p→ds.length=ts.length:=by
 induction ts with
 | nil=>intro vs ds p h;cases vs<;>cases ds<;>simp_all [DataW.TrodAll]
 | cons t ts ih =>
  intro vs ds p h
  cases vs with
  | nil=>cases ds<;>exact absurd h (by simp[DataW.TrodAll])
  | cons v vs =>
   cases ds with
   | nil=>exact absurd h (by simp[DataW.TrodAll])
   | cons d ds=>obtain⟨_,_,_,h2,_⟩:=h;simp[ih h2]
end
section
variable {H:Type}{enc:TypeId×Value→H}
theorem acv(hl:laidOutB Proofs.Tryz.prog=true){n:FuncId}{fn:Func}{s:ChangeSpec}{Ts:List Ty}{f:Nat→Tys Ts→Option (Bool×Unit)}(hE:∀ lf,EntryOK Proofs.Tryz.prog TabG n ⟨Ts,[.bool],f lf⟩)
  (hf:fitAll Proofs.Tryz.prog Ts fn.params.toList=true) (hrd:(fn.params.toList.all fun t=>Proofs.Tryz.prog.readableRec t&&decide (t < Proofs.Tryz.prog.types.size))=true)
  {rt:TypeId} (hrt:fn.resultTypes=#[rt]) (hub:Proofs.Tryz.prog.underlying rt=some .bool) (hsv:s.vars=[])
  (hs:∀ ds:List (DataW H),ds.length=fn.params.toList.length→s.fn H ds={ results:=[.lit (.bool true)],args:=ds })
  (hpure:∀ x:Tys Ts,Bnds Ts x→∃ lf,f lf x=some (true,()))
  {W:World} {base:Nat} {args:Array Value} {ds gs:List (DataW H)} {before:List MemPlace} {apart fresh handsOn:Bool}
  (hval:∀ (j:Nat) t v,fn.params[j]? = some t→args[j]? = some v→Value.okWide Proofs.Tryz.prog W .any base t v)
  (hW:DataW.Whole enc Proofs.Tryz.prog fn.params.toList s.vars apart W args.toList ds gs before) (hG:TabG W) :
  Calls Proofs.Tryz.prog n args W fun e W'=>∃ v,e=.returned v∧s.post enc Proofs.Tryz.prog fn apart fresh handsOn false W args v W':=by
 have hW':=hW
 obtain⟨p,q,hA,hV,rfl,_,_⟩:=hW
 rw[hsv]at hV
 obtain⟨rfl,rfl⟩:=trodVars_none hV
 have hv':∀ (j:Nat) (t:TypeId) (v:Value),fn.params.toList[j]? = some t→args.toList[j]? = some v→Value.okWide Proofs.Tryz.prog W .any base t v:=by
  intro j t v a b
  rw[Array.getElem?_toList]at a b
  exact hval j t v a b
 obtain⟨x,k1,k2⟩:=qB hf hv' hA
 obtain⟨lf,hlf⟩:=hpure x k2
 have hlen:=zG hA
 have h:=hE lf x (true,()) hlf (IsC W) W args.toList hG (fun i hi=>hi) k1
 rw[Array.toArray_toList]at h
 refine h.mono ?_
 rintro e W' ⟨v,rfl,hb,hr⟩
 obtain⟨vs,⟨u,r,rfl,h1,h2⟩,rfl⟩:=hr
 obtain rfl:r=[]:=h2
 have hu:u=.bool true:=by
  unfold ValR at h1
  rw[if_neg (by simp[isSt])]at h1
  simpa [DR]using h1
 subst hu
 refine⟨_,rfl,ds,[],p++[],[],p,[],hW',?_,?_,?_,hb.frame _,fun h=>by cases h⟩
 ·rw[List.append_nil,hs ds hlen,hrt]
  exact trodAll_mk1 (shut_bool hub true)
 ·rw[List.append_nil,hs ds hlen]
  exact qF hl hb hrd hA
 ·rw[List.append_nil,hs ds hlen,hsv]
  rfl
end
theorem yu{laid:List (String×DataW Unit)}{W:World}(hp:(laid.all fun x=>x.2.handleName?.isNone)=true){g:Nat}{t e:TypeId}{n:Nat}{rest:List (String×DataW Unit)}
  (hg:Proofs.Tryz.prog.globalNamed "internal/strconv.uint64pow10" = some g) (hty:(Proofs.Tryz.prog.globals[g]?).map (·.type)=some t) (ht:Proofs.Tryz.prog.underlying t=some (.array n e)) (he:Proofs.Tryz.prog.underlying e=some (.int .u64))
  (hce:Proofs.Tryz.prog.cellsOf e=1) (hct:Proofs.Tryz.prog.cellsOf t=n)
  (hh:(laid.filter fun x=>x.1 == "internal/strconv.uint64pow10")=("internal/strconv.uint64pow10",Lib.tabData .u64 Lib.pow10Tab)::rest)
  (h:laidMetH Proofs.Tryz.prog laid W):TabG W:=by
 rw[MakeChecks.laidMetH_plain _ _ _ hp]at h
 have h':=laidMet.filter (fun x=>x.1 == "internal/strconv.uint64pow10") h
 rw[hh]at h'
 exact Lib.tabIs_of_head hg hty ht he hce hct h'
theorem adN{P:Program}{c:OpenClaim}(h:P.funcs.any Func.goes=false)(hs:c.start=.entering):false=c.goesBy P:=by
 have key:∀ (g:Nat) (fn:Func),P.funcs[g]? = some fn→fn.goes=false:=by
  intro g fn hg
  have:=Array.any_eq_false.1 h
  obtain⟨hlt,e⟩:=Array.getElem?_eq_some_iff.1 hg
  have:=this g hlt
  rw[e]at this
  simpa using this
 have k2:∀ g:Nat,(P.funcs[g]?).any Func.goes=false:=by
  intro g
  cases hg:P.funcs[g]? with
  | none=>rfl
  | some fn=>simp[key g fn hg]
 unfold OpenClaim.goesBy Program.goesAt Program.goesFrom
 rw[hs]
 have k3:∀ f,P.goes f=false:=by
  intro f
  unfold Program.goes
  rw[h,Bool.and_false,Bool.or_false]
  simp only[k2]
  simp
 cases P.funcNamed c.func with
 | none=>rfl
 | some f=>simp[k3]
end Go.Q
namespace Go.Q
open Go.N
theorem Pure.SegmentWidens(x:Tys (dw.E 0).ps)(h:Bnds (dw.E 0).ps x):∃ lf,dw.f lf x.1 x.2.1 x.2.2.1=some (true,()):=by
 obtain⟨l,m,⟨n,ts,⟨⟩⟩,⟨⟩⟩:=x
 clear h
 obtain⟨lf,hb⟩:=bigE
 refine⟨lf,?_⟩
 obtain⟨b,b1,b2⟩:=aeB lf hb l
 obtain⟨c,c1,c2⟩:=aeB lf hb m
 obtain⟨d,d1,d2⟩:=fewI lf hb ts
 rw[dw.f]
 simp only[b1,c1,d1,bdS,adE]
 cases b with
 | false=>simp only[Bool.not_false,Go.N.brT]
 | true =>
  simp only[Bool.not_true,Go.N.brF]
  cases c with
  | false=>simp only[Bool.not_false,Go.N.brT]
  | true =>
   simp only[Bool.not_true,Go.N.brF]
   cases d with
   | false=>simp only[Bool.not_false,Go.N.brT]
   | true =>
    simp only[Bool.not_true,Go.N.brF]
    obtain⟨hl,hs⟩:=b2 rfl
    obtain⟨hm,ht⟩:=c2 rfl
    obtain⟨htl,hts⟩:=d2 rfl
    obtain⟨r,r1,r2,r3⟩:=aem lf hb (n:=n) (by omega) (by omega) hs ht htl hts
    obtain⟨u,u1,u2,u3⟩:=acE lf hb (n:=n) (by omega) (by omega) hs ht
    simp only[r1,r2,u1,u2,bdS,BEq.rfl,Go.N.brT,ac8 lf hb r.1 (by omega),ac8 lf hb u.1 (by omega)]
end Go.Q
