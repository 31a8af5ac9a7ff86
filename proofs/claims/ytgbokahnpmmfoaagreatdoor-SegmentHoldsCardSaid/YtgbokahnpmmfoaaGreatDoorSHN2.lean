import Derived.KernelRfl
import Derived.Test.YtgbokahnpmmfoaaGreatDoorChecked
import Derived.ProofKit
import Derived.OpenShut
import Derived.LaidMore
import Derived.Lay
import Derived.Carry
import Derived.SevenTiedAt
import Derived.Stop.Joined
import Derived.Lib.LaidTab
import Derived.LaidSub
import Derived.Test.YtgbokahnpmmfoaaGreatDoorSHE3
import Derived.Test.YtgbokahnpmmfoaaGreatDoorSHG10
import Derived.Test.YtgbokahnpmmfoaaGreatDoorSHG11
import Derived.Test.YtgbokahnpmmfoaaGreatDoorSHG12
import Derived.Test.YtgbokahnpmmfoaaGreatDoorSHG13
import Derived.Test.YtgbokahnpmmfoaaGreatDoorSHG6
import Derived.Test.YtgbokahnpmmfoaaGreatDoorSHG7
import Derived.Test.YtgbokahnpmmfoaaGreatDoorSHG8
import Derived.Test.YtgbokahnpmmfoaaGreatDoorSHG9
import Derived.Test.YtgbokahnpmmfoaaGreatDoorSHN1
set_option linter.unusedVariables false
set_option linter.unusedSimpArgs false
set_option linter.unusedSectionVars false
set_option maxRecDepth 100000
namespace Go.N
open Go Go.Q Go.Rx
def belowC(c:Cg)(a:Int):Option Int:=if c.m=0 then(if a < c.r then none else some c.r)else some (a-(a-c.r).fmod c.m)
theorem aaU{m r:Int}(h0:0≤m)(hm: -C < m∧m < C)(hr: -C < r∧r < C):clsF m r=⟨false,m,if m=0 then r else r.fmod m⟩:=by
 have e:(m.natAbs:Int)=m:=by omega
 unfold clsF
 rw[e]
 have s1:=(sz_C m).2 hm
 have s2:sz (if m=0 then r else r.fmod m)≤100:=by
  apply (sz_C _).2
  split
  ·exact hr
  ·have a:=Int.fmod_nonneg_of_pos r (show 0 < m by omega)
   have b:=Int.fmod_lt_of_pos r (show 0 < m by omega)
   omega
 rw[if_neg (by omega)]
theorem aeG{c:Cg}(hc:WfC c)(he:c.em=false)(a:Int):belowC c a=(aboveC (negC c) (-a)).map fun v=> -v:=by
 have e:negC c=⟨false,c.m,if c.m=0 then -c.r else(-c.r).fmod c.m⟩:=by
  unfold negC
  rw[if_neg (by simp[he])]
  exact aaU hc.pos hc.m (by have:=hc.r;omega)
 rw[e]
 unfold belowC aboveC
 simp only
 by_cases z:c.m=0
 ·simp only[z,if_true]
  by_cases h:a < c.r
  ·rw[if_pos h,if_pos (by omega)];rfl
  ·rw[if_neg h,if_neg (by omega)];simp
 ·have p:0 < c.m:=by have:=hc.pos;omega
  simp only[if_neg z,Option.map_some]
  have k:((-c.r).fmod c.m - -a).fmod c.m=(a-c.r).fmod c.m:=by
   have h1:=vk (x:=(-c.r).fmod c.m) (y:= -a) p
   have h2:=vk (x:= -c.r) (y:= -a) p
   have h3:((-c.r).fmod c.m).fmod c.m=(-c.r).fmod c.m:=by
    rw[Int.fmod_eq_emod_of_nonneg _ (Int.le_of_lt p),Int.fmod_eq_emod_of_nonneg _ (Int.le_of_lt p),Int.emod_emod]
   rw[←h1,h3,h2]
   congr 1;omega
  rw[k]
  congr 1;omega
section
variable (lf:Nat)(hb:Big lf){c:Cg}(hc:WfC c)(he:c.em=false){a:Int}(ha: -Dd < a∧a < Dd)
include hb hc he ha
theorem ag8:ig.f lf (cc c) (bs (Lib.itoa a))=some (match belowC c a with
  | none=>(bs [],false,())
  | some v=>(bs (Lib.itoa v),true,())):=by
 have hD:=DD_K
 have hC:=C_gt
 have hCD:=lm
 have h4:0≤Dd*Dd:=Int.mul_nonneg (by omega) (by omega)
 have ne:(negC c).em=false:=by
  have:negC c=⟨false,c.m,if c.m=0 then -c.r else(-c.r).fmod c.m⟩:=by
   unfold negC
   rw[if_neg (by simp[he])]
   exact aaU hc.pos hc.m (by have:=hc.r;omega)
  rw[this]
 have ab:=adJ lf hb ad6 ne (a:= -a) (by omega)
 rw[ig.f,adr lf hb hc,bdS,su lf (z:=a) (by omega),bdS,ab,bdS,aeG hc he]
 cases h:aboveC (negC c) (-a)with
 | none=>simp only[Bool.not_false,brT,Option.map_none]
 | some v =>
  have kv: -K < v∧v < K:=by
   unfold aboveC at h
   have w:=ad6 (c:=c)
   have m1:=w.m
   have r1:=w.r
   split at h
   ·split at h
    ·cases h
    ·injection h with h;omega
   ·rename_i z
    have p:0 < (negC c).m:=by have:=w.pos;omega
    have g5:=Int.fmod_nonneg_of_pos ((negC c).r - -a) p
    have g6:=Int.fmod_lt_of_pos ((negC c).r - -a) p
    injection h with h
    omega
  simp only[Bool.not_true,brF,Option.map_some,su lf kv,bdS]
theorem adi:gU.f lf (cc c) (bs (Lib.itoa a))=some (match belowC c a with
  | none=>(bs [],6,())
  | some v=>(bs (Lib.itoa v),0,())):=by
 have hlf:=hb.1
 have hD:=DD_K
 have hC:=C_gt
 have hCD:=lm
 have h4:0≤Dd*Dd:=Int.mul_nonneg (by omega) (by omega)
 have ka: -K < a∧a < K:=by omega
 have hl:=nO ka
 have m1:=hc.m
 have r1:=hc.r
 have bm:=CK hc.m
 have br':=CK hc.r
 rw[gU.f,ccheck lf hb hc,bdS]
 simp only[bne_self_eq_false,brF,oG lf (Lib.itoa a) (by omega),chkK ka,bdS]
 rw[oD he]
 simp only[brF,beq0]
 unfold belowC
 by_cases z:c.m=0
 ·rw[decide_eq_true z,Bool.not_true,brF,if_pos z,yZ lf _ _ (chkK ka) (chkK br') (by omega),fB,fB,bdS]
  simp only
  by_cases h:a < c.r
  ·rw[decide_eq_true h,brT,if_pos h]
  ·rw[decide_eq_false h,brF,if_neg h]
 ·have p:0 < c.m:=by have:=hc.pos;omega
  have k1:=zu br' bm z
  have k2:=zu ka bm z
  have g1:=Int.fmod_nonneg_of_pos c.r p
  have g2:=Int.fmod_lt_of_pos c.r p
  have g3:=Int.fmod_nonneg_of_pos a p
  have g4:=Int.fmod_lt_of_pos a p
  have k3: -K < a.fmod c.m-c.r.fmod c.m∧a.fmod c.m-c.r.fmod c.m < K:=by omega
  have g5:=Int.fmod_nonneg_of_pos (a-c.r) p
  have g6:=Int.fmod_lt_of_pos (a-c.r) p
  have kf: -K < (a-c.r).fmod c.m∧(a-c.r).fmod c.m < K:=by omega
  have kd: -K < a-(a-c.r).fmod c.m∧a-(a-c.r).fmod c.m < K:=by omega
  have sd:=(sz_K _).2 kd
  have sb:=aie lf _ _ (chkK ka) (chkK kf) (by omega)
  rw[fB,fB,sO,if_neg (by omega)]at sb
  rw[decide_eq_false z,Bool.not_false,brT,if_neg z,gu.f,nI lf hlf ka bm z,bdS]
  simp only[bne_self_eq_false,brF,nI lf hlf br' bm z,bdS,afz lf hb k2 k1 k3,nI lf hlf k3 bm z,vk p,sb]
end
end Go.N
namespace Go.N
open Go Go.Q Go.Rx
end Go.N
namespace Go.N
open Go Go.Q Go.Rx
end Go.N
namespace Go.N
open Go Go.Q Go.Rx
abbrev Nb:Type:=Bool×(List Int×Unit)
theorem RN.natAbs{p:Nb}{z:Int}{k:Nat}(h:RN p z k):lv G p.2.1=(z.natAbs:Int):=by
 have:=h.val
 have:=bU (B:=G) (by decide) h.dg
 split at*<;> omega
theorem RN.nil{p:Nb}{k:Nat}(h:RN p 0 k):p.2.1=[]:=(zh (B:=G) (by decide) h.dg h.tr).1 (by rw[h.natAbs];rfl)
theorem RN.ne{p:Nb}{z:Int}{k:Nat}(h:RN p z k)(h0:z≠0):0 < p.2.1.length:=by
 refine List.length_pos_iff.2 fun e=>h0 ?_
 have:=h.natAbs
 rw[e]at this
 simp only[lv]at this
 omega
section
variable (lf:Nat)(hlf:2000000000≤lf){a b:Int}(hb:b < C)
include hlf hb
end
end Go.N
namespace Go.N
open Go Go.Q Go.Rx
structure Vl where
 a:A
 c:Cg
deriving DecidableEq
abbrev VV:Type:=IV×(IV×Unit)
def vc(v:Vl):VV:=(ac v.a,cc v.c,())
def Ev:Vl:=⟨E0,Ec⟩
def onev(z:Int):Vl:=⟨⟨false,some z,some z⟩,⟨false,0,z⟩⟩
def loC(c:Cg)(a:Int):Int:=a+(c.r-a).fmod c.m
def hiC(c:Cg)(a:Int):Int:=a-(a-c.r).fmod c.m
def fin3(x y:Option Int)(c:Cg):Vl:=match x,y with
 | some x,some y=>if y < x then Ev else if x=y then onev x else⟨⟨false,clip x,clip y⟩,c⟩
 | x,y=>⟨⟨false,x.bind clip,y.bind clip⟩,c⟩
def red(a:A)(c:Cg):Vl:=if a.em=true then Ev else if c.em=true then Ev else if c.m=0 then(if inS (ofA a) c.r=true then onev c.r else Ev)else fin3 (a.lo.map (loC c)) (a.hi.map (hiC c)) c
def inV(v:Vl)(z:Int):Bool:=inS (ofA v.a) z&&inC v.c z
structure WfV(v:Vl):Prop where
 a:Wf v.a
 c:WfC v.c
 red:red v.a v.c=v
theorem lo_m{c:Cg}(p:0 < c.m)(a:Int):a≤loC c a∧loC c a < a+c.m:=by
 have:=Int.fmod_nonneg_of_pos (c.r-a) p
 have:=Int.fmod_lt_of_pos (c.r-a) p
 unfold loC;omega
theorem hi_m{c:Cg}(p:0 < c.m)(a:Int):hiC c a≤a∧a-c.m < hiC c a:=by
 have:=Int.fmod_nonneg_of_pos (a-c.r) p
 have:=Int.fmod_lt_of_pos (a-c.r) p
 unfold hiC;omega
theorem aiZ{m a:Int}(p:0 < m):a.fmod m=0↔m∣a:=by
 rw[Int.fmod_eq_emod_of_nonneg _ (Int.le_of_lt p)]
 exact⟨Int.dvd_of_emod_eq_zero,Int.emod_eq_zero_of_dvd⟩
theorem acf{m:Int}(p:0 < m)(a:Int):m∣a-a.fmod m:=by
 rw[Int.fmod_eq_emod_of_nonneg _ (Int.le_of_lt p)]
 exact Int.dvd_self_sub_emod
theorem yR{c:Cg}(he:c.em=false)(hp:0≤c.m){z:Int}:inC c z=true↔c.m∣z-c.r:=by
 unfold inC dvd'
 rw[he]
 by_cases h:c.m=0
 ·rw[if_pos h,h];simp
 ·rw[if_neg h]
  simp only[Bool.not_false,Bool.true_and,decide_eq_true_eq]
  exact aiZ (by omega)
theorem aic{c:Cg}(p:0 < c.m)(a:Int):c.m∣loC c a-c.r:=by
 obtain⟨k,hk⟩:=acf p (c.r-a)
 exact⟨-k,by unfold loC;rw[Int.mul_neg,←hk];omega⟩
theorem aia{c:Cg}(p:0 < c.m)(a:Int):c.m∣hiC c a-c.r:=by
 obtain⟨k,hk⟩:=acf p (a-c.r)
 exact⟨k,by unfold hiC;rw[←hk];omega⟩
theorem aeL{z:Int}(h: -C < z∧z < C):clip z=some z:=if_pos h
theorem aeK{z:Int}(h:¬(-C < z∧z < C)):clip z=none:=if_neg h
theorem Wf.inS{a:A}(h:Wf a)(he:a.em=false){z:Int}(hz: -K < z∧z < K):inS (ofA a) z=true↔(∀ l,a.lo=some l→l≤z)∧∀ u,a.hi=some u→z≤u:=by
 unfold Go.N.inS ofA
 rw[he,if_neg (by simp)]
 simp only[Bool.and_eq_true,decide_eq_true_eq]
 cases a.lo with
 | none=>cases a.hi with
  | none=>simp[lox,hix,key];omega
  | some u=>simp[lox,hix,key];omega
 | some l=>cases a.hi with
  | none=>simp[lox,hix,key];omega
  | some u=>simp[lox,hix,key]
theorem ahZ:Wf Ev.a∧WfC Ev.c:=⟨ajg,ahY⟩
theorem aii:red Ev.a Ev.c=Ev:=if_pos rfl
theorem Ev_V:WfV Ev:=⟨ahZ.1,ahZ.2,aii⟩
end Go.N
namespace Go.N
open Go Go.Q Go.Rx
section
variable {c d:Cg}(hc:WfC c)(hd:WfC d){z w:Int}(hz:inC c z=true)(hw:inC d w=true)
include hc hd hz hw
end
theorem aip{c d:Cg}(h:cc c=cc d):c.em=d.em∧(c.em=false→c=d):=by
 unfold cc at h
 cases e1:c.em with
 | true=>cases e2:d.em with
  | true=>exact⟨rfl,nofun⟩
  | false=>rw[if_pos e1,if_neg (by simp[e2])]at h;have:=congrArg Prod.fst h;simp at this
 | false=>cases e2:d.em with
  | true=>rw[if_neg (by simp[e1]),if_pos e2]at h;have:=congrArg Prod.fst h;simp at this
  | false =>
   rw[if_neg (by simp[e1]),if_neg (by simp[e2])]at h
   simp only[Prod.mk.injEq]at h
   refine⟨rfl,fun _=>?_⟩
   have h1:=nS (yA h.2.1)
   have h2:=nS (yA h.2.2.1)
   cases c;cases d;simp_all
end Go.N
namespace Go.N
open Go Go.Q Go.Rx
section
variable {c d:Cg}(hc:WfC c)(hd:WfC d)(ec:c.em=false)(ed:d.em=false)
include hc hd ec ed
end
end Go.N
namespace Go.N
open Go Go.Q Go.Rx
section
variable (lf:Nat)(hb:Big lf){a b:Int}(ha:0 < a∧a < C)(hbb:0 < b∧b < C)
include hb ha hbb
end
section
variable (lf:Nat)(hb:Big lf){c d:Cg}(hc:WfC c)(hd:WfC d)
include hb hc hd
end
end Go.N
namespace Go.N
open Go Go.Q Go.Rx
theorem clipV(lf:Nat){o:Option Int}(h:okb K o):aY.f lf (ob o)=some (ob (o.bind clip),()):=by
 rw[aY.f]
 cases o with
 | none=>rw[show ob none=bs [] from rfl,oL,bdS,fK,show body []=[] from rfl,decide_eq_false (by simp),brF];rfl
 | some z =>
  have hl:=nO h
  rw[show ob (some z)=bs (Lib.itoa z) from rfl,oL,bdS,fK]
  have e:(((body (Lib.itoa z)).length:Nat):Int)=(sz z:Int):=rfl
  simp only[e,Option.bind]
  by_cases c: -C < z∧z < C
  ·have:=(sz_C z).2 c
   rw[decide_eq_false (by omega),brF,aeL c];rfl
  ·have:¬sz z≤100:=fun x=>c ((sz_C z).1 x)
   rw[decide_eq_true (by omega),brT,aeK c];rfl
set_option exponentiation.threshold 5000 in
theorem ahX:C+C < Dd:=by
 have e:(10 ^ 100+10 ^ 100:Nat) < 10 ^ 1000:=by
  have:(10:Nat) ^ 1000=10 ^ 100*10 ^ 900:=by rw[←Nat.pow_add]
  rw[this]
  have:(2:Nat) < 10 ^ 900:=Nat.lt_of_lt_of_le (show(2:Nat) < 10 ^ 1 by decide) (Nat.pow_le_pow_right (by decide) (by decide))
  have h:=Nat.mul_lt_mul_of_pos_left this (show 0 < 10 ^ 100 by exact Nat.pow_pos (by decide))
  omega
 unfold C Dd;exact Int.ofNat_lt.2 e
theorem evV:((((true,(⟨#[]⟩:ByteArray),(⟨#[]⟩:ByteArray),()),(true,(⟨#[]⟩:ByteArray),(⟨#[]⟩:ByteArray),()),()):VV))=vc Ev:=rfl
theorem onV(z:Int):(((false,bs (Lib.itoa z),bs (Lib.itoa z),()),(false,(⟨#[48]⟩:ByteArray),bs (Lib.itoa z),()),()):VV)=vc (onev z):=by
 rw[i0];unfold vc onev;rw[oD rfl];rfl
theorem aav(x:Int):((bs (Lib.itoa x)).toList==(⟨#[]⟩:ByteArray).toList)=false:=by
 have:=wU (some x)
 rw[show ob (some x)=bs (Lib.itoa x) from rfl]at this
 rw[this];exact decide_eq_false nofun
theorem ob_e:((ob none).toList==(⟨#[]⟩:ByteArray).toList)=true:=by rw[wU];rfl
theorem ahN(x y:Int):decide (sgn (x-y) > 0)=decide (y < x):=agF x y
theorem ajc(x y:Int):(sgn (x-y)==0)=decide (x=y):=by
 rw[Bool.eq_iff_iff,beq_iff_eq,decide_eq_true_eq]
 unfold sgn;(repeat' split)<;>omega
section
variable (lf:Nat)(hb:Big lf){a:A}{c:Cg}(ha:Wf a)(hc:WfC c)
include hb ha hc
theorem lo_K{l:Int}(h: -C < l∧l < C)(p:0 < c.m): -K < loC c l∧loC c l < K∧-Dd < loC c l∧loC c l < Dd:=by
 have:=lo_m p l
 have:=hc.m
 have:=C_gt
 have:=CC_K
 have hD:=DD_K
 have hCD:=lm
 have h4:C*2≤C*C:=Int.mul_le_mul_of_nonneg_left (by omega) (by omega)
 have h5:=ahX
 have h6:=Dd_K
 omega
theorem hi_K{l:Int}(h: -C < l∧l < C)(p:0 < c.m): -K < hiC c l∧hiC c l < K∧-Dd < hiC c l∧hiC c l < Dd:=by
 have:=hi_m p l
 have:=hc.m
 have:=C_gt
 have h5:=ahX
 have h6:=Dd_K
 omega
theorem agW:iL.f lf (ac a) (cc c)=some (vc (red a c),()):=by
 have hlf:=hb.1
 have h3:200000≤lf:=by omega
 have hCD:=lm
 rw[iL.f]
 simp only[show(ac a).1=a.em from rfl,show(ac a).2.1=ob a.lo from rfl,show(ac a).2.2.1=ob a.hi from rfl,jm.f,bdS,evV,kS.f]
 unfold red
 cases ea:a.em with
 | true=>simp only[brT,if_true]
 | false =>
  cases ec:c.em with
  | true=>rw[yD ec];simp only[brT,brF,if_true,if_false,Bool.false_eq_true]
  | false =>
   have e1:(cc c).1=false:=by rw[oD ec]
   have e2:(cc c).2.1=bs (Lib.itoa c.m):=by rw[oD ec]
   have e3:(cc c).2.2.1=bs (Lib.itoa c.r):=by rw[oD ec]
   simp only[brF,if_false,Bool.false_eq_true,e1,e2,e3,beq0]
   by_cases m:c.m=0
   ·rw[decide_eq_true m,brT,if_pos m,acj lf h3 ha (CK hc.r),bdS]
    simp only
    cases hi:inS (ofA a) c.r with
    | true=>simp only[Bool.not_true,brF,if_true,onV]
    | false=>simp only[Bool.not_false,brT,if_false,Bool.false_eq_true]
   ·have p:0 < c.m:=by have:=hc.pos;omega
    rw[decide_eq_false m,brF,if_neg m]
    have kl:=ha.lo
    have kh:=ha.hi
    have L:=fun {l:Int} (h: -C < l∧l < C)=>aho lf hb hc ec (a:=l) (by omega)
    have G':=fun {l:Int} (h: -C < l∧l < C)=>adi lf hb hc ec (a:=l) (by omega)
    have ab:∀ l,aboveC c l=some (loC c l):=fun l=>if_neg m
    have be:∀ l,belowC c l=some (hiC c l):=fun l=>if_neg m
    have cN:=clipV lf (o:=none) trivial
    cases hl:a.lo with
    | none=>cases hh:a.hi with
     | none=>simp only[ob_e,Bool.not_true,brF,cN,bdS,Option.map,fin3];rfl
     | some u =>
      rw[hh]at kh
      have g:=G' kh
      rw[be]at g
      have kk:=hi_K lf hb ha hc kh p
      have cU:=clipV lf (o:=some (hiC c u)) ⟨kk.1,kk.2.1⟩
      simp only[show ob (some u)=bs (Lib.itoa u) from rfl,show ob (some (hiC c u))=bs (Lib.itoa (hiC c u)) from rfl]at *
      simp only[ob_e,aav,Bool.not_true,Bool.not_false,brF,brT,g,cN,cU,bdS,Option.map,fin3];rfl
    | some l =>
     rw[hl]at kl
     have g:=L kl
     rw[ab]at g
     have kk:=lo_K lf hb ha hc kl p
     have cL:=clipV lf (o:=some (loC c l)) ⟨kk.1,kk.2.1⟩
     cases hh:a.hi with
     | none =>
      simp only[show ob (some l)=bs (Lib.itoa l) from rfl,show ob (some (loC c l))=bs (Lib.itoa (loC c l)) from rfl]at *
      simp only[ob_e,aav,Bool.not_true,Bool.not_false,brF,brT,g,cN,cL,bdS,Option.map,fin3];rfl
     | some u =>
      rw[hh]at kh
      have g2:=G' kh
      rw[be]at g2
      have kk2:=hi_K lf hb ha hc kh p
      have cU:=clipV lf (o:=some (hiC c u)) ⟨kk2.1,kk2.2.1⟩
      have cm:=wE lf _ _ (chkK ⟨kk.1,kk.2.1⟩) (chkK ⟨kk2.1,kk2.2.1⟩) h3
      rw[fB,fB]at cm
      simp only[show ob (some l)=bs (Lib.itoa l) from rfl,show ob (some (loC c l))=bs (Lib.itoa (loC c l)) from rfl,show ob (some u)=bs (Lib.itoa u) from rfl,show ob (some (hiC c u))=bs (Lib.itoa (hiC c u)) from rfl]at *
      simp only[ob_e,aav,Bool.not_true,Bool.not_false,brF,brT,g,g2,cm,bdS,ahN,ajc,Option.map,fin3]
      by_cases h1:hiC c u < loC c l
      ·rw[decide_eq_true h1,brT,if_pos h1]
      ·rw[decide_eq_false h1,brF,if_neg h1]
       by_cases h2:loC c l=hiC c u
       ·rw[decide_eq_true h2,brT,if_pos h2,onV]
       ·rw[decide_eq_false h2,brF,if_neg h2,cL,bdS,cU,bdS];rfl
theorem agl:bZ.f lf (ac a) (cc c)=some (vc (red a c),()):=by
 have hlf:=hb.1
 have h3:200000≤lf:=by omega
 have hCD:=lm
 rw[bZ.f]
 simp only[show(ac a).1=a.em from rfl,show(ac a).2.1=ob a.lo from rfl,show(ac a).2.2.1=ob a.hi from rfl,cZ.f,fP.f,jT.f,bdS,evV]
 unfold red
 cases ea:a.em with
 | true=>simp only[brT,if_true]
 | false =>
  cases ec:c.em with
  | true=>rw[yD ec];simp only[brT,brF,if_true,if_false,Bool.false_eq_true]
  | false =>
   have e1:(cc c).1=false:=by rw[oD ec]
   have e2:(cc c).2.1=bs (Lib.itoa c.m):=by rw[oD ec]
   have e3:(cc c).2.2.1=bs (Lib.itoa c.r):=by rw[oD ec]
   simp only[brF,if_false,Bool.false_eq_true,e1,e2,e3,beq0]
   by_cases m:c.m=0
   ·rw[decide_eq_true m,brT,if_pos m,afV lf h3 ha (CK hc.r),bdS]
    simp only
    cases hi:inS (ofA a) c.r with
    | true =>
     simp only[Bool.not_true,brF,if_true,←onV]
     rw[oD ec,m,i0]
    | false=>simp only[Bool.not_false,brT,if_false,Bool.false_eq_true]
   ·have p:0 < c.m:=by have:=hc.pos;omega
    rw[decide_eq_false m,brF,if_neg m]
    have kl:=ha.lo
    have kh:=ha.hi
    have L:=fun {l:Int} (h: -C < l∧l < C)=>adJ lf hb hc ec (a:=l) (by omega)
    have G':=fun {l:Int} (h: -C < l∧l < C)=>ag8 lf hb hc ec (a:=l) (by omega)
    have ab:∀ l,aboveC c l=some (loC c l):=fun l=>if_neg m
    have be:∀ l,belowC c l=some (hiC c l):=fun l=>if_neg m
    have toL:∀ x y:Option Int,okb K x→okb K y→gt? x y=false→toA ⟨lox x,hix y⟩=⟨false,x.bind clip,y.bind clip⟩:=by
     intro x y hx hy h
     unfold toA;rw[afJ hx hy,h,if_neg (by simp),agQ,agP]
    cases hl:a.lo with
    | none=>cases hh:a.hi with
     | none =>
      simp only[ob_e,Bool.not_true,brF,vI lf h3 none none trivial trivial,toL none none trivial trivial rfl,bdS,Option.map,fin3];rfl
     | some u =>
      rw[hh]at kh
      have g:=G' kh
      rw[be]at g
      have kk:=hi_K lf hb ha hc kh p
      have rg:=vI lf h3 none (some (hiC c u)) trivial ⟨kk.1,kk.2.1⟩
      rw[toL none (some (hiC c u)) trivial ⟨kk.1,kk.2.1⟩ rfl]at rg
      simp only[show ob (some u)=bs (Lib.itoa u) from rfl,show ob (some (hiC c u))=bs (Lib.itoa (hiC c u)) from rfl]at *
      simp only[ob_e,aav,Bool.not_true,Bool.not_false,brF,brT,g,rg,bdS,Option.map,fin3];rfl
    | some l =>
     rw[hl]at kl
     have g:=L kl
     rw[ab]at g
     have kk:=lo_K lf hb ha hc kl p
     cases hh:a.hi with
     | none =>
      have rg:=vI lf h3 (some (loC c l)) none ⟨kk.1,kk.2.1⟩ trivial
      rw[toL (some (loC c l)) none ⟨kk.1,kk.2.1⟩ trivial rfl]at rg
      simp only[show ob (some l)=bs (Lib.itoa l) from rfl,show ob (some (loC c l))=bs (Lib.itoa (loC c l)) from rfl]at *
      simp only[ob_e,aav,Bool.not_true,Bool.not_false,brF,brT,g,rg,bdS,Option.map,fin3];rfl
     | some u =>
      rw[hh]at kh
      have g2:=G' kh
      rw[be]at g2
      have kk2:=hi_K lf hb ha hc kh p
      have ls:=lessI lf h3 (x:=hiC c u) (y:=loC c l) ⟨kk2.1,kk2.2.1⟩ ⟨kk.1,kk.2.1⟩
      have rg:=vI lf h3 (some (loC c l)) (some (hiC c u)) ⟨kk.1,kk.2.1⟩ ⟨kk2.1,kk2.2.1⟩
      have T:=toL (some (loC c l)) (some (hiC c u)) ⟨kk.1,kk.2.1⟩ ⟨kk2.1,kk2.2.1⟩
      simp only[show ob (some l)=bs (Lib.itoa l) from rfl,show ob (some (loC c l))=bs (Lib.itoa (loC c l)) from rfl,show ob (some u)=bs (Lib.itoa u) from rfl,show ob (some (hiC c u))=bs (Lib.itoa (hiC c u)) from rfl]at *
      have eqt:((bs (Lib.itoa (loC c l))).toList==(bs (Lib.itoa (hiC c u))).toList)=decide (loC c l=hiC c u):=by
       rw[jU];simp only[decide_eq_decide];exact⟨nS,fun e=>by rw[e]⟩
      simp only[ob_e,aav,Bool.not_true,Bool.not_false,brF,brT,g,g2,ls,bdS,eqt,Option.map,fin3]
      by_cases h1:hiC c u < loC c l
      ·rw[decide_eq_true h1,brT,if_pos h1]
      ·rw[decide_eq_false h1,brF,if_neg h1]
       by_cases h2:loC c l=hiC c u
       ·have kC: -C < loC c l∧loC c l < C:=by
         have:=lo_m p l
         have:=hi_m p u
         simp only[okb]at kl kh
         omega
        have hC:=C_gt
        have hCK:=pV
        rw[decide_eq_true h2,brT,if_pos h2,gI.f,jL.f,i0,aaf lf h3 (m:=0) (by omega) (CK kC),bdS,bdS]
        simp only
        rw[aaU (Int.le_refl 0) (by omega) kC,if_pos rfl,oD rfl]
        simp only[←i0,BEq.rfl,Bool.not_true,brF,bdS]
        rw[onV]
       ·rw[decide_eq_false h2,brF,if_neg h2,rg,T (by unfold gt?;simp;omega),bdS];rfl
end
end Go.N
namespace Go.N
open Go Go.Q Go.Rx
section
variable (lf:Nat)(h3:200000≤lf)
include h3
end
theorem ahx{s:Sp}(h:oks C s):oks C (negS s):=wC h ⟨trivial,xX (by decide) (by decide)⟩
theorem ahW{s:Sp}(h:oks C s):oks C (zerS s):=wC h ⟨xX (by decide) (by decide),xX (by decide) (by decide)⟩
section
variable (lf:Nat)(h3:200000≤lf)
include h3
end
end Go.N
namespace Go.N
open Go Go.Q Go.Rx
theorem aiI(x:X):sg (xneg x)= -sg x:=by
 cases x with
 | ni=>rfl
 | pi=>rfl
 | fin z=>simp only[xneg,sg,sgn];(repeat' split)<;>omega
theorem kT(x y:X):xmul x y=xmul y x:=by
 unfold xmul
 rw[Int.mul_comm (sg y) (sg x)]
 split
 ·rfl
 ·cases x<;>cases y<;>simp only[Int.mul_comm]
theorem agZ(x y:X):xmul (xneg x) y=xneg (xmul x y):=by
 unfold xmul
 rw[aiI,Int.neg_mul]
 have a:=sg3 x
 have b:=sg3 y
 by_cases h:sg x*sg y=0
 ·rw[h,if_pos (by decide),if_pos rfl];rfl
 ·rw[if_neg (by omega),if_neg h]
  have one:sg x*sg y=1∨sg x*sg y= -1:=by
   rcases a with a | a | a<;>rcases b with b | b | b<;>rw[a,b]at h⊢<;>simp at h⊢
  cases x<;>cases y<;>simp only[xneg,Int.neg_mul]<;>rcases one with o | o<;>rw[o]<;>rfl
theorem aaN(x y:X):xmul x (xneg y)=xneg (xmul x y):=by rw[kT,agZ,kT]
theorem uM{x y:X}:(key (xmul x y) < 0↔sg x*sg y < 0)∧(key (xmul x y)=0↔sg x*sg y=0):=by
 have hK:=K_gt
 have a:=sg3 x
 have b:=sg3 y
 unfold xmul
 by_cases h:sg x*sg y=0
 ·rw[if_pos h,h];simp[key]
 ·rw[if_neg h]
  have one:sg x*sg y=1∨sg x*sg y= -1:=by
   rcases a with a | a | a<;>rcases b with b | b | b<;>rw[a,b]at h⊢<;>simp at h⊢
  have inf:(key (if sg x*sg y=1 then X.pi else X.ni) < 0↔sg x*sg y < 0)∧(key (if sg x*sg y=1 then X.pi else X.ni)=0↔sg x*sg y=0):=by
   rcases one with o | o<;>rw[o]
   ·rw[if_pos rfl,show key X.pi=K from rfl];omega
   ·rw[if_neg (by decide),show key X.ni= -K from rfl];omega
  cases x with
  | fin u=>cases y with
   | fin v =>
    simp only[key]
    have ku:=sG (.fin u)
    have kv:=sG (.fin v)
    simp only[key]at ku kv
    rcases a with a | a | a<;>rcases b with b | b | b<;>rw[a,b]at h⊢<;>simp at h⊢
    ·have:=Int.mul_pos_of_neg_of_neg (show u < 0 by omega) (show v < 0 by omega);omega
    ·have:=Int.mul_neg_of_neg_of_pos (show u < 0 by omega) (show 0 < v by omega);omega
    ·have:=Int.mul_neg_of_pos_of_neg (show 0 < u by omega) (show v < 0 by omega);omega
    ·have:=Int.mul_pos (show 0 < u by omega) (show 0 < v by omega);omega
   | ni=>exact inf
   | pi=>exact inf
  | ni=>exact inf
  | pi=>exact inf
theorem aey{a b:Int}:xmul (.fin a) (.fin b)=.fin (a*b):=by
 unfold xmul
 split
 ·rename_i h
  have:=(uM (x:=.fin a) (y:=.fin b)).2
  have ka:=sG (.fin a)
  have kb:=sG (.fin b)
  simp only[key]at ka kb
  rcases Int.mul_eq_zero.1 h with z | z
  ·rw[ka.2.1.1 z,Int.zero_mul]
  ·rw[kb.2.1.1 z,Int.mul_zero]
 ·rfl
theorem mM{x x' y:X}(hx:okx Dd x)(hx':okx Dd x')(hy:okx Dd y)(h:key x≤key x')(h0:0≤key y):key (xmul x y)≤key (xmul x' y):=by
 have hK:=K_gt
 have hC:=Dd_K
 have k1:=aa6 (ac1 hx hy)
 have k2:=aa6 (ac1 hx' hy)
 have s1:=uM (x:=x) (y:=y)
 have s2:=uM (x:=x') (y:=y)
 have gx:=sG x
 have gx':=sG x'
 have gy:=sG y
 have a:=sg3 x
 have a':=sg3 x'
 have b:=sg3 y
 have inf:∀ {u v:X},(u=.ni∨u=.pi∨v=.ni∨v=.pi)→key (xmul u v)=sg u*sg v*K:=by
  intro u v hu
  have c:=sg3 u
  have d:=sg3 v
  unfold xmul
  by_cases hz:sg u*sg v=0
  ·rw[if_pos hz,hz];simp[key]
  ·rw[if_neg hz]
   have one:sg u*sg v=1∨sg u*sg v= -1:=by
    rcases c with c | c | c<;>rcases d with d | d | d<;>rw[c,d]at hz⊢<;>simp at hz⊢
   have f:key (if sg u*sg v=1 then X.pi else X.ni)=sg u*sg v*K:=by
    rcases one with o | o<;>rw[o]
    ·rw[if_pos rfl,show key X.pi=K from rfl];omega
    ·rw[if_neg (by decide),show key X.ni= -K from rfl];omega
   rcases hu with rfl | rfl | rfl | rfl
   ·exact f
   ·exact f
   ·cases u<;>exact f
   ·cases u<;>exact f
 by_cases y0:key y=0
 ·have:sg y=0:=by omega
  have e1:key (xmul x y)=0:=s1.2.2 (by rw[this,Int.mul_zero])
  have e2:key (xmul x' y)=0:=s2.2.2 (by rw[this,Int.mul_zero])
  omega
 have y1:sg y=1:=by omega
 rw[y1,Int.mul_one]at s1 s2
 cases y with
 | ni=>simp only[key]at h0;omega
 | pi =>
  rw[inf (.inr (.inr (.inr rfl))),inf (.inr (.inr (.inr rfl))),y1,Int.mul_one,Int.mul_one]
  exact Int.mul_le_mul_of_nonneg_right (by omega) (by omega)
 | fin v =>
  cases x with
  | ni =>
   rw[inf (.inl rfl),y1,Int.mul_one,show sg X.ni= -1 from rfl];omega
  | pi =>
   cases x' with
   | pi=>exact Int.le_refl _
   | ni=>simp only[key]at h;omega
   | fin w=>simp only[key,okx]at h hx';omega
  | fin u=>cases x' with
   | pi =>
    rw[inf (u:=X.pi) (.inr (.inl rfl)),y1,Int.mul_one,show sg X.pi=1 from rfl];omega
   | ni=>simp only[key,okx]at h hx;omega
   | fin w =>
    rw[aey,aey]
    simp only[key]at h h0⊢
    exact Int.mul_le_mul_of_nonneg_right h h0
theorem nK{x x' y:X}(hx:okx Dd x)(hx':okx Dd x')(hy:okx Dd y)(h:key x≤key x')(h0:key y≤0):key (xmul x' y)≤key (xmul x y):=by
 have:=mM hx hx' (ahV hy) h (by rw[yT];omega)
 rw[aaN,aaN,yT,yT]at this
 omega
def El(s:Sp)(x:X):Prop:=okx Dd x∧key s.lo≤key x∧key x≤key s.hi
theorem zW{s:Sp}(hs:oks C s)(he:emp s=false):El s s.lo:=⟨hs.1.D,Int.le_refl _,by have:=of_decide_eq_false he;omega⟩
theorem zV{s:Sp}(hs:oks C s)(he:emp s=false):El s s.hi:=⟨hs.2.D,by have:=of_decide_eq_false he;omega,Int.le_refl _⟩
theorem corner{s t:Sp}(hs:oks C s)(ht:oks C t){x y:X}(hx:El s x)(hy:El t y):
  (∃ cx cy,(cx=s.lo∨cx=s.hi)∧(cy=t.lo∨cy=t.hi)∧key (xmul cx cy)≤key (xmul x y))∧(∃ cx cy,(cx=s.lo∨cx=s.hi)∧(cy=t.lo∨cy=t.hi)∧key (xmul x y)≤key (xmul cx cy)):=by
 have one:∀ {s:Sp} {x y:X},oks C s→El s x→okx Dd y→(∃ cx,(cx=s.lo∨cx=s.hi)∧key (xmul cx y)≤key (xmul x y))∧(∃ cx,(cx=s.lo∨cx=s.hi)∧key (xmul x y)≤key (xmul cx y)):=by
  intro s x y hs hx hy
  by_cases h:0≤key y
  ·exact⟨⟨_,.inl rfl,mM hs.1.D hx.1 hy hx.2.1 h⟩,⟨_,.inr rfl,mM hx.1 hs.2.D hy hx.2.2 h⟩⟩
  ·exact⟨⟨_,.inr rfl,nK hx.1 hs.2.D hy hx.2.2 (by omega)⟩,⟨_,.inl rfl,nK hs.1.D hx.1 hy hx.2.1 (by omega)⟩⟩
 obtain⟨⟨cx,c1,c2⟩,⟨dx,d1,d2⟩⟩:=one hs hx hy.1
 have okc:∀ {c:X},(c=s.lo∨c=s.hi)→okx Dd c:=fun h=>by rcases h with rfl | rfl;exact hs.1.D;exact hs.2.D
 obtain⟨⟨cy,e1,e2⟩,_⟩:=one ht hy (okc c1)
 obtain⟨_,⟨dy,f1,f2⟩⟩:=one ht hy (okc d1)
 rw[kT cy,kT y]at e2
 rw[kT dy,kT y]at f2
 exact⟨⟨cx,cy,c1,e1,by omega⟩,⟨dx,dy,d1,f1,by omega⟩⟩
theorem abM(x y:X):xmin x y=x∨xmin x y=y:=by unfold xmin;split;exact .inr rfl;exact .inl rfl
theorem abL(x y:X):xmax x y=x∨xmax x y=y:=by unfold xmax;split;exact .inr rfl;exact .inl rfl
theorem abO{o:X→X→X}{s t:Sp}(hs:emp s=false)(ht:emp t=false):
  ((∃ x y,(x=s.lo∨x=s.hi)∧(y=t.lo∨y=t.hi)∧(apS o s t).lo=o x y)∧(∀ x y,(x=s.lo∨x=s.hi)→(y=t.lo∨y=t.hi)→key (apS o s t).lo≤key (o x y)))∧
  ((∃ x y,(x=s.lo∨x=s.hi)∧(y=t.lo∨y=t.hi)∧(apS o s t).hi=o x y)∧(∀ x y,(x=s.lo∨x=s.hi)→(y=t.lo∨y=t.hi)→key (o x y)≤key (apS o s t).hi)):=by
 have e:apS o s t=⟨xmin (xmin (xmin (o s.lo t.lo) (o s.lo t.hi)) (o s.hi t.lo)) (o s.hi t.hi),xmax (xmax (xmax (o s.lo t.lo) (o s.lo t.hi)) (o s.hi t.lo)) (o s.hi t.hi)⟩:=by
  unfold apS
  rw[if_neg (by simp[hs]),if_neg (by simp[ht]),af5,hullNE (sS _) (sS _)]
  have e1:=sS (o s.lo t.lo)
  have e2:=sS (o s.lo t.hi)
  have e3:=sS (o s.hi t.lo)
  have e4:=sS (o s.hi t.hi)
  have n1:=ack e1 e2
  rw[hullNE e1 e2]at n1
  rw[hullNE n1 e3]
  have n2:=ack n1 e3
  rw[hullNE n1 e3]at n2
  rw[hullNE n2 e4]
  rfl
 rw[e]
 refine⟨⟨?_,?_⟩,⟨?_,?_⟩⟩
 ·simp only
  rcases abM (xmin (xmin (o s.lo t.lo) (o s.lo t.hi)) (o s.hi t.lo)) (o s.hi t.hi)with h | h<;>rw[h]
  ·rcases abM (xmin (o s.lo t.lo) (o s.lo t.hi)) (o s.hi t.lo)with h | h<;>rw[h]
   ·rcases abM (o s.lo t.lo) (o s.lo t.hi)with h | h<;>rw[h]
    ·exact⟨_,_,.inl rfl,.inl rfl,rfl⟩
    ·exact⟨_,_,.inl rfl,.inr rfl,rfl⟩
   ·exact⟨_,_,.inr rfl,.inl rfl,rfl⟩
  ·exact⟨_,_,.inr rfl,.inr rfl,rfl⟩
 ·intro x y hx hy
  simp only[vC]
  rcases hx with rfl | rfl<;>rcases hy with rfl | rfl<;>omega
 ·simp only
  rcases abL (xmax (xmax (o s.lo t.lo) (o s.lo t.hi)) (o s.hi t.lo)) (o s.hi t.hi)with h | h<;>rw[h]
  ·rcases abL (xmax (o s.lo t.lo) (o s.lo t.hi)) (o s.hi t.lo)with h | h<;>rw[h]
   ·rcases abL (o s.lo t.lo) (o s.lo t.hi)with h | h<;>rw[h]
    ·exact⟨_,_,.inl rfl,.inl rfl,rfl⟩
    ·exact⟨_,_,.inl rfl,.inr rfl,rfl⟩
   ·exact⟨_,_,.inr rfl,.inl rfl,rfl⟩
  ·exact⟨_,_,.inr rfl,.inr rfl,rfl⟩
 ·intro x y hx hy
  simp only[vz]
  rcases hx with rfl | rfl<;>rcases hy with rfl | rfl<;>omega
end Go.N
namespace Go.N
open Go Go.Q Go.Rx
def pt(i:Nat)(s:Sp):Sp:=if i=0 then negS s else if i=1 then zerS s else posS s
def Qp(i k:Nat)(p q:Sp):Sp:=if i=1∨k=1 then⟨.fin 0,.fin 0⟩else if i=0 then(if k=0 then⟨xmul p.hi q.hi,xmul p.lo q.lo⟩else⟨xmul p.lo q.hi,xmul p.hi q.lo⟩)else(if k=0 then⟨xmul p.hi q.lo,xmul p.lo q.hi⟩else⟨xmul p.lo q.lo,xmul p.hi q.hi⟩)
theorem xH{s:Sp}(h:oks C s)(i:Nat):oks C (pt i s):=by
 unfold pt;split
 ·exact ahx h
 ·split
  ·exact ahW h
  ·exact ahG h
theorem i3{i:Nat}(h:i < 3):i=0∨i=1∨i=2:=by omega
theorem abp{s:Sp}(h:oks C s):(key (negS s).lo=key s.lo∧key (negS s).hi=min (key s.hi) (-1))∧(key (zerS s).lo=max (key s.lo) 0∧key (zerS s).hi=min (key s.hi) 0)∧(key (posS s).lo=max (key s.lo) 1∧key (posS s).hi=key s.hi):=by
 have a:=aa6 h.K.1
 have b:=aa6 h.K.2
 have h1:key (negS s).lo=max (key s.lo) (-K):=vz s.lo .ni
 have h2:key (negS s).hi=min (key s.hi) (-1):=vC s.hi (.fin (-1))
 have h3:key (zerS s).lo=max (key s.lo) 0:=vz s.lo (.fin 0)
 have h4:key (zerS s).hi=min (key s.hi) 0:=vC s.hi (.fin 0)
 have h5:key (posS s).lo=max (key s.lo) 1:=vz s.lo (.fin 1)
 have h6:key (posS s).hi=min (key s.hi) K:=vC s.hi .pi
 omega
theorem aaP{s:Sp}(hs:oks C s){i:Nat}{x:X}(h:El (pt i s) x):El s x:=by
 have k:=abp hs
 obtain⟨h1,h2,h3⟩:=h
 refine⟨h1,?_,?_⟩<;>unfold pt at h2 h3<;>split at h2<;>(try split at h2)<;>simp_all<;>omega
theorem zX{s:Sp}{x:X}(h:El s x):emp s=false:=decide_eq_false (by have:=h.2;omega)
theorem xO{s:Sp}(hs:oks C s){x:X}:(El (pt 0 s) x→key x≤-1)∧(El (pt 1 s) x→key x=0)∧(El (pt 2 s) x→1≤key x):=by
 have k:=abp hs
 refine⟨fun h=>?_,fun h=>?_,fun h=>?_⟩
 ·have:=h.2.2;simp only[pt,if_true]at this;omega
 ·have a:=h.2.1
  have b:=h.2.2
  simp only[pt,Nat.one_ne_zero,if_true,if_false]at a b;omega
 ·have:=h.2.1
  simp only[pt,show ¬(2=0) by omega,show ¬(2=1) by omega,if_false]at this;omega
theorem cls{s:Sp}(hs:oks C s){x:X}(h:El s x):∃ i,i < 3∧El (pt i s) x:=by
 have k:=abp hs
 obtain⟨h1,h2,h3⟩:=h
 rcases Int.lt_trichotomy (key x) 0 with z | z | z
 ·exact⟨0,by omega,h1,by simp only[pt,if_true];omega,by simp only[pt,if_true];omega⟩
 ·exact⟨1,by omega,h1,by simp only[pt,Nat.one_ne_zero,if_true,if_false];omega,by simp only[pt,Nat.one_ne_zero,if_true,if_false];omega⟩
 ·exact⟨2,by omega,h1,by simp only[pt,show ¬(2=0) by omega,show ¬(2=1) by omega,if_false];omega,by simp only[pt,show ¬(2=0) by omega,show ¬(2=1) by omega,if_false];omega⟩
theorem sg0{x:X}(h:key x=0):sg x=0:=(sG x).2.1.2 h
theorem vF{x y:X}(h:key x=0∨key y=0):xmul x y=.fin 0:=by
 unfold xmul
 rw[if_pos]
 rcases h with h | h
 ·rw[sg0 h,Int.zero_mul]
 ·rw[sg0 h,Int.mul_zero]
theorem upr{x y y':X}(hx:okx Dd x)(hy:okx Dd y)(hy':okx Dd y')(h:key y≤key y')(h0:0≤key x):key (xmul x y)≤key (xmul x y'):=by rw[kT x y,kT x y'];exact mM hy hy' hx h h0
theorem dnr{x y y':X}(hx:okx Dd x)(hy:okx Dd y)(hy':okx Dd y')(h:key y≤key y')(h0:key x≤0):key (xmul x y')≤key (xmul x y):=by rw[kT x y,kT x y'];exact nK hy hy' hx h h0
theorem ah1{s t:Sp}(hs:oks C s)(ht:oks C t){i k:Nat}(hi:i < 3)(hk:k < 3){x y:X}(hx:El (pt i s) x)(hy:El (pt k t) y):
  key (Qp i k (pt i s) (pt k t)).lo≤key (xmul x y)∧key (xmul x y)≤key (Qp i k (pt i s) (pt k t)).hi:=by
 have ps:=xH hs i
 have qs:=xH ht k
 have pe:=zX hx
 have qe:=zX hy
 have a:=zW ps pe
 have b:=zV ps pe
 have c:=zW qs qe
 have d:=zV qs qe
 have S:=@xO s hs
 have T:=@xO t ht
 rcases i3 hi with rfl | rfl | rfl
 ·have sx:=S.1 hx
  have sa:=S.1 a
  have sb:=S.1 b
  rcases i3 hk with rfl | rfl | rfl
  ·have sy:=T.1 hy
   have sc:=T.1 c
   have sd:=T.1 d
   simp only[Qp,Nat.zero_ne_one,or_self,if_false,if_true]
   exact⟨Int.le_trans (nK hx.1 b.1 d.1 hx.2.2 (by omega)) (dnr hx.1 hy.1 d.1 hy.2.2 (by omega)),Int.le_trans (nK a.1 hx.1 hy.1 hx.2.1 (by omega)) (dnr a.1 c.1 hy.1 hy.2.1 (by omega))⟩
  ·have sy:=T.2.1 hy
   simp only[Qp,or_true,if_true]
   rw[vF (.inr sy)];exact⟨Int.le_refl _,Int.le_refl _⟩
  ·have sy:=T.2.2 hy
   have sc:=T.2.2 c
   have sd:=T.2.2 d
   simp only[Qp,Nat.zero_ne_one,show ¬(2=1) by omega,show ¬(2=0) by omega,or_self,if_false,if_true]
   exact⟨Int.le_trans (dnr a.1 hy.1 d.1 hy.2.2 (by omega)) (mM a.1 hx.1 hy.1 hx.2.1 (by omega)),Int.le_trans (mM hx.1 b.1 hy.1 hx.2.2 (by omega)) (dnr b.1 c.1 hy.1 hy.2.1 (by omega))⟩
 ·have sx:=S.2.1 hx
  simp only[Qp,true_or,if_true]
  rw[vF (.inl sx)];exact⟨Int.le_refl _,Int.le_refl _⟩
 ·have sx:=S.2.2 hx
  have sa:=S.2.2 a
  have sb:=S.2.2 b
  rcases i3 hk with rfl | rfl | rfl
  ·have sy:=T.1 hy
   have sc:=T.1 c
   have sd:=T.1 d
   simp only[Qp,Nat.zero_ne_one,show ¬(2=1) by omega,show ¬(2=0) by omega,or_self,if_false,if_true]
   exact⟨Int.le_trans (nK hx.1 b.1 c.1 hx.2.2 (by omega)) (upr hx.1 c.1 hy.1 hy.2.1 (by omega)),Int.le_trans (nK a.1 hx.1 hy.1 hx.2.1 (by omega)) (upr a.1 hy.1 d.1 hy.2.2 (by omega))⟩
  ·have sy:=T.2.1 hy
   simp only[Qp,or_true,if_true]
   rw[vF (.inr sy)];exact⟨Int.le_refl _,Int.le_refl _⟩
  ·have sy:=T.2.2 hy
   have sc:=T.2.2 c
   have sd:=T.2.2 d
   simp only[Qp,show ¬(2=1) by omega,show ¬(2=0) by omega,or_self,if_false]
   exact⟨Int.le_trans (mM a.1 hx.1 c.1 hx.2.1 (by omega)) (upr hx.1 c.1 hy.1 hy.2.1 (by omega)),Int.le_trans (mM hx.1 b.1 hy.1 hx.2.2 (by omega)) (upr b.1 hy.1 d.1 hy.2.2 (by omega))⟩
theorem ag2{s t:Sp}(hs:oks C s)(ht:oks C t){i k:Nat}(hi:i < 3)(hk:k < 3)(ei:emp (pt i s)=false)(ek:emp (pt k t)=false):
  (∃ x y,El (pt i s) x∧El (pt k t) y∧(Qp i k (pt i s) (pt k t)).lo=xmul x y)∧(∃ x y,El (pt i s) x∧El (pt k t) y∧(Qp i k (pt i s) (pt k t)).hi=xmul x y):=by
 have a:=zW (xH hs i) ei
 have b:=zV (xH hs i) ei
 have c:=zW (xH ht k) ek
 have d:=zV (xH ht k) ek
 by_cases z:i=1∨k=1
 ·have e:xmul (pt i s).lo (pt k t).lo=.fin 0:=by
   apply vF
   rcases z with rfl | rfl
   ·exact .inl ((xO hs).2.1 a)
   ·exact .inr ((xO ht).2.1 c)
  simp only[Qp,if_pos z]
  exact⟨⟨_,_,a,c,e.symm⟩,⟨_,_,a,c,e.symm⟩⟩
 ·unfold Qp
  rw[if_neg z]
  split<;>split
  ·exact⟨⟨_,_,b,d,rfl⟩,⟨_,_,a,c,rfl⟩⟩
  ·exact⟨⟨_,_,a,d,rfl⟩,⟨_,_,b,c,rfl⟩⟩
  ·exact⟨⟨_,_,b,c,rfl⟩,⟨_,_,a,d,rfl⟩⟩
  ·exact⟨⟨_,_,a,c,rfl⟩,⟨_,_,b,d,rfl⟩⟩
theorem ah2{s t:Sp}(hs:oks C s)(ht:oks C t)(i k:Nat):oks K (Qp i k (pt i s) (pt k t)):=by
 have hK:=K_gt
 have p:=xH hs i
 have q:=xH ht k
 have z:okx K (.fin 0):=by simp only[okx];omega
 unfold Qp
 split
 ·exact⟨z,z⟩
 ·split<;>split
  ·exact⟨oN p.2 q.2,oN p.1 q.1⟩
  ·exact⟨oN p.1 q.2,oN p.2 q.1⟩
  ·exact⟨oN p.2 q.1,oN p.1 q.2⟩
  ·exact⟨oN p.1 q.1,oN p.2 q.2⟩
section
variable {s t:Sp}(hs:oks C s)(ht:oks C t)(es:emp s=false)(et:emp t=false)(ps:Pr s)(pt':Pr t)
include hs ht es et
theorem aah{x y:X}(hx:x=s.lo∨x=s.hi)(hy:y=t.lo∨y=t.hi):El s x∧El t y:=by
 constructor
 ·rcases hx with rfl | rfl
  ·exact zW hs es
  ·exact zV hs es
 ·rcases hy with rfl | rfl
  ·exact zW ht et
  ·exact zV ht et
theorem F1{i k:Nat}(hi:i < 3)(hk:k < 3)(ei:emp (pt i s)=false)(ek:emp (pt k t)=false):
  key (apS xmul s t).lo≤key (Qp i k (pt i s) (pt k t)).lo∧key (Qp i k (pt i s) (pt k t)).hi≤key (apS xmul s t).hi:=by
 obtain⟨⟨x,y,hx,hy,e⟩,⟨x',y',hx',hy',e'⟩⟩:=ag2 hs ht hi hk ei ek
 have en:=abO (o:=xmul) es et
 obtain⟨⟨cx,cy,c1,c2,c3⟩,_⟩:=corner hs ht (aaP hs hx) (aaP ht hy)
 obtain⟨_,⟨dx,dy,d1,d2,d3⟩⟩:=corner hs ht (aaP hs hx') (aaP ht hy')
 have a:=en.1.2 cx cy c1 c2
 have b:=en.2.2 dx dy d1 d2
 rw[e,e']
 omega
theorem F2:(∃ i k,i < 3∧k < 3∧emp (pt i s)=false∧emp (pt k t)=false∧(Qp i k (pt i s) (pt k t)).lo=(apS xmul s t).lo)∧
  (∃ i k,i < 3∧k < 3∧emp (pt i s)=false∧emp (pt k t)=false∧(Qp i k (pt i s) (pt k t)).hi=(apS xmul s t).hi):=by
 have en:=abO (o:=xmul) es et
 have ok:=ahw hs ht
 constructor
 ·obtain⟨cx,cy,c1,c2,c3⟩:=en.1.1
  have co:=aah hs ht es et c1 c2
  obtain⟨i,hi,xi⟩:=cls hs co.1
  obtain⟨k,hk,yk⟩:=cls ht co.2
  have ei:=zX xi
  have ek:=zX yk
  have q:=ah1 hs ht hi hk xi yk
  have f:=F1 hs ht es et hi hk ei ek
  refine⟨i,k,hi,hk,ei,ek,key_inj (ah2 hs ht i k).1 ok.1 ?_⟩
  rw[←c3]at q
  omega
 ·obtain⟨cx,cy,c1,c2,c3⟩:=en.2.1
  have co:=aah hs ht es et c1 c2
  obtain⟨i,hi,xi⟩:=cls hs co.1
  obtain⟨k,hk,yk⟩:=cls ht co.2
  have ei:=zX xi
  have ek:=zX yk
  have q:=ah1 hs ht hi hk xi yk
  have f:=F1 hs ht es et hi hk ei ek
  refine⟨i,k,hi,hk,ei,ek,key_inj (ah2 hs ht i k).2 ok.2 ?_⟩
  rw[←c3]at q
  omega
end
section
variable {s t:Sp}(hs:oks C s)(ht:oks C t)(es:emp s=false)(et:emp t=false)(ps:Pr s)(pt':Pr t)
include hs ht es et ps pt'
end
section
variable {s t:Sp}(hs:oks C s)(ht:oks C t)(es:emp s=false)(et:emp t=false)(ps:Pr s)(pt':Pr t)
include hs ht es et ps pt'
end
end Go.N
namespace Go.N
open Go Go.Q Go.Rx
def pp(i:Nat)(s:Sp):Sp:=if i=0 then⟨xneg (negS s).hi,xneg (negS s).lo⟩else posS s
section
variable (lf:Nat)(h3:200000≤lf){s t:Sp}(hs:oks C s)(ht:oks C t)(ps:Pr s)(pt':Pr t)
include h3 hs ht ps pt'
def sv(s:Sp):List IV:=[ac (toA (negS s)),ac (toA (zerS s)),ac (toA (posS s))]
end
end Go.N
namespace Go.N
open Go Go.Q Go.Rx
section
variable {s t:Sp}(hs:oks C s)(ht:oks C t){x y:Int}(bx: -Dd < x∧x < Dd)(by': -Dd < y∧y < Dd)(hx:inS s x=true)(hy:inS t y=true)
include hs ht bx by' hx hy
end
section
variable {s t:Sp}(hs:oks C s)(ht:oks C t)(ps:Pr s)(pt':Pr t){x y:Int}(bx: -Dd < x∧x < Dd)(by': -Dd < y∧y < Dd)(hx:inS s x=true)(hy:inS t y=true)
include hs ht ps pt' bx by' hx hy
end
end Go.N
namespace Go.N
open Go Go.Q Go.Rx
section
variable {a b:A}(ha:Wf a)(hb:Wf b)
include ha hb
end
end Go.N
namespace Go.N
open Go Go.Q Go.Rx
namespace WfV
variable {v:Vl}(h:WfV v)
include h
theorem em:v.a.em=v.c.em:=by
 have r:=h.red
 unfold Go.N.red at r
 cases e1:v.a.em with
 | true =>
  rw[if_pos e1]at r
  rw[←r];rfl
 | false=>cases e2:v.c.em with
  | false=>rfl
  | true =>
   rw[if_neg (by simp[e1]),if_pos e2]at r
   rw[←r]at e1;simp[Ev,E0]at e1
theorem ev(e:v.a.em=true):v=Ev:=by
 have r:=h.red
 unfold Go.N.red at r
 rw[if_pos e]at r
 exact r.symm
theorem one(e:v.a.em=false)(m:v.c.m=0):v=onev v.c.r∧inS (ofA v.a) v.c.r=true:=by
 have r:=h.red
 have e2:v.c.em=false:=by rw[←h.em,e]
 unfold Go.N.red at r
 rw[if_neg (by simp[e]),if_neg (by simp[e2]),if_pos m]at r
 split at r
 ·exact⟨r.symm,by assumption⟩
 ·rw[←r]at e;simp[Ev,E0]at e
theorem fin(e:v.a.em=false)(m:v.c.m≠0):fin3 (v.a.lo.map (loC v.c)) (v.a.hi.map (hiC v.c)) v.c=v:=by
 have r:=h.red
 have e2:v.c.em=false:=by rw[←h.em,e]
 unfold Go.N.red at r
 rwa [if_neg (by simp[e]),if_neg (by simp[e2]),if_neg m]at r
theorem bnd(e:v.a.em=false):(∀ l,v.a.lo=some l→inC v.c l=true)∧∀ l,v.a.hi=some l→inC v.c l=true:=by
 have e2:v.c.em=false:=by rw[←h.em,e]
 by_cases m:v.c.m=0
 ·obtain⟨o,i⟩:=h.one e m
  have hs:inC v.c v.c.r=true:=(yR e2 h.c.pos).2 (by simp)
  constructor
  ·intro l hl
   rw[o]at hl;cases hl;exact hs
  ·intro l hl
   rw[o]at hl;cases hl;exact hs
 ·have p:0 < v.c.m:=by have:=h.c.pos;omega
  have f:=h.fin e m
  have ck:=h.a
  have lo:=ck.lo
  have hi:=ck.hi
  revert f lo hi
  cases hl:v.a.lo with
  | none=>cases hh:v.a.hi with
   | none=>intro _ _ _;exact⟨nofun,nofun⟩
   | some u =>
    intro f lo hi
    have f2:=congrArg (fun x=>x.a.hi) f
    simp only[Option.map,fin3,Option.bind,hh]at f2
    have hu:hiC v.c u=u:=by
     unfold clip at f2;split at f2
     ·exact Option.some.inj f2
     ·cases f2
    exact⟨nofun,fun l x=>by cases x;exact(yR e2 h.c.pos).2 (by have:=aia p u;rwa [hu]at this)⟩
  | some l=>cases hh:v.a.hi with
   | none =>
    intro f lo hi
    have f2:=congrArg (fun x=>x.a.lo) f
    simp only[Option.map,fin3,Option.bind,hl]at f2
    have hu:loC v.c l=l:=by
     unfold clip at f2;split at f2
     ·exact Option.some.inj f2
     ·cases f2
    exact⟨fun l x=>(by cases x;exact(yR e2 h.c.pos).2 (by have:=aic p l;rwa [hu]at this)),nofun⟩
   | some u =>
    intro f lo hi
    simp only[Option.map,fin3]at f
    split at f
    ·rw[←f]at e;simp[Ev,E0]at e
    ·split at f
     ·rw[←f]at m;simp[onev]at m
     ·have f1:=congrArg (fun x=>x.a.lo) f
      have f2:=congrArg (fun x=>x.a.hi) f
      simp only[hl,hh]at f1 f2
      have h1:loC v.c l=l:=by
       unfold clip at f1;split at f1
       ·exact Option.some.inj f1
       ·cases f1
      have h2:hiC v.c u=u:=by
       unfold clip at f2;split at f2
       ·exact Option.some.inj f2
       ·cases f2
      exact⟨fun k x=>(by cases x;exact(yR e2 h.c.pos).2 (by have:=aic p l;rwa [h1]at this)),fun k x=>(by cases x;exact(yR e2 h.c.pos).2 (by have:=aia p u;rwa [h2]at this))⟩
end WfV
end Go.N
namespace Go.N
open Go Go.Q Go.Rx
section
variable {a b:Vl}(ha:WfV a)(hb:WfV b)
include ha hb
end
section
variable {a b:Vl}(ha:WfV a)(hb:WfV b)
include ha hb
end
end Go.N
namespace Go.N
open Go Go.Q Go.Rx
abbrev tb(b:ByteArray):Nat:=b.data.toList.length
def SmV(x:VV):Prop:=tb x.1.2.1≤100000∧tb x.1.2.2.1≤100000∧tb x.2.1.2.1≤100000∧tb x.2.1.2.2.1≤100000
theorem zJ(x y:VV):(((x.1.1==y.1.1)&&((x.1.2.1==y.1.2.1)&&((x.1.2.2.1==y.1.2.2.1)&&true)))&&(((x.2.1.1==y.2.1.1)&&((x.2.1.2.1==y.2.1.2.1)&&((x.2.1.2.2.1==y.2.1.2.2.1)&&true)))&&true))=decide (x=y):=by
 obtain⟨⟨e1,l1,m1,⟨⟩⟩,⟨e2,l2,m2,⟨⟩⟩,⟨⟩⟩:=x
 obtain⟨⟨f1,p1,q1,⟨⟩⟩,⟨f2,p2,q2,⟨⟩⟩,⟨⟩⟩:=y
 rw[Bool.eq_iff_iff]
 simp only[ail,Bool.and_eq_true,beq_iff_eq,decide_eq_true_eq,Bool.and_true,Prod.mk.injEq,and_true]
theorem ajf{a:A}{c:Cg}(ha:Wf a)(hc:WfC c)(h:vc (red a c)=vc ⟨a,c⟩):∃ v,vc ⟨a,c⟩=vc v∧WfV v:=by
 simp only[vc,Prod.mk.injEq]at h
 have e1:=aij h.1
 obtain⟨e2,e3⟩:=aip h.2.1
 cases ec:c.em with
 | true =>
  have hE:red a c=Ev:=by
   unfold red
   by_cases e:a.em=true
   ·rw[if_pos e]
   ·rw[if_neg e,if_pos ec]
  refine⟨Ev,?_,Ev_V⟩
  rw[hE]at e1
  simp only[vc,←e1]
  rw[yD ec];rfl
 | false =>
  rw[ec]at e2
  refine⟨⟨a,c⟩,rfl,ha,hc,?_⟩
  have e4:=e3 e2
  show red a c=⟨a,c⟩
  generalize red a c=r at *
  cases r;simp_all
section
variable (lf:Nat)(hb:Big lf)
include hb
theorem chkV{x:VV}(hx:SmV x):∃ n:Int,dQ.f lf x=some (n,())∧dI.f lf x=some (n,())∧(n=0→∃ v,x=vc v∧WfV v):=by
 have hlf:=hb.1
 have h3:200000≤lf:=by omega
 obtain⟨⟨e1,l1,m1,⟨⟩⟩,⟨e2,l2,m2,⟨⟩⟩,⟨⟩⟩:=x
 obtain⟨x1,x2,x3,x4⟩:=hx
 rw[←uD l1,←uD m1,←uD l2,←uD m2]
 simp only[tb]at x1 x2 x3 x4
 revert x1 x2 x3 x4
 generalize l1.data.toList=l1
 generalize m1.data.toList=m1
 generalize l2.data.toList=l2
 generalize m2.data.toList=m2
 intro x1 x2 x3 x4
 have p1:=yF lf h3 e1 l1 m1 (by omega) (by omega)
 have p2:=aad lf h3 e1 l1 m1 (by omega) (by omega) (by omega) (by omega)
 have q1:=ah7 lf h3 e2 l2 m2 (by omega) (by omega)
 have q2:=adM lf h3 e2 l2 m2 (by omega) (by omega) (by omega) (by omega)
 rw[dQ.f,nZ.f,dI.f]
 simp only[p1,p2,bdS]
 by_cases k1:ck e1 l1 m1=0
 ·rw[k1]
  simp only[bne_self_eq_false,brF,q1,q2,bdS]
  by_cases k2:ckc e2 l2 m2=0
  ·obtain⟨a,ea,ha⟩:=aiT k1
   obtain⟨c,ec,hc⟩:=air k2
   rw[k2]
   have r1:=agW lf hb ha hc
   have r2:=agl lf hb ha hc
   rw[←ea,←ec]at r1 r2
   simp only[bne_self_eq_false,brF,r1,r2,bdS]
   have bq:=zJ (vc (red a c)) ((e1,bs l1,bs m1,()),(e2,bs l2,bs m2,()),())
   simp only at bq
   rw[bq,ea,ec]
   by_cases h:vc (red a c)=(ac a,cc c,())
   ·rw[decide_eq_true h,Bool.not_true,brF]
    exact⟨0,rfl,rfl,fun _=>ajf ha hc h⟩
   ·rw[decide_eq_false h,Bool.not_false,brT]
    exact⟨3,rfl,rfl,nofun⟩
  ·simp only[bneT k2,brT]
   exact⟨_,rfl,rfl,fun h=>absurd h k2⟩
 ·simp only[bneT k1,brT,bdS]
  exact⟨_,rfl,rfl,fun h=>absurd h k1⟩
theorem smV{v:Vl}(h:WfV v):SmV (vc v):=by
 obtain⟨l,m,e1,_,a1,a2⟩:=aev h.a
 obtain⟨l',m',e2,_,b1,b2⟩:=abK h.c
 unfold SmV vc
 rw[e1,e2]
 simp only[tb];omega
theorem chk_wf{v:Vl}(h:WfV v):dQ.f lf (vc v)=some (0,())∧dI.f lf (vc v)=some (0,()):=by
 have hlf:=hb.1
 have h3:200000≤lf:=by omega
 have p1:=abY lf h3 h.a
 have p2:=aaS lf h3 h.a
 have q1:=ccheck lf hb h.c
 have q2:=rcheck lf hb h.c
 have r1:=agW lf hb h.a h.c
 have r2:=agl lf hb h.a h.c
 rw[h.red]at r1 r2
 have bq:=zJ (vc v) (vc v)
 rw[decide_eq_true rfl]at bq
 constructor
 ·rw[dQ.f,nZ.f]
  simp only[show(vc v).1=ac v.a from rfl,show(vc v).2.1=cc v.c from rfl]at bq⊢
  simp only[p1,q1,r1,bdS,bne_self_eq_false,brF]
  simp only[show(vc v).1=ac v.a from rfl,show(vc v).2.1=cc v.c from rfl,bq,Bool.not_true,brF]
 ·rw[dI.f]
  simp only[show(vc v).1=ac v.a from rfl,show(vc v).2.1=cc v.c from rfl]at bq⊢
  simp only[p2,q2,r2,bdS,bne_self_eq_false,brF]
  simp only[show(vc v).1=ac v.a from rfl,show(vc v).2.1=cc v.c from rfl,bq,Bool.not_true,brF]
end
end Go.N
namespace Go.N
open Go Go.Q Go.Rx
section
variable (lf:Nat)(hb:Big lf){v w:Vl}(hv:WfV v)(hw:WfV w)
include hb hv hw
end
section
variable (lf:Nat)(hb:Big lf){v:Vl}(hv:WfV v)
include hb hv
end
section
variable (lf:Nat)(hb:Big lf){x y:VV}(hx:SmV x)(hy:SmV y)
include hb hx hy
end
end Go.N
namespace Go.N
open Go Go.Q Go.Rx
theorem adU(lf:Nat)(x:IV):∃ b,ja.f lf x=some (b,())∧(b=true→tb x.2.1≤100000∧tb x.2.2.1≤100000):=by
 rw[ja.f]
 simp only[fG.f,bdS]
 by_cases h:((x.2.1.size:Nat):Int)≤250
 ·rw[decide_eq_true h,brT]
  refine⟨_,rfl,fun k=>?_⟩
  have k:=of_decide_eq_true k
  rw[Lib.size_eq]at h k
  exact⟨by simp only[tb];omega,by simp only[tb];omega⟩
 ·rw[decide_eq_false h,brF]
  exact⟨_,rfl,nofun⟩
theorem ahh(lf:Nat)(x y:IV):∃ b,jK.f lf x y=some (b,())∧(b=true→(tb x.2.1≤100000∧tb x.2.2.1≤100000)∧(tb y.2.1≤100000∧tb y.2.2.1≤100000)):=by
 rw[jK.f]
 by_cases h1:((x.2.1.size:Nat):Int)≤450
 ·rw[decide_eq_true h1,brT]
  by_cases h2:((x.2.2.1.size:Nat):Int)≤450
  ·rw[decide_eq_true h2,brT]
   by_cases h3:((y.2.1.size:Nat):Int)≤450
   ·rw[decide_eq_true h3,brT]
    refine⟨_,rfl,fun k=>?_⟩
    have k:=of_decide_eq_true k
    rw[Lib.size_eq]at h1 h2 h3 k
    exact⟨⟨by simp only[tb];omega,by simp only[tb];omega⟩,by simp only[tb];omega,by simp only[tb];omega⟩
   ·rw[decide_eq_false h3,brF];exact⟨_,rfl,nofun⟩
  ·rw[decide_eq_false h2,brF];exact⟨_,rfl,nofun⟩
 ·rw[decide_eq_false h1,brF];exact⟨_,rfl,nofun⟩
theorem aiA(lf:Nat)(x y:VV):∃ b,jb.f lf x y=some (b,())∧(b=true→SmV x∧SmV y):=by
 obtain⟨a,a1,a2⟩:=ahh lf x.1 y.1
 obtain⟨b,b1,b2⟩:=adU lf x.2.1
 obtain⟨c,c1,c2⟩:=adU lf y.2.1
 rw[jb.f,a1,bdS]
 cases a with
 | false=>simp only[brF];exact⟨_,rfl,nofun⟩
 | true =>
  simp only[brT,b1,bdS]
  cases b with
  | false=>simp only[brF];exact⟨_,rfl,nofun⟩
  | true =>
   simp only[brT,c1,bdS]
   refine⟨_,rfl,fun k=>?_⟩
   obtain⟨q1,q2⟩:=a2 rfl
   have q3:=b2 rfl
   have q4:=c2 k
   exact⟨⟨q1.1,q1.2,q3.1,q3.2⟩,q2.1,q2.2,q4.1,q4.2⟩
theorem bigN(n:Nat):∃ lf,Big lf∧n≤lf:=⟨2000000000+K.toNat+n,⟨by omega,by omega⟩,by omega⟩
theorem bigE:∃ lf,Big lf:=⟨_,(bigN 0).choose_spec.1⟩
end Go.N
namespace Go.N
open Go Go.Q Go.Rx
def GoodV(x:VV):Prop:=∃ v,x=vc v∧WfV v∧v.a.em=false
noncomputable def fulN (lf:Nat) (x:VV):Int:=((gB.f lf x).getD (0,())).1
section
variable (lf:Nat)(hb:Big lf)
include hb
theorem wK{x:VV}(hx:SmV x):gB.f lf x=some (fulN lf x,())∧(bd (dI.f lf x) fun r1=>br (r1.1 != 0) (some (r1.1,())) (bd (fZ.f lf x) fun r2=>br r2.1 (some (16,())) (some (0,()))))=some (fulN lf x,())∧(fulN lf x=0↔GoodV x):=by
 have key:∃ n:Int,gB.f lf x=some (n,())∧(bd (dI.f lf x) fun r1=>br (r1.1 != 0) (some (r1.1,())) (bd (fZ.f lf x) fun r2=>br r2.1 (some (16,())) (some (0,()))))=some (n,())∧(n=0↔GoodV x):=by
  obtain⟨n,h1,h2,h3⟩:=chkV lf hb hx
  unfold gB.f
  rw[h1,h2,bdS,bdS]
  by_cases hn:n=0
  ·subst hn
   obtain⟨v,rfl,hv⟩:=h3 rfl
   rw[show(((0:Int),()).1 != 0)=false from rfl,brF,brF,show fJ.f lf (vc v)=some (v.a.em,()) from rfl,show fZ.f lf (vc v)=some (v.a.em,()) from rfl,bdS]
   cases he:v.a.em with
   | true =>
    refine⟨16,by rw[brT],by rw[brT],fun h=>(by omega),fun⟨w,e,hw,e2⟩=>?_⟩
    have:=congrArg (fun x:VV=>x.1.1) e
    have:v.a.em=w.a.em:=this
    rw[he,e2]at this;cases this
   | false=>exact⟨0,by rw[brF],by rw[brF],fun _=>⟨v,rfl,hv,he⟩,fun _=>rfl⟩
  ·rw[show((n,()).1 != 0)=true by simpa using hn,brT,brT]
   refine⟨n,rfl,rfl,fun h=>absurd h hn,fun⟨v,e,hv,_⟩=>?_⟩
   subst e
   have:=(chk_wf lf hb hv).1
   rw[h1]at this
   simp at this;exact this
 obtain⟨n,h1,h2,h3⟩:=key
 have e:fulN lf x=n:=by unfold fulN;rw[h1];rfl
 rw[e];exact⟨h1,h2,h3⟩
end
noncomputable def ckS (lf:Nat) (N:Int):Option VV→Int→List Sg3→Int×Int
 | _,e,[]=>(0,e)
 | p,e,s::r=>if s.1≠e then(20,e)else if s.2.1≤s.1 then(15,e)else if N < s.2.1 then(15,e)else if fulN lf s.2.2.1≠0 then(fulN lf s.2.2.1,e)else if p=some s.2.2.1 then(7,e)else ckS lf N (some s.2.2.1) s.2.1 r
def RS(N:Int):Option VV→Int→List Sg3→Prop
 | _,e,[]=>e=N
 | p,e,s::r=>s.1=e∧e < s.2.1∧s.2.1≤N∧GoodV s.2.2.1∧p≠some s.2.2.1∧RS N (some s.2.2.1) s.2.1 r
theorem RS.chn{N:Int}:∀ {l:List Sg3} {p:Option VV} {e:Int},RS N p e l→Chn N e l
 | [],p,e,h=>h
 | s::r,p,e,⟨h1,h2,h3,_,_,h6⟩=>⟨h1,h2,h3,h6.chn⟩
theorem RS.good{N:Int}:∀ {l:List Sg3} {p:Option VV} {e:Int},RS N p e l→∀ s∈l,GoodV s.2.2.1
 | [],p,e,h,s,hs=>by cases hs
 | s::r,p,e,⟨_,_,_,h4,_,h6⟩,q,hq=>by
  rcases List.mem_cons.1 hq with rfl | hq
  ·exact h4
  ·exact h6.good q hq
structure Right(l:List Sg3)(n:Int):Prop where
 n1:1≤n
 n2:n≤32
 ne:l≠[]
 rs:RS n none 0 l
theorem ab8{l:List Sg3}(h:∀ s∈l,GoodV s.2.2.1):∀ x∈expand l,GoodV x:=by
 intro x hx
 obtain⟨s,hs,hx⟩:=List.mem_flatMap.1 hx
 rw[(List.mem_replicate.1 hx).2];exact h s hs
theorem ae3{l:List VV}(h:∀ x∈l,GoodV x):∃ vs:List Vl,l=vs.map vc∧(∀ v∈vs,WfV v∧v.a.em=false):=by
 induction l with
 | nil=>exact⟨[],rfl,fun v hv=>by cases hv⟩
 | cons x l ih =>
  obtain⟨vs,rfl,h2⟩:=ih fun y hy=>h y (List.mem_cons_of_mem _ hy)
  obtain⟨v,rfl,h3,h4⟩:=h x (List.mem_cons_self ..)
  exact⟨v::vs,rfl,fun w hw=>by
   rcases List.mem_cons.1 hw with rfl | hw
   ·exact⟨h3,h4⟩
   ·exact h2 w hw⟩
theorem Right.vals{l:List Sg3}{n:Int}(h:Right l n):∃ vs:List Vl,expand l=vs.map vc∧(∀ v∈vs,WfV v∧v.a.em=false)∧(vs.length:Int)=n:=by
 obtain⟨vs,h1,h2⟩:=ae3 (ab8 h.rs.good)
 refine⟨vs,h1,h2,?_⟩
 have:=h.rs.chn.len.1
 rw[h1,List.length_map]at this
 omega
def prv(l:List Sg3)(j:Nat):Option VV:=if j=0 then none else(l[j-1]?).map fun s=>s.2.2.1
section
variable (lf:Nat)(hb:Big lf)
include hb
theorem aae{N:Int}:∀ {l:List Sg3} {p:Option VV} {e:Int},(∀ s∈l,SmV s.2.2.1)→(((ckS lf N p e l).1=0∧(ckS lf N p e l).2=N)↔RS N p e l)
 | [],p,e,_=>by simp[ckS,RS]
 | s::r,p,e,hs=>by
  have hf:=(wK lf hb (hs s (List.mem_cons_self ..))).2.2
  have ih:=aae (N:=N) (l:=r) (p:=some s.2.2.1) (e:=s.2.1) fun q hq=>hs q (List.mem_cons_of_mem _ hq)
  simp only[ckS,RS]
  split
  ·rename_i h;constructor
   ·intro h';have:(20:Int)=0:=h'.1;omega
   ·intro h';exact absurd h'.1 h
  rename_i h1
  have h1:s.1=e:=Classical.not_not.1 h1
  split
  ·constructor
   ·intro h';have:(15:Int)=0:=h'.1;omega
   ·intro h';omega
  split
  ·constructor
   ·intro h';have:(15:Int)=0:=h'.1;omega
   ·intro h';omega
  split
  ·rename_i h
   constructor
   ·intro h';exact absurd h'.1 h
   ·intro h';exact absurd (hf.2 h'.2.2.2.1) h
  rename_i h4
  split
  ·rename_i h;constructor
   ·intro h';have:(7:Int)=0:=h'.1;omega
   ·intro h';exact absurd h h'.2.2.2.2.1
  ·rename_i h
   rw[ih]
   exact⟨fun h'=>⟨h1,by omega,by omega,hf.1 (Classical.not_not.1 h4),h,h'⟩,fun h'=>h'.2.2.2.2.2⟩
def ckZ(p:Int×Int):Bool×(Int×Int×Unit)×(Int×Unit)×Unit:=if p.1=0 then(false,(0,0,()),((p.2,()),()))else(true,(p.1,p.2,()),((0,()),()))
omit hb in
theorem acI{l:List Sg3}{j:Nat}(h:j < l.length):prv l (j+1)=some l[j].2.2.1:=by
 unfold prv;simp[h]
theorem ah5{l:List Sg3}{N:Int}(hs:∀ s∈l,SmV s.2.2.1)(hl:l.length≤1000):∀ (d n j:Nat) (e:Int),j+d=l.length→d < n→
  bD.l0 lf l N l (l.length:Nat) n e j=some (ckZ (ckS lf N (prv l j) e (l.drop j)))
 | 0,n,j,e,hd,hn=>by
  obtain⟨n,rfl⟩:∃ q,n=q+1:=⟨n-1,by omega⟩
  rw[bD.l0,bD.r0,show decide ((j:Int) < ((l.length:Nat):Int))=false by simp;omega,brF,List.drop_eq_nil_of_le (by omega)]
  rfl
 | d+1,n,j,e,hd,hn=>by
  obtain⟨n,rfl⟩:∃ q,n=q+1:=⟨n-1,by omega⟩
  have hj:j < l.length:=by omega
  have hf:=wK lf hb (hs l[j] (List.getElem_mem hj))
  rw[bD.l0,bD.r0,show decide ((j:Int) < ((l.length:Nat):Int))=true by simp;omega,brT,bH l j hj,bdS,List.drop_eq_getElem_cons hj,ckS]
  by_cases h1:l[j].1=e
  ·rw[show(l[j].1 != e)=false by simpa using h1,brF,if_neg (by simpa using h1)]
   by_cases h2:l[j].2.1≤l[j].1
   ·rw[show decide (l[j].1≥l[j].2.1)=true by simpa using h2,brT,if_pos h2];rfl
   ·rw[show decide (l[j].1≥l[j].2.1)=false by simpa using h2,brF,if_neg h2]
    by_cases h3:N < l[j].2.1
    ·rw[show decide (l[j].2.1 > N)=true by simpa using h3,brT,if_pos h3];rfl
    ·rw[show decide (l[j].2.1 > N)=false by simpa using h3,brF,if_neg h3,hf.1,bdS]
     by_cases h4:fulN lf l[j].2.2.1=0
     ·rw[show((fulN lf l[j].2.2.1,()).1 != 0)=false by simpa using h4,brF,if_neg (by simpa using h4)]
      rw[w64 (n:=(j:Int)+1) (by omega) (by omega),show(j:Int)+1=((j+1:Nat):Int) by omega,ah5 hs hl d n (j+1) l[j].2.1 (by omega) (by omega),acI hj]
      by_cases h5:j=0
      ·subst h5
       rw[show decide (((0:Nat):Int) > 0)=false by rfl,brF,if_neg (by simp[prv])]
      ·rw[show decide ((j:Int) > 0)=true by simp;omega,brT,w64 (by omega) (by omega),oZ l ((j:Int)-1) (j-1) (by omega) (by omega),bdS,zJ,bdS]
       have hp:prv l j=some l[j-1].2.2.1:=by unfold prv;rw[if_neg h5,List.getElem?_eq_getElem (by omega)];rfl
       rw[hp]
       by_cases h6:l[j].2.2.1=l[j-1].2.2.1
       ·rw[decide_eq_true h6,brT,if_pos (by rw[h6])];rfl
       ·rw[decide_eq_false h6,brF,if_neg (fun h=>h6 (Option.some.inj h).symm)]
     ·rw[show((fulN lf l[j].2.2.1,()).1 != 0)=true by simpa using h4,brT,if_pos h4]
      unfold ckZ;rw[if_neg h4]
  ·rw[show(l[j].1 != e)=true by simpa using h1,brT,if_pos h1];rfl
theorem ai9{s:Sg3}{e N:Int}(hs:SmV s.2.2.1):jc.f lf s e N=some (if s.1≠e then 20 else if s.2.1≤s.1 then 15 else if N < s.2.1 then 15 else fulN lf s.2.2.1,()):=by
 have hf:=(wK lf hb hs).2.1
 unfold jc.f
 by_cases h1:s.1=e
 ·rw[show(s.1 != e)=false by simpa using h1,brF,if_neg (by simpa using h1)]
  by_cases h2:s.2.1≤s.1
  ·rw[decide_eq_true h2,brT,if_pos h2]
  ·rw[decide_eq_false h2,brF,if_neg h2]
   by_cases h3:N < s.2.1
   ·rw[show decide (s.2.1 > N)=true by simpa using h3,brT,if_pos h3]
   ·rw[show decide (s.2.1 > N)=false by simpa using h3,brF,if_neg h3];exact hf
 ·rw[show(s.1 != e)=true by simpa using h1,brT,if_pos h1]
theorem ah6{l:List Sg3}{N:Int}(hs:∀ s∈l,SmV s.2.2.1)(hl:l.length≤1000):∀ (d n j:Nat) (e:Int),j+d=l.length→d < n→
  aV.l0 lf l N n e j=some (ckZ (ckS lf N (prv l j) e (l.drop j)))
 | 0,n,j,e,hd,hn=>by
  obtain⟨n,rfl⟩:∃ q,n=q+1:=⟨n-1,by omega⟩
  rw[aV.l0,aV.r0,show decide ((j:Int) < ((l.length:Nat):Int))=false by simp;omega,brF,List.drop_eq_nil_of_le (by omega)]
  rfl
 | d+1,n,j,e,hd,hn=>by
  obtain⟨n,rfl⟩:∃ q,n=q+1:=⟨n-1,by omega⟩
  have hj:j < l.length:=by omega
  rw[aV.l0,aV.r0,show decide ((j:Int) < ((l.length:Nat):Int))=true by simp;omega,brT,bH l j hj,bdS,ai9 lf hb (hs l[j] (List.getElem_mem hj)),bdS,List.drop_eq_getElem_cons hj,ckS]
  by_cases h1:l[j].1=e
  ·have h1':¬(l[j].1≠e):=fun h=>h h1
   rw[if_neg h1',if_neg h1']
   by_cases h2:l[j].2.1≤l[j].1
   ·rw[if_pos h2,if_pos h2,show(((15:Int),()).1 != 0)=true from rfl,brT];rfl
   ·rw[if_neg h2,if_neg h2]
    by_cases h3:N < l[j].2.1
    ·rw[if_pos h3,if_pos h3,show(((15:Int),()).1 != 0)=true from rfl,brT];rfl
    ·rw[if_neg h3,if_neg h3]
     by_cases h4:fulN lf l[j].2.2.1=0
     ·rw[show((fulN lf l[j].2.2.1,()).1 != 0)=false by simpa using h4,brF,if_neg (show ¬(fulN lf l[j].2.2.1≠0) from fun h=>h h4)]
      simp only[bdS]
      rw[w64 (n:=(j:Int)+1) (by omega) (by omega),show(j:Int)+1=((j+1:Nat):Int) by omega,ah6 hs hl d n (j+1) l[j].2.1 (by omega) (by omega),acI hj]
      by_cases h5:j=0
      ·subst h5
       rw[show decide (((0:Nat):Int) > 0)=false by rfl,brF,if_neg (by simp[prv])]
      ·rw[show decide ((j:Int) > 0)=true by simp;omega,brT,w64 (by omega) (by omega),oZ l ((j:Int)-1) (j-1) (by omega) (by omega),bdS,zJ]
       have hp:prv l j=some l[j-1].2.2.1:=by unfold prv;rw[if_neg h5,List.getElem?_eq_getElem (by omega)];rfl
       rw[hp]
       by_cases h6:l[j-1].2.2.1=l[j].2.2.1
       ·rw[decide_eq_true h6,brT,if_pos (by rw[h6])];rfl
       ·rw[decide_eq_false h6,brF,if_neg (fun h=>h6 (Option.some.inj h))]
     ·rw[show((fulN lf l[j].2.2.1,()).1 != 0)=true by simpa using h4,brT,if_pos h4]
      unfold ckZ;rw[if_neg h4]
  ·rw[if_pos h1,if_pos h1,show(((20:Int),()).1 != 0)=true from rfl,brT];rfl
noncomputable def ckN (l:List Sg3) (n:Int):Int:=if n < 1 then 2 else if 32 < n then 2 else if l=[]then 20 else if(ckS lf n none 0 l).1≠0 then(ckS lf n none 0 l).1 else if(ckS lf n none 0 l).2≠n then 20 else 0
omit hb in
theorem ahb{p:Int×Int}{n:Int}:br (ckZ p).1 (some ((ckZ p).2.1.1,())) (br ((ckZ p).2.2.1.1 != n) (some ((20:Int),())) (some (0,())))=some (if p.1≠0 then p.1 else if p.2≠n then 20 else 0,()):=by
 unfold ckZ
 by_cases h:p.1=0
 ·rw[if_pos h,if_neg (by simpa using h),brF]
  simp only
  by_cases h2:p.2=n
  ·rw[show(p.2 != n)=false by simpa using h2,brF,if_neg (by simpa using h2)]
  ·rw[show(p.2 != n)=true by simpa using h2,brT,if_pos h2]
 ·rw[if_neg h,if_pos h,brT]
theorem uH{l:List Sg3}{n:Int}(hs:∀ s∈l,SmV s.2.2.1)(hl:l.length≤1000):bD.f lf l n=some (ckN lf l n,())∧aV.f lf l n=some (ckN lf l n,())∧(ckN lf l n=0↔Right l n):=by
 have hlf:l.length < lf+40:=by have:=hb.1;omega
 have h1:=ah5 lf hb (N:=n) hs hl l.length (lf+40) 0 0 (by omega) hlf
 have h2:=ah6 lf hb (N:=n) hs hl l.length (lf+40) 0 0 (by omega) hlf
 have hR:=aae lf hb (N:=n) (p:=none) (e:=0) hs
 rw[List.drop_zero,show prv l 0=none from rfl]at h1 h2
 have h0:((0:Nat):Int)=0:=rfl
 rw[h0]at h1 h2
 unfold bD.f aV.f ckN
 rw[h1,h2,bdS,ahb]
 by_cases c1:n < 1
 ·rw[decide_eq_true c1,brT,if_pos c1]
  exact⟨rfl,rfl,fun h=>by omega,fun h=>by have:=h.n1;omega⟩
 rw[decide_eq_false c1,brF,if_neg c1]
 by_cases c2:32 < n
 ·rw[show decide (n > 32)=true by simpa using c2,brT,if_pos c2]
  exact⟨rfl,rfl,fun h=>by omega,fun h=>by have:=h.n2;omega⟩
 rw[show decide (n > 32)=false by simpa using c2,brF,if_neg c2]
 by_cases c3:l=[]
 ·subst c3
  rw[show((((([]:List Sg3).length:Nat):Int))==0)=true from rfl,brT,if_pos rfl]
  exact⟨rfl,rfl,fun h=>by omega,fun h=>absurd rfl h.ne⟩
 have:((l.length:Nat):Int)≠0:=fun h=>c3 (List.length_eq_zero_iff.1 (by omega))
 rw[show(((l.length:Nat):Int)==0)=false by simpa using this,brF,if_neg c3]
 refine⟨rfl,rfl,fun h=>?_,fun h=>?_⟩
 ·refine⟨by omega,by omega,c3,hR.1 ?_⟩
  split at h
  ·rename_i hc;exact absurd h hc
  ·rename_i hc
   split at h
   ·omega
   ·rename_i hd;exact⟨Classical.not_not.1 hc,Classical.not_not.1 hd⟩
 ·obtain⟨r1,r2⟩:=hR.2 h.rs
  rw[if_neg (by simpa using r1),if_neg (by simpa using r2)]
end
end Go.N
namespace Go.N
open Go.IntKind (i64)
open Go Go.Q Go.Rx
def apS1(b:Nat)(_:Int)(v:V33)(a:List V33):Option (Empty ⊕ List V33):=bd (apL true b a [v]) fun q=>some (.inr q)
theorem abt(b:Nat)(hb:b≤1000):∀ (l:List V33) (i:Int) (a:List V33),a.length+l.length≤1000000→runE (apS1 b) i l a=some (.inr (a++l))
 | [],i,a,h=>by simp[runE]
 | v::l,i,a,h=>by
  simp only[List.length_cons]at h
  rw[zA,apS1,yG,ac2 b a [v] hb (by simp;omega),bdS,lC,abt b hb l (i+1) (a++[v]) (by simp;omega)]
  simp
section
variable (lf:Nat)(hb:Big lf)
include hb
theorem agV{l:List Sg3}{n:Int}(h:Chn n 0 l)(hn:n≤1000)(hl:l.length≤1000):bQ.f lf l=some (expand l,()):=by
 have hlen:=h.len
 have:=tV (S:=apS1 80) (l:=l) (R:=Empty) (L0:=fun n j a=>bQ.l0 lf l (l.length:Nat) l n j a)
  (L1:=fun j y n i a=>bQ.l1 lf l (l.length:Nat) j l y.1 y.2.1 y.2.2.1.1.1 y.2.2.1.1.2.1 y.2.2.1.1.2.2.1 y.2.2.1.2.1.1 y.2.2.1.2.1.2.1 y.2.2.1.2.1.2.2.1 n i a)
  (D:=fun z n j=>bQ.l0 lf l (l.length:Nat) l n (i64.wrap (j+1)) z.1.1) (k1:=fun a=>((a,()),())) (e1:=fun r=>nomatch r) (k0:=fun a=>((a,()),())) (e0:=fun r=>nomatch r)
  (N:=n) (by omega) (q:=lf+40) (by have:=hb.1;omega) (by omega)
  (fun j s _ n i a=>by rw[bQ.l1,bQ.r1,apS1,yG];simp only[lC])
  (fun n j a=>by rw[bQ.l0,bQ.r0])
  (fun r=>nomatch r) (fun a n j=>rfl) l.length (lf+40) 0 0 [] (by omega) (by have:=hb.1;omega) (by simpa using h) (Int.le_refl _)
 rw[bQ.f]
 rw[show(((0:Nat):Int))=0 from rfl]at this
 rw[this,List.drop_zero,abt 80 (by omega) _ _ _ (by simp;omega),lC,bdS]
 rfl
theorem acY{l:List Sg3}{n:Int}(h:Chn n 0 l)(hn:n≤1000)(hl:l.length≤1000):aP.f lf l=some (expand l,()):=by
 have hlen:=h.len
 have:=tV (S:=apS1 80) (l:=l) (R:=Empty) (L0:=fun n j a=>aP.l0 lf l n j a)
  (L1:=fun j y n i a=>aP.l1 lf l j n i a)
  (D:=fun z n j=>aP.l0 lf l n (i64.wrap (j+1)) z.1.1) (k1:=fun a=>((a,()),())) (e1:=fun r=>nomatch r) (k0:=fun a=>((a,()),())) (e0:=fun r=>nomatch r)
  (N:=n) (by omega) (q:=lf+40) (by have:=hb.1;omega) (by omega)
  (fun j s hs n i a=>by rw[aP.l1,aP.r1,hs,bdS,bdS,apS1,yG];simp only[lC])
  (fun n j a=>by rw[aP.l0,aP.r0])
  (fun r=>nomatch r) (fun a n j=>rfl) l.length (lf+40) 0 0 [] (by omega) (by have:=hb.1;omega) (by simpa using h) (Int.le_refl _)
 rw[aP.f]
 rw[show(((0:Nat):Int))=0 from rfl]at this
 rw[this,List.drop_zero,abt 80 (by omega) _ _ _ (by simp;omega),lC,bdS]
 rfl
end
section
variable (lf:Nat)(hb:Big lf)
include hb
end
end Go.N
namespace Go.N
open Go Go.Q Go.Rx
theorem ltd{j:Nat}{k:Nat}:decide ((j:Int) < ((k:Nat):Int))=decide (j < k):=by simp
section
variable (lf:Nat)(hb:Big lf)
include hb
theorem adV{l:List Sg3}(hl:l.length≤40):∀ (d n j:Nat),j+d=l.length→d < n→∃ b,dO.l0 lf l n j=some (b,(),(),())∧(b=false→∀ s∈l.drop j,SmV s.2.2.1)
 | 0,n,j,hd,hn=>by
  obtain⟨n,rfl⟩:∃ q,n=q+1:=⟨n-1,by omega⟩
  refine⟨false,?_,fun _ s hs=>?_⟩
  ·rw[dO.l0,dO.r0,ltd,decide_eq_false (by omega),brF]
  ·rw[List.drop_eq_nil_of_le (by omega)]at hs;cases hs
 | d+1,n,j,hd,hn=>by
  obtain⟨n,rfl⟩:∃ q,n=q+1:=⟨n-1,by omega⟩
  have hj:j < l.length:=by omega
  obtain⟨b,b1,b2⟩:=aiA lf l[j].2.2.1 l[j].2.2.1
  obtain⟨c,c1,c2⟩:=adV hl d n (j+1) (by omega) (by omega)
  rw[dO.l0,dO.r0,ltd,decide_eq_true hj,brT,bH l j hj,bdS,bdS,b1,bdS,w64 (by omega) (by omega),show(j:Int)+1=((j+1:Nat):Int) by omega,c1]
  cases b with
  | false=>exact⟨true,by rw[Bool.not_false,brT],fun h=>by cases h⟩
  | true =>
   refine⟨c,by rw[Bool.not_true,brF],fun h s hs=>?_⟩
   rw[List.drop_eq_getElem_cons hj]at hs
   rcases List.mem_cons.1 hs with rfl | hs
   ·exact(b2 rfl).1
   ·exact c2 h s hs
theorem aiY(l:List Sg3):∃ b,dO.f lf l=some (b,())∧(b=true→l.length≤40∧∀ s∈l,SmV s.2.2.1):=by
 rw[dO.f]
 by_cases h:40 < l.length
 ·exact⟨false,by rw[show decide (((l.length:Nat):Int) > 40)=true by simp;omega,brT],fun h=>by cases h⟩
 ·rw[show decide (((l.length:Nat):Int) > 40)=false by simp;omega,brF]
  obtain⟨b,b1,b2⟩:=adV lf hb (l:=l) (by omega) l.length (lf+40) 0 (by omega) (by have:=hb.1;omega)
  rw[show((0:Nat):Int)=0 from rfl]at b1
  rw[b1,bdS]
  cases b with
  | true=>exact⟨false,by rw[brT],fun h=>by cases h⟩
  | false=>exact⟨true,by rw[brF],fun _=>⟨by omega,fun s hs=>b2 rfl s (by simpa using hs)⟩⟩
end
end Go.N
namespace Go.N
open Go Go.Q Go.Rx
section
variable (lf:Nat)(hb:Big lf){v w:Vl}(hv:WfV v)(hw:WfV w)
include hb hv hw
end
section
variable (lf:Nat)(hb:Big lf){x y:VV}(hx:SmV x)(hy:SmV y)
include hb hx hy
end
section
variable (lf:Nat)(hb:Big lf){x:VV}(hx:SmV x)
include hb hx
theorem itext{a:A}(ha:Wf a):∃ s:List UInt8,kQ.f lf (ac a)=some (bs s,0,())∧jE.f lf (ac a)=some (bs s,())∧s.length≤1000:=by
 have h3:200000≤lf:=by have:=hb.1;omega
 obtain⟨l1,m1,e,c1,a1,b1⟩:=aev ha
 rw[e,kQ.f,jE.f,yF lf h3 a.em l1 m1 (by omega) (by omega),c1]
 have cat:∀ (a b:List UInt8),a.length+b.length≤400000→sCat (bs a) (bs b)=some (bs (a++b)):=fun a b h=>pR a b (by omega)
 have w1:(⟨#[91]⟩:ByteArray)=bs [91]:=rfl
 have w2:(⟨#[44,32]⟩:ByteArray)=bs [44,32]:=rfl
 have w3:(⟨#[93]⟩:ByteArray)=bs [93]:=rfl
 have w4:(⟨#[45,105,110,102]⟩:ByteArray)=bs [45,105,110,102]:=rfl
 have w5:(⟨#[43,105,110,102]⟩:ByteArray)=bs [43,105,110,102]:=rfl
 simp only[bdS,bne_self_eq_false,brF,e0,jU,w1,w2,w3,w4,w5]
 cases a.em with
 | true =>
  simp only[brT,bdS]
  exact⟨[101,109,112,116,121],rfl,rfl,by decide⟩
 | false =>
  simp only[brF]
  by_cases h1:l1=[]<;>by_cases h2:m1=[]
  all_goals
   simp only[h1,h2,decide_true,decide_false,Bool.not_true,Bool.not_false,brT,brF]
   simp (disch:=(simp only[List.length_append,List.length_cons,List.length_nil];omega)) only[cat,bdS]
   exact⟨_,rfl,rfl,by simp only[List.length_append,List.length_cons,List.length_nil];omega⟩
end
end Go.N
namespace Go.N
open Go Go.Q Go.Rx
theorem aeM{A R Z α:Type}(x:Option α)(f:α→Option (R ⊕ A))(e:R→Option Z)(g:A→Option Z):contS (bd x f) e g=bd x fun y=>contS (f y) e g:=by
 rw[iI,iI];cases x<;>rfl
section
variable (lf:Nat)(hb:Big lf)
include hb
end
end Go.N
namespace Go.N
open Go Go.Q Go.Rx
section
variable (lf:Nat)(hb:Big lf)
include hb
end
def lqZ(r:Int ⊕ Unit):Bool×(Int×Unit)×Unit×Unit:=match r with
 | .inl r=>(true,(r,()),(),())
 | .inr _=>(false,(0,()),(),())
theorem aeN(x:Option (Int ⊕ Unit)):(contS x (fun r=>some (lqZ (.inl r))) fun a=>some (lqZ (.inr a)))=x.map lqZ:=by
 cases x with
 | none=>rfl
 | some x=>cases x<;>rfl
section
variable (lf:Nat)(hb:Big lf)
include hb
end
end Go.N
namespace Go.N
open Go Go.Q Go.Rx
section
variable (lf:Nat)(hb:Big lf)
include hb
theorem ahg(b:ByteArray):∃ c,fG.f lf b=some (c,())∧(c=true→b.data.toList.length≤1000):=by
 refine⟨_,rfl,fun h=>?_⟩
 have h:=of_decide_eq_true h
 rw[Lib.size_eq]at h;omega
theorem afL{l:List ByteArray}(hl:l.length≤40):∀ (d n j:Nat),j+d=l.length→d < n→∃ z,dN.l0 lf l (l.length:Nat) n j=some z∧(z.1=true→0≤z.2.1.1)∧(z.1=false→∀ b∈l.drop j,b.data.toList.length≤1000)
 | 0,n,j,hd,hn=>by
  obtain⟨n,rfl⟩:∃ q,n=q+1:=⟨n-1,by omega⟩
  refine⟨(false,(0,()),(),()),?_,fun h=>(by cases h),fun _ s hs=>?_⟩
  ·rw[dN.l0,dN.r0,ltd,decide_eq_false (by omega),brF]
  ·rw[List.drop_eq_nil_of_le (by omega)]at hs;cases hs
 | d+1,n,j,hd,hn=>by
  obtain⟨n,rfl⟩:∃ q,n=q+1:=⟨n-1,by omega⟩
  have hj:j < l.length:=by omega
  obtain⟨b,b1,b2⟩:=ahg lf hb l[j]
  obtain⟨c,c1,c2,c3⟩:=afL hl d n (j+1) (by omega) (by omega)
  have hf:gY.f lf l[j]=some (!b,()):=by rw[gY.f,b1,bdS]
  rw[dN.l0,dN.r0,ltd,decide_eq_true hj,brT,bH l j hj,bdS,hf,bdS,w64 (by omega) (by omega),show(j:Int)+1=((j+1:Nat):Int) by omega,c1]
  cases b with
  | false=>exact⟨(true,(j,()),(),()),by rw[Bool.not_false,brT],fun _=>by simp,fun h=>by cases h⟩
  | true =>
   refine⟨c,by rw[Bool.not_true,brF],c2,fun h s hs=>?_⟩
   rw[List.drop_eq_getElem_cons hj]at hs
   rcases List.mem_cons.1 hs with rfl | hs
   ·exact b2 rfl
   ·exact c3 h s hs
theorem fewI(l:List ByteArray):∃ b,dN.f lf l=some (b,())∧(b=true→l.length≤40∧∀ s∈l,s.data.toList.length≤1000):=by
 rw[dN.f]
 by_cases h:l.length≤40
 ·rw[show decide (((l.length:Nat):Int)≤40)=true by simp;omega,brT]
  obtain⟨z,b1,b2,b3⟩:=afL lf hb (l:=l) h l.length (lf+40) 0 (by omega) (by have:=hb.1;omega)
  rw[show((0:Nat):Int)=0 from rfl]at b1
  rw[b1,bdS]
  cases hz:z.1 with
  | true=>exact⟨_,by rw[brT],fun h=>by
    have:=b2 hz
    rw[show decide (z.2.1.1≥0)=true by simpa using this]at h;cases h⟩
  | false=>exact⟨true,by rw[brF],fun _=>⟨h,fun s hs=>b3 hz s (by simpa using hs)⟩⟩
 ·exact⟨false,by rw[show decide (((l.length:Nat):Int)≤40)=false by simp;omega,brF],fun h=>by cases h⟩
end
end Go.N
namespace Go.N
open Go Go.Q Go.Rx
section
variable (lf:Nat)(hb:Big lf)
include hb
theorem afT{v:Vl}(hv:WfV v){z:Int}(hz: -Dd < z∧z < Dd):dR.f lf (vc v) (bs (Lib.itoa z))=some (inV v z,0,()):=by
 have h3:200000≤lf:=by have:=hb.1;omega
 have hk: -K < z∧z < K:=by have:=Dd_K;omega
 rw[dR.f,(chk_wf lf hb hv).1,bdS]
 simp only[bne_self_eq_false,brF]
 simp only[show(vc v).1=ac v.a from rfl,show(vc v).2.1=cc v.c from rfl,acj lf h3 hv.a hk,ahl lf hb hv.c hk,bdS,bne_self_eq_false,brF]
 unfold inV
 cases inS (ofA v.a) z with
 | false=>simp only[brF,Bool.false_and]
 | true =>
  cases inC v.c z with
  | false=>simp only[brT,brF,Bool.true_and]
  | true=>simp only[brT,BEq.rfl,Bool.true_and]
theorem ai0{v:Vl}(hv:WfV v){z:Int}(hz: -Dd < z∧z < Dd):jq.f lf (vc v) (bs (Lib.itoa z))=some (inV v z,()):=by
 have h3:200000≤lf:=by have:=hb.1;omega
 have hk: -K < z∧z < K:=by have:=Dd_K;omega
 rw[jq.f]
 simp only[show(vc v).1=ac v.a from rfl,show(vc v).2.1=cc v.c from rfl,afV lf h3 hv.a hk,in_r lf hb hv.c hz,bdS]
 unfold inV
 cases inS (ofA v.a) z<;>simp only[brT,brF,Bool.true_and,Bool.false_and]
theorem aiG{l:List UInt8}(h:chk l=0)(hl:l.length≤1000):∃ z:Int,l=Lib.itoa z∧-Dd < z∧z < Dd:=by
 have e:=sW (jH.1 h).1
 refine⟨iv l,e,(ajd _).1 ?_⟩
 have:=vH l
 unfold sz
 rw[←e];omega
end
end Go.N
namespace Go.N
open Go.IntKind (i64)
open Go Go.Q Go.Rx
noncomputable def hdS (lf:Nat) (es:List ByteArray) (i:Int) (v:V33) (a:Unit):Option (Int ⊕ Unit) :=
 bd (idxL es i) fun y=>bd (dR.f lf v y) fun r=>br (r.2.1 != 0) (some (.inl r.2.1)) (br (!r.1) (some (.inl r.2.1)) (some (.inr ())))
def itb(z:Int):ByteArray:=bs (Lib.itoa z)
theorem agn{lf:Nat}{zs:List Int}:∀ (vs:List Vl) (k:Nat),k+vs.length=zs.length→(∀ v∈vs,∀ z∈zs,dR.f lf (vc v) (itb z)=some (inV v z,0,()))→
  runE (hdS lf (zs.map itb)) k (vs.map vc) ()=some (if(List.zipWith inV vs (zs.drop k)).all id=true then .inr ()else .inl 0)
 | [],k,hk,hF=>by simp[runE]
 | v::vs,k,hk,hF=>by
  simp only[List.length_cons]at hk
  have hkw:k < zs.length:=by omega
  have h1:hdS lf (zs.map itb) k (vc v) ()=br (!inV v zs[k]) (some (.inl 0)) (some (.inr ())):=by
   rw[hdS,bH _ _ (by simpa using hkw),bdS,List.getElem_map,hF v (List.mem_cons_self ..) _ (List.getElem_mem hkw),bdS]
   rw[show(((inV v zs[k],(0:Int),()):Bool×Int×Unit).2.1 != 0)=false from rfl,brF]
  rw[List.map_cons,zA,h1,List.drop_eq_getElem_cons hkw,List.zipWith_cons_cons,List.all_cons]
  cases he:inV v zs[k]with
  | false=>rw[Bool.not_false,brT,aag,id,Bool.false_and,if_neg (by simp)]
  | true =>
   rw[Bool.not_true,brF,lC,show(k:Int)+1=((k+1:Nat):Int) by omega,agn vs (k+1) (by omega) (fun v hv=>hF v (List.mem_cons_of_mem _ hv)),id,Bool.true_and]
def errI:List ByteArray→Int
 | []=>0
 | b::l=>if chk b.data.toList≠0 then chk b.data.toList else errI l
theorem ab5:∀ {l:List ByteArray},errI l=0→∀ b∈l,chk b.data.toList=0
 | [],h,b,hb=>by cases hb
 | x::l,h,b,hb=>by
  rw[errI]at h
  split at h
  ·rename_i h';exact absurd h h'
  ·rename_i h'
   rcases List.mem_cons.1 hb with rfl | hb
   ·exact Classical.not_not.1 h'
   ·exact ab5 h b hb
def eZ(e:Int):Bool×(Int×Unit)×Unit×Unit:=if e=0 then(false,(0,()),(),())else(true,(e,()),(),())
theorem Chn.bnd{n:Int}:∀ {l:List Sg3} {e:Int},Chn n e l→0≤e→∀ s∈l,0≤s.1∧s.1 < s.2.1∧s.2.1≤n
 | [],e,h,he,s,hs=>by cases hs
 | x::r,e,⟨h1,h2,h3,h4⟩,he,s,hs=>by
  rcases List.mem_cons.1 hs with rfl | hs
  ·exact⟨by omega,by omega,h3⟩
  ·exact h4.bnd (by omega) s hs
section
variable (lf:Nat)(hb:Big lf)
include hb
theorem at_s{l:List Sg3}{n i:Int}(hl:l.length≤1000)(hs:∀ s∈l,SmV s.2.2.1):∃ r:V33×Int×Unit,pz.f lf l n i=some r∧kF.f lf l n i=some r:=by
 obtain⟨a1,a2,a3⟩:=uH lf hb (n:=n) hs hl
 rw[pz.f,kF.f,a1,a2,bdS,bdS]
 by_cases h:ckN lf l n=0
 ·have hR:=a3.1 h
  have hn:=hR.n2
  rw[show((ckN lf l n,()).1 != 0)=false by simpa using h,brF,brF,agV lf hb hR.rs.chn (by omega) hl,acY lf hb hR.rs.chn (by omega) hl,bdS]
  by_cases h1:i < 0
  ·rw[decide_eq_true h1,brT];exact⟨_,rfl,rfl⟩
  ·rw[decide_eq_false h1,brF]
   by_cases h2:i≥n
   ·rw[decide_eq_true h2,brT];exact⟨_,rfl,rfl⟩
   ·rw[decide_eq_false h2,brF]
    have hlen:=hR.rs.chn.len.1
    obtain⟨k,rfl⟩:=Int.eq_ofNat_of_zero_le (Int.not_lt.1 h1)
    simp only
    rw[bV _ _ (by omega),bdS,List.getElem?_eq_getElem (by omega),bdS]
    exact⟨_,rfl,rfl⟩
 ·rw[show((ckN lf l n,()).1 != 0)=true by simpa using h,brT,brT]
  exact⟨_,rfl,rfl⟩
theorem afU{l:List Sg3}{n:Int}(es:List ByteArray)(h:Chn n 0 l)(hn:n≤1000)(hl:l.length≤1000):
  bI.l1 lf l (l.length:Nat) es false 0 l (lf+40) 0=(runE (hdS lf es) 0 (expand l) ()).map lqZ:=by
 have:=tV (S:=hdS lf es) (l:=l) (L0:=fun n j a=>bI.l1 lf l (l.length:Nat) es false 0 l n j)
  (L1:=fun j y n i a=>bI.l2 lf l (l.length:Nat) j es false 0 l y.1 y.2.1 y.2.2.1.1.1 y.2.2.1.1.2.1 y.2.2.1.1.2.2.1 y.2.2.1.2.1.1 y.2.2.1.2.1.2.1 y.2.2.1.2.1.2.2.1 n i)
  (D:=fun z n j=>br z.1 (some (true,(z.2.1.1,()),((),()))) (bI.l1 lf l (l.length:Nat) es false 0 l n (i64.wrap (j+1))))
  (k1:=fun a=>lqZ (.inr a)) (e1:=fun r=>lqZ (.inl r)) (k0:=fun a=>lqZ (.inr a)) (e0:=fun r=>lqZ (.inl r))
  (N:=n) (by omega) (q:=lf+40) (by have:=hb.1;omega) (by omega)
  (fun j s _ n i a=>by rw[bI.l2,bI.r2,hdS];simp only[aeM,afy,aag,lC];rfl)
  (fun n j a=>by rw[bI.l1,bI.r1];rfl)
  (fun r n j=>by simp only[lqZ,brT]) (fun a n j=>by simp only[lqZ,brF]) l.length (lf+40) 0 0 () (by omega) (by have:=hb.1;omega) (by simpa using h) (Int.le_refl _)
 rw[List.drop_zero,aeN]at this
 exact this
theorem chkB{b:ByteArray}(h:b.data.toList.length≤1000):aW.f lf b=some (chk b.data.toList,())∧dG.f lf b=some (chk b.data.toList,()):=by
 have hlf:=hb.1
 have h1:=oG lf b.data.toList (by omega)
 have h2:=acL lf b.data.toList (by omega) (by omega)
 rw[uD]at h1 h2
 exact⟨h1,h2⟩
theorem adY{l:List Sg3}{es:List ByteArray}(hs:∀ b∈es,b.data.toList.length≤1000)(hl:es.length≤1000):∀ (d n j:Nat),j+d=es.length→d < n→bI.l0 lf l es (es.length:Nat) es false 0 n j=some (eZ (errI (es.drop j)))
 | 0,n,j,hd,hn=>by
  obtain⟨n,rfl⟩:∃ q,n=q+1:=⟨n-1,by omega⟩
  rw[bI.l0,bI.r0,ltd,decide_eq_false (by omega),brF,List.drop_eq_nil_of_le (by omega)];rfl
 | d+1,n,j,hd,hn=>by
  obtain⟨n,rfl⟩:∃ q,n=q+1:=⟨n-1,by omega⟩
  have hj:j < es.length:=by omega
  rw[bI.l0,bI.r0,ltd,decide_eq_true hj,brT,bH es j hj,bdS,(chkB lf hb (hs es[j] (List.getElem_mem hj))).1,bdS,List.drop_eq_getElem_cons hj,errI,w64 (by omega) (by omega),show(j:Int)+1=((j+1:Nat):Int) by omega,adY hs hl d n (j+1) (by omega) (by omega)]
  by_cases h:chk es[j].data.toList=0
  ·rw[show((chk es[j].data.toList,()).1 != 0)=false by simpa using h,brF,if_neg (by simpa using h)]
  ·rw[show((chk es[j].data.toList,()).1 != 0)=true by simpa using h,brT,if_pos h]
   unfold eZ;rw[if_neg h]
theorem adZ{l:List Sg3}{es:List ByteArray}(hs:∀ b∈es,b.data.toList.length≤1000)(hl:es.length≤1000):∀ (d n j:Nat),j+d=es.length→d < n→dh.l0 lf l es n j=some (eZ (errI (es.drop j)))
 | 0,n,j,hd,hn=>by
  obtain⟨n,rfl⟩:∃ q,n=q+1:=⟨n-1,by omega⟩
  rw[dh.l0,dh.r0,ltd,decide_eq_false (by omega),brF,List.drop_eq_nil_of_le (by omega)];rfl
 | d+1,n,j,hd,hn=>by
  obtain⟨n,rfl⟩:∃ q,n=q+1:=⟨n-1,by omega⟩
  have hj:j < es.length:=by omega
  rw[dh.l0,dh.r0,ltd,decide_eq_true hj,brT,bH es j hj,bdS,(chkB lf hb (hs es[j] (List.getElem_mem hj))).2,bdS,List.drop_eq_getElem_cons hj,errI,w64 (by omega) (by omega),show(j:Int)+1=((j+1:Nat):Int) by omega,adZ hs hl d n (j+1) (by omega) (by omega)]
  by_cases h:chk es[j].data.toList=0
  ·rw[show((chk es[j].data.toList,()).1 != 0)=false by simpa using h,brF,if_neg (by simpa using h)]
  ·rw[show((chk es[j].data.toList,()).1 != 0)=true by simpa using h,brT,if_pos h]
   unfold eZ;rw[if_neg h]
theorem aib{vs:List Vl}{zs:List Int}(hlen:vs.length=zs.length)(hN:vs.length≤1000)(hv:∀ v∈vs,WfV v)(hz:∀ z∈zs,-Dd < z∧z < Dd):∀ (d n k:Nat),k+d=vs.length→d < n→
  eF.l0 lf (zs.map itb) (vs.map vc) n k=some (!(List.zipWith inV (vs.drop k) (zs.drop k)).all id,(),(),())
 | 0,n,k,hk,hn=>by
  obtain⟨n,rfl⟩:∃ q,n=q+1:=⟨n-1,by omega⟩
  rw[eF.l0,eF.r0,List.length_map,ltd,decide_eq_false (by omega),brF,List.drop_eq_nil_of_le (by omega)];rfl
 | d+1,n,k,hk,hn=>by
  obtain⟨n,rfl⟩:∃ q,n=q+1:=⟨n-1,by omega⟩
  have hkv:k < vs.length:=by omega
  have hkw:k < zs.length:=by omega
  rw[eF.l0,eF.r0,List.length_map,ltd,decide_eq_true hkv,brT,bV _ _ hkv,bdS,List.getElem?_map,List.getElem?_eq_getElem hkv,Option.map_some,bdS,bH _ k (by simpa using hkw),bdS,List.getElem_map,
   show itb zs[k]=bs (Lib.itoa zs[k]) from rfl,ai0 lf hb (hv _ (List.getElem_mem _)) (hz _ (List.getElem_mem _)),bdS,w64 (by omega) (by omega),show(k:Int)+1=((k+1:Nat):Int) by omega,aib hlen hN hv hz d n (k+1) (by omega) (by omega),List.drop_eq_getElem_cons hkv,List.drop_eq_getElem_cons hkw,List.zipWith_cons_cons,List.all_cons]
  cases inV vs[k] zs[k]with
  | false=>rw[Bool.not_false,brT];rfl
  | true=>rw[Bool.not_true,brF,id,Bool.true_and]
theorem nums{es:List ByteArray}(hs:∀ b∈es,b.data.toList.length≤1000)(h:∀ b∈es,chk b.data.toList=0):∃ zs:List Int,es=zs.map itb∧∀ z∈zs,-Dd < z∧z < Dd:=by
 induction es with
 | nil=>exact⟨[],rfl,fun z hz=>by cases hz⟩
 | cons b es ih =>
  obtain⟨zs,rfl,h2⟩:=ih (fun b hb=>hs b (List.mem_cons_of_mem _ hb)) (fun b hb=>h b (List.mem_cons_of_mem _ hb))
  obtain⟨z,e,hz⟩:=aiG lf hb (h b (List.mem_cons_self ..)) (hs b (List.mem_cons_self ..))
  refine⟨z::zs,?_,fun w hw=>?_⟩
  ·rw[List.map_cons,itb,←e,uD]
  ·rcases List.mem_cons.1 hw with rfl | hw
   ·exact hz
   ·exact h2 w hw
theorem ahm{l:List Sg3}{es:List ByteArray}(hl:l.length≤1000)(hs:∀ s∈l,SmV s.2.2.1)(hel:es.length≤40)(hes:∀ b∈es,b.data.toList.length≤1000):∃ r:Bool×Int×Unit,bI.f lf l es=some r∧dh.f lf l es=some r:=by
 obtain⟨a1,a2,a3⟩:=uH lf hb (n:=(es.length:Nat)) hs hl
 have e1:=adY lf hb (l:=l) hes (by omega) es.length (lf+40) 0 (by omega) (by have:=hb.1;omega)
 have e2:=adZ lf hb (l:=l) hes (by omega) es.length (lf+40) 0 (by omega) (by have:=hb.1;omega)
 rw[show((0:Nat):Int)=0 from rfl,List.drop_zero]at e1 e2
 rw[bI.f,dh.f,a1,a2,bdS,bdS,e1,e2,bdS,bdS]
 by_cases h:ckN lf l (es.length:Nat)=0
 ·have hR:=a3.1 h
  have hn:=hR.n2
  rw[show((ckN lf l (es.length:Nat),()).1 != 0)=false by simpa using h,brF,brF]
  by_cases hE:errI es=0
  ·rw[show eZ (errI es)=(false,(0,()),(),()) by unfold eZ;rw[if_pos hE],brF,brF]
   obtain⟨zs,rfl,hz⟩:=nums lf hb hes (ab5 hE)
   obtain⟨vs,v1,v2,v3⟩:=hR.vals
   rw[List.length_map]at v3 hn hR
   have hlen:vs.length=zs.length:=by omega
   have hp:=agn (lf:=lf) (zs:=zs) vs 0 (by omega) (fun v hv z hz'=>afT lf hb (v2 v hv).1 (hz z hz'))
   have hq:=aib lf hb hlen (by omega) (fun v hv=>(v2 v hv).1) hz vs.length (lf+40) 0 (by omega) (by have:=hb.1;omega)
   rw[show((0:Nat):Int)=0 from rfl,List.drop_zero]at hp
   rw[show((0:Nat):Int)=0 from rfl,List.drop_zero,List.drop_zero]at hq
   rw[afU lf hb (n:=(zs.length:Nat)) (zs.map itb) hR.rs.chn (by omega) hl,v1,hp,eF.f,acY lf hb hR.rs.chn (by omega) hl,bdS,v1,hq,bdS]
   cases (List.zipWith inV vs zs).all id with
   | true=>exact⟨(true,0,()),by simp only[if_true,Option.map_some,bdS,lqZ,brF],by simp only[Bool.not_true,brF,bdS]⟩
   | false=>exact⟨(false,0,()),by simp only[Bool.false_eq_true,if_false,Option.map_some,bdS,lqZ,brT],by simp only[Bool.not_false,brT,bdS]⟩
  ·rw[show eZ (errI es)=(true,(errI es,()),(),()) by unfold eZ;rw[if_neg hE],brT,brT]
   exact⟨_,rfl,rfl⟩
 ·rw[show((ckN lf l (es.length:Nat),()).1 != 0)=true by simpa using h,brT,brT]
  exact⟨_,rfl,rfl⟩
theorem ae1{v:Vl}(hv:WfV v):∃ s:List UInt8,jl.f lf (vc v)=some (bs s,0,())∧dB.f lf (vc v)=some (bs s,())∧s.length≤3000:=by
 obtain⟨s,s1,s2,s3⟩:=itext lf hb (smV lf hb hv) hv.a
 obtain⟨l,m,e,_,e1,e2⟩:=abK hv.c
 have cat:∀ (a b:List UInt8),a.length+b.length≤400000→sCat (bs a) (bs b)=some (bs (a++b)):=fun a b h=>pR a b (by omega)
 have w1:(⟨#[32,109,111,100,32]⟩:ByteArray)=bs [32,109,111,100,32]:=rfl
 have w2:(⟨#[32,61,32]⟩:ByteArray)=bs [32,61,32]:=rfl
 have w3:(⟨#[48]⟩:ByteArray)=bs [48]:=rfl
 have w4:(⟨#[49]⟩:ByteArray)=bs [49]:=rfl
 rw[jl.f,dB.f,(chk_wf lf hb hv).1,bdS]
 simp only[bne_self_eq_false,brF,show(vc v).1=ac v.a from rfl,show(vc v).2.1=cc v.c from rfl,s1,s2,bdS]
 rw[e]
 simp only[w1,w2,w3,w4,jU]
 cases v.c.em with
 | true=>simp only[Bool.not_true,brF,bdS];exact⟨_,rfl,rfl,by omega⟩
 | false =>
  simp only[Bool.not_false,brT]
  by_cases h1:l=[48]
  ·simp only[decide_eq_true h1,Bool.not_true,brF,bdS];exact⟨_,rfl,rfl,by omega⟩
  ·by_cases h2:l=[49]
   ·simp only[decide_eq_false h1,decide_eq_true h2,Bool.not_true,Bool.not_false,brT,brF,bdS];exact⟨_,rfl,rfl,by omega⟩
   ·simp only[decide_eq_false h1,decide_eq_false h2,Bool.not_false,brT]
    simp (disch:=(simp only[List.length_append,List.length_cons,List.length_nil];omega)) only[cat,bdS]
    exact⟨_,rfl,rfl,by simp only[List.length_append,List.length_cons,List.length_nil];omega⟩
end
noncomputable def txtV (lf:Nat) (x:V33):List UInt8:=((jl.f lf x).getD (bs [],0,())).1.data.toList
noncomputable def txtS (lf:Nat) (s:Sg3):List UInt8:=Lib.itoa s.1++((if s.1+1 < s.2.1 then 45::Lib.itoa (s.2.1-1)else [])++(58::32::txtV lf s.2.2.1))
section
variable (lf:Nat)(hb:Big lf)
include hb
theorem adG{x:V33}(h:GoodV x):jl.f lf x=some (bs (txtV lf x),0,())∧dB.f lf x=some (bs (txtV lf x),())∧(txtV lf x).length≤3000:=by
 obtain⟨v,rfl,hv,_⟩:=h
 obtain⟨s,s1,s2,s3⟩:=ae1 lf hb hv
 have:txtV lf (vc v)=s:=by unfold txtV;rw[s1];rfl
 rw[this];exact⟨s1,s2,s3⟩
theorem sZ{z:Int}(h1:0≤z)(h2:z≤1000):(Lib.itoa z).length≤4097:=aco z ((sz_K z).2 (by have:=K_gt;omega))
omit hb in
theorem itoaB{z:Int}(h1:0≤z)(h2:z≤1000):B.Itoa.f lf z=some (bs (Lib.itoa z),()):=by
 unfold B.Itoa.f;rw[if_pos ⟨by omega,by omega⟩]
theorem acV{s:Sg3}(h0:0≤s.1)(h1:s.1 < s.2.1)(h2:s.2.1≤1000)(hg:GoodV s.2.2.1):(txtS lf s).length≤20000:=by
 have a1:=sZ lf hb h0 (by omega)
 have a2:=sZ lf hb (z:=s.2.1-1) (by omega) (by omega)
 have a3:=(adG lf hb hg).2.2
 unfold txtS
 split<;>simp only[List.length_append,List.length_cons,List.length_nil]<;>omega
theorem afM{l:List Sg3}(hl:l.length≤1000)(h:∀ s∈l,0≤s.1∧s.1 < s.2.1∧s.2.1≤1000∧GoodV s.2.2.1):∀ (d n j:Nat),j+d=l.length→d < n→
  dw.l0 lf l (l.length:Nat) n j ((l.take j).map fun s=>bs (txtS lf s))=some ((l.map fun s=>bs (txtS lf s),()),())
 | 0,n,j,hd,hn=>by
  obtain⟨n,rfl⟩:∃ q,n=q+1:=⟨n-1,by omega⟩
  rw[dw.l0,dw.r0,ltd,decide_eq_false (by omega),brF,List.take_of_length_le (by omega)]
 | d+1,n,j,hd,hn=>by
  obtain⟨n,rfl⟩:∃ q,n=q+1:=⟨n-1,by omega⟩
  have hj:j < l.length:=by omega
  obtain⟨g0,g1,g2,g3⟩:=h l[j] (List.getElem_mem hj)
  obtain⟨t1,t2,t3⟩:=adG lf hb g3
  have a1:=sZ lf hb g0 (by omega)
  have a2:=sZ lf hb (z:=l[j].2.1-1) (by omega) (by omega)
  have cat:∀ (a b:List UInt8),a.length+b.length≤400000→sCat (bs a) (bs b)=some (bs (a++b)):=fun a b h=>pR a b (by omega)
  have w1:(⟨#[45]⟩:ByteArray)=bs [45]:=rfl
  have w2:(⟨#[58,32]⟩:ByteArray)=bs [58,32]:=rfl
  have ih:=afM hl h d n (j+1) (by omega) (by omega)
  have hsure:∀ (s:ByteArray) (e:Int),gW.f lf s e=some (s,()):=fun _ _=>rfl
  have happ:(l.take j).map (fun s=>bs (txtS lf s))++[bs (txtS lf l[j])]=(l.take (j+1)).map fun s=>bs (txtS lf s):=by
   rw[show l.take (j+1)=l.take j++[l[j]] by rw[List.take_append_getElem hj],List.map_append];rfl
  rw[dw.l0,dw.r0,ltd,decide_eq_true hj,brT,bH l j hj,bdS,itoaB lf g0 (by omega),bdS,w64 (n:=l[j].1+1) (by omega) (by omega),w64 (n:=l[j].2.1-1) (by omega) (by omega),w64 (n:=(j:Int)+1) (by omega) (by omega),show(j:Int)+1=((j+1:Nat):Int) by omega,itoaB lf (z:=l[j].2.1-1) (by omega) (by omega)]
  by_cases hc:l[j].1+1 < l[j].2.1
  ·have e:txtS lf l[j]=((Lib.itoa l[j].1++([45]++Lib.itoa (l[j].2.1-1)))++[58,32])++txtV lf l[j].2.2.1:=by unfold txtS;rw[if_pos hc];simp
   rw[show decide (l[j].2.1 > l[j].1+1)=true by simpa using hc,brT]
   simp (disch:=(simp only[List.length_append,List.length_cons,List.length_nil];omega)) only[w1,w2,cat,bdS,t1,hsure]
   rw[←e,ac2 16 _ _ (by omega) (by simp;omega),bdS,happ]
   exact ih
  ·have e:txtS lf l[j]=(Lib.itoa l[j].1++[58,32])++txtV lf l[j].2.2.1:=by unfold txtS;rw[if_neg hc];simp
   rw[show decide (l[j].2.1 > l[j].1+1)=false by simpa using hc,brF]
   simp (disch:=(simp only[List.length_append,List.length_cons,List.length_nil];omega)) only[w2,cat,bdS,t1,hsure]
   rw[←e,ac2 16 _ _ (by omega) (by simp;omega),bdS,happ]
   exact ih
omit hb in
theorem ae7(xs:List (List UInt8))(y sep:List UInt8):Lib.join (xs++[y]) sep=(if xs=[]then []else Lib.join xs sep++sep)++y:=by
 cases xs with
 | nil=>rw[List.nil_append,Lib.join_one,if_pos rfl];rfl
 | cons x r =>
  rw[List.cons_append,Lib.join_cons,Lib.join_cons,if_neg (by simp)]
  simp[Lib.joinTail]
theorem acp{xs:List (List UInt8)}{k:Nat}(h:∀ x∈xs,x.length≤k):(Lib.join xs [59,32]).length≤xs.length*(k+2):=by
 cases xs with
 | nil=>simp[Lib.join_nil]
 | cons x r =>
  rw[Lib.join_cons]
  have hx:=h x (List.mem_cons_self ..)
  have:∀ (r:List (List UInt8)),(∀ y∈r,y.length≤k)→(Lib.joinTail [59,32] r).length≤r.length*(k+2):=by
   intro r
   induction r with
   | nil=>intro _;simp[Lib.joinTail]
   | cons y r ih =>
    intro hr
    have h1:=ih fun z hz=>hr z (List.mem_cons_of_mem _ hz)
    have h2:=hr y (List.mem_cons_self ..)
    simp only[Lib.joinTail,List.map_cons,List.flatten_cons,List.length_append,List.length_cons,List.length_nil]at h1⊢
    rw[Nat.add_mul];omega
  have:=this r fun y hy=>h y (List.mem_cons_of_mem _ hy)
  simp only[List.length_append,List.length_cons]
  rw[Nat.add_mul];omega
theorem afN{l:List Sg3}(hl:l.length≤1000)(h:∀ s∈l,0≤s.1∧s.1 < s.2.1∧s.2.1≤1000∧GoodV s.2.2.1):∀ (d n j:Nat),j+d=l.length→d < n→
  dW.l0 lf l n (bs (Lib.join ((l.take j).map (txtS lf)) [59,32])) j=some ((bs (Lib.join (l.map (txtS lf)) [59,32]),()),())
 | 0,n,j,hd,hn=>by
  obtain⟨n,rfl⟩:∃ q,n=q+1:=⟨n-1,by omega⟩
  rw[dW.l0,dW.r0,ltd,decide_eq_false (by omega),brF,List.take_of_length_le (by omega)]
 | d+1,n,j,hd,hn=>by
  obtain⟨n,rfl⟩:∃ q,n=q+1:=⟨n-1,by omega⟩
  have hj:j < l.length:=by omega
  obtain⟨g0,g1,g2,g3⟩:=h l[j] (List.getElem_mem hj)
  obtain⟨t1,t2,t3⟩:=adG lf hb g3
  have h3:200000≤lf:=by have:=hb.1;omega
  have a1:=sZ lf hb g0 (by omega)
  have a2:=sZ lf hb (z:=l[j].2.1-1) (by omega) (by omega)
  have cat:∀ (a b:List UInt8),a.length+b.length≤400000000→sCat (bs a) (bs b)=some (bs (a++b)):=fun a b h=>pR a b (by omega)
  have w1:(⟨#[45]⟩:ByteArray)=bs [45]:=rfl
  have w2:(⟨#[58,32]⟩:ByteArray)=bs [58,32]:=rfl
  have w3:(⟨#[59,32]⟩:ByteArray)=bs [59,32]:=rfl
  have ih:=afN hl h d n (j+1) (by omega) (by omega)
  have hJ:=ae7 ((l.take j).map (txtS lf)) (txtS lf l[j]) [59,32]
  have hlJ:(Lib.join ((l.take j).map (txtS lf)) [59,32]).length≤100000000:=by
   have:=acp lf hb (xs:=(l.take j).map (txtS lf)) (k:=20000) fun x hx=>by
    obtain⟨s,hs,rfl⟩:=List.mem_map.1 hx
    obtain⟨q0,q1,q2,q3⟩:=h s (List.mem_of_mem_take hs)
    exact acV lf hb q0 q1 q2 q3
   rw[List.length_map,List.length_take]at this
   have h':min j l.length*(20000+2)≤1000*(20000+2):=Nat.mul_le_mul_right _ (by omega)
   omega
  have happ:(l.take j).map (txtS lf)++[txtS lf l[j]]=(l.take (j+1)).map (txtS lf):=by
   rw[show l.take (j+1)=l.take j++[l[j]] by rw[List.take_append_getElem hj],List.map_append];rfl
  rw[happ]at hJ
  have hwh:∀ {z:Int},0≤z→z≤1000→aB.f lf z=some (bs (Lib.itoa z),()):=fun h1 h2=>tZ lf h3 (by omega) (by omega)
  generalize hG:Lib.join ((l.take j).map (txtS lf)) [59,32]=G at hJ hlJ⊢
  rw[dW.l0,dW.r0,ltd,decide_eq_true hj,brT,bH l j hj]
  simp only[bdS]
  rw[w64 (n:=l[j].1+1) (by omega) (by omega),w64 (n:=l[j].2.1-1) (by omega) (by omega),w64 (n:=(j:Int)+1) (by omega) (by omega),show(j:Int)+1=((j+1:Nat):Int) by omega,hwh g0 (by omega),hwh (z:=l[j].2.1-1) (by omega) (by omega)]
  by_cases h0:j=0
  ·subst h0
   have hG0:G=[]:=by rw[←hG];rfl
   subst hG0
   rw[List.take_zero,List.map_nil,if_pos rfl,List.nil_append]at hJ
   rw[show decide (((0:Nat):Int) > 0)=false from rfl,brF]
   by_cases hc:(l[0].1:Int)+(1:Int) < l[0].2.1
   ·have e:txtS lf l[0]=(([]:List UInt8)++Lib.itoa l[0].1)++(([45]:List UInt8)++Lib.itoa (l[0].2.1-1))++(([58,32]:List UInt8)++txtV lf l[0].2.2.1):=by unfold txtS;rw[if_pos hc];simp
    rw[show decide (l[0].2.1 > l[0].1+1)=true by simpa using hc]
    simp (disch:=(simp only[List.length_append,List.length_cons,List.length_nil];omega)) only[w1,w2,cat,bdS,t2,brT,brF]
    rw[←e,←hJ];exact ih
   ·have e:txtS lf l[0]=(([]:List UInt8)++Lib.itoa l[0].1)++(([58,32]:List UInt8)++txtV lf l[0].2.2.1):=by unfold txtS;rw[if_neg hc];simp
    rw[show decide (l[0].2.1 > l[0].1+1)=false by simpa using hc]
    simp (disch:=(simp only[List.length_append,List.length_cons,List.length_nil];omega)) only[w1,w2,cat,bdS,t2,brT,brF]
    rw[←e,←hJ];exact ih
  ·rw[if_neg (by simp;exact⟨h0,List.ne_nil_of_length_pos (by omega)⟩)]at hJ
   rw[show decide ((j:Int) > 0)=true by simp;omega,brT]
   by_cases hc:l[j].1+1 < l[j].2.1
   ·have e:Lib.join ((l.take (j+1)).map (txtS lf)) [59,32]=((G++[59,32])++Lib.itoa l[j].1)++([45]++Lib.itoa (l[j].2.1-1))++([58,32]++txtV lf l[j].2.2.1):=by rw[hJ];unfold txtS;rw[if_pos hc];simp
    rw[show decide (l[j].2.1 > l[j].1+1)=true by simpa using hc]
    simp (disch:=(simp only[List.length_append,List.length_cons,List.length_nil];omega)) only[w1,w2,w3,cat,bdS,t2,brT,brF]
    rw[←e];exact ih
   ·have e:Lib.join ((l.take (j+1)).map (txtS lf)) [59,32]=((G++[59,32])++Lib.itoa l[j].1)++([58,32]++txtV lf l[j].2.2.1):=by rw[hJ];unfold txtS;rw[if_neg hc];simp
    rw[show decide (l[j].2.1 > l[j].1+1)=false by simpa using hc]
    simp (disch:=(simp only[List.length_append,List.length_cons,List.length_nil];omega)) only[w1,w2,w3,cat,bdS,t2,brT,brF]
    rw[←e];exact ih
theorem afP{l:List Sg3}{n:Int}(hl:l.length≤1000)(hs:∀ s∈l,SmV s.2.2.1):∃ r:ByteArray×Int×Unit,dw.f lf l n=some r∧iU.f lf l n=some r:=by
 obtain⟨a1,a2,a3⟩:=uH lf hb (n:=n) hs hl
 rw[dw.f,iU.f,a1,a2,bdS,bdS]
 by_cases h:ckN lf l n=0
 ·have hR:=a3.1 h
  have hn:=hR.n2
  have hg:∀ s∈l,0≤s.1∧s.1 < s.2.1∧s.2.1≤1000∧GoodV s.2.2.1:=fun s hs=>by
   obtain⟨b1,b2,b3⟩:=hR.rs.chn.bnd (Int.le_refl _) s hs
   exact⟨b1,b2,by omega,hR.rs.good s hs⟩
  have f1:=afM lf hb hl hg l.length (lf+40) 0 (by omega) (by have:=hb.1;omega)
  have f2:=afN lf hb hl hg l.length (lf+40) 0 (by omega) (by have:=hb.1;omega)
  rw[List.take_zero,show((0:Nat):Int)=0 from rfl]at f1 f2
  have hJ:=acp lf hb (xs:=l.map (txtS lf)) (k:=20000) fun x hx=>by
   obtain⟨s,hs,rfl⟩:=List.mem_map.1 hx
   obtain⟨q0,q1,q2,q3⟩:=hg s hs
   exact acV lf hb q0 q1 q2 q3
  rw[List.length_map]at hJ
  have h':l.length*(20000+2)≤1000*(20000+2):=Nat.mul_le_mul_right _ hl
  have hj:joinB (l.map fun s=>bs (txtS lf s)) ⟨#[59,32]⟩=Lib.join (l.map (txtS lf)) [59,32]:=by
   unfold joinB;rw[List.map_map];rfl
  rw[show((ckN lf l n,()).1 != 0)=false by simpa using h,brF,brF,dW.f,show(⟨#[]⟩:ByteArray)=bs (Lib.join (List.map (txtS lf) []) [59,32]) from rfl,f2]
  rw[show List.map (fun s=>bs (txtS lf s)) []=[] from rfl]at f1
  rw[f1,bdS,bdS,bdS,B.Join.f,if_pos ⟨by rw[List.length_map];omega,by rw[hj];omega⟩,bdS,hj]
  exact⟨_,rfl,rfl⟩
 ·rw[show((ckN lf l n,()).1 != 0)=true by simpa using h,brT,brT]
  exact⟨_,rfl,rfl⟩
end
end Go.N
namespace Go.N
open Go Go.Q
theorem ag4(lf:Nat):gX.f lf=some (true,()):=by kernel_rfl
end Go.N
namespace Go.Q
open Go Go.RowKit Go.ChangeShapes Go.WideShapes
def flat:Ty→Bool
 | .sl _=>false
 | .pair a b=>flat a&&flat b
 | _=>true
def partsOf(P:Program)(t:TypeId):List (TypeId×Nat):=match P.underlying t with
 | some (.struct fs)=>fs.toList.map fun f=>(f.type,f.offset)
 | some (.array n e)=>(List.range n).map fun i=>(e,i*P.cellsOf e)
 | _=>[]
mutual
def fitT(P:Program):Ty→TypeId→Bool
 | .int k,t=>match P.underlying t with
  | some (.int k')=>decide (k'=k)
  | _=>false
 | .bool,t=>match P.underlying t with
  | some .bool=>true
  | _=>false
 | .str,t=>match P.underlying t with
  | some .string=>true
  | _=>false
 | .unit,_=>false
 | .nul,_=>false
 | .pair a b,t=>match partsOf P t with
  | p::r=>p.2==0&&(fitT P a p.1&&(P.cellsOf p.1==a.n&&(fitL P b r a.n&&P.cellsOf t==a.n+b.n)))
  | []=>false
 | .sl e,t=>match P.underlying t with
  | some (.slice e')=>fitT P e e'&&(flat e&&P.cellsOf e'==e.n)
  | _=>false
def fitL(P:Program):Ty→List (TypeId×Nat)→Nat→Bool
 | .unit,l,_=>match l with
  | []=>true
  | _=>false
 | .pair a b,l,k=>match l with
  | p::r=>p.2==k&&(fitT P a p.1&&(P.cellsOf p.1==a.n&&fitL P b r (k+a.n)))
  | []=>false
 | _,_,_=>false
end
def Bnd:(T:Ty)→T.α→Prop
 | .int k,x=>k.min≤x∧x≤k.max
 | .str,x=>x.size≤9223372036854775807
 | .pair a b,x=>Bnd a x.1∧Bnd b x.2
 | .sl e,l=>l.length≤9223372036854775807∧∀ y∈l,Bnd e y
 | _,_=>True
def Bnds:(ps:List Ty)→Tys ps→Prop
 | [],_=>True
 | t::ts,x=>Bnd t x.1∧Bnds ts x.2
section
variable {H:Type}{enc:TypeId×Value→H}{P:Program}{w:World}{F:Nat→Prop}{sp:Nat→Bool}{held:Bool}
theorem adF{t:TypeId}{fuel:Nat}{cs:List Value}{x:DataW H×List MemPlace}(hp:partsOf P t≠[])(h:DataW.trod enc P w 0 sp held fuel t cs=some x):
  cs.length=P.cellsOf t∧∃ n,∀ p∈partsOf P t,∃ y,DataW.trod enc P w 0 sp held n p.1 ((cs.drop p.2).take (P.cellsOf p.1))=some y:=by
 unfold partsOf at hp⊢
 split at hp
 ·rename_i fs hu
  obtain⟨xs,n,_,_,hl,hxl,hf⟩:=DataW.trod_struct hu h
  refine⟨hl,n,fun p hm=>?_⟩
  simp only[List.mem_map]at hm
  obtain⟨f,hfm,rfl⟩:=hm
  obtain⟨i,hi,he⟩:=List.mem_iff_getElem.1 hfm
  have h1:fs[i]? = some f:=by
   have:fs.toList[i]? = some f:=by rw[List.getElem?_eq_getElem hi,he]
   simpa using this
  have h2:i < xs.length:=by
   rw[hxl];simpa using hi
  exact⟨xs[i],by rw[hf i f h1,List.getElem?_eq_getElem h2]⟩
 ·rename_i n e hu
  obtain⟨xs,m,_,_,hl,hxl,hf⟩:=DataW.trod_array hu h
  refine⟨hl,m,fun p hm=>?_⟩
  simp only[List.mem_map,List.mem_range]at hm
  obtain⟨i,hi,rfl⟩:=hm
  exact⟨xs[i],by rw[hf i hi,List.getElem?_eq_getElem (by omega)]⟩
 ·exact absurd rfl hp
mutual
theorem qM:∀ (T:Ty) (t:TypeId) (cs:List Value) (x:DataW H×List MemPlace) (fuel:Nat),flat T=true→fitT P T t=true→DataW.trod enc P w 0 sp held fuel t cs=some x→∃ y:T.α,DR F w T y cs∧Bnd T y
 | .int k,t,cs,x,fuel,_,hf,h=>by
  unfold fitT at hf
  split at hf
  ·rename_i k' hu
   obtain rfl:k'=k:=by simpa using hf
   obtain⟨n,rfl,_,hw⟩:=DataW.trod_int hu h
   exact⟨n,rfl,by simpa [Lit.wf,Bnd]using hw⟩
  ·cases hf
 | .bool,t,cs,x,fuel,_,hf,h=>by
  unfold fitT at hf
  split at hf
  ·rename_i hu
   obtain⟨b,rfl,_⟩:=DataW.trod_bool hu h
   exact⟨b,rfl,trivial⟩
  ·cases hf
 | .str,t,cs,x,fuel,_,hf,h=>by
  unfold fitT at hf
  split at hf
  ·rename_i hu
   obtain⟨s,rfl,_,hs⟩:=DataW.trod_string hu h
   exact⟨s,rfl,by simpa [maxLen,Bnd]using hs⟩
  ·cases hf
 | .unit,t,cs,x,fuel,_,hf,h=>by simp[fitT]at hf
 | .nul,t,cs,x,fuel,_,hf,h=>by simp[fitT]at hf
 | .sl e,t,cs,x,fuel,hfl,_,_=>by simp[flat]at hfl
 | .pair a b,t,cs,x,fuel,hfl,hf,h=>by
  unfold fitT at hf
  split at hf
  ·rename_i p r hp
   simp only[Bool.and_eq_true,beq_iff_eq]at hf
   obtain⟨h0,h1,h2,h3,h4⟩:=hf
   simp only[flat,Bool.and_eq_true]at hfl
   obtain⟨hl,n,hm⟩:=adF (by rw[hp];simp) h
   rw[hp]at hm
   obtain⟨y0,hy0⟩:=hm p (by simp)
   rw[h0,h2]at hy0
   obtain⟨u,d1,b1⟩:=qM a p.1 _ _ n hfl.1 h1 hy0
   obtain⟨v,d2,b2⟩:=ab3 b r a.n cs n hfl.2 h3 (fun q hq=>hm q (by simp[hq])) (by omega)
   refine⟨(u,v),⟨_,_,?_,d1,d2⟩,b1,b2⟩
   have e:(cs.drop a.n).take b.n=cs.drop a.n:=List.take_of_length_le (by rw[List.length_drop];omega)
   rw[e];simp
  ·cases hf
theorem ab3:∀ (T:Ty) (l:List (TypeId×Nat)) (k:Nat) (cs:List Value) (n:Nat),flat T=true→fitL P T l k=true→(∀ p∈l,∃ y,DataW.trod enc P w 0 sp held n p.1 ((cs.drop p.2).take (P.cellsOf p.1))=some y)→k+T.n≤cs.length→∃ y:T.α,DR F w T y ((cs.drop k).take T.n)∧Bnd T y
 | .int k',l,k,cs,n,_,hf,_,_=>by simp[fitL]at hf
 | .bool,l,k,cs,n,_,hf,_,_=>by simp[fitL]at hf
 | .str,l,k,cs,n,_,hf,_,_=>by simp[fitL]at hf
 | .nul,l,k,cs,n,_,hf,_,_=>by simp[fitL]at hf
 | .sl _,l,k,cs,n,_,hf,_,_=>by simp[fitL]at hf
 | .unit,l,k,cs,n,_,hf,_,_=>⟨(),by simp[DR,Ty.n],trivial⟩
 | .pair a b,l,k,cs,n,hfl,hf,hm,hk=>by
  unfold fitL at hf
  split at hf
  ·rename_i p r
   simp only[Bool.and_eq_true,beq_iff_eq]at hf
   obtain⟨h0,h1,h2,h3⟩:=hf
   simp only[flat,Bool.and_eq_true]at hfl
   simp only[Ty.n]at hk
   obtain⟨y0,hy0⟩:=hm p (by simp)
   rw[h0,h2]at hy0
   obtain⟨u,d1,b1⟩:=qM a p.1 _ _ n hfl.1 h1 hy0
   obtain⟨v,d2,b2⟩:=ab3 b r (k+a.n) cs n hfl.2 h3 (fun q hq=>hm q (by simp[hq])) (by omega)
   refine⟨(u,v),⟨_,_,?_,d1,d2⟩,b1,b2⟩
   simp only[Ty.n]
   rw[List.take_add,List.drop_drop]
  ·cases hf
end
theorem ad1{α:Type}{R:Nat→α→Prop}:∀ (n:Nat),(∀ i,i < n→∃ y,R i y)→∃ l:List α,l.length=n∧∀ (i:Nat) (y:α),l[i]? = some y→R i y
 | 0,_=>⟨[],rfl,fun i y h=>by simp at h⟩
 | n+1,h=>by
  obtain⟨l,hl,hr⟩:=ad1 n fun i hi=>h i (by omega)
  obtain⟨y,hy⟩:=h n (by omega)
  refine⟨l++[y],by simp[hl],fun i z hz=>?_⟩
  by_cases hi:i < l.length
  ·rw[List.getElem?_append_left hi]at hz;exact hr i z hz
  ·rw[List.getElem?_append_right (by omega)]at hz
   have:i=l.length:=by
    by_cases e:i-l.length=0
    ·omega
    ·obtain⟨q,hq⟩:=Nat.exists_eq_succ_of_ne_zero e
     rw[hq]at hz;simp at hz
   subst this
   simp only[Nat.sub_self,List.getElem?_cons_zero,Option.some.injEq]at hz
   subst hz;rw[hl];exact hy
def topOK:Ty→Bool
 | .sl e=>flat e
 | T=>flat T
theorem abN(b o n:Nat):(Addr.add ⟨b,o,none⟩ n)=⟨b,o+n,none⟩:=by
 unfold Addr.add;split
 ·rename_i h;rw[h];rfl
 ·rfl
theorem ae6{i:Nat}{q:TypeId×Nat}(h:w.shape? i=some q):IsC w i:=by
 unfold World.shape? at h
 unfold IsC
 cases hb:w.heap[i]? with
 | none=>rw[hb]at h;simp at h
 | some o=>cases o<;>rw[hb]at h<;>simp_all
theorem abI{T:Ty}{t:TypeId}{v:Value}{d:DataW H}{p:List MemPlace}{base:Nat}(ht:topOK T=true)(hf:fitT P T t=true)(hv:Value.okWide P w .any base t v)(h:DataW.Trod enc P w 0 sp held t v d p):∃ y:T.α,ValR (IsC w) w T y v∧Bnd T y:=by
 obtain⟨fuel,h⟩:=h
 unfold ValR
 cases T with
 | int k =>
  obtain⟨y,h1,h2⟩:=qM (F:=IsC w) (.int k) t _ _ fuel rfl hf h
  unfold fitT at hf
  split at hf
  ·rename_i k' hu
   obtain⟨n,rfl⟩:=okWide_int hu hv
   exact⟨y,by rw[if_neg (by simp[isSt])];simpa [Value.cells]using h1,h2⟩
  ·cases hf
 | bool =>
  obtain⟨y,h1,h2⟩:=qM (F:=IsC w) .bool t _ _ fuel rfl hf h
  unfold fitT at hf
  split at hf
  ·rename_i hu
   obtain⟨n,rfl⟩:=okWide_bool hu hv
   exact⟨y,by rw[if_neg (by simp[isSt])];simpa [Value.cells]using h1,h2⟩
  ·cases hf
 | str =>
  obtain⟨y,h1,h2⟩:=qM (F:=IsC w) .str t _ _ fuel rfl hf h
  unfold fitT at hf
  split at hf
  ·rename_i hu
   obtain⟨n,rfl⟩:=okWide_string hu hv
   exact⟨y,by rw[if_neg (by simp[isSt])];simpa [Value.cells]using h1,h2⟩
  ·cases hf
 | unit=>simp[fitT]at hf
 | nul=>simp[fitT]at hf
 | pair a b =>
  obtain⟨y,h1,h2⟩:=qM (F:=IsC w) (.pair a b) t _ _ fuel ht hf h
  obtain⟨cs,rfl⟩:∃ cs,v=.agg cs:=by
   unfold fitT at hf
   split at hf
   ·rename_i q r hp
    unfold partsOf at hp
    unfold Value.okWide at hv
    split at hp
    ·rename_i fs hu
     rw[hu]at hv
     obtain⟨cs,e,_⟩:=hv
     exact⟨cs,e⟩
    ·rename_i n e hu
     rw[hu]at hv
     obtain⟨cs,e,_⟩:=hv
     exact⟨cs,e⟩
    ·cases hp
   ·cases hf
  exact⟨y,by rw[if_pos (show isSt (.pair a b)=true from rfl)];exact⟨cs.toList,by simp,h1⟩,h2⟩
 | sl e =>
  unfold fitT at hf
  split at hf
  ·rename_i e' hu
   simp only[Bool.and_eq_true,beq_iff_eq]at hf
   obtain⟨h1,h2,h3⟩:=hf
   obtain⟨a,len,cap,rfl⟩:=okWide_slice hu hv
   rcases DataW.trod_slice hu h with⟨hc,_⟩ | ⟨a',len',cap',elems,rest,n,_,hc,_,_,hle,hcm,hel,hread,_⟩
   ·simp only[Value.cells,List.cons.injEq,Value.slice.injEq,and_true]at hc
    obtain⟨rfl,rfl,rfl⟩:=hc
    exact⟨[],by rw[if_neg (by simp[isSt])];exact⟨_,rfl,.inl ⟨rfl,rfl⟩⟩,by simp[Bnd]⟩
   ·simp only[Value.cells,List.cons.injEq,Value.slice.injEq,and_true]at hc
    obtain⟨rfl,rfl,rfl⟩:=hc
    have hhas:w.has P .any base a' e' cap:=by
     unfold Value.okWide Cell.okWide Cell.ok at hv
     rw[hu]at hv
     exact hv.2.2
    obtain⟨_,hspot,row,cells,hsh,_⟩:=hhas
    obtain⟨b,o,s⟩:=a'
    simp only at hspot;subst hspot
    have hisc:IsC w b:=ae6 hsh
    obtain⟨l,hl,hr⟩:=ad1 (α:=e.α) (R:=fun i y=>(∃ ds:List Value,DR (IsC w) w e y ds∧∀ (j:Nat) (d:Value),ds[j]? = some d→w.cell? ⟨b,o+(i*e.n+j),none⟩=some d)∧Bnd e y) len fun i hi=>by
     have hq:=hread i hi
     rw[List.getElem?_eq_getElem (by omega),Option.bind_eq_some_iff]at hq
     obtain⟨cs,c1,c2⟩:=hq
     obtain⟨y,k1,k2⟩:=qM (F:=IsC w) e e' cs _ n h2 h1 c2
     refine⟨y,⟨cs,k1,fun j d' hd=>?_⟩,k2⟩
     obtain⟨_,m1,m2⟩:=World.cells?_some c1
     have hj:j < cs.length:=(List.getElem?_eq_some_iff.1 hd).1
     have:=m2 j (by omega)
     rw[abN,abN,h3]at this
     rw[←Nat.add_assoc,this];exact hd
    refine⟨l,?_,?_,?_⟩
    ·rw[if_neg (by simp[isSt])]
     refine⟨_,rfl,.inr ⟨b,o,cap,by rw[hl],hisc,by omega,fun i x hx=>(hr i x hx).1⟩⟩
    ·rw[hl];simp only[maxLen]at hcm;omega
    ·intro y hy
     obtain⟨i,hi,he⟩:=List.mem_iff_getElem.1 hy
     exact(hr i y (by rw[List.getElem?_eq_getElem hi,he])).2
  ·cases hf
def fitAll(P:Program):List Ty→List TypeId→Bool
 | [],[]=>true
 | T::Ts,t::ts=>(topOK T&&fitT P T t)&&fitAll P Ts ts
 | _,_=>false
theorem ug:∀ {Ts:List Ty} {ts:List TypeId} {vs:List Value} {ds:List (DataW H)} {p:List MemPlace} {base:Nat},fitAll P Ts ts=true→(∀ (j:Nat) t v,ts[j]? = some t→vs[j]? = some v→Value.okWide P w .any base t v)→
  DataW.TrodAll enc P w 0 sp held ts vs ds p→∃ x:Tys Ts,ArgsR (IsC w) w Ts x vs∧Bnds Ts x
 | [],[],vs,ds,p,base,_,_,h=>by
  cases vs with
  | nil=>exact⟨(),rfl,trivial⟩
  | cons _ _=>cases ds<;>exact absurd h (by simp[DataW.TrodAll])
 | [],_::_,vs,ds,p,base,hf,_,h=>by simp[fitAll]at hf
 | _::_,[],vs,ds,p,base,hf,_,h=>by simp[fitAll]at hf
 | T::Ts,t::ts,vs,ds,p,base,hf,hv,h=>by
  simp only[fitAll,Bool.and_eq_true]at hf
  cases vs with
  | nil=>cases ds<;>exact absurd h (by simp[DataW.TrodAll])
  | cons v vs =>
   cases ds with
   | nil=>exact absurd h (by simp[DataW.TrodAll])
   | cons d ds =>
    obtain⟨p1,p2,h1,h2,_⟩:=h
    obtain⟨y,k1,k2⟩:=abI hf.1.1 hf.1.2 (hv 0 t v rfl rfl) h1
    obtain⟨x,m1,m2⟩:=ug hf.2 (fun j t' v' a b=>hv (j+1) t' v' (by simpa using a) (by simpa using b)) h2
    exact⟨(y,x),⟨v,vs,rfl,k1,m1⟩,k2,m2⟩
theorem um{W W':World}(hl:laidOutB P=true)(hb:Below W.heap.size W W'):∀ {ts:List TypeId} {vs:List Value} {ds:List (DataW H)} {p:List MemPlace},(ts.all fun t=>P.readableRec t&&decide (t < P.types.size))=true→
  DataW.TrodAll enc P W 0 (fun _=>true) true ts vs ds p→DataW.TrodAll enc P W' 0 (fun b=>decide (b < W.heap.size)) true ts vs ds p
 | [],vs,ds,p,_,h=>by cases vs<;>cases ds<;>simp_all [DataW.TrodAll]
 | t::ts,vs,ds,p,ha,h=>by
  cases vs with
  | nil=>cases ds<;>exact absurd h (by simp[DataW.TrodAll])
  | cons v vs =>
   cases ds with
   | nil=>exact absurd h (by simp[DataW.TrodAll])
   | cons d ds =>
    simp only[List.all_cons,Bool.and_eq_true,decide_eq_true_eq]at ha
    obtain⟨p1,p2,h1,h2,rfl⟩:=h
    have hlt:∀ x∈p1,x.block < W.heap.size:=by
     obtain⟨m,hm⟩:=h1
     exact DataW.trod_lt m _ _ _ hm
    exact⟨p1,p2,Below.trod hl ha.1.1 ha.1.2 h1 hb hlt,um hl hb ha.2 h2,rfl⟩
theorem acU{ts:List TypeId}:∀ {vs:List Value} {ds:List (DataW H)} {p:List MemPlace},DataW.TrodAll enc P w 0 sp held ts vs ds p→ds.length=ts.length:=by
 induction ts with
 | nil=>intro vs ds p h;cases vs<;>cases ds<;>simp_all [DataW.TrodAll]
 | cons t ts ih =>
  intro vs ds p h
  cases vs with
  | nil=>cases ds<;>exact absurd h (by simp[DataW.TrodAll])
  | cons v vs =>
   cases ds with
   | nil=>exact absurd h (by simp[DataW.TrodAll])
   | cons d ds=>obtain⟨_,_,_,h2,_⟩:=h;simp[ih h2]
end
section
variable {H:Type}{enc:TypeId×Value→H}
theorem afY(hl:laidOutB Proofs.Tryz.prog=true){n:FuncId}{fn:Func}{s:ChangeSpec}{Ts:List Ty}{f:Nat→Tys Ts→Option (Bool×Unit)}(hE:∀ lf,lW Proofs.Tryz.prog TabG n ⟨Ts,[.bool],f lf⟩)
  (hf:fitAll Proofs.Tryz.prog Ts fn.params.toList=true) (hrd:(fn.params.toList.all fun t=>Proofs.Tryz.prog.readableRec t&&decide (t < Proofs.Tryz.prog.types.size))=true)
  {rt:TypeId} (hrt:fn.resultTypes=#[rt]) (hub:Proofs.Tryz.prog.underlying rt=some .bool) (hsv:s.vars=[])
  (hs:∀ ds:List (DataW H),ds.length=fn.params.toList.length→s.fn H ds={ results:=[.lit (.bool true)],args:=ds })
  (hpure:∀ x:Tys Ts,Bnds Ts x→∃ lf,f lf x=some (true,()))
  {W:World} {base:Nat} {args:Array Value} {ds gs:List (DataW H)} {before:List MemPlace} {apart fresh handsOn:Bool}
  (hval:∀ (j:Nat) t v,fn.params[j]? = some t→args[j]? = some v→Value.okWide Proofs.Tryz.prog W .any base t v)
  (hW:DataW.Whole enc Proofs.Tryz.prog fn.params.toList s.vars apart W args.toList ds gs before) (hG:TabG W) :
  Calls Proofs.Tryz.prog n args W fun e W'=>∃ v,e=.returned v∧s.post enc Proofs.Tryz.prog fn apart fresh handsOn false W args v W':=by
 have hW':=hW
 obtain⟨p,q,hA,hV,rfl,_,_⟩:=hW
 rw[hsv]at hV
 obtain⟨rfl,rfl⟩:=trodVars_none hV
 have hv':∀ (j:Nat) (t:TypeId) (v:Value),fn.params.toList[j]? = some t→args.toList[j]? = some v→Value.okWide Proofs.Tryz.prog W .any base t v:=by
  intro j t v a b
  rw[Array.getElem?_toList]at a b
  exact hval j t v a b
 obtain⟨x,k1,k2⟩:=ug hf hv' hA
 obtain⟨lf,hlf⟩:=hpure x k2
 have hlen:=acU hA
 have h:=hE lf x (true,()) hlf (IsC W) W args.toList hG (fun i hi=>hi) k1
 rw[Array.toArray_toList]at h
 refine h.mono ?_
 rintro e W' ⟨v,rfl,hb,hr⟩
 obtain⟨vs,⟨u,r,rfl,h1,h2⟩,rfl⟩:=hr
 obtain rfl:r=[]:=h2
 have hu:u=.bool true:=by
  unfold ValR at h1
  rw[if_neg (by simp[isSt])]at h1
  simpa [DR]using h1
 subst hu
 refine⟨_,rfl,ds,[],p++[],[],p,[],hW',?_,?_,?_,hb.frame _,fun h=>by cases h⟩
 ·rw[List.append_nil,hs ds hlen,hrt]
  exact trodAll_mk1 (shut_bool hub true)
 ·rw[List.append_nil,hs ds hlen]
  exact um hl hb hrd hA
 ·rw[List.append_nil,hs ds hlen,hsv]
  rfl
end
theorem abC{laid:List (String×DataW Unit)}{W:World}(hp:(laid.all fun x=>x.2.handleName?.isNone)=true){g:Nat}{t e:TypeId}{n:Nat}{rest:List (String×DataW Unit)}
  (hg:Proofs.Tryz.prog.globalNamed "internal/strconv.uint64pow10" = some g) (hty:(Proofs.Tryz.prog.globals[g]?).map (·.type)=some t) (ht:Proofs.Tryz.prog.underlying t=some (.array n e)) (he:Proofs.Tryz.prog.underlying e=some (.int .u64))
  (hce:Proofs.Tryz.prog.cellsOf e=1) (hct:Proofs.Tryz.prog.cellsOf t=n)
  (hh:(laid.filter fun x=>x.1 == "internal/strconv.uint64pow10")=("internal/strconv.uint64pow10",Lib.tabData .u64 Lib.pow10Tab)::rest)
  (h:laidMetH Proofs.Tryz.prog laid W):TabG W:=by
 rw[MakeChecks.laidMetH_plain _ _ _ hp]at h
 have h':=laidMet.filter (fun x=>x.1 == "internal/strconv.uint64pow10") h
 rw[hh]at h'
 exact Lib.tabIs_of_head hg hty ht he hce hct h'
theorem ahi{P:Program}{c:OpenClaim}(h:P.funcs.any Func.goes=false)(hs:c.start=.entering):false=c.goesBy P:=by
 have key:∀ (g:Nat) (fn:Func),P.funcs[g]? = some fn→fn.goes=false:=by
  intro g fn hg
  have:=Array.any_eq_false.1 h
  obtain⟨hlt,e⟩:=Array.getElem?_eq_some_iff.1 hg
  have:=this g hlt
  rw[e]at this
  simpa using this
 have k2:∀ g:Nat,(P.funcs[g]?).any Func.goes=false:=by
  intro g
  cases hg:P.funcs[g]? with
  | none=>rfl
  | some fn=>simp[key g fn hg]
 unfold OpenClaim.goesBy Program.goesAt Program.goesFrom
 rw[hs]
 have k3:∀ f,P.goes f=false:=by
  intro f
  unfold Program.goes
  rw[h,Bool.and_false,Bool.or_false]
  simp only[k2]
  simp
 cases P.funcNamed c.func with
 | none=>rfl
 | some f=>simp[k3]
end Go.Q
namespace Go.Q
open Go.N
theorem Pure.SegmentHolds(x:Tys (bY.E 0).ps)(h:Bnds (bY.E 0).ps x):∃ lf,bY.f lf x.1 x.2.1 x.2.2.1=some (true,()):=by
 obtain⟨l,i,es,⟨⟩⟩:=x
 clear h
 obtain⟨lf,hb⟩:=bigE
 refine⟨lf,?_⟩
 obtain⟨b,b1,b2⟩:=aiY lf hb l
 obtain⟨d,d1,d2⟩:=fewI lf hb es
 rw[bY.f]
 simp only[b1,d1,bdS,ag4]
 cases b with
 | false=>simp only[Bool.not_false,Go.N.brT]
 | true =>
  simp only[Bool.not_true,Go.N.brF]
  cases d with
  | false=>simp only[Bool.not_false,Go.N.brT]
  | true =>
   simp only[Bool.not_true,Go.N.brF]
   obtain⟨hl,hs⟩:=b2 rfl
   obtain⟨hel,hes⟩:=d2 rfl
   obtain⟨r,r1,r2⟩:=at_s lf hb (n:=(es.length:Nat)) (i:=i) (by omega) hs
   obtain⟨q,q1,q2⟩:=ahm lf hb (by omega) hs hel hes
   obtain⟨u,u1,u2⟩:=afP lf hb (n:=(es.length:Nat)) (by omega) hs
   simp only[r1,r2,q1,q2,u1,u2,bdS,BEq.rfl,Go.N.brT,Bool.and_self,zJ,decide_true]
end Go.Q
