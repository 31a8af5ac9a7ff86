import Derived.KernelRfl
import Derived.Test.YtfogkflaijhfoaaGreatDoorChecked
import Derived.ProofKit
import Derived.OpenShut
import Derived.LaidMore
import Derived.Lay
import Derived.Carry
import Derived.SevenTiedAt
import Derived.Stop.Joined
import Derived.Lib.LaidTab
import Derived.LaidSub
import Derived.Test.YtfogkflaijhfoaaGreatDoorVAE2
import Derived.Test.YtfogkflaijhfoaaGreatDoorVAG11
import Derived.Test.YtfogkflaijhfoaaGreatDoorVAG12
import Derived.Test.YtfogkflaijhfoaaGreatDoorVAN1
import Derived.Test.YtfogkflaijhfoaaGreatDoorVAN2
set_option linter.unusedVariables false
set_option linter.unusedSimpArgs false
set_option linter.unusedSectionVars false
set_option maxRecDepth 100000
namespace Go.N
open Go Go.Q Go.Rx
theorem ahL{a:A}(ha:Wf a)(he:a.em=false):∃ z,(-C < z∧z < C)∧inS (ofA a) z=true:=by
 have hC:=C_gt
 have hK:=fO
 have l:=ha.lo
 have u:=ha.hi
 have le:=ha.le
 cases hl:a.lo with
 | some z =>
  rw[hl]at l le
  refine⟨z,l,(Wf.inS ha he (CK l)).2 ⟨fun v h=>(by rw[hl]at h;cases h;exact Int.le_refl _),fun v h=>?_⟩⟩
  rw[h]at le;exact le
 | none=>cases hh:a.hi with
  | some z =>
   rw[hh]at u
   exact⟨z,u,(Wf.inS ha he (CK u)).2 ⟨fun v h=>(by rw[hl]at h;cases h),fun v h=>(by rw[hh]at h;cases h;exact Int.le_refl _)⟩⟩
  | none=>exact⟨0,by omega,(Wf.inS ha he (by omega)).2 ⟨fun v h=>(by rw[hl]at h;cases h),fun v h=>(by rw[hh]at h;cases h)⟩⟩
theorem akb{s:Sp}(h:oks K s){z:Int}(hz: -K < z∧z < K)(hi:inS s z=true):Wf (toA s):=by
 refine nD h (.inr ⟨fun e=>?_,fun e=>?_⟩)
 ·have:=ru.1 hi;rw[e]at this;simp only[key]at this;omega
 ·have:=ru.1 hi;rw[e]at this;simp only[key]at this;omega
theorem aeR:Wf (toA non):=nD iY (.inl gU)
theorem ajm{a:A}(h:a.em=true):ofA a=non:=by unfold ofA;rw[if_pos h]
theorem ajx:emp (posS non)=true:=by
 have hK:=K_gt
 refine decide_eq_true ?_
 show key (xmax non.lo (.fin 1)) > key (xmin non.hi .pi)
 rw[kT,kF]
 simp only[non,key];omega
theorem ais:emp (posS (⟨.fin 0,.fin 0⟩:Sp))=true:=by
 have hK:=K_gt
 refine decide_eq_true ?_
 show key (xmax (.fin 0) (.fin 1)) > key (xmin (.fin 0) .pi)
 rw[kT,kF]
 simp only[key];omega
theorem ala{x y op:Int}(bx: -Dd < x∧x < Dd)(by': -Dd < y∧y < Dd)(ho:3≤op∧op≤7)(h0:op≤5∨y≠0): -K < valO op x y∧valO op x y < K:=by
 have hK:=DD_K
 have hC:=C_gt
 have hD:=jV
 have h4:0≤Dd*Dd:=Int.mul_nonneg (by omega) (by omega)
 rcases op3 ho with rfl | rfl | rfl | rfl | rfl
 ·show -K < x+y∧x+y < K;omega
 ·show -K < x-y∧x-y < K;omega
 ·have:=aji bx by';show -K < x*y∧x*y < K;omega
 ·have:=uK (x:=x) (h0.resolve_left (by decide));show -K < x.fdiv y∧x.fdiv y < K;omega
 ·have:=ack (x:=x) (h0.resolve_left (by decide));show -K < x.fmod y∧x.fmod y < K;omega
section
variable {a b:A}(ha:Wf a)(hb:Wf b)
include ha hb
theorem ae8:Wf (toA (common (ofA a) (ofA b))):=by
 have hK:=K_gt
 have k1:key (common (ofA a) (ofA b)).lo=max (key (ofA a).lo) (key (ofA b).lo):=kT _ _
 have k2:key (common (ofA a) (ofA b)).hi=min (key (ofA a).hi) (key (ofA b).hi):=kF _ _
 have ka:=ha.ks.keys
 have kb:=hb.ks.keys
 exact ak7 (sG ha.okK hb.okK) (by intro h;rw[k1,k2]at *;omega)
theorem non0(eb:b.em=false):(∃ z,(-C < z∧z < C)∧z≠0∧inS (ofA b) z=true)∨ofA b=⟨.fin 0,.fin 0⟩:=by
 have hC:=C_gt
 have hK:=fO
 have l:=hb.lo
 have u:=hb.hi
 have le:=hb.le
 have I:=fun z (hz: -C < z∧z < C)=>Wf.inS hb eb (CK hz)
 cases hl:b.lo with
 | some z =>
  rw[hl]at l le
  by_cases h0:z=0
  ·subst h0
   cases hh:b.hi with
   | some w =>
    rw[hh]at u le
    by_cases h1:w=0
    ·subst h1
     right
     unfold ofA;rw[eb,if_neg (by simp),hl,hh];rfl
    ·exact .inl ⟨w,u,h1,(I w u).2 ⟨fun v h=>(by rw[hl]at h;cases h;exact le),fun v h=>(by rw[hh]at h;cases h;exact Int.le_refl _)⟩⟩
   | none=>exact .inl ⟨1,by omega,by omega,(I 1 (by omega)).2 ⟨fun v h=>(by rw[hl]at h;cases h;omega),fun v h=>(by rw[hh]at h;cases h)⟩⟩
  ·exact .inl ⟨z,l,h0,(I z l).2 ⟨fun v h=>(by rw[hl]at h;cases h;exact Int.le_refl _),fun v h=>(by rw[h]at le;exact le)⟩⟩
 | none=>cases hh:b.hi with
  | some w =>
   rw[hh]at u
   by_cases h1:w=0
   ·subst h1
    exact .inl ⟨-1,by omega,by omega,(I (-1) (by omega)).2 ⟨fun v h=>(by rw[hl]at h;cases h),fun v h=>(by rw[hh]at h;cases h;omega)⟩⟩
   ·exact .inl ⟨w,u,h1,(I w u).2 ⟨fun v h=>(by rw[hl]at h;cases h),fun v h=>(by rw[hh]at h;cases h;exact Int.le_refl _)⟩⟩
  | none=>exact .inl ⟨1,by omega,by omega,(I 1 (by omega)).2 ⟨fun v h=>(by rw[hl]at h;cases h),fun v h=>(by rw[hh]at h;cases h)⟩⟩
theorem akM{op:Int}(h:a.em=true):opS op (ofA a) (ofA b)=non:=by
 rw[ajm h]
 unfold opS addS apS quoS remS
 simp[gU]
theorem ajr{op:Int}(ho:3≤op∧op≤7)(e:a.em=false)(h:b.em=true):opS op (ofA a) (ofA b)=non:=by
 rw[ajm h]
 have t:turn non=non:=by unfold turn;rw[if_pos gU]
 have p:=ajx
 have ea:=jm ha
 rw[e]at ea
 rcases op3 ho with rfl | rfl | rfl | rfl | rfl
 ·simp[opS,addS,ea,gU]
 ·simp[opS,addS,ea,gU,t]
 ·simp[opS,apS,ea,gU]
 ·simp[opS,quoS,ea,t,p,hull,gU]
 ·simp[opS,remS,ea,t,p]
theorem alr{op:Int}(ho:3≤op∧op≤7):Wf (toA (opS op (ofA a) (ofA b))):=by
 have hD:=jV
 cases ea:a.em with
 | true=>rw[akM ha hb ea];exact aeR
 | false=>cases eb:b.em with
  | true=>rw[ajr ha hb ho ea eb];exact aeR
  | false =>
   obtain⟨x,hx,ix⟩:=ahL ha ea
   have ok:=al7 (op:=op) ha.okC hb.okC ha.pr hb.pr
   have fin:∀ y,(-C < y∧y < C)→inS (ofA b) y=true→(op≤5∨y≠0)→Wf (toA (opS op (ofA a) (ofA b))):=fun y hy iy h0 =>
    akb ok (ala (x:=x) (y:=y) (by omega) (by omega) ho h0) (amE ha.okC hb.okC ha.pr hb.pr (by omega) (by omega) ix iy ho h0)
   rcases non0 ha hb eb with⟨y,hy,y0,iy⟩ | e
   ·exact fin y hy iy (.inr y0)
   ·by_cases h5:op≤5
    ·obtain⟨y,hy,iy⟩:=ahL hb eb
     exact fin y hy iy (.inl h5)
    ·rw[e]
     have t:turn (⟨.fin 0,.fin 0⟩:Sp)=⟨.fin 0,.fin 0⟩:=by decide
     have p:=ais
     have ea':=jm ha
     rw[ea]at ea'
     have:op=6∨op=7:=by omega
     rcases this with rfl | rfl
     ·simp[opS,quoS,ea',t,p,hull,gU];exact aeR
     ·simp[opS,remS,ea',t,p];exact aeR
end
end Go.N
namespace Go.N
open Go Go.Q Go.Rx
namespace WfV
variable {v:Vl}(h:WfV v)
include h
theorem em:v.a.em=v.c.em:=by
 have r:=h.red
 unfold Go.N.red at r
 cases e1:v.a.em with
 | true =>
  rw[if_pos e1]at r
  rw[←r];rfl
 | false=>cases e2:v.c.em with
  | false=>rfl
  | true =>
   rw[if_neg (by simp[e1]),if_pos e2]at r
   rw[←r]at e1;simp[Ev,E0]at e1
theorem ev(e:v.a.em=true):v=Ev:=by
 have r:=h.red
 unfold Go.N.red at r
 rw[if_pos e]at r
 exact r.symm
theorem one(e:v.a.em=false)(m:v.c.m=0):v=onev v.c.r∧inS (ofA v.a) v.c.r=true:=by
 have r:=h.red
 have e2:v.c.em=false:=by rw[←h.em,e]
 unfold Go.N.red at r
 rw[if_neg (by simp[e]),if_neg (by simp[e2]),if_pos m]at r
 split at r
 ·exact⟨r.symm,by assumption⟩
 ·rw[←r]at e;simp[Ev,E0]at e
theorem fin(e:v.a.em=false)(m:v.c.m≠0):fin3 (v.a.lo.map (loC v.c)) (v.a.hi.map (hiC v.c)) v.c=v:=by
 have r:=h.red
 have e2:v.c.em=false:=by rw[←h.em,e]
 unfold Go.N.red at r
 rwa [if_neg (by simp[e]),if_neg (by simp[e2]),if_neg m]at r
theorem bnd(e:v.a.em=false):(∀ l,v.a.lo=some l→inC v.c l=true)∧∀ l,v.a.hi=some l→inC v.c l=true:=by
 have e2:v.c.em=false:=by rw[←h.em,e]
 by_cases m:v.c.m=0
 ·obtain⟨o,i⟩:=h.one e m
  have hs:inC v.c v.c.r=true:=(xh e2 h.c.pos).2 (by simp)
  constructor
  ·intro l hl
   rw[o]at hl;cases hl;exact hs
  ·intro l hl
   rw[o]at hl;cases hl;exact hs
 ·have p:0 < v.c.m:=by have:=h.c.pos;omega
  have f:=h.fin e m
  have ck:=h.a
  have lo:=ck.lo
  have hi:=ck.hi
  revert f lo hi
  cases hl:v.a.lo with
  | none=>cases hh:v.a.hi with
   | none=>intro _ _ _;exact⟨nofun,nofun⟩
   | some u =>
    intro f lo hi
    have f2:=congrArg (fun x=>x.a.hi) f
    simp only[Option.map,fin3,Option.bind,hh]at f2
    have hu:hiC v.c u=u:=by
     unfold clip at f2;split at f2
     ·exact Option.some.inj f2
     ·cases f2
    exact⟨nofun,fun l x=>by cases x;exact(xh e2 h.c.pos).2 (by have:=alm p u;rwa [hu]at this)⟩
  | some l=>cases hh:v.a.hi with
   | none =>
    intro f lo hi
    have f2:=congrArg (fun x=>x.a.lo) f
    simp only[Option.map,fin3,Option.bind,hl]at f2
    have hu:loC v.c l=l:=by
     unfold clip at f2;split at f2
     ·exact Option.some.inj f2
     ·cases f2
    exact⟨fun l x=>(by cases x;exact(xh e2 h.c.pos).2 (by have:=alo p l;rwa [hu]at this)),nofun⟩
   | some u =>
    intro f lo hi
    simp only[Option.map,fin3]at f
    split at f
    ·rw[←f]at e;simp[Ev,E0]at e
    ·split at f
     ·rw[←f]at m;simp[onev]at m
     ·have f1:=congrArg (fun x=>x.a.lo) f
      have f2:=congrArg (fun x=>x.a.hi) f
      simp only[hl,hh]at f1 f2
      have h1:loC v.c l=l:=by
       unfold clip at f1;split at f1
       ·exact Option.some.inj f1
       ·cases f1
      have h2:hiC v.c u=u:=by
       unfold clip at f2;split at f2
       ·exact Option.some.inj f2
       ·cases f2
      exact⟨fun k x=>(by cases x;exact(xh e2 h.c.pos).2 (by have:=alo p l;rwa [h1]at this)),fun k x=>(by cases x;exact(xh e2 h.c.pos).2 (by have:=alm p u;rwa [h2]at this))⟩
end WfV
end Go.N
namespace Go.N
open Go Go.Q Go.Rx
noncomputable def metV (a b:Vl):Vl:=red (toA (common (ofA a.a) (ofA b.a))) (metC a.c b.c)
def opC(op:Int)(c d:Cg):Cg:=if op=3 then plusC c d else if op=4 then minusC c d else if op=5 then timesC c d else if op=6 then quoC c d else restC c d
def opV(op:Int)(a b:Vl):Vl:=red (toA (opS op (ofA a.a) (ofA b.a))) (opC op a.c b.c)
noncomputable def refV (op:Int) (a b:Vl):Vl×Vl:=if op=2 then(metV a b,metV a b)else
 if(red (refA op a.a b.a).1 a.c).a.em=true then(Ev,Ev)else if(red (refA op a.a b.a).2 b.c).a.em=true then(Ev,Ev)else(red (refA op a.a b.a).1 a.c,red (refA op a.a b.a).2 b.c)
theorem ajq{op:Int}{c d:Cg}(hc:WfC c):WfC (opC op c d):=by
 unfold opC;split;exact aju;split;exact ain;split;exact aiG;split;exact akQ hc;exact ajH
section
variable {a b:Vl}(ha:WfV a)(hb:WfV b)
include ha hb
end
section
variable {a b:Vl}(ha:WfV a)(hb:WfV b)
include ha hb
end
end Go.N
namespace Go.N
open Go Go.Q Go.Rx
abbrev tb(b:ByteArray):Nat:=b.data.toList.length
def SmV(x:VV):Prop:=tb x.1.2.1≤100000∧tb x.1.2.2.1≤100000∧tb x.2.1.2.1≤100000∧tb x.2.1.2.2.1≤100000
theorem aj8(x y:VV):(((x.1.1==y.1.1)&&((x.1.2.1==y.1.2.1)&&((x.1.2.2.1==y.1.2.2.1)&&true)))&&(((x.2.1.1==y.2.1.1)&&((x.2.1.2.1==y.2.1.2.1)&&((x.2.1.2.2.1==y.2.1.2.2.1)&&true)))&&true))=decide (x=y):=by
 obtain⟨⟨e1,l1,m1,⟨⟩⟩,⟨e2,l2,m2,⟨⟩⟩,⟨⟩⟩:=x
 obtain⟨⟨f1,p1,q1,⟨⟩⟩,⟨f2,p2,q2,⟨⟩⟩,⟨⟩⟩:=y
 rw[Bool.eq_iff_iff]
 simp only[af7,Bool.and_eq_true,beq_iff_eq,decide_eq_true_eq,Bool.and_true,Prod.mk.injEq,and_true]
theorem amX{a:A}{c:Cg}(ha:Wf a)(hc:WfC c)(h:vc (red a c)=vc ⟨a,c⟩):∃ v,vc ⟨a,c⟩=vc v∧WfV v:=by
 simp only[vc,Prod.mk.injEq]at h
 have e1:=alA h.1
 obtain⟨e2,e3⟩:=alF h.2.1
 cases ec:c.em with
 | true =>
  have hE:red a c=Ev:=by
   unfold red
   by_cases e:a.em=true
   ·rw[if_pos e]
   ·rw[if_neg e,if_pos ec]
  refine⟨Ev,?_,Ev_V⟩
  rw[hE]at e1
  simp only[vc,←e1]
  rw[lK ec];rfl
 | false =>
  rw[ec]at e2
  refine⟨⟨a,c⟩,rfl,ha,hc,?_⟩
  have e4:=e3 e2
  show red a c=⟨a,c⟩
  generalize red a c=r at *
  cases r;simp_all
section
variable (lf:Nat)(hb:Big lf)
include hb
theorem chkV{x:VV}(hx:SmV x):∃ n:Int,lN.f lf x=some (n,())∧iK.f lf x=some (n,())∧(n=0→∃ v,x=vc v∧WfV v):=by
 have hlf:=hb.1
 have h3:200000≤lf:=by omega
 obtain⟨⟨e1,l1,m1,⟨⟩⟩,⟨e2,l2,m2,⟨⟩⟩,⟨⟩⟩:=x
 obtain⟨x1,x2,x3,x4⟩:=hx
 rw[←ab8 l1,←ab8 m1,←ab8 l2,←ab8 m2]
 simp only[tb]at x1 x2 x3 x4
 revert x1 x2 x3 x4
 generalize l1.data.toList=l1
 generalize m1.data.toList=m1
 generalize l2.data.toList=l2
 generalize m2.data.toList=m2
 intro x1 x2 x3 x4
 have p1:=ae7 lf h3 e1 l1 m1 (by omega) (by omega)
 have p2:=adf lf h3 e1 l1 m1 (by omega) (by omega) (by omega) (by omega)
 have q1:=alh lf h3 e2 l2 m2 (by omega) (by omega)
 have q2:=agV lf h3 e2 l2 m2 (by omega) (by omega) (by omega) (by omega)
 rw[lN.f,pR.f,iK.f]
 simp only[p1,p2,bdS]
 by_cases k1:ck e1 l1 m1=0
 ·rw[k1]
  simp only[bne_self_eq_false,brF,q1,q2,bdS]
  by_cases k2:ckc e2 l2 m2=0
  ·obtain⟨a,ea,ha⟩:=amy k1
   obtain⟨c,ec,hc⟩:=alI k2
   rw[k2]
   have r1:=abj lf hb ha hc
   have r2:=abb lf hb ha hc
   rw[←ea,←ec]at r1 r2
   simp only[bne_self_eq_false,brF,r1,r2,bdS]
   have bq:=aj8 (vc (red a c)) ((e1,bs l1,bs m1,()),(e2,bs l2,bs m2,()),())
   simp only at bq
   rw[bq,ea,ec]
   by_cases h:vc (red a c)=(ac a,cc c,())
   ·rw[decide_eq_true h,Bool.not_true,brF]
    exact⟨0,rfl,rfl,fun _=>amX ha hc h⟩
   ·rw[decide_eq_false h,Bool.not_false,brT]
    exact⟨3,rfl,rfl,nofun⟩
  ·simp only[bneT k2,brT]
   exact⟨_,rfl,rfl,fun h=>absurd h k2⟩
 ·simp only[bneT k1,brT,bdS]
  exact⟨_,rfl,rfl,fun h=>absurd h k1⟩
theorem alg{x y:VV}(hx:SmV x)(hy:SmV y):∃ n:Int,fJ.f lf x y=some (n,())∧dG.f lf x y=some (n,())∧(n=0→∃ v w,x=vc v∧y=vc w∧WfV v∧WfV w):=by
 obtain⟨n,a1,a2,a3⟩:=chkV lf hb hx
 obtain⟨m,b1,b2,b3⟩:=chkV lf hb hy
 rw[fJ.f,dG.f,a1,a2,bdS,bdS]
 by_cases h:n=0
 ·subst h
  simp only[bne_self_eq_false,brF,b1,b2,bdS]
  refine⟨m,rfl,rfl,fun h=>?_⟩
  obtain⟨v,e1,w1⟩:=a3 rfl
  obtain⟨w,e2,w2⟩:=b3 h
  exact⟨v,w,e1,e2,w1,w2⟩
 ·simp only[bneT h,brT]
  exact⟨n,rfl,rfl,fun e=>absurd e h⟩
theorem chk_wf{v:Vl}(h:WfV v):lN.f lf (vc v)=some (0,())∧iK.f lf (vc v)=some (0,()):=by
 have hlf:=hb.1
 have h3:200000≤lf:=by omega
 have p1:=je lf h3 h.a
 have p2:=adZ lf h3 h.a
 have q1:=ccheck lf hb h.c
 have q2:=rcheck lf hb h.c
 have r1:=abj lf hb h.a h.c
 have r2:=abb lf hb h.a h.c
 rw[h.red]at r1 r2
 have bq:=aj8 (vc v) (vc v)
 rw[decide_eq_true rfl]at bq
 constructor
 ·rw[lN.f,pR.f]
  simp only[show(vc v).1=ac v.a from rfl,show(vc v).2.1=cc v.c from rfl]at bq⊢
  simp only[p1,q1,r1,bdS,bne_self_eq_false,brF]
  simp only[show(vc v).1=ac v.a from rfl,show(vc v).2.1=cc v.c from rfl,bq,Bool.not_true,brF]
 ·rw[iK.f]
  simp only[show(vc v).1=ac v.a from rfl,show(vc v).2.1=cc v.c from rfl]at bq⊢
  simp only[p2,q2,r2,bdS,bne_self_eq_false,brF]
  simp only[show(vc v).1=ac v.a from rfl,show(vc v).2.1=cc v.c from rfl,bq,Bool.not_true,brF]
theorem aga{v w:Vl}(h:WfV v)(k:WfV w):fJ.f lf (vc v) (vc w)=some (0,()):=by
 rw[fJ.f,(chk_wf lf hb h).1,bdS]
 simp only[bne_self_eq_false,brF,(chk_wf lf hb k).1,bdS]
theorem alG{v w:Vl}(h:WfV v)(k:WfV w):dG.f lf (vc v) (vc w)=some (0,()):=by
 rw[dG.f,(chk_wf lf hb h).2,bdS]
 simp only[bne_self_eq_false,brF,(chk_wf lf hb k).2,bdS]
theorem ad1{v w:Vl}(h:WfV v)(k:WfV w):fJ.f lf (vc v) (vc w)=some (0,())∧dG.f lf (vc v) (vc w)=some (0,()):=⟨aga lf hb h k,alG lf hb h k⟩
end
end Go.N
namespace Go.N
open Go Go.Q Go.Rx
section
variable (lf:Nat)(hb:Big lf){v w:Vl}(hv:WfV v)(hw:WfV w)
include hb hv hw
theorem al4:uU.f lf (vc v) (vc w)=some (vc (metV v w),0,()):=by
 have h3:200000≤lf:=by have:=hb.1;omega
 rw[uU.f,aga lf hb hv hw,bdS]
 simp only[bne_self_eq_false,brF]
 simp only[show(vc v).1=ac v.a from rfl,show(vc v).2.1=cc v.c from rfl,show(vc w).1=ac w.a from rfl,show(vc w).2.1=cc w.c from rfl,al3 lf h3 hv.a hw.a,al2 lf hb hv.c hw.c,bdS,bne_self_eq_false,brF,abj lf hb (ae8 hv.a hw.a) (ahi hv.c hw.c)]
 rfl
theorem al5:kW.f lf (vc v) (vc w)=some (vc (metV v w),()):=by
 have h3:200000≤lf:=by have:=hb.1;omega
 rw[kW.f]
 simp only[show(vc v).1=ac v.a from rfl,show(vc v).2.1=cc v.c from rfl,show(vc w).1=ac w.a from rfl,show(vc w).2.1=cc w.c from rfl,aap lf h3 hv.a hw.a,amL lf hb hv.c hw.c,bdS,abb lf hb (ae8 hv.a hw.a) (ahi hv.c hw.c)]
 rfl
end
section
variable (lf:Nat)(hb:Big lf){v:Vl}(hv:WfV v)
include hb hv
end
section
variable (lf:Nat)(hb:Big lf){x y:VV}(hx:SmV x)(hy:SmV y)
include hb hx hy
end
end Go.N
namespace Go.N
open Go Go.Q Go.Rx
section
variable (lf:Nat)(hb:Big lf)
include hb
end
end Go.N
namespace Go.N
open Go Go.Q Go.Rx
section
variable (lf:Nat)(hb:Big lf){v w:Vl}(hv:WfV v)(hw:WfV w)
include hb hv hw
theorem amc{op:Int}(ho:op=2∨op=3∨op=4∨op=5):jQ.f lf op (vc v) (vc w)=some (vc (refV op v w).1,vc (refV op v w).2,0,()):=by
 have h3:200000≤lf:=by have:=hb.1;omega
 rw[jQ.f,decide_eq_false (by omega),brF,decide_eq_false (by omega),brF,aga lf hb hv hw,bdS]
 simp only[bne_self_eq_false,brF]
 unfold refV
 by_cases h2:op=2
 ·have:(op==2)=true:=by simp[h2]
  rw[this,brT,if_pos h2,al4 lf hb hv hw,bdS]
 ·have:(op==2)=false:=by simp[h2]
  obtain⟨w1,w2⟩:=ahr hv.a hw.a ho
  rw[this,brF,if_neg h2]
  simp only[show(vc v).1=ac v.a from rfl,show(vc v).2.1=cc v.c from rfl,show(vc w).1=ac w.a from rfl,show(vc w).2.1=cc w.c from rfl,ajF lf h3 hv.a hw.a op ho,bdS,bne_self_eq_false,brF,abj lf hb w1 hv.c,abj lf hb w2 hw.c,iL.f,evV]
  have em:∀ x:Vl,(vc x).1.1=x.a.em:=fun _=>rfl
  simp only[em]
  cases e1:(red (refA op v.a w.a).1 v.c).a.em with
  | true=>simp only[brT,if_true]
  | false =>
   cases e2:(red (refA op v.a w.a).2 w.c).a.em with
   | true=>simp only[brT,brF,if_true,if_false,Bool.false_eq_true]
   | false=>simp only[brF,if_false,Bool.false_eq_true]
end
end Go.N
namespace Go.N
open Go Go.Q Go.Rx
theorem ag6(lf:Nat)(x:IV):∃ b,kV.f lf x=some (b,())∧(b=true→tb x.2.1≤100000∧tb x.2.2.1≤100000):=by
 rw[kV.f]
 simp only[mQ.f,bdS]
 by_cases h:((x.2.1.size:Nat):Int)≤250
 ·rw[decide_eq_true h,brT]
  refine⟨_,rfl,fun k=>?_⟩
  have k:=of_decide_eq_true k
  rw[Lib.size_eq]at h k
  exact⟨by simp only[tb];omega,by simp only[tb];omega⟩
 ·rw[decide_eq_false h,brF]
  exact⟨_,rfl,nofun⟩
theorem akq(lf:Nat)(x y:IV):∃ b,mV.f lf x y=some (b,())∧(b=true→(tb x.2.1≤100000∧tb x.2.2.1≤100000)∧(tb y.2.1≤100000∧tb y.2.2.1≤100000)):=by
 rw[mV.f]
 by_cases h1:((x.2.1.size:Nat):Int)≤450
 ·rw[decide_eq_true h1,brT]
  by_cases h2:((x.2.2.1.size:Nat):Int)≤450
  ·rw[decide_eq_true h2,brT]
   by_cases h3:((y.2.1.size:Nat):Int)≤450
   ·rw[decide_eq_true h3,brT]
    refine⟨_,rfl,fun k=>?_⟩
    have k:=of_decide_eq_true k
    rw[Lib.size_eq]at h1 h2 h3 k
    exact⟨⟨by simp only[tb];omega,by simp only[tb];omega⟩,by simp only[tb];omega,by simp only[tb];omega⟩
   ·rw[decide_eq_false h3,brF];exact⟨_,rfl,nofun⟩
  ·rw[decide_eq_false h2,brF];exact⟨_,rfl,nofun⟩
 ·rw[decide_eq_false h1,brF];exact⟨_,rfl,nofun⟩
theorem alT(lf:Nat)(x y:VV):∃ b,mY.f lf x y=some (b,())∧(b=true→SmV x∧SmV y):=by
 obtain⟨a,a1,a2⟩:=akq lf x.1 y.1
 obtain⟨b,b1,b2⟩:=ag6 lf x.2.1
 obtain⟨c,c1,c2⟩:=ag6 lf y.2.1
 rw[mY.f,a1,bdS]
 cases a with
 | false=>simp only[brF];exact⟨_,rfl,nofun⟩
 | true =>
  simp only[brT,b1,bdS]
  cases b with
  | false=>simp only[brF];exact⟨_,rfl,nofun⟩
  | true =>
   simp only[brT,c1,bdS]
   refine⟨_,rfl,fun k=>?_⟩
   obtain⟨q1,q2⟩:=a2 rfl
   have q3:=b2 rfl
   have q4:=c2 k
   exact⟨⟨q1.1,q1.2,q3.1,q3.2⟩,q2.1,q2.2,q4.1,q4.2⟩
theorem bigN(n:Nat):∃ lf,Big lf∧n≤lf:=⟨2000000000+K.toNat+n,⟨by omega,by omega⟩,by omega⟩
theorem bigE:∃ lf,Big lf:=⟨_,(bigN 0).choose_spec.1⟩
end Go.N
namespace Go.N
open Go Go.Q
theorem awakeV(lf:Nat):lC.f lf=some (true,()):=by kernel_rfl
end Go.N
namespace Go.Q
open Go Go.RowKit Go.ChangeShapes Go.WideShapes
def flat:Ty→Bool
 | .sl _=>false
 | .pair a b=>flat a&&flat b
 | _=>true
def partsOf(P:Program)(t:TypeId):List (TypeId×Nat):=match P.underlying t with
 | some (.struct fs)=>fs.toList.map fun f=>(f.type,f.offset)
 | some (.array n e)=>(List.range n).map fun i=>(e,i*P.cellsOf e)
 | _=>[]
mutual
def fitT(P:Program):Ty→TypeId→Bool
 | .int k,t=>match P.underlying t with
  | some (.int k')=>decide (k'=k)
  | _=>false
 | .bool,t=>match P.underlying t with
  | some .bool=>true
  | _=>false
 | .str,t=>match P.underlying t with
  | some .string=>true
  | _=>false
 | .unit,_=>false
 | .nul,_=>false
 | .pair a b,t=>match partsOf P t with
  | p::r=>p.2==0&&(fitT P a p.1&&(P.cellsOf p.1==a.n&&(fitL P b r a.n&&P.cellsOf t==a.n+b.n)))
  | []=>false
 | .sl e,t=>match P.underlying t with
  | some (.slice e')=>fitT P e e'&&(flat e&&P.cellsOf e'==e.n)
  | _=>false
def fitL(P:Program):Ty→List (TypeId×Nat)→Nat→Bool
 | .unit,l,_=>match l with
  | []=>true
  | _=>false
 | .pair a b,l,k=>match l with
  | p::r=>p.2==k&&(fitT P a p.1&&(P.cellsOf p.1==a.n&&fitL P b r (k+a.n)))
  | []=>false
 | _,_,_=>false
end
def Bnd:(T:Ty)→T.α→Prop
 | .int k,x=>k.min≤x∧x≤k.max
 | .str,x=>x.size≤9223372036854775807
 | .pair a b,x=>Bnd a x.1∧Bnd b x.2
 | .sl e,l=>l.length≤9223372036854775807∧∀ y∈l,Bnd e y
 | _,_=>True
def Bnds:(ps:List Ty)→Tys ps→Prop
 | [],_=>True
 | t::ts,x=>Bnd t x.1∧Bnds ts x.2
section
variable {H:Type}{enc:TypeId×Value→H}{P:Program}{w:World}{F:Nat→Prop}{sp:Nat→Bool}{held:Bool}
theorem agL{t:TypeId}{fuel:Nat}{cs:List Value}{x:DataW H×List MemPlace}(hp:partsOf P t≠[])(h:DataW.trod enc P w 0 sp held fuel t cs=some x):
  cs.length=P.cellsOf t∧∃ n,∀ p∈partsOf P t,∃ y,DataW.trod enc P w 0 sp held n p.1 ((cs.drop p.2).take (P.cellsOf p.1))=some y:=by
 unfold partsOf at hp⊢
 split at hp
 ·rename_i fs hu
  obtain⟨xs,n,_,_,hl,hxl,hf⟩:=DataW.trod_struct hu h
  refine⟨hl,n,fun p hm=>?_⟩
  simp only[List.mem_map]at hm
  obtain⟨f,hfm,rfl⟩:=hm
  obtain⟨i,hi,he⟩:=List.mem_iff_getElem.1 hfm
  have h1:fs[i]? = some f:=by
   have:fs.toList[i]? = some f:=by rw[List.getElem?_eq_getElem hi,he]
   simpa using this
  have h2:i < xs.length:=by
   rw[hxl];simpa using hi
  exact⟨xs[i],by rw[hf i f h1,List.getElem?_eq_getElem h2]⟩
 ·rename_i n e hu
  obtain⟨xs,m,_,_,hl,hxl,hf⟩:=DataW.trod_array hu h
  refine⟨hl,m,fun p hm=>?_⟩
  simp only[List.mem_map,List.mem_range]at hm
  obtain⟨i,hi,rfl⟩:=hm
  exact⟨xs[i],by rw[hf i hi,List.getElem?_eq_getElem (by omega)]⟩
 ·exact absurd rfl hp
mutual
theorem wU:∀ (T:Ty) (t:TypeId) (cs:List Value) (x:DataW H×List MemPlace) (fuel:Nat),flat T=true→fitT P T t=true→DataW.trod enc P w 0 sp held fuel t cs=some x→∃ y:T.α,DR F w T y cs∧Bnd T y
 | .int k,t,cs,x,fuel,_,hf,h=>by
  unfold fitT at hf
  split at hf
  ·rename_i k' hu
   obtain rfl:k'=k:=by simpa using hf
   obtain⟨n,rfl,_,hw⟩:=DataW.trod_int hu h
   exact⟨n,rfl,by simpa [Lit.wf,Bnd]using hw⟩
  ·cases hf
 | .bool,t,cs,x,fuel,_,hf,h=>by
  unfold fitT at hf
  split at hf
  ·rename_i hu
   obtain⟨b,rfl,_⟩:=DataW.trod_bool hu h
   exact⟨b,rfl,trivial⟩
  ·cases hf
 | .str,t,cs,x,fuel,_,hf,h=>by
  unfold fitT at hf
  split at hf
  ·rename_i hu
   obtain⟨s,rfl,_,hs⟩:=DataW.trod_string hu h
   exact⟨s,rfl,by simpa [maxLen,Bnd]using hs⟩
  ·cases hf
 | .unit,t,cs,x,fuel,_,hf,h=>by simp[fitT]at hf
 | .nul,t,cs,x,fuel,_,hf,h=>by simp[fitT]at hf
 | .sl e,t,cs,x,fuel,hfl,_,_=>by simp[flat]at hfl
 | .pair a b,t,cs,x,fuel,hfl,hf,h=>by
  unfold fitT at hf
  split at hf
  ·rename_i p r hp
   simp only[Bool.and_eq_true,beq_iff_eq]at hf
   obtain⟨h0,h1,h2,h3,h4⟩:=hf
   simp only[flat,Bool.and_eq_true]at hfl
   obtain⟨hl,n,hm⟩:=agL (by rw[hp];simp) h
   rw[hp]at hm
   obtain⟨y0,hy0⟩:=hm p (by simp)
   rw[h0,h2]at hy0
   obtain⟨u,d1,b1⟩:=wU a p.1 _ _ n hfl.1 h1 hy0
   obtain⟨v,d2,b2⟩:=afa b r a.n cs n hfl.2 h3 (fun q hq=>hm q (by simp[hq])) (by omega)
   refine⟨(u,v),⟨_,_,?_,d1,d2⟩,b1,b2⟩
   have e:(cs.drop a.n).take b.n=cs.drop a.n:=List.take_of_length_le (by rw[List.length_drop];omega)
   rw[e];simp
  ·cases hf
theorem afa:∀ (T:Ty) (l:List (TypeId×Nat)) (k:Nat) (cs:List Value) (n:Nat),flat T=true→fitL P T l k=true→(∀ p∈l,∃ y,DataW.trod enc P w 0 sp held n p.1 ((cs.drop p.2).take (P.cellsOf p.1))=some y)→k+T.n≤cs.length→∃ y:T.α,DR F w T y ((cs.drop k).take T.n)∧Bnd T y
 | .int k',l,k,cs,n,_,hf,_,_=>by simp[fitL]at hf
 | .bool,l,k,cs,n,_,hf,_,_=>by simp[fitL]at hf
 | .str,l,k,cs,n,_,hf,_,_=>by simp[fitL]at hf
 | .nul,l,k,cs,n,_,hf,_,_=>by simp[fitL]at hf
 | .sl _,l,k,cs,n,_,hf,_,_=>by simp[fitL]at hf
 | .unit,l,k,cs,n,_,hf,_,_=>⟨(),by simp[DR,Ty.n],trivial⟩
 | .pair a b,l,k,cs,n,hfl,hf,hm,hk=>by
  unfold fitL at hf
  split at hf
  ·rename_i p r
   simp only[Bool.and_eq_true,beq_iff_eq]at hf
   obtain⟨h0,h1,h2,h3⟩:=hf
   simp only[flat,Bool.and_eq_true]at hfl
   simp only[Ty.n]at hk
   obtain⟨y0,hy0⟩:=hm p (by simp)
   rw[h0,h2]at hy0
   obtain⟨u,d1,b1⟩:=wU a p.1 _ _ n hfl.1 h1 hy0
   obtain⟨v,d2,b2⟩:=afa b r (k+a.n) cs n hfl.2 h3 (fun q hq=>hm q (by simp[hq])) (by omega)
   refine⟨(u,v),⟨_,_,?_,d1,d2⟩,b1,b2⟩
   simp only[Ty.n]
   rw[List.take_add,List.drop_drop]
  ·cases hf
end
theorem ahe{α:Type}{R:Nat→α→Prop}:∀ (n:Nat),(∀ i,i < n→∃ y,R i y)→∃ l:List α,l.length=n∧∀ (i:Nat) (y:α),l[i]? = some y→R i y
 | 0,_=>⟨[],rfl,fun i y h=>by simp at h⟩
 | n+1,h=>by
  obtain⟨l,hl,hr⟩:=ahe n fun i hi=>h i (by omega)
  obtain⟨y,hy⟩:=h n (by omega)
  refine⟨l++[y],by simp[hl],fun i z hz=>?_⟩
  by_cases hi:i < l.length
  ·rw[List.getElem?_append_left hi]at hz;exact hr i z hz
  ·rw[List.getElem?_append_right (by omega)]at hz
   have:i=l.length:=by
    by_cases e:i-l.length=0
    ·omega
    ·obtain⟨q,hq⟩:=Nat.exists_eq_succ_of_ne_zero e
     rw[hq]at hz;simp at hz
   subst this
   simp only[Nat.sub_self,List.getElem?_cons_zero,Option.some.injEq]at hz
   subst hz;rw[hl];exact hy
def topOK:Ty→Bool
 | .sl e=>flat e
 | T=>flat T
theorem aeX(b o n:Nat):(Addr.add ⟨b,o,none⟩ n)=⟨b,o+n,none⟩:=by
 unfold Addr.add;split
 ·rename_i h;rw[h];rfl
 ·rfl
theorem aif{i:Nat}{q:TypeId×Nat}(h:w.shape? i=some q):IsC w i:=by
 unfold World.shape? at h
 unfold IsC
 cases hb:w.heap[i]? with
 | none=>rw[hb]at h;simp at h
 | some o=>cases o<;>rw[hb]at h<;>simp_all
theorem aeP{T:Ty}{t:TypeId}{v:Value}{d:DataW H}{p:List MemPlace}{base:Nat}(ht:topOK T=true)(hf:fitT P T t=true)(hv:Value.okWide P w .any base t v)(h:DataW.Trod enc P w 0 sp held t v d p):∃ y:T.α,ValR (IsC w) w T y v∧Bnd T y:=by
 obtain⟨fuel,h⟩:=h
 unfold ValR
 cases T with
 | int k =>
  obtain⟨y,h1,h2⟩:=wU (F:=IsC w) (.int k) t _ _ fuel rfl hf h
  unfold fitT at hf
  split at hf
  ·rename_i k' hu
   obtain⟨n,rfl⟩:=okWide_int hu hv
   exact⟨y,by rw[if_neg (by simp[isSt])];simpa [Value.cells]using h1,h2⟩
  ·cases hf
 | bool =>
  obtain⟨y,h1,h2⟩:=wU (F:=IsC w) .bool t _ _ fuel rfl hf h
  unfold fitT at hf
  split at hf
  ·rename_i hu
   obtain⟨n,rfl⟩:=okWide_bool hu hv
   exact⟨y,by rw[if_neg (by simp[isSt])];simpa [Value.cells]using h1,h2⟩
  ·cases hf
 | str =>
  obtain⟨y,h1,h2⟩:=wU (F:=IsC w) .str t _ _ fuel rfl hf h
  unfold fitT at hf
  split at hf
  ·rename_i hu
   obtain⟨n,rfl⟩:=okWide_string hu hv
   exact⟨y,by rw[if_neg (by simp[isSt])];simpa [Value.cells]using h1,h2⟩
  ·cases hf
 | unit=>simp[fitT]at hf
 | nul=>simp[fitT]at hf
 | pair a b =>
  obtain⟨y,h1,h2⟩:=wU (F:=IsC w) (.pair a b) t _ _ fuel ht hf h
  obtain⟨cs,rfl⟩:∃ cs,v=.agg cs:=by
   unfold fitT at hf
   split at hf
   ·rename_i q r hp
    unfold partsOf at hp
    unfold Value.okWide at hv
    split at hp
    ·rename_i fs hu
     rw[hu]at hv
     obtain⟨cs,e,_⟩:=hv
     exact⟨cs,e⟩
    ·rename_i n e hu
     rw[hu]at hv
     obtain⟨cs,e,_⟩:=hv
     exact⟨cs,e⟩
    ·cases hp
   ·cases hf
  exact⟨y,by rw[if_pos (show isSt (.pair a b)=true from rfl)];exact⟨cs.toList,by simp,h1⟩,h2⟩
 | sl e =>
  unfold fitT at hf
  split at hf
  ·rename_i e' hu
   simp only[Bool.and_eq_true,beq_iff_eq]at hf
   obtain⟨h1,h2,h3⟩:=hf
   obtain⟨a,len,cap,rfl⟩:=okWide_slice hu hv
   rcases DataW.trod_slice hu h with⟨hc,_⟩ | ⟨a',len',cap',elems,rest,n,_,hc,_,_,hle,hcm,hel,hread,_⟩
   ·simp only[Value.cells,List.cons.injEq,Value.slice.injEq,and_true]at hc
    obtain⟨rfl,rfl,rfl⟩:=hc
    exact⟨[],by rw[if_neg (by simp[isSt])];exact⟨_,rfl,.inl ⟨rfl,rfl⟩⟩,by simp[Bnd]⟩
   ·simp only[Value.cells,List.cons.injEq,Value.slice.injEq,and_true]at hc
    obtain⟨rfl,rfl,rfl⟩:=hc
    have hhas:w.has P .any base a' e' cap:=by
     unfold Value.okWide Cell.okWide Cell.ok at hv
     rw[hu]at hv
     exact hv.2.2
    obtain⟨_,hspot,row,cells,hsh,_⟩:=hhas
    obtain⟨b,o,s⟩:=a'
    simp only at hspot;subst hspot
    have hisc:IsC w b:=aif hsh
    obtain⟨l,hl,hr⟩:=ahe (α:=e.α) (R:=fun i y=>(∃ ds:List Value,DR (IsC w) w e y ds∧∀ (j:Nat) (d:Value),ds[j]? = some d→w.cell? ⟨b,o+(i*e.n+j),none⟩=some d)∧Bnd e y) len fun i hi=>by
     have hq:=hread i hi
     rw[List.getElem?_eq_getElem (by omega),Option.bind_eq_some_iff]at hq
     obtain⟨cs,c1,c2⟩:=hq
     obtain⟨y,k1,k2⟩:=wU (F:=IsC w) e e' cs _ n h2 h1 c2
     refine⟨y,⟨cs,k1,fun j d' hd=>?_⟩,k2⟩
     obtain⟨_,m1,m2⟩:=World.cells?_some c1
     have hj:j < cs.length:=(List.getElem?_eq_some_iff.1 hd).1
     have:=m2 j (by omega)
     rw[aeX,aeX,h3]at this
     rw[←Nat.add_assoc,this];exact hd
    refine⟨l,?_,?_,?_⟩
    ·rw[if_neg (by simp[isSt])]
     refine⟨_,rfl,.inr ⟨b,o,cap,by rw[hl],hisc,by omega,fun i x hx=>(hr i x hx).1⟩⟩
    ·rw[hl];simp only[maxLen]at hcm;omega
    ·intro y hy
     obtain⟨i,hi,he⟩:=List.mem_iff_getElem.1 hy
     exact(hr i y (by rw[List.getElem?_eq_getElem hi,he])).2
  ·cases hf
def fitAll(P:Program):List Ty→List TypeId→Bool
 | [],[]=>true
 | T::Ts,t::ts=>(topOK T&&fitT P T t)&&fitAll P Ts ts
 | _,_=>false
theorem zC:∀ {Ts:List Ty} {ts:List TypeId} {vs:List Value} {ds:List (DataW H)} {p:List MemPlace} {base:Nat},fitAll P Ts ts=true→(∀ (j:Nat) t v,ts[j]? = some t→vs[j]? = some v→Value.okWide P w .any base t v)→
  DataW.TrodAll enc P w 0 sp held ts vs ds p→∃ x:Tys Ts,ArgsR (IsC w) w Ts x vs∧Bnds Ts x
 | [],[],vs,ds,p,base,_,_,h=>by
  cases vs with
  | nil=>exact⟨(),rfl,trivial⟩
  | cons _ _=>cases ds<;>exact absurd h (by simp[DataW.TrodAll])
 | [],_::_,vs,ds,p,base,hf,_,h=>by simp[fitAll]at hf
 | _::_,[],vs,ds,p,base,hf,_,h=>by simp[fitAll]at hf
 | T::Ts,t::ts,vs,ds,p,base,hf,hv,h=>by
  simp only[fitAll,Bool.and_eq_true]at hf
  cases vs with
  | nil=>cases ds<;>exact absurd h (by simp[DataW.TrodAll])
  | cons v vs =>
   cases ds with
   | nil=>exact absurd h (by simp[DataW.TrodAll])
   | cons d ds =>
    obtain⟨p1,p2,h1,h2,_⟩:=h
    obtain⟨y,k1,k2⟩:=aeP hf.1.1 hf.1.2 (hv 0 t v rfl rfl) h1
    obtain⟨x,m1,m2⟩:=zC hf.2 (fun j t' v' a b=>hv (j+1) t' v' (by simpa using a) (by simpa using b)) h2
    exact⟨(y,x),⟨v,vs,rfl,k1,m1⟩,k2,m2⟩
theorem zG{W W':World}(hl:laidOutB P=true)(hb:Below W.heap.size W W'):∀ {ts:List TypeId} {vs:List Value} {ds:List (DataW H)} {p:List MemPlace},(ts.all fun t=>P.readableRec t&&decide (t < P.types.size))=true→
  DataW.TrodAll enc P W 0 (fun _=>true) true ts vs ds p→DataW.TrodAll enc P W' 0 (fun b=>decide (b < W.heap.size)) true ts vs ds p
 | [],vs,ds,p,_,h=>by cases vs<;>cases ds<;>simp_all [DataW.TrodAll]
 | t::ts,vs,ds,p,ha,h=>by
  cases vs with
  | nil=>cases ds<;>exact absurd h (by simp[DataW.TrodAll])
  | cons v vs =>
   cases ds with
   | nil=>exact absurd h (by simp[DataW.TrodAll])
   | cons d ds =>
    simp only[List.all_cons,Bool.and_eq_true,decide_eq_true_eq]at ha
    obtain⟨p1,p2,h1,h2,rfl⟩:=h
    have hlt:∀ x∈p1,x.block < W.heap.size:=by
     obtain⟨m,hm⟩:=h1
     exact DataW.trod_lt m _ _ _ hm
    exact⟨p1,p2,Below.trod hl ha.1.1 ha.1.2 h1 hb hlt,zG hl hb ha.2 h2,rfl⟩
theorem afT{ts:List TypeId}:∀ {vs:List Value} {ds:List (DataW H)} {p:List MemPlace},DataW.TrodAll enc P w 0 sp held ts vs ds p→ds.length=ts.length:=by
 induction ts with
 | nil=>intro vs ds p h;cases vs<;>cases ds<;>simp_all [DataW.TrodAll]
 | cons t ts ih =>
  intro vs ds p h
  cases vs with
  | nil=>cases ds<;>exact absurd h (by simp[DataW.TrodAll])
  | cons v vs =>
   cases ds with
   | nil=>exact absurd h (by simp[DataW.TrodAll])
   | cons d ds=>obtain⟨_,_,_,h2,_⟩:=h;simp[ih h2]
end
section
variable {H:Type}{enc:TypeId×Value→H}
theorem aja(hl:laidOutB Proofs.Tryz.prog=true){n:FuncId}{fn:Func}{s:ChangeSpec}{Ts:List Ty}{f:Nat→Tys Ts→Option (Bool×Unit)}(hE:∀ lf,pU Proofs.Tryz.prog TabG n ⟨Ts,[.bool],f lf⟩)
  (hf:fitAll Proofs.Tryz.prog Ts fn.params.toList=true) (hrd:(fn.params.toList.all fun t=>Proofs.Tryz.prog.readableRec t&&decide (t < Proofs.Tryz.prog.types.size))=true)
  {rt:TypeId} (hrt:fn.resultTypes=#[rt]) (hub:Proofs.Tryz.prog.underlying rt=some .bool) (hsv:s.vars=[])
  (hs:∀ ds:List (DataW H),ds.length=fn.params.toList.length→s.fn H ds={ results:=[.lit (.bool true)],args:=ds })
  (hpure:∀ x:Tys Ts,Bnds Ts x→∃ lf,f lf x=some (true,()))
  {W:World} {base:Nat} {args:Array Value} {ds gs:List (DataW H)} {before:List MemPlace} {apart fresh handsOn:Bool}
  (hval:∀ (j:Nat) t v,fn.params[j]? = some t→args[j]? = some v→Value.okWide Proofs.Tryz.prog W .any base t v)
  (hW:DataW.Whole enc Proofs.Tryz.prog fn.params.toList s.vars apart W args.toList ds gs before) (hG:TabG W) :
  Calls Proofs.Tryz.prog n args W fun e W'=>∃ v,e=.returned v∧s.post enc Proofs.Tryz.prog fn apart fresh handsOn false W args v W':=by
 have hW':=hW
 obtain⟨p,q,hA,hV,rfl,_,_⟩:=hW
 rw[hsv]at hV
 obtain⟨rfl,rfl⟩:=trodVars_none hV
 have hv':∀ (j:Nat) (t:TypeId) (v:Value),fn.params.toList[j]? = some t→args.toList[j]? = some v→Value.okWide Proofs.Tryz.prog W .any base t v:=by
  intro j t v a b
  rw[Array.getElem?_toList]at a b
  exact hval j t v a b
 obtain⟨x,k1,k2⟩:=zC hf hv' hA
 obtain⟨lf,hlf⟩:=hpure x k2
 have hlen:=afT hA
 have h:=hE lf x (true,()) hlf (IsC W) W args.toList hG (fun i hi=>hi) k1
 rw[Array.toArray_toList]at h
 refine h.mono ?_
 rintro e W' ⟨v,rfl,hb,hr⟩
 obtain⟨vs,⟨u,r,rfl,h1,h2⟩,rfl⟩:=hr
 obtain rfl:r=[]:=h2
 have hu:u=.bool true:=by
  unfold ValR at h1
  rw[if_neg (by simp[isSt])]at h1
  simpa [DR]using h1
 subst hu
 refine⟨_,rfl,ds,[],p++[],[],p,[],hW',?_,?_,?_,hb.frame _,fun h=>by cases h⟩
 ·rw[List.append_nil,hs ds hlen,hrt]
  exact trodAll_mk1 (shut_bool hub true)
 ·rw[List.append_nil,hs ds hlen]
  exact zG hl hb hrd hA
 ·rw[List.append_nil,hs ds hlen,hsv]
  rfl
end
theorem aeH{laid:List (String×DataW Unit)}{W:World}(hp:(laid.all fun x=>x.2.handleName?.isNone)=true){g:Nat}{t e:TypeId}{n:Nat}{rest:List (String×DataW Unit)}
  (hg:Proofs.Tryz.prog.globalNamed "internal/strconv.uint64pow10" = some g) (hty:(Proofs.Tryz.prog.globals[g]?).map (·.type)=some t) (ht:Proofs.Tryz.prog.underlying t=some (.array n e)) (he:Proofs.Tryz.prog.underlying e=some (.int .u64))
  (hce:Proofs.Tryz.prog.cellsOf e=1) (hct:Proofs.Tryz.prog.cellsOf t=n)
  (hh:(laid.filter fun x=>x.1 == "internal/strconv.uint64pow10")=("internal/strconv.uint64pow10",Lib.tabData .u64 Lib.pow10Tab)::rest)
  (h:laidMetH Proofs.Tryz.prog laid W):TabG W:=by
 rw[MakeChecks.laidMetH_plain _ _ _ hp]at h
 have h':=laidMet.filter (fun x=>x.1 == "internal/strconv.uint64pow10") h
 rw[hh]at h'
 exact Lib.tabIs_of_head hg hty ht he hce hct h'
theorem akr{P:Program}{c:OpenClaim}(h:P.funcs.any Func.goes=false)(hs:c.start=.entering):false=c.goesBy P:=by
 have key:∀ (g:Nat) (fn:Func),P.funcs[g]? = some fn→fn.goes=false:=by
  intro g fn hg
  have:=Array.any_eq_false.1 h
  obtain⟨hlt,e⟩:=Array.getElem?_eq_some_iff.1 hg
  have:=this g hlt
  rw[e]at this
  simpa using this
 have k2:∀ g:Nat,(P.funcs[g]?).any Func.goes=false:=by
  intro g
  cases hg:P.funcs[g]? with
  | none=>rfl
  | some fn=>simp[key g fn hg]
 unfold OpenClaim.goesBy Program.goesAt Program.goesFrom
 rw[hs]
 have k3:∀ f,P.goes f=false:=by
  intro f
  unfold Program.goes
  rw[h,Bool.and_false,Bool.or_false]
  simp only[k2]
  simp
 cases P.funcNamed c.func with
 | none=>rfl
 | some f=>simp[k3]
end Go.Q
namespace Go.N
open Go Go.Q Go.Rx
theorem aeu(x y:Option Int):((ob x).toList==(ob y).toList)=decide (x=y):=by
 cases x with
 | none=>cases y with
  | none=>rw[decide_eq_true rfl];exact BEq.rfl
  | some z =>
   rw[decide_eq_false (by simp)]
   show((bs []).toList==(bs (Lib.itoa z)).toList)=false
   rw[kG,decide_eq_false]
   exact fun h=>kE z h.symm
 | some z=>cases y with
  | none =>
   rw[decide_eq_false (by simp)]
   show((bs (Lib.itoa z)).toList==(bs []).toList)=false
   rw[kG,decide_eq_false]
   exact fun h=>kE z h
  | some u =>
   show((bs (Lib.itoa z)).toList==(bs (Lib.itoa u)).toList)=_
   rw[kG]
   simp only[decide_eq_decide,Option.some.injEq]
   exact⟨nX,fun h=>by rw[h]⟩
theorem zO{a:A}(e:a.em=false):ofA a=⟨lox a.lo,hix a.hi⟩:=by unfold ofA;rw[if_neg (by simp[e])]
theorem ajP{b:A}(e:b.em=false):single (ofA b)=(!decide (b.lo=none)&&decide (b.lo=b.hi)):=by
 rw[zO e]
 cases b.lo<;>cases b.hi<;>simp[single,lox,hix]
section
variable (lf:Nat)(h3:200000≤lf){a b:A}(ha:Wf a)(hb:Wf b)(ea:a.em=false)(eb:b.em=false)
include h3 ha hb ea eb
theorem adS:jy.f lf (ac a) (ac b)=some (ac (toA (if single (ofA b)=true then without (ofA a) (valX (ofA b).lo)else ofA a)),()):=by
 have hC:=C_gt
 have hK:=fO
 have o1:(⟨#[49]⟩:ByteArray)=bs (Lib.itoa 1):=i1
 rw[jy.f,mW.f]
 have s0:((ac b).2.1.toList==(⟨#[]⟩:ByteArray).toList)=decide (b.lo=none):=lZ b.lo
 have s1:((ac b).2.1.toList==(ac b).2.2.1.toList)=decide (b.lo=b.hi):=aeu b.lo b.hi
 have s2:(ac b).1=false:=eb
 have s3:(ac a).1=false:=ea
 have s4:((ob a.lo).toList==(ac b).2.1.toList)=decide (a.lo=b.lo):=aeu a.lo b.lo
 have s5:((ob a.hi).toList==(ac b).2.1.toList)=decide (a.hi=b.lo):=aeu a.hi b.lo
 have s6:(ac a).2.1=ob a.lo:=rfl
 have s7:(ac a).2.2.1=ob a.hi:=rfl
 have ta:toA (ofA a)=a:=aaE ha
 rw[ajP eb]
 simp only[s0,s1,s2,s3,s4,s5,s6,s7,Bool.not_false,brT,brF]
 cases hl:b.lo with
 | none=>simp only[decide_true,Bool.not_true,brF,bdS,Bool.not_false,brT,Bool.false_and,Bool.false_eq_true,if_false,ta]
 | some v =>
  have bv: -C < v∧v < C:=by have:=hb.lo;rw[hl]at this;exact this
  simp only[reduceCtorEq,decide_false,Bool.not_false,brT,bdS,Bool.true_and]
  by_cases hs:some v=b.hi
  ·rw[decide_eq_true hs,if_pos rfl]
   simp only[Bool.not_true,brF]
   have vx:valX (ofA b).lo=v:=by rw[zO eb,hl];rfl
   rw[vx,zO ea]
   have lo:=ha.lo
   have hi:=ha.hi
   have sI:=fun(x y:Int) (h: -K < x∧x < K) (k: -K < y∧y < K)=>sumI lf h3 h k
   have dI:=fun(x y:Int) (h: -K < x∧x < K) (k: -K < y∧y < K)=>diffI lf h3 h k
   unfold without
   dsimp only
   by_cases c1:a.lo=some v
   ·have x1:lox a.lo=.fin v:=by rw[c1];rfl
    rw[decide_eq_true c1,brT,if_pos x1]
    have u1:dB.f lf (ob a.lo) (⟨#[49]⟩:ByteArray)=some (ob (some (v+1)),()):=by
     rw[c1,o1];exact sI v 1 (by omega) (by omega)
    rw[u1,bdS]
    by_cases c2:a.hi=some v
    ·have x2:hix a.hi=.fin v:=by rw[c2];rfl
     have u2:aQ.f lf (ob a.hi) (⟨#[49]⟩:ByteArray)=some (ob (some (v-1)),()):=by
      rw[c2,o1];exact dI v 1 (by omega) (by omega)
     rw[decide_eq_true c2,brT,if_pos x2,u2,bdS]
     have r:=jI lf h3 (some (v+1)) (some (v-1)) (by simp only[okb];omega) (by simp only[okb];omega)
     simp only at r⊢
     rw[r,bdS,x1,x2];rfl
    ·have x2:¬hix a.hi=.fin v:=fun h=>c2 (by revert h;cases a.hi<;>simp[hix])
     rw[decide_eq_false c2,brF,if_neg x2]
     have r:=jI lf h3 (some (v+1)) a.hi (by simp only[okb];omega) ha.hiK
     simp only at r⊢
     rw[r,bdS,x1];rfl
   ·have x1:¬lox a.lo=.fin v:=fun h=>c1 (by revert h;cases a.lo<;>simp[lox])
    rw[decide_eq_false c1,brF,if_neg x1]
    by_cases c2:a.hi=some v
    ·have x2:hix a.hi=.fin v:=by rw[c2];rfl
     have u2:aQ.f lf (ob a.hi) (⟨#[49]⟩:ByteArray)=some (ob (some (v-1)),()):=by
      rw[c2,o1];exact dI v 1 (by omega) (by omega)
     rw[decide_eq_true c2,brT,if_pos x2,u2,bdS]
     have r:=jI lf h3 a.lo (some (v-1)) ha.loK (by simp only[okb];omega)
     simp only at r⊢
     rw[r,bdS,x2];rfl
    ·have x2:¬hix a.hi=.fin v:=fun h=>c2 (by revert h;cases a.hi<;>simp[hix])
     rw[decide_eq_false c2,brF,if_neg x2,jI lf h3 a.lo a.hi ha.loK ha.hiK,bdS]
  ·rw[decide_eq_false hs]
   simp only[Bool.not_false,brT,Bool.false_eq_true,if_false,ta]
end
theorem aha{x:Option Int}(d:Int):hix (addO x (some d))=xsh (hix x) d∧lox (addO x (some d))=xsh (lox x) d:=by
 cases x<;>exact⟨rfl,rfl⟩
theorem acE0:((true,(⟨#[]⟩:ByteArray),(⟨#[]⟩:ByteArray),()):IV)=ac E0:=rfl
theorem amb(lf:Nat)(h3:200000≤lf){a b:A}(ha:Wf a)(hb:Wf b){op:Int}(ho:op=3∨op=4∨op=5):
  jX.f lf op (ac a) (ac b)=some (ac (refA op a b).1,ac (refA op a b).2,()):=by
 have hC:=C_gt
 have hK:=fO
 have n1:(⟨#[45,49]⟩:ByteArray)=ob (some (-1)):=im1
 have o1:(⟨#[49]⟩:ByteArray)=ob (some 1):=i1
 rw[jX.f]
 have sa:(ac a).1=a.em:=rfl
 have sb:(ac b).1=b.em:=rfl
 unfold refA
 rw[jm ha,jm hb]
 simp only[sa,sb,aA.f,bdS,acE0]
 cases ea:a.em with
 | true=>simp only[brT,Bool.true_or,if_true]
 | false=>cases eb:b.em with
  | true=>simp only[brT,brF,Bool.or_true,if_true]
  | false =>
   simp only[brF,Bool.or_self,Bool.false_eq_true,if_false,aap lf h3 ha hb,bdS]
   have l1:(ac a).2.1=ob a.lo:=rfl
   have l2:(ac a).2.2.1=ob a.hi:=rfl
   have l3:(ac b).2.1=ob b.lo:=rfl
   have l4:(ac b).2.2.1=ob b.hi:=rfl
   have one1:okb C (some (1:Int)):=by simp only[okb];omega
   have one2:okb C (some (-1:Int)):=by simp only[okb];omega
   have em:∀ x:A,(ac x).1=x.em:=fun _=>rfl
   rcases ho with rfl | rfl | rfl
   ·rw[show((3:Int)==3)=true from rfl,show((3:Int)==4)=false from rfl,show((3:Int)==5)=false from rfl]
    simp only[brT,brF,adS lf h3 ha hb ea eb,adS lf h3 hb ha eb ea,bdS,em,vK]
    have d:cmpS 3 (ofA a) (ofA b)=(if single (ofA b)=true then without (ofA a) (valX (ofA b).lo)else ofA a,if single (ofA a)=true then without (ofA b) (valX (ofA a).lo)else ofA b):=rfl
    rw[d]
    simp only
    generalize (if single (ofA b)=true then without (ofA a) (valX (ofA b).lo)else ofA a)=S
    generalize (if single (ofA a)=true then without (ofA b) (valX (ofA a).lo)else ofA b)=T
    cases emp S<;>cases emp T<;>simp[brT,brF]
   ·rw[show((4:Int)==3)=false from rfl,show((4:Int)==4)=true from rfl,show((4:Int)==5)=false from rfl]
    have t1:=yQ ha.hiK (wK hb.hi one2)
    have t2:=aa5 hb.loK (wK ha.lo one1)
    simp only[brT,brF,l1,l2,l3,l4,n1,o1,rsumO lf h3 hb.hi one2,rsumO lf h3 ha.lo one1,bdS,zq lf h3 _ _ ha.hiK (wK hb.hi one2),aa4 lf h3 _ _ hb.loK (wK ha.lo one1),
     jI lf h3 _ _ ha.loK t1.2,jI lf h3 _ _ t2.2 hb.hiK,t1.1,t2.1,(aha (-1)).1,(aha 1).2,em,vK]
    have d:cmpS 4 (ofA a) (ofA b)=(⟨(ofA a).lo,xmin (ofA a).hi (xsh (ofA b).hi (-1))⟩,⟨xmax (ofA b).lo (xsh (ofA a).lo 1),(ofA b).hi⟩):=rfl
    rw[d,zO ea,zO eb]
    simp only
    generalize (⟨lox a.lo,xmin (hix a.hi) (xsh (hix b.hi) (-1))⟩:Sp)=S
    generalize (⟨xmax (lox b.lo) (xsh (lox a.lo) 1),hix b.hi⟩:Sp)=T
    cases emp S<;>cases emp T<;>simp[brT,brF]
   ·rw[show((5:Int)==3)=false from rfl,show((5:Int)==4)=false from rfl,show((5:Int)==5)=true from rfl]
    have t1:=yQ ha.hiK hb.hiK
    have t2:=aa5 hb.loK ha.loK
    simp only[brT,brF,l1,l2,l3,l4,bdS,zq lf h3 _ _ ha.hiK hb.hiK,aa4 lf h3 _ _ hb.loK ha.loK,
     jI lf h3 _ _ ha.loK t1.2,jI lf h3 _ _ t2.2 hb.hiK,t1.1,t2.1,em,vK]
    have z:∀ x:X,xsh x 0=x:=fun x=>by cases x<;>simp[xsh]
    have d:cmpS 5 (ofA a) (ofA b)=(⟨(ofA a).lo,xmin (ofA a).hi (xsh (ofA b).hi 0)⟩,⟨xmax (ofA b).lo (xsh (ofA a).lo 0),(ofA b).hi⟩):=rfl
    rw[d,zO ea,zO eb]
    simp only[z]
    generalize (⟨lox a.lo,xmin (hix a.hi) (hix b.hi)⟩:Sp)=S
    generalize (⟨xmax (lox b.lo) (lox a.lo),hix b.hi⟩:Sp)=T
    cases emp S<;>cases emp T<;>simp[brT,brF]
section
variable (lf:Nat)(hb:Big lf){v w:Vl}(hv:WfV v)(hw:WfV w)
include hb hv hw
theorem amd{op:Int}(ho:op=2∨op=3∨op=4∨op=5):gq.f lf op (vc v) (vc w)=some (vc (refV op v w).1,vc (refV op v w).2,()):=by
 have h3:200000≤lf:=by have:=hb.1;omega
 rw[gq.f]
 unfold refV
 by_cases h2:op=2
 ·have:(op==2)=true:=by simp[h2]
  rw[this,brT,if_pos h2,al5 lf hb hv hw,bdS,bdS]
 ·have:(op==2)=false:=by simp[h2]
  obtain⟨w1,w2⟩:=ahr hv.a hw.a ho
  have ho':op=3∨op=4∨op=5:=by omega
  rw[this,brF,if_neg h2]
  simp only[show(vc v).1=ac v.a from rfl,show(vc v).2.1=cc v.c from rfl,show(vc w).1=ac w.a from rfl,show(vc w).2.1=cc w.c from rfl,amb lf h3 hv.a hw.a ho',bdS,abb lf hb w1 hv.c,abb lf hb w2 hw.c,bU.f,aA.f,aH.f]
  have em:∀ x:Vl,(vc x).1.1=x.a.em:=fun _=>rfl
  simp only[em]
  have evv:(((true,(⟨#[]⟩:ByteArray),(⟨#[]⟩:ByteArray),()),(true,(⟨#[]⟩:ByteArray),(⟨#[]⟩:ByteArray),()),()):VV)=vc Ev:=rfl
  simp only[evv]
  cases e1:(red (refA op v.a w.a).1 v.c).a.em with
  | true=>simp only[brT,if_true]
  | false =>
   cases e2:(red (refA op v.a w.a).2 w.c).a.em with
   | true=>simp only[brT,brF,if_true,if_false,Bool.false_eq_true]
   | false=>simp only[brF,if_false,Bool.false_eq_true]
theorem amO{op:Int}(ho:3≤op∧op≤7):jH.f lf op (vc v) (vc w)=some (vc (opV op v w),0,()):=by
 have hlf:=hb.1
 have h3:200000≤lf:=by omega
 have wO:=alr hv.a hw.a ho
 have wC:=ajq (op:=op) (d:=w.c) hv.c
 have rd:=abj lf hb wO wC
 have p1:(vc v).1=ac v.a:=rfl
 have p2:(vc v).2.1=cc v.c:=rfl
 have p3:(vc w).1=ac w.a:=rfl
 have p4:(vc w).2.1=cc w.c:=rfl
 rw[jH.f]
 simp only[(ad1 lf hb hv hw).1,bdS,bne_self_eq_false,brF,p1,p2,p3,p4]
 rcases op3 ho with rfl | rfl | rfl | rfl | rfl
 ·rw[show((3:Int)==3)=true from rfl,brT]
  simp only[alU lf h3 hv.a hw.a,amv lf hb hv.c hw.c,bdS,bne_self_eq_false,brF]
  rw[show opS 3 (ofA v.a) (ofA w.a)=addS (ofA v.a) (ofA w.a) from rfl,show opC 3 v.c w.c=plusC v.c w.c from rfl]at rd
  rw[rd,bdS];rfl
 ·rw[show((4:Int)==3)=false from rfl,brF,show((4:Int)==4)=true from rfl,brT]
  simp only[alY lf h3 hv.a hw.a,amW lf hb hv.c hw.c,bdS,bne_self_eq_false,brF]
  rw[show opS 4 (ofA v.a) (ofA w.a)=addS (ofA v.a) (turn (ofA w.a)) from rfl,show opC 4 v.c w.c=minusC v.c w.c from rfl]at rd
  rw[rd,bdS];rfl
 ·rw[show((5:Int)==3)=false from rfl,brF,show((5:Int)==4)=false from rfl,brF,show((5:Int)==5)=true from rfl,brT]
  simp only[alV lf h3 hv.a hw.a,amM lf hb hv.c hw.c,bdS,bne_self_eq_false,brF]
  rw[show opS 5 (ofA v.a) (ofA w.a)=apS xmul (ofA v.a) (ofA w.a) from rfl,show opC 5 v.c w.c=timesC v.c w.c from rfl]at rd
  rw[rd,bdS];rfl
 ·rw[show((6:Int)==3)=false from rfl,brF,show((6:Int)==4)=false from rfl,brF,show((6:Int)==5)=false from rfl,brF,show((6:Int)==6)=true from rfl,brT]
  simp only[alW lf hlf hv.a hw.a,amQ lf hb hv.c hw.c,bdS,bne_self_eq_false,brF]
  rw[show opS 6 (ofA v.a) (ofA w.a)=quoS (ofA v.a) (ofA w.a) from rfl,show opC 6 v.c w.c=quoC v.c w.c from rfl]at rd
  rw[rd,bdS];rfl
 ·rw[show((7:Int)==3)=false from rfl,brF,show((7:Int)==4)=false from rfl,brF,show((7:Int)==5)=false from rfl,brF,show((7:Int)==6)=false from rfl,brF,show((7:Int)==7)=true from rfl,brT]
  simp only[alX lf hlf hv.a hw.a,amT lf hb hv.c hw.c,bdS,bne_self_eq_false,brF]
  rw[show opS 7 (ofA v.a) (ofA w.a)=remS (ofA v.a) (ofA w.a) from rfl,show opC 7 v.c w.c=restC v.c w.c from rfl]at rd
  rw[rd,bdS];rfl
theorem amP{op:Int}(ho:3≤op∧op≤7):jY.f lf op (vc v) (vc w)=some (vc (opV op v w),()):=by
 have hlf:=hb.1
 have h3:200000≤lf:=by omega
 have wO:=alr hv.a hw.a ho
 have wC:=ajq (op:=op) (d:=w.c) hv.c
 have rd:=abb lf hb wO wC
 have p1:(vc v).1=ac v.a:=rfl
 have p2:(vc v).2.1=cc v.c:=rfl
 have p3:(vc w).1=ac w.a:=rfl
 have p4:(vc w).2.1=cc w.c:=rfl
 rw[jY.f]
 simp only[p1,p2,p3,p4]
 rcases op3 ho with rfl | rfl | rfl | rfl | rfl
 ·rw[show((3:Int)==3)=true from rfl,brT]
  simp only[ajv lf h3 hv.a hw.a,ama lf hb hv.c hw.c,bdS]
  rw[show opS 3 (ofA v.a) (ofA w.a)=addS (ofA v.a) (ofA w.a) from rfl,show opC 3 v.c w.c=plusC v.c w.c from rfl]at rd
  rw[rd,bdS];rfl
 ·rw[show((4:Int)==3)=false from rfl,brF,show((4:Int)==4)=true from rfl,brT]
  simp only[akG lf h3 hv.a hw.a,akH lf hb hv.c hw.c,bdS]
  rw[show opS 4 (ofA v.a) (ofA w.a)=addS (ofA v.a) (turn (ofA w.a)) from rfl,show opC 4 v.c w.c=minusC v.c w.c from rfl]at rd
  rw[rd,bdS];rfl
 ·rw[show((5:Int)==3)=false from rfl,brF,show((5:Int)==4)=false from rfl,brF,show((5:Int)==5)=true from rfl,brT]
  simp only[ak5 lf h3 hv.a hw.a,ak6 lf hb hv.c hw.c,bdS]
  rw[show opS 5 (ofA v.a) (ofA w.a)=apS xmul (ofA v.a) (ofA w.a) from rfl,show opC 5 v.c w.c=timesC v.c w.c from rfl]at rd
  rw[rd,bdS];rfl
 ·rw[show((6:Int)==3)=false from rfl,brF,show((6:Int)==4)=false from rfl,brF,show((6:Int)==5)=false from rfl,brF,show((6:Int)==6)=true from rfl,brT]
  simp only[al8 lf h3 hv.a hw.a,al9 lf hb hv.c hw.c,bdS]
  rw[show opS 6 (ofA v.a) (ofA w.a)=quoS (ofA v.a) (ofA w.a) from rfl,show opC 6 v.c w.c=quoC v.c w.c from rfl]at rd
  rw[rd,bdS];rfl
 ·rw[show((7:Int)==3)=false from rfl,brF,show((7:Int)==4)=false from rfl,brF,show((7:Int)==5)=false from rfl,brF,show((7:Int)==6)=false from rfl,brF]
  simp only[ajg lf h3 hv.a hw.a,ajh lf hb hv.c hw.c,bdS]
  rw[show opS 7 (ofA v.a) (ofA w.a)=remS (ofA v.a) (ofA w.a) from rfl,show opC 7 v.c w.c=restC v.c w.c from rfl]at rd
  rw[rd,bdS];rfl
end
section
variable (lf:Nat)(hb:Big lf){x y:VV}(hx:SmV x)(hy:SmV y)
include hb hx hy
theorem ajs(op:Int):∃ r,jH.f lf op x y=some r∧ji.f lf op x y=some r:=by
 obtain⟨n,a1,a2,a3⟩:=alg lf hb hx hy
 by_cases ho:3≤op∧op≤7
 ·by_cases h:n=0
  ·obtain⟨v,w,rfl,rfl,hv,hw⟩:=a3 h
   refine⟨_,amO lf hb hv hw ho,?_⟩
   rw[ji.f,decide_eq_false (by omega),brF,decide_eq_false (by omega),brF,(ad1 lf hb hv hw).2,bdS]
   simp only[bne_self_eq_false,brF,amP lf hb hv hw ho,bdS]
  ·rw[ji.f,decide_eq_false (by omega),brF,decide_eq_false (by omega),brF,a2,bdS,jH.f]
   simp only[bneT h,brT,a1,bdS]
   refine⟨_,?_,rfl⟩
   rcases op3 ho with rfl | rfl | rfl | rfl | rfl<;>simp[brT,brF]
 ·have e:jH.f lf op x y=some (((false,(⟨#[]⟩:ByteArray),(⟨#[]⟩:ByteArray),()),(false,(⟨#[]⟩:ByteArray),(⟨#[]⟩:ByteArray),()),()),1,()):=by
   have q:∀ k:Int,3≤k∧k≤7→(op==k)=false:=fun k hk=>by
    rw[beq_eq_false_iff_ne];intro h;omega
   rw[jH.f]
   simp only[q 3 (by omega),q 4 (by omega),q 5 (by omega),q 6 (by omega),q 7 (by omega),brF]
  refine⟨_,e,?_⟩
  rw[ji.f]
  by_cases c:op < 3
  ·rw[decide_eq_true c,brT]
  ·rw[decide_eq_false c,brF,decide_eq_true (by omega),brT]
theorem aiv(op:Int):∃ r,jQ.f lf op x y=some r∧gX.f lf op x y=some r:=by
 obtain⟨n,a1,a2,a3⟩:=alg lf hb hx hy
 by_cases ho:op=2∨op=3∨op=4∨op=5
 ·by_cases h:n=0
  ·obtain⟨v,w,rfl,rfl,hv,hw⟩:=a3 h
   refine⟨_,amc lf hb hv hw ho,?_⟩
   have rr:=amd lf hb hv hw ho
   rw[gX.f]
   simp only[(ad1 lf hb hv hw).2,bdS,bne_self_eq_false,brF,rr]
   rcases ho with rfl | rfl | rfl | rfl<;>simp[brT,brF]
  ·rw[jQ.f,decide_eq_false (by omega),brF,decide_eq_false (by omega),brF,a1,bdS,gX.f]
   simp only[bneT h,brT,a2,bdS]
   refine⟨_,rfl,?_⟩
   rcases ho with rfl | rfl | rfl | rfl<;>simp[brT,brF]
 ·have e:gX.f lf op x y=some (((false,(⟨#[]⟩:ByteArray),(⟨#[]⟩:ByteArray),()),(false,(⟨#[]⟩:ByteArray),(⟨#[]⟩:ByteArray),()),()),((false,(⟨#[]⟩:ByteArray),(⟨#[]⟩:ByteArray),()),(false,(⟨#[]⟩:ByteArray),(⟨#[]⟩:ByteArray),()),()),1,()):=by
   have q:∀ k:Int,k=2∨k=3∨k=4∨k=5→(op != k)=true:=fun k hk=>by
    rw[bne_iff_ne];intro h;omega
   rw[gX.f]
   simp only[q 2 (by omega),q 3 (by omega),q 4 (by omega),q 5 (by omega),brT]
  refine⟨_,?_,e⟩
  rw[jQ.f]
  by_cases c:op < 2
  ·rw[decide_eq_true c,brT]
  ·rw[decide_eq_false c,brF,decide_eq_true (by omega),brT]
end
end Go.N
namespace Go.Q
open Go Go.N
theorem Pure.ValueApplies(x:Tys (fH.E 0).ps)(h:Bnds (fH.E 0).ps x):∃ lf,fH.f lf x.1 x.2.1 x.2.2.1=some (true,()):=by
 obtain⟨op,x,y,⟨⟩⟩:=x
 clear h
 obtain⟨lf,hb⟩:=bigE
 refine⟨lf,?_⟩
 obtain⟨b,b1,b2⟩:=alT lf x y
 rw[fH.f]
 simp only[b1,bdS,awakeV]
 cases b with
 | false=>simp only[Bool.not_false,Go.N.brT]
 | true =>
  obtain⟨hx,hy⟩:=b2 rfl
  obtain⟨r,r1,r2⟩:=ajs lf hb hx hy op
  obtain⟨s,s1,s2⟩:=aiv lf hb hx hy op
  simp only[Bool.not_true,Go.N.brF,r1,r2,s1,s2,bdS,BEq.rfl,Go.N.brT,af7,decide_true,Bool.and_self]
end Go.Q
