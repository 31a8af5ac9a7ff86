import Derived.Test.YtnjnggbibpnkbaaGreatDoorChecked
import Derived.ProofKit
import Derived.OpenShut
import Derived.LaidMore
import Derived.Lay
import Derived.Carry
import Derived.SevenTiedAt
import Derived.Stop.Joined
import Derived.Lib.LaidTab
import Derived.LaidSub
import Derived.Test.YtnjnggbibpnkbaaGreatDoorEIG15
import Derived.Test.YtnjnggbibpnkbaaGreatDoorEIN2
set_option linter.all false
set_option maxRecDepth 100000
open Bool renaming not_true→ze,false_eq_true→zg,not_false→zj,and_eq_true→zm
open Go.Lib renaming itoa→z7
open Go.Proofs.Tryz renaming prog→y5
open Int renaming toNat_natCast→vm
open List renaming getElem?_eq_getElem→zP,getElem?_eq_some_iff→y6,mem_map→yy,getElem?_map→yz,drop_zero→xD,length_eq_zero_iff→wc,mem_cons→ww,drop_eq_getElem_cons→vr,length_drop→vu,nil_append→vv,take_of_length_le→uW,append_nil→tc,mem_or_eq_of_mem_set→sC,mem_of_mem_take→rB,mem_of_mem_drop→qu,getElem_mem→qD,mem_iff_getElem→pQ,drop_eq_nil_of_le→ow,cons→n5,drop_drop→m5
open Nat renaming le_refl→za,add_assoc→xo,strongRecOn→pN,sub_add_cancel→mL
open Option renaming some→y8,map→xf,map_some→wj,bind_some→wT,bind_eq_some_iff→vB,bind→ot
namespace Go.N
open Go Go.Q Go.Rx
namespace WfV
variable {v:Vl}(h:WfV v)
include h
theorem em:v.a.em=v.c.em:=by
 have r:=h.red;unfold Go.N.red at r;cases b:v.a.em with
 | true =>
  rw[gT b]at r;rw[←r];rfl
 | false=>cases d:v.c.em with
  | false=>rfl
  | true =>
   rw[gR (by simp[b]),gT d]at r;rw[←r]at b;simp[Ev,E0]at b
theorem ev(e:v.a.em=true):v=Ev:=by
 have r:=h.red;unfold Go.N.red at r;rw[gT e]at r;exact r.symm
theorem one(e:v.a.em=false)(m:v.c.m=0):v=onev v.c.r∧inS (ofA v.a) v.c.r=true:=by
 have r:=h.red;have b:v.c.em=false:=by rw[←h.em,e]
 unfold Go.N.red at r;rw[gR (by simp[e]),gR (by simp[b]),gT m]at r;split at r
 ·exact⟨r.symm,by assumption⟩
 ·rw[←r]at e;simp[Ev,E0]at e
theorem fin(e:v.a.em=false)(m:v.c.m≠0):fin3 (v.a.lo.map (loC v.c)) (v.a.hi.map (hiC v.c)) v.c=v:=by
 have r:=h.red;have b:v.c.em=false:=by rw[←h.em,e]
 unfold Go.N.red at r
 rwa [gR (by simp[e]),gR (by simp[b]),gR m]at r
theorem bnd(e:v.a.em=false):(∀ l,v.a.lo=some l→inC v.c l=true)∧∀ l,v.a.hi=some l→inC v.c l=true:=by
 have d:v.c.em=false:=by rw[←h.em,e]
 by_cases m:v.c.m=0
 ·obtain⟨o,i⟩:=h.one e m;have hs:inC v.c v.c.r=true:=(wV d h.c.pos).2 ψ;constructor
  ·intro l hl;rw[o]at hl;cases hl;exact hs
  ·intro l hl;rw[o]at hl;cases hl;exact hs
 ·have p:0 < v.c.m:=by have:=h.c.pos;omega
  have f:=h.fin e m;have ck:=h.a;have lo:=ck.lo;have hi:=ck.hi;revert f lo hi;cases hl:v.a.lo with
  | none=>cases j:v.a.hi with
   | none=>intro _ _ _;exact⟨nofun,nofun⟩
   | some u =>
    intro f lo hi;have b:=congrArg (fun x=>x.a.hi) f;simp only[xf,fin3,ot,j]at b;have n:hiC v.c u=u:=by
     unfold clip at b;split at b
     ·exact y8.inj b
     ·cases b
    exact⟨nofun,fun l x=>by cases x;exact(wV d h.c.pos).2 (by have:=agx p u;rwa [n]at this)⟩
  | some l=>cases j:v.a.hi with
   | none =>
    intro f lo hi;have b:=congrArg (fun x=>x.a.lo) f;simp only[xf,fin3,ot,hl]at b;have n:loC v.c l=l:=by
     unfold clip at b;split at b
     ·exact y8.inj b
     ·cases b
    exact⟨fun l x=>(by cases x;exact(wV d h.c.pos).2 (by have:=agL p l;rwa [n]at this)),nofun⟩
   | some u =>
    intro f lo hi;simp only[xf,fin3]at f;split at f
    ·rw[←f]at e;simp[Ev,E0]at e
    ·split at f
     ·rw[←f]at m;simp[onev]at m
     ·have g:=congrArg (fun x=>x.a.lo) f;have b:=congrArg (fun x=>x.a.hi) f;simp only[hl,j]at g b;have q:loC v.c l=l:=by
       unfold clip at g;split at g
       ·exact y8.inj g
       ·cases g
      have s:hiC v.c u=u:=by
       unfold clip at b;split at b
       ·exact y8.inj b
       ·cases b
      exact⟨fun k x=>(by cases x;exact(wV d h.c.pos).2 (by have:=agL p l;rwa [q]at this)),fun k x=>(by cases x;exact(wV d h.c.pos).2 (by have:=agx p u;rwa [s]at this))⟩
end WfV
noncomputable def metV (a b:Vl):Vl:=red (toA (common (ofA a.a) (ofA b.a))) (metC a.c b.c)
def opC(op:Int)(c d:Cg):Cg:=if op=3 then plusC c d else if op=4 then minusC c d else if op=5 then timesC c d else if op=6 then quoC c d else restC c d
def opV(op:Int)(a b:Vl):Vl:=red (toA (opS op (ofA a.a) (ofA b.a))) (opC op a.c b.c)
def negV(a:Vl):Vl:=red (toA (turn (ofA a.a))) (negC a.c)
def aeb{op:Int}{c d:Cg}(a:WfC c):WfC (opC op c d):=by
 unfold opC;split;exact ag5;split;exact afG;split;exact afU;split;exact aio a;exact ahf
section
variable {a b:Vl}(ha:WfV a)(hb:WfV b)
include ha hb
theorem vW:WfV (metV a b):=ae2 (aa2 ha.a hb.a) (acE ha.c hb.c)
theorem wI{op:Int}(d:3≤op∧op≤7):WfV (opV op a b):=ae2 (ag3 ha.a hb.a d) (aeb ha.c)
end
def agU{a:Vl}(ha:WfV a):WfV (negV a):=ae2 (turnA ha.a).1 zG
section
variable {a b:Vl}(ha:WfV a)(hb:WfV b)
include ha hb
end
abbrev tb(b:ByteArray):Nat:=b.data.toList.length
def SmV(x:VV):Prop:=tb x.1.2.1≤100000∧tb x.1.2.2.1≤100000∧tb x.2.1.2.1≤100000∧tb x.2.1.2.2.1≤100000
def ael(x y:VV):(((x.1.1==y.1.1)&&((x.1.2.1==y.1.2.1)&&((x.1.2.2.1==y.1.2.2.1)&&true)))&&(((x.2.1.1==y.2.1.1)&&((x.2.1.2.1==y.2.1.2.1)&&((x.2.1.2.2.1==y.2.1.2.2.1)&&true)))&&true))=decide (x=y):=by
 obtain⟨⟨a,l1,e,⟨⟩⟩,⟨b,l2,f,⟨⟩⟩,⟨⟩⟩:=x;obtain⟨⟨c,p1,g,⟨⟩⟩,⟨d,p2,h,⟨⟩⟩,⟨⟩⟩:=y;rw[Bool.eq_iff_iff];simp only[af2,zm,beq_iff_eq,decide_eq_true_eq,Bool.and_true,Prod.mk.injEq,and_true]
def akn{a:A}{c:Cg}(ha:Wf a)(j:WfC c)(h:vc (red a c)=vc ⟨a,c⟩):∃ v,vc ⟨a,c⟩=vc v∧WfV v:=by
 simp only[vc,Prod.mk.injEq]at h;have d:=ai4 h.1;obtain⟨f,g⟩:=ai8 h.2.1;cases b:c.em with
 | true =>
  have i:red a c=Ev:=by
   unfold red;by_cases e:a.em=true
   ·rw[gT e]
   ·rw[gR e,gT b]
  refine⟨Ev,?_,Ev_V⟩;rw[i]at d;simp only[vc,←d];rw[mJ b];rfl
 | false =>
  rw[b]at f;refine⟨⟨a,c⟩,rfl,ha,j,?_⟩;have k:=g f;show red a c=⟨a,c⟩;generalize red a c=r at *
  cases r;simp_all
section
variable (lf:Nat)(hb:Big lf)
include hb
theorem chkV{x:VV}(hx:SmV x):∃ n:Int,iK.f lf x=some (n,())∧gm.f lf x=some (n,())∧(n=0→∃ v,x=vc v∧WfV v):=by
 have s:=hb.1;have h3:200000≤lf:=ω;obtain⟨⟨e,l1,b,⟨⟩⟩,⟨g,l2,d,⟨⟩⟩,⟨⟩⟩:=x;obtain⟨l,m,o,p⟩:=hx;rw[←aa1 l1,←aa1 b,←aa1 l2,←aa1 d];simp only[tb]at l m o p;revert l m o p;generalize l1.data.toList=l1;generalize b.data.toList=b;generalize l2.data.toList=l2;generalize d.data.toList=d;intro l m o p;have p1:=ade lf h3 e l1 b ω ω;have p2:=abG lf h3 e l1 b ω ω ω ω;have t:=aiM lf h3 g l2 d ω ω;have u:=aex lf h3 g l2 d ω ω ω ω;rw[iK.f,oV.f,gm.f];simp only[p1,p2,fa];by_cases i:ck e l1 b=0
 ·rw[i];simp only[bne_self_eq_false,fe,t,u,fa];by_cases j:ckc g l2 d=0
  ·obtain⟨a,ea,ha⟩:=ajS i;obtain⟨c,r,k⟩:=ai9 j;rw[j];have r1:=aao lf hb ha k;have r2:=aal lf hb ha k;rw[←ea,←r]at r1 r2;simp only[bne_self_eq_false,fe,r1,r2,fa];have q:=ael (vc (red a c)) ((e,bs l1,bs b,()),(g,bs l2,bs d,()),());simp only at q;rw[q,ea,r];by_cases h:vc (red a c)=(ac a,cc c,())
   ·rw[gP h,ze,fe];exact⟨0,rfl,rfl,fun _=>akn ha k h⟩
   ·rw[gO h,zj,ff];exact⟨3,rfl,rfl,nofun⟩
  ·simp only[bneT j,ff];exact⟨_,rfl,rfl,fun h=>absurd h j⟩
 ·simp only[bneT i,ff,fa];exact⟨_,rfl,rfl,fun h=>absurd h i⟩
theorem chk_wf{v:Vl}(h:WfV v):iK.f lf (vc v)=some (0,())∧gm.f lf (vc v)=some (0,()):=by
 have d:=hb.1;have h3:200000≤lf:=ω;have p1:=lU lf h3 h.a;have p2:=acf lf h3 h.a;have e:=ccheck lf hb h.c;have g:=rcheck lf hb h.c;have r1:=aao lf hb h.a h.c;have r2:=aal lf hb h.a h.c;rw[h.red]at r1 r2;have b:=ael (vc v) (vc v);rw[gP rfl]at b;constructor
 ·rw[iK.f,oV.f];simp only[show(vc v).1=ac v.a from rfl,show(vc v).2.1=cc v.c from rfl]at b⊢;simp only[p1,e,r1,fa,bne_self_eq_false,fe];simp only[show(vc v).1=ac v.a from rfl,show(vc v).2.1=cc v.c from rfl,b,ze,fe]
 ·rw[gm.f];simp only[show(vc v).1=ac v.a from rfl,show(vc v).2.1=cc v.c from rfl]at b⊢;simp only[p2,g,r2,fa,bne_self_eq_false,fe];simp only[show(vc v).1=ac v.a from rfl,show(vc v).2.1=cc v.c from rfl,b,ze,fe]
theorem af8{v w:Vl}(h:WfV v)(k:WfV w):iT.f lf (vc v) (vc w)=some (0,()):=by
 rw[iT.f,(chk_wf lf hb h).1,fa];simp only[bne_self_eq_false,fe,(chk_wf lf hb k).1,fa]
end
section
variable (lf:Nat)(hb:Big lf){v w:Vl}(hv:WfV v)(hw:WfV w)
include hb hv hw
theorem tX:nD.f lf (vc v) (vc w)=some (vc (metV v w),0,()):=by
 have h3:200000≤lf:=by have:=hb.1;omega
 rw[nD.f,af8 lf hb hv hw,fa];simp only[bne_self_eq_false,fe];simp only[show(vc v).1=ac v.a from rfl,show(vc v).2.1=cc v.c from rfl,show(vc w).1=ac w.a from rfl,show(vc w).2.1=cc w.c from rfl,ajt lf h3 hv.a hw.a,ajs lf hb hv.c hw.c,fa,bne_self_eq_false,fe,aao lf hb (aa2 hv.a hw.a) (acE hv.c hw.c)];rfl
theorem tY:dN.f lf (vc v) (vc w)=some (vc (metV v w),()):=by
 have h3:200000≤lf:=by have:=hb.1;omega
 rw[dN.f];simp only[show(vc v).1=ac v.a from rfl,show(vc v).2.1=cc v.c from rfl,show(vc w).1=ac w.a from rfl,show(vc w).2.1=cc w.c from rfl,aaK lf h3 hv.a hw.a,aj9 lf hb hv.c hw.c,fa,aal lf hb (aa2 hv.a hw.a) (acE hv.c hw.c)];rfl
end
section
variable (lf:Nat)(hb:Big lf){v:Vl}(hv:WfV v)
include hb hv
theorem agV:uj.f lf (vc v)=some (vc (negV v),0,()):=by
 have h3:200000≤lf:=by have:=hb.1;omega
 rw[uj.f,(chk_wf lf hb hv).1,fa];simp only[bne_self_eq_false,fe];simp only[show(vc v).1=ac v.a from rfl,show(vc v).2.1=cc v.c from rfl,aiQ lf h3 hv.a,akc lf hb hv.c,fa,aao lf hb (turnA hv.a).1 zG];rfl
theorem ad9:gW.f lf (vc v)=some (vc (negV v),()):=by
 have h3:200000≤lf:=by have:=hb.1;omega
 rw[gW.f];simp only[show(vc v).1=ac v.a from rfl,show(vc v).2.1=cc v.c from rfl,nT lf h3 hv.a,abm lf hb hv.c,fa,aal lf hb (turnA hv.a).1 zG];rfl
end
section
variable (lf:Nat)(hb:Big lf){x y:VV}(hx:SmV x)(hy:SmV y)
include hb hx hy
end
section
variable (lf:Nat)(hb:Big lf){v w:Vl}(hv:WfV v)(hw:WfV w)
include hb hv hw
theorem adz{op:Int}(g:3≤op∧op≤7):qG.f lf op (vc v) (vc w)=some (vc (opV op v w),0,()):=by
 have e:=hb.1;have h3:200000≤lf:=ω;have k:=ag3 hv.a hw.a g;have j:=aeb (op:=op) (d:=w.c) hv.c;have b:=aao lf hb k j;have p1:(vc v).1=ac v.a:=rfl;have p2:(vc v).2.1=cc v.c:=rfl;have h:(vc w).1=ac w.a:=rfl;have i:(vc w).2.1=cc w.c:=rfl;rw[qG.f];simp only[af8 lf hb hv hw,fa,bne_self_eq_false,fe,p1,p2,h,i];rcases op3 g with rfl | rfl | rfl | rfl | rfl
 ·rw[show((3:Int)==3)=true from rfl,ff];simp only[ajk lf h3 hv.a hw.a,ajQ lf hb hv.c hw.c,fa,bne_self_eq_false,fe];rw[show opS 3 (ofA v.a) (ofA w.a)=addS (ofA v.a) (ofA w.a) from rfl,show opC 3 v.c w.c=plusC v.c w.c from rfl]at b;rw[b,fa];rfl
 ·rw[show((4:Int)==3)=false from rfl,fe,show((4:Int)==4)=true from rfl,ff];simp only[ajo lf h3 hv.a hw.a,aiW lf hb hv.c hw.c,fa,bne_self_eq_false,fe];rw[show opS 4 (ofA v.a) (ofA w.a)=addS (ofA v.a) (turn (ofA w.a)) from rfl,show opC 4 v.c w.c=minusC v.c w.c from rfl]at b;rw[b,fa];rfl
 ·rw[show((5:Int)==3)=false from rfl,fe,show((5:Int)==4)=false from rfl,fe,show((5:Int)==5)=true from rfl,ff];simp only[ajl lf h3 hv.a hw.a,akb lf hb hv.c hw.c,fa,bne_self_eq_false,fe];rw[show opS 5 (ofA v.a) (ofA w.a)=apS xmul (ofA v.a) (ofA w.a) from rfl,show opC 5 v.c w.c=timesC v.c w.c from rfl]at b;rw[b,fa];rfl
 ·rw[show((6:Int)==3)=false from rfl,fe,show((6:Int)==4)=false from rfl,fe,show((6:Int)==5)=false from rfl,fe,show((6:Int)==6)=true from rfl,ff];simp only[ajm lf e hv.a hw.a,akg lf hb hv.c hw.c,fa,bne_self_eq_false,fe];rw[show opS 6 (ofA v.a) (ofA w.a)=quoS (ofA v.a) (ofA w.a) from rfl,show opC 6 v.c w.c=quoC v.c w.c from rfl]at b;rw[b,fa];rfl
 ·rw[show((7:Int)==3)=false from rfl,fe,show((7:Int)==4)=false from rfl,fe,show((7:Int)==5)=false from rfl,fe,show((7:Int)==6)=false from rfl,fe,show((7:Int)==7)=true from rfl,ff];simp only[ajn lf e hv.a hw.a,akj lf hb hv.c hw.c,fa,bne_self_eq_false,fe];rw[show opS 7 (ofA v.a) (ofA w.a)=remS (ofA v.a) (ofA w.a) from rfl,show opC 7 v.c w.c=restC v.c w.c from rfl]at b;rw[b,fa];rfl
theorem adA{op:Int}(e:3≤op∧op≤7):eG.f lf op (vc v) (vc w)=some (vc (opV op v w),()):=by
 have g:=hb.1;have h3:200000≤lf:=ω;have k:=ag3 hv.a hw.a e;have j:=aeb (op:=op) (d:=w.c) hv.c;have b:=aal lf hb k j;have p1:(vc v).1=ac v.a:=rfl;have p2:(vc v).2.1=cc v.c:=rfl;have h:(vc w).1=ac w.a:=rfl;have i:(vc w).2.1=cc w.c:=rfl;rw[eG.f];simp only[p1,p2,h,i];rcases op3 e with rfl | rfl | rfl | rfl | rfl
 ·rw[show((3:Int)==3)=true from rfl,ff];simp only[ag6 lf h3 hv.a hw.a,ajB lf hb hv.c hw.c,fa];rw[show opS 3 (ofA v.a) (ofA w.a)=addS (ofA v.a) (ofA w.a) from rfl,show opC 3 v.c w.c=plusC v.c w.c from rfl]at b;rw[b,fa];rfl
 ·rw[show((4:Int)==3)=false from rfl,fe,show((4:Int)==4)=true from rfl,ff];simp only[aid lf h3 hv.a hw.a,aie lf hb hv.c hw.c,fa];rw[show opS 4 (ofA v.a) (ofA w.a)=addS (ofA v.a) (turn (ofA w.a)) from rfl,show opC 4 v.c w.c=minusC v.c w.c from rfl]at b;rw[b,fa];rfl
 ·rw[show((5:Int)==3)=false from rfl,fe,show((5:Int)==4)=false from rfl,fe,show((5:Int)==5)=true from rfl,ff];simp only[aiB lf h3 hv.a hw.a,aiC lf hb hv.c hw.c,fa];rw[show opS 5 (ofA v.a) (ofA w.a)=apS xmul (ofA v.a) (ofA w.a) from rfl,show opC 5 v.c w.c=timesC v.c w.c from rfl]at b;rw[b,fa];rfl
 ·rw[show((6:Int)==3)=false from rfl,fe,show((6:Int)==4)=false from rfl,fe,show((6:Int)==5)=false from rfl,fe,show((6:Int)==6)=true from rfl,ff];simp only[ajy lf h3 hv.a hw.a,ajz lf hb hv.c hw.c,fa];rw[show opS 6 (ofA v.a) (ofA w.a)=quoS (ofA v.a) (ofA w.a) from rfl,show opC 6 v.c w.c=quoC v.c w.c from rfl]at b;rw[b,fa];rfl
 ·rw[show((7:Int)==3)=false from rfl,fe,show((7:Int)==4)=false from rfl,fe,show((7:Int)==5)=false from rfl,fe,show((7:Int)==6)=false from rfl,fe];simp only[agQ lf h3 hv.a hw.a,agR lf hb hv.c hw.c,fa];rw[show opS 7 (ofA v.a) (ofA w.a)=remS (ofA v.a) (ofA w.a) from rfl,show opC 7 v.c w.c=restC v.c w.c from rfl]at b;rw[b,fa];rfl
end
section
variable (lf:Nat)(hb:Big lf)
include hb
theorem topV:(((false,(⟨#[]⟩:ByteArray),(⟨#[]⟩:ByteArray),()),(false,(⟨#[49]⟩:ByteArray),(⟨#[48]⟩:ByteArray),()),()):VV)=vc ⟨⟨false,none,none⟩,topC⟩:=by
 unfold vc;rw[dL rfl];simp only[topC];rw[←i1,←i0];rfl
def oneV(z:Int):Vl:=if -C < z∧z < C then onev z else⟨⟨false,none,none⟩,topC⟩
theorem ajw(z:Int):WfV (oneV z):=by
 unfold oneV;split
 ·exact aea (by assumption)
 ·exact⟨⟨nofun,trivial,trivial,trivial⟩,xu,rfl⟩
theorem akd{z:Int}(a: -K < z∧z < K):xU.f lf (bs (z7 z))=some (vc (oneV z),0,()):=by
 have hl:=qO a;rw[xU.f,rU lf _ ω,(pM z).2 a,fa];simp only[bne_self_eq_false,fe,show bs (z7 z)=ob (some z) from rfl,clipV lf (o:=some z) a,fa,ot,jd,uY.f,oN.f];unfold oneV;by_cases c: -C < z∧z < C
 ·rw[uX c,gT c,gO nofun,fe];simp only[show ob (some z)=bs (z7 z) from rfl,onV]
 ·rw[abH c,gR c,gP rfl,ff,topV lf hb]
theorem ake{z:Int}(b: -K < z∧z < K):fU.f lf (bs (z7 z))=some (vc (oneV z),()):=by
 have h3:200000≤lf:=by have:=hb.1;omega
 have g:=K_gt;rw[fU.f,iI.f,i0,pW lf h3 (m:=0) ω b,fa,fa];simp only[qi.f,dm.f,fa];unfold oneV;by_cases c: -C < z∧z < C
 ·have d:=C_gt;rw[zk (Int.le_refl 0) ω c,gT rfl,gT c,dL rfl];simp only[BEq.rfl,ze,fe];rw[←onV,i0]
 ·have e:clsF 0 z=topC:=by
   have:¬sz z≤100:=fun x=>c ((sz_C z).1 x);unfold clsF;rw[gT (.inr (by rw[gT rfl];omega))]
  rw[e,gR c,dL rfl];have a:((bs (z7 topC.m)).toList==(bs (z7 0)).toList)=false:=by
   rw[lS];exact gO fun x=>by have:=pR x;simp[topC]at this
  rw[a,zj,ff,topV lf hb]
end
section
variable (lf:Nat)(hb:Big lf){v w:Vl}(hv:WfV v)(hw:WfV w)
include hb hv hw
end
section
variable (lf:Nat)(h3:200000≤lf){a b:A}(ha:Wf a)(hb:Wf b)(ea:a.em=false)(eb:b.em=false)
include h3 ha hb ea eb
end
section
variable (lf:Nat)(hb:Big lf){v w:Vl}(hv:WfV v)(hw:WfV w)
include hb hv hw
end
section
variable (lf:Nat)(hb:Big lf){v w:Vl}(hv:WfV v)(hw:WfV w)
include hb hv hw
end
section
variable (lf:Nat)(hb:Big lf){x y:VV}(hx:SmV x)(hy:SmV y)
include hb hx hy
end
section
variable (lf:Nat)(hb:Big lf){x:VV}(hx:SmV x)
include hb hx
end
def aeH(lf:Nat)(x:IV):∃ b,lM.f lf x=some (b,())∧(b=true→tb x.2.1≤100000∧tb x.2.2.1≤100000):=by
 rw[lM.f];simp only[nM.f,fa];by_cases h:(x.2.1.size:Int)≤250
 ·rw[gP h,ff];refine⟨_,rfl,fun k=>?_⟩;have k:=of_decide_eq_true k;rw[Lib.size_eq]at h k;exact⟨by simp only[tb];omega,by simp only[tb];omega⟩
 ·rw[gO h,fe];exact⟨_,rfl,nofun⟩
def ahZ(lf:Nat)(x y:IV):∃ b,nO.f lf x y=some (b,())∧(b=true→(tb x.2.1≤100000∧tb x.2.2.1≤100000)∧(tb y.2.1≤100000∧tb y.2.2.1≤100000)):=by
 rw[nO.f];by_cases a:(x.2.1.size:Int)≤450
 ·rw[gP a,ff];by_cases c:(x.2.2.1.size:Int)≤450
  ·rw[gP c,ff];by_cases h3:(y.2.1.size:Int)≤450
   ·rw[gP h3,ff];refine⟨_,rfl,fun k=>?_⟩;have k:=of_decide_eq_true k;rw[Lib.size_eq]at a c h3 k;exact⟨⟨by simp only[tb];omega,by simp only[tb];omega⟩,by simp only[tb];omega,by simp only[tb];omega⟩
   ·rw[gO h3,fe];exact⟨_,rfl,nofun⟩
  ·rw[gO c,fe];exact⟨_,rfl,nofun⟩
 ·rw[gO a,fe];exact⟨_,rfl,nofun⟩
def agp(lf:Nat)(x y:VV):∃ b,jL.f lf x y=some (b,())∧(b=true→SmV x∧SmV y):=by
 obtain⟨a,i,j⟩:=ahZ lf x.1 y.1;obtain⟨b,l,m⟩:=aeH lf x.2.1;obtain⟨c,c1,c2⟩:=aeH lf y.2.1;rw[jL.f,i,fa];cases a with
 | false=>simp only[fe];exact⟨_,rfl,nofun⟩
 | true =>
  simp only[ff,l,fa];cases b with
  | false=>simp only[fe];exact⟨_,rfl,nofun⟩
  | true =>
   simp only[ff,c1,fa];refine⟨_,rfl,fun k=>?_⟩;obtain⟨d,e⟩:=j rfl;have g:=m rfl;have h:=c2 k;exact⟨⟨d.1,d.2,g.1,g.2⟩,e.1,e.2,h.1,h.2⟩
def bigN(n:Nat):∃ lf,Big lf∧n≤lf:=⟨2000000000+K.toNat+n,⟨ω,ω⟩,ω⟩
def bigE:∃ lf,Big lf:=⟨_,(bigN 0).choose_spec.1⟩
open Go.IntKind (i64)
def apLe{α:Type}(b:Nat)(l a:List α)(hb:b≤1000)(h:l.length+a.length≤1000000):apL true b l a=some (l++a):=by
 unfold apL;have:(l.length+a.length)*b≤1000000*1000:=Nat.mul_le_mul h hb;rw[gT ⟨rfl,by simp only[maxLen];omega,ω⟩]
def ltE{j k:Nat}:decide ((j:Int) < ((k:Nat):Int))=decide (j < k):=ψ
def wrE{j:Nat}(h:j < 1000000):i64.wrap ((j:Int)+1)=((j+1:Nat):Int):=by rw[w64 ω ω];omega
structure WfE(vs:List Vl):Prop where
 v:∀ v∈vs,WfV v
 ne:∀ v∈vs,v.a.em=false
 len:vs.length≤32
section
variable (lf:Nat)(hb:Big lf)
include hb
theorem aeI{l:List VV}(hl:l.length≤40):∀ (d n j:Nat),j+d=l.length→d < n→∃ b,iH.l0 lf l n j=some (b,(),(),())∧(b=false→∀ s∈l.drop j,SmV s)
 | 0,n,j,hd,hn=>by
  obtain⟨n,rfl⟩:∃ q,n=q+1:=⟨n-1,ω⟩
  refine⟨false,?_,fun _ s hs=>?_⟩
  ·rw[iH.l0,iH.r0,ltE,gO ω,fe]
  ·rw[ow ω]at hs;cases hs
 | d+1,n,j,hd,hn=>by
  obtain⟨n,rfl⟩:∃ q,n=q+1:=⟨n-1,ω⟩
  have a:j < l.length:=ω;obtain⟨b,e,f⟩:=agp lf l[j] l[j];obtain⟨c,c1,c2⟩:=aeI hl d n (j+1) ω ω;rw[iH.l0,iH.r0,ltE,gP a,ff,iE l j a,fa,fa,e,fa,wrE ω,c1];cases b with
  | false=>exact⟨true,by rw[zj,ff],fun h=>by cases h⟩
  | true =>
   refine⟨c,by rw[ze,fe],fun h s hs=>?_⟩;rw[vr a]at hs;rcases ww.1 hs with rfl | hs
   ·exact(f rfl).1
   ·exact c2 h s hs
theorem ajY(l:List VV):∃ b,iH.f lf l=some (b,())∧(b=true→l.length≤40∧∀ s∈l,SmV s):=by
 rw[iH.f];by_cases h:40 < l.length
 ·exact⟨false,by rw[show decide ((l.length:Int) > 40)=true by simp;omega,ff],fun h=>by cases h⟩
 ·rw[show decide ((l.length:Int) > 40)=false by simp;omega,fe];obtain⟨b,a,c⟩:=aeI lf hb (l:=l) ω l.length (lf+40) 0 ω (by have:=hb.1;omega);rw[show((0:Nat):Int)=0 from rfl]at a;rw[a,fa];cases b with
  | true=>exact⟨false,by rw[ff],fun h=>by cases h⟩
  | false=>exact⟨true,by rw[fe],fun _=>⟨ω,fun s hs=>c rfl s (by simpa using hs)⟩⟩
theorem adH{l:List VV}(hl:l.length≤1000):∀ (d n j:Nat),j+d=l.length→d < n→dB.l0 lf l l n j=some (false,(),(),())
 | 0,n,j,hd,hn=>by
  obtain⟨n,rfl⟩:∃ q,n=q+1:=⟨n-1,ω⟩
  rw[dB.l0,dB.r0,ltE,gO ω,fe]
 | d+1,n,j,hd,hn=>by
  obtain⟨n,rfl⟩:∃ q,n=q+1:=⟨n-1,ω⟩
  have a:j < l.length:=ω;rw[dB.l0,dB.r0,ltE,gP a,ff,iE l j a,fa,fa,ael,fa];simp only[BEq.rfl,decide_true,ze];rw[fe,wrE ω];exact adH hl d n (j+1) ω ω
theorem ajC(l:List VV)(hl:l.length≤1000):dB.f lf l l=some (true,()):=by
 rw[dB.f,show(((l.length:Int)) !=(l.length:Int))=false by simp,fe];have:=adH lf hb hl l.length (lf+40) 0 ω (by have:=hb.1;omega);rw[show((0:Nat):Int)=0 from rfl]at this;rw[this,fa,fe]
theorem af9{l:List VV}(hs:∀ x∈l,SmV x)(hl:l.length≤40):∀ (d n j:Nat),j+d=l.length→d < n→∃ (b:Bool) (e:Int),jh.l0 lf l (l.length:Nat) n j=some (b,(e,()),(),())∧gu.l0 lf l n j=some (b,(e,()),(),())∧
      (b=true→e≠0)∧(b=false→∃ vs:List Vl,l.drop j=vs.map vc∧(∀ v∈vs,WfV v)∧∀ v∈vs,v.a.em=false)
  | 0,n,j,hd,hn=>by
    obtain⟨n,rfl⟩:∃ q,n=q+1:=⟨n-1,ω⟩
    refine⟨false,0,?_,?_,nofun,fun _=>⟨[],?_,ψ,ψ⟩⟩
    · rw[jh.l0,jh.r0,ltE,gO ω,fe]
    · rw[gu.l0,gu.r0,ltE,gO ω,fe]
    · rw[ow ω];rfl
  | d+1,n,j,hd,hn=>by
    obtain⟨n,rfl⟩:∃ q,n=q+1:=⟨n-1,ω⟩
    have g:j < l.length:=ω;obtain⟨k,t,u,y⟩:=chkV lf hb (hs _ (qD g));obtain⟨b,e,i1,r,i3,s⟩:=af9 hs hl d n (j+1) ω ω;rw[jh.l0,jh.r0,gu.l0,gu.r0,ltE,gP g,ff,ff,iE l j g,fa,fa,t,u,fa,fa];by_cases h:k=0
    · subst h
      obtain⟨v,ev,hv⟩:=y rfl;simp only[bne_self_eq_false,fe,dM.f,fa];cases c:(l[j]).1.1 with
      | true=>simp only[ff];exact⟨true,16,rfl,rfl,fun _=>δ,nofun⟩
      | false =>
        simp only[fe,wrE (show j < 1000000 from ω),i1,r];refine⟨b,e,rfl,rfl,i3,fun i=>?_⟩;obtain⟨vs,m,o,p⟩:=s i;refine⟨v::vs,by rw[vr g,m,ev];rfl,fun w hw=>?_,fun w hw=>?_⟩
        · rcases ww.1 hw with rfl | hw
          · exact hv
          · exact o w hw
        · rcases ww.1 hw with rfl | hw
          · rw[ev]at c;exact c
          · exact p w hw
    · simp only[bneT h,ff]
      exact⟨true,k,rfl,rfl,fun _=>h,nofun⟩
theorem chkE{l:List VV}(hs:∀ x∈l,SmV x)(hl:l.length≤40):∃ e:Int,jh.f lf l=some (e,())∧gu.f lf l=some (e,())∧(e=0→∃ vs:List Vl,l=vs.map vc∧WfE vs):=by
 rw[jh.f,gu.f];by_cases h:32 < l.length
 ·rw[show decide ((l.length:Int) > 32)=true by simp;omega,ff,ff];exact⟨5,rfl,rfl,nofun⟩
 ·rw[show decide ((l.length:Int) > 32)=false by simp;omega,fe,fe];obtain⟨b,e,i1,c,i3,i⟩:=af9 lf hb hs hl l.length (lf+40) 0 ω (by have:=hb.1;omega);rw[show((0:Nat):Int)=0 from rfl]at i1 c;rw[i1,c,fa];cases b with
  | true=>simp only[ff];exact⟨e,rfl,rfl,fun h=>absurd h (i3 rfl)⟩
  | false =>
   simp only[fe];obtain⟨vs,a,d,g⟩:=i rfl;refine⟨0,rfl,rfl,fun _=>⟨vs,by simpa using a,d,g,?_⟩⟩;have:l.length=vs.length:=by have:=congrArg List.length a;simpa using this
   omega
end
section
variable (lf:Nat)(hb:Big lf){vs ws:List Vl}(hv:WfE vs)(hw:WfE ws)(hn:vs.length=ws.length)
include hb hv hw hn
end
section
variable (lf:Nat)(hb:Big lf){l m:List VV}(hs:∀ x∈l,SmV x)(hl:l.length≤40)(ks:∀ x∈m,SmV x)(kl:m.length≤40)
include hb hs hl ks kl
end
def betV(b a:Option Int):Vl:=red (toA ⟨lox b,hix a⟩) topC
def adR{b a:Option Int}(c:okb K b)(d:okb K a):Wf (toA ⟨lox b,hix a⟩):=sV ⟨aaO c,aaN d⟩ (.inr ⟨by cases b<;>simp[lox],by cases a<;>simp[hix]⟩)
def adQ{b a:Option Int}(c:okb K b)(d:okb K a):WfV (betV b a):=ae2 (adR c d) xu
def sgl(v:Vl):Option Int:=if v.c.em=true then none else if v.c.m=0 then some v.c.r else none
def scl(b a:Option Int)(c:Int):Vl:=betV (b.map fun l=> -((-l).fdiv c)) (a.map fun h=>h.fdiv c)
def scV(w:Vl)(c:Int):Vl:=if c < 0 then scl (toA (turn (ofA w.a))).lo (toA (turn (ofA w.a))).hi (-c)else scl w.a.lo w.a.hi c
def dvV(w:Vl)(c:Int):Vl:=betV (w.a.lo.map fun l=>c*l) (w.a.hi.map fun h=>c*h+c-1)
def agX(z:Int):∃ b:UInt8,sIdx (ob (some z)) 0=some b∧(((b.toNat:Nat):Int)==45)=decide (z < 0):=by
 have a:0 < (z7 z).length:=List.length_pos_iff.2 (lJ z);refine⟨(z7 z)[0],uy _ 0 0 rfl a,?_⟩;rw[←wH];unfold neg;rw[List.head?_eq_getElem?,zP a];generalize (z7 z)[0]=b;by_cases h:b=45
 ·subst h;rfl
 ·rw[gO (by simpa using h),beq_eq_false_iff_ne];intro e;have c:((b.toNat:Nat):Int)=45:=e;exact h (UInt8.toNat_inj.1 (show b.toNat=45 from ω))
def fdivC{a c:Int}(h: -C < a∧a < C)(b:c≠0): -K < a.fdiv c∧a.fdiv c < K:=by
 have:=uG (x:=a) b;have:=fO;omega
section
variable (lf:Nat)(hb:Big lf)
include hb
theorem big3:200000≤lf:=by have:=hb.1;omega
theorem acG{z:Int}(a: -K < z∧z < K):dF.f lf (bs (z7 z))=some (0,()):=by
 have:=qO a;rw[rU lf _ ω,(pM z).2 a]
theorem ah3{b a:Option Int}(c:okb K b)(d:okb K a):qX.f lf (ob b) (ob a)=some (ac (toA ⟨lox b,hix a⟩),0,()):=by
 have o:aV.f lf (false,ob b,ob a,())=some (sc ⟨lox b,hix a⟩,()):=of_f lf ⟨false,b,a⟩;have i:=jP lf (big3 lf hb) (s:=⟨lox b,hix a⟩) ⟨aaO c,aaN d⟩;rw[qX.f,jd,jd,o,fa,i,fa];cases b with
 | none=>cases a with
  | none=>rw[gP rfl,ff,ff]
  | some y=>rw[gP rfl,ff,gO nofun,fe];simp only[show ob (some y)=bs (z7 y) from rfl,acG lf hb d,fa,bne_self_eq_false,fe]
 | some x=>cases a with
  | none=>rw[gP rfl,gO nofun,fe];simp only[show ob (some x)=bs (z7 x) from rfl,acG lf hb c,fa,bne_self_eq_false,fe,ff]
  | some y=>rw[gO nofun,gO nofun,fe];simp only[show ob (some x)=bs (z7 x) from rfl,show ob (some y)=bs (z7 y) from rfl,acG lf hb c,acG lf hb d,fa,bne_self_eq_false,fe]
theorem abD{b a:Option Int}(c:okb K b)(d:okb K a):fK.f lf (ob b) (ob a)=some (vc (betV b a),()):=by
 have w:=adR c d;rw[fK.f,ah3 lf hb c d,fa];simp only[nR.f,fa,gQ.f,ab5,xB.f,oV.f,lU lf (big3 lf hb) w,ccheck lf hb xu,bne_self_eq_false,fe,aao lf hb w xu,dX.f];rfl
theorem adC{b a:Option Int}(c:okb K b)(d:okb K a):bK.f lf (ob b) (ob a)=some (vc (betV b a),()):=by
 have w:=adR c d;rw[bK.f,nK lf (big3 lf hb) b a c d,fa];simp only[dm.f,fa,ab5,aal lf hb w xu];rfl
theorem ahr{v:Vl}(hv:WfV v):pF.f lf (vc v)=some (ob (sgl v),()):=by
 rw[pF.f,uV.f,(chk_wf lf hb hv).1,fa];simp only[bne_self_eq_false,fe];have p:(vc v).2.1=cc v.c:=rfl;unfold sgl;simp only[p];cases e:v.c.em with
 | true =>
  have q:cc v.c=(true,bs [],bs [],()):=by unfold cc;rw[gT e]
  simp only[q,ff,fa,zj,if_true];rfl
 | false =>
  simp only[dL e,fe,beq0,zg,if_false];by_cases h:v.c.m=0
  ·simp only[h,decide_true,ze,fe,fa,if_true];rfl
  ·simp only[h,decide_false,zj,ff,fa,if_false];rfl
omit hb in
theorem ahs{v:Vl}:gX.f lf (vc v)=some (ob (sgl v),()):=by
 rw[gX.f];have p:(vc v).2.1=cc v.c:=rfl;unfold sgl;simp only[p];cases e:v.c.em with
 | true =>
  have q:cc v.c=(true,bs [],bs [],()):=by unfold cc;rw[gT e]
  have z:((bs []).toList==(⟨#[48]⟩:ByteArray).toList)=false:=by rw[show(⟨#[48]⟩:ByteArray)=bs [48] from rfl,lS];rfl
  simp only[q,z,fe,if_true];rfl
 | false =>
  simp only[dL e,beq0,zg,if_false];by_cases h:v.c.m=0
  ·simp only[h,decide_true,ff,if_true];rfl
  ·simp only[h,decide_false,fe,if_false];rfl
omit hb in
theorem sO{v:Vl}(hv:WfV v){c:Int}(h:sgl v=some c): -C < c∧c < C:=by
 unfold sgl at h;split at h
 ·cases h
 ·split at h
  ·cases h;exact hv.c.r
  ·cases h
theorem bneg{z:Int}(a: -K < z∧z < K):jD.f lf (bs (z7 z))=some (bs (z7 (-z)),0,()):=af5 lf (big3 lf hb) a
theorem rneg{z:Int}(a: -K < z∧z < K):aZ.f lf (bs (z7 z))=some (bs (z7 (-z)),()):=uM lf a
theorem rquo{x y:Int}(hx: -K < x∧x < K)(hy: -K < y∧y < K)(a:y≠0):aI.f lf (bs (z7 x)) (bs (z7 y))=some (bs (z7 (x.fdiv y)),()) :=
 pV lf (big3 lf hb) (by have:=(sz_K x).2 hx;omega) (by have:=(sz_K y).2 hy;omega) a
omit hb in
theorem acP{d b:Option Int}{c:Int}(f:okb C d)(g:okb C b)(e:c≠0):okb K (d.map fun l=> -((-l).fdiv c))∧okb K (b.map fun h=>h.fdiv c):=by
 constructor
 ·cases d with
  | none=>trivial
  | some l=>have:=fdivC (a:= -l) (c:=c) (by simp only[okb]at f;omega) e;simp only[okb,xf];omega
 ·cases b with
  | none=>trivial
  | some l=>exact fdivC g e
theorem aiU{g b:Option Int}{c:Int}(p:okb C g)(j:okb C b)(u: -C < c∧c < C)(h:c≠0):
  (br (!((ob g).toList==(⟨#[]⟩:ByteArray).toList)) (bd (jD.f lf (ob g)) fun r6=>bd (fF.f lf r6.1 r6.2.1) fun r7=>bd (gY.f lf r7.1 (bs (z7 c))) fun r8=>bd (fF.f lf r8.1 r8.2.1) fun r9=>bd (jD.f lf r9.1) fun r10=>bd (fF.f lf r10.1 r10.2.1) fun r11 =>
   br (!((ob b).toList==(⟨#[]⟩:ByteArray).toList)) (bd (gY.f lf (ob b) (bs (z7 c))) fun r12=>bd (fF.f lf r12.1 r12.2.1) fun r13=>bd (fK.f lf r11.1 r13.1) fun r14=>some (r14.1,())) (bd (fK.f lf r11.1 (ob b)) fun r15=>some (r15.1,())))
   (br (!((ob b).toList==(⟨#[]⟩:ByteArray).toList)) (bd (gY.f lf (ob b) (bs (z7 c))) fun r16=>bd (fF.f lf r16.1 r16.2.1) fun r17=>bd (fK.f lf (ob g) r17.1) fun k=>some (k.1,())) (bd (fK.f lf (ob g) (ob b)) fun l=>some (l.1,()))))
   = some (vc (scl g b c),()):=by
 have t:=fO;have e:=hb.1;obtain⟨r,s⟩:=acP p j h;have i: -K < c∧c < K:=ω;have d:=abD lf hb r s;rw[jd,jd];unfold scl;cases g with
 | none=>cases b with
  | none=>simp only[decide_true,ze,fe,xf]at d⊢;rw[d,fa]
  | some y =>
   simp only[okb]at j;simp only[decide_true,ze,reduceCtorEq,decide_false,zj,fe,ff,show ob (some y)=bs (z7 y) from rfl,uf lf e (x:=y) ω i h,fF.f,fa];simp only[xf,ob]at d⊢;rw[d,fa]
 | some x =>
  simp only[okb]at p;have q:=fdivC (a:= -x) (c:=c) ω h;have m:jD.f lf (ob (some x))=some (bs (z7 (-x)),0,()):=bneg lf hb ω;have n:=uf lf e (x:= -x) ω i h;have o:=bneg lf hb q;cases b with
  | none =>
   simp only[decide_true,ze,reduceCtorEq,decide_false,zj,fe,ff,m,n,o,fF.f,fa];simp only[xf,ob]at d⊢;rw[d,fa]
  | some y =>
   simp only[okb]at j;simp only[reduceCtorEq,decide_false,zj,ff,m,n,o,show ob (some y)=bs (z7 y) from rfl,uf lf e (x:=y) ω i h,fF.f,fa];simp only[xf,ob]at d⊢;rw[d,fa]
theorem aiV{e b:Option Int}{c:Int}(m:okb C e)(i:okb C b)(s: -C < c∧c < C)(g:c≠0):
  (br (!((ob e).toList==(⟨#[]⟩:ByteArray).toList)) (bd (aZ.f lf (ob e)) fun r4=>bd (aI.f lf r4.1 (bs (z7 c))) fun r5=>bd (aZ.f lf r5.1) fun r6 =>
   br (!((ob b).toList==(⟨#[]⟩:ByteArray).toList)) (bd (aI.f lf (ob b) (bs (z7 c))) fun r7=>bd (bK.f lf r6.1 r7.1) fun r8=>some (r8.1,())) (bd (bK.f lf r6.1 (ob b)) fun r9=>some (r9.1,())))
   (br (!((ob b).toList==(⟨#[]⟩:ByteArray).toList)) (bd (aI.f lf (ob b) (bs (z7 c))) fun r10=>bd (bK.f lf (ob e) r10.1) fun r11=>some (r11.1,())) (bd (bK.f lf (ob e) (ob b)) fun r12=>some (r12.1,()))))
   = some (vc (scl e b c),()):=by
 have r:=fO;have n:=hb.1;obtain⟨o,p⟩:=acP m i g;have h: -K < c∧c < K:=ω;have d:=adC lf hb o p;rw[jd,jd];unfold scl;cases e with
 | none=>cases b with
  | none=>simp only[decide_true,ze,fe,xf]at d⊢;rw[d,fa]
  | some y =>
   simp only[okb]at i;simp only[decide_true,ze,reduceCtorEq,decide_false,zj,fe,ff,show ob (some y)=bs (z7 y) from rfl,rquo lf hb (x:=y) ω h g,fa];simp only[xf,ob]at d⊢;rw[d,fa]
 | some x =>
  simp only[okb]at m;have q:=fdivC (a:= -x) (c:=c) ω g;have j:aZ.f lf (ob (some x))=some (bs (z7 (-x)),()):=rneg lf hb ω;have k:=rquo lf hb (x:= -x) ω h g;have l:=rneg lf hb q;cases b with
  | none =>
   simp only[decide_true,ze,reduceCtorEq,decide_false,zj,fe,ff,j,k,l,fa];simp only[xf,ob]at d⊢;rw[d,fa]
  | some y =>
   simp only[okb]at i;simp only[reduceCtorEq,decide_false,zj,ff,j,k,l,show ob (some y)=bs (z7 y) from rfl,rquo lf hb (x:=y) ω h g,fa];simp only[xf,ob]at d⊢;rw[d,fa]
theorem zS{w:Vl}(hw:WfV w){c:Int}(e: -C < c∧c < C)(d:c≠0):pz.f lf (vc w) (ob (some c))=some (vc (scV w c),()):=by
 have j:=fO;obtain⟨b,g,i⟩:=agX c;rw[pz.f,g,fa,i];unfold scV;by_cases h:c < 0
 ·have t:=turnA hw.a;have f:=aiU lf hb (c:= -c) t.1.lo t.1.hi ω ω;have n:jD.f lf (ob (some c))=some (bs (z7 (-c)),0,()):=bneg lf hb ω;rw[gP h,ff,gT h,show(vc w).1=ac w.a from rfl,aiQ lf (big3 lf hb) hw.a,fa];simp only[nR.f,fa,n,fF.f]at f⊢;exact f
 ·rw[gO h,fe,gR h];exact aiU lf hb hw.a.lo hw.a.hi e d
theorem zT{w:Vl}(hw:WfV w){c:Int}(e: -C < c∧c < C)(d:c≠0):iJ.f lf (vc w) (ob (some c))=some (vc (scV w c),()):=by
 have g:=fO;rw[iJ.f,show bD.f lf (ob (some c))=some (sgn c,()) from signI lf c,fa];have s:decide (sgn c < 0)=decide (c < 0):=by unfold sgn;by_cases h:c < 0<;>by_cases b:c=0<;>simp[h,b]<;>omega
 rw[s];unfold scV;by_cases h:c < 0
 ·have t:=turnA hw.a;have f:=aiV lf hb (c:= -c) t.1.lo t.1.hi ω ω;have n:aZ.f lf (ob (some c))=some (bs (z7 (-c)),()):=rneg lf hb ω;rw[gP h,ff,gT h,show(vc w).1=ac w.a from rfl,nT lf (big3 lf hb) hw.a,fa];simp only[fa,n];exact f
 ·rw[gO h,fe,gR h];exact aiV lf hb hw.a.lo hw.a.hi e d
omit hb in
theorem aeD{w:Vl}(hw:WfV w){c:Int}(b: -C < c∧c < C):okb K (w.a.lo.map fun l=>c*l)∧okb K (w.a.hi.map fun h=>c*h+c-1):=by
 have d:=CC_K;have l:=hw.a.lo;have h:=hw.a.hi;constructor
 ·cases e:w.a.lo with
  | none=>trivial
  | some x=>rw[e]at l;have:=rJ b l;simp only[okb,xf];omega
 ·cases e:w.a.hi with
  | none=>trivial
  | some x=>rw[e]at h;have:=rJ b h;simp only[okb,xf];omega
theorem bmul{x y:Int}(hx: -C < x∧x < C)(hy: -C < y∧y < C):kQ.f lf (bs (z7 x)) (bs (z7 y))=some (bs (z7 (x*y)),0,()):=by
 have a:=CC_K;have:=rJ hx hy;have hl:=fO;have z:sz (x*y)≤4096:=(sz_K _).2 ω;rw[aiP lf _ _ (chkK ω) (chkK ω) (big3 lf hb),dR,dR,rD,gR ω]
theorem badd{x y:Int}(hx: -K < x∧x < K)(hy: -K < y∧y < K)(h: -K < x+y∧x+y < K):jV.f lf (bs (z7 x)) (bs (z7 y))=some (bs (z7 (x+y)),0,()):=by
 have z:sz (x+y)≤4096:=(sz_K _).2 h;rw[aiK lf _ _ (chkK hx) (chkK hy) (big3 lf hb),dR,dR,rD,gR ω]
theorem bsub{x y:Int}(hx: -K < x∧x < K)(hy: -K < y∧y < K)(h: -K < x-y∧x-y < K):kR.f lf (bs (z7 x)) (bs (z7 y))=some (bs (z7 (x-y)),0,()):=by
 have z:sz (x-y)≤4096:=(sz_K _).2 h;rw[afn lf _ _ (chkK hx) (chkK hy) (big3 lf hb),dR,dR,rD,gR ω]
theorem rmul{x y:Int}(hx: -C < x∧x < C)(hy: -C < y∧y < C):aO.f lf (bs (z7 x)) (bs (z7 y))=some (bs (z7 (x*y)),()):=by
 have hl:=fO;exact xO lf (big3 lf hb) (by have:=szK (z:=x) ω;omega) (by have:=szK (z:=y) ω;omega)
theorem radd{x y:Int}(hx: -K < x∧x < K)(hy: -K < y∧y < K):dD.f lf (bs (z7 x)) (bs (z7 y))=some (bs (z7 (x+y)),()) :=
 acS lf (big3 lf hb) (by have:=szK hx;omega) (by have:=szK hy;omega)
theorem rsub{x y:Int}(hx: -K < x∧x < K)(hy: -K < y∧y < K):aU.f lf (bs (z7 x)) (bs (z7 y))=some (bs (z7 (x-y)),()) :=
 zo lf (big3 lf hb) (by have:=szK hx;omega) (by have:=szK hy;omega)
theorem adV{w:Vl}(hw:WfV w){c:Int}(d: -C < c∧c < C):oP.f lf (vc w) (ob (some c))=some (vc (dvV w c),()):=by
 have o:=CC_K;have n:=C_gt;obtain⟨j,k⟩:=aeD hw d;have b:=abD lf hb j k;have l:=hw.a.lo;have h:=hw.a.hi;have p1:(vc w).1.2.1=ob w.a.lo:=rfl;have p2:(vc w).1.2.2.1=ob w.a.hi:=rfl;have i:ob (some c)=bs (z7 c):=rfl;rw[oP.f,p1,p2,jd,jd];unfold dvV;cases g:w.a.lo with
 | none=>cases e:w.a.hi with
  | none=>rw[g,e]at b;simp only[decide_true,ze,fe,xf]at b⊢;rw[b,fa]
  | some y =>
   rw[g,e]at b;rw[e]at h;have m:=rJ d h;simp only[decide_true,ze,reduceCtorEq,decide_false,zj,fe,ff,i,show ob (some y)=bs (z7 y) from rfl,bmul lf hb d h,badd lf hb (x:=c*y) (y:=c) ω ω ω,i1,bsub lf hb (x:=c*y+c) (y:=1) ω ω ω,fF.f,fa];simp only[xf,ob]at b⊢;rw[b,fa]
 | some x =>
  rw[g]at l;have p:=rJ d l;cases e:w.a.hi with
  | none =>
   rw[g,e]at b;simp only[decide_true,ze,reduceCtorEq,decide_false,zj,fe,ff,i,show ob (some x)=bs (z7 x) from rfl,bmul lf hb d l,fF.f,fa];simp only[xf,ob]at b⊢;rw[b,fa]
  | some y =>
   rw[g,e]at b;rw[e]at h;have m:=rJ d h;simp only[reduceCtorEq,decide_false,zj,ff,i,show ob (some x)=bs (z7 x) from rfl,show ob (some y)=bs (z7 y) from rfl,bmul lf hb d l,bmul lf hb d h,badd lf hb (x:=c*y) (y:=c) ω ω ω,i1,bsub lf hb (x:=c*y+c) (y:=1) ω ω ω,fF.f,fa];simp only[xf,ob]at b⊢;rw[b,fa]
theorem adW{w:Vl}(hw:WfV w){c:Int}(d: -C < c∧c < C):kP.f lf (vc w) (ob (some c))=some (vc (dvV w c),()):=by
 have o:=CC_K;have n:=C_gt;obtain⟨j,k⟩:=aeD hw d;have b:=adC lf hb j k;have l:=hw.a.lo;have h:=hw.a.hi;have p1:(vc w).1.2.1=ob w.a.lo:=rfl;have p2:(vc w).1.2.2.1=ob w.a.hi:=rfl;have i:ob (some c)=bs (z7 c):=rfl;rw[kP.f,p1,p2,jd,jd];unfold dvV;cases g:w.a.lo with
 | none=>cases e:w.a.hi with
  | none=>rw[g,e]at b;simp only[decide_true,ze,fe,xf]at b⊢;rw[b,fa]
  | some y =>
   rw[g,e]at b;rw[e]at h;have m:=rJ d h;simp only[decide_true,ze,reduceCtorEq,decide_false,zj,fe,ff,i,show ob (some y)=bs (z7 y) from rfl,rmul lf hb d h,radd lf hb (x:=c*y) (y:=c) ω ω,i1,rsub lf hb (x:=c*y+c) (y:=1) ω ω,fa];simp only[xf,ob]at b⊢;rw[b,fa]
 | some x =>
  rw[g]at l;have p:=rJ d l;cases e:w.a.hi with
  | none =>
   rw[g,e]at b;simp only[decide_true,ze,reduceCtorEq,decide_false,zj,fe,ff,i,show ob (some x)=bs (z7 x) from rfl,rmul lf hb d l,fa];simp only[xf,ob]at b⊢;rw[b,fa]
  | some y =>
   rw[g,e]at b;rw[e]at h;have m:=rJ d h;simp only[reduceCtorEq,decide_false,zj,ff,i,show ob (some x)=bs (z7 x) from rfl,show ob (some y)=bs (z7 y) from rfl,rmul lf hb d l,rmul lf hb d h,radd lf hb (x:=c*y) (y:=c) ω ω,i1,rsub lf hb (x:=c*y+c) (y:=1) ω ω,fa];simp only[xf,ob]at b⊢;rw[b,fa]
end
noncomputable def pmV (v w:Vl):Option Int→Vl
 | some c=>if c=0 then v else metV v (scV w c)
 | none=>v
noncomputable def pdV (v w:Vl):Option Int→Vl
 | some c=>if 0 < c then metV v (dvV w c)else v
 | none=>v
noncomputable def parV (op:Int) (w a b:Vl):Vl×Vl :=
 if op=3 then(metV a (opV 4 w b),metV b (opV 4 w a))else if op=4 then(metV a (opV 3 w b),metV b (opV 4 a w))else
 if op=5 then(pmV a w (sgl b),pmV b w (sgl a))else if op=6 then(pdV a w (sgl b),b)else(a,b)
def zQ{w:Vl}(hw:WfV w){c:Int}(f: -C < c∧c < C)(e:c≠0):WfV (scV w c):=by
 unfold scV;split
 ·have t:=turnA hw.a;obtain⟨b,d⟩:=acP (c:= -c) t.1.lo t.1.hi ω;exact adQ b d
 ·obtain⟨b,d⟩:=acP hw.a.lo hw.a.hi e;exact adQ b d
def agj{w:Vl}(hw:WfV w){c:Int}(a: -C < c∧c < C):WfV (dvV w c):=adQ (aeD hw a).1 (aeD hw a).2
def ob0(o:Option Int):((ob o).toList==(⟨#[48]⟩:ByteArray).toList)=decide (o=some 0):=by
 cases o with
 | none=>rw[gO nofun];show((bs []).toList==(bs [48]).toList)=false;rw[lS];rfl
 | some c=>show((bs (z7 c)).toList==_)=_;rw[beq0];simp
section
variable (lf:Nat)(hb:Big lf){w a b:Vl}(hw:WfV w)(ha:WfV a)(hB:WfV b)
include hb hw ha
theorem aiS{o:Option Int}(b:∀ c,o=some c→-C < c∧c < C):WfV (pmV a w o):=by
 cases o with
 | none=>exact ha
 | some c =>
  show WfV (if c=0 then a else metV a (scV w c));split
  ·exact ha
  ·exact vW ha (zQ hw (b c rfl) (by assumption))
theorem akf{o:Option Int}(b:∀ c,o=some c→-C < c∧c < C):WfV (pdV a w o):=by
 cases o with
 | none=>exact ha
 | some c =>
  show WfV (if 0 < c then metV a (dvV w c)else a);split
  ·exact vW ha (agj hw (b c rfl))
  ·exact ha
include hB
theorem ajA{op:Int}:WfV (parV op w a b).1∧WfV (parV op w a b).2:=by
 unfold parV;split
 ·exact⟨vW ha (wI hw hB ⟨ω,ω⟩),vW hB (wI hw ha ⟨ω,ω⟩)⟩
 split
 ·exact⟨vW ha (wI hw hB ⟨ω,ω⟩),vW hB (wI ha hw ⟨ω,ω⟩)⟩
 split
 ·exact⟨aiS lf hb hw ha fun c h=>sO hB h,aiS lf hb hw hB fun c h=>sO ha h⟩
 split
 ·exact⟨akf lf hb hw ha fun c h=>sO hB h,hB⟩
 ·exact⟨ha,hB⟩
theorem aij{op:Int}(j:3≤op∧op≤7):qM.f lf op (vc w) (vc a) (vc b)=some (vc (parV op w a b).1,vc (parV op w a b).2,()):=by
 have A:=ahr lf hb ha;have B:=ahr lf hb hB;have n:=fO;unfold parV;rcases op3 j with rfl | rfl | rfl | rfl | rfl
 ·rw[qM.f,show((3:Int)==3)=true from rfl,ff];simp only[oQ.f,fM.f,adz lf hb hw hB (op:=4) ⟨ω,ω⟩,adz lf hb hw ha (op:=4) ⟨ω,ω⟩,tX lf hb ha (wI hw hB (op:=4) ⟨ω,ω⟩),tX lf hb hB (wI hw ha (op:=4) ⟨ω,ω⟩),dX.f,fa,if_true]
 ·rw[qM.f,show((4:Int)==3)=false from rfl,fe,show((4:Int)==4)=true from rfl,ff];simp only[oQ.f,fM.f,adz lf hb hw hB (op:=3) ⟨ω,ω⟩,adz lf hb ha hw (op:=4) ⟨ω,ω⟩,tX lf hb ha (wI hw hB (op:=3) ⟨ω,ω⟩),tX lf hb hB (wI ha hw (op:=4) ⟨ω,ω⟩),dX.f,fa,if_true];rfl
 ·rw[qM.f];simp only[show((5:Int)==3)=false from rfl,show((5:Int)==4)=false from rfl,show((5:Int)==5)=true from rfl,fe,ff,A,B,fa,jd,ob0,show((5:Int)=3)=False from ψ,show((5:Int)=4)=False from ψ,if_false,if_true];cases ea:sgl a with
  | none =>
   simp only[decide_true,ze,fe,pmV];cases eb:sgl b with
   | none=>simp only[decide_true,ff]
   | some c =>
    by_cases h:c=0
    ·subst h;simp only[reduceCtorEq,decide_false,decide_true,fe,ff,if_true]
    ·simp only[reduceCtorEq,y8.injEq,h,decide_false,fe,if_false,zS lf hb hw (sO hB eb) h,fM.f,tX lf hb ha (zQ hw (sO hB eb) h),dX.f,fa]
  | some d =>
   have i:=sO ha ea;by_cases g:d=0
   ·subst g;simp only[reduceCtorEq,decide_false,decide_true,zj,ze,fe,ff,pmV,if_true];cases eb:sgl b with
    | none=>simp only[decide_true,ff]
    | some c =>
     by_cases h:c=0
     ·subst h;simp only[reduceCtorEq,decide_false,decide_true,fe,ff,if_true]
     ·simp only[reduceCtorEq,y8.injEq,h,decide_false,fe,if_false,zS lf hb hw (sO hB eb) h,fM.f,tX lf hb ha (zQ hw (sO hB eb) h),dX.f,fa]
   ·simp only[reduceCtorEq,y8.injEq,g,decide_false,zj,ff,pmV,if_false,zS lf hb hw i g,fM.f,tX lf hb hB (zQ hw i g),dX.f,fa];cases eb:sgl b with
    | none=>simp only[decide_true,ff]
    | some c =>
     by_cases h:c=0
     ·subst h;simp only[reduceCtorEq,decide_false,decide_true,fe,ff,if_true]
     ·simp only[reduceCtorEq,y8.injEq,h,decide_false,fe,if_false,zS lf hb hw (sO hB eb) h,tX lf hb ha (zQ hw (sO hB eb) h),fa]
 ·rw[qM.f];simp only[show((6:Int)==3)=false from rfl,show((6:Int)==4)=false from rfl,show((6:Int)==5)=false from rfl,show((6:Int)==6)=true from rfl,fe,ff,B,fa,jd,ob0,show((6:Int)=3)=False from ψ,show((6:Int)=4)=False from ψ,show((6:Int)=5)=False from ψ,if_false,if_true];cases eb:sgl b with
  | none=>simp only[decide_true,ff,pdV]
  | some c =>
   have e:=sO hB eb;obtain⟨x,l,m⟩:=agX c;simp only[reduceCtorEq,decide_false,fe,pdV];by_cases h:c=0
   ·subst h;simp only[decide_true,ff,show ¬((0:Int) < 0) from ω,if_false]
   ·simp only[y8.injEq,h,decide_false,fe,l,fa,bne,m];by_cases k:c < 0
    ·simp only[k,decide_true,ze,fe,show ¬(0 < c) from ω,if_false]
    ·simp only[k,decide_false,zj,ff,show 0 < c from ω,if_true,adV lf hb hw e,fM.f,tX lf hb ha (agj hw e),dX.f,fa]
 ·rw[qM.f];simp only[show((7:Int)==3)=false from rfl,show((7:Int)==4)=false from rfl,show((7:Int)==5)=false from rfl,show((7:Int)==6)=false from rfl,fe];rfl
theorem aik{op:Int}(l:3≤op∧op≤7):gB.f lf op (vc w) (vc a) (vc b)=some (vc (parV op w a b).1,vc (parV op w a b).2,()):=by
 have A:=ahs lf (v:=a);have B:=ahs lf (v:=b);unfold parV;rcases op3 l with rfl | rfl | rfl | rfl | rfl
 ·rw[gB.f,show((3:Int)==3)=true from rfl,ff];simp only[adA lf hb hw hB (op:=4) ⟨ω,ω⟩,adA lf hb hw ha (op:=4) ⟨ω,ω⟩,tY lf hb ha (wI hw hB (op:=4) ⟨ω,ω⟩),tY lf hb hB (wI hw ha (op:=4) ⟨ω,ω⟩),fa,if_true]
 ·rw[gB.f,show((4:Int)==3)=false from rfl,fe,show((4:Int)==4)=true from rfl,ff];simp only[adA lf hb hw hB (op:=3) ⟨ω,ω⟩,adA lf hb ha hw (op:=4) ⟨ω,ω⟩,tY lf hb ha (wI hw hB (op:=3) ⟨ω,ω⟩),tY lf hb hB (wI ha hw (op:=4) ⟨ω,ω⟩),fa,if_true];rfl
 ·rw[gB.f];simp only[show((5:Int)==3)=false from rfl,show((5:Int)==4)=false from rfl,show((5:Int)==5)=true from rfl,fe,ff,A,B,fa,jd,ob0,show((5:Int)=3)=False from ψ,show((5:Int)=4)=False from ψ,if_false,if_true];cases eb:sgl b with
  | none =>
   simp only[decide_true,ze,fe,pmV];cases ea:sgl a with
   | none=>simp only[decide_true,ze,fe]
   | some c =>
    by_cases h:c=0
    ·subst h;simp only[reduceCtorEq,decide_false,decide_true,zj,ze,fe,ff,if_true]
    ·simp only[reduceCtorEq,y8.injEq,h,decide_false,zj,ff,if_false,zT lf hb hw (sO ha ea) h,tY lf hb hB (zQ hw (sO ha ea) h),fa]
  | some d =>
   have i:=sO hB eb;by_cases g:d=0
   ·subst g;simp only[reduceCtorEq,decide_false,decide_true,zj,ze,fe,ff,pmV,if_true];cases ea:sgl a with
    | none=>simp only[decide_true,ze,fe]
    | some c =>
     by_cases h:c=0
     ·subst h;simp only[reduceCtorEq,decide_false,decide_true,zj,ze,fe,ff,if_true]
     ·simp only[reduceCtorEq,y8.injEq,h,decide_false,zj,ff,if_false,zT lf hb hw (sO ha ea) h,tY lf hb hB (zQ hw (sO ha ea) h),fa]
   ·simp only[reduceCtorEq,y8.injEq,g,decide_false,zj,ff,pmV,if_false,zT lf hb hw i g,tY lf hb ha (zQ hw i g),fa];cases ea:sgl a with
    | none=>simp only[decide_true,ze,fe]
    | some c =>
     by_cases h:c=0
     ·subst h;simp only[reduceCtorEq,decide_false,decide_true,zj,ze,fe,ff,if_true]
     ·simp only[reduceCtorEq,y8.injEq,h,decide_false,zj,ff,if_false,zT lf hb hw (sO ha ea) h,tY lf hb hB (zQ hw (sO ha ea) h),fa]
 ·rw[gB.f];simp only[show((6:Int)==3)=false from rfl,show((6:Int)==4)=false from rfl,show((6:Int)==5)=false from rfl,show((6:Int)==6)=true from rfl,fe,ff,B,fa,jd,show((6:Int)=3)=False from ψ,show((6:Int)=4)=False from ψ,show((6:Int)=5)=False from ψ,if_false,if_true];cases eb:sgl b with
  | none=>simp only[decide_true,ze,fe,pdV]
  | some c =>
   have e:=sO hB eb;have s:decide (sgn c > 0)=decide (0 < c):=by unfold sgn;by_cases h:c < 0<;>by_cases j:c=0<;>simp[h,j]<;>omega
   simp only[reduceCtorEq,decide_false,zj,ff,pdV,show bD.f lf (ob (some c))=some (sgn c,()) from signI lf c,fa,s];by_cases k:0 < c
   ·simp only[k,decide_true,ff,if_true,adW lf hb hw e,tY lf hb ha (agj hw e),fa]
   ·simp only[k,decide_false,fe,if_false]
 ·rw[gB.f];simp only[show((7:Int)==3)=false from rfl,show((7:Int)==4)=false from rfl,show((7:Int)==5)=false from rfl,show((7:Int)==6)=false from rfl,fe];rfl
end
mutual
def cnt:EX→Nat
 | .mk _ _ _ l=>cntL l+1
def cntL:List EX→Nat
 | []=>0
 | a::l=>cnt a+cntL l
end
mutual
def dep:EX→Nat
 | .mk _ _ _ l=>depL l+1
def depL:List EX→Nat
 | []=>0
 | a::l=>max (dep a) (depL l)
end
mutual
def txt:EX→Prop
 | .mk _ s _ l=>tb s≤450∧txtL l
def txtL:List EX→Prop
 | []=>True
 | a::l=>txt a∧txtL l
end
def abL(e:EX):cnt e=cntL e.l+1:=by cases e;rfl
def zn(e:EX):dep e=depL e.l+1:=by cases e;rfl
def akm(e:EX):txt e↔tb e.s≤450∧txtL e.l:=by cases e;exact Iff.rfl
def vN:∀ l:List EX,l.length≤cntL l
 | []=>za _
 | a::l=>by have:=vN l;have:=abL a;simp only[List.length_cons,cntL];omega
def drop_at{l:List EX}{j:Nat}(h:j < l.length):l.drop j=l[j]::l.drop (j+1):=vr h
def idxLn{l:List EX}{j:Nat}(h:j < l.length):idxL l ((j:Nat):Int)=some l[j]:=by
 unfold idxL;rw[gT ω,vm,zP h]
def aaF:∀ (l:List EX) (j:Nat),depL (l.drop j)≤depL l∧cntL (l.drop j)≤cntL l:=by
 intro l
 induction l with
 | nil=>intro j;simp[depL,cntL]
 | cons a l b =>
  intro j;cases j with
  | zero=>exact⟨za _,za _⟩
  | succ j=>have:=b j;simp only[List.drop_succ_cons,depL,cntL];omega
def aiy(s:ByteArray):s.size=tb s:=rfl
def abq(lf:Nat)(f:EX→Int→Int→Option (Int×Unit))(c:Int)(s:0≤c)(t:c≤24)
  (H:∀ (e:EX) (b:Int),b≤80→∃ r,f e (c+1) b=some (r,())∧-1≤r∧(0≤r→r+cnt e=b∧c+1+dep e≤25∧txt e)) (o:Int) (p:ByteArray) (q:Int) (l:List EX) :
  ∀ (n j:Nat) (a:Int),-1≤a→a≤80→a+3≤n→j+a≤90→∃ r,fH.l0 lf f c o p q l n a (j:Int)=some ((r,()),())∧-1≤r∧
   (0≤r→r+cntL (l.drop j)=a∧c+1+depL (l.drop j)≤25∧txtL (l.drop j))
 | 0,j,a,b1,b2,b3,b4=>ω
 | n+1,j,a,b1,b2,b3,b4=>by
  rw[fH.l0,fH.r0];by_cases d:j < l.length
  ·rw[ltE,gP d,ff];by_cases hv:0≤a
   ·rw[gP (show a≥0 from hv),ff,idxLn d,fa,EX.eta,w64 ω ω];obtain⟨r,u,z,v⟩:=H l[j] a b2;rw[u,fa,wrE ω];by_cases x:0≤r
    ·obtain⟨C,D,y⟩:=v x;have:=abL l[j];obtain⟨m,g,i,k⟩:=abq lf f c s t H o p q l n (j+1) r ω ω ω ω;refine⟨m,g,i,fun h=>?_⟩;obtain⟨A,B,w⟩:=k h;rw[drop_at d];exact⟨by simp only[cntL];omega,by simp only[depL];omega,y,w⟩
    ·obtain⟨m,g,i,k⟩:=abq lf f c s t H o p q l n (j+1) r ω ω ω ω;refine⟨m,g,i,fun h=>?_⟩;have:=k h;omega
   ·rw[gO (show ¬a≥0 from hv),fe];exact⟨a,rfl,b1,fun h=>absurd h hv⟩
  ·rw[ltE,gO d,fe];rw[ow ω];exact⟨a,rfl,b1,fun h=>⟨by simp[cntL],by simp only[depL];omega,trivial⟩⟩
def afl(lf:Nat)(hl:100≤lf):∀ (m:Nat) (e:EX) (a c:Int),0≤a→a≤25→25≤a+m→c≤80→
  ∃ r,fH.f (lf+m+1) e a c=some (r,())∧-1≤r∧(0≤r→r+cnt e=c∧a+dep e≤25∧txt e)
 | m,e,a,c,h1,h2,h3,h4=>by
  show ∃ r,fH.fb (lf+m) (fH.f (lf+m)) e a c=some (r,())∧_;rw[fH.fb];by_cases c1:a > 24
  ·rw[gP c1,ff];exact⟨-1,rfl,ω,fun h=>ω⟩
  ·rw[gO c1,fe];by_cases c2:c≤0
   ·rw[gP c2,ff];exact⟨-1,rfl,ω,fun h=>ω⟩
   ·rw[gO c2,fe,kN.f,fa];by_cases c3:(e.s.size:Int)≤450
    ·rw[gP c3,ze,fe,w64 ω ω];obtain⟨m,rfl⟩:∃ q,m=q+1:=⟨m-1,ω⟩
     have H:∀ (x:EX) (b:Int),b≤80→∃ r,fH.f (lf+(m+1)) x (a+1) b=some (r,())∧-1≤r∧(0≤r→r+cnt x=b∧a+1+dep x≤25∧txt x) :=
      fun x b hb=>afl lf hl m x (a+1) b ω ω ω hb
     obtain⟨r,d,k,n⟩:=abq (lf+(m+1)) _ a h1 ω H e.i e.s e.j e.l (lf+(m+1)+40) 0 (c-1) ω ω ω ω;rw[show((0:Nat):Int)=0 from rfl]at d;rw[d,fa];refine⟨r,rfl,k,fun h=>?_⟩;obtain⟨o,p,g⟩:=n h;rw[xD]at o p g;exact⟨by rw[abL];omega,by rw[zn];omega,(akm e).2 ⟨by rw[←aiy];omega,g⟩⟩
    ·rw[gO c3,zj,ff];exact⟨-1,rfl,ω,fun h=>ω⟩
def ajX(lf:Nat)(hl:200≤lf)(e:EX):∃ b,nN.f lf e=some (b,())∧(b=true→cnt e≤80∧dep e≤25∧txt e):=by
 obtain⟨r,a,g,c⟩:=afl (lf-26) ω 25 e 0 80 ω ω ω ω;rw[show lf-26+25+1=lf by omega]at a;rw[nN.f,EX.eta,a,fa];refine⟨_,rfl,fun h=>?_⟩;obtain⟨i,j,d⟩:=c (of_decide_eq_true h);have:=of_decide_eq_true h;exact⟨ω,ω,d⟩
def p2{a c b b':Int}(h:a=c)(k:b=b'):(some ((a,b,()),()):Option ((Int×Int×Unit)×Unit))=some ((c,b',()),()):=by rw[h,k]
def p1{a b:Int}(h:a=b):(some ((a,()),()):Option ((Int×Unit)×Unit))=some ((b,()),()):=by rw[h]
def aiw(lf q:Nat)(k:Nat)(c u:Int)(v:ByteArray)(w:Int)(x:List EX)(h:Int)(m:ByteArray)(o:Int)(p:List EX)(B:0≤c∧c≤1000)(E:k≤100)
  (H:∀ e,dep e≤k→cnt e≤80→∀ b a:Int,0≤b→b+cnt e≤1000→0≤a→a≤2000→
   jy.g0 lf q (c+1) e.i e.s e.j e.l u v w x b a h m o p=some ((b+cnt e,max a (c+1+dep e-1),()),())) (l:List EX) (D:depL l≤k) (C:cntL l≤80) :
  ∀ (d n j:Nat) (b a:Int),j+d=l.length→d < n→0≤b→b+cntL (l.drop j)≤1000→c≤a→a≤2000→
   jy.l1 lf (jy.g0 lf q) c l (l.length:Int) u v w x h m o p n (j:Int) b a=some ((b+cntL (l.drop j),max a (c+depL (l.drop j)),()),()):=by
 have t:=vN l;intro d
 induction d with
 | zero =>
  intro n j b a z hn _ _ r _;obtain⟨n,rfl⟩:∃ q,n=q+1:=⟨n-1,ω⟩
  rw[jy.l1,jy.r1,ltE,gO ω,fe,ow ω];simp only[cntL,depL];rw[show max a (c+((0:Nat):Int))=a by omega,show b+((0:Nat):Int)=b by omega]
 | succ d A =>
  intro n j b a z hn y hs r hb;obtain⟨n,rfl⟩:∃ q,n=q+1:=⟨n-1,ω⟩
  have f:j < l.length:=ω;have g:=aaF l j;rw[drop_at f]at hs g⊢;simp only[depL,cntL]at hs g⊢;rw[jy.l1,jy.r1,ltE,gP f,ff,idxLn f,fa,w64 ω ω,H l[j] ω ω b a y ω ω hb,fa,wrE ω];dsimp only;rw[A n (j+1) _ _ ω ω ω ω ω ω];exact p2 ω ω
def ahv(lf:Nat)(hl:200≤lf):∀ (k:Nat) (e:EX),dep e≤k→cnt e≤80→k≤100→∀ (q:Nat),k≤q→∀ (g t:Int) (u:ByteArray) (v:Int) (w:List EX) (r f h:Int) (m:ByteArray) (n:Int) (o:List EX),
  1≤g→g+k≤1000→0≤r→r+cnt e≤1000→0≤f→f≤2000→
  jy.g0 lf q g e.i e.s e.j e.l t u v w r f h m n o=some ((r+cnt e,max f (g+dep e-1),()),())
 | 0,e,hd,_,_,_,_,_,_,_,_,_,_,_,_,_,_,_,_,_,_,_,_,_=>by have:=zn e;omega
 | k+1,e,hd,hc,hk,q,hq,g,t,u,v,w,r,f,h,m,n,o,h0,h0',h9,hs,h10,hb=>by
  obtain⟨q,rfl⟩:∃ p,q=p+1:=⟨q-1,ω⟩
  have C:=zn e;have D:=abL e;have B:=vN e.l;rw[jy.g0,jy.gr0,w64 ω ω];have H:=aiw lf q k g t u v w h m n o ⟨ω,ω⟩ ω (fun x hx A y z a b c d=>ahv lf hl k x hx A ω q ω (g+1) t u v w y z h m n o ω ω a b c d) e.l ω ω
   e.l.length (lf+40) 0 (r+1) (if g > f then g else f) ω ω ω (by rw[xD];omega) (by split<;>omega) (by split<;>omega)
  rw[show((0:Nat):Int)=0 from rfl,xD]at H;rw[H,fa];dsimp only;exact p2 ω (by split<;>omega)
def ai3(lf:Nat)(hl:200≤lf){e:EX}(a:cnt e≤80)(b:dep e≤25):jy.f lf e=some ((cnt e:Int),(dep e:Int),()):=by
 rw[jy.f,ahv lf hl 25 e b a ω (lf+40) ω 1 _ _ _ _ 0 0 _ _ _ _ ω ω ω ω ω ω,fa];have:=zn e;dsimp only;rw[show(0:Int)+(cnt e:Int)=cnt e by omega,show max (0:Int) (1+(dep e:Int)-1)=dep e by omega]
def afV(lf k:Nat)(o:Int)(p:ByteArray)(r:Int)(h:EX→Option (Int×Unit))(H:∀ e,dep e≤k→cnt e≤80→h e=some ((cnt e:Int),()))(l:List EX)(u:depL l≤k)(t:cntL l≤80):
  ∀ (d n j:Nat) (a:Int),j+d=l.length→d < n→0≤a→a+cntL (l.drop j)≤1000→eP.l0 lf h o p r l n a (j:Int)=some ((a+cntL (l.drop j),()),()):=by
 have g:=vN l;intro d
 induction d with
 | zero =>
  intro n j a i hn _ _;obtain⟨n,rfl⟩:∃ q,n=q+1:=⟨n-1,ω⟩
  rw[eP.l0,eP.r0,ltE,gO ω,fe,ow ω];simp only[cntL];rw[show a+((0:Nat):Int)=a by omega]
 | succ d m =>
  intro n j a i hn s f;obtain⟨n,rfl⟩:∃ q,n=q+1:=⟨n-1,ω⟩
  have b:j < l.length:=ω;have c:=aaF l j;rw[drop_at b]at c f⊢;simp only[depL,cntL]at c f⊢;rw[eP.l0,eP.r0,ltE,gP b,ff,idxLn b,fa,EX.eta,H l[j] ω ω,fa,wrE ω,w64 (by dsimp only;omega) (by dsimp only;omega)];dsimp only;rw[m n (j+1) _ ω ω ω ω];exact p1 ω
def aem(lf:Nat)(hl:200≤lf):∀ (k:Nat) (e:EX),dep e≤k→cnt e≤80→eP.f (lf+k) e=some ((cnt e:Int),())
 | 0,e,hd,_=>by have:=zn e;omega
 | k+1,e,hd,hc=>by
  have c:=zn e;have d:=abL e;have b:=vN e.l;show eP.fb (lf+k) (eP.f (lf+k)) e=_;have H:=afV (lf+k) k e.i e.s e.j _ (fun x hx a=>aem lf hl k x hx a) e.l ω ω e.l.length (lf+k+40) 0 1 ω ω ω (by rw[xD];omega);rw[show((0:Nat):Int)=0 from rfl,xD]at H;rw[eP.fb,H,fa];dsimp only;rw[show(1:Int)+(cntL e.l:Int)=cnt e by omega]
def afW(lf k:Nat)(u:k≤100)(m:Int)(o:ByteArray)(p:Int)(g:EX→Option (Int×Unit))(H:∀ e,dep e≤k→cnt e≤80→g e=some ((dep e:Int),()))(l:List EX)(t:depL l≤k)(s:cntL l≤80):
  ∀ (d n j:Nat) (b:Int),j+d=l.length→d < n→0≤b→eU.l0 lf g m o p l n b (j:Int)=some ((max b (depL (l.drop j)),()),()):=by
 have f:=vN l;intro d
 induction d with
 | zero =>
  intro n j b h hn _;obtain⟨n,rfl⟩:∃ q,n=q+1:=⟨n-1,ω⟩
  rw[eU.l0,eU.r0,ltE,gO ω,fe,ow ω];simp only[depL];rw[show max b ((0:Nat):Int)=b by omega]
 | succ d i =>
  intro n j b h hn r;obtain⟨n,rfl⟩:∃ q,n=q+1:=⟨n-1,ω⟩
  have a:j < l.length:=ω;have c:=aaF l j;rw[drop_at a]at c⊢;simp only[depL,cntL]at c⊢;rw[eU.l0,eU.r0,ltE,gP a,ff,idxLn a,fa,EX.eta,H l[j] ω ω,fa,wrE ω];dsimp only;rw[i n (j+1) _ ω ω (by split<;>omega)];exact p1 (by split<;>omega)
def aen(lf:Nat)(hl:200≤lf):∀ (k:Nat) (e:EX),k≤100→dep e≤k→cnt e≤80→eU.f (lf+k) e=some ((dep e:Int),())
 | 0,e,_,hd,_=>by have:=zn e;omega
 | k+1,e,hk,hd,hc=>by
  have c:=zn e;have d:=abL e;have b:=vN e.l;show eU.fb (lf+k) (eU.f (lf+k)) e=_;have H:=afW (lf+k) k ω e.i e.s e.j _ (fun x hx a=>aen lf hl k x ω hx a) e.l ω ω e.l.length (lf+k+40) 0 0 ω ω ω;rw[show((0:Nat):Int)=0 from rfl,xD]at H;rw[eU.fb,H,fa,w64 (by dsimp only;omega) (by dsimp only;omega)];dsimp only;rw[show max (0:Int) (depL e.l:Int)+1=dep e by omega]
inductive RE(n:Nat):Nat→EX→Prop
 | num (k:Nat) (z:Int): -C < z∧z < C→RE n (k+1) (.mk 0 (bs (z7 z)) 0 [])
 | var (k i:Nat):i < n→RE n (k+1) (.mk 1 (bs []) (i:Int) [])
 | neg (k:Nat) (a:EX):RE n k a→RE n (k+1) (.mk 2 (bs []) 0 [a])
 | bin (k:Nat) (op:Int) (a b:EX):3≤op∧op≤7→RE n k a→RE n k b→RE n (k+1) (.mk op (bs []) 0 [a,b])
def NodeOK(n:Nat)(i:Int)(s:ByteArray)(j:Int)(l:List EX):Prop :=
 (i=0∧l.length=0∧(∃ z:Int,(-C < z∧z < C)∧s=bs (z7 z))∧j=0)∨(i=1∧l.length=0∧s=bs []∧∃ q:Nat,q < n∧j=(q:Int))∨
 (i=2∧l.length=1∧s=bs []∧j=0)∨((3≤i∧i≤7)∧l.length=2∧s=bs []∧j=0)
def gt_N:gtab gtN=[0,0,1,2,2,2,2,2]:=θ
def af6(s:ByteArray):s=bs s.data.toList:=rfl
def aji(lf:Nat)(l:List UInt8)(hl:l.length≤9223372036854775807):uF.f lf (bs l)=some (num l,()):=by
 rw[uF.f,rU lf l hl,fa];unfold num;by_cases h:chk l=0
 ·simp only[h,bne_self_eq_false,fe,yg.f,qQ,fa,jI,ne_eq,not_true,if_false];by_cases a:nlen l > 100
  ·rw[gP (show(((body l).length:Nat):Int) > 100 by unfold nlen at a;omega),ff,gT a]
  ·rw[gO (show ¬(((body l).length:Nat):Int) > 100 by unfold nlen at a;omega),fe,gR a]
 ·simp only[bneT h,ff,ne_eq,h,not_false_eq_true,if_true]
def aju(lf:Nat)(n:Nat)(e:EX)(y:tb e.s≤450):∃ x:Int,tK.f lf e n=some (x,())∧(∀ a,1000≤a→kU.f a e n=some (x,()))∧(x=0→NodeOK n e.i e.s e.j e.l):=by
  rw[tK.f];simp only[kU.f,gt_N];generalize e.i=i;generalize e.s=s at y⊢;generalize e.j=j;generalize e.l=l;have I:s.data.toList.length≤450:=y;have c:(s.toList==(⟨#[]⟩:ByteArray).toList)=decide (s=bs []):=by
    rw[af6 s,e0,lS];by_cases h:s.data.toList=[]
    · rw[h];simp
    · rw[gO h,gO fun q=>h (yP q)]
  simp only[c];by_cases d:i < 0
  · simp only[d,decide_true,ff];exact⟨1,rfl,fun _ _=>rfl,nofun⟩
  by_cases t:i > 7
  · simp only[d,t,show i≥8 by omega,decide_true,decide_false,ff,fe];exact⟨1,rfl,fun _ _=>rfl,nofun⟩
  simp only[d,t,show ¬i≥8 by omega,decide_false,fe];by_cases c0:i=0
  · subst c0
    simp only[show idxL ([0,0,1,2,2,2,2,2]:List Int) 0=some 0 from rfl,fa,show((0:Int)==0)=true from rfl,show((0:Int)==1)=false from rfl,show((0:Int)==2)=false from rfl,show((0:Int) != 1)=true from rfl,show decide ((0:Int)≤1)=true from rfl,ff,fe];by_cases g:l.length=0
    · rw[show((l.length:Int) != 0)=false by simp[g]]
      have A:=aji lf s.data.toList ω;rw[←af6]at A;simp only[fe,A,fa];have k:∀ a,1000≤a→eY.f a s=some (num s.data.toList,()):=fun a h=>by
        have:=ab1 a s.data.toList ω ω
        rwa [←af6]at this
      by_cases q:num s.data.toList=0
      · by_cases w:j=0
        · refine⟨0,by simp only[q,w,bne_self_eq_false,fe],fun a h=>by rw[k a h,fa];simp only[q,w,bne_self_eq_false,fe],fun _=>.inl ⟨rfl,g,?_,w⟩⟩
          obtain⟨z,E,F⟩:∃ z:Int,s.data.toList=z7 z∧(-C < z∧z < C):=by
            have G:chk s.data.toList=0:=by
              unfold num at q;by_cases h:chk s.data.toList=0
              · exact h
              · simp only[ne_eq,h,not_false_eq_true,if_true]at q
            have e:=yj (nI.1 G).1;refine⟨_,e,?_⟩;rw[e]at q;exact(vG _).1 q
          exact⟨z,F,by rw[←E]⟩
        · exact⟨3,by simp only[q,bne_self_eq_false,bneT w,fe,ff],fun a h=>by rw[k a h,fa];simp only[q,bne_self_eq_false,bneT w,fe,ff],nofun⟩
      · refine⟨num s.data.toList,by rw[bneT q,ff],fun a h=>?_,fun h=>absurd h q⟩
        rw[k a h,fa];dsimp only;rw[bneT q,ff]
    · rw[show((l.length:Int) != 0)=true by simpa using g]
      simp only[ff];exact⟨15,rfl,fun _ _=>rfl,nofun⟩
  by_cases c1:i=1
  · subst c1
    simp only[show idxL ([0,0,1,2,2,2,2,2]:List Int) 1=some 0 from rfl,fa,show((1:Int)==0)=false from rfl,show((1:Int)==1)=true from rfl,show((1:Int)==2)=false from rfl,show((1:Int) != 1)=false from rfl,show decide ((1:Int)≤1)=true from rfl,ff,fe];by_cases g:l.length=0
    · rw[show((l.length:Int) != 0)=false by simp[g]]
      simp only[fe];by_cases w:s=bs []
      · rw[gP w,ze,fe]
        by_cases u:j < 0
        · simp only[u,decide_true,ff,fe];exact⟨6,rfl,fun _ _=>rfl,nofun⟩
        · by_cases v:j≥(n:Int)
          · simp only[u,v,decide_true,decide_false,ff,fe];exact⟨6,rfl,fun _ _=>rfl,nofun⟩
          · simp only[u,v,decide_false,fe];exact⟨0,rfl,fun _ _=>rfl,fun _=>.inr (.inl ⟨rfl,g,w,j.toNat,ω,ω⟩)⟩
      · rw[gO w,zj,ff];exact⟨3,rfl,fun _ _=>by simp only[zj,ff],nofun⟩
    · rw[show((l.length:Int) != 0)=true by simpa using g]
      simp only[ff];exact⟨15,rfl,fun _ _=>rfl,nofun⟩
  have rest:∀ (m:Nat),idxL ([0,0,1,2,2,2,2,2]:List Int) i=some (m:Int)→(i=2∧m=1)∨((3≤i∧i≤7)∧m=2)→∃ x:Int,(bd (idxL ([0,0,1,2,2,2,2,2]:List Int) i) fun J=>br ((l.length:Int) != J) (some (15,())) (br (!decide (s=bs [])) (some (3,())) (br (j != 0) (some (3,())) (some (0,())))))=some (x,())∧
      (br ((l.length:Int) !=(m:Int)) (some (15,())) (br (!decide (s=bs [])) (some (3,())) (br (j != 0) (some (3,())) (some (0,())))))=some (x,())∧(x=0→NodeOK n i s j l):=by
    intro m e H;rw[e,fa];by_cases g:l.length=m
    · rw[show((l.length:Int) !=(m:Int))=false by simp[g],fe]
      by_cases w:s=bs []
      · rw[gP w,ze,fe]
        by_cases u:j=0
        · rw[show(j != 0)=false by simp[u],fe]
          exact⟨0,rfl,rfl,fun _=>by
            rcases H with⟨h,h'⟩ | ⟨h,h'⟩
            · exact .inr (.inr (.inl ⟨h,ω,w,u⟩))
            · exact .inr (.inr (.inr ⟨h,ω,w,u⟩))⟩
        · rw[bneT u,ff];exact⟨3,rfl,rfl,nofun⟩
      · rw[gO w,zj,ff];exact⟨3,rfl,rfl,nofun⟩
    · rw[show((l.length:Int) !=(m:Int))=true by rw[bne_iff_ne];omega,ff];exact⟨15,rfl,rfl,nofun⟩
  have B:(i==0)=false:=by simpa using c0
  have D:(i==1)=false:=by simpa using c1
  have b:(i != 1)=true:=by simpa using c1
  simp only[B,D,b,ff,fe,show ¬i≤1 by omega,decide_false];by_cases c2:i=2
  · obtain⟨x,o,p,r⟩:=rest 1 (by rw[c2];rfl) (.inl ⟨c2,rfl⟩)
    refine⟨x,o,fun _ _=>?_,r⟩;rw[show(i==2)=true by simpa using c2,ff];exact p
  · obtain⟨x,o,p,r⟩:=rest 2 (by
     have:i=3∨i=4∨i=5∨i=6∨i=7:=ω;rcases this with rfl | rfl | rfl | rfl | rfl<;>rfl) (.inr ⟨ω,rfl⟩)
    refine⟨x,o,fun _ _=>?_,r⟩;rw[show(i==2)=false by simpa using c2,fe];exact p
def resN(x:Int):Bool×(Int×Unit)×Unit×Unit:=if x=0 then(false,(0,()),(),())else(true,(x,()),(),())
def aki{n k:Nat}{i:Int}{s:ByteArray}{j:Int}{l:List EX}(h:NodeOK n i s j l)(hl:∀ (q:Nat) (c:q < l.length),RE n k l[q]):RE n (k+1) (.mk i s j l):=by
 rcases h with⟨rfl,g,⟨z,hz,rfl⟩,rfl⟩ | ⟨rfl,g,rfl,q,c,rfl⟩ | ⟨rfl,g,rfl,rfl⟩ | ⟨ho,g,rfl,rfl⟩
 ·obtain rfl:=wc.1 g;exact .num k z hz
 ·obtain rfl:=wc.1 g;exact .var k q c
 ·match l,g,hl with
  | [a],_,hl=>exact .neg k a (hl 0 ψ)
 ·match l,g,hl with
  | [a,b],_,hl=>exact .bin k i a b ho (hl 0 ψ) (hl 1 ψ)
def afp:∀ {l:List EX} {q:Nat} (b:q < l.length),txtL l→txt l[q]
 | a::l,0,_,h=>h.1
 | a::l,q+1,b,h=>afp (l:=l) (by simpa using b) h.2
def aiL(lf:Nat)(hl:200≤lf)(m:Nat):∀ (k:Nat) (e:EX),dep e≤k→cnt e≤80→txt e→k≤100→∃ x:Int,
  (∀ (q:Nat),k≤q→∀ (r z:Int) (A:ByteArray) (B:Int) (J:List EX) (b c:Int) (g:ByteArray) (h:Int) (E:List EX),1≤r→r+k≤1000→dZ.g0 lf q r e.i e.s e.j e.l z A B J (m:Int) b c g h E=some (resN x))∧
  (∀ a,1000≤a→cu.f (a+k) e m=some (x,()))∧(x=0→RE m k e)
 | 0,e,hd,_,_,_=>by have:=zn e;omega
 | k+1,.mk i s j l,hd,hc,ht,hk=>by
  simp only[dep,cnt]at hd hc;obtain⟨t1,t2⟩:tb s≤450∧txtL l:=ht;have O:=vN l;obtain⟨x,P,Q,V⟩:=aju lf m (.mk i s j l) t1;have ops:∀ (d p:Nat),p+d=l.length→∃ y:Int,
    (∀ (n q:Nat),d < n→k≤q→∀ (r v:Int) (z:ByteArray) (A:Int) (B:List EX) (F b:Int) (c:ByteArray) (g:Int) (h:List EX),1≤r→r+k+1≤1000→dZ.l1 lf (dZ.g0 lf q) r l (l.length:Int) v z A B (m:Int) F b c g h n (p:Int)=some (resN y))∧
    (∀ (n a:Nat),d < n→1000≤a→∀ C H I v,cu.l0 C (cu.f (a+k)) (m:Int) H I v l n (p:Int)=some (resN y))∧(y=0→∀ (q:Nat) (w:q < l.length),p≤q→RE m k l[q]):=by
   intro d
   induction d with
   | zero =>
    intro p T;refine⟨0,fun n q hn _ r v z A B F b c g h _ _=>?_,fun n a hn _ C H I v=>?_,fun _ q w K=>ω⟩
    ·obtain⟨n,rfl⟩:∃ q,n=q+1:=⟨n-1,ω⟩
     rw[dZ.l1,dZ.r1,ltE,gO ω,fe];rfl
    ·obtain⟨n,rfl⟩:∃ q,n=q+1:=⟨n-1,ω⟩
     rw[cu.l0,cu.r0,ltE,gO ω,fe];rfl
   | succ d U =>
    intro p T;have o:p < l.length:=ω;have G:=aaF l p;rw[drop_at o]at G;simp only[depL,cntL]at G;obtain⟨x,R,S,W⟩:=aiL lf hl m k l[p] ω ω (afp o t2) ω;obtain⟨y,L,M,N⟩:=U (p+1) ω;by_cases t:x=0
    ·refine⟨y,fun n q hn w r v z A B F b c g h hv D=>?_,fun n a hn u C H I v=>?_,fun hy q w K=>?_⟩
     ·obtain⟨n,rfl⟩:∃ q,n=q+1:=⟨n-1,ω⟩
      rw[dZ.l1,dZ.r1,ltE,gP o,ff,idxLn o,fa,w64 ω ω,R q w (r+1) v z A B F b c g h ω ω,fa,wrE ω];simp only[resN,t,if_true,fe];exact L n q ω w r v z A B F b c g h hv D
     ·obtain⟨n,rfl⟩:∃ q,n=q+1:=⟨n-1,ω⟩
      rw[cu.l0,cu.r0,ltE,gP o,ff,idxLn o,fa,EX.eta,S a u,fa,wrE ω];simp only[t,bne_self_eq_false,fe];exact M n a ω u C H I v
     ·by_cases e:q=p
      ·subst e;exact W t
      ·exact N hy q w ω
    ·refine⟨x,fun n q hn w r v z A B F b c g h hv D=>?_,fun n a hn u C H I v=>?_,fun hy=>absurd hy t⟩
     ·obtain⟨n,rfl⟩:∃ q,n=q+1:=⟨n-1,ω⟩
      rw[dZ.l1,dZ.r1,ltE,gP o,ff,idxLn o,fa,w64 ω ω,R q w (r+1) v z A B F b c g h ω ω,fa];simp only[resN,t,if_false,ff]
     ·obtain⟨n,rfl⟩:∃ q,n=q+1:=⟨n-1,ω⟩
      rw[cu.l0,cu.r0,ltE,gP o,ff,idxLn o,fa,EX.eta,S a u,fa];simp only[bneT t,ff,resN,t,if_false]
  obtain⟨y,L,M,N⟩:=ops l.length 0 ω;by_cases t:x=0
  ·refine⟨y,fun q w r z A B J b c g h E hv D=>?_,fun a u=>?_,fun hy=>aki (V t) fun q w=>N hy q w ω⟩
   ·obtain⟨q,rfl⟩:∃ p,q=p+1:=⟨q-1,ω⟩
    have:=L (lf+40) q ω ω r z A B J b c g h E hv ω;rw[show((0:Nat):Int)=0 from rfl]at this;rw[dZ.g0,dZ.gr0];simp only[EX.i,EX.s,EX.j,EX.l,P,fa,t,bne_self_eq_false,fe,this];unfold resN;by_cases hy:y=0
    ·simp only[hy,if_true,fe]
    ·simp only[hy,if_false,ff]
   ·show cu.fb (a+k) (cu.f (a+k)) (.mk i s j l) m=_;have:=M (a+k+40) a ω u (a+k) i s j;rw[show((0:Nat):Int)=0 from rfl]at this;rw[cu.fb];simp only[EX.i,EX.s,EX.j,EX.l,Q (a+k) ω,fa,t,bne_self_eq_false,fe,this];unfold resN;by_cases hy:y=0
    ·simp only[hy,if_true,fe]
    ·simp only[hy,if_false,ff]
  ·refine⟨x,fun q w r z A B J b c g h E hv D=>?_,fun a u=>?_,fun hy=>absurd hy t⟩
   ·obtain⟨q,rfl⟩:∃ p,q=p+1:=⟨q-1,ω⟩
    rw[dZ.g0,dZ.gr0];simp only[EX.i,EX.s,EX.j,EX.l,P,fa,bneT t,ff,resN,t,if_false]
   ·show cu.fb (a+k) (cu.f (a+k)) (.mk i s j l) m=_;rw[cu.fb];simp only[EX.i,EX.s,EX.j,EX.l,Q (a+k) ω,fa,bneT t,ff]
def ahW(lf:Nat)(hl:2000≤lf){e:EX}(h:cnt e≤80∧dep e≤25∧txt e)(m:Nat):∃ x:Int,dZ.f lf e m=some (x,())∧lZ.f lf e m=some (x,())∧(x=0→m≤12∧RE m 25 e):=by
 obtain⟨a,b,r⟩:=h;have c:=aem (lf-25) ω 25 e b a;have d:=aen (lf-25) ω 25 e ω b a;obtain⟨x,n,k,t⟩:=aiL lf ω m 25 e b a r ω;have n:=n (lf+40) ω 1 e.i e.s e.j e.l 0 e.i e.s e.j e.l ω ω;have k:=k (lf-25) ω;rw[show lf-25+25=lf by omega]at c d k;rw[dZ.f,lZ.f];simp only[EX.eta,ai3 lf ω a b,c,d,n,k,fa];rw[gO (show ¬(m:Int) < 0 by omega),fe,fe];by_cases g:(m:Int) > 12
 ·rw[gP g,ff,ff];exact⟨2,rfl,rfl,nofun⟩
 rw[gO g,fe,fe];by_cases o:(cnt e:Int) > 64
 ·rw[gP o,ff,ff];exact⟨5,rfl,rfl,nofun⟩
 rw[gO o,fe,fe];by_cases p:(dep e:Int) > 16
 ·rw[gP p,ff,ff];exact⟨12,rfl,rfl,nofun⟩
 rw[gO p,fe,fe];refine⟨x,?_,rfl,fun h=>⟨ω,t h⟩⟩;unfold resN;by_cases q:x=0
 ·simp only[q,if_true,fe]
 ·simp only[q,if_false,ff]
def Big.more{lf:Nat}(h:Big lf)(m:Nat):Big (lf+m):=⟨by have:=h.1;omega,by have:=h.2;omega⟩
def idx0{α:Type}(a:α)(l:List α):idxL (a::l) 0=some a:=rfl
def idx1{α:Type}(a b:α)(l:List α):idxL (a::b::l) 1=some b:=rfl
def ib{n:Nat}{k:Nat}(h:k < n):idxB n (k:Int)=some k:=by unfold idxB;rw[gT ⟨ω,ω⟩,vm]
def mk_i(i:Int)(s:ByteArray)(j:Int)(l:List EX):(EX.mk i s j l).i=i:=rfl
def mk_s(i:Int)(s:ByteArray)(j:Int)(l:List EX):(EX.mk i s j l).s=s:=rfl
def mk_j(i:Int)(s:ByteArray)(j:Int)(l:List EX):(EX.mk i s j l).j=j:=rfl
def mk_l(i:Int)(s:ByteArray)(j:Int)(l:List EX):(EX.mk i s j l).l=l:=rfl
def rv_1(lf n:Nat)(b:List VV→EX→Option (VV×Unit))(L:List VV)(a:EX)(v:VV)(ha:b L a=some (v,()))(i:Int)(s:ByteArray)(j:Int)(c:Bool)(e f:ByteArray)(d:Bool)(g h:ByteArray):
  aQ.l0 lf b L i s j [a] c e f d g h (n+2) 0 []=some (([v],()),()):=by
 rw[aQ.l0,aQ.r0,show decide ((0:Int) < (([a]:List EX).length:Nat))=true from rfl,ff,idx0,fa,EX.eta,ha,fa,apLe _ _ _ ω ψ,fa,show i64.wrap ((0:Int)+1)=1 from δ,
  aQ.l0,aQ.r0,show decide ((1:Int) < (([a]:List EX).length:Nat))=false from rfl,fe]
 rfl
def rv_2(lf n:Nat)(c:List VV→EX→Option (VV×Unit))(L:List VV)(a b:EX)(v w:VV)(ha:c L a=some (v,()))(hb:c L b=some (w,()))(i:Int)(s:ByteArray)(j:Int)(d:Bool)(f g:ByteArray)(e:Bool)(h k:ByteArray):
  aQ.l0 lf c L i s j [a,b] d f g e h k (n+3) 0 []=some (([v,w],()),()):=by
 rw[aQ.l0,aQ.r0,show decide ((0:Int) < (([a,b]:List EX).length:Nat))=true from rfl,ff,idx0,fa,EX.eta,ha,fa,apLe _ _ _ ω ψ,fa,show i64.wrap ((0:Int)+1)=1 from δ,
  aQ.l0,aQ.r0,show decide ((1:Int) < (([a,b]:List EX).length:Nat))=true from rfl,ff,idx1,fa,EX.eta,hb,fa,apLe _ _ _ ω ψ,fa,show i64.wrap ((1:Int)+1)=2 from δ,
  aQ.l0,aQ.r0,show decide ((2:Int) < (([a,b]:List EX).length:Nat))=false from rfl,fe]
 rfl
def ri_1(lf n:Nat)(d:List VV→EX→VV→Option (List VV×Bool×Unit))(L:List VV)(a:EX)(v:VV)(ha:aQ.f lf L a=some (v,()))(i:Int)(s:ByteArray)(j:Int)(b:Bool)(e g:ByteArray)(c:Bool)(h k:ByteArray):
  aF.l0 lf d L i s j [a] b e g c h k (n+2) 0 []=some (([v],()),()):=by
 rw[aF.l0,aF.r0,show decide ((0:Int) < (([a]:List EX).length:Nat))=true from rfl,ff,idx0,fa,EX.eta,ha,fa,apLe _ _ _ ω ψ,fa,show i64.wrap ((0:Int)+1)=1 from δ,
  aF.l0,aF.r0,show decide ((1:Int) < (([a]:List EX).length:Nat))=false from rfl,fe]
 rfl
def ri_2(lf n:Nat)(e:List VV→EX→VV→Option (List VV×Bool×Unit))(L:List VV)(a b:EX)(v w:VV)(ha:aQ.f lf L a=some (v,()))(hb:aQ.f lf L b=some (w,()))(i:Int)(s:ByteArray)(j:Int)(c:Bool)(g h:ByteArray)(d:Bool)(k l:ByteArray):
  aF.l0 lf e L i s j [a,b] c g h d k l (n+3) 0 []=some (([v,w],()),()):=by
 rw[aF.l0,aF.r0,show decide ((0:Int) < (([a,b]:List EX).length:Nat))=true from rfl,ff,idx0,fa,EX.eta,ha,fa,apLe _ _ _ ω ψ,fa,show i64.wrap ((0:Int)+1)=1 from δ,
  aF.l0,aF.r0,show decide ((1:Int) < (([a,b]:List EX).length:Nat))=true from rfl,ff,idx1,fa,EX.eta,hb,fa,apLe _ _ _ ω ψ,fa,show i64.wrap ((1:Int)+1)=2 from δ,
  aF.l0,aF.r0,show decide ((2:Int) < (([a,b]:List EX).length:Nat))=false from rfl,fe]
 rfl
def rj_1(lf n:Nat)(b:List VV→EX→VV→Option (List VV×Bool×Unit))(L:List VV)(a:EX)(w:VV)(x:List VV×Bool×Unit)(h:b L a w=some x)(i:Int)(s:ByteArray)(j:Int):
  aF.l2 lf b i s j [a] [w] (n+2) L true 0=some (x,()):=by
 rw[aF.l2,aF.r2,show decide ((0:Int) < (([a]:List EX).length:Nat))=true from rfl,ff,ff,idx0,fa,show idxB ([w]:List VV).length 0=some 0 from rfl,fa,show([w]:List VV)[0]? = some w from rfl,fa,EX.eta,h,fa,
  show i64.wrap ((0:Int)+1)=1 from δ,aF.l2,aF.r2,show decide ((1:Int) < (([a]:List EX).length:Nat))=false from rfl,fe]
def rj_2(lf n:Nat)(d:List VV→EX→VV→Option (List VV×Bool×Unit))(L:List VV)(a b:EX)(w y:VV)(x:List VV×Bool×Unit)(h:d L a w=some x)(i:Int)(s:ByteArray)(j:Int)(q:List VV)(e:Bool)(l m:ByteArray)(f:Bool)(o p:ByteArray)(g:Bool)(t u:ByteArray)(k:Bool)(v z:ByteArray):
  aF.l1 lf d i s j [a,b] q e l m f o p g t u k v z [w,y] (n+3) L true 0=br x.2.1 (bd (d x.1 b y) fun c=>some ((c.1,c.2.1,()),())) (some ((x.1,x.2.1,()),())):=by
 rw[aF.l1,aF.r1,show decide ((0:Int) < (([a,b]:List EX).length:Nat))=true from rfl,ff,ff,idx0,fa,show idxB ([w,y]:List VV).length 0=some 0 from rfl,fa,show([w,y]:List VV)[0]? = some w from rfl,fa,EX.eta,h,fa,
  show i64.wrap ((0:Int)+1)=1 from δ,aF.l1,aF.r1,show decide ((1:Int) < (([a,b]:List EX).length:Nat))=true from rfl,ff,idx1,fa,show idxB ([w,y]:List VV).length 1=some 1 from rfl,fa,show([w,y]:List VV)[1]? = some y from rfl,fa,EX.eta]
 congr 1;congr 1
 funext r
 rw[show i64.wrap ((1:Int)+1)=2 from δ,aF.l1,aF.r1,show decide ((2:Int) < (([a,b]:List EX).length:Nat))=false from rfl,fe]
def xA:∀ {n k:Nat} {e:EX},RE n k e→∀ {vs:List Vl},WfE vs→vs.length=n→∃ v,WfV v∧∀ lf,Big lf→∀ m,k≤m→bn.f (lf+m) (vs.map vc) e=some (vc v,())∧aQ.f (lf+m) (vs.map vc) e=some (vc v,()):=by
 intro n k e h
 induction h with
 | num k z F =>
  intro vs hw hn;have D:=fO;obtain⟨x,p⟩:=bigE;refine⟨oneV z,ajw x p z,fun lf hb m r=>?_⟩;obtain⟨m,rfl⟩:∃ q,m=q+1:=⟨m-1,ω⟩
  have c:=hb.more m;constructor
  ·show bn.fb (lf+m) (bn.f (lf+m)) _ _=_;rw[bn.fb];simp only[mk_i,mk_s,show((0:Int)==0)=true from rfl,ff,aco.f,akd (lf+m) c (z:=z) ω,dX.f,fa]
  ·show aQ.fb (lf+m) (aQ.f (lf+m)) _ _=_;rw[aQ.fb];simp only[mk_i,mk_s,show((0:Int)==0)=true from rfl,ff,ake (lf+m) c (z:=z) ω,fa]
 | var k i E =>
  intro vs hw hn;have j:i < vs.length:=ω;refine⟨vs[i],hw.v _ (qD j),fun lf hb m r=>?_⟩;obtain⟨m,rfl⟩:∃ q,m=q+1:=⟨m-1,ω⟩
  have y:idxL (vs.map vc) (i:Int)=some (vc vs[i]):=by
   unfold idxL;rw[gT ω,vm,yz,zP j];rfl
  constructor
  ·show bn.fb (lf+m) (bn.f (lf+m)) _ _=_;rw[bn.fb];simp only[mk_i,mk_j,show((1:Int)==0)=false from rfl,show((1:Int)==1)=true from rfl,ff,fe,y,fa]
  ·show aQ.fb (lf+m) (aQ.f (lf+m)) _ _=_;rw[aQ.fb];simp only[mk_i,mk_j,show((1:Int)==0)=false from rfl,show((1:Int)==1)=true from rfl,ff,fe,y,fa]
 | neg k a _ C =>
  intro vs hw hn;obtain⟨v,hv,h⟩:=C hw hn;refine⟨negV v,agU hv,fun lf hb m r=>?_⟩;obtain⟨m,rfl⟩:∃ q,m=q+1:=⟨m-1,ω⟩
  have c:=hb.more m;obtain⟨l,o⟩:=h lf hb m ω;constructor
  ·show bn.fb (lf+m) (bn.f (lf+m)) _ _=_;rw[bn.fb];simp only[mk_i,mk_l,show((2:Int)==0)=false from rfl,show((2:Int)==1)=false from rfl,show((2:Int)==2)=true from rfl,ff,fe,idx0,fa,EX.eta,l,agV (lf+m) c hv,dX.f]
  ·show aQ.fb (lf+m) (aQ.f (lf+m)) _ _=_;rw[aQ.fb];simp only[mk_i,mk_s,mk_j,mk_l,show((2:Int)==0)=false from rfl,show((2:Int)==1)=false from rfl,show((2:Int)==2)=true from rfl,ff,fe,rv_1 (lf+m) (lf+m+38) _ _ a _ o,fa];rw[show idxB ([vc v]:List VV).length 0=some 0 from rfl,fa,show([vc v]:List VV)[0]? = some (vc v) from rfl,fa,ad9 (lf+m) c hv,fa]
 | bin k op a b s _ _ t u =>
  intro vs hw hn;obtain⟨v,hv,h⟩:=t hw hn;obtain⟨w,d,g⟩:=u hw hn;refine⟨opV op v w,wI hv d s,fun lf hb m r=>?_⟩;obtain⟨m,rfl⟩:∃ q,m=q+1:=⟨m-1,ω⟩
  have c:=hb.more m;obtain⟨l,o⟩:=h lf hb m ω;obtain⟨A,B⟩:=g lf hb m ω;have c0:(op==0)=false:=by rw[beq_eq_false_iff_ne];omega
  have c1:(op==1)=false:=by rw[beq_eq_false_iff_ne];omega
  have c2:(op==2)=false:=by rw[beq_eq_false_iff_ne];omega
  constructor
  ·show bn.fb (lf+m) (bn.f (lf+m)) _ _=_;rw[bn.fb];simp only[mk_i,mk_l,c0,c1,c2,ff,fe,idx0,idx1,fa,EX.eta,l,A,adz (lf+m) c hv d s,dX.f]
  ·show aQ.fb (lf+m) (aQ.f (lf+m)) _ _=_;rw[aQ.fb];simp only[mk_i,mk_s,mk_j,mk_l,c0,c1,c2,ff,fe,rv_2 (lf+m) (lf+m+37) _ _ a b _ _ o B,fa];rw[show idxB ([vc v,vc w]:List VV).length 0=some 0 from rfl,fa,show([vc v,vc w]:List VV)[0]? = some (vc v) from rfl,fa,show idxB ([vc v,vc w]:List VV).length 1=some 1 from rfl,fa,show([vc v,vc w]:List VV)[1]? = some (vc w) from rfl,fa,adA (lf+m) c hv d s,fa]
def resI:Option (List Vl)→List VV×Bool×Unit
 | some ws=>(ws.map vc,true,())
 | none=>([],false,())
def Good(n:Nat)(r:Option (List Vl)):Prop:=∀ ws,r=some ws→WfE ws∧ws.length=n
def ahP(lf:Nat){vs:List Vl}(hw:WfE vs){i:Nat}(c:i < vs.length){w:Vl}(hv:WfV w):
  jo.f lf (vs.map vc) (i:Int) (vc w)=some (resI (if w.a.em=true then none else some (vs.set i w)))∧kV.f lf (vs.map vc) (i:Int) (vc w)=some (resI (if w.a.em=true then none else some (vs.set i w)))∧Good vs.length (if w.a.em=true then none else some (vs.set i w)):=by
 have em:(vc w).1.1=w.a.em:=rfl;have hl:=hw.len;rw[jo.f,kV.f,dM.f,fa,em];cases e:w.a.em with
 | true=>simp only[ff,if_true];exact⟨rfl,rfl,nofun⟩
 | false =>
  have d:apL true 80 [] (vs.map vc)=some (vs.map vc):=by
   have:=apLe 80 [] (vs.map vc) ω (by simp;omega)
   rwa [vv]at this
  have g:idxB (vs.map vc).length (i:Int)=some i:=ib (by simpa using c);have j:upE (vs.map vc) i (fun _=>some (vc w))=some ((vs.set i w).map vc):=by
   unfold upE;rw[yz,zP c];simp only[wj,List.map_set]
  simp only[fe,d,fa,g,j,if_false,zg,gP (show 0 < (vs.map vc).length by simp;omega),ff];refine⟨?_,rfl,fun ws h=>?_⟩
  ·rfl
  ·cases h;refine⟨⟨fun v b=>?_,fun v b=>?_,by simpa using hl⟩,ψ⟩
   ·rcases sC b with h | rfl
    ·exact hw.v v h
    ·exact hv
   ·rcases sC b with h | rfl
    ·exact hw.ne v h
    ·exact e
def agB:∀ {n k:Nat} {e:EX},RE n k e→∀ {vs:List Vl},WfE vs→vs.length=n→∀ {v:Vl},WfV v→∃ r,Good n r∧∀ lf,Big lf→∀ m,k+1≤m→
  bC.f (lf+m) (vs.map vc) e (vc v)=some (resI r)∧aF.f (lf+m) (vs.map vc) e (vc v)=some (resI r):=by
 intro n k e h
 induction h with
 | num k z V =>
  intro vs hw hn v hv;obtain⟨u,g,d⟩:=xA (.num (n:=n) k z V) hw hn;have s:=vW hv g;refine⟨if(metV v u).a.em=true then none else some vs,?_,fun lf hb m s=>?_⟩
  ·intro ws h;split at h
   ·cases h
   ·cases h;exact⟨hw,hn⟩
  obtain⟨m,rfl⟩:∃ q,m=q+1:=⟨m-1,ω⟩
  have c:=hb.more m;obtain⟨A,B⟩:=d lf hb m ω;have em:(vc (metV v u)).1.1=(metV v u).a.em:=rfl;constructor
  ·show bC.fb (lf+m) (bC.f (lf+m)) _ _ _=_;rw[bC.fb];simp only[EX.eta,A,fa,tX (lf+m) c hv g,dX.f,em];cases (metV v u).a.em with
   | true=>simp only[ff,if_true];rfl
   | false=>simp only[mk_i,fe,show((0:Int)==0)=true from rfl,ff,if_false,zg];rfl
  ·show aF.fb (lf+m) (aF.f (lf+m)) _ _ _=_;rw[aF.fb];simp only[EX.eta,B,fa,tY (lf+m) c hv g,dM.f,em];cases (metV v u).a.em with
   | true=>simp only[ff,if_true];rfl
   | false=>simp only[mk_i,fe,show((0:Int)==0)=true from rfl,ff,if_false,zg];rfl
 | var k i U =>
  intro vs hw hn v hv;obtain⟨u,g,d⟩:=xA (.var (n:=n) k i U) hw hn;have j:=vW hv g;refine⟨if(metV v u).a.em=true then none else some (vs.set i (metV v u)),?_,fun lf hb m s=>?_⟩
  ·have:=(ahP 0 hw (i:=i) ω j).2.2
   rwa [hn]at this
  obtain⟨m,rfl⟩:∃ q,m=q+1:=⟨m-1,ω⟩
  have c:=hb.more m;obtain⟨A,B⟩:=d lf hb m ω;obtain⟨D,E,_⟩:=ahP (lf+m) hw (i:=i) ω j;have em:(vc (metV v u)).1.1=(metV v u).a.em:=rfl;constructor
  ·show bC.fb (lf+m) (bC.f (lf+m)) _ _ _=_;rw[bC.fb];simp only[EX.eta,A,fa,tX (lf+m) c hv g,dX.f,em];cases e:(metV v u).a.em with
   | true=>simp only[ff,if_true];rfl
   | false =>
    rw[e]at D;simp only[mk_i,mk_j,fe,show((1:Int)==0)=false from rfl,show((1:Int)==1)=true from rfl,ff,D,fa]
  ·show aF.fb (lf+m) (aF.f (lf+m)) _ _ _=_;rw[aF.fb];simp only[EX.eta,B,fa,tY (lf+m) c hv g,dM.f,em];cases e:(metV v u).a.em with
   | true=>simp only[ff,if_true];rfl
   | false =>
    rw[e]at E;simp only[mk_i,mk_j,fe,show((1:Int)==0)=false from rfl,show((1:Int)==1)=true from rfl,ff,E,fa]
 | neg k a ha W =>
  intro vs hw hn v hv;obtain⟨u,g,d⟩:=xA (.neg (n:=n) k a ha) hw hn;obtain⟨p,o,x⟩:=xA ha hw hn;have j:=vW hv g;obtain⟨r,H,L⟩:=W hw hn (agU j);refine⟨if(metV v u).a.em=true then none else r,?_,fun lf hb m s=>?_⟩
  ·intro ws h;split at h
   ·cases h
   ·exact H ws h
  obtain⟨m,rfl⟩:∃ q,m=q+1:=⟨m-1,ω⟩
  have c:=hb.more m;obtain⟨A,B⟩:=d lf hb m ω;obtain⟨R,F⟩:=x lf hb m ω;obtain⟨r1,r2⟩:=L lf hb m ω;have em:(vc (metV v u)).1.1=(metV v u).a.em:=rfl;constructor
  ·show bC.fb (lf+m) (bC.f (lf+m)) _ _ _=_;rw[bC.fb];simp only[EX.eta,A,fa,tX (lf+m) c hv g,dX.f,em];cases (metV v u).a.em with
   | true=>simp only[ff,if_true];rfl
   | false=>simp only[mk_i,mk_l,fe,show((2:Int)==0)=false from rfl,show((2:Int)==1)=false from rfl,show((2:Int)==2)=true from rfl,ff,idx0,fa,agV (lf+m) c j,EX.eta,r1,if_false,zg]
  ·show aF.fb (lf+m) (aF.f (lf+m)) _ _ _=_;rw[aF.fb];simp only[EX.eta,B,fa,tY (lf+m) c hv g,dM.f,em];cases (metV v u).a.em with
   | true=>simp only[ff,if_true];rfl
   | false =>
    simp only[mk_i,mk_s,mk_j,mk_l,fe,show((2:Int)==0)=false from rfl,show((2:Int)==1)=false from rfl,show((2:Int) != 2)=false from rfl,ri_1 (lf+m) (lf+m+38) _ _ a _ F,fa,ad9 (lf+m) c j,if_false,zg];rw[rj_1 (lf+m) (lf+m+38) _ _ a _ _ r2,fa]
 | bin k op a b K ha c O P =>
  intro vs hw hn v hv;obtain⟨u,g,d⟩:=xA (.bin (n:=n) k op a b K ha c) hw hn;obtain⟨p,o,x⟩:=xA ha hw hn;obtain⟨y,w,N⟩:=xA c hw hn;have j:=vW hv g;obtain⟨Q,J⟩:=bigE;obtain⟨p1,p2⟩:=ajA Q J j o w (op:=op);obtain⟨r,H,L⟩:=O hw hn p1;have c0:(op==0)=false:=by rw[beq_eq_false_iff_ne];omega
  have c1:(op==1)=false:=by rw[beq_eq_false_iff_ne];omega
  have c2:(op==2)=false:=by rw[beq_eq_false_iff_ne];omega
  have G:(op != 2)=true:=by rw[bne_iff_ne];omega
  have em:(vc (metV v u)).1.1=(metV v u).a.em:=rfl;obtain⟨t,I,M⟩:∃ t:Option (List Vl),Good n t∧∀ lf,Big lf→∀ m,k+1≤m→
    (br (!(resI r).2.1) (some ([],false,())) (bd (bC.f (lf+m) (resI r).1 b (vc (parV op (metV v u) p y).2)) fun r17=>some (r17.1,r17.2.1,())))=some (resI t)∧
    (br (resI r).2.1 (bd (aF.f (lf+m) (resI r).1 b (vc (parV op (metV v u) p y).2)) fun C=>some ((C.1,C.2.1,()),())) (some (((resI r).1,(resI r).2.1,()),())))=some (resI t,()):=by
   cases r with
   | none=>exact⟨none,nofun,fun lf hb m s=>⟨by simp only[resI,zj,ff],by simp only[resI,fe]⟩⟩
   | some ws =>
    obtain⟨D,E⟩:=H ws rfl;obtain⟨t,I,M⟩:=P D E p2;refine⟨t,I,fun lf hb m s=>?_⟩;obtain⟨t1,t2⟩:=M lf hb m s;exact⟨by simp only[resI,ze,fe,t1,fa],by simp only[resI,ff,t2,fa]⟩
  refine⟨if(metV v u).a.em=true then none else t,?_,fun lf hb m s=>?_⟩
  ·intro ws h;split at h
   ·cases h
   ·exact I ws h
  obtain⟨m,rfl⟩:∃ q,m=q+1:=⟨m-1,ω⟩
  have l:=hb.more m;obtain⟨A,B⟩:=d lf hb m ω;obtain⟨R,F⟩:=x lf hb m ω;obtain⟨S,T⟩:=N lf hb m ω;obtain⟨r1,r2⟩:=L lf hb m ω;obtain⟨t1,t2⟩:=M lf hb m ω;constructor
  ·show bC.fb (lf+m) (bC.f (lf+m)) _ _ _=_;rw[bC.fb];simp only[EX.eta,A,fa,tX (lf+m) l hv g,dX.f,em];cases (metV v u).a.em with
   | true=>simp only[ff,if_true];rfl
   | false =>
    simp only[mk_i,mk_l,fe,c0,c1,c2,idx0,idx1,fa,EX.eta,R,S,aij (lf+m) l j o w K,r1,if_false,zg];exact t1
  ·show aF.fb (lf+m) (aF.f (lf+m)) _ _ _=_;rw[aF.fb];simp only[EX.eta,B,fa,tY (lf+m) l hv g,dM.f,em];cases (metV v u).a.em with
   | true=>simp only[ff,if_true];rfl
   | false =>
    simp only[mk_i,mk_s,mk_j,mk_l,fe,ff,c0,c1,G,ri_2 (lf+m) (lf+m+37) _ _ a b _ _ F T,fa,ad9 (lf+m) l j,if_false,zg];rw[show idxB ([vc p,vc y]:List VV).length 0=some 0 from rfl,fa,show([vc p,vc y]:List VV)[0]? = some (vc p) from rfl,fa,show idxB ([vc p,vc y]:List VV).length 1=some 1 from rfl,fa,show([vc p,vc y]:List VV)[1]? = some (vc y) from rfl,fa,aik (lf+m) l j o w K,fa];rw[rj_2 (lf+m) (lf+m+37) _ _ a b _ _ _ r2,t2,fa]
def chs2{β:Type}(x:β):chs [some x,some x]=some x:=chs_of ψ ψ
def resF(r:Option (List Vl)):List VV×Bool×Int×Unit:=((resI r).1,(resI r).2.1,0,())
def ahg(lf:Nat){n:Nat}{r:Option (List Vl)}(h:Good n r):kS.f lf (resI r).1 (resI r).2.1=some (resF r):=by
 cases r with
 | none=>rw[kS.f];simp only[resI,zj,ff];rfl
 | some ws =>
  obtain⟨w,_⟩:=h ws rfl;have hl:=w.len;have b:apL true 80 [] (ws.map vc)=some (ws.map vc):=by
   have:=apLe 80 [] (ws.map vc) ω (by simp;omega)
   rwa [vv]at this
  show kS.f lf (ws.map vc) true=some (resF (some ws));rw[kS.f];simp only[ze,fe,b,fa];by_cases g:0 < (ws.map vc).length
  ·rw[gP g,ff];rfl
  ·have:ws.map vc=[]:=by
    cases h:ws.map vc with
    | nil=>rfl
    | cons a l=>rw[h]at g;simp at g
   rw[gO g,fe,this,chs2];unfold resF resI;simp only[this]
def agu{n:Nat}{r:Option (List Vl)}(h:Good n r):(resF r).1.length≤1000:=by
 cases r with
 | none=>simp[resF,resI]
 | some ws=>have:=(h ws rfl).1.len;simp[resF,resI];omega
section
variable (lf:Nat)(hb:Big lf)
include hb
end
def Bigx(lf:Nat):Prop:=Big (lf-100)∧100≤lf
def Bigx.big{lf:Nat}(h:Bigx lf):Big lf:=by
 have:=h.1.more 100
 rwa [mL h.2]at this
def bigX:∃ lf,Bigx lf:=by
 obtain⟨lf,h⟩:=bigE;exact⟨lf+100,by rwa [Nat.add_sub_cancel],ω⟩
section
variable (lf:Nat)(hx:Bigx lf)
include hx
theorem agC{n:Nat}{e:EX}(h:RE n 25 e){vs:List Vl}(hw:WfE vs)(hn:vs.length=n){v:Vl}(hv:WfV v):∃ r,Good n r∧bC.f lf (vs.map vc) e (vc v)=some (resI r)∧aF.f lf (vs.map vc) e (vc v)=some (resI r):=by
 obtain⟨r,a,k⟩:=agB h hw hn hv;have:=k (lf-100) hx.1 100 ω;rw[mL hx.2]at this;exact⟨r,a,this⟩
end
def agA(lf:Nat)(hx:Bigx lf){l:List VV}(hs:∀ x∈l,SmV x)(hl:l.length≤40){a:EX}(ha:cnt a≤80∧dep a≤25∧txt a){v:VV}(hv:SmV v):
  ∃ r,rG.f lf l a v=some r∧lD.f lf l a v=some r∧r.1.length≤1000:=by
 have hb:=hx.big;obtain⟨e,i,j,k⟩:=chkE lf hb hs hl;have m:2000≤lf:=by have:=hb.1;omega
 rw[rG.f,lD.f,oq.f,i,j,fa,fa];by_cases h:e=0
 ·simp only[h,bne_self_eq_false,fe];obtain⟨vs,rfl,hw⟩:=k h;obtain⟨x,n,o,p⟩:=ahW lf m ha (vs.map vc).length;simp only[EX.eta,n,o,fa];by_cases b:x=0
  ·simp only[b,bne_self_eq_false,fe];obtain⟨y,q,s,t⟩:=chkV lf hb hv;simp only[q,s,fa];by_cases c:y=0
   ·simp only[c,bne_self_eq_false,fe];obtain⟨w,rfl,d⟩:=t c;have r1:=(p b).2;rw[List.length_map]at r1;obtain⟨r,g,t1,t2⟩:=agC lf hx r1 hw rfl d;simp only[t1,t2,fa];rw[ahg lf g,fa];exact⟨resF r,rfl,rfl,agu g⟩
   ·simp only[bneT c,ff];exact⟨_,rfl,rfl,ψ⟩
  ·simp only[bneT b,ff];exact⟨_,rfl,rfl,ψ⟩
 ·simp only[bneT h,ff,fa];exact⟨_,rfl,rfl,ψ⟩
open Go Go.Q
def ahS(m:Nat):jb.f (m+1000)=some (true,()):=θ
def awakeX{lf:Nat}(h:1000≤lf):jb.f lf=some (true,()):=by
 have:=ahS (lf-1000)
 rwa [mL h]at this
end Go.N
namespace Go.Q
open Go Go.RowKit Go.ChangeShapes Go.WideShapes
def flat:Ty→Bool
 | .sl _=>false
 | .rc _=>false
 | .pair a b=>flat a&&flat b
 | _=>true
def partsOf(P:Program)(t:TypeId):List (TypeId×Nat):=match P.underlying t with
 | some (.struct fs)=>fs.toList.map fun f=>(f.type,f.offset)
 | some (.array n e)=>(List.range n).map fun i=>(e,i*P.cellsOf e)
 | _=>[]
def isSlT(P:Program)(u e:TypeId):Bool:=match P.underlying u with
 | some (.slice e')=>decide (e'=e)
 | _=>false
def adq(P:Program)(u:TypeId):Bool:=match P.underlying u with
 | some (.int k)=>decide (k=.i64)
 | _=>false
def isStr(P:Program)(u:TypeId):Bool:=match P.underlying u with
 | some .string=>true
 | _=>false
def fitX(P:Program)(t:TypeId):Bool:=match partsOf P t with
 | [a,b,c,d]=>decide (P.cellsOf t=4∧a.2=0∧b.2=1∧c.2=2∧d.2=3∧P.cellsOf a.1=1∧P.cellsOf b.1=1∧P.cellsOf c.1=1∧P.cellsOf d.1=1)&&(adq P a.1&&(isStr P b.1&&(adq P c.1&&isSlT P d.1 t)))
 | _=>false
def fitY(P:Program)(t:TypeId):Bool:=match partsOf P t with
 | [a,b,c]=>decide (P.cellsOf t=3∧a.2=0∧b.2=1∧c.2=2∧P.cellsOf a.1=1∧P.cellsOf b.1=1∧P.cellsOf c.1=1)&&(adq P a.1&&((match P.underlying b.1 with
   | some (.slice e)=>fitX P e
   | _=>false)&&isSlT P c.1 t))
 | _=>false
mutual
def fitT(P:Program):Ty→TypeId→Bool
 | .int k,t=>match P.underlying t with
  | some (.int k')=>decide (k'=k)
  | _=>false
 | .bool,t=>match P.underlying t with
  | some .bool=>true
  | _=>false
 | .str,t=>match P.underlying t with
  | some .string=>true
  | _=>false
 | .unit,_=>false
 | .nul,_=>false
 | .rc c,t=>bif c then fitY P t else fitX P t
 | .pair a b,t=>match partsOf P t with
  | p::r=>p.2==0&&(fitT P a p.1&&(P.cellsOf p.1==a.n&&(fitL P b r a.n&&P.cellsOf t==a.n+b.n)))
  | []=>false
 | .sl e,t=>match P.underlying t with
  | some (.slice e')=>fitT P e e'&&(flat e&&P.cellsOf e'==e.n)
  | _=>false
def fitL(P:Program):Ty→List (TypeId×Nat)→Nat→Bool
 | .unit,l,_=>match l with
  | []=>true
  | _=>false
 | .pair a b,l,k=>match l with
  | p::r=>p.2==k&&(fitT P a p.1&&(P.cellsOf p.1==a.n&&fitL P b r (k+a.n)))
  | []=>false
 | _,_,_=>false
end
def Bnd:(T:Ty)→T.α→Prop
 | .int k,x=>k.min≤x∧x≤k.max
 | .str,x=>x.size≤9223372036854775807
 | .pair a b,x=>Bnd a x.1∧Bnd b x.2
 | .sl e,l=>l.length≤9223372036854775807∧∀ y∈l,Bnd e y
 | _,_=>True
def Bnds:(ps:List Ty)→Tys ps→Prop
 | [],_=>True
 | t::ts,x=>Bnd t x.1∧Bnds ts x.2
section
variable {H:Type}{enc:TypeId×Value→H}{P:Program}{w:World}{F:Nat→Prop}{sp:Nat→Bool}{held:Bool}
def xw{t:TypeId}{a:Nat}{j:List Value}{x:DataW H×List MemPlace}(o:partsOf P t≠[])(h:DataW.trod enc P w 0 sp held a t j=some x):
  j.length=P.cellsOf t∧∃ n,a=n+1∧∀ p∈partsOf P t,∃ y,DataW.trod enc P w 0 sp held n p.1 ((j.drop p.2).take (P.cellsOf p.1))=some y:=by
 unfold partsOf at o⊢;split at o
 ·rename_i r q;obtain⟨xs,n,b,_,hl,d,k⟩:=DataW.trod_struct q h;refine⟨hl,n,b,fun p c=>?_⟩;simp only[yy]at c;obtain⟨f,l,rfl⟩:=c;obtain⟨i,g,v⟩:=pQ.1 l;have s:r[i]? = some f:=by
   have:r.toList[i]? = some f:=by rw[zP g,v]
   simpa using this
  have u:i < xs.length:=by
   rw[d];simpa using g
  exact⟨xs[i],by rw[k i f s,zP u]⟩
 ·rename_i n e q;obtain⟨xs,m,b,_,hl,d,k⟩:=DataW.trod_array q h;refine⟨hl,m,b,fun p c=>?_⟩;simp only[yy,List.mem_range]at c;obtain⟨i,g,rfl⟩:=c;exact⟨xs[i],by rw[k i g,zP ω]⟩
 ·exact absurd rfl o
mutual
theorem uo:∀ (T:Ty) (t:TypeId) (d:List Value) (x:DataW H×List MemPlace) (c:Nat),flat T=true→fitT P T t=true→DataW.trod enc P w 0 sp held c t d=some x→∃ y:T.α,DR F w T y d∧Bnd T y
 | .int k,t,d,x,c,_,hf,h=>by
  unfold fitT at hf;split at hf
  ·rename_i E f;obtain rfl:E=k:=by simpa using hf
   obtain⟨n,rfl,_,hw⟩:=DataW.trod_int f h;exact⟨n,rfl,by simpa [Lit.wf,Bnd]using hw⟩
  ·cases hf
 | .bool,t,d,x,c,_,hf,h=>by
  unfold fitT at hf;split at hf
  ·rename_i f;obtain⟨b,rfl,_⟩:=DataW.trod_bool f h;exact⟨b,rfl,trivial⟩
  ·cases hf
 | .str,t,d,x,c,_,hf,h=>by
  unfold fitT at hf;split at hf
  ·rename_i f;obtain⟨s,rfl,_,hs⟩:=DataW.trod_string f h;exact⟨s,rfl,by simpa [maxLen,Bnd]using hs⟩
  ·cases hf
 | .unit,t,d,x,c,_,hf,h=>by simp[fitT]at hf
 | .nul,t,d,x,c,_,hf,h=>by simp[fitT]at hf
 | .rc _,t,d,x,c,hfl,_,h=>by simp[flat]at hfl
 | .sl e,t,d,x,c,hfl,_,_=>by simp[flat]at hfl
 | .pair a b,t,d,x,c,hfl,hf,h=>by
  unfold fitT at hf;split at hf
  ·rename_i p r j;simp only[zm,beq_iff_eq]at hf;obtain⟨A,B,C,h3,G⟩:=hf;simp only[flat,zm]at hfl;obtain⟨hl,n,_,i⟩:=xw (by rw[j];simp) h;rw[j]at i;obtain⟨I,g⟩:=i p ψ;rw[A,C]at g;obtain⟨u,o,l⟩:=uo a p.1 _ _ n hfl.1 B g;obtain⟨v,z,m⟩:=adh b r a.n d n hfl.2 h3 (fun q D=>i q (by simp[D])) ω;refine⟨(u,v),⟨_,_,?_,o,z⟩,l,m⟩;have e:(d.drop a.n).take b.n=d.drop a.n:=uW (by rw[vu];omega);rw[e];simp
  ·cases hf
theorem adh:∀ (T:Ty) (l:List (TypeId×Nat)) (k:Nat) (c:List Value) (n:Nat),flat T=true→fitL P T l k=true→(∀ p∈l,∃ y,DataW.trod enc P w 0 sp held n p.1 ((c.drop p.2).take (P.cellsOf p.1))=some y)→k+T.n≤c.length→∃ y:T.α,DR F w T y ((c.drop k).take T.n)∧Bnd T y
 | .int k',l,k,c,n,_,hf,_,_=>by simp[fitL]at hf
 | .bool,l,k,c,n,_,hf,_,_=>by simp[fitL]at hf
 | .str,l,k,c,n,_,hf,_,_=>by simp[fitL]at hf
 | .nul,l,k,c,n,_,hf,_,_=>by simp[fitL]at hf
 | .rc _,l,k,c,n,_,hf,_,_=>by simp[fitL]at hf
 | .sl _,l,k,c,n,_,hf,_,_=>by simp[fitL]at hf
 | .unit,l,k,c,n,_,hf,_,_=>⟨(),by simp[DR,Ty.n],trivial⟩
 | .pair a b,l,k,c,n,hfl,hf,hm,hk=>by
  unfold fitL at hf;split at hf
  ·rename_i p r;simp only[zm,beq_iff_eq]at hf;obtain⟨i,j,m,h3⟩:=hf;simp only[flat,zm]at hfl;simp only[Ty.n]at hk;obtain⟨s,d⟩:=hm p ψ;rw[i,m]at d;obtain⟨u,g,e⟩:=uo a p.1 _ _ n hfl.1 j d;obtain⟨v,h,f⟩:=adh b r (k+a.n) c n hfl.2 h3 (fun q o=>hm q (by simp[o])) ω;refine⟨(u,v),⟨_,_,?_,g,h⟩,e,f⟩;simp only[Ty.n];rw[List.take_add,m5]
  ·cases hf
end
def aaJ{α:Type}{R:Nat→α→Prop}:∀ (n:Nat),(∀ i,i < n→∃ y,R i y)→∃ l:List α,l.length=n∧∀ (i:Nat) (y:α),l[i]? = some y→R i y
 | 0,_=>⟨[],rfl,fun i y h=>by simp at h⟩
 | n+1,h=>by
  obtain⟨l,hl,d⟩:=aaJ n fun i b=>h i ω;obtain⟨y,hy⟩:=h n ω;refine⟨l++[y],by simp[hl],fun i z a=>?_⟩;by_cases b:i < l.length
  ·rw[List.getElem?_append_left b]at a;exact d i z a
  ·rw[List.getElem?_append_right ω]at a;have:i=l.length:=by
    by_cases e:i-l.length=0
    ·omega
    ·obtain⟨q,c⟩:=Nat.exists_eq_succ_of_ne_zero e;rw[c]at a;simp at a
   subst this;simp only[Nat.sub_self,List.getElem?_cons_zero,y8.injEq]at a;subst a;rw[hl];exact hy
def topS:Ty→Bool
 | .rc _=>true
 | .sl e=>flat e
 | .pair a b=>topS a&&topS b
 | T=>flat T
def topOK:Ty→Bool
 | .sl e=>flat e
 | T=>topS T
def vZ(b o n:Nat):(Addr.add ⟨b,o,none⟩ n)=⟨b,o+n,none⟩:=by
 unfold Addr.add;split
 ·rename_i h;rw[h];rfl
 ·rfl
def abR{i:Nat}{q:TypeId×Nat}(h:w.shape? i=some q):IsC w i:=by
 unfold World.shape? at h;unfold IsC;cases hb:w.heap[i]? with
 | none=>rw[hb]at h;simp at h
 | some o=>cases o<;>rw[hb]at h<;>simp_all
def SlOK(w:World)(v:Value):Prop:=∀ a len cap,v=.slice (some a) len cap→a.spot=none∧IsC w a.block
def afR{c:Nat}{u:TypeId}{v:Value}(h:Cell.okWide P w .any c u v):SlOK w v:=by
 rintro a len cap rfl;cases g:P.underlying u with
 | none=>simp[Cell.okWide,Cell.ok,g]at h
 | some d =>
  cases d<;>simp only[Cell.okWide,Cell.ok,g]at h
  case slice e =>
   obtain⟨_,b,i,cells,f,_⟩:=h.2.2;exact⟨b,abR f⟩
def ahV{a:Addr}{v:Value}(h:w.cell? ((a.add 0).add 0)=some v):a.spot=none∧IsC w a.block:=by
 have e:(a.add 0).add 0=a:=by obtain⟨b,o,q⟩:=a;cases q<;>rfl
 rw[e]at h;obtain⟨b,o,q⟩:=a;unfold World.cell? at h;unfold IsC;dsimp only at h⊢;cases hb:w.heap[b]? with
 | none=>rw[hb]at h;simp at h
 | some ob=>cases ob<;>rw[hb]at h<;>simp_all
def acQ(hsp:∀ b,sp b=true){α:Type}{D:α→List Value→Prop}{u e:TypeId}{k p:Nat}{g:List Value}{x:DataW H×List MemPlace}(t:isSlT P u e=true)(K:P.cellsOf e=k)(L:0 < k)
  (O:∀ m g x,m < p→DataW.trod enc P w 0 sp held m e g=some x→∃ y:α,D y g) (h:DataW.trod enc P w 0 sp held p u g=some x) :
  ∃ (v:Value) (l:List α),g=[v]∧((l=[]∧∃ q:Option Addr,v=.slice q 0 0)∨∃ b o cap:Nat,v=.slice (some ⟨b,o,none⟩) l.length cap∧(l≠[]→IsC w b)∧l.length≤cap∧
   ∀ (i:Nat) (x:α),l[i]? = some x→∃ ds:List Value,D x ds∧∀ (j:Nat) (d:Value),ds[j]? = some d→w.cell? ⟨b,o+(i*k+j),none⟩=some d):=by
 unfold isSlT at t;split at t
 case h_2=>cases t
 rename_i z E;obtain rfl:z=e:=by simpa using t
 rcases DataW.trod_slice E h with⟨hc,_⟩ | ⟨a,len,cap,elems,rest,n,hfu,hc,_,_,hle,_,hel,hread,hrest,_⟩
 ·exact⟨_,[],hc,.inl ⟨rfl,none,rfl⟩⟩
 ·subst hc;obtain⟨N,C⟩:=hrest (hsp _);by_cases A:cap=0
  ·subst A;obtain rfl:len=0:=ω;exact⟨_,[],rfl,.inl ⟨rfl,some a,rfl⟩⟩
  ·have I:∃ (cs0:List Value),w.cells? 0 (a.add (0*P.cellsOf z)) (P.cellsOf z)=some cs0:=by
    by_cases B:len=0
    ·subst B;have c:=C 0 ω;rw[zP ω,vB]at c;obtain⟨cs0,c1,_⟩:=c;exact⟨cs0,by simpa using c1⟩
    ·have c:=hread 0 ω;rw[zP ω,vB]at c;obtain⟨cs0,c1,_⟩:=c;exact⟨cs0,c1⟩
   obtain⟨cs0,c1⟩:=I;obtain⟨_,S,F⟩:=World.cells?_some c1;have c:=F 0 ω;rw[Nat.zero_mul,zP ω]at c;obtain⟨f,r⟩:=ahV c;obtain⟨b,o,s⟩:=a;simp only at f r;subst f;obtain⟨l,hl,M⟩:=aaJ (α:=α) (R:=fun i y=>(∃ ds:List Value,D y ds∧∀ (j:Nat) (d:Value),ds[j]? = some d→w.cell? ⟨b,o+(i*k+j),none⟩=some d)) len fun i J=>by
    have c:=hread i J;rw[zP ω,vB]at c;obtain⟨g,c1,c2⟩:=c;obtain⟨y,Q⟩:=O n g _ ω c2;refine⟨y,g,Q,fun j T G=>?_⟩;obtain⟨_,S,F⟩:=World.cells?_some c1;have U:j < g.length:=(y6.1 G).1;have:=F j ω;rw[vZ,vZ,K]at this;rw[←xo,this];exact G
   exact⟨_,l,rfl,.inr ⟨b,o,cap,by rw[hl],fun _=>r,ω,M⟩⟩
def abg{u:TypeId}{a:Nat}{c:List Value}{x:DataW H×List MemPlace}(b:adq P u=true)(h:DataW.trod enc P w 0 sp held a u c=some x):∃ n,c=[.int .i64 n]:=by
 unfold adq at b;split at b
 ·rename_i k d;obtain rfl:k=.i64:=by simpa using b
  obtain⟨n,rfl,_⟩:=DataW.trod_int d h;exact⟨n,rfl⟩
 ·cases b
def ahz{u:TypeId}{a:Nat}{c:List Value}{x:DataW H×List MemPlace}(b:isStr P u=true)(h:DataW.trod enc P w 0 sp held a u c=some x):∃ n,c=[.string n]:=by
 unfold isStr at b;split at b
 ·rename_i d;obtain⟨n,rfl,_⟩:=DataW.trod_string d h;exact⟨n,rfl⟩
 ·cases b
def len4{f:List Value}(h:f.length=4):∃ a b c d,f=[a,b,c,d]:=by
 rcases f with _ | ⟨a,_ | ⟨b,_ | ⟨c,_ | ⟨d,_ | ⟨e,l⟩⟩⟩⟩⟩<;>simp_all
def len3{e:List Value}(h:e.length=3):∃ a b c,e=[a,b,c]:=by
 rcases e with _ | ⟨a,_ | ⟨b,_ | ⟨c,_ | ⟨d,l⟩⟩⟩⟩<;>simp_all
def aeF(hsp:∀ b,sp b=true){t:TypeId}(hx:fitX P t=true):∀ (e:Nat) (cs:List Value) (x:DataW H×List MemPlace),DataW.trod enc P w 0 sp held e t cs=some x→∃ y:EX,DX (IsC w) w (.inl y) cs:=by
 intro e
 induction e using pN with
 | ind e L =>
  intro cs x h;unfold fitX at hx;split at hx
  case h_2=>cases hx
  rename_i a b c d r;simp only[zm,decide_eq_true_eq]at hx;obtain⟨⟨u,z,A,c2,F,B,C,cc,E⟩,M,kb,N,kd⟩:=hx;obtain⟨hl,n,K,f⟩:=xw (by rw[r];simp) h;rw[r]at f;rw[u]at hl;obtain⟨O,Q,R,S,rfl⟩:=len4 hl;obtain⟨T,g⟩:=f a ψ;obtain⟨U,o⟩:=f b ψ;obtain⟨V,p⟩:=f c ψ;obtain⟨W,h3⟩:=f d ψ;rw[z,B]at g;rw[A,C]at o;rw[c2,cc]at p;rw[F,E]at h3;simp only[List.drop,List.take]at g o p h3;obtain⟨i,e0⟩:=abg M g;obtain⟨s,G⟩:=ahz kb o;obtain⟨j,I⟩:=abg N p;obtain⟨v,l,J,q⟩:=acQ hsp (D:=fun y cs=>DX (IsC w) w (.inl y) cs) (k:=4) kd u ω (fun m cs x f h=>L m ω cs x h) h3;cases e0;cases G;cases I;cases J;refine⟨.mk i s j l,.ex (.mk i s j l) _ (dr_ex.1 ⟨_,rfl,q⟩)⟩
def ahY(hsp:∀ b,sp b=true){t:TypeId}(hx:fitY P t=true):∀ (d:Nat) (cs:List Value) (x:DataW H×List MemPlace),DataW.trod enc P w 0 sp held d t cs=some x→∃ y:CX,DY (IsC w) w (.inl y) cs:=by
 intro d
 induction d using pN with
 | ind d K =>
  intro cs x h;unfold fitY at hx;split at hx
  case h_2=>cases hx
  rename_i a b c u;simp only[zm,decide_eq_true_eq]at hx;obtain⟨⟨z,B,C,c2,E,F,cc⟩,L,kb,M⟩:=hx;split at kb
  case h_2=>cases kb
  rename_i e q;obtain⟨hl,n,J,f⟩:=xw (by rw[u];simp) h;rw[u]at f;rw[z]at hl;obtain⟨O,Q,R,rfl⟩:=len3 hl;obtain⟨S,j⟩:=f a ψ;obtain⟨T,o⟩:=f b ψ;obtain⟨U,p⟩:=f c ψ;rw[B,E]at j;rw[C,F]at o;rw[c2,cc]at p;simp only[List.drop,List.take]at j o p;obtain⟨i,e0⟩:=abg L j;have r:P.cellsOf e=4:=by
   have:=kb;unfold fitX at this;split at this
   ·simp only[zm,decide_eq_true_eq]at this;exact this.1.1
   ·cases this
  obtain⟨v,l,G,s⟩:=acQ hsp (D:=fun y cs=>DX (IsC w) w (.inl y) cs) (k:=4) (e:=e) (by unfold isSlT;rw[q];simp) r ω (fun m cs x _ h=>aeF hsp kb m cs x h) o;obtain⟨N,A,I,g⟩:=acQ hsp (D:=fun y cs=>DY (IsC w) w (.inl y) cs) (k:=3) M z ω (fun m cs x f h=>K m ω cs x h) p;cases e0;cases G;cases I;exact⟨.mk i l A,.cd (.mk i l A) _ _ (dr_ex.1 ⟨_,rfl,s⟩) (dr_cd.1 ⟨_,rfl,g⟩)⟩
def ae1(hsp:∀ b,sp b=true):∀ (c:Bool) {t:TypeId},fitT P (.rc c) t=true→∀ (a:Nat) (d:List Value) (x:DataW H×List MemPlace),DataW.trod enc P w 0 sp held a t d=some x→∃ y:(Ty.rc c).α,DR (IsC w) w (.rc c) y d∧Bnd (.rc c) y
 | false,t,hf,a,d,x,h=>by
  obtain⟨y,hy⟩:=aeF hsp (by simpa [fitT]using hf) a d x h;exact⟨y,hy,trivial⟩
 | true,t,hf,a,d,x,h=>by
  obtain⟨y,hy⟩:=ahY hsp (by simpa [fitT]using hf) a d x h;exact⟨y,hy,trivial⟩
def aer{t:TypeId}{v:Value}{b:Nat}(g:partsOf P t≠[])(hv:Value.okWide P w .any b t v):∃ a,v=.agg a∧∀ y∈a.toList,SlOK w y:=by
 have f:∀ a:Array Value,Row.okWide P w .any b t a→∀ y∈a.toList,SlOK w y:=fun a c y hy=>by
  obtain⟨ts,_,_,j⟩:=c;obtain⟨i,l,k⟩:=pQ.1 hy;have h:a[i]? = some y:=by
   have:a.toList[i]? = some y:=by rw[zP l,k]
   simpa using this
  obtain⟨u,_,d⟩:=j i y h;exact afR d
 unfold partsOf at g;unfold Value.okWide at hv;split at g
 ·rename_i m d;rw[d]at hv;obtain⟨a,e,_,c⟩:=hv;exact⟨a,e,f a c⟩
 ·rename_i n e d;rw[d]at hv;obtain⟨a,e,_,c⟩:=hv;exact⟨a,e,f a c⟩
 ·exact absurd rfl g
section
variable (hsp:∀ b,sp b=true)
include hsp
mutual
theorem adX:∀ (T:Ty) (t:TypeId) (g:List Value) (x:DataW H×List MemPlace) (f:Nat),topS T=true→fitT P T t=true→(∀ v∈g,SlOK w v)→DataW.trod enc P w 0 sp held f t g=some x→∃ y:T.α,DR (IsC w) w T y g∧Bnd T y
 | .int k,t,g,x,f,_,hf,_,h=>uo (.int k) t g x f rfl hf h
 | .bool,t,g,x,f,_,hf,_,h=>uo .bool t g x f rfl hf h
 | .str,t,g,x,f,_,hf,_,h=>uo .str t g x f rfl hf h
 | .unit,t,g,x,f,_,hf,_,h=>by simp[fitT]at hf
 | .nul,t,g,x,f,_,hf,_,h=>by simp[fitT]at hf
 | .rc c,t,g,x,f,_,hf,_,h=>ae1 hsp c hf f g x h
 | .sl e,t,g,x,f,_,hf,hok,h=>by
  unfold fitT at hf;split at hf
  ·rename_i Q V;simp only[zm,beq_iff_eq]at hf;obtain⟨C,D,h3⟩:=hf;rcases DataW.trod_slice V h with⟨hc,_⟩ | ⟨a',len',cap',elems,rest,n,_,hc,_,_,hle,hcm,hel,hread,_⟩
   ·subst hc;exact⟨[],⟨_,rfl,.inl ⟨rfl,none,rfl⟩⟩,by simp[Bnd]⟩
   ·subst hc;obtain⟨m,z⟩:=hok _ (List.mem_cons_self ..) a' len' cap' rfl;obtain⟨b,o,s⟩:=a';simp only at m z;subst m;obtain⟨l,hl,K⟩:=aaJ (α:=e.α) (R:=fun i y=>(∃ ds:List Value,DR (IsC w) w e y ds∧∀ (j:Nat) (d:Value),ds[j]? = some d→w.cell? ⟨b,o+(i*e.n+j),none⟩=some d)∧Bnd e y) len' fun i E=>by
     have B:=hread i E;rw[zP ω,vB]at B;obtain⟨g,c1,c2⟩:=B;obtain⟨y,W,X⟩:=uo (F:=IsC w) e Q g _ n D C c2;refine⟨y,⟨g,W,fun j Z I=>?_⟩,X⟩;obtain⟨_,m1,Y⟩:=World.cells?_some c1;have hj:j < g.length:=(y6.1 I).1;have:=Y j ω;rw[vZ,vZ,h3]at this;rw[←xo,this];exact I
    refine⟨l,⟨_,rfl,.inr ⟨b,o,cap',by rw[hl],fun _=>z,ω,fun i x hx=>(K i x hx).1⟩⟩,?_,?_⟩
    ·rw[hl];simp only[maxLen]at hcm;omega
    ·intro y hy;obtain⟨i,E,U⟩:=pQ.1 hy;exact(K i y (by rw[zP E,U])).2
  ·cases hf
 | .pair a b,t,g,x,f,hfl,hf,hok,h=>by
  unfold fitT at hf;split at hf
  ·rename_i p r J;simp only[zm,beq_iff_eq]at hf;obtain⟨S,C,D,h3,h4⟩:=hf;simp only[topS,zm]at hfl;obtain⟨hl,n,_,G⟩:=xw (by rw[J];simp) h;rw[J]at G;obtain⟨y0,A⟩:=G p ψ;rw[S,D]at A;obtain⟨u,N,L⟩:=adX a p.1 _ _ n hfl.1 C (fun v hv=>hok v (qu (rB hv))) A;obtain⟨v,O,M⟩:=aeC b r a.n g n hfl.2 h3 hok (fun q B=>G q (by simp[B])) ω;refine⟨(u,v),⟨_,_,?_,N,O⟩,L,M⟩;have e:(g.drop a.n).take b.n=g.drop a.n:=uW (by rw[vu];omega);rw[e];simp
  ·cases hf
theorem aeC:∀ (T:Ty) (l:List (TypeId×Nat)) (k:Nat) (c:List Value) (n:Nat),topS T=true→fitL P T l k=true→(∀ v∈c,SlOK w v)→(∀ p∈l,∃ y,DataW.trod enc P w 0 sp held n p.1 ((c.drop p.2).take (P.cellsOf p.1))=some y)→k+T.n≤c.length→∃ y:T.α,DR (IsC w) w T y ((c.drop k).take T.n)∧Bnd T y
 | .int k',l,k,c,n,_,hf,_,_,_=>by simp[fitL]at hf
 | .bool,l,k,c,n,_,hf,_,_,_=>by simp[fitL]at hf
 | .str,l,k,c,n,_,hf,_,_,_=>by simp[fitL]at hf
 | .nul,l,k,c,n,_,hf,_,_,_=>by simp[fitL]at hf
 | .rc _,l,k,c,n,_,hf,_,_,_=>by simp[fitL]at hf
 | .sl _,l,k,c,n,_,hf,_,_,_=>by simp[fitL]at hf
 | .unit,l,k,c,n,_,hf,_,_,_=>⟨(),by simp[DR,Ty.n],trivial⟩
 | .pair a b,l,k,c,n,hfl,hf,hok,hm,hk=>by
  unfold fitL at hf;split at hf
  ·rename_i p r;simp only[zm,beq_iff_eq]at hf;obtain⟨i,j,m,h3⟩:=hf;simp only[topS,zm]at hfl;simp only[Ty.n]at hk;obtain⟨s,d⟩:=hm p ψ;rw[i,m]at d;obtain⟨u,g,e⟩:=adX a p.1 _ _ n hfl.1 j (fun v hv=>hok v (qu (rB hv))) d;obtain⟨v,h,f⟩:=aeC b r (k+a.n) c n hfl.2 h3 hok (fun q o=>hm q (by simp[o])) ω;refine⟨(u,v),⟨_,_,?_,g,h⟩,e,f⟩;simp only[Ty.n];rw[List.take_add,m5]
  ·cases hf
end
theorem ac1{T:Ty}{t:TypeId}{v:Value}{d:DataW H}{p:List MemPlace}{A:Nat}(O:topOK T=true)(f:fitT P T t=true)(hv:Value.okWide P w .any A t v)(h:DataW.Trod enc P w 0 sp held t v d p):∃ y:T.α,ValR (IsC w) w T y v∧Bnd T y:=by
 obtain⟨g,h⟩:=h;unfold ValR;cases T with
 | int k =>
  obtain⟨y,m,q⟩:=uo (F:=IsC w) (.int k) t _ _ g rfl f h;unfold fitT at f;split at f
  ·rename_i Y z;obtain⟨n,rfl⟩:=okWide_int z hv;exact⟨y,by rw[gR (by simp[isSt])];simpa [Value.cells]using m,q⟩
  ·cases f
 | bool =>
  obtain⟨y,m,q⟩:=uo (F:=IsC w) .bool t _ _ g rfl f h;unfold fitT at f;split at f
  ·rename_i z;obtain⟨n,rfl⟩:=okWide_bool z hv;exact⟨y,by rw[gR (by simp[isSt])];simpa [Value.cells]using m,q⟩
  ·cases f
 | str =>
  obtain⟨y,m,q⟩:=uo (F:=IsC w) .str t _ _ g rfl f h;unfold fitT at f;split at f
  ·rename_i z;obtain⟨n,rfl⟩:=okWide_string z hv;exact⟨y,by rw[gR (by simp[isSt])];simpa [Value.cells]using m,q⟩
  ·cases f
 | unit=>simp[fitT]at f
 | nul=>simp[fitT]at f
 | rc c =>
  obtain⟨u,rfl,_⟩:=aer (P:=P) (t:=t) (by
   intro D;cases c<;>simp[fitT,fitX,fitY,D]at f) hv
  obtain⟨y,m,q⟩:=ae1 hsp c f g u.toList _ h;exact⟨y,by rw[gT (show isSt (.rc c)=true from rfl)];exact⟨u.toList,ψ,m⟩,q⟩
 | pair a b =>
  obtain⟨u,rfl,G⟩:=aer (P:=P) (t:=t) (by
   intro D;simp[fitT,D]at f) hv
  obtain⟨y,m,q⟩:=adX hsp (.pair a b) t u.toList _ g O f G h;exact⟨y,by rw[gT (show isSt (.pair a b)=true from rfl)];exact⟨u.toList,ψ,m⟩,q⟩
 | sl e =>
  unfold fitT at f;split at f
  ·rename_i J z;simp only[zm,beq_iff_eq]at f;obtain⟨m,q,h3⟩:=f;obtain⟨a,len,cap,rfl⟩:=okWide_slice z hv;rcases DataW.trod_slice z h with⟨hc,_⟩ | ⟨a',len',cap',elems,rest,n,_,hc,_,_,hle,hcm,hel,hread,_⟩
   ·simp only[Value.cells,n5.injEq,Value.slice.injEq,and_true]at hc;obtain⟨rfl,rfl,rfl⟩:=hc;exact⟨[],by rw[gR (by simp[isSt])];exact⟨_,rfl,.inl ⟨rfl,none,rfl⟩⟩,by simp[Bnd]⟩
   ·simp only[Value.cells,n5.injEq,Value.slice.injEq,and_true]at hc;obtain⟨rfl,rfl,rfl⟩:=hc;have B:w.has P .any A a' J cap:=by
     unfold Value.okWide Cell.okWide Cell.ok at hv;rw[z]at hv;exact hv.2.2
    obtain⟨_,r,V,cells,I,_⟩:=B;obtain⟨b,o,s⟩:=a';simp only at r;subst r;have C:IsC w b:=abR I;obtain⟨l,hl,M⟩:=aaJ (α:=e.α) (R:=fun i y=>(∃ ds:List Value,DR (IsC w) w e y ds∧∀ (j:Nat) (d:Value),ds[j]? = some d→w.cell? ⟨b,o+(i*e.n+j),none⟩=some d)∧Bnd e y) len fun i E=>by
     have L:=hread i E;rw[zP ω,vB]at L;obtain⟨u,c1,c2⟩:=L;obtain⟨y,Q,S⟩:=uo (F:=IsC w) e J u _ n q m c2;refine⟨y,⟨u,Q,fun j W K=>?_⟩,S⟩;obtain⟨_,Z,U⟩:=World.cells?_some c1;have X:j < u.length:=(y6.1 K).1;have:=U j ω;rw[vZ,vZ,h3]at this;rw[←xo,this];exact K
    refine⟨l,?_,?_,?_⟩
    ·rw[gR (by simp[isSt])];refine⟨_,rfl,.inr ⟨b,o,cap,by rw[hl],fun _=>C,ω,fun i x hx=>(M i x hx).1⟩⟩
    ·rw[hl];simp only[maxLen]at hcm;omega
    ·intro y hy;obtain⟨i,E,N⟩:=pQ.1 hy;exact(M i y (by rw[zP E,N])).2
  ·cases f
def fitAll(P:Program):List Ty→List TypeId→Bool
 | [],[]=>true
 | T::Ts,t::ts=>(topOK T&&fitT P T t)&&fitAll P Ts ts
 | _,_=>false
theorem yL:∀ {Ts:List Ty} {ts:List TypeId} {vs:List Value} {ds:List (DataW H)} {p:List MemPlace} {c:Nat},fitAll P Ts ts=true→(∀ (j:Nat) t v,ts[j]? = some t→vs[j]? = some v→Value.okWide P w .any c t v)→
  DataW.TrodAll enc P w 0 sp held ts vs ds p→∃ x:Tys Ts,ArgsR (IsC w) w Ts x vs∧Bnds Ts x
 | [],[],vs,ds,p,c,_,_,h=>by
  cases vs with
  | nil=>exact⟨(),rfl,trivial⟩
  | cons _ _=>cases ds<;>exact absurd h (by simp[DataW.TrodAll])
 | [],_::_,vs,ds,p,c,hf,_,h=>by simp[fitAll]at hf
 | _::_,[],vs,ds,p,c,hf,_,h=>by simp[fitAll]at hf
 | T::Ts,t::ts,vs,ds,p,c,hf,hv,h=>by
  simp only[fitAll,zm]at hf;cases vs with
  | nil=>cases ds<;>exact absurd h (by simp[DataW.TrodAll])
  | cons v vs =>
   cases ds with
   | nil=>exact absurd h (by simp[DataW.TrodAll])
   | cons d ds =>
    obtain⟨p1,p2,e,f,_⟩:=h;obtain⟨y,g,i⟩:=ac1 hsp hf.1.1 hf.1.2 (hv 0 t v rfl rfl) e;obtain⟨x,k,l⟩:=yL hf.2 (fun j m n a b=>hv (j+1) m n (by simpa using a) (by simpa using b)) f;exact⟨(y,x),⟨v,vs,rfl,g,k⟩,i,l⟩
end
def yN{W c:World}(hl:laidOutB P=true)(hb:Below W.heap.size W c):∀ {ts:List TypeId} {vs:List Value} {ds:List (DataW H)} {p:List MemPlace},(ts.all fun t=>P.readableRec t&&decide (t < P.types.size))=true→
  DataW.TrodAll enc P W 0 (fun _=>true) true ts vs ds p→DataW.TrodAll enc P c 0 (fun b=>decide (b < W.heap.size)) true ts vs ds p
 | [],vs,ds,p,_,h=>by cases vs<;>cases ds<;>simp_all [DataW.TrodAll]
 | t::ts,vs,ds,p,ha,h=>by
  cases vs with
  | nil=>cases ds<;>exact absurd h (by simp[DataW.TrodAll])
  | cons v vs =>
   cases ds with
   | nil=>exact absurd h (by simp[DataW.TrodAll])
   | cons d ds =>
    simp only[List.all_cons,zm,decide_eq_true_eq]at ha;obtain⟨p1,p2,e,f,rfl⟩:=h;have a:∀ x∈p1,x.block < W.heap.size:=by
     obtain⟨m,g⟩:=e;exact DataW.trod_lt m _ _ _ g
    exact⟨p1,p2,Below.trod hl ha.1.1 ha.1.2 e hb a,yN hl hb ha.2 f,rfl⟩
def adK{ts:List TypeId}:∀ {vs:List Value} {ds:List (DataW H)} {p:List MemPlace},DataW.TrodAll enc P w 0 sp held ts vs ds p→ds.length=ts.length:=by
 induction ts with
 | nil=>intro vs ds p h;cases vs<;>cases ds<;>simp_all [DataW.TrodAll]
 | cons t ts b =>
  intro vs ds p h;cases vs with
  | nil=>cases ds<;>exact absurd h (by simp[DataW.TrodAll])
  | cons v vs =>
   cases ds with
   | nil=>exact absurd h (by simp[DataW.TrodAll])
   | cons d ds=>obtain⟨_,_,_,a,_⟩:=h;simp[b a]
end
def GTabs(W:World):Prop:=∀ (g j:Nat) (v:Int),(gtab g)[j]? = some v→W.cell? ⟨g,j,none⟩=some (.int .i64 v)
def agH{w:World}{g j:Nat}{v:Value}(h:w.cell? ⟨g,j,none⟩=some v):IsC w g:=by
 unfold World.cell? at h;unfold IsC;cases hb:w.heap[g]? with
 | none=>rw[hb]at h;cases h
 | some o=>cases o<;>rw[hb]at h<;>simp_all
def abB{laid:List (String×DataW Unit)}{W:World}(q:(laid.all fun x=>x.2.handleName?.isNone)=true){t e:TypeId}{rest:List (String×DataW Unit)}
  (l:Proofs.Tryz.prog.globalNamed "surveyor/expr.operands" = some gtN) (f:(Proofs.Tryz.prog.globals[gtN]?).map (·.type)=some t) (r:Proofs.Tryz.prog.underlying t=some (.array 8 e)) (n:Proofs.Tryz.prog.underlying e=some (.int .i64))
  (b:Proofs.Tryz.prog.cellsOf e=1) (d:Proofs.Tryz.prog.cellsOf t=8)
  (p:(laid.filter fun x=>x.1 == "surveyor/expr.operands")=("surveyor/expr.operands",Lib.tabData .i64 [0,0,1,2,2,2,2,2])::rest)
  (h:laidMetH y5 laid W):GTabs W:=by
 rw[MakeChecks.laidMetH_plain _ _ _ q]at h
 have i:=laidMet.filter (fun x=>x.1 == "surveyor/expr.operands") h
 rw[p]at i;have k:=Lib.tabIs_of_head l f r n b d i;intro g j v hv;unfold gtab at hv;cases a:(g==gtN&&Nat.blt gtN 1000000000)with
 | false=>rw[a]at hv;simp at hv
 | true =>
  rw[a,cond_true]at hv;simp only[zm,beq_iff_eq]at a;obtain⟨rfl,_⟩:=a;unfold Lib.TabIs World.var? at k;rw[l]at k;simp only[wT]at k;unfold World.cell?;cases hb:W.heap[gtN]? with
  | none=>rw[hb]at k;cases k
  | some o =>
   rw[hb]at k;cases o with
   | cells c u z =>
    have m:=y8.inj k;simp only[Option.isSome_none,zg,if_false];rw[m,List.getElem?_toArray,yz,hv];rfl
   | _=>cases k
section
variable {H:Type}{enc:TypeId×Value→H}
def agI{L:World→Prop}(hl:laidOutB y5=true){n:FuncId}{fn:Func}{s:ChangeSpec}{Ts:List Ty}{f:Nat→Tys Ts→Option (Bool×Unit)}(Q:∀ lf,EntryOK y5 TabG n ⟨Ts,[.bool],f lf⟩)
  (S:fitAll y5 Ts fn.params.toList=true) (F:(fn.params.toList.all fun t=>Proofs.Tryz.prog.readableRec t&&decide (t < Proofs.Tryz.prog.types.size))=true)
  {rt:TypeId} (G:fn.resultTypes=#[rt]) (I:Proofs.Tryz.prog.underlying rt=some .bool) (z:s.vars=[])
  (hs:∀ ds:List (DataW H),ds.length=fn.params.toList.length→s.fn H ds={ results:=[.lit (.bool true)],args:=ds })
  (w:∀ x:Tys Ts,Bnds Ts x→∃ lf,f lf x=some (true,()))
  (y:∀ W:World,L W→GTabs W)
  {W:World} {m:Nat} {args:Array Value} {ds O:List (DataW H)} {l:List MemPlace} {c o d:Bool}
  (A:∀ (j:Nat) t v,fn.params[j]? = some t→args[j]? = some v→Value.okWide y5 W .any m t v)
  (N:DataW.Whole enc y5 fn.params.toList s.vars c W args.toList ds O l) (R:TabG W) (K:L W) :
  Calls y5 n args W fun e W'=>∃ v,e=.returned v∧s.post enc y5 fn c o d false W args v W':=by
 have D:=N;obtain⟨p,q,C,M,rfl,_,_⟩:=N;rw[z]at M;obtain⟨rfl,rfl⟩:=trodVars_none M;have J:∀ (j:Nat) (t:TypeId) (v:Value),fn.params.toList[j]? = some t→args.toList[j]? = some v→Value.okWide y5 W .any m t v:=by
  intro j t v a b;rw[Array.getElem?_toList]at a b;exact A j t v a b
 obtain⟨x,X,Y⟩:=yL (fun _=>rfl) S J C;obtain⟨lf,E⟩:=w x Y;have k:=adK C;have h:=Q lf x (true,()) E (IsC W) W args.toList R ⟨fun i T=>T,fun g j v hv=>⟨agH (y W K g j v hv),y W K g j v hv⟩⟩ X;rw[Array.toArray_toList]at h;refine h.mono ?_;rintro e W' ⟨v,rfl,hb,U⟩;obtain⟨vs,⟨u,r,rfl,B,P⟩,rfl⟩:=U;obtain rfl:r=[]:=P;have V:u=.bool true:=by
  unfold ValR at B;rw[gR (by simp[isSt])]at B;simpa [DR]using B
 subst V;refine⟨_,rfl,ds,[],p++[],[],p,[],D,?_,?_,?_,hb.frame _,fun h=>by cases h⟩
 ·rw[tc,hs ds k,G];exact trodAll_mk1 (shut_bool I true)
 ·rw[tc,hs ds k];exact yN hl hb F C
 ·rw[tc,hs ds k,z];rfl
end
def acT{laid:List (String×DataW Unit)}{W:World}(k:(laid.all fun x=>x.2.handleName?.isNone)=true){g:Nat}{t e:TypeId}{n:Nat}{rest:List (String×DataW Unit)}
  (i:Proofs.Tryz.prog.globalNamed "internal/strconv.uint64pow10" = some g) (c:(Proofs.Tryz.prog.globals[g]?).map (·.type)=some t) (l:Proofs.Tryz.prog.underlying t=some (.array n e)) (f:Proofs.Tryz.prog.underlying e=some (.int .u64))
  (a:Proofs.Tryz.prog.cellsOf e=1) (b:Proofs.Tryz.prog.cellsOf t=n)
  (j:(laid.filter fun x=>x.1 == "internal/strconv.uint64pow10")=("internal/strconv.uint64pow10",Lib.tabData .u64 Lib.pow10Tab)::rest)
  (h:laidMetH y5 laid W):TabG W:=by
 rw[MakeChecks.laidMetH_plain _ _ _ k]at h
 have d:=laidMet.filter (fun x=>x.1 == "internal/strconv.uint64pow10") h
 rw[j]at d;exact Lib.tabIs_of_head i c l f a b d
def ah0{P:Program}{c:OpenClaim}(h:P.funcs.any Func.goes=false)(hs:c.start=.entering):false=c.goesBy P:=by
 have key:∀ (g:Nat) (a:Func),P.funcs[g]? = some a→a.goes=false:=by
  intro g a b;have:=Array.any_eq_false.1 h;obtain⟨d,e⟩:=Array.getElem?_eq_some_iff.1 b;have:=this g d;rw[e]at this;simpa using this
 have i:∀ g:Nat,(P.funcs[g]?).any Func.goes=false:=by
  intro g;cases b:P.funcs[g]? with
  | none=>rfl
  | some a=>simp[key g a b]
 unfold OpenClaim.goesBy Program.goesAt Program.goesFrom;rw[hs];have j:∀ f,P.goes f=false:=by
  intro f;unfold Program.goes;rw[h,Bool.and_false,Bool.or_false];simp only[i];simp
 cases P.funcNamed c.func with
 | none=>rfl
 | some f=>simp[j]
open Go Go.N
def Pure.EnvImposes(x:Tys (gZ.E 0).ps)(h:Bnds (gZ.E 0).ps x):∃ lf,gZ.f lf x.1 x.2.1 x.2.2.1=some (true,()):=by
 obtain⟨l,a,v,⟨⟩⟩:=x;clear h;obtain⟨lf,hx⟩:=bigX;have hb:=hx.big;have d:1000≤lf:=by have:=hb.1;omega
 refine⟨lf,?_⟩;obtain⟨p,p1,p2⟩:=ajY lf hb l;obtain⟨q,e,g⟩:=ajX lf ω a;obtain⟨r,r1,r2⟩:=agp lf v v;rw[gZ.f];simp only[EX.eta,p1,e,r1,fa,awakeX d];cases p with
 | false=>simp only[zj,Go.N.ff]
 | true =>
  simp only[ze,Go.N.fe];cases q with
  | false=>simp only[zj,Go.N.ff]
  | true =>
   simp only[ze,Go.N.fe];cases r with
   | false=>simp only[zj,Go.N.ff]
   | true =>
    obtain⟨b,c⟩:=p2 rfl;obtain⟨t,t1,t2,t3⟩:=agA lf hx c b (g rfl) (r2 rfl).1;simp only[ze,Go.N.fe,t1,t2,ajC lf hb _ t3,fa,BEq.rfl,Go.N.ff]
end Go.Q
