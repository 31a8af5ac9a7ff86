import Derived.Test.YtnjnggbibpnkbaaGreatDoorEIG10
set_option linter.all false
set_option maxRecDepth 100000
set_option maxHeartbeats 40000000
namespace Go.Q
open Go Go.RowKit
open Go.Rx (br bd sIdx sCat sCut iQuo iRem iShl)
noncomputable section
namespace qM
def f(c:Nat)(m:Int)(l:TV)(j:TV)(k:TV):Option (TV×TV×Unit):=br (m==3) (bd (oQ.f c 4 l k) fun a=>bd (fM.f c j a.1) fun b=>bd (oQ.f c 4 l j) fun d=>bd (fM.f c k d.1) fun e=>some (b.1,e.1,())) (br (m==4) (bd (oQ.f c 3 l k) fun a=>bd (fM.f c j a.1) fun b=>bd (oQ.f c 4 j l) fun d=>bd (fM.f c k d.1) fun e=>some (b.1,e.1,())) (br (m==5) (bd (pF.f c j) fun a=>br (!(a.1.toList==(⟨#[]⟩:fg).toList)) (br (!(a.1.toList==(⟨#[48]⟩:fg).toList)) (bd (pz.f c l a.1) fun b=>bd (fM.f c k b.1) fun d=>bd (pF.f c k) fun e=>br (e.1.toList==(⟨#[]⟩:fg).toList) (some (j,d.1,())) (br (e.1.toList==(⟨#[48]⟩:fg).toList) (some (j,d.1,())) (br (m==5) (bd (pz.f c l e.1) fun g=>bd (fM.f c j g.1) fun h=>some (h.1,d.1,())) (bd (sIdx e.1 0) fun g=>br (((g.toNat:Nat):Int) != 45) (bd (oP.f c l e.1) fun h=>bd (fM.f c j h.1) fun i=>some (i.1,d.1,())) (some (j,d.1,())))))) (bd (pF.f c k) fun b=>br (b.1.toList==(⟨#[]⟩:fg).toList) (some (j,k,())) (br (b.1.toList==(⟨#[48]⟩:fg).toList) (some (j,k,())) (br (m==5) (bd (pz.f c l b.1) fun d=>bd (fM.f c j d.1) fun e=>some (e.1,k,())) (bd (sIdx b.1 0) fun d=>br (((d.toNat:Nat):Int) != 45) (bd (oP.f c l b.1) fun e=>bd (fM.f c j e.1) fun g=>some (g.1,k,())) (some (j,k,()))))))) (bd (pF.f c k) fun b=>br (b.1.toList==(⟨#[]⟩:fg).toList) (some (j,k,())) (br (b.1.toList==(⟨#[48]⟩:fg).toList) (some (j,k,())) (br (m==5) (bd (pz.f c l b.1) fun d=>bd (fM.f c j d.1) fun e=>some (e.1,k,())) (bd (sIdx b.1 0) fun d=>br (((d.toNat:Nat):Int) != 45) (bd (oP.f c l b.1) fun e=>bd (fM.f c j e.1) fun g=>some (g.1,k,())) (some (j,k,()))))))) (br (m==6) (bd (pF.f c k) fun a=>br (a.1.toList==(⟨#[]⟩:fg).toList) (some (j,k,())) (br (a.1.toList==(⟨#[48]⟩:fg).toList) (some (j,k,())) (br (m==5) (bd (pz.f c l a.1) fun b=>bd (fM.f c j b.1) fun d=>some (d.1,k,())) (bd (sIdx a.1 0) fun b=>br (((b.toNat:Nat):Int) != 45) (bd (oP.f c l a.1) fun d=>bd (fM.f c j d.1) fun e=>some (e.1,k,())) (some (j,k,())))))) (some (j,k,())))))
def E(c:Nat):Entry:=⟨[(.int .i64),yV,yV,yV],[yV,yV],fun x=>f c x.1 x.2.1 x.2.2.1 x.2.2.2.1⟩
theorem ok(c:Nat):Ok 55 (E c):=fo c (tC (fM.ok c) (tC (oQ.ok c) (tC (pF.ok c) (tC (pz.ok c) (tC (oP.ok c) tN))))) fun x=>θ
end qM
namespace bC
def fb(c:Nat)(u:(List TV)→EX→TV→Option ((List TV)×Bool×Unit))(t:List TV)(r:EX)(v:TV):Option ((List TV)×Bool×Unit):=bd (bn.f c t (EX.mk r.i r.s r.j r.l)) fun a=>bd (nD.f c v a.1) fun b=>bd (dX.f c b.1 b.2.1) fun d=>br d.1.1.1 (some ([],false,())) (br (r.i==0) (some (t,true,())) (br (r.i==1) (bd (jo.f c t r.j d.1) fun e=>some (e.1,e.2.1,())) (br (r.i==2) (bd (idxL r.l 0) fun e=>bd (uj.f c d.1) fun g=>bd (dX.f c g.1 g.2.1) fun h=>bd (u t (EX.mk e.i e.s e.j e.l) h.1) fun k=>some (k.1,k.2.1,())) (bd (idxL r.l 0) fun e=>bd (bn.f c t (EX.mk e.i e.s e.j e.l)) fun g=>bd (idxL r.l 1) fun h=>bd (bn.f c t (EX.mk h.i h.s h.j h.l)) fun k=>bd (qM.f c r.i d.1 g.1 k.1) fun m=>bd (idxL r.l 0) fun n=>bd (u t (EX.mk n.i n.s n.j n.l) m.1) fun o=>br (!o.2.1) (some ([],false,())) (bd (idxL r.l 1) fun p=>bd (u o.1 (EX.mk p.i p.s p.j p.l) m.2.1) fun q=>some (q.1,q.2.1,()))))))
def f(c:Nat):(List TV)→EX→TV→Option ((List TV)×Bool×Unit):=c.rec (fun _ _ _=>none) fun c a=>fb c a
def E(c:Nat):Entry:=⟨[(.sl yV),(.rc false),yV],[(.sl yV),.bool],fun x=>f c x.1 x.2.1 x.2.2.1⟩
def anns:FuncId→FA:=annsL [(29,⟨annOf [],none,[13]⟩)]
theorem ok:∀ c:Nat,Ok 29 (E c)
 | 0=>okZ fun _=>rfl
 | c+1=>okT (an:=anns) (lf:=c) (tC (ok c) (tC (bn.ok c) (tC (jo.ok c) (tC (nD.ok c) (tC (dX.ok c) (tC (uj.ok c) (tC (qM.ok c) tN))))))) (aoC aoN) fun x=>θ
end bC
namespace rG
def f(c:Nat)(k:List TV)(h:EX)(m:TV):Option ((List TV)×Bool×Int×Unit):=bd (jh.f c k) fun a=>br (a.1 != 0) (some ([],false,a.1,())) (bd (dZ.f c (EX.mk h.i h.s h.j h.l) (k.length:Int)) fun b=>br (b.1 != 0) (some ([],false,b.1,())) (bd (iK.f c m) fun d=>br (d.1 != 0) (some ([],false,d.1,())) (bd (bC.f c k (EX.mk h.i h.s h.j h.l) m) fun e=>bd (kS.f c e.1 e.2.1) fun g=>some (g.1,g.2.1,g.2.2.1,()))))
def E(c:Nat):Entry:=⟨[(.sl yV),(.rc false),yV],[(.sl yV),.bool,(.int .i64)],fun x=>f c x.1 x.2.1 x.2.2.1⟩
theorem ok(c:Nat):Ok 8 (E c):=fo c (tC (jh.ok c) (tC (dZ.ok c) (tC (iK.ok c) (tC (kS.ok c) (tC (bC.ok c) tN))))) fun x=>θ
end rG
namespace kY
def l:List (((List TV)×Int×EX×EX×Unit)×((List TV)×Bool×Unit)):=[((ck_c.c13,4,ck_c.c24,ck_c.c26,()),(ck_c.c35,true,())),((ck_c.c13,2,ck_c.c36,ck_c.c38,()),(ck_c.c41,false,())),((ck_c.c13,4,ck_c.c1,ck_c.c42,()),(ck_c.c41,false,())),((ck_c.c13,4,ck_c.c42,ck_c.c1,()),(ck_c.c46,true,())),((ck_c.c13,4,ck_c.c1,ck_c.c3,()),(ck_c.c51,true,())),((ck_c.c13,4,ck_c.c38,ck_c.c1,()),(ck_c.c54,true,()))]
def f(c:Nat)(a:List TV)(b:Int)(d:EX)(e:EX):Option ((List TV)×Bool×Unit):=pick [(.sl yV),(.int .i64),(.rc false),(.rc false)] l (a,b,d,e,())
def E(c:Nat):Entry:=⟨[(.sl yV),(.int .i64),(.rc false),(.rc false)],[(.sl yV),.bool],fun x=>f c x.1 x.2.1 x.2.2.1 x.2.2.2.1⟩
def tb(c:Nat):List (FuncId×Entry):=[(29,bC.E 1000),(35,bn.E 1000),(69,xC.E 1000)]
abbrev an:FuncId→FA:=annsL []
theorem ok(c:Nat):Ok 38 (E c):=okP (an:=an) (tb:=tb c) (lf:=c) (tC (bC.ok 1000) (tC (bn.ok 1000) (tC (xC.ok 1000) tN))) aoN (l:=l) (fun _=>rfl) (fun _=>rfl) ⟨by as_aux_lemma=>kernel_rfl,by as_aux_lemma=>kernel_rfl,by as_aux_lemma=>kernel_rfl,by as_aux_lemma=>kernel_rfl,by as_aux_lemma=>kernel_rfl,by as_aux_lemma=>kernel_rfl,trivial⟩
end kY
namespace pq
def l:List (((List TV)×CX×Unit)×((List TV)×Bool×Unit)):=[((ck_c.c13,ck_c.c43,()),(ck_c.c46,true,())),((ck_c.c13,ck_c.c47,()),(ck_c.c51,true,())),((ck_c.c13,ck_c.c48,()),(ck_c.c54,true,())),((ck_c.c13,ck_c.c49,()),(ck_c.c13,true,()))]
def f(c:Nat)(a:List TV)(b:CX):Option ((List TV)×Bool×Unit):=pick [(.sl yV),(.rc true)] l (a,b,())
def E(c:Nat):Entry:=⟨[(.sl yV),(.rc true)],[(.sl yV),.bool],fun x=>f c x.1 x.2.1⟩
def tb(c:Nat):List (FuncId×Entry):=[(38,kY.E 1000),(53,dX.E 1000),(130,zh.E 1000)]
abbrev an:FuncId→FA:=annsL [(45,⟨annOf [(0,⟨kx 38 [0,1,2,8,12,13],[⟨.tmp 8,yV,32⟩],[]⟩,⟨kx 38 [6,7,8],[⟨.tmp 8,yV,32⟩],[]⟩)],none,[]⟩)]
theorem ok(c:Nat):Ok 40 (E c):=okP (an:=an) (tb:=tb c) (lf:=c) (tC (kY.ok 1000) (tC (dX.ok 1000) (tC (zh.ok 1000) tN))) (aoC aoN) (l:=l) (fun _=>rfl) (fun _=>rfl) ⟨by as_aux_lemma=>kernel_rfl,by as_aux_lemma=>kernel_rfl,by as_aux_lemma=>kernel_rfl,by as_aux_lemma=>kernel_rfl,trivial⟩
end pq
namespace zx
def l:List (((List TV)×EX×Unit)×(TV×Int×Unit)):=[((ck_c.c13,ck_c.c7,()),(ck_c.c19,0,())),((ck_c.c13,ck_c.c56,()),(ck_c.c57,0,()))]
def f(c:Nat)(a:List TV)(b:EX):Option (TV×Int×Unit):=pick [(.sl yV),(.rc false)] l (a,b,())
def E(c:Nat):Entry:=⟨[(.sl yV),(.rc false)],[yV,(.int .i64)],fun x=>f c x.1 x.2.1⟩
def tb(c:Nat):List (FuncId×Entry):=[(25,jh.E 1000),(26,dZ.E 1000),(35,bn.E 1000)]
abbrev an:FuncId→FA:=annsL []
theorem ok(c:Nat):Ok 17 (E c):=okP (an:=an) (tb:=tb c) (lf:=c) (tC (jh.ok 1000) (tC (dZ.ok 1000) (tC (bn.ok 1000) tN))) aoN (l:=l) (fun _=>rfl) (fun _=>rfl) ⟨by as_aux_lemma=>kernel_rfl,by as_aux_lemma=>kernel_rfl,trivial⟩
end zx
namespace yT
def l:List (((List TV)×Int×EX×Unit)×((List TV)×Bool×Int×Unit)):=[((ck_c.c13,0,ck_c.c21,()),(ck_c.c23,true,0,()))]
def f(c:Nat)(a:List TV)(b:Int)(d:EX):Option ((List TV)×Bool×Int×Unit):=pick [(.sl yV),(.int .i64),(.rc false)] l (a,b,d,())
def E(c:Nat):Entry:=⟨[(.sl yV),(.int .i64),(.rc false)],[(.sl yV),.bool,(.int .i64)],fun x=>f c x.1 x.2.1 x.2.2.1⟩
def tb(c:Nat):List (FuncId×Entry):=[(25,jh.E 1000),(26,dZ.E 1000),(35,bn.E 1000),(37,jo.E 1000)]
abbrev an:FuncId→FA:=annsL []
theorem ok(c:Nat):Ok 19 (E c):=okP (an:=an) (tb:=tb c) (lf:=c) (tC (jh.ok 1000) (tC (dZ.ok 1000) (tC (bn.ok 1000) (tC (jo.ok 1000) tN)))) aoN (l:=l) (fun _=>rfl) (fun _=>rfl) ⟨by as_aux_lemma=>kernel_rfl,trivial⟩
end yT
namespace zy
def l:List (((List TV)×Int×EX×EX×Unit)×((List TV)×Bool×Int×Unit)):=[((ck_c.c13,4,ck_c.c24,ck_c.c26,()),(ck_c.c35,true,0,())),((ck_c.c13,2,ck_c.c36,ck_c.c38,()),(ck_c.c41,false,0,()))]
def f(c:Nat)(a:List TV)(b:Int)(d:EX)(e:EX):Option ((List TV)×Bool×Int×Unit):=pick [(.sl yV),(.int .i64),(.rc false),(.rc false)] l (a,b,d,e,())
def E(c:Nat):Entry:=⟨[(.sl yV),(.int .i64),(.rc false),(.rc false)],[(.sl yV),.bool,(.int .i64)],fun x=>f c x.1 x.2.1 x.2.2.1 x.2.2.2.1⟩
def tb(c:Nat):List (FuncId×Entry):=[(25,jh.E 1000),(26,dZ.E 1000),(28,kS.E 1000),(38,kY.E 1000)]
abbrev an:FuncId→FA:=annsL []
theorem ok(c:Nat):Ok 20 (E c):=okP (an:=an) (tb:=tb c) (lf:=c) (tC (jh.ok 1000) (tC (dZ.ok 1000) (tC (kS.ok 1000) (tC (kY.ok 1000) tN)))) aoN (l:=l) (fun _=>rfl) (fun _=>rfl) ⟨by as_aux_lemma=>kernel_rfl,by as_aux_lemma=>kernel_rfl,trivial⟩
end zy
namespace wS
def l:List (((List TV)×CX×Unit)×((List TV)×Bool×Int×Unit)):=[((ck_c.c13,ck_c.c43,()),(ck_c.c46,true,0,())),((ck_c.c13,ck_c.c49,()),(ck_c.c13,true,0,()))]
def f(c:Nat)(a:List TV)(b:CX):Option ((List TV)×Bool×Int×Unit):=pick [(.sl yV),(.rc true)] l (a,b,())
def E(c:Nat):Entry:=⟨[(.sl yV),(.rc true)],[(.sl yV),.bool,(.int .i64)],fun x=>f c x.1 x.2.1⟩
def tb(c:Nat):List (FuncId×Entry):=[(25,jh.E 1000),(28,kS.E 1000),(39,vU.E 1000),(40,pq.E 1000)]
abbrev an:FuncId→FA:=annsL []
theorem ok(c:Nat):Ok 21 (E c):=okP (an:=an) (tb:=tb c) (lf:=c) (tC (jh.ok 1000) (tC (kS.ok 1000) (tC (vU.ok 1000) (tC (pq.ok 1000) tN)))) aoN (l:=l) (fun _=>rfl) (fun _=>rfl) ⟨by as_aux_lemma=>kernel_rfl,by as_aux_lemma=>kernel_rfl,trivial⟩
end wS
end
end Go.Q
namespace Go.Q
open Go Go.RowKit
open Go.Rx (br bd sIdx sCat sCut iQuo iRem iShl)
noncomputable section
namespace aa9
def l:List (((List TV)×(List TV)×Int×EX×Unit)×((List TV)×Bool×Int×Unit)):=[((ck_c.c13,ck_c.c13,1,ck_c.c62,()),(ck_c.c69,true,0,()))]
def f(c:Nat)(a:List TV)(b:List TV)(d:Int)(e:EX):Option ((List TV)×Bool×Int×Unit):=pick [(.sl yV),(.sl yV),(.int .i64),(.rc false)] l (a,b,d,e,())
def E(c:Nat):Entry:=⟨[(.sl yV),(.sl yV),(.int .i64),(.rc false)],[(.sl yV),.bool,(.int .i64)],fun x=>f c x.1 x.2.1 x.2.2.1 x.2.2.2.1⟩
def tb(c:Nat):List (FuncId×Entry):=[(25,jh.E 1000),(26,dZ.E 1000),(28,kS.E 1000),(29,bC.E 1000),(44,uY.E 1000),(46,nD.E 1000),(53,dX.E 1000)]
abbrev an:FuncId→FA:=annsL [(45,⟨annOf [(0,⟨kx 38 [0,1,2,8,12,13],[⟨.tmp 8,yV,32⟩],[]⟩,⟨kx 38 [6,7,8],[⟨.tmp 8,yV,32⟩],[]⟩)],none,[]⟩)]
theorem ok(c:Nat):Ok 24 (E c):=okP (an:=an) (tb:=tb c) (lf:=c) (tC (jh.ok 1000) (tC (dZ.ok 1000) (tC (kS.ok 1000) (tC (bC.ok 1000) (tC (uY.ok 1000) (tC (nD.ok 1000) (tC (dX.ok 1000) tN))))))) (aoC aoN) (l:=l) (fun _=>rfl) (fun _=>rfl) ⟨by as_aux_lemma=>kernel_rfl,trivial⟩
end aa9
end
end Go.Q
namespace Go.Q
open Go Go.RowKit
open Go.Rx (br bd sIdx sCat sCut iQuo iRem iShl)
noncomputable section
namespace kN
def f(c:Nat)(a:fg):fm Bool:=some ((decide ((a.size:Int)≤450)),())
def E(c:Nat):Entry:=⟨[.str],[.bool],fun x=>f c x.1⟩
theorem ok(c:Nat):Ok 33 (E c):=fo c tN fun x=>θ
end kN
end
end Go.Q
namespace Go.Q
open Go.IntKind (i64)
open Go Go.RowKit
open Go.Rx (br bd sIdx sCat sCut iQuo iRem iShl)
noncomputable section
namespace fH
def r0{ρ:Type}(c:Nat)(f:EX→Int→Int→fm Int)(g h:Int)(k:fg)(m:Int)(e:List EX)(a d:Int)(K:Int→Int→Option ρ)(E0:Int→Option ρ):Option ρ:=br (decide (d < (e.length:Int))) (br (decide (a≥0)) (bd (idxL e d) fun b=>bd (f (EX.mk b.i b.s b.j b.l) (i64.wrap (g+1)) a) fun r3 =>
 K r3.1 (i64.wrap (d+1))) (
 E0 a)) (
 E0 a)
def l0(c:Nat)(a:EX→Int→Int→fm Int)(b d:Int)(e:fg)(f:Int)(g:List EX):Nat→Int→Int→Option ((Int×Unit)×Unit)
 | 0,_,_=>none
 | n+1,v1,v2=>r0 c a b d e f g v1 v2 (l0 c a b d e f g n) (fun h=>some ((h,()),()))
def sh0:ShS:=⟨[.a 1,.s (.int .i64),.s (.int .i64),.s (.ptr 0 0),.a 3,.s (.int .i64),.a 35],[.cells [.s (.int .i64),.s .str,.s (.int .i64),.s (.sl (.rc false))] 26]⟩
def S0(p:Int×Int×Int×Int×fg×Int×(List EX)×Unit):St:=sh0.b p
def xh0:ShS:=⟨[.a 2,.s (.int .i64),.a 40],[.cells [.s (.int .i64),.s .str,.s (.int .i64),.s (.sl (.rc false))] 26]⟩
def o0(f a:Int)(c:fg)(d:Int)(e:List EX)(y:(Int×Unit)×Unit):Alt:=.one (.exit 0) (xh0.b (y.1.1,a,c,d,e,()))
def fb(c:Nat)(e:EX→Int→Int→fm Int)(a:EX)(b:Int)(d:Int):fm Int:=br (decide (b > 24)) (some ((-1),())) (br (decide (d≤0)) (some ((-1),())) (bd (kN.f c a.s) fun r1=>br (!r1.1) (some ((-1),())) (bd (l0 c e b a.i a.s a.j a.l (c+40) (i64.wrap (d-1)) 0) fun g=>some (g.1.1,()))))
def f(c:Nat):EX→Int→Int→fm Int:=c.rec (fun _ _ _=>none) fun c a=>fb c a
def E(c:Nat):Entry:=⟨[(.rc false),(.int .i64),(.int .i64)],[(.int .i64)],fun x=>f c x.1 x.2.1 x.2.2.1⟩
def anns:FuncId→FA:=annsL [(11,⟨annOf [(0,⟨kx 43 [1,2,3,7],[],[]⟩,⟨kx 43 [2,6],[],[]⟩)],none,[13]⟩)]
def tb(c:Nat):List (FuncId×Entry):=[(11,E c),(33,kN.E c)]
def ahk(c:Nat):List (Nat×(St→Option LTE)):=[(0,sumE sh0 fun(p:Int×Int×Int×Int×fg×Int×(List EX)×Unit)=>⟨(Int×Unit)×Unit,l0 c (f c) p.1 p.2.2.2.1 p.2.2.2.2.1 p.2.2.2.2.2.1 p.2.2.2.2.2.2.1 (c+40) p.2.1 p.2.2.1,o0 p.1 p.2.2.2.1 p.2.2.2.2.1 p.2.2.2.2.2.1 p.2.2.2.2.2.2.1⟩)]
def ls(c:Nat):List (Nat×FuncId×Sums):=[(13,11,sumsL (ahk c))]
def it0{ρ:Type}(c n:Nat)(a:St)(k:KE ρ):Option ρ:=itG anns (ls c) (tb c) c 13 11 0 1 (sumsL (ahk c)) n a k
theorem t0{ρ:Type}(c n:Nat)(h i j a:Int)(d:fg)(e:Int)(g:List EX)(k:KE ρ):it0 c (n+1) (S0 (h,i,j,a,d,e,g,())) k=r0 c (f c) h a d e g i j (fun m o=>it0 c n (S0 (h,m,o,a,d,e,g,())) k) (fun l=>k (.exit 0) (xh0.b (l,a,d,e,g,()))):=θ
theorem u0{ρ:Type}(c:Nat)(a b:Int)(d:fg)(e:Int)(g:List EX)(k:KE ρ):∀ (n:Nat) (h i:Int),it0 c n (S0 (a,h,i,b,d,e,g,())) k=bd (l0 c (f c) a b d e g n h i) fun y=>altK k (o0 a b d e g y)
 | 0,_,_=>by rw[l0,bd_none];rfl
 | n+1,h,i=>by
  rw[t0];simp only[l0,r0,u0 c a b d e g k n,bd_br,bd_bd,bd_some',bd_none,br_t,br_f,o0,altK]
theorem sl(c:Nat):SL anns (ls c) (tb c) c (ls c):=slC (laC (fun _=>θ) (fun _ (x:Int×Int×Int×Int×fg×Int×(List EX)×Unit) k=>dJ (u0 c x.1 x.2.2.2.1 x.2.2.2.2.1 x.2.2.2.2.2.1 x.2.2.2.2.2.2.1 k (c+40) x.2.1 x.2.2.1)) laN) slN
theorem ok:∀ c:Nat,Ok 11 (E c)
 | 0=>okZ fun _=>rfl
 | c+1=>okL (tC (ok c) (tC (kN.ok c) tN)) (aoC aoN) (sl c) fun x=>θ
end fH
namespace nN
def f(c:Nat)(a:EX):fm Bool:=bd (fH.f c (EX.mk a.i a.s a.j a.l) 0 80) fun r1=>some ((decide (r1.1≥0)),())
def E(c:Nat):Entry:=⟨[(.rc false)],[.bool],fun x=>f c x.1⟩
theorem ok(c:Nat):Ok 5 (E c):=fo c (tC (fH.ok c) tN) fun x=>θ
end nN
namespace eP
def r0{ρ:Type}(c:Nat)(f:EX→fm Int)(g:Int)(h:fg)(k:Int)(e:List EX)(d b:Int)(K:Int→Int→Option ρ)(E0:Int→Option ρ):Option ρ:=br (decide (b < (e.length:Int))) (bd (idxL e b) fun a=>bd (f (EX.mk a.i a.s a.j a.l)) fun r2 =>
 K (i64.wrap (d+r2.1)) (i64.wrap (b+1))) (
 E0 d)
def l0(c:Nat)(a:EX→fm Int)(b:Int)(d:fg)(e:Int)(f:List EX):Nat→Int→Int→Option ((Int×Unit)×Unit)
 | 0,_,_=>none
 | n+1,v0,v1=>r0 c a b d e f v0 v1 (l0 c a b d e f n) (fun g=>some ((g,()),()))
def sh0:ShS:=⟨[.a 1,.s (.ptr 0 0),.a 1,.s (.int .i64),.s (.int .i64),.a 16],[.cells [.s (.int .i64),.s .str,.s (.int .i64),.s (.sl (.rc false))] 26]⟩
def S0(p:Int×Int×Int×fg×Int×(List EX)×Unit):St:=sh0.b p
def xh0:ShS:=⟨[.a 3,.s (.int .i64),.a 17],[.cells [.s (.int .i64),.s .str,.s (.int .i64),.s (.sl (.rc false))] 26]⟩
def o0(a:Int)(c:fg)(d:Int)(e:List EX)(y:(Int×Unit)×Unit):Alt:=.one (.exit 0) (xh0.b (y.1.1,a,c,d,e,()))
def fb(c:Nat)(b:EX→fm Int)(a:EX):fm Int:=bd (l0 c b a.i a.s a.j a.l (c+40) 1 0) fun d=>some (d.1.1,())
def f(c:Nat):EX→fm Int:=c.rec (fun _=>none) fun c a=>fb c a
def E(c:Nat):Entry:=⟨[(.rc false)],[(.int .i64)],fun x=>f c x.1⟩
def anns:FuncId→FA:=annsL [(91,⟨annOf [(0,⟨kx 21 [1,3,4],[],[]⟩,⟨kx 21 [2,3],[],[]⟩)],none,[13]⟩)]
def tb(c:Nat):List (FuncId×Entry):=[(91,E c)]
def aho(c:Nat):List (Nat×(St→Option LTE)):=[(0,sumE sh0 fun(p:Int×Int×Int×fg×Int×(List EX)×Unit)=>⟨(Int×Unit)×Unit,l0 c (f c) p.2.2.1 p.2.2.2.1 p.2.2.2.2.1 p.2.2.2.2.2.1 (c+40) p.1 p.2.1,o0 p.2.2.1 p.2.2.2.1 p.2.2.2.2.1 p.2.2.2.2.2.1⟩)]
def ls(c:Nat):List (Nat×FuncId×Sums):=[(13,91,sumsL (aho c))]
def it0{ρ:Type}(c n:Nat)(a:St)(k:KE ρ):Option ρ:=itG anns (ls c) (tb c) c 13 91 0 1 (sumsL (aho c)) n a k
theorem t0{ρ:Type}(c n:Nat)(h i a:Int)(d:fg)(e:Int)(g:List EX)(k:KE ρ):it0 c (n+1) (S0 (h,i,a,d,e,g,())) k=r0 c (f c) a d e g h i (fun l m=>it0 c n (S0 (l,m,a,d,e,g,())) k) (fun j=>k (.exit 0) (xh0.b (j,a,d,e,g,()))):=θ
theorem u0{ρ:Type}(c:Nat)(a:Int)(b:fg)(d:Int)(e:List EX)(k:KE ρ):∀ (n:Nat) (g h:Int),it0 c n (S0 (g,h,a,b,d,e,())) k=bd (l0 c (f c) a b d e n g h) fun y=>altK k (o0 a b d e y)
 | 0,_,_=>by rw[l0,bd_none];rfl
 | n+1,g,h=>by
  rw[t0];simp only[l0,r0,u0 c a b d e k n,bd_br,bd_bd,bd_some',bd_none,br_t,br_f,o0,altK]
theorem sl(c:Nat):SL anns (ls c) (tb c) c (ls c):=slC (laC (fun _=>θ) (fun _ (x:Int×Int×Int×fg×Int×(List EX)×Unit) k=>dJ (u0 c x.2.2.1 x.2.2.2.1 x.2.2.2.2.1 x.2.2.2.2.2.1 k (c+40) x.1 x.2.1)) laN) slN
theorem ok:∀ c:Nat,Ok 91 (E c)
 | 0=>okZ fun _=>rfl
 | c+1=>okL (tC (ok c) tN) (aoC aoN) (sl c) fun x=>θ
end eP
namespace eU
def r0{ρ:Type}(c:Nat)(f:EX→fm Int)(g:Int)(h:fg)(k:Int)(e:List EX)(b d:Int)(K:Int→Int→Option ρ)(E0:Int→Option ρ):Option ρ:=br (decide (d < (e.length:Int))) (bd (idxL e d) fun a=>bd (f (EX.mk a.i a.s a.j a.l)) fun r2 =>
 K (if r2.1 > b then r2.1 else b) (i64.wrap (d+1))) (
 E0 b)
def l0(c:Nat)(a:EX→fm Int)(b:Int)(d:fg)(e:Int)(f:List EX):Nat→Int→Int→Option ((Int×Unit)×Unit)
 | 0,_,_=>none
 | n+1,v0,v1=>r0 c a b d e f v0 v1 (l0 c a b d e f n) (fun g=>some ((g,()),()))
def sh0:ShS:=⟨[.a 1,.s (.ptr 0 0),.a 1,.s (.int .i64),.s (.int .i64),.a 17],[.cells [.s (.int .i64),.s .str,.s (.int .i64),.s (.sl (.rc false))] 26]⟩
def S0(p:Int×Int×Int×fg×Int×(List EX)×Unit):St:=sh0.b p
def xh0:ShS:=⟨[.a 3,.s (.int .i64),.a 18],[.cells [.s (.int .i64),.s .str,.s (.int .i64),.s (.sl (.rc false))] 26]⟩
def o0(a:Int)(c:fg)(d:Int)(e:List EX)(y:(Int×Unit)×Unit):Alt:=.one (.exit 0) (xh0.b (y.1.1,a,c,d,e,()))
def fb(c:Nat)(b:EX→fm Int)(a:EX):fm Int:=bd (l0 c b a.i a.s a.j a.l (c+40) 0 0) fun d=>some ((i64.wrap (d.1.1+1)),())
def f(c:Nat):EX→fm Int:=c.rec (fun _=>none) fun c a=>fb c a
def E(c:Nat):Entry:=⟨[(.rc false)],[(.int .i64)],fun x=>f c x.1⟩
def anns:FuncId→FA:=annsL [(92,⟨annOf [(0,⟨kx 22 [1,3,4],[],[]⟩,⟨kx 22 [2,3],[],[]⟩)],none,[13]⟩)]
def tb(c:Nat):List (FuncId×Entry):=[(92,E c)]
def ahp(c:Nat):List (Nat×(St→Option LTE)):=[(0,sumE sh0 fun(p:Int×Int×Int×fg×Int×(List EX)×Unit)=>⟨(Int×Unit)×Unit,l0 c (f c) p.2.2.1 p.2.2.2.1 p.2.2.2.2.1 p.2.2.2.2.2.1 (c+40) p.1 p.2.1,o0 p.2.2.1 p.2.2.2.1 p.2.2.2.2.1 p.2.2.2.2.2.1⟩)]
def ls(c:Nat):List (Nat×FuncId×Sums):=[(13,92,sumsL (ahp c))]
def it0{ρ:Type}(c n:Nat)(a:St)(k:KE ρ):Option ρ:=itG anns (ls c) (tb c) c 13 92 0 1 (sumsL (ahp c)) n a k
theorem t0{ρ:Type}(c n:Nat)(h i a:Int)(d:fg)(e:Int)(g:List EX)(k:KE ρ):it0 c (n+1) (S0 (h,i,a,d,e,g,())) k=r0 c (f c) a d e g h i (fun l m=>it0 c n (S0 (l,m,a,d,e,g,())) k) (fun j=>k (.exit 0) (xh0.b (j,a,d,e,g,()))):=θ
theorem u0{ρ:Type}(c:Nat)(a:Int)(b:fg)(d:Int)(e:List EX)(k:KE ρ):∀ (n:Nat) (g h:Int),it0 c n (S0 (g,h,a,b,d,e,())) k=bd (l0 c (f c) a b d e n g h) fun y=>altK k (o0 a b d e y)
 | 0,_,_=>by rw[l0,bd_none];rfl
 | n+1,g,h=>by
  rw[t0];simp only[l0,r0,u0 c a b d e k n,bd_br,bd_bd,bd_some',bd_none,br_t,br_f,o0,altK]
theorem sl(c:Nat):SL anns (ls c) (tb c) c (ls c):=slC (laC (fun _=>θ) (fun _ (x:Int×Int×Int×fg×Int×(List EX)×Unit) k=>dJ (u0 c x.2.2.1 x.2.2.2.1 x.2.2.2.2.1 x.2.2.2.2.2.1 k (c+40) x.1 x.2.1)) laN) slN
theorem ok:∀ c:Nat,Ok 92 (E c)
 | 0=>okZ fun _=>rfl
 | c+1=>okL (tC (ok c) tN) (aoC aoN) (sl c) fun x=>θ
end eU
namespace kU
def f(c:Nat)(b:EX)(d:Int):fm Int:=br (decide (b.i < 0)) (some (1,())) (br (decide (b.i > 7)) (some (1,())) (br (decide (b.i≤1)) (br (b.i==2) (br ((b.l.length:Int) != 1) (some (15,())) (br (b.i==0) (bd (eY.f c b.s) fun a=>br (a.1 != 0) (some (a.1,())) (br (b.i==1) (br (decide (b.j < 0)) (some (6,())) (br (decide (b.j≥d)) (some (6,())) (some (0,())))) (br (b.j != 0) (some (3,())) (some (0,()))))) (br (!(b.s.toList==(⟨#[]⟩:fg).toList)) (some (3,())) (br (b.i==1) (br (decide (b.j < 0)) (some (6,())) (br (decide (b.j≥d)) (some (6,())) (some (0,())))) (br (b.j != 0) (some (3,())) (some (0,()))))))) (br ((b.l.length:Int) != 0) (some (15,())) (br (b.i==0) (bd (eY.f c b.s) fun a=>br (a.1 != 0) (some (a.1,())) (br (b.i==1) (br (decide (b.j < 0)) (some (6,())) (br (decide (b.j≥d)) (some (6,())) (some (0,())))) (br (b.j != 0) (some (3,())) (some (0,()))))) (br (!(b.s.toList==(⟨#[]⟩:fg).toList)) (some (3,())) (br (b.i==1) (br (decide (b.j < 0)) (some (6,())) (br (decide (b.j≥d)) (some (6,())) (some (0,())))) (br (b.j != 0) (some (3,())) (some (0,())))))))) (br (b.i==2) (br ((b.l.length:Int) != 1) (some (15,())) (br (b.i==0) (bd (eY.f c b.s) fun a=>br (a.1 != 0) (some (a.1,())) (br (b.i==1) (br (decide (b.j < 0)) (some (6,())) (br (decide (b.j≥d)) (some (6,())) (some (0,())))) (br (b.j != 0) (some (3,())) (some (0,()))))) (br (!(b.s.toList==(⟨#[]⟩:fg).toList)) (some (3,())) (br (b.i==1) (br (decide (b.j < 0)) (some (6,())) (br (decide (b.j≥d)) (some (6,())) (some (0,())))) (br (b.j != 0) (some (3,())) (some (0,()))))))) (br ((b.l.length:Int) != 2) (some (15,())) (br (b.i==0) (bd (eY.f c b.s) fun a=>br (a.1 != 0) (some (a.1,())) (br (b.i==1) (br (decide (b.j < 0)) (some (6,())) (br (decide (b.j≥d)) (some (6,())) (some (0,())))) (br (b.j != 0) (some (3,())) (some (0,()))))) (br (!(b.s.toList==(⟨#[]⟩:fg).toList)) (some (3,())) (br (b.i==1) (br (decide (b.j < 0)) (some (6,())) (br (decide (b.j≥d)) (some (6,())) (some (0,())))) (br (b.j != 0) (some (3,())) (some (0,()))))))))))
def E(c:Nat):Entry:=⟨[(.rc false),(.int .i64)],[(.int .i64)],fun x=>f c x.1 x.2.1⟩
theorem ok(c:Nat):Ok 160 (E c):=fo c (tC (eY.ok c) tN) fun x=>θ
end kU
namespace cu
def r0{ρ:Type}(c:Nat)(f:EX→Int→fm Int)(g h:Int)(k:fg)(m:Int)(d:List EX)(b:Int)(K:Int→Option ρ)(E0:Int→Option ρ)(e:Option ρ):Option ρ:=br (decide (b < (d.length:Int))) (bd (idxL d b) fun a=>bd (f (EX.mk a.i a.s a.j a.l) g) fun r3=>br (r3.1 != 0) (
 E0 r3.1) (
 K (i64.wrap (b+1)))) (
 e)
def l0(c:Nat)(a:EX→Int→fm Int)(b d:Int)(e:fg)(f:Int)(g:List EX):Nat→Int→Option (Bool×(Int×Unit)×(Unit)×Unit)
 | 0,_=>none
 | n+1,v1=>r0 c a b d e f g v1 (l0 c a b d e f g n) (fun h=>some (true,(h,()),((()),()))) (some (false,(0,()),((()),())))
def sh0:ShS:=⟨[.a 1,.s (.int .i64),.s (.ptr 0 0),.a 3,.s (.int .i64),.a 24],[.cells [.s (.int .i64),.s .str,.s (.int .i64),.s (.sl (.rc false))] 26]⟩
def S0(p:Int×Int×Int×fg×Int×(List EX)×Unit):St:=sh0.b p
def xh0:ShS:=⟨[.a 4,.s (.int .i64),.a 26],[.cells [.s (.int .i64),.s .str,.s (.int .i64),.s (.sl (.rc false))] 26]⟩
def xh1:ShS:=⟨[.a 31],[.cells [.s (.int .i64),.s .str,.s (.int .i64),.s (.sl (.rc false))] 26]⟩
def o0(f a:Int)(c:fg)(d:Int)(e:List EX)(y:Bool×(Int×Unit)×(Unit)×Unit):Alt:=.two y.1 (.one .ret (xh0.b (y.2.1.1,a,c,d,e,()))) (.one (.exit 0) (xh1.b (a,c,d,e,())))
def fb(c:Nat)(e:EX→Int→fm Int)(a:EX)(b:Int):fm Int:=bd (kU.f c (EX.mk a.i a.s a.j a.l) b) fun r1=>br (r1.1 != 0) (some (r1.1,())) (bd (l0 c e b a.i a.s a.j a.l (c+40) 0) fun d=>br d.1 (some (d.2.1.1,())) (some (0,())))
def f(c:Nat):EX→Int→fm Int:=c.rec (fun _ _=>none) fun c a=>fb c a
def E(c:Nat):Entry:=⟨[(.rc false),(.int .i64)],[(.int .i64)],fun x=>f c x.1 x.2.1⟩
def anns:FuncId→FA:=annsL [(93,⟨annOf [(0,⟨kx 31 [1,2,6],[],[]⟩,⟨kx 31 [4],[],[]⟩)],none,[13]⟩)]
def tb(c:Nat):List (FuncId×Entry):=[(93,E c),(160,kU.E c)]
def ahq(c:Nat):List (Nat×(St→Option LTE)):=[(0,sumE sh0 fun(p:Int×Int×Int×fg×Int×(List EX)×Unit)=>⟨Bool×(Int×Unit)×(Unit)×Unit,l0 c (f c) p.1 p.2.2.1 p.2.2.2.1 p.2.2.2.2.1 p.2.2.2.2.2.1 (c+40) p.2.1,o0 p.1 p.2.2.1 p.2.2.2.1 p.2.2.2.2.1 p.2.2.2.2.2.1⟩)]
def ls(c:Nat):List (Nat×FuncId×Sums):=[(13,93,sumsL (ahq c))]
def it0{ρ:Type}(c n:Nat)(a:St)(k:KE ρ):Option ρ:=itG anns (ls c) (tb c) c 13 93 0 1 (sumsL (ahq c)) n a k
theorem t0{ρ:Type}(c n:Nat)(h i a:Int)(d:fg)(e:Int)(g:List EX)(k:KE ρ):it0 c (n+1) (S0 (h,i,a,d,e,g,())) k=r0 c (f c) h a d e g i (fun l=>it0 c n (S0 (h,l,a,d,e,g,())) k) (fun j=>k .ret (xh0.b (j,a,d,e,g,()))) (k (.exit 0) (xh1.b (a,d,e,g,()))):=θ
theorem u0{ρ:Type}(c:Nat)(a b:Int)(d:fg)(e:Int)(g:List EX)(k:KE ρ):∀ (n:Nat) (h:Int),it0 c n (S0 (a,h,b,d,e,g,())) k=bd (l0 c (f c) a b d e g n h) fun y=>altK k (o0 a b d e g y)
 | 0,_=>by rw[l0,bd_none];rfl
 | n+1,h=>by
  rw[t0];simp only[l0,r0,u0 c a b d e g k n,bd_br,bd_bd,bd_some',bd_none,br_t,br_f,o0,altK]
theorem sl(c:Nat):SL anns (ls c) (tb c) c (ls c):=slC (laC (fun _=>θ) (fun _ (x:Int×Int×Int×fg×Int×(List EX)×Unit) k=>dJ (u0 c x.1 x.2.2.1 x.2.2.2.1 x.2.2.2.2.1 x.2.2.2.2.2.1 k (c+40) x.2.1)) laN) slN
theorem ok:∀ c:Nat,Ok 93 (E c)
 | 0=>okZ fun _=>rfl
 | c+1=>okL (tC (ok c) (tC (kU.ok c) tN)) (aoC aoN) (sl c) fun x=>θ
end cu
namespace lZ
def f(c:Nat)(e:EX)(g:Int):fm Int:=br (decide (g < 0)) (some (2,())) (br (decide (g > 12)) (some (2,())) (bd (eP.f c (EX.mk e.i e.s e.j e.l)) fun a=>br (decide (a.1 > 64)) (some (5,())) (bd (eU.f c (EX.mk e.i e.s e.j e.l)) fun b=>br (decide (b.1 > 16)) (some (12,())) (bd (cu.f c (EX.mk e.i e.s e.j e.l) g) fun d=>some (d.1,())))))
def E(c:Nat):Entry:=⟨[(.rc false),(.int .i64)],[(.int .i64)],fun x=>f c x.1 x.2.1⟩
theorem ok(c:Nat):Ok 57 (E c):=fo c (tC (eP.ok c) (tC (eU.ok c) (tC (cu.ok c) tN))) fun x=>θ
end lZ
namespace qg
def f(c:Nat)(a:Int):fm EX:=some ((EX.mk 1 (⟨#[]⟩:fg) a []),())
def E(c:Nat):Entry:=⟨[(.int .i64)],[(.rc false)],fun x=>f c x.1⟩
theorem ok(c:Nat):Ok 15 (E c):=fo c tN fun x=>θ
end qg
namespace fB
def f(c:Nat)(a:fg):fm EX:=some ((EX.mk 0 a 0 []),())
def E(c:Nat):Entry:=⟨[.str],[(.rc false)],fun x=>f c x.1⟩
theorem ok(c:Nat):Ok 16 (E c):=fo c tN fun x=>θ
end fB
namespace sQ
def f(c:Nat)(d:Int)(a:EX)(b:EX):fm EX:=some ((EX.mk d (⟨#[]⟩:fg) 0 [(EX.mk a.i a.s a.j a.l),(EX.mk b.i b.s b.j b.l)]),())
def E(c:Nat):Entry:=⟨[(.int .i64),(.rc false),(.rc false)],[(.rc false)],fun x=>f c x.1 x.2.1 x.2.2.1⟩
theorem ok(c:Nat):Ok 36 (E c):=fo c tN fun x=>θ
end sQ
end
end Go.Q
