import Derived.Test.YtkoahpnmchgliaaGreatDoorETG12
set_option linter.all false
set_option maxRecDepth 100000
namespace Go.Q
open Go.IntKind (i64)
open Go Go.RowKit
open Go.Rx (br bd sIdx sCat sCut iQuo iRem iShl)
noncomputable section
namespace aG
def r0{ρ:Type}(c:Nat)(o:(List TV)→EX→TV→Option ((List TV)×Bool×Unit))(k:List TV)(p:Int)(q:fi)(r:Int)(h:List EX)(t:Bool)(u v:fi)(w:Bool)(m n:fi)(g:Int)(e:List TV)(K:Int→(List TV)→Option ρ)(E0:(List TV)→Option ρ):Option ρ:=br (decide (g < (h.length:Int))) (bd (idxL h g) fun a=>bd (aQ.f c k (EX.mk a.i a.s a.j a.l)) fun b=>bd (apL true 80 e [b.1]) fun d =>
 K (i64.wrap (g+1)) d) (
 E0 e)
def l0(c:Nat)(d:(List TV)→EX→TV→Option ((List TV)×Bool×Unit))(e:List TV)(f:Int)(g:fi)(h:Int)(i:List EX)(j:Bool)(k l:fi)(m:Bool)(a b:fi):Nat→Int→(List TV)→Option (((List TV)×Unit)×Unit)
 | 0,_,_=>none
 | n+1,v1,v12=>r0 c d e f g h i j k l m a b v1 v12 (l0 c d e f g h i j k l m a b n) (fun o=>some ((o,()),()))
def sh0:ShS:=⟨[.s (.sl yV),.a 3,.s (.ptr 0 0),.a 3,.s (.ptr 2 0),.s (.row 3),.s (.int .i64),.a 93],[.cells [.s (.int .i64),.s .str,.s (.int .i64),.s (.sl (.rc false))] 26,.gone,.cells [.s .bool,.s .str,.s .str,.s .bool,.s .str,.s .str] 44,.row yV 44 false]⟩
def S0(p:(List TV)×Int×Int×fi×Int×(List EX)×Bool×fi×fi×Bool×fi×fi×(List TV)×Unit):St:=sh0.b p
def xh0:ShS:=⟨[.s (.sl yV),.a 3,.s (.ptr 0 0),.a 3,.s (.ptr 2 0),.s (.row 3),.a 94],[.cells [.s (.int .i64),.s .str,.s (.int .i64),.s (.sl (.rc false))] 26,.gone,.cells [.s .bool,.s .str,.s .str,.s .bool,.s .str,.s .str] 44,.row yV 44 false]⟩
def o0(d:List TV)(e:Int)(f:fi)(g:Int)(h:List EX)(i:Bool)(j k:fi)(l:Bool)(a c:fi)(y:((List TV)×Unit)×Unit):Alt:=.one (.exit 0) (xh0.b (d,e,f,g,h,i,j,k,l,a,c,y.1.1,()))
def r1{ρ:Type}(c:Nat)(n:(List TV)→EX→TV→Option ((List TV)×Bool×Unit))(z:Int)(A:fi)(B:Int)(m:List EX)(C:List TV)(D:Bool)(E o:fi)(p:Bool)(q r:fi)(t:Bool)(u v:fi)(w:Bool)(x y:fi)(f:List TV)(h:List TV)(k:Bool)(g:Int)(K:(List TV)→Bool→Int→Option ρ)(E0:(List TV)→Bool→Option ρ):Option ρ:=br (decide (g < (m.length:Int))) (br k (bd (idxL m g) fun a=>bd (idxB f.length g) fun b=>bd (f[b]?) fun d=>bd (n h (EX.mk a.i a.s a.j a.l) d) fun e =>
 K e.1 e.2.1 (i64.wrap (g+1))) (
 E0 h k)) (
 E0 h k)
def l1(c:Nat)(m:(List TV)→EX→TV→Option ((List TV)×Bool×Unit))(o:Int)(p:fi)(q:Int)(r:List EX)(s:List TV)(t:Bool)(u a:fi)(b:Bool)(d e:fi)(f:Bool)(g h:fi)(i:Bool)(j k:fi)(l:List TV):Nat→(List TV)→Bool→Int→Option (((List TV)×Bool×Unit)×Unit)
 | 0,_,_,_=>none
 | n+1,v0,v1,v2=>r1 c m o p q r s t u a b d e f g h i j k l v0 v1 v2 (l1 c m o p q r s t u a b d e f g h i j k l n) (fun v w=>some ((v,w,()),()))
def sh1:ShS:=⟨[.a 4,.s (.ptr 0 0),.a 6,.s (.row 7),.a 2,.s (.sl yV),.s .bool,.s (.int .i64),.a 87],[.cells [.s (.int .i64),.s .str,.s (.int .i64),.s (.sl (.rc false))] 26,.gone,.gone,.gone,.row yV 44 false,.cells [.s .bool,.s .str,.s .str,.s .bool,.s .str,.s .str] 44,.cells [.s .bool,.s .str,.s .str,.s .bool,.s .str,.s .str] 44,.row yV 44 false]⟩
def S1(p:(List TV)×Bool×Int×Int×fi×Int×(List EX)×(List TV)×Bool×fi×fi×Bool×fi×fi×Bool×fi×fi×Bool×fi×fi×(List TV)×Unit):St:=sh1.b p
def xh1:ShS:=⟨[.a 14,.s (.sl yV),.s .bool,.a 88],[.cells [.s (.int .i64),.s .str,.s (.int .i64),.s (.sl (.rc false))] 26,.gone,.gone,.gone,.row yV 44 false,.cells [.s .bool,.s .str,.s .str,.s .bool,.s .str,.s .str] 44,.cells [.s .bool,.s .str,.s .str,.s .bool,.s .str,.s .str] 44,.row yV 44 false]⟩
def o1(m:Int)(n:fi)(o:Int)(p:List EX)(q:List TV)(r:Bool)(s a:fi)(c:Bool)(d e:fi)(f:Bool)(g h:fi)(i:Bool)(j k:fi)(l:List TV)(y:((List TV)×Bool×Unit)×Unit):Alt:=.one (.exit 2) (xh1.b (y.1.1,y.1.2.1,m,n,o,p,q,r,s,a,c,d,e,f,g,h,i,j,k,l,()))
def r2{ρ:Type}(c:Nat)(n:(List TV)→EX→TV→Option ((List TV)×Bool×Unit))(o:Int)(p:fi)(q:Int)(k:List EX)(m:List TV)(g:List TV)(h:Bool)(f:Int)(K:(List TV)→Bool→Int→Option ρ)(E0:(List TV)→Bool→Option ρ):Option ρ:=br (decide (f < (k.length:Int))) (br h (bd (idxL k f) fun a=>bd (idxB m.length f) fun b=>bd (m[b]?) fun d=>bd (n g (EX.mk a.i a.s a.j a.l) d) fun e =>
 K e.1 e.2.1 (i64.wrap (f+1))) (
 E0 g h)) (
 E0 g h)
def l2(c:Nat)(a:(List TV)→EX→TV→Option ((List TV)×Bool×Unit))(b:Int)(d:fi)(e:Int)(f:List EX)(g:List TV):Nat→(List TV)→Bool→Int→Option (((List TV)×Bool×Unit)×Unit)
 | 0,_,_,_=>none
 | n+1,v0,v1,v2=>r2 c a b d e f g v0 v1 v2 (l2 c a b d e f g n) (fun h i=>some ((h,i,()),()))
def sh2:ShS:=⟨[.a 4,.s (.ptr 0 0),.a 6,.s (.row 4),.a 2,.s (.sl yV),.s .bool,.s (.int .i64),.a 87],[.cells [.s (.int .i64),.s .str,.s (.int .i64),.s (.sl (.rc false))] 26,.gone,.gone,.gone,.row yV 44 false]⟩
def S2(p:(List TV)×Bool×Int×Int×fi×Int×(List EX)×(List TV)×Unit):St:=sh2.b p
def xh2:ShS:=⟨[.a 14,.s (.sl yV),.s .bool,.a 88],[.cells [.s (.int .i64),.s .str,.s (.int .i64),.s (.sl (.rc false))] 26,.gone,.gone,.gone,.row yV 44 false]⟩
def o2(a:Int)(c:fi)(d:Int)(e:List EX)(f:List TV)(y:((List TV)×Bool×Unit)×Unit):Alt:=.one (.exit 2) (xh2.b (y.1.1,y.1.2.1,a,c,d,e,f,()))
def fb(c:Nat)(t:(List TV)→EX→TV→Option ((List TV)×Bool×Unit))(r:List TV)(q:EX)(u:TV):Option ((List TV)×Bool×Unit):=bd (aQ.f c r (EX.mk q.i q.s q.j q.l)) fun a=>bd (dD.f c u a.1) fun b=>bd (dA.f c b.1) fun d=>br d.1 (some ([],false,())) (br (q.i==0) (some (r,true,())) (br (q.i==1) (bd (lK.f c r q.j b.1) fun e=>some (e.1,e.2.1,())) (bd (l0 c t r q.i q.s q.j q.l b.1.1.1 b.1.1.2.1 b.1.1.2.2.1 b.1.2.1.1 b.1.2.1.2.1 b.1.2.1.2.2.1 (c+40) 0 []) fun e=>bd (iC.f c b.1) fun g=>br (q.i != 2) (bd (idxB e.1.1.length 0) fun h=>bd (e.1.1[h]?) fun k=>bd (idxB e.1.1.length 1) fun m=>bd (e.1.1[m]?) fun n=>bd (gV.f c q.i b.1 k n) fun o=>bd (l1 c t q.i q.s q.j q.l [g.1] o.1.1.1 o.1.1.2.1 o.1.1.2.2.1 o.1.2.1.1 o.1.2.1.2.1 o.1.2.1.2.2.1 o.2.1.1.1 o.2.1.1.2.1 o.2.1.1.2.2.1 o.2.1.2.1.1 o.2.1.2.1.2.1 o.2.1.2.1.2.2.1 [o.1,o.2.1] (c+40) r true 0) fun p=>some (p.1.1,p.1.2.1,())) (bd (l2 c t q.i q.s q.j q.l [g.1] (c+40) r true 0) fun h=>some (h.1.1,h.1.2.1,())))))
def f(c:Nat):(List TV)→EX→TV→Option ((List TV)×Bool×Unit):=c.rec (fun _ _ _=>none) fun c a=>fb c a
def E(c:Nat):Entry:=⟨[(.sl yV),(.rc false),yV],[(.sl yV),.bool],fun x=>f c x.1 x.2.1 x.2.2.1⟩
def anns:FuncId→FA:=annsL [(59,⟨annOf [(0,⟨kx 104 [0,4,8,9,10],[⟨.tmp 9,yV,44⟩],[1]⟩,⟨kx 104 [0,4,6,7,8,9],[⟨.tmp 9,yV,44⟩],[1]⟩),(1,⟨kx 104 [4,11,14,15,16],[],[2,3]⟩,⟨kx 104 [6,7,14,15],[],[2,3]⟩)],none,[13]⟩)]
def tb(c:Nat):List (FuncId×Entry):=[(53,dA.E c),(58,aQ.E c),(59,E c),(84,dD.E c),(88,iC.E c),(90,lK.E c),(91,gV.E c)]
def adh(c:Nat):List (Nat×(St→Option LTE)):=[(0,sumE sh0 fun(p:(List TV)×Int×Int×fi×Int×(List EX)×Bool×fi×fi×Bool×fi×fi×(List TV)×Unit)=>⟨((List TV)×Unit)×Unit,l0 c (f c) p.1 p.2.2.1 p.2.2.2.1 p.2.2.2.2.1 p.2.2.2.2.2.1 p.2.2.2.2.2.2.1 p.2.2.2.2.2.2.2.1 p.2.2.2.2.2.2.2.2.1 p.2.2.2.2.2.2.2.2.2.1 p.2.2.2.2.2.2.2.2.2.2.1 p.2.2.2.2.2.2.2.2.2.2.2.1 (c+40) p.2.1 p.2.2.2.2.2.2.2.2.2.2.2.2.1,o0 p.1 p.2.2.1 p.2.2.2.1 p.2.2.2.2.1 p.2.2.2.2.2.1 p.2.2.2.2.2.2.1 p.2.2.2.2.2.2.2.1 p.2.2.2.2.2.2.2.2.1 p.2.2.2.2.2.2.2.2.2.1 p.2.2.2.2.2.2.2.2.2.2.1 p.2.2.2.2.2.2.2.2.2.2.2.1⟩),
 (1,sumE sh1 fun(p:(List TV)×Bool×Int×Int×fi×Int×(List EX)×(List TV)×Bool×fi×fi×Bool×fi×fi×Bool×fi×fi×Bool×fi×fi×(List TV)×Unit)=>⟨((List TV)×Bool×Unit)×Unit,l1 c (f c) p.2.2.2.1 p.2.2.2.2.1 p.2.2.2.2.2.1 p.2.2.2.2.2.2.1 p.2.2.2.2.2.2.2.1 p.2.2.2.2.2.2.2.2.1 p.2.2.2.2.2.2.2.2.2.1 p.2.2.2.2.2.2.2.2.2.2.1 p.2.2.2.2.2.2.2.2.2.2.2.1 p.2.2.2.2.2.2.2.2.2.2.2.2.1 p.2.2.2.2.2.2.2.2.2.2.2.2.2.1 p.2.2.2.2.2.2.2.2.2.2.2.2.2.2.1 p.2.2.2.2.2.2.2.2.2.2.2.2.2.2.2.1 p.2.2.2.2.2.2.2.2.2.2.2.2.2.2.2.2.1 p.2.2.2.2.2.2.2.2.2.2.2.2.2.2.2.2.2.1 p.2.2.2.2.2.2.2.2.2.2.2.2.2.2.2.2.2.2.1 p.2.2.2.2.2.2.2.2.2.2.2.2.2.2.2.2.2.2.2.1 p.2.2.2.2.2.2.2.2.2.2.2.2.2.2.2.2.2.2.2.2.1 (c+40) p.1 p.2.1 p.2.2.1,o1 p.2.2.2.1 p.2.2.2.2.1 p.2.2.2.2.2.1 p.2.2.2.2.2.2.1 p.2.2.2.2.2.2.2.1 p.2.2.2.2.2.2.2.2.1 p.2.2.2.2.2.2.2.2.2.1 p.2.2.2.2.2.2.2.2.2.2.1 p.2.2.2.2.2.2.2.2.2.2.2.1 p.2.2.2.2.2.2.2.2.2.2.2.2.1 p.2.2.2.2.2.2.2.2.2.2.2.2.2.1 p.2.2.2.2.2.2.2.2.2.2.2.2.2.2.1 p.2.2.2.2.2.2.2.2.2.2.2.2.2.2.2.1 p.2.2.2.2.2.2.2.2.2.2.2.2.2.2.2.2.1 p.2.2.2.2.2.2.2.2.2.2.2.2.2.2.2.2.2.1 p.2.2.2.2.2.2.2.2.2.2.2.2.2.2.2.2.2.2.1 p.2.2.2.2.2.2.2.2.2.2.2.2.2.2.2.2.2.2.2.1 p.2.2.2.2.2.2.2.2.2.2.2.2.2.2.2.2.2.2.2.2.1⟩),
 (1,sumE sh2 fun(p:(List TV)×Bool×Int×Int×fi×Int×(List EX)×(List TV)×Unit)=>⟨((List TV)×Bool×Unit)×Unit,l2 c (f c) p.2.2.2.1 p.2.2.2.2.1 p.2.2.2.2.2.1 p.2.2.2.2.2.2.1 p.2.2.2.2.2.2.2.1 (c+40) p.1 p.2.1 p.2.2.1,o2 p.2.2.2.1 p.2.2.2.2.1 p.2.2.2.2.2.1 p.2.2.2.2.2.2.1 p.2.2.2.2.2.2.2.1⟩)]
def ls(c:Nat):List (Nat×FuncId×Sums):=[(13,59,sumsL (adh c))]
def it0{ρ:Type}(c n:Nat)(a:St)(k:KE ρ):Option ρ:=itG anns (ls c) (tb c) c 13 59 0 3 (sumsL (adh c)) n a k
theorem t0{ρ:Type}(c n:Nat)(g:List TV)(r h:Int)(i:fi)(j:Int)(l:List EX)(m:Bool)(o p:fi)(q:Bool)(a d:fi)(e:List TV)(k:KE ρ):it0 c (n+1) (S0 (g,r,h,i,j,l,m,o,p,q,a,d,e,())) k=r0 c (f c) g h i j l m o p q a d r e (fun t u=>it0 c n (S0 (g,t,h,i,j,l,m,o,p,q,a,d,u,())) k) (fun s=>k (.exit 0) (xh0.b (g,h,i,j,l,m,o,p,q,a,d,s,()))):=θ
theorem u0{ρ:Type}(c:Nat)(e:List TV)(g:Int)(h:fi)(i:Int)(j:List EX)(l:Bool)(m o:fi)(p:Bool)(a b:fi)(k:KE ρ):∀ (n:Nat) (q:Int) (d:List TV),it0 c n (S0 (e,q,g,h,i,j,l,m,o,p,a,b,d,())) k=bd (l0 c (f c) e g h i j l m o p a b n q d) fun y=>altK k (o0 e g h i j l m o p a b y)
 | 0,_,_=>by rw[l0,bd_none];rfl
 | n+1,q,d=>by
  rw[t0];simp only[l0,r0,u0 c e g h i j l m o p a b k n,bd_br,bd_bd,bd_some',bd_none,br_t,br_f,o0,altK]
def it1{ρ:Type}(c n:Nat)(a:St)(k:KE ρ):Option ρ:=itG anns (ls c) (tb c) c 13 59 1 8 (sumsL (adh c)) n a k
theorem t1{ρ:Type}(c n:Nat)(x:List TV)(y:Bool)(z q:Int)(r:fi)(s:Int)(t:List EX)(u:List TV)(v:Bool)(w a:fi)(d:Bool)(e g:fi)(h:Bool)(i j:fi)(l:Bool)(m o:fi)(p:List TV)(k:KE ρ):it1 c (n+1) (S1 (x,y,z,q,r,s,t,u,v,w,a,d,e,g,h,i,j,l,m,o,p,())) k=r1 c (f c) q r s t u v w a d e g h i j l m o p x y z (fun C D E=>it1 c n (S1 (C,D,E,q,r,s,t,u,v,w,a,d,e,g,h,i,j,l,m,o,p,())) k) (fun A B=>k (.exit 2) (xh1.b (A,B,q,r,s,t,u,v,w,a,d,e,g,h,i,j,l,m,o,p,()))):=θ
theorem u1{ρ:Type}(c:Nat)(p:Int)(q:fi)(r:Int)(s:List EX)(t:List TV)(u:Bool)(v a:fi)(b:Bool)(d e:fi)(g:Bool)(h i:fi)(j:Bool)(l m:fi)(o:List TV)(k:KE ρ):∀ (n:Nat) (w:List TV) (x:Bool) (z:Int),it1 c n (S1 (w,x,z,p,q,r,s,t,u,v,a,b,d,e,g,h,i,j,l,m,o,())) k=bd (l1 c (f c) p q r s t u v a b d e g h i j l m o n w x z) fun y=>altK k (o1 p q r s t u v a b d e g h i j l m o y)
 | 0,_,_,_=>by rw[l1,bd_none];rfl
 | n+1,w,x,z=>by
  rw[t1];simp only[l1,r1,u1 c p q r s t u v a b d e g h i j l m o k n,bd_br,bd_bd,bd_some',bd_none,br_t,br_f,o1,altK]
def it2{ρ:Type}(c n:Nat)(a:St)(k:KE ρ):Option ρ:=itG anns (ls c) (tb c) c 13 59 1 5 (sumsL (adh c)) n a k
theorem t2{ρ:Type}(c n:Nat)(i:List TV)(j:Bool)(l a:Int)(d:fi)(e:Int)(g:List EX)(h:List TV)(k:KE ρ):it2 c (n+1) (S2 (i,j,l,a,d,e,g,h,())) k=r2 c (f c) a d e g h i j l (fun p q r=>it2 c n (S2 (p,q,r,a,d,e,g,h,())) k) (fun m o=>k (.exit 2) (xh2.b (m,o,a,d,e,g,h,()))):=θ
theorem u2{ρ:Type}(c:Nat)(a:Int)(b:fi)(d:Int)(e:List EX)(g:List TV)(k:KE ρ):∀ (n:Nat) (h:List TV) (i:Bool) (j:Int),it2 c n (S2 (h,i,j,a,b,d,e,g,())) k=bd (l2 c (f c) a b d e g n h i j) fun y=>altK k (o2 a b d e g y)
 | 0,_,_,_=>by rw[l2,bd_none];rfl
 | n+1,h,i,j=>by
  rw[t2];simp only[l2,r2,u2 c a b d e g k n,bd_br,bd_bd,bd_some',bd_none,br_t,br_f,o2,altK]
theorem sl(c:Nat):SL anns (ls c) (tb c) c (ls c):=slC (laC (fun _=>θ) (fun _ (x:(List TV)×Int×Int×fi×Int×(List EX)×Bool×fi×fi×Bool×fi×fi×(List TV)×Unit) k=>dN (u0 c x.1 x.2.2.1 x.2.2.2.1 x.2.2.2.2.1 x.2.2.2.2.2.1 x.2.2.2.2.2.2.1 x.2.2.2.2.2.2.2.1 x.2.2.2.2.2.2.2.2.1 x.2.2.2.2.2.2.2.2.2.1 x.2.2.2.2.2.2.2.2.2.2.1 x.2.2.2.2.2.2.2.2.2.2.2.1 k (c+40) x.2.1 x.2.2.2.2.2.2.2.2.2.2.2.2.1)) (laC (fun _=>θ) (fun _ (x:(List TV)×Bool×Int×Int×fi×Int×(List EX)×(List TV)×Bool×fi×fi×Bool×fi×fi×Bool×fi×fi×Bool×fi×fi×(List TV)×Unit) k=>dN (u1 c x.2.2.2.1 x.2.2.2.2.1 x.2.2.2.2.2.1 x.2.2.2.2.2.2.1 x.2.2.2.2.2.2.2.1 x.2.2.2.2.2.2.2.2.1 x.2.2.2.2.2.2.2.2.2.1 x.2.2.2.2.2.2.2.2.2.2.1 x.2.2.2.2.2.2.2.2.2.2.2.1 x.2.2.2.2.2.2.2.2.2.2.2.2.1 x.2.2.2.2.2.2.2.2.2.2.2.2.2.1 x.2.2.2.2.2.2.2.2.2.2.2.2.2.2.1 x.2.2.2.2.2.2.2.2.2.2.2.2.2.2.2.1 x.2.2.2.2.2.2.2.2.2.2.2.2.2.2.2.2.1 x.2.2.2.2.2.2.2.2.2.2.2.2.2.2.2.2.2.1 x.2.2.2.2.2.2.2.2.2.2.2.2.2.2.2.2.2.2.1 x.2.2.2.2.2.2.2.2.2.2.2.2.2.2.2.2.2.2.2.1 x.2.2.2.2.2.2.2.2.2.2.2.2.2.2.2.2.2.2.2.2.1 k (c+40) x.1 x.2.1 x.2.2.1)) (laC (fun _=>θ) (fun _ (x:(List TV)×Bool×Int×Int×fi×Int×(List EX)×(List TV)×Unit) k=>dN (u2 c x.2.2.2.1 x.2.2.2.2.1 x.2.2.2.2.2.1 x.2.2.2.2.2.2.1 x.2.2.2.2.2.2.2.1 k (c+40) x.1 x.2.1 x.2.2.1)) laN))) slN
theorem ok:∀ c:Nat,Ok 59 (E c)
 | 0=>okZ fun _=>rfl
 | c+1=>okL (tC (dA.ok c) (tC (aQ.ok c) (tC (ok c) (tC (dD.ok c) (tC (iC.ok c) (tC (lK.ok c) (tC (gV.ok c) tN))))))) (aoC aoN) (sl c) fun x=>θ
end aG
end
end Go.Q
namespace Go.Q
open Go Go.RowKit
open Go.Rx (br bd sIdx sCat sCut iQuo iRem iShl)
noncomputable section
namespace lg
def f(c:Nat)(a:fi):fo Bool:=some ((decide ((a.size:Int)≤450)),())
def E(c:Nat):Entry:=⟨[.str],[.bool],fun x=>f c x.1⟩
theorem ok(c:Nat):Ok 33 (E c):=fp c tN fun x=>θ
end lg
end
end Go.Q
namespace Go.Q
open Go.IntKind (i64)
open Go Go.RowKit
open Go.Rx (br bd sIdx sCat sCut iQuo iRem iShl)
noncomputable section
namespace fV
def r0{ρ:Type}(c:Nat)(f:EX→Int→Int→fo Int)(g h:Int)(k:fi)(m:Int)(e:List EX)(a d:Int)(K:Int→Int→Option ρ)(E0:Int→Option ρ):Option ρ:=br (decide (d < (e.length:Int))) (br (decide (a≥0)) (bd (idxL e d) fun b=>bd (f (EX.mk b.i b.s b.j b.l) (i64.wrap (g+1)) a) fun r3 =>
 K r3.1 (i64.wrap (d+1))) (
 E0 a)) (
 E0 a)
def l0(c:Nat)(a:EX→Int→Int→fo Int)(b d:Int)(e:fi)(f:Int)(g:List EX):Nat→Int→Int→Option ((Int×Unit)×Unit)
 | 0,_,_=>none
 | n+1,v1,v2=>r0 c a b d e f g v1 v2 (l0 c a b d e f g n) (fun h=>some ((h,()),()))
def sh0:ShS:=⟨[.a 1,.s (.int .i64),.s (.int .i64),.s (.ptr 0 0),.a 3,.s (.int .i64),.a 35],[.cells [.s (.int .i64),.s .str,.s (.int .i64),.s (.sl (.rc false))] 26]⟩
def S0(p:Int×Int×Int×Int×fi×Int×(List EX)×Unit):St:=sh0.b p
def xh0:ShS:=⟨[.a 2,.s (.int .i64),.a 40],[.cells [.s (.int .i64),.s .str,.s (.int .i64),.s (.sl (.rc false))] 26]⟩
def o0(f a:Int)(c:fi)(d:Int)(e:List EX)(y:(Int×Unit)×Unit):Alt:=.one (.exit 0) (xh0.b (y.1.1,a,c,d,e,()))
def fb(c:Nat)(e:EX→Int→Int→fo Int)(a:EX)(b:Int)(d:Int):fo Int:=br (decide (b > 24)) (some ((-1),())) (br (decide (d≤0)) (some ((-1),())) (bd (lg.f c a.s) fun r1=>br (!r1.1) (some ((-1),())) (bd (l0 c e b a.i a.s a.j a.l (c+40) (i64.wrap (d-1)) 0) fun g=>some (g.1.1,()))))
def f(c:Nat):EX→Int→Int→fo Int:=c.rec (fun _ _ _=>none) fun c a=>fb c a
def E(c:Nat):Entry:=⟨[(.rc false),(.int .i64),(.int .i64)],[(.int .i64)],fun x=>f c x.1 x.2.1 x.2.2.1⟩
def anns:FuncId→FA:=annsL [(11,⟨annOf [(0,⟨kx 43 [1,2,3,7],[],[]⟩,⟨kx 43 [2,6],[],[]⟩)],none,[13]⟩)]
def tb(c:Nat):List (FuncId×Entry):=[(11,E c),(33,lg.E c)]
def ahF(c:Nat):List (Nat×(St→Option LTE)):=[(0,sumE sh0 fun(p:Int×Int×Int×Int×fi×Int×(List EX)×Unit)=>⟨(Int×Unit)×Unit,l0 c (f c) p.1 p.2.2.2.1 p.2.2.2.2.1 p.2.2.2.2.2.1 p.2.2.2.2.2.2.1 (c+40) p.2.1 p.2.2.1,o0 p.1 p.2.2.2.1 p.2.2.2.2.1 p.2.2.2.2.2.1 p.2.2.2.2.2.2.1⟩)]
def ls(c:Nat):List (Nat×FuncId×Sums):=[(13,11,sumsL (ahF c))]
def it0{ρ:Type}(c n:Nat)(a:St)(k:KE ρ):Option ρ:=itG anns (ls c) (tb c) c 13 11 0 1 (sumsL (ahF c)) n a k
theorem t0{ρ:Type}(c n:Nat)(h i j a:Int)(d:fi)(e:Int)(g:List EX)(k:KE ρ):it0 c (n+1) (S0 (h,i,j,a,d,e,g,())) k=r0 c (f c) h a d e g i j (fun m o=>it0 c n (S0 (h,m,o,a,d,e,g,())) k) (fun l=>k (.exit 0) (xh0.b (l,a,d,e,g,()))):=θ
theorem u0{ρ:Type}(c:Nat)(a b:Int)(d:fi)(e:Int)(g:List EX)(k:KE ρ):∀ (n:Nat) (h i:Int),it0 c n (S0 (a,h,i,b,d,e,g,())) k=bd (l0 c (f c) a b d e g n h i) fun y=>altK k (o0 a b d e g y)
 | 0,_,_=>by rw[l0,bd_none];rfl
 | n+1,h,i=>by
  rw[t0];simp only[l0,r0,u0 c a b d e g k n,bd_br,bd_bd,bd_some',bd_none,br_t,br_f,o0,altK]
theorem sl(c:Nat):SL anns (ls c) (tb c) c (ls c):=slC (laC (fun _=>θ) (fun _ (x:Int×Int×Int×Int×fi×Int×(List EX)×Unit) k=>dN (u0 c x.1 x.2.2.2.1 x.2.2.2.2.1 x.2.2.2.2.2.1 x.2.2.2.2.2.2.1 k (c+40) x.2.1 x.2.2.1)) laN) slN
theorem ok:∀ c:Nat,Ok 11 (E c)
 | 0=>okZ fun _=>rfl
 | c+1=>okL (tC (ok c) (tC (lg.ok c) tN)) (aoC aoN) (sl c) fun x=>θ
end fV
namespace mr
def f(c:Nat)(a:EX):fo Bool:=bd (fV.f c (EX.mk a.i a.s a.j a.l) 0 80) fun r1=>some ((decide (r1.1≥0)),())
def E(c:Nat):Entry:=⟨[(.rc false)],[.bool],fun x=>f c x.1⟩
theorem ok(c:Nat):Ok 5 (E c):=fp c (tC (fV.ok c) tN) fun x=>θ
end mr
namespace fA
def r0{ρ:Type}(c:Nat)(f:EX→fo Int)(g:Int)(h:fi)(k:Int)(e:List EX)(d b:Int)(K:Int→Int→Option ρ)(E0:Int→Option ρ):Option ρ:=br (decide (b < (e.length:Int))) (bd (idxL e b) fun a=>bd (f (EX.mk a.i a.s a.j a.l)) fun r2 =>
 K (i64.wrap (d+r2.1)) (i64.wrap (b+1))) (
 E0 d)
def l0(c:Nat)(a:EX→fo Int)(b:Int)(d:fi)(e:Int)(f:List EX):Nat→Int→Int→Option ((Int×Unit)×Unit)
 | 0,_,_=>none
 | n+1,v0,v1=>r0 c a b d e f v0 v1 (l0 c a b d e f n) (fun g=>some ((g,()),()))
def sh0:ShS:=⟨[.a 1,.s (.ptr 0 0),.a 1,.s (.int .i64),.s (.int .i64),.a 16],[.cells [.s (.int .i64),.s .str,.s (.int .i64),.s (.sl (.rc false))] 26]⟩
def S0(p:Int×Int×Int×fi×Int×(List EX)×Unit):St:=sh0.b p
def xh0:ShS:=⟨[.a 3,.s (.int .i64),.a 17],[.cells [.s (.int .i64),.s .str,.s (.int .i64),.s (.sl (.rc false))] 26]⟩
def o0(a:Int)(c:fi)(d:Int)(e:List EX)(y:(Int×Unit)×Unit):Alt:=.one (.exit 0) (xh0.b (y.1.1,a,c,d,e,()))
def fb(c:Nat)(b:EX→fo Int)(a:EX):fo Int:=bd (l0 c b a.i a.s a.j a.l (c+40) 1 0) fun d=>some (d.1.1,())
def f(c:Nat):EX→fo Int:=c.rec (fun _=>none) fun c a=>fb c a
def E(c:Nat):Entry:=⟨[(.rc false)],[(.int .i64)],fun x=>f c x.1⟩
def anns:FuncId→FA:=annsL [(54,⟨annOf [(0,⟨kx 21 [1,3,4],[],[]⟩,⟨kx 21 [2,3],[],[]⟩)],none,[13]⟩)]
def tb(c:Nat):List (FuncId×Entry):=[(54,E c)]
def ahI(c:Nat):List (Nat×(St→Option LTE)):=[(0,sumE sh0 fun(p:Int×Int×Int×fi×Int×(List EX)×Unit)=>⟨(Int×Unit)×Unit,l0 c (f c) p.2.2.1 p.2.2.2.1 p.2.2.2.2.1 p.2.2.2.2.2.1 (c+40) p.1 p.2.1,o0 p.2.2.1 p.2.2.2.1 p.2.2.2.2.1 p.2.2.2.2.2.1⟩)]
def ls(c:Nat):List (Nat×FuncId×Sums):=[(13,54,sumsL (ahI c))]
def it0{ρ:Type}(c n:Nat)(a:St)(k:KE ρ):Option ρ:=itG anns (ls c) (tb c) c 13 54 0 1 (sumsL (ahI c)) n a k
theorem t0{ρ:Type}(c n:Nat)(h i a:Int)(d:fi)(e:Int)(g:List EX)(k:KE ρ):it0 c (n+1) (S0 (h,i,a,d,e,g,())) k=r0 c (f c) a d e g h i (fun l m=>it0 c n (S0 (l,m,a,d,e,g,())) k) (fun j=>k (.exit 0) (xh0.b (j,a,d,e,g,()))):=θ
theorem u0{ρ:Type}(c:Nat)(a:Int)(b:fi)(d:Int)(e:List EX)(k:KE ρ):∀ (n:Nat) (g h:Int),it0 c n (S0 (g,h,a,b,d,e,())) k=bd (l0 c (f c) a b d e n g h) fun y=>altK k (o0 a b d e y)
 | 0,_,_=>by rw[l0,bd_none];rfl
 | n+1,g,h=>by
  rw[t0];simp only[l0,r0,u0 c a b d e k n,bd_br,bd_bd,bd_some',bd_none,br_t,br_f,o0,altK]
theorem sl(c:Nat):SL anns (ls c) (tb c) c (ls c):=slC (laC (fun _=>θ) (fun _ (x:Int×Int×Int×fi×Int×(List EX)×Unit) k=>dN (u0 c x.2.2.1 x.2.2.2.1 x.2.2.2.2.1 x.2.2.2.2.2.1 k (c+40) x.1 x.2.1)) laN) slN
theorem ok:∀ c:Nat,Ok 54 (E c)
 | 0=>okZ fun _=>rfl
 | c+1=>okL (tC (ok c) tN) (aoC aoN) (sl c) fun x=>θ
end fA
namespace fB
def r0{ρ:Type}(c:Nat)(f:EX→fo Int)(g:Int)(h:fi)(k:Int)(e:List EX)(b d:Int)(K:Int→Int→Option ρ)(E0:Int→Option ρ):Option ρ:=br (decide (d < (e.length:Int))) (bd (idxL e d) fun a=>bd (f (EX.mk a.i a.s a.j a.l)) fun r2 =>
 K (if r2.1 > b then r2.1 else b) (i64.wrap (d+1))) (
 E0 b)
def l0(c:Nat)(a:EX→fo Int)(b:Int)(d:fi)(e:Int)(f:List EX):Nat→Int→Int→Option ((Int×Unit)×Unit)
 | 0,_,_=>none
 | n+1,v0,v1=>r0 c a b d e f v0 v1 (l0 c a b d e f n) (fun g=>some ((g,()),()))
def sh0:ShS:=⟨[.a 1,.s (.ptr 0 0),.a 1,.s (.int .i64),.s (.int .i64),.a 17],[.cells [.s (.int .i64),.s .str,.s (.int .i64),.s (.sl (.rc false))] 26]⟩
def S0(p:Int×Int×Int×fi×Int×(List EX)×Unit):St:=sh0.b p
def xh0:ShS:=⟨[.a 3,.s (.int .i64),.a 18],[.cells [.s (.int .i64),.s .str,.s (.int .i64),.s (.sl (.rc false))] 26]⟩
def o0(a:Int)(c:fi)(d:Int)(e:List EX)(y:(Int×Unit)×Unit):Alt:=.one (.exit 0) (xh0.b (y.1.1,a,c,d,e,()))
def fb(c:Nat)(b:EX→fo Int)(a:EX):fo Int:=bd (l0 c b a.i a.s a.j a.l (c+40) 0 0) fun d=>some ((i64.wrap (d.1.1+1)),())
def f(c:Nat):EX→fo Int:=c.rec (fun _=>none) fun c a=>fb c a
def E(c:Nat):Entry:=⟨[(.rc false)],[(.int .i64)],fun x=>f c x.1⟩
def anns:FuncId→FA:=annsL [(55,⟨annOf [(0,⟨kx 22 [1,3,4],[],[]⟩,⟨kx 22 [2,3],[],[]⟩)],none,[13]⟩)]
def tb(c:Nat):List (FuncId×Entry):=[(55,E c)]
def ahJ(c:Nat):List (Nat×(St→Option LTE)):=[(0,sumE sh0 fun(p:Int×Int×Int×fi×Int×(List EX)×Unit)=>⟨(Int×Unit)×Unit,l0 c (f c) p.2.2.1 p.2.2.2.1 p.2.2.2.2.1 p.2.2.2.2.2.1 (c+40) p.1 p.2.1,o0 p.2.2.1 p.2.2.2.1 p.2.2.2.2.1 p.2.2.2.2.2.1⟩)]
def ls(c:Nat):List (Nat×FuncId×Sums):=[(13,55,sumsL (ahJ c))]
def it0{ρ:Type}(c n:Nat)(a:St)(k:KE ρ):Option ρ:=itG anns (ls c) (tb c) c 13 55 0 1 (sumsL (ahJ c)) n a k
theorem t0{ρ:Type}(c n:Nat)(h i a:Int)(d:fi)(e:Int)(g:List EX)(k:KE ρ):it0 c (n+1) (S0 (h,i,a,d,e,g,())) k=r0 c (f c) a d e g h i (fun l m=>it0 c n (S0 (l,m,a,d,e,g,())) k) (fun j=>k (.exit 0) (xh0.b (j,a,d,e,g,()))):=θ
theorem u0{ρ:Type}(c:Nat)(a:Int)(b:fi)(d:Int)(e:List EX)(k:KE ρ):∀ (n:Nat) (g h:Int),it0 c n (S0 (g,h,a,b,d,e,())) k=bd (l0 c (f c) a b d e n g h) fun y=>altK k (o0 a b d e y)
 | 0,_,_=>by rw[l0,bd_none];rfl
 | n+1,g,h=>by
  rw[t0];simp only[l0,r0,u0 c a b d e k n,bd_br,bd_bd,bd_some',bd_none,br_t,br_f,o0,altK]
theorem sl(c:Nat):SL anns (ls c) (tb c) c (ls c):=slC (laC (fun _=>θ) (fun _ (x:Int×Int×Int×fi×Int×(List EX)×Unit) k=>dN (u0 c x.2.2.1 x.2.2.2.1 x.2.2.2.2.1 x.2.2.2.2.2.1 k (c+40) x.1 x.2.1)) laN) slN
theorem ok:∀ c:Nat,Ok 55 (E c)
 | 0=>okZ fun _=>rfl
 | c+1=>okL (tC (ok c) tN) (aoC aoN) (sl c) fun x=>θ
end fB
namespace lJ
def f(c:Nat)(b:EX)(d:Int):fo Int:=br (decide (b.i < 0)) (some (1,())) (br (decide (b.i > 7)) (some (1,())) (br (decide (b.i≤1)) (br (b.i==2) (br ((b.l.length:Int) != 1) (some (15,())) (br (b.i==0) (bd (fF.f c b.s) fun a=>br (a.1 != 0) (some (a.1,())) (br (b.i==1) (br (decide (b.j < 0)) (some (6,())) (br (decide (b.j≥d)) (some (6,())) (some (0,())))) (br (b.j != 0) (some (3,())) (some (0,()))))) (br (!(b.s.toList==(⟨#[]⟩:fi).toList)) (some (3,())) (br (b.i==1) (br (decide (b.j < 0)) (some (6,())) (br (decide (b.j≥d)) (some (6,())) (some (0,())))) (br (b.j != 0) (some (3,())) (some (0,()))))))) (br ((b.l.length:Int) != 0) (some (15,())) (br (b.i==0) (bd (fF.f c b.s) fun a=>br (a.1 != 0) (some (a.1,())) (br (b.i==1) (br (decide (b.j < 0)) (some (6,())) (br (decide (b.j≥d)) (some (6,())) (some (0,())))) (br (b.j != 0) (some (3,())) (some (0,()))))) (br (!(b.s.toList==(⟨#[]⟩:fi).toList)) (some (3,())) (br (b.i==1) (br (decide (b.j < 0)) (some (6,())) (br (decide (b.j≥d)) (some (6,())) (some (0,())))) (br (b.j != 0) (some (3,())) (some (0,())))))))) (br (b.i==2) (br ((b.l.length:Int) != 1) (some (15,())) (br (b.i==0) (bd (fF.f c b.s) fun a=>br (a.1 != 0) (some (a.1,())) (br (b.i==1) (br (decide (b.j < 0)) (some (6,())) (br (decide (b.j≥d)) (some (6,())) (some (0,())))) (br (b.j != 0) (some (3,())) (some (0,()))))) (br (!(b.s.toList==(⟨#[]⟩:fi).toList)) (some (3,())) (br (b.i==1) (br (decide (b.j < 0)) (some (6,())) (br (decide (b.j≥d)) (some (6,())) (some (0,())))) (br (b.j != 0) (some (3,())) (some (0,()))))))) (br ((b.l.length:Int) != 2) (some (15,())) (br (b.i==0) (bd (fF.f c b.s) fun a=>br (a.1 != 0) (some (a.1,())) (br (b.i==1) (br (decide (b.j < 0)) (some (6,())) (br (decide (b.j≥d)) (some (6,())) (some (0,())))) (br (b.j != 0) (some (3,())) (some (0,()))))) (br (!(b.s.toList==(⟨#[]⟩:fi).toList)) (some (3,())) (br (b.i==1) (br (decide (b.j < 0)) (some (6,())) (br (decide (b.j≥d)) (some (6,())) (some (0,())))) (br (b.j != 0) (some (3,())) (some (0,()))))))))))
def E(c:Nat):Entry:=⟨[(.rc false),(.int .i64)],[(.int .i64)],fun x=>f c x.1 x.2.1⟩
theorem ok(c:Nat):Ok 83 (E c):=fp c (tC (fF.ok c) tN) fun x=>θ
end lJ
namespace cZ
def r0{ρ:Type}(c:Nat)(f:EX→Int→fo Int)(g h:Int)(k:fi)(m:Int)(d:List EX)(b:Int)(K:Int→Option ρ)(E0:Int→Option ρ)(e:Option ρ):Option ρ:=br (decide (b < (d.length:Int))) (bd (idxL d b) fun a=>bd (f (EX.mk a.i a.s a.j a.l) g) fun r3=>br (r3.1 != 0) (
 E0 r3.1) (
 K (i64.wrap (b+1)))) (
 e)
def l0(c:Nat)(a:EX→Int→fo Int)(b d:Int)(e:fi)(f:Int)(g:List EX):Nat→Int→Option (Bool×(Int×Unit)×(Unit)×Unit)
 | 0,_=>none
 | n+1,v1=>r0 c a b d e f g v1 (l0 c a b d e f g n) (fun h=>some (true,(h,()),((()),()))) (some (false,(0,()),((()),())))
def sh0:ShS:=⟨[.a 1,.s (.int .i64),.s (.ptr 0 0),.a 3,.s (.int .i64),.a 24],[.cells [.s (.int .i64),.s .str,.s (.int .i64),.s (.sl (.rc false))] 26]⟩
def S0(p:Int×Int×Int×fi×Int×(List EX)×Unit):St:=sh0.b p
def xh0:ShS:=⟨[.a 4,.s (.int .i64),.a 26],[.cells [.s (.int .i64),.s .str,.s (.int .i64),.s (.sl (.rc false))] 26]⟩
def xh1:ShS:=⟨[.a 31],[.cells [.s (.int .i64),.s .str,.s (.int .i64),.s (.sl (.rc false))] 26]⟩
def o0(f a:Int)(c:fi)(d:Int)(e:List EX)(y:Bool×(Int×Unit)×(Unit)×Unit):Alt:=.two y.1 (.one .ret (xh0.b (y.2.1.1,a,c,d,e,()))) (.one (.exit 0) (xh1.b (a,c,d,e,())))
def fb(c:Nat)(e:EX→Int→fo Int)(a:EX)(b:Int):fo Int:=bd (lJ.f c (EX.mk a.i a.s a.j a.l) b) fun r1=>br (r1.1 != 0) (some (r1.1,())) (bd (l0 c e b a.i a.s a.j a.l (c+40) 0) fun d=>br d.1 (some (d.2.1.1,())) (some (0,())))
def f(c:Nat):EX→Int→fo Int:=c.rec (fun _ _=>none) fun c a=>fb c a
def E(c:Nat):Entry:=⟨[(.rc false),(.int .i64)],[(.int .i64)],fun x=>f c x.1 x.2.1⟩
def anns:FuncId→FA:=annsL [(56,⟨annOf [(0,⟨kx 31 [1,2,6],[],[]⟩,⟨kx 31 [4],[],[]⟩)],none,[13]⟩)]
def tb(c:Nat):List (FuncId×Entry):=[(56,E c),(83,lJ.E c)]
def ahK(c:Nat):List (Nat×(St→Option LTE)):=[(0,sumE sh0 fun(p:Int×Int×Int×fi×Int×(List EX)×Unit)=>⟨Bool×(Int×Unit)×(Unit)×Unit,l0 c (f c) p.1 p.2.2.1 p.2.2.2.1 p.2.2.2.2.1 p.2.2.2.2.2.1 (c+40) p.2.1,o0 p.1 p.2.2.1 p.2.2.2.1 p.2.2.2.2.1 p.2.2.2.2.2.1⟩)]
def ls(c:Nat):List (Nat×FuncId×Sums):=[(13,56,sumsL (ahK c))]
def it0{ρ:Type}(c n:Nat)(a:St)(k:KE ρ):Option ρ:=itG anns (ls c) (tb c) c 13 56 0 1 (sumsL (ahK c)) n a k
theorem t0{ρ:Type}(c n:Nat)(h i a:Int)(d:fi)(e:Int)(g:List EX)(k:KE ρ):it0 c (n+1) (S0 (h,i,a,d,e,g,())) k=r0 c (f c) h a d e g i (fun l=>it0 c n (S0 (h,l,a,d,e,g,())) k) (fun j=>k .ret (xh0.b (j,a,d,e,g,()))) (k (.exit 0) (xh1.b (a,d,e,g,()))):=θ
theorem u0{ρ:Type}(c:Nat)(a b:Int)(d:fi)(e:Int)(g:List EX)(k:KE ρ):∀ (n:Nat) (h:Int),it0 c n (S0 (a,h,b,d,e,g,())) k=bd (l0 c (f c) a b d e g n h) fun y=>altK k (o0 a b d e g y)
 | 0,_=>by rw[l0,bd_none];rfl
 | n+1,h=>by
  rw[t0];simp only[l0,r0,u0 c a b d e g k n,bd_br,bd_bd,bd_some',bd_none,br_t,br_f,o0,altK]
theorem sl(c:Nat):SL anns (ls c) (tb c) c (ls c):=slC (laC (fun _=>θ) (fun _ (x:Int×Int×Int×fi×Int×(List EX)×Unit) k=>dN (u0 c x.1 x.2.2.1 x.2.2.2.1 x.2.2.2.2.1 x.2.2.2.2.2.1 k (c+40) x.2.1)) laN) slN
theorem ok:∀ c:Nat,Ok 56 (E c)
 | 0=>okZ fun _=>rfl
 | c+1=>okL (tC (ok c) (tC (lJ.ok c) tN)) (aoC aoN) (sl c) fun x=>θ
end cZ
namespace kS
def f(c:Nat)(e:EX)(g:Int):fo Int:=br (decide (g < 0)) (some (2,())) (br (decide (g > 12)) (some (2,())) (bd (fA.f c (EX.mk e.i e.s e.j e.l)) fun a=>br (decide (a.1 > 64)) (some (5,())) (bd (fB.f c (EX.mk e.i e.s e.j e.l)) fun b=>br (decide (b.1 > 16)) (some (12,())) (bd (cZ.f c (EX.mk e.i e.s e.j e.l) g) fun d=>some (d.1,())))))
def E(c:Nat):Entry:=⟨[(.rc false),(.int .i64)],[(.int .i64)],fun x=>f c x.1 x.2.1⟩
theorem ok(c:Nat):Ok 29 (E c):=fp c (tC (fA.ok c) (tC (fB.ok c) (tC (cZ.ok c) tN))) fun x=>θ
end kS
namespace qE
def f(c:Nat)(a:Int):fo EX:=some ((EX.mk 1 (⟨#[]⟩:fi) a []),())
def E(c:Nat):Entry:=⟨[(.int .i64)],[(.rc false)],fun x=>f c x.1⟩
theorem ok(c:Nat):Ok 13 (E c):=fp c tN fun x=>θ
end qE
namespace fJ
def f(c:Nat)(a:fi):fo EX:=some ((EX.mk 0 a 0 []),())
def E(c:Nat):Entry:=⟨[.str],[(.rc false)],fun x=>f c x.1⟩
theorem ok(c:Nat):Ok 14 (E c):=fp c tN fun x=>θ
end fJ
namespace tY
def f(c:Nat)(d:Int)(a:EX)(b:EX):fo EX:=some ((EX.mk d (⟨#[]⟩:fi) 0 [(EX.mk a.i a.s a.j a.l),(EX.mk b.i b.s b.j b.l)]),())
def E(c:Nat):Entry:=⟨[(.int .i64),(.rc false),(.rc false)],[(.rc false)],fun x=>f c x.1 x.2.1 x.2.2.1⟩
theorem ok(c:Nat):Ok 35 (E c):=fp c tN fun x=>θ
end tY
end
end Go.Q
namespace Go.Q
open Go Go.RowKit
open Go.Rx (br bd sIdx sCat sCut iQuo iRem iShl)
noncomputable section
namespace mZ
def f(c:Nat)(a:Int):fo Bool:=br (decide (a≥2)) (some ((decide (a≤5)),())) (some (false,()))
def E(c:Nat):Entry:=⟨[(.int .i64)],[.bool],fun x=>f c x.1⟩
theorem ok(c:Nat):Ok 28 (E c):=fp c tN fun x=>θ
end mZ
namespace qB
def f(c:Nat)(d:Int)(a:EX)(b:EX):fo CX:=some ((CX.mk d [(EX.mk a.i a.s a.j a.l),(EX.mk b.i b.s b.j b.l)] []),())
def E(c:Nat):Entry:=⟨[(.int .i64),(.rc false),(.rc false)],[(.rc true)],fun x=>f c x.1 x.2.1 x.2.2.1⟩
theorem ok(c:Nat):Ok 39 (E c):=fp c tN fun x=>θ
end qB
namespace tZ
def f(c:Nat)(d:Int)(a:CX)(b:CX):fo CX:=some ((CX.mk d [] [(CX.mk a.i a.l a.m),(CX.mk b.i b.l b.m)]),())
def E(c:Nat):Entry:=⟨[(.int .i64),(.rc true),(.rc true)],[(.rc true)],fun x=>f c x.1 x.2.1 x.2.2.1⟩
theorem ok(c:Nat):Ok 20 (E c):=fp c tN fun x=>θ
end tZ
end
end Go.Q
