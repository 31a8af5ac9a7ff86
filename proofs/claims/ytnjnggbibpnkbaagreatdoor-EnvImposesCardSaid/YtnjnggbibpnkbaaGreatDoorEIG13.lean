import Derived.Test.YtnjnggbibpnkbaaGreatDoorEIG12
set_option linter.all false
set_option maxRecDepth 100000
namespace Go.Q
open Go.IntKind (i64)
open Go Go.RowKit
open Go.Rx (br bd sIdx sCat sCut iQuo iRem iShl)
noncomputable section
namespace aF
def r0{ρ:Type}(c:Nat)(o:(List TV)→EX→TV→Option ((List TV)×Bool×Unit))(k:List TV)(p:Int)(q:fg)(r:Int)(h:List EX)(t:Bool)(u v:fg)(w:Bool)(m n:fg)(g:Int)(e:List TV)(K:Int→(List TV)→Option ρ)(E0:(List TV)→Option ρ):Option ρ:=br (decide (g < (h.length:Int))) (bd (idxL h g) fun a=>bd (aQ.f c k (EX.mk a.i a.s a.j a.l)) fun b=>bd (apL true 80 e [b.1]) fun d =>
 K (i64.wrap (g+1)) d) (
 E0 e)
def l0(c:Nat)(d:(List TV)→EX→TV→Option ((List TV)×Bool×Unit))(e:List TV)(f:Int)(g:fg)(h:Int)(i:List EX)(j:Bool)(k l:fg)(m:Bool)(a b:fg):Nat→Int→(List TV)→Option (((List TV)×Unit)×Unit)
 | 0,_,_=>none
 | n+1,v1,v12=>r0 c d e f g h i j k l m a b v1 v12 (l0 c d e f g h i j k l m a b n) (fun o=>some ((o,()),()))
def sh0:ShS:=⟨[.s (.sl yV),.a 3,.s (.ptr 0 0),.a 3,.s (.ptr 2 0),.s (.row 3),.s (.int .i64),.a 93],[.cells [.s (.int .i64),.s .str,.s (.int .i64),.s (.sl (.rc false))] 26,.gone,.cells [.s .bool,.s .str,.s .str,.s .bool,.s .str,.s .str] 32,.row yV 32 false]⟩
def S0(p:(List TV)×Int×Int×fg×Int×(List EX)×Bool×fg×fg×Bool×fg×fg×(List TV)×Unit):St:=sh0.b p
def xh0:ShS:=⟨[.s (.sl yV),.a 3,.s (.ptr 0 0),.a 3,.s (.ptr 2 0),.s (.row 3),.a 94],[.cells [.s (.int .i64),.s .str,.s (.int .i64),.s (.sl (.rc false))] 26,.gone,.cells [.s .bool,.s .str,.s .str,.s .bool,.s .str,.s .str] 32,.row yV 32 false]⟩
def o0(d:List TV)(e:Int)(f:fg)(g:Int)(h:List EX)(i:Bool)(j k:fg)(l:Bool)(a c:fg)(y:((List TV)×Unit)×Unit):Alt:=.one (.exit 0) (xh0.b (d,e,f,g,h,i,j,k,l,a,c,y.1.1,()))
def r1{ρ:Type}(c:Nat)(n:(List TV)→EX→TV→Option ((List TV)×Bool×Unit))(z:Int)(A:fg)(B:Int)(m:List EX)(C:List TV)(D:Bool)(E o:fg)(p:Bool)(q r:fg)(t:Bool)(u v:fg)(w:Bool)(x y:fg)(f:List TV)(h:List TV)(k:Bool)(g:Int)(K:(List TV)→Bool→Int→Option ρ)(E0:(List TV)→Bool→Option ρ):Option ρ:=br (decide (g < (m.length:Int))) (br k (bd (idxL m g) fun a=>bd (idxB f.length g) fun b=>bd (f[b]?) fun d=>bd (n h (EX.mk a.i a.s a.j a.l) d) fun e =>
 K e.1 e.2.1 (i64.wrap (g+1))) (
 E0 h k)) (
 E0 h k)
def l1(c:Nat)(m:(List TV)→EX→TV→Option ((List TV)×Bool×Unit))(o:Int)(p:fg)(q:Int)(r:List EX)(s:List TV)(t:Bool)(u a:fg)(b:Bool)(d e:fg)(f:Bool)(g h:fg)(i:Bool)(j k:fg)(l:List TV):Nat→(List TV)→Bool→Int→Option (((List TV)×Bool×Unit)×Unit)
 | 0,_,_,_=>none
 | n+1,v0,v1,v2=>r1 c m o p q r s t u a b d e f g h i j k l v0 v1 v2 (l1 c m o p q r s t u a b d e f g h i j k l n) (fun v w=>some ((v,w,()),()))
def sh1:ShS:=⟨[.a 4,.s (.ptr 0 0),.a 6,.s (.row 7),.a 2,.s (.sl yV),.s .bool,.s (.int .i64),.a 87],[.cells [.s (.int .i64),.s .str,.s (.int .i64),.s (.sl (.rc false))] 26,.gone,.gone,.gone,.row yV 32 false,.cells [.s .bool,.s .str,.s .str,.s .bool,.s .str,.s .str] 32,.cells [.s .bool,.s .str,.s .str,.s .bool,.s .str,.s .str] 32,.row yV 32 false]⟩
def S1(p:(List TV)×Bool×Int×Int×fg×Int×(List EX)×(List TV)×Bool×fg×fg×Bool×fg×fg×Bool×fg×fg×Bool×fg×fg×(List TV)×Unit):St:=sh1.b p
def xh1:ShS:=⟨[.a 14,.s (.sl yV),.s .bool,.a 88],[.cells [.s (.int .i64),.s .str,.s (.int .i64),.s (.sl (.rc false))] 26,.gone,.gone,.gone,.row yV 32 false,.cells [.s .bool,.s .str,.s .str,.s .bool,.s .str,.s .str] 32,.cells [.s .bool,.s .str,.s .str,.s .bool,.s .str,.s .str] 32,.row yV 32 false]⟩
def o1(m:Int)(n:fg)(o:Int)(p:List EX)(q:List TV)(r:Bool)(s a:fg)(c:Bool)(d e:fg)(f:Bool)(g h:fg)(i:Bool)(j k:fg)(l:List TV)(y:((List TV)×Bool×Unit)×Unit):Alt:=.one (.exit 2) (xh1.b (y.1.1,y.1.2.1,m,n,o,p,q,r,s,a,c,d,e,f,g,h,i,j,k,l,()))
def r2{ρ:Type}(c:Nat)(n:(List TV)→EX→TV→Option ((List TV)×Bool×Unit))(o:Int)(p:fg)(q:Int)(k:List EX)(m:List TV)(g:List TV)(h:Bool)(f:Int)(K:(List TV)→Bool→Int→Option ρ)(E0:(List TV)→Bool→Option ρ):Option ρ:=br (decide (f < (k.length:Int))) (br h (bd (idxL k f) fun a=>bd (idxB m.length f) fun b=>bd (m[b]?) fun d=>bd (n g (EX.mk a.i a.s a.j a.l) d) fun e =>
 K e.1 e.2.1 (i64.wrap (f+1))) (
 E0 g h)) (
 E0 g h)
def l2(c:Nat)(a:(List TV)→EX→TV→Option ((List TV)×Bool×Unit))(b:Int)(d:fg)(e:Int)(f:List EX)(g:List TV):Nat→(List TV)→Bool→Int→Option (((List TV)×Bool×Unit)×Unit)
 | 0,_,_,_=>none
 | n+1,v0,v1,v2=>r2 c a b d e f g v0 v1 v2 (l2 c a b d e f g n) (fun h i=>some ((h,i,()),()))
def sh2:ShS:=⟨[.a 4,.s (.ptr 0 0),.a 6,.s (.row 4),.a 2,.s (.sl yV),.s .bool,.s (.int .i64),.a 87],[.cells [.s (.int .i64),.s .str,.s (.int .i64),.s (.sl (.rc false))] 26,.gone,.gone,.gone,.row yV 32 false]⟩
def S2(p:(List TV)×Bool×Int×Int×fg×Int×(List EX)×(List TV)×Unit):St:=sh2.b p
def xh2:ShS:=⟨[.a 14,.s (.sl yV),.s .bool,.a 88],[.cells [.s (.int .i64),.s .str,.s (.int .i64),.s (.sl (.rc false))] 26,.gone,.gone,.gone,.row yV 32 false]⟩
def o2(a:Int)(c:fg)(d:Int)(e:List EX)(f:List TV)(y:((List TV)×Bool×Unit)×Unit):Alt:=.one (.exit 2) (xh2.b (y.1.1,y.1.2.1,a,c,d,e,f,()))
def fb(c:Nat)(t:(List TV)→EX→TV→Option ((List TV)×Bool×Unit))(r:List TV)(q:EX)(u:TV):Option ((List TV)×Bool×Unit):=bd (aQ.f c r (EX.mk q.i q.s q.j q.l)) fun a=>bd (dN.f c u a.1) fun b=>bd (dM.f c b.1) fun d=>br d.1 (some ([],false,())) (br (q.i==0) (some (r,true,())) (br (q.i==1) (bd (kV.f c r q.j b.1) fun e=>some (e.1,e.2.1,())) (bd (l0 c t r q.i q.s q.j q.l b.1.1.1 b.1.1.2.1 b.1.1.2.2.1 b.1.2.1.1 b.1.2.1.2.1 b.1.2.1.2.2.1 (c+40) 0 []) fun e=>bd (gW.f c b.1) fun g=>br (q.i != 2) (bd (idxB e.1.1.length 0) fun h=>bd (e.1.1[h]?) fun k=>bd (idxB e.1.1.length 1) fun m=>bd (e.1.1[m]?) fun n=>bd (gB.f c q.i b.1 k n) fun o=>bd (l1 c t q.i q.s q.j q.l [g.1] o.1.1.1 o.1.1.2.1 o.1.1.2.2.1 o.1.2.1.1 o.1.2.1.2.1 o.1.2.1.2.2.1 o.2.1.1.1 o.2.1.1.2.1 o.2.1.1.2.2.1 o.2.1.2.1.1 o.2.1.2.1.2.1 o.2.1.2.1.2.2.1 [o.1,o.2.1] (c+40) r true 0) fun p=>some (p.1.1,p.1.2.1,())) (bd (l2 c t q.i q.s q.j q.l [g.1] (c+40) r true 0) fun h=>some (h.1.1,h.1.2.1,())))))
def f(c:Nat):(List TV)→EX→TV→Option ((List TV)×Bool×Unit):=c.rec (fun _ _ _=>none) fun c a=>fb c a
def E(c:Nat):Entry:=⟨[(.sl yV),(.rc false),yV],[(.sl yV),.bool],fun x=>f c x.1 x.2.1 x.2.2.1⟩
def anns:FuncId→FA:=annsL [(32,⟨annOf [(0,⟨kx 104 [0,4,8,9,10],[⟨.tmp 9,yV,32⟩],[1]⟩,⟨kx 104 [0,4,6,7,8,9],[⟨.tmp 9,yV,32⟩],[1]⟩),(1,⟨kx 104 [4,11,14,15,16],[],[2,3]⟩,⟨kx 104 [6,7,14,15],[],[2,3]⟩)],none,[13]⟩)]
def tb(c:Nat):List (FuncId×Entry):=[(32,E c),(61,dN.E c),(62,aQ.E c),(63,dM.E c),(64,kV.E c),(65,gW.E c),(66,gB.E c)]
def acO(c:Nat):List (Nat×(St→Option LTE)):=[(0,sumE sh0 fun(p:(List TV)×Int×Int×fg×Int×(List EX)×Bool×fg×fg×Bool×fg×fg×(List TV)×Unit)=>⟨((List TV)×Unit)×Unit,l0 c (f c) p.1 p.2.2.1 p.2.2.2.1 p.2.2.2.2.1 p.2.2.2.2.2.1 p.2.2.2.2.2.2.1 p.2.2.2.2.2.2.2.1 p.2.2.2.2.2.2.2.2.1 p.2.2.2.2.2.2.2.2.2.1 p.2.2.2.2.2.2.2.2.2.2.1 p.2.2.2.2.2.2.2.2.2.2.2.1 (c+40) p.2.1 p.2.2.2.2.2.2.2.2.2.2.2.2.1,o0 p.1 p.2.2.1 p.2.2.2.1 p.2.2.2.2.1 p.2.2.2.2.2.1 p.2.2.2.2.2.2.1 p.2.2.2.2.2.2.2.1 p.2.2.2.2.2.2.2.2.1 p.2.2.2.2.2.2.2.2.2.1 p.2.2.2.2.2.2.2.2.2.2.1 p.2.2.2.2.2.2.2.2.2.2.2.1⟩),
 (1,sumE sh1 fun(p:(List TV)×Bool×Int×Int×fg×Int×(List EX)×(List TV)×Bool×fg×fg×Bool×fg×fg×Bool×fg×fg×Bool×fg×fg×(List TV)×Unit)=>⟨((List TV)×Bool×Unit)×Unit,l1 c (f c) p.2.2.2.1 p.2.2.2.2.1 p.2.2.2.2.2.1 p.2.2.2.2.2.2.1 p.2.2.2.2.2.2.2.1 p.2.2.2.2.2.2.2.2.1 p.2.2.2.2.2.2.2.2.2.1 p.2.2.2.2.2.2.2.2.2.2.1 p.2.2.2.2.2.2.2.2.2.2.2.1 p.2.2.2.2.2.2.2.2.2.2.2.2.1 p.2.2.2.2.2.2.2.2.2.2.2.2.2.1 p.2.2.2.2.2.2.2.2.2.2.2.2.2.2.1 p.2.2.2.2.2.2.2.2.2.2.2.2.2.2.2.1 p.2.2.2.2.2.2.2.2.2.2.2.2.2.2.2.2.1 p.2.2.2.2.2.2.2.2.2.2.2.2.2.2.2.2.2.1 p.2.2.2.2.2.2.2.2.2.2.2.2.2.2.2.2.2.2.1 p.2.2.2.2.2.2.2.2.2.2.2.2.2.2.2.2.2.2.2.1 p.2.2.2.2.2.2.2.2.2.2.2.2.2.2.2.2.2.2.2.2.1 (c+40) p.1 p.2.1 p.2.2.1,o1 p.2.2.2.1 p.2.2.2.2.1 p.2.2.2.2.2.1 p.2.2.2.2.2.2.1 p.2.2.2.2.2.2.2.1 p.2.2.2.2.2.2.2.2.1 p.2.2.2.2.2.2.2.2.2.1 p.2.2.2.2.2.2.2.2.2.2.1 p.2.2.2.2.2.2.2.2.2.2.2.1 p.2.2.2.2.2.2.2.2.2.2.2.2.1 p.2.2.2.2.2.2.2.2.2.2.2.2.2.1 p.2.2.2.2.2.2.2.2.2.2.2.2.2.2.1 p.2.2.2.2.2.2.2.2.2.2.2.2.2.2.2.1 p.2.2.2.2.2.2.2.2.2.2.2.2.2.2.2.2.1 p.2.2.2.2.2.2.2.2.2.2.2.2.2.2.2.2.2.1 p.2.2.2.2.2.2.2.2.2.2.2.2.2.2.2.2.2.2.1 p.2.2.2.2.2.2.2.2.2.2.2.2.2.2.2.2.2.2.2.1 p.2.2.2.2.2.2.2.2.2.2.2.2.2.2.2.2.2.2.2.2.1⟩),
 (1,sumE sh2 fun(p:(List TV)×Bool×Int×Int×fg×Int×(List EX)×(List TV)×Unit)=>⟨((List TV)×Bool×Unit)×Unit,l2 c (f c) p.2.2.2.1 p.2.2.2.2.1 p.2.2.2.2.2.1 p.2.2.2.2.2.2.1 p.2.2.2.2.2.2.2.1 (c+40) p.1 p.2.1 p.2.2.1,o2 p.2.2.2.1 p.2.2.2.2.1 p.2.2.2.2.2.1 p.2.2.2.2.2.2.1 p.2.2.2.2.2.2.2.1⟩)]
def ls(c:Nat):List (Nat×FuncId×Sums):=[(13,32,sumsL (acO c))]
def it0{ρ:Type}(c n:Nat)(a:St)(k:KE ρ):Option ρ:=itG anns (ls c) (tb c) c 13 32 0 3 (sumsL (acO c)) n a k
theorem t0{ρ:Type}(c n:Nat)(g:List TV)(r h:Int)(i:fg)(j:Int)(l:List EX)(m:Bool)(o p:fg)(q:Bool)(a d:fg)(e:List TV)(k:KE ρ):it0 c (n+1) (S0 (g,r,h,i,j,l,m,o,p,q,a,d,e,())) k=r0 c (f c) g h i j l m o p q a d r e (fun t u=>it0 c n (S0 (g,t,h,i,j,l,m,o,p,q,a,d,u,())) k) (fun s=>k (.exit 0) (xh0.b (g,h,i,j,l,m,o,p,q,a,d,s,()))):=θ
theorem u0{ρ:Type}(c:Nat)(e:List TV)(g:Int)(h:fg)(i:Int)(j:List EX)(l:Bool)(m o:fg)(p:Bool)(a b:fg)(k:KE ρ):∀ (n:Nat) (q:Int) (d:List TV),it0 c n (S0 (e,q,g,h,i,j,l,m,o,p,a,b,d,())) k=bd (l0 c (f c) e g h i j l m o p a b n q d) fun y=>altK k (o0 e g h i j l m o p a b y)
 | 0,_,_=>by rw[l0,bd_none];rfl
 | n+1,q,d=>by
  rw[t0];simp only[l0,r0,u0 c e g h i j l m o p a b k n,bd_br,bd_bd,bd_some',bd_none,br_t,br_f,o0,altK]
def it1{ρ:Type}(c n:Nat)(a:St)(k:KE ρ):Option ρ:=itG anns (ls c) (tb c) c 13 32 1 8 (sumsL (acO c)) n a k
theorem t1{ρ:Type}(c n:Nat)(x:List TV)(y:Bool)(z q:Int)(r:fg)(s:Int)(t:List EX)(u:List TV)(v:Bool)(w a:fg)(d:Bool)(e g:fg)(h:Bool)(i j:fg)(l:Bool)(m o:fg)(p:List TV)(k:KE ρ):it1 c (n+1) (S1 (x,y,z,q,r,s,t,u,v,w,a,d,e,g,h,i,j,l,m,o,p,())) k=r1 c (f c) q r s t u v w a d e g h i j l m o p x y z (fun C D E=>it1 c n (S1 (C,D,E,q,r,s,t,u,v,w,a,d,e,g,h,i,j,l,m,o,p,())) k) (fun A B=>k (.exit 2) (xh1.b (A,B,q,r,s,t,u,v,w,a,d,e,g,h,i,j,l,m,o,p,()))):=θ
theorem u1{ρ:Type}(c:Nat)(p:Int)(q:fg)(r:Int)(s:List EX)(t:List TV)(u:Bool)(v a:fg)(b:Bool)(d e:fg)(g:Bool)(h i:fg)(j:Bool)(l m:fg)(o:List TV)(k:KE ρ):∀ (n:Nat) (w:List TV) (x:Bool) (z:Int),it1 c n (S1 (w,x,z,p,q,r,s,t,u,v,a,b,d,e,g,h,i,j,l,m,o,())) k=bd (l1 c (f c) p q r s t u v a b d e g h i j l m o n w x z) fun y=>altK k (o1 p q r s t u v a b d e g h i j l m o y)
 | 0,_,_,_=>by rw[l1,bd_none];rfl
 | n+1,w,x,z=>by
  rw[t1];simp only[l1,r1,u1 c p q r s t u v a b d e g h i j l m o k n,bd_br,bd_bd,bd_some',bd_none,br_t,br_f,o1,altK]
def it2{ρ:Type}(c n:Nat)(a:St)(k:KE ρ):Option ρ:=itG anns (ls c) (tb c) c 13 32 1 5 (sumsL (acO c)) n a k
theorem t2{ρ:Type}(c n:Nat)(i:List TV)(j:Bool)(l a:Int)(d:fg)(e:Int)(g:List EX)(h:List TV)(k:KE ρ):it2 c (n+1) (S2 (i,j,l,a,d,e,g,h,())) k=r2 c (f c) a d e g h i j l (fun p q r=>it2 c n (S2 (p,q,r,a,d,e,g,h,())) k) (fun m o=>k (.exit 2) (xh2.b (m,o,a,d,e,g,h,()))):=θ
theorem u2{ρ:Type}(c:Nat)(a:Int)(b:fg)(d:Int)(e:List EX)(g:List TV)(k:KE ρ):∀ (n:Nat) (h:List TV) (i:Bool) (j:Int),it2 c n (S2 (h,i,j,a,b,d,e,g,())) k=bd (l2 c (f c) a b d e g n h i j) fun y=>altK k (o2 a b d e g y)
 | 0,_,_,_=>by rw[l2,bd_none];rfl
 | n+1,h,i,j=>by
  rw[t2];simp only[l2,r2,u2 c a b d e g k n,bd_br,bd_bd,bd_some',bd_none,br_t,br_f,o2,altK]
theorem sl(c:Nat):SL anns (ls c) (tb c) c (ls c):=slC (laC (fun _=>θ) (fun _ (x:(List TV)×Int×Int×fg×Int×(List EX)×Bool×fg×fg×Bool×fg×fg×(List TV)×Unit) k=>dJ (u0 c x.1 x.2.2.1 x.2.2.2.1 x.2.2.2.2.1 x.2.2.2.2.2.1 x.2.2.2.2.2.2.1 x.2.2.2.2.2.2.2.1 x.2.2.2.2.2.2.2.2.1 x.2.2.2.2.2.2.2.2.2.1 x.2.2.2.2.2.2.2.2.2.2.1 x.2.2.2.2.2.2.2.2.2.2.2.1 k (c+40) x.2.1 x.2.2.2.2.2.2.2.2.2.2.2.2.1)) (laC (fun _=>θ) (fun _ (x:(List TV)×Bool×Int×Int×fg×Int×(List EX)×(List TV)×Bool×fg×fg×Bool×fg×fg×Bool×fg×fg×Bool×fg×fg×(List TV)×Unit) k=>dJ (u1 c x.2.2.2.1 x.2.2.2.2.1 x.2.2.2.2.2.1 x.2.2.2.2.2.2.1 x.2.2.2.2.2.2.2.1 x.2.2.2.2.2.2.2.2.1 x.2.2.2.2.2.2.2.2.2.1 x.2.2.2.2.2.2.2.2.2.2.1 x.2.2.2.2.2.2.2.2.2.2.2.1 x.2.2.2.2.2.2.2.2.2.2.2.2.1 x.2.2.2.2.2.2.2.2.2.2.2.2.2.1 x.2.2.2.2.2.2.2.2.2.2.2.2.2.2.1 x.2.2.2.2.2.2.2.2.2.2.2.2.2.2.2.1 x.2.2.2.2.2.2.2.2.2.2.2.2.2.2.2.2.1 x.2.2.2.2.2.2.2.2.2.2.2.2.2.2.2.2.2.1 x.2.2.2.2.2.2.2.2.2.2.2.2.2.2.2.2.2.2.1 x.2.2.2.2.2.2.2.2.2.2.2.2.2.2.2.2.2.2.2.1 x.2.2.2.2.2.2.2.2.2.2.2.2.2.2.2.2.2.2.2.2.1 k (c+40) x.1 x.2.1 x.2.2.1)) (laC (fun _=>θ) (fun _ (x:(List TV)×Bool×Int×Int×fg×Int×(List EX)×(List TV)×Unit) k=>dJ (u2 c x.2.2.2.1 x.2.2.2.2.1 x.2.2.2.2.2.1 x.2.2.2.2.2.2.1 x.2.2.2.2.2.2.2.1 k (c+40) x.1 x.2.1 x.2.2.1)) laN))) slN
theorem ok:∀ c:Nat,Ok 32 (E c)
 | 0=>okZ fun _=>rfl
 | c+1=>okL (tC (ok c) (tC (dN.ok c) (tC (aQ.ok c) (tC (dM.ok c) (tC (kV.ok c) (tC (gW.ok c) (tC (gB.ok c) tN))))))) (aoC aoN) (sl c) fun x=>θ
end aF
end
end Go.Q
namespace Go.Q
open Go.IntKind (i64)
open Go Go.RowKit
open Go.Rx (br bd sIdx sCat sCut iQuo iRem iShl)
noncomputable section
namespace lD
def f(c:Nat)(g:List TV)(e:EX)(h:TV):Option ((List TV)×Bool×Int×Unit):=bd (oq.f c g (EX.mk e.i e.s e.j e.l)) fun a=>br (a.1 != 0) (some ([],false,a.1,())) (bd (gm.f c h) fun b=>br (b.1 != 0) (some ([],false,b.1,())) (bd (aF.f c g (EX.mk e.i e.s e.j e.l) h) fun d=>some (d.1,d.2.1,0,())))
def E(c:Nat):Entry:=⟨[(.sl yV),(.rc false),yV],[(.sl yV),.bool,(.int .i64)],fun x=>f c x.1 x.2.1 x.2.2.1⟩
theorem ok(c:Nat):Ok 9 (E c):=fo c (tC (oq.ok c) (tC (gm.ok c) (tC (aF.ok c) tN))) fun x=>θ
end lD
namespace dB
def anns:FuncId→FA:=annsL [(10,⟨annOf [(0,⟨kx 26 [0,1,5],[],[]⟩,⟨kx 26 [4],[],[]⟩)],none,[]⟩)]
def r0{ρ:Type}(c:Nat)(f h:List TV)(e:Int)(K:Int→Option ρ)(E0:Option ρ)(g:Option ρ):Option ρ:=br (decide (e < (f.length:Int))) (bd (idxL f e) fun a=>bd (idxL h e) fun b=>bd (some (!(((a.1.1==b.1.1)&&((a.1.2.1==b.1.2.1)&&((a.1.2.2.1==b.1.2.2.1)&&true)))&&(((a.2.1.1==b.2.1.1)&&((a.2.1.2.1==b.2.1.2.1)&&((a.2.1.2.2.1==b.2.1.2.2.1)&&true)))&&true)))) fun d=>br d (
 E0) (
 K (i64.wrap (e+1)))) (
 g)
def l0(c:Nat)(a b:List TV):Nat→Int→Option (Bool×(Unit)×(Unit)×Unit)
 | 0,_=>none
 | n+1,v2=>r0 c a b v2 (l0 c a b n) (some (true,(()),((()),()))) (some (false,(()),((()),())))
def sh0:ShS:=⟨[.s (.sl yV),.s (.sl yV),.a 3,.s (.int .i64),.a 20],[]⟩
def S0(p:(List TV)×(List TV)×Int×Unit):St:=sh0.b p
def xh0:ShS:=⟨[.a 4,.s .bool,.a 21],[]⟩
def xh1:ShS:=⟨[.a 26],[]⟩
def o0(a c:List TV)(y:Bool×(Unit)×(Unit)×Unit):Alt:=.two y.1 (.one .ret (xh0.b (false,()))) (.one (.exit 0) (xh1.b (())))
def tb(c:Nat):List (FuncId×Entry):=[]
def ahj(c:Nat):List (Nat×(St→Option LTE)):=[(0,sumE sh0 fun(p:(List TV)×(List TV)×Int×Unit)=>⟨Bool×(Unit)×(Unit)×Unit,l0 c p.1 p.2.1 (c+40) p.2.2.1,o0 p.1 p.2.1⟩)]
def ls(c:Nat):List (Nat×FuncId×Sums):=[(13,10,sumsL (ahj c))]
def it0{ρ:Type}(c n:Nat)(a:St)(k:KE ρ):Option ρ:=itG anns (ls c) (tb c) c 13 10 0 0 (sumsL (ahj c)) n a k
theorem t0{ρ:Type}(c n:Nat)(a d:List TV)(e:Int)(k:KE ρ):it0 c (n+1) (S0 (a,d,e,())) k=r0 c a d e (fun f=>it0 c n (S0 (a,d,f,())) k) (k .ret (xh0.b (false,()))) (k (.exit 0) (xh1.b (()))):=θ
theorem u0{ρ:Type}(c:Nat)(a b:List TV)(k:KE ρ):∀ (n:Nat) (d:Int),it0 c n (S0 (a,b,d,())) k=bd (l0 c a b n d) fun y=>altK k (o0 a b y)
 | 0,_=>by rw[l0,bd_none];rfl
 | n+1,d=>by
  rw[t0];simp only[l0,r0,u0 c a b k n,bd_br,bd_bd,bd_some',bd_none,br_t,br_f,o0,altK]
theorem sl(c:Nat):SL anns (ls c) (tb c) c (ls c):=slC (laC (fun _=>θ) (fun _ (x:(List TV)×(List TV)×Int×Unit) k=>dJ (u0 c x.1 x.2.1 k (c+40) x.2.2.1)) laN) slN
def f(c:Nat)(a:List TV)(b:List TV):fm Bool:=br ((a.length:Int) !=(b.length:Int)) (some (false,())) (bd (l0 c a b (c+40) 0) fun d=>br d.1 (some (false,())) (some (true,())))
def E(c:Nat):Entry:=⟨[(.sl yV),(.sl yV)],[.bool],fun x=>f c x.1 x.2.1⟩
theorem ok(c:Nat):Ok 10 (E c):=okL tN (aoC aoN) (sl c) fun x=>θ
end dB
end
end Go.Q
namespace Go.Q
open Go Go.RowKit
open Go.Rx (br bd sIdx sCat sCut iQuo iRem iShl)
noncomputable section
namespace qc
def f(c:Nat)(d:Int)(a:EX)(b:EX):fm CX:=some ((CX.mk d [(EX.mk a.i a.s a.j a.l),(EX.mk b.i b.s b.j b.l)] []),())
def E(c:Nat):Entry:=⟨[(.int .i64),(.rc false),(.rc false)],[(.rc true)],fun x=>f c x.1 x.2.1 x.2.2.1⟩
theorem ok(c:Nat):Ok 41 (E c):=fo c tN fun x=>θ
end qc
namespace sS
def f(c:Nat)(d:Int)(a:CX)(b:CX):fm CX:=some ((CX.mk d [] [(CX.mk a.i a.l a.m),(CX.mk b.i b.l b.m)]),())
def E(c:Nat):Entry:=⟨[(.int .i64),(.rc true),(.rc true)],[(.rc true)],fun x=>f c x.1 x.2.1 x.2.2.1⟩
theorem ok(c:Nat):Ok 23 (E c):=fo c tN fun x=>θ
end sS
end
end Go.Q
