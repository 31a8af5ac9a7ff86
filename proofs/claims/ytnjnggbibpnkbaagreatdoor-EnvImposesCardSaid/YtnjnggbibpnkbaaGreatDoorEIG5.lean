import Derived.Test.YtnjnggbibpnkbaaGreatDoorEIG3
import Derived.Test.YtnjnggbibpnkbaaGreatDoorEIG4
set_option linter.all false
set_option maxRecDepth 100000
namespace Go.Q
open Go.IntKind (i64)
open Go Go.RowKit
open Go.Rx (br bd sIdx sCat sCut iQuo iRem iShl)
noncomputable section
namespace dK
def anns:FuncId→FA:=annsL [(276,⟨annOf [(0,⟨kx 63 [0,1,5,6],[],[]⟩,⟨kx 63 [4,5],[],[]⟩),(1,⟨kx 63 [0,1,5,6,7,8],[],[]⟩,⟨kx 63 [0,1,4,5,6,7],[],[]⟩)],none,[]⟩)]
def r1{ρ:Type}(c:Nat)(o n:fi)(l:Int)(m j:Int)(k:fi)(K:Int→Int→fi→Option ρ)(E0:Int→fi→Option ρ):Option ρ:=br (decide (j < (n.length:Int))) (bd (idxB k.length (i64.wrap (l+j))) fun a=>bd (k[a]?) fun b=>bd (idxL o l) fun d=>bd (idxL n j) fun e=>bd (iRem (i64.wrap (m+(i64.wrap (b+(i64.wrap (d*e)))))) 10) fun f=>bd (idxB k.length (i64.wrap (l+j))) fun g=>bd (upE k g fun _=>some f) fun h=>bd (iQuo .i64 (i64.wrap (m+(i64.wrap (b+(i64.wrap (d*e)))))) 10) fun i =>
 K i (i64.wrap (j+1)) h) (
 E0 m k)
def l1(c:Nat)(a b:fi)(d:Int):Nat→Int→Int→fi→Option ((Int×fi×Unit)×Unit)
 | 0,_,_,_=>none
 | n+1,v3,v4,v5=>r1 c a b d v3 v4 v5 (l1 c a b d n) (fun e f=>some ((e,f,()),()))
def sh1:ShS:=⟨[.s (.sl (.int .i64)),.s (.sl (.int .i64)),.a 3,.s (.row 0),.s (.int .i64),.s (.int .i64),.s (.int .i64),.a 54],[.row (.int .i64) 3 false]⟩
def S1(p:fi×fi×Int×Int×Int×fi×Unit):St:=sh1.b p
def xh0:ShS:=⟨[.s (.sl (.int .i64)),.s (.sl (.int .i64)),.a 3,.s (.row 0),.s (.int .i64),.s (.int .i64),.a 55],[.row (.int .i64) 3 false]⟩
def o1(a c:fi)(d:Int)(y:(Int×fi×Unit)×Unit):Alt:=.one (.exit 2) (xh0.b (a,c,d,y.1.1,y.1.2.1,()))
def r0{ρ:Type}(c:Nat)(f g:fi)(e:Int)(h:fi)(K:Int→fi→Option ρ)(E0:fi→Option ρ):Option ρ:=br (decide (e < (f.length:Int))) (bd (l1 c f g e (c+40) 0 0 h) fun a=>bd (idxB a.1.2.1.length (i64.wrap (e+(g.length:Int)))) fun b=>bd (upE a.1.2.1 b fun _=>some a.1.1) fun d =>
 K (i64.wrap (e+1)) d) (
 E0 h)
def l0(c:Nat)(a b:fi):Nat→Int→fi→Option ((fi×Unit)×Unit)
 | 0,_,_=>none
 | n+1,v2,v3=>r0 c a b v2 v3 (l0 c a b n) (fun d=>some ((d,()),()))
def sh0:ShS:=⟨[.s (.sl (.int .i64)),.s (.sl (.int .i64)),.a 3,.s (.row 0),.s (.int .i64),.a 56],[.row (.int .i64) 3 false]⟩
def S0(p:fi×fi×Int×fi×Unit):St:=sh0.b p
def xh1:ShS:=⟨[.a 5,.s (.row 0),.a 57],[.row (.int .i64) 3 false]⟩
def o0(a c:fi)(y:(fi×Unit)×Unit):Alt:=.one (.exit 0) (xh1.b (y.1.1,()))
def tb(c:Nat):List (FuncId×Entry):=[(264,aN.E c)]
def acM(c:Nat):List (Nat×(St→Option LTE)):=[(0,sumE sh0 fun(p:fi×fi×Int×fi×Unit)=>⟨(fi×Unit)×Unit,l0 c p.1 p.2.1 (c+40) p.2.2.1 p.2.2.2.1,o0 p.1 p.2.1⟩),
 (1,sumE sh1 fun(p:fi×fi×Int×Int×Int×fi×Unit)=>⟨(Int×fi×Unit)×Unit,l1 c p.1 p.2.1 p.2.2.1 (c+40) p.2.2.2.1 p.2.2.2.2.1 p.2.2.2.2.2.1,o1 p.1 p.2.1 p.2.2.1⟩)]
def ls(c:Nat):List (Nat×FuncId×Sums):=[(13,276,sumsL (acM c))]
def it1{ρ:Type}(c n:Nat)(a:St)(k:KE ρ):Option ρ:=itG anns (ls c) (tb c) c 13 276 1 1 (sumsL (acM c)) n a k
theorem t1{ρ:Type}(c n:Nat)(a d:fi)(e f g:Int)(h:fi)(k:KE ρ):it1 c (n+1) (S1 (a,d,e,f,g,h,())) k=r1 c a d e f g h (fun l m o=>it1 c n (S1 (a,d,e,l,m,o,())) k) (fun i j=>k (.exit 2) (xh0.b (a,d,e,i,j,()))):=θ
theorem u1{ρ:Type}(c:Nat)(a b:fi)(d:Int)(k:KE ρ):∀ (n:Nat) (e f:Int) (g:fi),it1 c n (S1 (a,b,d,e,f,g,())) k=bd (l1 c a b d n e f g) fun y=>altK k (o1 a b d y)
 | 0,_,_,_=>by rw[l1,bd_none];rfl
 | n+1,e,f,g=>by
  rw[t1];simp only[l1,r1,u1 c a b d k n,bd_br,bd_bd,bd_some',bd_none,br_t,br_f,o1,altK]
def it0{ρ:Type}(c n:Nat)(a:St)(k:KE ρ):Option ρ:=itG anns (ls c) (tb c) c 13 276 0 1 (sumsL (acM c)) n a k
theorem t0{ρ:Type}(c n:Nat)(a d:fi)(e:Int)(f:fi)(k:KE ρ):it0 c (n+1) (S0 (a,d,e,f,())) k=r0 c a d e f (fun h i=>it0 c n (S0 (a,d,h,i,())) k) (fun g=>k (.exit 0) (xh1.b (g,()))):=θ
theorem u0{ρ:Type}(c:Nat)(a b:fi)(k:KE ρ):∀ (n:Nat) (d:Int) (e:fi),it0 c n (S0 (a,b,d,e,())) k=bd (l0 c a b n d e) fun y=>altK k (o0 a b y)
 | 0,_,_=>by rw[l0,bd_none];rfl
 | n+1,d,e=>by
  rw[t0];simp only[l0,r0,u0 c a b k n,bd_br,bd_bd,bd_some',bd_none,br_t,br_f,o0,altK]
theorem sl(c:Nat):SL anns (ls c) (tb c) c (ls c):=slC (laC (fun _=>θ) (fun _ (x:fi×fi×Int×fi×Unit) k=>dJ (u0 c x.1 x.2.1 k (c+40) x.2.2.1 x.2.2.2.1)) (laC (fun _=>θ) (fun _ (x:fi×fi×Int×Int×Int×fi×Unit) k=>dJ (u1 c x.1 x.2.1 x.2.2.1 k (c+40) x.2.2.2.1 x.2.2.2.2.1 x.2.2.2.2.2.1)) laN)) slN
def f(c:Nat)(e:fi)(g:fi):fm fi:=bd (mkL (i64.wrap ((e.length:Int)+(g.length:Int))) (i64.wrap ((e.length:Int)+(g.length:Int))) 8 0) fun a=>bd (l0 c e g (c+40) 0 a) fun b=>bd (aN.f c b.1.1) fun d=>some (d.1,())
def E(c:Nat):Entry:=⟨[(.sl (.int .i64)),(.sl (.int .i64))],[(.sl (.int .i64))],fun x=>f c x.1 x.2.1⟩
theorem ok(c:Nat):Ok 276 (E c):=okL (tC (aN.ok c) tN) (aoC aoN) (sl c) fun x=>θ
end dK
namespace aO
def f(c:Nat)(k:fg)(l:fg):fm fg:=bd (bH.f c k) fun a=>bd (bH.f c l) fun b=>br (decide ((i64.wrap (a.1+b.1))≤18)) (bd (bP.f c k) fun d=>bd (bP.f c l) fun e=>bd (bW.f c (i64.wrap (d.1*e.1))) fun g=>some (g.1,())) (bd (aW.f c k) fun d=>bd (aW.f c l) fun e=>bd (dK.f c d.1 e.1) fun g=>bd (aA.f c k) fun h=>bd (aA.f c l) fun i=>bd (bg.f c g.1 (h.1 != i.1)) fun j=>some (j.1,()))
def E(c:Nat):Entry:=⟨[.str,.str],[.str],fun x=>f c x.1 x.2.1⟩
theorem ok(c:Nat):Ok 181 (E c):=fo c (tC (bH.ok c) (tC (aA.ok c) (tC (aW.ok c) (tC (bW.ok c) (tC (bP.ok c) (tC (bg.ok c) (tC (dK.ok c) tN))))))) fun x=>θ
end aO
namespace lY
def f(c:Nat)(a:Int)(b:Int):fm Int:=bd (iQuo .i64 a b) fun r1=>bd (iRem a b) fun r2=>br (r2 != 0) (br ((decide (a < 0)) !=(decide (b < 0))) (some ((i64.wrap (r1-1)),())) (some (r1,()))) (some (r1,()))
def E(c:Nat):Entry:=⟨[(.int .i64),(.int .i64)],[(.int .i64)],fun x=>f c x.1 x.2.1⟩
theorem ok(c:Nat):Ok 277 (E c):=fo c tN fun x=>θ
end lY
namespace bI
def anns:FuncId→FA:=annsL [(278,⟨annOf [(0,⟨kx 56 [0,1,7,8,9],[],[]⟩,⟨kx 56 [4,5,7,8],[],[]⟩),(1,⟨kx 56 [0,1,7,8,9],[],[]⟩,⟨kx 56 [0,1,4,5,7,8,9],[],[]⟩)],none,[]⟩)]
def r1{ρ:Type}(c:Nat)(m k:fi)(l:Int)(n o:fi)(j i:fi)(K:fi→fi→Option ρ)(E0:fi→fi→Option ρ):Option ρ:=bd (dh.f c j k) fun a=>br (decide (a.1≥0)) (bd (bY.f c j k) fun b=>bd (idxB i.length l) fun d=>bd (i[d]?) fun e=>bd (idxB i.length l) fun g=>bd (upE i g fun _=>some (i64.wrap (e+1))) fun h =>
 K b.1 h) (
 E0 j i)
def l1(c:Nat)(a b:fi)(d:Int)(e f:fi):Nat→fi→fi→Option ((fi×fi×Unit)×Unit)
 | 0,_,_=>none
 | n+1,v2,v4=>r1 c a b d e f v2 v4 (l1 c a b d e f n) (fun g h=>some ((g,h,()),()))
def sh1:ShS:=⟨[.s (.sl (.int .i64)),.s (.sl (.int .i64)),.a 5,.s (.row 0),.s (.sl (.int .i64)),.s (.int .i64),.a 46],[.row (.int .i64) 3 false,.gone,.row (.int .i64) 3 false,.gone,.row (.int .i64) 3 true]⟩
def S1(p:fi×fi×fi×Int×fi×fi×fi×Unit):St:=sh1.b p
def xh0:ShS:=⟨[.s (.sl (.int .i64)),.s (.sl (.int .i64)),.a 5,.s (.row 0),.s (.sl (.int .i64)),.s (.int .i64),.a 46],[.row (.int .i64) 3 false,.gone,.row (.int .i64) 3 false,.gone,.row (.int .i64) 3 true]⟩
def o1(a c:fi)(d:Int)(e f:fi)(y:(fi×fi×Unit)×Unit):Alt:=.one (.exit 2) (xh0.b (a,c,y.1.1,d,y.1.2.1,e,f,()))
def r2{ρ:Type}(c:Nat)(h l k:fi)(i:fi)(g:Int)(j:fi)(K:fi→Int→fi→Option ρ)(E0:fi→fi→fi→Option ρ):Option ρ:=br (decide (g≥0)) (bd (idxL h g) fun a=>bd (apL true 8 [a] i) fun b=>bd (aN.f c b) fun d=>bd (l1 c h l g k b (c+40) d.1 j) fun e =>
 K e.1.1 (i64.wrap (g-1)) e.1.2.1) (
 E0 i j k)
def l2(c:Nat)(a b d:fi):Nat→fi→Int→fi→Option ((fi×fi×fi×Unit)×Unit)
 | 0,_,_,_=>none
 | n+1,v2,v3,v4=>r2 c a b d v2 v3 v4 (l2 c a b d n) (fun e f g=>some ((e,f,g,()),()))
def sh2:ShS:=⟨[.s (.sl (.int .i64)),.s (.sl (.int .i64)),.a 5,.s (.row 0),.s (.sl (.int .i64)),.s (.int .i64),.a 46],[.row (.int .i64) 3 false,.gone,.row (.int .i64) 3 false]⟩
def S2(p:fi×fi×fi×Int×fi×fi×Unit):St:=sh2.b p
def xh1:ShS:=⟨[.a 7,.s (.row 0),.s (.sl (.int .i64)),.a 47],[.row (.int .i64) 3 false,.gone,.row (.int .i64) 3 false]⟩
def o2(a c d:fi)(y:(fi×fi×fi×Unit)×Unit):Alt:=.one (.exit 0) (xh1.b (y.1.1,y.1.2.1,y.1.2.2.1,()))
def r0{ρ:Type}(c:Nat)(i j:fi)(g:Int)(k h:fi)(l:fi→fi→fi→Int→fi→fi→Option ρ)(E0:fi→fi→Option ρ):Option ρ:=br (decide (g≥0)) (bd (idxL i g) fun a=>bd (apL true 8 [a] h) fun b=>bd (aN.f c b) fun d=>bd (l1 c i j g h b (c+40) d.1 k) fun e =>
 l i j e.1.1 (i64.wrap (g-1)) e.1.2.1 h) (
 E0 k h)
def l0(c:Nat)(b d:fi)(e:Int)(f g:fi):Nat→Option (Bool×(fi×fi×Unit)×(fi×fi×fi×Unit)×Unit)
 | 0=>none
 | n+1=>r0 c b d e f g (fun j k l m o p=>bd (l2 c j k p n l m o) fun a=>some (false,([],[],()),((a.1.1,a.1.2.1,a.1.2.2.1,()),()))) (fun h i=>some (true,(h,i,()),(([],[],[],()),())))
def sh0:ShS:=⟨[.s (.sl (.int .i64)),.s (.sl (.int .i64)),.a 5,.s (.row 0),.s (.row 2),.s (.int .i64),.a 46],[.row (.int .i64) 3 false,.gone,.row (.int .i64) 3 false]⟩
def S0(p:fi×fi×Int×fi×fi×Unit):St:=sh0.b p
def xh2:ShS:=⟨[.a 7,.s (.row 0),.s (.row 2),.a 47],[.row (.int .i64) 3 false,.gone,.row (.int .i64) 3 false]⟩
def o0(a c:fi)(d:Int)(e f:fi)(y:Bool×(fi×fi×Unit)×(fi×fi×fi×Unit)×Unit):Alt:=.two y.1 (.one (.exit 0) (xh2.b (y.2.1.1,y.2.1.2.1,()))) (.one (.exit 0) (xh1.b (y.2.2.1.1,y.2.2.1.2.1,y.2.2.1.2.2.1,())))
def tb(c:Nat):List (FuncId×Entry):=[(263,dh.E c),(264,aN.E c),(271,bY.E c)]
def aaQ(c:Nat):List (Nat×(St→Option LTE)):=[(0,sumE sh2 fun(p:fi×fi×fi×Int×fi×fi×Unit)=>⟨(fi×fi×fi×Unit)×Unit,l2 c p.1 p.2.1 p.2.2.2.2.2.1 (c+40) p.2.2.1 p.2.2.2.1 p.2.2.2.2.1,o2 p.1 p.2.1 p.2.2.2.2.2.1⟩),
 (0,sumE sh0 fun(p:fi×fi×Int×fi×fi×Unit)=>⟨Bool×(fi×fi×Unit)×(fi×fi×fi×Unit)×Unit,l0 c p.1 p.2.1 p.2.2.1 p.2.2.2.1 p.2.2.2.2.1 (c+40),o0 p.1 p.2.1 p.2.2.1 p.2.2.2.1 p.2.2.2.2.1⟩),
 (1,sumE sh1 fun(p:fi×fi×fi×Int×fi×fi×fi×Unit)=>⟨(fi×fi×Unit)×Unit,l1 c p.1 p.2.1 p.2.2.2.1 p.2.2.2.2.2.1 p.2.2.2.2.2.2.1 (c+40) p.2.2.1 p.2.2.2.2.1,o1 p.1 p.2.1 p.2.2.2.1 p.2.2.2.2.2.1 p.2.2.2.2.2.2.1⟩)]
def ls(c:Nat):List (Nat×FuncId×Sums):=[(13,278,sumsL (aaQ c))]
def it1{ρ:Type}(c n:Nat)(a:St)(k:KE ρ):Option ρ:=itG anns (ls c) (tb c) c 13 278 1 5 (sumsL (aaQ c)) n a k
theorem t1{ρ:Type}(c n:Nat)(a d h:fi)(e:Int)(i f g:fi)(k:KE ρ):it1 c (n+1) (S1 (a,d,h,e,i,f,g,())) k=r1 c a d e f g h i (fun m o=>it1 c n (S1 (a,d,m,e,o,f,g,())) k) (fun j l=>k (.exit 2) (xh0.b (a,d,j,e,l,f,g,()))):=θ
theorem u1{ρ:Type}(c:Nat)(a b:fi)(d:Int)(e f:fi)(k:KE ρ):∀ (n:Nat) (g h:fi),it1 c n (S1 (a,b,g,d,h,e,f,())) k=bd (l1 c a b d e f n g h) fun y=>altK k (o1 a b d e f y)
 | 0,_,_=>by rw[l1,bd_none];rfl
 | n+1,g,h=>by
  rw[t1];simp only[l1,r1,u1 c a b d e f k n,bd_br,bd_bd,bd_some',bd_none,br_t,br_f,o1,altK]
def it2{ρ:Type}(c n:Nat)(a:St)(k:KE ρ):Option ρ:=itG anns (ls c) (tb c) c 13 278 0 3 (sumsL (aaQ c)) n a k
theorem t2{ρ:Type}(c n:Nat)(a d f:fi)(g:Int)(h e:fi)(k:KE ρ):it2 c (n+1) (S2 (a,d,f,g,h,e,())) k=r2 c a d e f g h (fun m o p=>it2 c n (S2 (a,d,m,o,p,e,())) k) (fun i j l=>k (.exit 0) (xh1.b (i,j,l,()))):=θ
theorem u2{ρ:Type}(c:Nat)(a b d:fi)(k:KE ρ):∀ (n:Nat) (e:fi) (f:Int) (g:fi),it2 c n (S2 (a,b,e,f,g,d,())) k=bd (l2 c a b d n e f g) fun y=>altK k (o2 a b d y)
 | 0,_,_,_=>by rw[l2,bd_none];rfl
 | n+1,e,f,g=>by
  rw[t2];simp only[l2,r2,u2 c a b d k n,bd_br,bd_bd,bd_some',bd_none,br_t,br_f,o2,altK]
def it0{ρ:Type}(c n:Nat)(a:St)(k:KE ρ):Option ρ:=itG anns (ls c) (tb c) c 13 278 0 3 (sumsL (aaQ c)) n a k
theorem t0{ρ:Type}(c n:Nat)(a d:fi)(e:Int)(f g:fi)(k:KE ρ):it0 c (n+1) (S0 (a,d,e,f,g,())) k=r0 c a d e f g (fun j l m o p q=>it2 c n (S2 (j,l,m,o,p,q,())) k) (fun h i=>k (.exit 0) (xh2.b (h,i,()))):=θ
theorem u0{ρ:Type}(c:Nat)(a b:fi)(d:Int)(e f:fi)(k:KE ρ):∀ (n:Nat),it0 c n (S0 (a,b,d,e,f,())) k=bd (l0 c a b d e f n) fun y=>altK k (o0 a b d e f y)
 | 0=>by rw[l0,bd_none];rfl
 | n+1=>by
  rw[t0];simp only[l0,r0,u2,bd_br,bd_bd,bd_some',bd_none,br_t,br_f,o0,o2,altK]
theorem sl(c:Nat):SL anns (ls c) (tb c) c (ls c):=slC (laC (fun _=>θ) (fun _ (x:fi×fi×fi×Int×fi×fi×Unit) k=>dJ (u2 c x.1 x.2.1 x.2.2.2.2.2.1 k (c+40) x.2.2.1 x.2.2.2.1 x.2.2.2.2.1)) (laC (fun _=>θ) (fun _ (x:fi×fi×Int×fi×fi×Unit) k=>dJ (u0 c x.1 x.2.1 x.2.2.1 x.2.2.2.1 x.2.2.2.2.1 k (c+40))) (laC (fun _=>θ) (fun _ (x:fi×fi×fi×Int×fi×fi×fi×Unit) k=>dJ (u1 c x.1 x.2.1 x.2.2.2.1 x.2.2.2.2.2.1 x.2.2.2.2.2.2.1 k (c+40) x.2.2.1 x.2.2.2.2.1)) laN))) slN
def f(c:Nat)(h:fi)(i:fi):Option (fi×fi×Unit):=bd (mkL (if(i64.wrap ((i64.wrap ((h.length:Int)-(i.length:Int)))+1)) > 0 then(i64.wrap ((i64.wrap ((h.length:Int)-(i.length:Int)))+1))else 0) (if(i64.wrap ((i64.wrap ((h.length:Int)-(i.length:Int)))+1)) > 0 then(i64.wrap ((i64.wrap ((h.length:Int)-(i.length:Int)))+1))else 0) 8 0) fun a=>bd (cutL h (some (if(i64.wrap ((i64.wrap ((h.length:Int)-(i.length:Int)))+1)) > 0 then(i64.wrap ((i64.wrap ((h.length:Int)-(i.length:Int)))+1))else 0)) none) fun b=>bd (apL true 8 [] b) fun d=>bd (l0 c h i (i64.wrap ((if(i64.wrap ((i64.wrap ((h.length:Int)-(i.length:Int)))+1)) > 0 then(i64.wrap ((i64.wrap ((h.length:Int)-(i.length:Int)))+1))else 0)-1)) a d (c+40)) fun e=>br e.1 (bd (aN.f c e.2.1.1) fun g=>some (g.1,e.2.1.2.1,())) (bd (aN.f c e.2.2.1.2.1) fun g=>some (g.1,e.2.2.1.1,()))
def E(c:Nat):Entry:=⟨[(.sl (.int .i64)),(.sl (.int .i64))],[(.sl (.int .i64)),(.sl (.int .i64))],fun x=>f c x.1 x.2.1⟩
theorem ok(c:Nat):Ok 278 (E c):=okL (tC (dh.ok c) (tC (aN.ok c) (tC (bY.ok c) tN))) (aoC aoN) (sl c) fun x=>θ
end bI
end
end Go.Q
namespace Go.Q
open Go Go.RowKit
open Go.Rx (br bd sIdx sCat sCut iQuo iRem iShl)
noncomputable section
namespace aI
def f(c:Nat)(p:fg)(q:fg):fm fg:=bd (iC.f c p 17) fun a=>br a.1 (bd (iC.f c q 17) fun b=>br b.1 (bd (bP.f c p) fun d=>bd (bP.f c q) fun e=>bd (lY.f c d.1 e.1) fun g=>bd (bW.f c g.1) fun h=>some (h.1,())) (bd (aW.f c p) fun d=>bd (aN.f c d.1) fun e=>bd (aW.f c q) fun g=>bd (aN.f c g.1) fun h=>bd (bI.f c e.1 h.1) fun i=>bd (aA.f c p) fun j=>bd (aA.f c q) fun k=>bd (bg.f c i.1 (j.1 != k.1)) fun l=>bd (aA.f c p) fun m=>bd (aA.f c q) fun n=>br (m.1 != n.1) (br (decide ((i.2.1.length:Int) > 0)) (bd (aU.f c l.1 (⟨#[49]⟩:fg)) fun o=>some (o.1,())) (some (l.1,()))) (some (l.1,())))) (bd (aW.f c p) fun b=>bd (aN.f c b.1) fun d=>bd (aW.f c q) fun e=>bd (aN.f c e.1) fun g=>bd (bI.f c d.1 g.1) fun h=>bd (aA.f c p) fun i=>bd (aA.f c q) fun j=>bd (bg.f c h.1 (i.1 != j.1)) fun k=>bd (aA.f c p) fun l=>bd (aA.f c q) fun m=>br (l.1 != m.1) (br (decide ((h.2.1.length:Int) > 0)) (bd (aU.f c k.1 (⟨#[49]⟩:fg)) fun n=>some (n.1,())) (some (k.1,()))) (some (k.1,())))
def E(c:Nat):Entry:=⟨[.str,.str],[.str],fun x=>f c x.1 x.2.1⟩
theorem ok(c:Nat):Ok 182 (E c):=fo c (tC (aA.ok c) (tC (aU.ok c) (tC (aN.ok c) (tC (aW.ok c) (tC (iC.ok c) (tC (bW.ok c) (tC (bP.ok c) (tC (bg.ok c) (tC (lY.ok c) (tC (bI.ok c) tN)))))))))) fun x=>θ
end aI
namespace bT
def f(c:Nat)(e:fg)(g:fg):fm fg:=bd (aI.f c e g) fun a=>bd (aO.f c g a.1) fun b=>bd (aU.f c e b.1) fun d=>some (d.1,())
def E(c:Nat):Entry:=⟨[.str,.str],[.str],fun x=>f c x.1 x.2.1⟩
theorem ok(c:Nat):Ok 169 (E c):=fo c (tC (aU.ok c) (tC (aO.ok c) (tC (aI.ok c) tN))) fun x=>θ
end bT
namespace cO
def f(c:Nat)(a:fg):fm fg:=bd (aA.f c a) fun r1=>br r1.1 (bd (sCut a (some 1) none) fun r2=>some (r2,())) (some (a,()))
def E(c:Nat):Entry:=⟨[.str],[.str],fun x=>f c x.1⟩
theorem ok(c:Nat):Ok 275 (E c):=fo c (tC (aA.ok c) tN) fun x=>θ
end cO
namespace bG
def anns:FuncId→FA:=annsL [(178,⟨annOf [(0,⟨kx 18 [5,6],[],[]⟩,⟨kx 18 [4,5],[],[]⟩)],none,[]⟩)]
def r0{ρ:Type}(c:Nat)(b a:fg)(K:fg→fg→Option ρ)(E0:fg→Option ρ):Option ρ:=br (!(a.toList==(⟨#[48]⟩:fg).toList)) (bd (bT.f c b a) fun r3 =>
 K a r3.1) (
 E0 b)
def l0(c:Nat):Nat→fg→fg→Option ((fg×Unit)×Unit)
 | 0,_,_=>none
 | n+1,v0,v1=>r0 c v0 v1 (l0 c n) (fun a=>some ((a,()),()))
def sh0:ShS:=⟨[.a 5,.s .str,.s .str,.a 11],[]⟩
def S0(p:fg×fg×Unit):St:=sh0.b p
def xh0:ShS:=⟨[.a 5,.s .str,.a 12],[]⟩
def o0(y:(fg×Unit)×Unit):Alt:=.one (.exit 0) (xh0.b (y.1.1,()))
def tb(c:Nat):List (FuncId×Entry):=[(169,bT.E c),(275,cO.E c)]
def ae5(c:Nat):List (Nat×(St→Option LTE)):=[(0,sumE sh0 fun(p:fg×fg×Unit)=>⟨(fg×Unit)×Unit,l0 c (c+40) p.1 p.2.1,o0⟩)]
def ls(c:Nat):List (Nat×FuncId×Sums):=[(13,178,sumsL (ae5 c))]
def it0{ρ:Type}(c n:Nat)(a:St)(k:KE ρ):Option ρ:=itG anns (ls c) (tb c) c 13 178 0 0 (sumsL (ae5 c)) n a k
theorem t0{ρ:Type}(c n:Nat)(a d:fg)(k:KE ρ):it0 c (n+1) (S0 (a,d,())) k=r0 c a d (fun f g=>it0 c n (S0 (f,g,())) k) (fun e=>k (.exit 0) (xh0.b (e,()))):=θ
theorem u0{ρ:Type}(c:Nat)(k:KE ρ):∀ (n:Nat) (a b:fg),it0 c n (S0 (a,b,())) k=bd (l0 c n a b) fun y=>altK k (o0 y)
 | 0,_,_=>by rw[l0,bd_none];rfl
 | n+1,a,b=>by
  rw[t0];simp only[l0,r0,u0 c k n,bd_br,bd_bd,bd_some',bd_none,br_t,br_f,o0,altK]
theorem sl(c:Nat):SL anns (ls c) (tb c) c (ls c):=slC (laC (fun _=>θ) (fun _ (x:fg×fg×Unit) k=>dJ (u0 c k (c+40) x.1 x.2.1)) laN) slN
def f(c:Nat)(e:fg)(g:fg):fm fg:=bd (cO.f c e) fun a=>bd (cO.f c g) fun b=>bd (l0 c (c+40) a.1 b.1) fun d=>some (d.1.1,())
def E(c:Nat):Entry:=⟨[.str,.str],[.str],fun x=>f c x.1 x.2.1⟩
theorem ok(c:Nat):Ok 178 (E c):=okL (tC (bT.ok c) (tC (cO.ok c) tN)) (aoC aoN) (sl c) fun x=>θ
end bG
namespace cZ
def anns:FuncId→FA:=annsL [(180,⟨annOf [(0,⟨kx 53 [0,1,6,7,8,9],[],[]⟩,⟨kx 53 [0,1,4,5,6,8],[],[]⟩)],none,[]⟩)]
def r0{ρ:Type}(c:Nat)(l m:fg)(i h j k:fg)(K:fg→fg→fg→fg→Option ρ)(E0:fg→fg→Option ρ):Option ρ:=br (!(h.toList==(⟨#[48]⟩:fg).toList)) (bd (aI.f c i h) fun a=>bd (aO.f c a.1 h) fun b=>bd (aU.f c i b.1) fun d=>bd (aO.f c a.1 k) fun e=>bd (aU.f c j e.1) fun g =>
 K h d.1 k g.1) (
 E0 i j)
def l0(c:Nat)(a b:fg):Nat→fg→fg→fg→fg→Option ((fg×fg×Unit)×Unit)
 | 0,_,_,_,_=>none
 | n+1,v2,v3,v4,v5=>r0 c a b v2 v3 v4 v5 (l0 c a b n) (fun d e=>some ((d,e,()),()))
def sh0:ShS:=⟨[.s .str,.s .str,.a 4,.s .str,.s .str,.s .str,.s .str,.a 43],[]⟩
def S0(p:fg×fg×fg×fg×fg×fg×Unit):St:=sh0.b p
def xh0:ShS:=⟨[.s .str,.s .str,.a 4,.s .str,.a 1,.s .str,.a 44],[]⟩
def o0(a c:fg)(y:(fg×fg×Unit)×Unit):Alt:=.one (.exit 0) (xh0.b (a,c,y.1.1,y.1.2.1,()))
def tb(c:Nat):List (FuncId×Entry):=[(97,bD.E c),(169,bT.E c),(170,aU.E c),(181,aO.E c),(182,aI.E c),(267,bW.E c),(275,cO.E c)]
def ae6(c:Nat):List (Nat×(St→Option LTE)):=[(0,sumE sh0 fun(p:fg×fg×fg×fg×fg×fg×Unit)=>⟨(fg×fg×Unit)×Unit,l0 c p.1 p.2.1 (c+40) p.2.2.1 p.2.2.2.1 p.2.2.2.2.1 p.2.2.2.2.2.1,o0 p.1 p.2.1⟩)]
def ls(c:Nat):List (Nat×FuncId×Sums):=[(13,180,sumsL (ae6 c))]
def it0{ρ:Type}(c n:Nat)(a:St)(k:KE ρ):Option ρ:=itG anns (ls c) (tb c) c 13 180 0 0 (sumsL (ae6 c)) n a k
theorem t0{ρ:Type}(c n:Nat)(a d e f g h:fg)(k:KE ρ):it0 c (n+1) (S0 (a,d,e,f,g,h,())) k=r0 c a d e f g h (fun l m o p=>it0 c n (S0 (a,d,l,m,o,p,())) k) (fun i j=>k (.exit 0) (xh0.b (a,d,i,j,()))):=θ
theorem u0{ρ:Type}(c:Nat)(a b:fg)(k:KE ρ):∀ (n:Nat) (d e f g:fg),it0 c n (S0 (a,b,d,e,f,g,())) k=bd (l0 c a b n d e f g) fun y=>altK k (o0 a b y)
 | 0,_,_,_,_=>by rw[l0,bd_none];rfl
 | n+1,d,e,f,g=>by
  rw[t0];simp only[l0,r0,u0 c a b k n,bd_br,bd_bd,bd_some',bd_none,br_t,br_f,o0,altK]
theorem sl(c:Nat):SL anns (ls c) (tb c) c (ls c):=slC (laC (fun _=>θ) (fun _ (x:fg×fg×fg×fg×fg×fg×Unit) k=>dJ (u0 c x.1 x.2.1 k (c+40) x.2.2.1 x.2.2.2.1 x.2.2.2.2.1 x.2.2.2.2.2.1)) laN) slN
def f(c:Nat)(n:fg)(m:fg):Option (fg×fg×Unit):=br (m.toList==(⟨#[48]⟩:fg).toList) (bd (bD.f c n) fun a=>bd (bW.f c a.1) fun b=>some (b.1,(⟨#[48]⟩:fg),())) (bd (cO.f c m) fun a=>bd (cO.f c m) fun b=>bd (bT.f c n b.1) fun d=>bd (l0 c n m (c+40) a.1 d.1 (⟨#[48]⟩:fg) (⟨#[49]⟩:fg)) fun e=>bd (cO.f c m) fun g=>bd (aI.f c g.1 e.1.1) fun h=>bd (bT.f c e.1.2.1 h.1) fun i=>bd (aO.f c n i.1) fun j=>bd (aU.f c e.1.1 j.1) fun k=>bd (aI.f c k.1 m) fun l=>some (i.1,l.1,()))
def E(c:Nat):Entry:=⟨[.str,.str],[.str,.str],fun x=>f c x.1 x.2.1⟩
theorem ok(c:Nat):Ok 180 (E c):=okL (tC (bD.ok c) (tC (bT.ok c) (tC (aU.ok c) (tC (aO.ok c) (tC (aI.ok c) (tC (bW.ok c) (tC (cO.ok c) tN))))))) (aoC aoN) (sl c) fun x=>θ
end cZ
end
end Go.Q
namespace Go.Q
open Go.IntKind (i64)
open Go Go.RowKit
open Go.Rx (br bd sIdx sCat sCut iQuo iRem iShl)
noncomputable section
namespace sH
def f(c:Nat)(i:TI)(j:TI):Option (TI×Int×Unit):=bd (bJ.f c i) fun a=>br (a.1 != 0) (br (a.1 != 0) (some ((false,(⟨#[]⟩:fg),(⟨#[]⟩:fg),()),a.1,())) (bd (aV.f c i) fun b=>bd (aV.f c j) fun d=>bd (oI.f c b.1 d.1) fun e=>bd (af.f c e.1) fun g=>some (g.1,0,()))) (bd (bJ.f c j) fun b=>br (b.1 != 0) (br (b.1 != 0) (some ((false,(⟨#[]⟩:fg),(⟨#[]⟩:fg),()),b.1,())) (bd (aV.f c i) fun d=>bd (aV.f c j) fun e=>bd (oI.f c d.1 e.1) fun g=>bd (af.f c g.1) fun h=>some (h.1,0,()))) (bd (aV.f c i) fun d=>bd (aV.f c j) fun e=>bd (oI.f c d.1 e.1) fun g=>bd (af.f c g.1) fun h=>some (h.1,0,())))
def E(c:Nat):Entry:=⟨[yI,yI],[yI,(.int .i64)],fun x=>f c x.1 x.2.1⟩
theorem ok(c:Nat):Ok 115 (E c):=fo c (tC (bJ.ok c) (tC (aV.ok c) (tC (af.ok c) (tC (oI.ok c) tN)))) fun x=>θ
end sH
namespace jv
def f(c:Nat)(a:TX):fm Int:=br (a.1 != 0) (some (a.1,())) (bd (dO.f c a.2.1 (⟨#[48]⟩:fg)) fun r1=>some (r1.1,()))
def E(c:Nat):Entry:=⟨[yX],[(.int .i64)],fun x=>f c x.1⟩
theorem ok(c:Nat):Ok 293 (E c):=fo c (tC (dO.ok c) tN) fun x=>θ
end jv
namespace fG
def f(c:Nat)(g:TX)(h:TX):fm TX:=bd (jv.f c g) fun a=>bd (jv.f c h) fun b=>br ((i64.wrap (a.1*b.1))==0) (bd (aY.f c (⟨#[48]⟩:fg)) fun d=>some (d.1,())) (br (g.1 != 0) (bd (bQ.f c (i64.wrap (a.1*b.1))) fun d=>some (d.1,())) (br (h.1 != 0) (bd (bQ.f c (i64.wrap (a.1*b.1))) fun d=>some (d.1,())) (bd (kQ.f c g.2.1 h.2.1) fun d=>bd (aY.f c d.1) fun e=>some (e.1,()))))
def E(c:Nat):Entry:=⟨[yX,yX],[yX],fun x=>f c x.1 x.2.1⟩
theorem ok(c:Nat):Ok 204 (E c):=fo c (tC (kQ.ok c) (tC (aY.ok c) (tC (bQ.ok c) (tC (jv.ok c) tN)))) fun x=>θ
end fG
namespace kW
def f(c:Nat)(a:TX)(b:TX):fm TX:=bd (fA.f c b a) fun r1=>br (decide (r1.1 > 0)) (some (b,())) (some (a,()))
def E(c:Nat):Entry:=⟨[yX,yX],[yX],fun x=>f c x.1 x.2.1⟩
theorem ok(c:Nat):Ok 226 (E c):=fo c (tC (fA.ok c) tN) fun x=>θ
end kW
namespace iY
def f(c:Nat)(a:TX)(b:TX):fm TX:=bd (fA.f c b a) fun r1=>br (decide (r1.1 < 0)) (some (b,())) (some (a,()))
def E(c:Nat):Entry:=⟨[yX,yX],[yX],fun x=>f c x.1 x.2.1⟩
theorem ok(c:Nat):Ok 227 (E c):=fo c (tC (fA.ok c) tN) fun x=>θ
end iY
namespace ah
def f(c:Nat)(g:TS)(h:TS):fm TS:=bd (ak.f c g) fun a=>br a.1 (some (h,())) (bd (ak.f c h) fun b=>br b.1 (some (g,())) (bd (iY.f c g.1 h.1) fun d=>bd (kW.f c g.2.1 h.2.1) fun e=>some ((d.1,e.1,()),())))
def E(c:Nat):Entry:=⟨[yS,yS],[yS],fun x=>f c x.1 x.2.1⟩
theorem ok(c:Nat):Ok 295 (E c):=fo c (tC (ak.ok c) (tC (kW.ok c) (tC (iY.ok c) tN))) fun x=>θ
end ah
namespace sD
def anns:FuncId→FA:=annsL [(205,⟨annOf [(0,⟨kx 35 [3,7],[],[]⟩,⟨[],[],[]⟩)],none,[]⟩)]
def f(c:Nat)(s:TI)(t:TI):Option (TI×Int×Unit):=bd (bJ.f c s) fun a=>br (a.1 != 0) (br (a.1 != 0) (some ((false,(⟨#[]⟩:fg),(⟨#[]⟩:fg),()),a.1,())) (bd (aV.f c s) fun b=>bd (aV.f c t) fun d=>bd (ak.f c b.1) fun e=>br e.1 (bd (aB.f c) fun g=>bd (af.f c g.1) fun h=>some (h.1,0,())) (bd (ak.f c d.1) fun g=>br g.1 (bd (aB.f c) fun h=>bd (af.f c h.1) fun i=>some (i.1,0,())) (bd (aB.f c) fun h=>bd (fG.f c b.1.1 d.1.1) fun i=>bd (ah.f c h.1 (i.1,i.1,())) fun j=>bd (fG.f c b.1.1 d.1.2.1) fun k=>bd (ah.f c j.1 (k.1,k.1,())) fun l=>bd (fG.f c b.1.2.1 d.1.1) fun m=>bd (ah.f c l.1 (m.1,m.1,())) fun n=>bd (fG.f c b.1.2.1 d.1.2.1) fun o=>bd (ah.f c n.1 (o.1,o.1,())) fun p=>bd (af.f c p.1) fun q=>some (q.1,0,()))))) (bd (bJ.f c t) fun b=>br (b.1 != 0) (br (b.1 != 0) (some ((false,(⟨#[]⟩:fg),(⟨#[]⟩:fg),()),b.1,())) (bd (aV.f c s) fun d=>bd (aV.f c t) fun e=>bd (ak.f c d.1) fun g=>br g.1 (bd (aB.f c) fun h=>bd (af.f c h.1) fun i=>some (i.1,0,())) (bd (ak.f c e.1) fun h=>br h.1 (bd (aB.f c) fun i=>bd (af.f c i.1) fun j=>some (j.1,0,())) (bd (aB.f c) fun i=>bd (fG.f c d.1.1 e.1.1) fun j=>bd (ah.f c i.1 (j.1,j.1,())) fun k=>bd (fG.f c d.1.1 e.1.2.1) fun l=>bd (ah.f c k.1 (l.1,l.1,())) fun m=>bd (fG.f c d.1.2.1 e.1.1) fun n=>bd (ah.f c m.1 (n.1,n.1,())) fun o=>bd (fG.f c d.1.2.1 e.1.2.1) fun p=>bd (ah.f c o.1 (p.1,p.1,())) fun q=>bd (af.f c q.1) fun r=>some (r.1,0,()))))) (bd (aV.f c s) fun d=>bd (aV.f c t) fun e=>bd (ak.f c d.1) fun g=>br g.1 (bd (aB.f c) fun h=>bd (af.f c h.1) fun i=>some (i.1,0,())) (bd (ak.f c e.1) fun h=>br h.1 (bd (aB.f c) fun i=>bd (af.f c i.1) fun j=>some (j.1,0,())) (bd (aB.f c) fun i=>bd (fG.f c d.1.1 e.1.1) fun j=>bd (ah.f c i.1 (j.1,j.1,())) fun k=>bd (fG.f c d.1.1 e.1.2.1) fun l=>bd (ah.f c k.1 (l.1,l.1,())) fun m=>bd (fG.f c d.1.2.1 e.1.1) fun n=>bd (ah.f c m.1 (n.1,n.1,())) fun o=>bd (fG.f c d.1.2.1 e.1.2.1) fun p=>bd (ah.f c o.1 (p.1,p.1,())) fun q=>bd (af.f c q.1) fun r=>some (r.1,0,())))))
def E(c:Nat):Entry:=⟨[yI,yI],[yI,(.int .i64)],fun x=>f c x.1 x.2.1⟩
theorem ok(c:Nat):Ok 117 (E c):=okT (an:=anns) (lf:=c) (tC (bJ.ok c) (tC (aV.ok c) (tC (af.ok c) (tC (fG.ok c) (tC (ak.ok c) (tC (aB.ok c) (tC (ah.ok c) tN))))))) (aoC aoN) fun x=>θ
end sD
namespace eX
def f(c:Nat)(a:TS)(b:TS):fm TS:=bd (kW.f c a.1 b.1) fun r1=>bd (iY.f c a.2.1 b.2.1) fun r2=>some ((r1.1,r2.1,()),())
def E(c:Nat):Entry:=⟨[yS,yS],[yS],fun x=>f c x.1 x.2.1⟩
theorem ok(c:Nat):Ok 132 (E c):=fo c (tC (kW.ok c) (tC (iY.ok c) tN)) fun x=>θ
end eX
namespace aJ
def f(c:Nat)(e:TS):fm TS:=bd (aY.f c (⟨#[49]⟩:fg)) fun a=>bd (bQ.f c 1) fun b=>bd (eX.f c e (a.1,b.1,())) fun d=>some (d.1,())
def E(c:Nat):Entry:=⟨[yS],[yS],fun x=>f c x.1⟩
theorem ok(c:Nat):Ok 297 (E c):=fo c (tC (eX.ok c) (tC (aY.ok c) (tC (bQ.ok c) tN))) fun x=>θ
end aJ
namespace aC
def f(c:Nat)(d:TX)(e:TX):fm TX:=br (d.1 != 0) (some (d,())) (br (e.1==0) (bd (gY.f c d.2.1 e.2.1) fun a=>bd (aY.f c a.1) fun b=>some (b.1,())) (bd (jv.f c d) fun a=>br (decide (a.1 < 0)) (bd (aY.f c (⟨#[45,49]⟩:fg)) fun b=>some (b.1,())) (bd (aY.f c (⟨#[48]⟩:fg)) fun b=>some (b.1,()))))
def E(c:Nat):Entry:=⟨[yX,yX],[yX],fun x=>f c x.1 x.2.1⟩
theorem ok(c:Nat):Ok 209 (E c):=fo c (tC (gY.ok c) (tC (aY.ok c) (tC (jv.ok c) tN))) fun x=>θ
end aC
namespace aP
def f(c:Nat)(a:TS):fm TS:=some (a,())
def E(c:Nat):Entry:=⟨[yS],[yS],fun x=>f c x.1⟩
theorem ok(c:Nat):Ok 210 (E c):=fo c tN fun x=>θ
end aP
end
end Go.Q
