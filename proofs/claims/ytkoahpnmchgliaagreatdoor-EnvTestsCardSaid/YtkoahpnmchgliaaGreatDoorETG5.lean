import Derived.Test.YtkoahpnmchgliaaGreatDoorETG3
import Derived.Test.YtkoahpnmchgliaaGreatDoorETG4
set_option linter.all false
set_option maxRecDepth 100000
namespace Go.Q
open Go.IntKind (i64)
open Go Go.RowKit
open Go.Rx (br bd sIdx sCat sCut iQuo iRem iShl)
noncomputable section
namespace dO
def anns:FuncId→FA:=annsL [(319,⟨annOf [(0,⟨kx 63 [0,1,5,6],[],[]⟩,⟨kx 63 [4,5],[],[]⟩),(1,⟨kx 63 [0,1,5,6,7,8],[],[]⟩,⟨kx 63 [0,1,4,5,6,7],[],[]⟩)],none,[]⟩)]
def r1{ρ:Type}(c:Nat)(o n:fm)(l:Int)(m j:Int)(k:fm)(K:Int→Int→fm→Option ρ)(E0:Int→fm→Option ρ):Option ρ:=br (decide (j < (n.length:Int))) (bd (idxB k.length (i64.wrap (l+j))) fun a=>bd (k[a]?) fun b=>bd (idxL o l) fun d=>bd (idxL n j) fun e=>bd (iRem (i64.wrap (m+(i64.wrap (b+(i64.wrap (d*e)))))) 10) fun f=>bd (idxB k.length (i64.wrap (l+j))) fun g=>bd (upE k g fun _=>some f) fun h=>bd (iQuo .i64 (i64.wrap (m+(i64.wrap (b+(i64.wrap (d*e)))))) 10) fun i =>
 K i (i64.wrap (j+1)) h) (
 E0 m k)
def l1(c:Nat)(a b:fm)(d:Int):Nat→Int→Int→fm→Option ((Int×fm×Unit)×Unit)
 | 0,_,_,_=>none
 | n+1,v3,v4,v5=>r1 c a b d v3 v4 v5 (l1 c a b d n) (fun e f=>some ((e,f,()),()))
def sh1:ShS:=⟨[.s (.sl (.int .i64)),.s (.sl (.int .i64)),.a 3,.s (.row 0),.s (.int .i64),.s (.int .i64),.s (.int .i64),.a 54],[.row (.int .i64) 3 false]⟩
def S1(p:fm×fm×Int×Int×Int×fm×Unit):St:=sh1.b p
def xh0:ShS:=⟨[.s (.sl (.int .i64)),.s (.sl (.int .i64)),.a 3,.s (.row 0),.s (.int .i64),.s (.int .i64),.a 55],[.row (.int .i64) 3 false]⟩
def o1(a c:fm)(d:Int)(y:(Int×fm×Unit)×Unit):Alt:=.one (.exit 2) (xh0.b (a,c,d,y.1.1,y.1.2.1,()))
def r0{ρ:Type}(c:Nat)(f g:fm)(e:Int)(h:fm)(K:Int→fm→Option ρ)(E0:fm→Option ρ):Option ρ:=br (decide (e < (f.length:Int))) (bd (l1 c f g e (c+40) 0 0 h) fun a=>bd (idxB a.1.2.1.length (i64.wrap (e+(g.length:Int)))) fun b=>bd (upE a.1.2.1 b fun _=>some a.1.1) fun d =>
 K (i64.wrap (e+1)) d) (
 E0 h)
def l0(c:Nat)(a b:fm):Nat→Int→fm→Option ((fm×Unit)×Unit)
 | 0,_,_=>none
 | n+1,v2,v3=>r0 c a b v2 v3 (l0 c a b n) (fun d=>some ((d,()),()))
def sh0:ShS:=⟨[.s (.sl (.int .i64)),.s (.sl (.int .i64)),.a 3,.s (.row 0),.s (.int .i64),.a 56],[.row (.int .i64) 3 false]⟩
def S0(p:fm×fm×Int×fm×Unit):St:=sh0.b p
def xh1:ShS:=⟨[.a 5,.s (.row 0),.a 57],[.row (.int .i64) 3 false]⟩
def o0(a c:fm)(y:(fm×Unit)×Unit):Alt:=.one (.exit 0) (xh1.b (y.1.1,()))
def tb(c:Nat):List (FuncId×Entry):=[(310,aP.E c)]
def adg(c:Nat):List (Nat×(St→Option LTE)):=[(0,sumE sh0 fun(p:fm×fm×Int×fm×Unit)=>⟨(fm×Unit)×Unit,l0 c p.1 p.2.1 (c+40) p.2.2.1 p.2.2.2.1,o0 p.1 p.2.1⟩),
 (1,sumE sh1 fun(p:fm×fm×Int×Int×Int×fm×Unit)=>⟨(Int×fm×Unit)×Unit,l1 c p.1 p.2.1 p.2.2.1 (c+40) p.2.2.2.1 p.2.2.2.2.1 p.2.2.2.2.2.1,o1 p.1 p.2.1 p.2.2.1⟩)]
def ls(c:Nat):List (Nat×FuncId×Sums):=[(13,319,sumsL (adg c))]
def it1{ρ:Type}(c n:Nat)(a:St)(k:KE ρ):Option ρ:=itG anns (ls c) (tb c) c 13 319 1 1 (sumsL (adg c)) n a k
theorem t1{ρ:Type}(c n:Nat)(a d:fm)(e f g:Int)(h:fm)(k:KE ρ):it1 c (n+1) (S1 (a,d,e,f,g,h,())) k=r1 c a d e f g h (fun l m o=>it1 c n (S1 (a,d,e,l,m,o,())) k) (fun i j=>k (.exit 2) (xh0.b (a,d,e,i,j,()))):=θ
theorem u1{ρ:Type}(c:Nat)(a b:fm)(d:Int)(k:KE ρ):∀ (n:Nat) (e f:Int) (g:fm),it1 c n (S1 (a,b,d,e,f,g,())) k=bd (l1 c a b d n e f g) fun y=>altK k (o1 a b d y)
 | 0,_,_,_=>by rw[l1,bd_none];rfl
 | n+1,e,f,g=>by
  rw[t1];simp only[l1,r1,u1 c a b d k n,bd_br,bd_bd,bd_some',bd_none,br_t,br_f,o1,altK]
def it0{ρ:Type}(c n:Nat)(a:St)(k:KE ρ):Option ρ:=itG anns (ls c) (tb c) c 13 319 0 1 (sumsL (adg c)) n a k
theorem t0{ρ:Type}(c n:Nat)(a d:fm)(e:Int)(f:fm)(k:KE ρ):it0 c (n+1) (S0 (a,d,e,f,())) k=r0 c a d e f (fun h i=>it0 c n (S0 (a,d,h,i,())) k) (fun g=>k (.exit 0) (xh1.b (g,()))):=θ
theorem u0{ρ:Type}(c:Nat)(a b:fm)(k:KE ρ):∀ (n:Nat) (d:Int) (e:fm),it0 c n (S0 (a,b,d,e,())) k=bd (l0 c a b n d e) fun y=>altK k (o0 a b y)
 | 0,_,_=>by rw[l0,bd_none];rfl
 | n+1,d,e=>by
  rw[t0];simp only[l0,r0,u0 c a b k n,bd_br,bd_bd,bd_some',bd_none,br_t,br_f,o0,altK]
theorem sl(c:Nat):SL anns (ls c) (tb c) c (ls c):=slC (laC (fun _=>θ) (fun _ (x:fm×fm×Int×fm×Unit) k=>dN (u0 c x.1 x.2.1 k (c+40) x.2.2.1 x.2.2.2.1)) (laC (fun _=>θ) (fun _ (x:fm×fm×Int×Int×Int×fm×Unit) k=>dN (u1 c x.1 x.2.1 x.2.2.1 k (c+40) x.2.2.2.1 x.2.2.2.2.1 x.2.2.2.2.2.1)) laN)) slN
def f(c:Nat)(e:fm)(g:fm):fo fm:=bd (mkL (i64.wrap ((e.length:Int)+(g.length:Int))) (i64.wrap ((e.length:Int)+(g.length:Int))) 8 0) fun a=>bd (l0 c e g (c+40) 0 a) fun b=>bd (aP.f c b.1.1) fun d=>some (d.1,())
def E(c:Nat):Entry:=⟨[(.sl (.int .i64)),(.sl (.int .i64))],[(.sl (.int .i64))],fun x=>f c x.1 x.2.1⟩
theorem ok(c:Nat):Ok 319 (E c):=okL (tC (aP.ok c) tN) (aoC aoN) (sl c) fun x=>θ
end dO
namespace aU
def f(c:Nat)(k:fi)(l:fi):fo fi:=bd (bI.f c k) fun a=>bd (bI.f c l) fun b=>br (decide ((i64.wrap (a.1+b.1))≤18)) (bd (bQ.f c k) fun d=>bd (bQ.f c l) fun e=>bd (bY.f c (i64.wrap (d.1*e.1))) fun g=>some (g.1,())) (bd (aX.f c k) fun d=>bd (aX.f c l) fun e=>bd (dO.f c d.1 e.1) fun g=>bd (aC.f c k) fun h=>bd (aC.f c l) fun i=>bd (bD.f c g.1 (h.1 != i.1)) fun j=>some (j.1,()))
def E(c:Nat):Entry:=⟨[.str,.str],[.str],fun x=>f c x.1 x.2.1⟩
theorem ok(c:Nat):Ok 251 (E c):=fp c (tC (bI.ok c) (tC (aC.ok c) (tC (aX.ok c) (tC (bY.ok c) (tC (bQ.ok c) (tC (bD.ok c) (tC (dO.ok c) tN))))))) fun x=>θ
end aU
namespace mV
def f(c:Nat)(a:Int)(b:Int):fo Int:=bd (iQuo .i64 a b) fun r1=>bd (iRem a b) fun r2=>br (r2 != 0) (br ((decide (a < 0)) !=(decide (b < 0))) (some ((i64.wrap (r1-1)),())) (some (r1,()))) (some (r1,()))
def E(c:Nat):Entry:=⟨[(.int .i64),(.int .i64)],[(.int .i64)],fun x=>f c x.1 x.2.1⟩
theorem ok(c:Nat):Ok 320 (E c):=fp c tN fun x=>θ
end mV
namespace bJ
def anns:FuncId→FA:=annsL [(321,⟨annOf [(0,⟨kx 56 [0,1,7,8,9],[],[]⟩,⟨kx 56 [4,5,7,8],[],[]⟩),(1,⟨kx 56 [0,1,7,8,9],[],[]⟩,⟨kx 56 [0,1,4,5,7,8,9],[],[]⟩)],none,[]⟩)]
def r1{ρ:Type}(c:Nat)(m k:fm)(l:Int)(n o:fm)(j i:fm)(K:fm→fm→Option ρ)(E0:fm→fm→Option ρ):Option ρ:=bd (dm.f c j k) fun a=>br (decide (a.1≥0)) (bd (bZ.f c j k) fun b=>bd (idxB i.length l) fun d=>bd (i[d]?) fun e=>bd (idxB i.length l) fun g=>bd (upE i g fun _=>some (i64.wrap (e+1))) fun h =>
 K b.1 h) (
 E0 j i)
def l1(c:Nat)(a b:fm)(d:Int)(e f:fm):Nat→fm→fm→Option ((fm×fm×Unit)×Unit)
 | 0,_,_=>none
 | n+1,v2,v4=>r1 c a b d e f v2 v4 (l1 c a b d e f n) (fun g h=>some ((g,h,()),()))
def sh1:ShS:=⟨[.s (.sl (.int .i64)),.s (.sl (.int .i64)),.a 5,.s (.row 0),.s (.sl (.int .i64)),.s (.int .i64),.a 46],[.row (.int .i64) 3 false,.gone,.row (.int .i64) 3 false,.gone,.row (.int .i64) 3 true]⟩
def S1(p:fm×fm×fm×Int×fm×fm×fm×Unit):St:=sh1.b p
def xh0:ShS:=⟨[.s (.sl (.int .i64)),.s (.sl (.int .i64)),.a 5,.s (.row 0),.s (.sl (.int .i64)),.s (.int .i64),.a 46],[.row (.int .i64) 3 false,.gone,.row (.int .i64) 3 false,.gone,.row (.int .i64) 3 true]⟩
def o1(a c:fm)(d:Int)(e f:fm)(y:(fm×fm×Unit)×Unit):Alt:=.one (.exit 2) (xh0.b (a,c,y.1.1,d,y.1.2.1,e,f,()))
def r2{ρ:Type}(c:Nat)(h l k:fm)(i:fm)(g:Int)(j:fm)(K:fm→Int→fm→Option ρ)(E0:fm→fm→fm→Option ρ):Option ρ:=br (decide (g≥0)) (bd (idxL h g) fun a=>bd (apL true 8 [a] i) fun b=>bd (aP.f c b) fun d=>bd (l1 c h l g k b (c+40) d.1 j) fun e =>
 K e.1.1 (i64.wrap (g-1)) e.1.2.1) (
 E0 i j k)
def l2(c:Nat)(a b d:fm):Nat→fm→Int→fm→Option ((fm×fm×fm×Unit)×Unit)
 | 0,_,_,_=>none
 | n+1,v2,v3,v4=>r2 c a b d v2 v3 v4 (l2 c a b d n) (fun e f g=>some ((e,f,g,()),()))
def sh2:ShS:=⟨[.s (.sl (.int .i64)),.s (.sl (.int .i64)),.a 5,.s (.row 0),.s (.sl (.int .i64)),.s (.int .i64),.a 46],[.row (.int .i64) 3 false,.gone,.row (.int .i64) 3 false]⟩
def S2(p:fm×fm×fm×Int×fm×fm×Unit):St:=sh2.b p
def xh1:ShS:=⟨[.a 7,.s (.row 0),.s (.sl (.int .i64)),.a 47],[.row (.int .i64) 3 false,.gone,.row (.int .i64) 3 false]⟩
def o2(a c d:fm)(y:(fm×fm×fm×Unit)×Unit):Alt:=.one (.exit 0) (xh1.b (y.1.1,y.1.2.1,y.1.2.2.1,()))
def r0{ρ:Type}(c:Nat)(i j:fm)(g:Int)(k h:fm)(l:fm→fm→fm→Int→fm→fm→Option ρ)(E0:fm→fm→Option ρ):Option ρ:=br (decide (g≥0)) (bd (idxL i g) fun a=>bd (apL true 8 [a] h) fun b=>bd (aP.f c b) fun d=>bd (l1 c i j g h b (c+40) d.1 k) fun e =>
 l i j e.1.1 (i64.wrap (g-1)) e.1.2.1 h) (
 E0 k h)
def l0(c:Nat)(b d:fm)(e:Int)(f g:fm):Nat→Option (Bool×(fm×fm×Unit)×(fm×fm×fm×Unit)×Unit)
 | 0=>none
 | n+1=>r0 c b d e f g (fun j k l m o p=>bd (l2 c j k p n l m o) fun a=>some (false,([],[],()),((a.1.1,a.1.2.1,a.1.2.2.1,()),()))) (fun h i=>some (true,(h,i,()),(([],[],[],()),())))
def sh0:ShS:=⟨[.s (.sl (.int .i64)),.s (.sl (.int .i64)),.a 5,.s (.row 0),.s (.row 2),.s (.int .i64),.a 46],[.row (.int .i64) 3 false,.gone,.row (.int .i64) 3 false]⟩
def S0(p:fm×fm×Int×fm×fm×Unit):St:=sh0.b p
def xh2:ShS:=⟨[.a 7,.s (.row 0),.s (.row 2),.a 47],[.row (.int .i64) 3 false,.gone,.row (.int .i64) 3 false]⟩
def o0(a c:fm)(d:Int)(e f:fm)(y:Bool×(fm×fm×Unit)×(fm×fm×fm×Unit)×Unit):Alt:=.two y.1 (.one (.exit 0) (xh2.b (y.2.1.1,y.2.1.2.1,()))) (.one (.exit 0) (xh1.b (y.2.2.1.1,y.2.2.1.2.1,y.2.2.1.2.2.1,())))
def tb(c:Nat):List (FuncId×Entry):=[(309,dm.E c),(310,aP.E c),(317,bZ.E c)]
def aa7(c:Nat):List (Nat×(St→Option LTE)):=[(0,sumE sh2 fun(p:fm×fm×fm×Int×fm×fm×Unit)=>⟨(fm×fm×fm×Unit)×Unit,l2 c p.1 p.2.1 p.2.2.2.2.2.1 (c+40) p.2.2.1 p.2.2.2.1 p.2.2.2.2.1,o2 p.1 p.2.1 p.2.2.2.2.2.1⟩),
 (0,sumE sh0 fun(p:fm×fm×Int×fm×fm×Unit)=>⟨Bool×(fm×fm×Unit)×(fm×fm×fm×Unit)×Unit,l0 c p.1 p.2.1 p.2.2.1 p.2.2.2.1 p.2.2.2.2.1 (c+40),o0 p.1 p.2.1 p.2.2.1 p.2.2.2.1 p.2.2.2.2.1⟩),
 (1,sumE sh1 fun(p:fm×fm×fm×Int×fm×fm×fm×Unit)=>⟨(fm×fm×Unit)×Unit,l1 c p.1 p.2.1 p.2.2.2.1 p.2.2.2.2.2.1 p.2.2.2.2.2.2.1 (c+40) p.2.2.1 p.2.2.2.2.1,o1 p.1 p.2.1 p.2.2.2.1 p.2.2.2.2.2.1 p.2.2.2.2.2.2.1⟩)]
def ls(c:Nat):List (Nat×FuncId×Sums):=[(13,321,sumsL (aa7 c))]
def it1{ρ:Type}(c n:Nat)(a:St)(k:KE ρ):Option ρ:=itG anns (ls c) (tb c) c 13 321 1 5 (sumsL (aa7 c)) n a k
theorem t1{ρ:Type}(c n:Nat)(a d h:fm)(e:Int)(i f g:fm)(k:KE ρ):it1 c (n+1) (S1 (a,d,h,e,i,f,g,())) k=r1 c a d e f g h i (fun m o=>it1 c n (S1 (a,d,m,e,o,f,g,())) k) (fun j l=>k (.exit 2) (xh0.b (a,d,j,e,l,f,g,()))):=θ
theorem u1{ρ:Type}(c:Nat)(a b:fm)(d:Int)(e f:fm)(k:KE ρ):∀ (n:Nat) (g h:fm),it1 c n (S1 (a,b,g,d,h,e,f,())) k=bd (l1 c a b d e f n g h) fun y=>altK k (o1 a b d e f y)
 | 0,_,_=>by rw[l1,bd_none];rfl
 | n+1,g,h=>by
  rw[t1];simp only[l1,r1,u1 c a b d e f k n,bd_br,bd_bd,bd_some',bd_none,br_t,br_f,o1,altK]
def it2{ρ:Type}(c n:Nat)(a:St)(k:KE ρ):Option ρ:=itG anns (ls c) (tb c) c 13 321 0 3 (sumsL (aa7 c)) n a k
theorem t2{ρ:Type}(c n:Nat)(a d f:fm)(g:Int)(h e:fm)(k:KE ρ):it2 c (n+1) (S2 (a,d,f,g,h,e,())) k=r2 c a d e f g h (fun m o p=>it2 c n (S2 (a,d,m,o,p,e,())) k) (fun i j l=>k (.exit 0) (xh1.b (i,j,l,()))):=θ
theorem u2{ρ:Type}(c:Nat)(a b d:fm)(k:KE ρ):∀ (n:Nat) (e:fm) (f:Int) (g:fm),it2 c n (S2 (a,b,e,f,g,d,())) k=bd (l2 c a b d n e f g) fun y=>altK k (o2 a b d y)
 | 0,_,_,_=>by rw[l2,bd_none];rfl
 | n+1,e,f,g=>by
  rw[t2];simp only[l2,r2,u2 c a b d k n,bd_br,bd_bd,bd_some',bd_none,br_t,br_f,o2,altK]
def it0{ρ:Type}(c n:Nat)(a:St)(k:KE ρ):Option ρ:=itG anns (ls c) (tb c) c 13 321 0 3 (sumsL (aa7 c)) n a k
theorem t0{ρ:Type}(c n:Nat)(a d:fm)(e:Int)(f g:fm)(k:KE ρ):it0 c (n+1) (S0 (a,d,e,f,g,())) k=r0 c a d e f g (fun j l m o p q=>it2 c n (S2 (j,l,m,o,p,q,())) k) (fun h i=>k (.exit 0) (xh2.b (h,i,()))):=θ
theorem u0{ρ:Type}(c:Nat)(a b:fm)(d:Int)(e f:fm)(k:KE ρ):∀ (n:Nat),it0 c n (S0 (a,b,d,e,f,())) k=bd (l0 c a b d e f n) fun y=>altK k (o0 a b d e f y)
 | 0=>by rw[l0,bd_none];rfl
 | n+1=>by
  rw[t0];simp only[l0,r0,u2,bd_br,bd_bd,bd_some',bd_none,br_t,br_f,o0,o2,altK]
theorem sl(c:Nat):SL anns (ls c) (tb c) c (ls c):=slC (laC (fun _=>θ) (fun _ (x:fm×fm×fm×Int×fm×fm×Unit) k=>dN (u2 c x.1 x.2.1 x.2.2.2.2.2.1 k (c+40) x.2.2.1 x.2.2.2.1 x.2.2.2.2.1)) (laC (fun _=>θ) (fun _ (x:fm×fm×Int×fm×fm×Unit) k=>dN (u0 c x.1 x.2.1 x.2.2.1 x.2.2.2.1 x.2.2.2.2.1 k (c+40))) (laC (fun _=>θ) (fun _ (x:fm×fm×fm×Int×fm×fm×fm×Unit) k=>dN (u1 c x.1 x.2.1 x.2.2.2.1 x.2.2.2.2.2.1 x.2.2.2.2.2.2.1 k (c+40) x.2.2.1 x.2.2.2.2.1)) laN))) slN
def f(c:Nat)(h:fm)(i:fm):Option (fm×fm×Unit):=bd (mkL (if(i64.wrap ((i64.wrap ((h.length:Int)-(i.length:Int)))+1)) > 0 then(i64.wrap ((i64.wrap ((h.length:Int)-(i.length:Int)))+1))else 0) (if(i64.wrap ((i64.wrap ((h.length:Int)-(i.length:Int)))+1)) > 0 then(i64.wrap ((i64.wrap ((h.length:Int)-(i.length:Int)))+1))else 0) 8 0) fun a=>bd (cutL h (some (if(i64.wrap ((i64.wrap ((h.length:Int)-(i.length:Int)))+1)) > 0 then(i64.wrap ((i64.wrap ((h.length:Int)-(i.length:Int)))+1))else 0)) none) fun b=>bd (apL true 8 [] b) fun d=>bd (l0 c h i (i64.wrap ((if(i64.wrap ((i64.wrap ((h.length:Int)-(i.length:Int)))+1)) > 0 then(i64.wrap ((i64.wrap ((h.length:Int)-(i.length:Int)))+1))else 0)-1)) a d (c+40)) fun e=>br e.1 (bd (aP.f c e.2.1.1) fun g=>some (g.1,e.2.1.2.1,())) (bd (aP.f c e.2.2.1.2.1) fun g=>some (g.1,e.2.2.1.1,()))
def E(c:Nat):Entry:=⟨[(.sl (.int .i64)),(.sl (.int .i64))],[(.sl (.int .i64)),(.sl (.int .i64))],fun x=>f c x.1 x.2.1⟩
theorem ok(c:Nat):Ok 321 (E c):=okL (tC (dm.ok c) (tC (aP.ok c) (tC (bZ.ok c) tN))) (aoC aoN) (sl c) fun x=>θ
end bJ
end
end Go.Q
namespace Go.Q
open Go Go.RowKit
open Go.Rx (br bd sIdx sCat sCut iQuo iRem iShl)
noncomputable section
namespace aJ
def f(c:Nat)(p:fi)(q:fi):fo fi:=bd (iI.f c p 17) fun a=>br a.1 (bd (iI.f c q 17) fun b=>br b.1 (bd (bQ.f c p) fun d=>bd (bQ.f c q) fun e=>bd (mV.f c d.1 e.1) fun g=>bd (bY.f c g.1) fun h=>some (h.1,())) (bd (aX.f c p) fun d=>bd (aP.f c d.1) fun e=>bd (aX.f c q) fun g=>bd (aP.f c g.1) fun h=>bd (bJ.f c e.1 h.1) fun i=>bd (aC.f c p) fun j=>bd (aC.f c q) fun k=>bd (bD.f c i.1 (j.1 != k.1)) fun l=>bd (aC.f c p) fun m=>bd (aC.f c q) fun n=>br (m.1 != n.1) (br (decide ((i.2.1.length:Int) > 0)) (bd (aT.f c l.1 (⟨#[49]⟩:fi)) fun o=>some (o.1,())) (some (l.1,()))) (some (l.1,())))) (bd (aX.f c p) fun b=>bd (aP.f c b.1) fun d=>bd (aX.f c q) fun e=>bd (aP.f c e.1) fun g=>bd (bJ.f c d.1 g.1) fun h=>bd (aC.f c p) fun i=>bd (aC.f c q) fun j=>bd (bD.f c h.1 (i.1 != j.1)) fun k=>bd (aC.f c p) fun l=>bd (aC.f c q) fun m=>br (l.1 != m.1) (br (decide ((h.2.1.length:Int) > 0)) (bd (aT.f c k.1 (⟨#[49]⟩:fi)) fun n=>some (n.1,())) (some (k.1,()))) (some (k.1,())))
def E(c:Nat):Entry:=⟨[.str,.str],[.str],fun x=>f c x.1 x.2.1⟩
theorem ok(c:Nat):Ok 252 (E c):=fp c (tC (aC.ok c) (tC (aT.ok c) (tC (aP.ok c) (tC (aX.ok c) (tC (iI.ok c) (tC (bY.ok c) (tC (bQ.ok c) (tC (bD.ok c) (tC (mV.ok c) (tC (bJ.ok c) tN)))))))))) fun x=>θ
end aJ
namespace bU
def f(c:Nat)(e:fi)(g:fi):fo fi:=bd (aJ.f c e g) fun a=>bd (aU.f c g a.1) fun b=>bd (aT.f c e b.1) fun d=>some (d.1,())
def E(c:Nat):Entry:=⟨[.str,.str],[.str],fun x=>f c x.1 x.2.1⟩
theorem ok(c:Nat):Ok 242 (E c):=fp c (tC (aT.ok c) (tC (aU.ok c) (tC (aJ.ok c) tN))) fun x=>θ
end bU
namespace dh
def f(c:Nat)(a:fi):fo fi:=bd (aC.f c a) fun r1=>br r1.1 (bd (sCut a (some 1) none) fun r2=>some (r2,())) (some (a,()))
def E(c:Nat):Entry:=⟨[.str],[.str],fun x=>f c x.1⟩
theorem ok(c:Nat):Ok 318 (E c):=fp c (tC (aC.ok c) tN) fun x=>θ
end dh
namespace bH
def anns:FuncId→FA:=annsL [(248,⟨annOf [(0,⟨kx 18 [5,6],[],[]⟩,⟨kx 18 [4,5],[],[]⟩)],none,[]⟩)]
def r0{ρ:Type}(c:Nat)(b a:fi)(K:fi→fi→Option ρ)(E0:fi→Option ρ):Option ρ:=br (!(a.toList==(⟨#[48]⟩:fi).toList)) (bd (bU.f c b a) fun r3 =>
 K a r3.1) (
 E0 b)
def l0(c:Nat):Nat→fi→fi→Option ((fi×Unit)×Unit)
 | 0,_,_=>none
 | n+1,v0,v1=>r0 c v0 v1 (l0 c n) (fun a=>some ((a,()),()))
def sh0:ShS:=⟨[.a 5,.s .str,.s .str,.a 11],[]⟩
def S0(p:fi×fi×Unit):St:=sh0.b p
def xh0:ShS:=⟨[.a 5,.s .str,.a 12],[]⟩
def o0(y:(fi×Unit)×Unit):Alt:=.one (.exit 0) (xh0.b (y.1.1,()))
def tb(c:Nat):List (FuncId×Entry):=[(242,bU.E c),(318,dh.E c)]
def afz(c:Nat):List (Nat×(St→Option LTE)):=[(0,sumE sh0 fun(p:fi×fi×Unit)=>⟨(fi×Unit)×Unit,l0 c (c+40) p.1 p.2.1,o0⟩)]
def ls(c:Nat):List (Nat×FuncId×Sums):=[(13,248,sumsL (afz c))]
def it0{ρ:Type}(c n:Nat)(a:St)(k:KE ρ):Option ρ:=itG anns (ls c) (tb c) c 13 248 0 0 (sumsL (afz c)) n a k
theorem t0{ρ:Type}(c n:Nat)(a d:fi)(k:KE ρ):it0 c (n+1) (S0 (a,d,())) k=r0 c a d (fun f g=>it0 c n (S0 (f,g,())) k) (fun e=>k (.exit 0) (xh0.b (e,()))):=θ
theorem u0{ρ:Type}(c:Nat)(k:KE ρ):∀ (n:Nat) (a b:fi),it0 c n (S0 (a,b,())) k=bd (l0 c n a b) fun y=>altK k (o0 y)
 | 0,_,_=>by rw[l0,bd_none];rfl
 | n+1,a,b=>by
  rw[t0];simp only[l0,r0,u0 c k n,bd_br,bd_bd,bd_some',bd_none,br_t,br_f,o0,altK]
theorem sl(c:Nat):SL anns (ls c) (tb c) c (ls c):=slC (laC (fun _=>θ) (fun _ (x:fi×fi×Unit) k=>dN (u0 c k (c+40) x.1 x.2.1)) laN) slN
def f(c:Nat)(e:fi)(g:fi):fo fi:=bd (dh.f c e) fun a=>bd (dh.f c g) fun b=>bd (l0 c (c+40) a.1 b.1) fun d=>some (d.1.1,())
def E(c:Nat):Entry:=⟨[.str,.str],[.str],fun x=>f c x.1 x.2.1⟩
theorem ok(c:Nat):Ok 248 (E c):=okL (tC (bU.ok c) (tC (dh.ok c) tN)) (aoC aoN) (sl c) fun x=>θ
end bH
namespace di
def anns:FuncId→FA:=annsL [(250,⟨annOf [(0,⟨kx 53 [0,1,6,7,8,9],[],[]⟩,⟨kx 53 [0,1,4,5,6,8],[],[]⟩)],none,[]⟩)]
def r0{ρ:Type}(c:Nat)(l m:fi)(i h j k:fi)(K:fi→fi→fi→fi→Option ρ)(E0:fi→fi→Option ρ):Option ρ:=br (!(h.toList==(⟨#[48]⟩:fi).toList)) (bd (aJ.f c i h) fun a=>bd (aU.f c a.1 h) fun b=>bd (aT.f c i b.1) fun d=>bd (aU.f c a.1 k) fun e=>bd (aT.f c j e.1) fun g =>
 K h d.1 k g.1) (
 E0 i j)
def l0(c:Nat)(a b:fi):Nat→fi→fi→fi→fi→Option ((fi×fi×Unit)×Unit)
 | 0,_,_,_,_=>none
 | n+1,v2,v3,v4,v5=>r0 c a b v2 v3 v4 v5 (l0 c a b n) (fun d e=>some ((d,e,()),()))
def sh0:ShS:=⟨[.s .str,.s .str,.a 4,.s .str,.s .str,.s .str,.s .str,.a 43],[]⟩
def S0(p:fi×fi×fi×fi×fi×fi×Unit):St:=sh0.b p
def xh0:ShS:=⟨[.s .str,.s .str,.a 4,.s .str,.a 1,.s .str,.a 44],[]⟩
def o0(a c:fi)(y:(fi×fi×Unit)×Unit):Alt:=.one (.exit 0) (xh0.b (a,c,y.1.1,y.1.2.1,()))
def tb(c:Nat):List (FuncId×Entry):=[(135,bF.E c),(242,bU.E c),(243,aT.E c),(251,aU.E c),(252,aJ.E c),(313,bY.E c),(318,dh.E c)]
def afA(c:Nat):List (Nat×(St→Option LTE)):=[(0,sumE sh0 fun(p:fi×fi×fi×fi×fi×fi×Unit)=>⟨(fi×fi×Unit)×Unit,l0 c p.1 p.2.1 (c+40) p.2.2.1 p.2.2.2.1 p.2.2.2.2.1 p.2.2.2.2.2.1,o0 p.1 p.2.1⟩)]
def ls(c:Nat):List (Nat×FuncId×Sums):=[(13,250,sumsL (afA c))]
def it0{ρ:Type}(c n:Nat)(a:St)(k:KE ρ):Option ρ:=itG anns (ls c) (tb c) c 13 250 0 0 (sumsL (afA c)) n a k
theorem t0{ρ:Type}(c n:Nat)(a d e f g h:fi)(k:KE ρ):it0 c (n+1) (S0 (a,d,e,f,g,h,())) k=r0 c a d e f g h (fun l m o p=>it0 c n (S0 (a,d,l,m,o,p,())) k) (fun i j=>k (.exit 0) (xh0.b (a,d,i,j,()))):=θ
theorem u0{ρ:Type}(c:Nat)(a b:fi)(k:KE ρ):∀ (n:Nat) (d e f g:fi),it0 c n (S0 (a,b,d,e,f,g,())) k=bd (l0 c a b n d e f g) fun y=>altK k (o0 a b y)
 | 0,_,_,_,_=>by rw[l0,bd_none];rfl
 | n+1,d,e,f,g=>by
  rw[t0];simp only[l0,r0,u0 c a b k n,bd_br,bd_bd,bd_some',bd_none,br_t,br_f,o0,altK]
theorem sl(c:Nat):SL anns (ls c) (tb c) c (ls c):=slC (laC (fun _=>θ) (fun _ (x:fi×fi×fi×fi×fi×fi×Unit) k=>dN (u0 c x.1 x.2.1 k (c+40) x.2.2.1 x.2.2.2.1 x.2.2.2.2.1 x.2.2.2.2.2.1)) laN) slN
def f(c:Nat)(n:fi)(m:fi):Option (fi×fi×Unit):=br (m.toList==(⟨#[48]⟩:fi).toList) (bd (bF.f c n) fun a=>bd (bY.f c a.1) fun b=>some (b.1,(⟨#[48]⟩:fi),())) (bd (dh.f c m) fun a=>bd (dh.f c m) fun b=>bd (bU.f c n b.1) fun d=>bd (l0 c n m (c+40) a.1 d.1 (⟨#[48]⟩:fi) (⟨#[49]⟩:fi)) fun e=>bd (dh.f c m) fun g=>bd (aJ.f c g.1 e.1.1) fun h=>bd (bU.f c e.1.2.1 h.1) fun i=>bd (aU.f c n i.1) fun j=>bd (aT.f c e.1.1 j.1) fun k=>bd (aJ.f c k.1 m) fun l=>some (i.1,l.1,()))
def E(c:Nat):Entry:=⟨[.str,.str],[.str,.str],fun x=>f c x.1 x.2.1⟩
theorem ok(c:Nat):Ok 250 (E c):=okL (tC (bF.ok c) (tC (bU.ok c) (tC (aT.ok c) (tC (aU.ok c) (tC (aJ.ok c) (tC (bY.ok c) (tC (dh.ok c) tN))))))) (aoC aoN) (sl c) fun x=>θ
end di
end
end Go.Q
namespace Go.Q
open Go.IntKind (i64)
open Go Go.RowKit
open Go.Rx (br bd sIdx sCat sCut iQuo iRem iShl)
noncomputable section
namespace sW
def f(c:Nat)(i:TI)(j:TI):Option (TI×Int×Unit):=bd (bC.f c i) fun a=>br (a.1 != 0) (br (a.1 != 0) (some ((false,(⟨#[]⟩:fi),(⟨#[]⟩:fi),()),a.1,())) (bd (aK.f c i) fun b=>bd (aK.f c j) fun d=>bd (oW.f c b.1 d.1) fun e=>bd (af.f c e.1) fun g=>some (g.1,0,()))) (bd (bC.f c j) fun b=>br (b.1 != 0) (br (b.1 != 0) (some ((false,(⟨#[]⟩:fi),(⟨#[]⟩:fi),()),b.1,())) (bd (aK.f c i) fun d=>bd (aK.f c j) fun e=>bd (oW.f c d.1 e.1) fun g=>bd (af.f c g.1) fun h=>some (h.1,0,()))) (bd (aK.f c i) fun d=>bd (aK.f c j) fun e=>bd (oW.f c d.1 e.1) fun g=>bd (af.f c g.1) fun h=>some (h.1,0,())))
def E(c:Nat):Entry:=⟨[yI,yI],[yI,(.int .i64)],fun x=>f c x.1 x.2.1⟩
theorem ok(c:Nat):Ok 97 (E c):=fp c (tC (bC.ok c) (tC (aK.ok c) (tC (af.ok c) (tC (oW.ok c) tN)))) fun x=>θ
end sW
namespace jL
def f(c:Nat)(a:TX):fo Int:=br (a.1 != 0) (some (a.1,())) (bd (dS.f c a.2.1 (⟨#[48]⟩:fi)) fun r1=>some (r1.1,()))
def E(c:Nat):Entry:=⟨[yX],[(.int .i64)],fun x=>f c x.1⟩
theorem ok(c:Nat):Ok 276 (E c):=fp c (tC (dS.ok c) tN) fun x=>θ
end jL
namespace fU
def f(c:Nat)(g:TX)(h:TX):fo TX:=bd (jL.f c g) fun a=>bd (jL.f c h) fun b=>br ((i64.wrap (a.1*b.1))==0) (bd (aZ.f c (⟨#[48]⟩:fi)) fun d=>some (d.1,())) (br (g.1 != 0) (bd (bT.f c (i64.wrap (a.1*b.1))) fun d=>some (d.1,())) (br (h.1 != 0) (bd (bT.f c (i64.wrap (a.1*b.1))) fun d=>some (d.1,())) (bd (lF.f c g.2.1 h.2.1) fun d=>bd (aZ.f c d.1) fun e=>some (e.1,()))))
def E(c:Nat):Entry:=⟨[yX,yX],[yX],fun x=>f c x.1 x.2.1⟩
theorem ok(c:Nat):Ok 178 (E c):=fp c (tC (lF.ok c) (tC (bT.ok c) (tC (aZ.ok c) (tC (jL.ok c) tN)))) fun x=>θ
end fU
namespace iO
def f(c:Nat)(a:TX)(b:TX):fo TX:=bd (fG.f c b a) fun r1=>br (decide (r1.1 > 0)) (some (b,())) (some (a,()))
def E(c:Nat):Entry:=⟨[yX,yX],[yX],fun x=>f c x.1 x.2.1⟩
theorem ok(c:Nat):Ok 213 (E c):=fp c (tC (fG.ok c) tN) fun x=>θ
end iO
namespace fE
def f(c:Nat)(a:TX)(b:TX):fo TX:=bd (fG.f c b a) fun r1=>br (decide (r1.1 < 0)) (some (b,())) (some (a,()))
def E(c:Nat):Entry:=⟨[yX,yX],[yX],fun x=>f c x.1 x.2.1⟩
theorem ok(c:Nat):Ok 214 (E c):=fp c (tC (fG.ok c) tN) fun x=>θ
end fE
namespace ak
def f(c:Nat)(g:TS)(h:TS):fo TS:=bd (ah.f c g) fun a=>br a.1 (some (h,())) (bd (ah.f c h) fun b=>br b.1 (some (g,())) (bd (fE.f c g.1 h.1) fun d=>bd (iO.f c g.2.1 h.2.1) fun e=>some ((d.1,e.1,()),())))
def E(c:Nat):Entry:=⟨[yS,yS],[yS],fun x=>f c x.1 x.2.1⟩
theorem ok(c:Nat):Ok 278 (E c):=fp c (tC (ah.ok c) (tC (iO.ok c) (tC (fE.ok c) tN))) fun x=>θ
end ak
namespace sS
def anns:FuncId→FA:=annsL [(179,⟨annOf [(0,⟨kx 35 [3,7],[],[]⟩,⟨[],[],[]⟩)],none,[]⟩)]
def f(c:Nat)(s:TI)(t:TI):Option (TI×Int×Unit):=bd (bC.f c s) fun a=>br (a.1 != 0) (br (a.1 != 0) (some ((false,(⟨#[]⟩:fi),(⟨#[]⟩:fi),()),a.1,())) (bd (aK.f c s) fun b=>bd (aK.f c t) fun d=>bd (ah.f c b.1) fun e=>br e.1 (bd (au.f c) fun g=>bd (af.f c g.1) fun h=>some (h.1,0,())) (bd (ah.f c d.1) fun g=>br g.1 (bd (au.f c) fun h=>bd (af.f c h.1) fun i=>some (i.1,0,())) (bd (au.f c) fun h=>bd (fU.f c b.1.1 d.1.1) fun i=>bd (ak.f c h.1 (i.1,i.1,())) fun j=>bd (fU.f c b.1.1 d.1.2.1) fun k=>bd (ak.f c j.1 (k.1,k.1,())) fun l=>bd (fU.f c b.1.2.1 d.1.1) fun m=>bd (ak.f c l.1 (m.1,m.1,())) fun n=>bd (fU.f c b.1.2.1 d.1.2.1) fun o=>bd (ak.f c n.1 (o.1,o.1,())) fun p=>bd (af.f c p.1) fun q=>some (q.1,0,()))))) (bd (bC.f c t) fun b=>br (b.1 != 0) (br (b.1 != 0) (some ((false,(⟨#[]⟩:fi),(⟨#[]⟩:fi),()),b.1,())) (bd (aK.f c s) fun d=>bd (aK.f c t) fun e=>bd (ah.f c d.1) fun g=>br g.1 (bd (au.f c) fun h=>bd (af.f c h.1) fun i=>some (i.1,0,())) (bd (ah.f c e.1) fun h=>br h.1 (bd (au.f c) fun i=>bd (af.f c i.1) fun j=>some (j.1,0,())) (bd (au.f c) fun i=>bd (fU.f c d.1.1 e.1.1) fun j=>bd (ak.f c i.1 (j.1,j.1,())) fun k=>bd (fU.f c d.1.1 e.1.2.1) fun l=>bd (ak.f c k.1 (l.1,l.1,())) fun m=>bd (fU.f c d.1.2.1 e.1.1) fun n=>bd (ak.f c m.1 (n.1,n.1,())) fun o=>bd (fU.f c d.1.2.1 e.1.2.1) fun p=>bd (ak.f c o.1 (p.1,p.1,())) fun q=>bd (af.f c q.1) fun r=>some (r.1,0,()))))) (bd (aK.f c s) fun d=>bd (aK.f c t) fun e=>bd (ah.f c d.1) fun g=>br g.1 (bd (au.f c) fun h=>bd (af.f c h.1) fun i=>some (i.1,0,())) (bd (ah.f c e.1) fun h=>br h.1 (bd (au.f c) fun i=>bd (af.f c i.1) fun j=>some (j.1,0,())) (bd (au.f c) fun i=>bd (fU.f c d.1.1 e.1.1) fun j=>bd (ak.f c i.1 (j.1,j.1,())) fun k=>bd (fU.f c d.1.1 e.1.2.1) fun l=>bd (ak.f c k.1 (l.1,l.1,())) fun m=>bd (fU.f c d.1.2.1 e.1.1) fun n=>bd (ak.f c m.1 (n.1,n.1,())) fun o=>bd (fU.f c d.1.2.1 e.1.2.1) fun p=>bd (ak.f c o.1 (p.1,p.1,())) fun q=>bd (af.f c q.1) fun r=>some (r.1,0,())))))
def E(c:Nat):Entry:=⟨[yI,yI],[yI,(.int .i64)],fun x=>f c x.1 x.2.1⟩
theorem ok(c:Nat):Ok 99 (E c):=okT (an:=anns) (lf:=c) (tC (bC.ok c) (tC (aK.ok c) (tC (ah.ok c) (tC (au.ok c) (tC (af.ok c) (tC (fU.ok c) (tC (ak.ok c) tN))))))) (aoC aoN) fun x=>θ
end sS
namespace eU
def f(c:Nat)(a:TS)(b:TS):fo TS:=bd (iO.f c a.1 b.1) fun r1=>bd (fE.f c a.2.1 b.2.1) fun r2=>some ((r1.1,r2.1,()),())
def E(c:Nat):Entry:=⟨[yS,yS],[yS],fun x=>f c x.1 x.2.1⟩
theorem ok(c:Nat):Ok 121 (E c):=fp c (tC (iO.ok c) (tC (fE.ok c) tN)) fun x=>θ
end eU
namespace aN
def f(c:Nat)(e:TS):fo TS:=bd (aZ.f c (⟨#[49]⟩:fi)) fun a=>bd (bT.f c 1) fun b=>bd (eU.f c e (a.1,b.1,())) fun d=>some (d.1,())
def E(c:Nat):Entry:=⟨[yS],[yS],fun x=>f c x.1⟩
theorem ok(c:Nat):Ok 280 (E c):=fp c (tC (eU.ok c) (tC (bT.ok c) (tC (aZ.ok c) tN))) fun x=>θ
end aN
namespace aF
def f(c:Nat)(d:TX)(e:TX):fo TX:=br (d.1 != 0) (some (d,())) (br (e.1==0) (bd (iE.f c d.2.1 e.2.1) fun a=>bd (aZ.f c a.1) fun b=>some (b.1,())) (bd (jL.f c d) fun a=>br (decide (a.1 < 0)) (bd (aZ.f c (⟨#[45,49]⟩:fi)) fun b=>some (b.1,())) (bd (aZ.f c (⟨#[48]⟩:fi)) fun b=>some (b.1,()))))
def E(c:Nat):Entry:=⟨[yX,yX],[yX],fun x=>f c x.1 x.2.1⟩
theorem ok(c:Nat):Ok 183 (E c):=fp c (tC (iE.ok c) (tC (aZ.ok c) (tC (jL.ok c) tN))) fun x=>θ
end aF
namespace aV
def f(c:Nat)(a:TS):fo TS:=some (a,())
def E(c:Nat):Entry:=⟨[yS],[yS],fun x=>f c x.1⟩
theorem ok(c:Nat):Ok 184 (E c):=fp c tN fun x=>θ
end aV
end
end Go.Q
