import Derived.Test.YtkoahpnmchgliaaGreatDoorETG2
set_option linter.all false
set_option maxRecDepth 100000
namespace Go.Q
open Go Go.RowKit
open Go.Rx (br bd sIdx sCat sCut iQuo iRem iShl)
noncomputable section
namespace cu
def f(c:Nat)(g:TB)(e:TB):Option (TB×TB×Unit):=bd (aB.f c g.2.1 e.2.1) fun a=>br (g.1==e.1) (some ((false,a.1,()),(e.1,a.2.1,()),())) (br (decide ((a.2.1.length:Int) > 0)) (bd (jT.f c a.1 [1]) fun b=>bd (iG.f c e.2.1 a.2.1) fun d=>some ((true,b.1,()),(e.1,d.1,()),())) (some ((true,a.1,()),(e.1,a.2.1,()),())))
def E(c:Nat):Entry:=⟨[yB,yB],[yB,yB],fun x=>f c x.1 x.2.1⟩
theorem ok(c:Nat):Ok 302 (E c):=fp c (tC (aB.ok c) (tC (jT.ok c) (tC (iG.ok c) tN))) fun x=>θ
end cu
namespace nH
def f(c:Nat)(g:fi)(h:fi):Option (fi×fi×Int×Unit):=bd (gQ.f c g h) fun a=>br (a.2.2.1 != 0) (some ((⟨#[]⟩:fi),(⟨#[]⟩:fi),a.2.2.1,())) (br ((a.2.1.2.1.length:Int)==0) (some ((⟨#[]⟩:fi),(⟨#[]⟩:fi),19,())) (bd (cu.f c a.1 a.2.1) fun b=>bd (aH.f c b.1) fun d=>bd (aH.f c b.2.1) fun e=>some (d.1,e.1,0,())))
def E(c:Nat):Entry:=⟨[.str,.str],[.str,.str,(.int .i64)],fun x=>f c x.1 x.2.1⟩
theorem ok(c:Nat):Ok 295 (E c):=fp c (tC (gQ.ok c) (tC (aH.ok c) (tC (cu.ok c) tN))) fun x=>θ
end nH
namespace jE
def f(c:Nat)(a:fi)(b:fi):Option (fi×Int×Unit):=bd (nH.f c a b) fun r1=>some (r1.2.1,r1.2.2.1,())
def E(c:Nat):Entry:=⟨[.str,.str],[.str,(.int .i64)],fun x=>f c x.1 x.2.1⟩
theorem ok(c:Nat):Ok 272 (E c):=fp c (tC (nH.ok c) tN) fun x=>θ
end jE
namespace jQ
def f(c:Nat)(a:fi):Option (fi×Int×Unit):=bd (lG.f c (⟨#[48]⟩:fi) a) fun r1=>some (r1.1,r1.2.1,())
def E(c:Nat):Entry:=⟨[.str],[.str,(.int .i64)],fun x=>f c x.1⟩
theorem ok(c:Nat):Ok 206 (E c):=fp c (tC (lG.ok c) tN) fun x=>θ
end jQ
namespace vN
def f(c:Nat)(a:fi):Option (fi×Int×Unit):=bd (dK.f c a) fun r1=>br (r1.1 != 0) (some ((⟨#[]⟩:fi),r1.1,())) (bd (strings_TrimPrefix.f c a (⟨#[45]⟩:fi)) fun r2=>some (r2.1,0,()))
def E(c:Nat):Entry:=⟨[.str],[.str,(.int .i64)],fun x=>f c x.1⟩
theorem ok(c:Nat):Ok 271 (E c):=fp c (tC (dK.ok c) (tC (strings_TrimPrefix.ok c) tN)) fun x=>θ
end vN
namespace iL
def anns:FuncId→FA:=annsL [(304,⟨annOf [(0,⟨kx 19 [0,1],[],[]⟩,⟨kx 19 [0,4],[],[]⟩)],none,[]⟩)]
def r0{ρ:Type}(c:Nat)(b a:fm)(K:fm→fm→Option ρ)(E0:fm→Option ρ):Option ρ:=br (decide ((a.length:Int) > 0)) (bd (aB.f c b a) fun r1 =>
 K a r1.2.1) (
 E0 b)
def l0(c:Nat):Nat→fm→fm→Option ((fm×Unit)×Unit)
 | 0,_,_=>none
 | n+1,v0,v1=>r0 c v0 v1 (l0 c n) (fun a=>some ((a,()),()))
def sh0:ShS:=⟨[.s (.sl (.int .i64)),.s (.sl (.int .i64)),.a 17],[]⟩
def S0(p:fm×fm×Unit):St:=sh0.b p
def xh0:ShS:=⟨[.s (.sl (.int .i64)),.a 18],[]⟩
def o0(y:(fm×Unit)×Unit):Alt:=.one (.exit 0) (xh0.b (y.1.1,()))
def tb(c:Nat):List (FuncId×Entry):=[(303,aB.E c)]
def afB(c:Nat):List (Nat×(St→Option LTE)):=[(0,sumE sh0 fun(p:fm×fm×Unit)=>⟨(fm×Unit)×Unit,l0 c (c+40) p.1 p.2.1,o0⟩)]
def ls(c:Nat):List (Nat×FuncId×Sums):=[(13,304,sumsL (afB c))]
def it0{ρ:Type}(c n:Nat)(a:St)(k:KE ρ):Option ρ:=itG anns (ls c) (tb c) c 13 304 0 0 (sumsL (afB c)) n a k
theorem t0{ρ:Type}(c n:Nat)(a d:fm)(k:KE ρ):it0 c (n+1) (S0 (a,d,())) k=r0 c a d (fun f g=>it0 c n (S0 (f,g,())) k) (fun e=>k (.exit 0) (xh0.b (e,()))):=θ
theorem u0{ρ:Type}(c:Nat)(k:KE ρ):∀ (n:Nat) (a b:fm),it0 c n (S0 (a,b,())) k=bd (l0 c n a b) fun y=>altK k (o0 y)
 | 0,_,_=>by rw[l0,bd_none];rfl
 | n+1,a,b=>by
  rw[t0];simp only[l0,r0,u0 c k n,bd_br,bd_bd,bd_some',bd_none,br_t,br_f,o0,altK]
theorem sl(c:Nat):SL anns (ls c) (tb c) c (ls c):=slC (laC (fun _=>θ) (fun _ (x:fm×fm×Unit) k=>dN (u0 c k (c+40) x.1 x.2.1)) laN) slN
def f(c:Nat)(a:fm)(b:fm):fo fm:=bd (l0 c (c+40) a b) fun d=>some (d.1.1,())
def E(c:Nat):Entry:=⟨[(.sl (.int .i64)),(.sl (.int .i64))],[(.sl (.int .i64))],fun x=>f c x.1 x.2.1⟩
theorem ok(c:Nat):Ok 304 (E c):=okL (tC (aB.ok c) tN) (aoC aoN) (sl c) fun x=>θ
end iL
namespace vO
def f(c:Nat)(e:fi)(g:fi):Option (fi×Int×Unit):=bd (gQ.f c e g) fun a=>br (a.2.2.1 != 0) (some ((⟨#[]⟩:fi),a.2.2.1,())) (bd (iL.f c a.1.2.1 a.2.1.2.1) fun b=>bd (aH.f c (false,b.1,())) fun d=>some (d.1,0,()))
def E(c:Nat):Entry:=⟨[.str,.str],[.str,(.int .i64)],fun x=>f c x.1 x.2.1⟩
theorem ok(c:Nat):Ok 275 (E c):=fp c (tC (gQ.ok c) (tC (aH.ok c) (tC (iL.ok c) tN))) fun x=>θ
end vO
namespace dY
def f(c:Nat)(a:TB)(b:TB):fo TB:=bd (gY.f c a.2.1 b.2.1) fun r1=>some (((a.1 != b.1),r1.1,()),())
def E(c:Nat):Entry:=⟨[yB,yB],[yB],fun x=>f c x.1 x.2.1⟩
theorem ok(c:Nat):Ok 299 (E c):=fp c (tC (gY.ok c) tN) fun x=>θ
end dY
namespace lF
def f(c:Nat)(e:fi)(g:fi):Option (fi×Int×Unit):=bd (gQ.f c e g) fun a=>br (a.2.2.1 != 0) (some ((⟨#[]⟩:fi),a.2.2.1,())) (bd (dY.f c a.1 a.2.1) fun b=>bd (jF.f c b.1) fun d=>some (d.1,d.2.1,()))
def E(c:Nat):Entry:=⟨[.str,.str],[.str,(.int .i64)],fun x=>f c x.1 x.2.1⟩
theorem ok(c:Nat):Ok 209 (E c):=fp c (tC (gQ.ok c) (tC (jF.ok c) (tC (dY.ok c) tN))) fun x=>θ
end lF
namespace iE
def f(c:Nat)(a:fi)(b:fi):Option (fi×Int×Unit):=bd (nH.f c a b) fun r1=>some (r1.1,r1.2.2.1,())
def E(c:Nat):Entry:=⟨[.str,.str],[.str,(.int .i64)],fun x=>f c x.1 x.2.1⟩
theorem ok(c:Nat):Ok 207 (E c):=fp c (tC (nH.ok c) tN) fun x=>θ
end iE
namespace yL
def f(c:Nat)(a:Int):fo fi:=bd (B.Itoa.f c a) fun r1=>some (r1.1,())
def E(c:Nat):Entry:=⟨[(.int .i64)],[.str],fun x=>f c x.1⟩
theorem ok(c:Nat):Ok 301 (E c):=fp c (tC (B.Itoa.ok c) tN) fun x=>θ
end yL
end
end Go.Q
namespace Go.Q
open Go Go.RowKit
open Go.Rx (br bd sIdx sCat sCut iQuo iRem iShl)
noncomputable section
namespace dX
def anns:FuncId→FA:=annsL [(218,⟨annOf [(0,⟨kx 110 [8,9,12,13,14,15],[],[]⟩,⟨kx 110 [4,5,6,7,8,9,12,14],[],[]⟩)],none,[]⟩)]
def r2{ρ:Type}(c:Nat)(o:Bool)(p:fm)(q:Bool)(r s:fm)(l:Bool)(m:fm)(k:Bool)(j:fm)(n:Bool)(i:fm)(g:Bool)(h:fm)(K:Bool→fm→Bool→fm→Bool→fm→Bool→fm→Option ρ)(E0:Bool→fm→Bool→fm→Bool→fm→Bool→fm→fm→Bool→fm→Bool→fm→Option ρ):Option ρ:=br (decide ((j.length:Int) > 0)) (bd (cu.f c (l,m,()) (k,j,())) fun a=>bd (dY.f c a.1 (g,h,())) fun b=>bd (dM.f c b.1) fun d=>bd (gX.f c (n,i,()) d.1) fun e =>
 K k j a.2.1.1 a.2.1.2.1 g h e.1.1 e.1.2.1) (
 E0 o p q r l m k j s n i g h)
def l2(c:Nat)(e:Bool)(f:fm)(g:Bool)(h i:fm):Nat→Bool→fm→Bool→fm→Bool→fm→Bool→fm→Option ((Bool×fm×Bool×fm×Bool×fm×Bool×fm×fm×Bool×fm×Bool×fm×Unit)×Unit)
 | 0,_,_,_,_,_,_,_,_=>none
 | n+1,v4,v5,v6,v7,v9,v10,v11,v12=>r2 c e f g h i v4 v5 v6 v7 v9 v10 v11 v12 (l2 c e f g h i n) (fun j k l m o p q r w8 s a b d=>some ((j,k,l,m,o,p,q,r,w8,s,a,b,d,()),()))
def sh2:ShS:=⟨[.a 8,.s (.ptr 0 0),.s (.ptr 1 0),.a 2,.s (.ptr 2 0),.s (.ptr 3 0),.s (.ptr 5 0),.s (.ptr 6 0),.a 94],[.cells [.s .bool,.s (.sl (.int .i64))] 239,.cells [.s .bool,.s (.sl (.int .i64))] 239,.cells [.s .bool,.s (.sl (.int .i64))] 239,.cells [.s .bool,.s (.sl (.int .i64))] 239,.row (.int .i64) 3 true,.cells [.s .bool,.s (.sl (.int .i64))] 239,.cells [.s .bool,.s (.sl (.int .i64))] 239]⟩
def S2(p:Bool×fm×Bool×fm×Bool×fm×Bool×fm×fm×Bool×fm×Bool×fm×Unit):St:=sh2.b p
def xh0:ShS:=⟨[.a 8,.s (.ptr 0 0),.s (.ptr 1 0),.a 2,.s (.ptr 2 0),.a 1,.s (.ptr 5 0),.a 95],[.cells [.s .bool,.s (.sl (.int .i64))] 239,.cells [.s .bool,.s (.sl (.int .i64))] 239,.cells [.s .bool,.s (.sl (.int .i64))] 239,.cells [.s .bool,.s (.sl (.int .i64))] 239,.row (.int .i64) 3 true,.cells [.s .bool,.s (.sl (.int .i64))] 239,.cells [.s .bool,.s (.sl (.int .i64))] 239]⟩
def o2(a:Bool)(c:fm)(d:Bool)(e f:fm)(y:(Bool×fm×Bool×fm×Bool×fm×Bool×fm×fm×Bool×fm×Bool×fm×Unit)×Unit):Alt:=.one (.exit 0) (xh0.b (y.1.1,y.1.2.1,y.1.2.2.1,y.1.2.2.2.1,y.1.2.2.2.2.1,y.1.2.2.2.2.2.1,y.1.2.2.2.2.2.2.1,y.1.2.2.2.2.2.2.2.1,y.1.2.2.2.2.2.2.2.2.1,y.1.2.2.2.2.2.2.2.2.2.1,y.1.2.2.2.2.2.2.2.2.2.2.1,y.1.2.2.2.2.2.2.2.2.2.2.2.1,y.1.2.2.2.2.2.2.2.2.2.2.2.2.1,()))
def r1{ρ:Type}(c:Nat)(k:Bool)(l:fm)(m:Bool)(n:fm)(o:Bool)(p:fm)(j:Bool)(i q:fm)(r g:Bool)(h:fm)(s:Bool→fm→Bool→fm→Bool→fm→Bool→fm→fm→Bool→fm→Bool→fm→Option ρ)(E0:Bool→fm→Bool→fm→Bool→fm→Bool→fm→fm→Bool→Bool→fm→Option ρ):Option ρ:=br (decide ((i.length:Int) > 0)) (bd (cu.f c (o,p,()) (j,i,())) fun a=>bd (dY.f c a.1 (g,h,())) fun b=>bd (dM.f c b.1) fun d=>bd (gX.f c (r,[],()) d.1) fun e =>
 s k l m n j i a.2.1.1 a.2.1.2.1 q g h e.1.1 e.1.2.1) (
 E0 k l m n o p j i q r g h)
def l1(c:Nat)(j:Bool)(k:fm)(l:Bool)(m:fm)(o:Bool)(p:fm)(q:Bool)(r s:fm)(t b:Bool)(d:fm):Nat→Option (Bool×(Bool×fm×Bool×fm×Bool×fm×Bool×fm×fm×Bool×Bool×fm×Unit)×(Bool×fm×Bool×fm×Bool×fm×Bool×fm×fm×Bool×fm×Bool×fm×Unit)×Unit)
 | 0=>none
 | n+1=>r1 c j k l m o p q r s t b d (fun D E F G H I J K L M g h i=>bd (l2 c D E F G L n H I J K M g h i) fun a=>some (false,(false,[],false,[],false,[],false,[],[],false,false,[],()),((a.1.1,a.1.2.1,a.1.2.2.1,a.1.2.2.2.1,a.1.2.2.2.2.1,a.1.2.2.2.2.2.1,a.1.2.2.2.2.2.2.1,a.1.2.2.2.2.2.2.2.1,a.1.2.2.2.2.2.2.2.2.1,a.1.2.2.2.2.2.2.2.2.2.1,a.1.2.2.2.2.2.2.2.2.2.2.1,a.1.2.2.2.2.2.2.2.2.2.2.2.1,a.1.2.2.2.2.2.2.2.2.2.2.2.2.1,()),()))) (fun u v w x y z A B w8 C e f=>some (true,(u,v,w,x,y,z,A,B,w8,C,e,f,()),((false,[],false,[],false,[],false,[],[],false,[],false,[],()),())))
def sh1:ShS:=⟨[.a 8,.s (.ptr 0 0),.s (.ptr 1 0),.a 2,.s (.ptr 2 0),.s (.ptr 3 0),.s (.ptr 5 0),.s (.ptr 6 0),.a 94],[.cells [.s .bool,.s (.sl (.int .i64))] 239,.cells [.s .bool,.s (.sl (.int .i64))] 239,.cells [.s .bool,.s (.sl (.int .i64))] 239,.cells [.s .bool,.s (.sl (.int .i64))] 239,.row (.int .i64) 3 true,.cells [.s .bool,.s .nil] 239,.cells [.s .bool,.s (.sl (.int .i64))] 239]⟩
def S1(p:Bool×fm×Bool×fm×Bool×fm×Bool×fm×fm×Bool×Bool×fm×Unit):St:=sh1.b p
def xh1:ShS:=⟨[.a 8,.s (.ptr 0 0),.s (.ptr 1 0),.a 2,.s (.ptr 2 0),.a 1,.s (.ptr 5 0),.a 95],[.cells [.s .bool,.s (.sl (.int .i64))] 239,.cells [.s .bool,.s (.sl (.int .i64))] 239,.cells [.s .bool,.s (.sl (.int .i64))] 239,.cells [.s .bool,.s (.sl (.int .i64))] 239,.row (.int .i64) 3 true,.cells [.s .bool,.s .nil] 239,.cells [.s .bool,.s (.sl (.int .i64))] 239]⟩
def o1(d:Bool)(e:fm)(f:Bool)(g:fm)(h:Bool)(i:fm)(j:Bool)(k l:fm)(m a:Bool)(c:fm)(y:Bool×(Bool×fm×Bool×fm×Bool×fm×Bool×fm×fm×Bool×Bool×fm×Unit)×(Bool×fm×Bool×fm×Bool×fm×Bool×fm×fm×Bool×fm×Bool×fm×Unit)×Unit):Alt:=.two y.1 (.one (.exit 0) (xh1.b (y.2.1.1,y.2.1.2.1,y.2.1.2.2.1,y.2.1.2.2.2.1,y.2.1.2.2.2.2.1,y.2.1.2.2.2.2.2.1,y.2.1.2.2.2.2.2.2.1,y.2.1.2.2.2.2.2.2.2.1,y.2.1.2.2.2.2.2.2.2.2.1,y.2.1.2.2.2.2.2.2.2.2.2.1,y.2.1.2.2.2.2.2.2.2.2.2.2.1,y.2.1.2.2.2.2.2.2.2.2.2.2.2.1,()))) (.one (.exit 0) (xh0.b (y.2.2.1.1,y.2.2.1.2.1,y.2.2.1.2.2.1,y.2.2.1.2.2.2.1,y.2.2.1.2.2.2.2.1,y.2.2.1.2.2.2.2.2.1,y.2.2.1.2.2.2.2.2.2.1,y.2.2.1.2.2.2.2.2.2.2.1,y.2.2.1.2.2.2.2.2.2.2.2.1,y.2.2.1.2.2.2.2.2.2.2.2.2.1,y.2.2.1.2.2.2.2.2.2.2.2.2.2.1,y.2.2.1.2.2.2.2.2.2.2.2.2.2.2.1,y.2.2.1.2.2.2.2.2.2.2.2.2.2.2.2.1,())))
def r0{ρ:Type}(c:Nat)(k:Bool)(l:fm)(m:Bool)(n:fm)(o:Bool)(p:fm)(i:Bool)(h j:fm)(q g:Bool)(r:Bool→fm→Bool→fm→Bool→fm→Bool→fm→fm→Bool→Bool→fm→Option ρ)(E0:Bool→fm→Bool→fm→Bool→fm→Bool→fm→fm→Bool→Bool→Option ρ):Option ρ:=br (decide ((h.length:Int) > 0)) (bd (cu.f c (o,p,()) (i,h,())) fun a=>bd (dY.f c a.1 (g,[],())) fun b=>bd (dM.f c b.1) fun d=>bd (gX.f c (q,j,()) d.1) fun e =>
 r k l m n i h a.2.1.1 a.2.1.2.1 j g e.1.1 e.1.2.1) (
 E0 k l m n o p i h j q g)
def l0(c:Nat)(g:Bool)(h:fm)(i:Bool)(j:fm)(k:Bool)(l:fm)(m:Bool)(o p:fm)(q b:Bool):Nat→Option (Bool×(Bool×fm×Bool×fm×Bool×fm×Bool×fm×fm×Bool×Bool×Unit)×Bool×(Bool×fm×Bool×fm×Bool×fm×Bool×fm×fm×Bool×Bool×fm×Unit)×(Bool×fm×Bool×fm×Bool×fm×Bool×fm×fm×Bool×fm×Bool×fm×Unit)×Unit)
 | 0=>none
 | n+1=>r0 c g h i j k l m o p q b (fun A B C D E F G H I J e f=>bd (l1 c A B C D E F G H I J e f n) fun a=>br a.1 (some (false,(false,[],false,[],false,[],false,[],[],false,false,()),(true,(a.2.1.1,a.2.1.2.1,a.2.1.2.2.1,a.2.1.2.2.2.1,a.2.1.2.2.2.2.1,a.2.1.2.2.2.2.2.1,a.2.1.2.2.2.2.2.2.1,a.2.1.2.2.2.2.2.2.2.1,a.2.1.2.2.2.2.2.2.2.2.1,a.2.1.2.2.2.2.2.2.2.2.2.1,a.2.1.2.2.2.2.2.2.2.2.2.2.1,a.2.1.2.2.2.2.2.2.2.2.2.2.2.1,()),((false,[],false,[],false,[],false,[],[],false,[],false,[],()),())))) (some (false,(false,[],false,[],false,[],false,[],[],false,false,()),(false,(false,[],false,[],false,[],false,[],[],false,false,[],()),((a.2.2.1.1,a.2.2.1.2.1,a.2.2.1.2.2.1,a.2.2.1.2.2.2.1,a.2.2.1.2.2.2.2.1,a.2.2.1.2.2.2.2.2.1,a.2.2.1.2.2.2.2.2.2.1,a.2.2.1.2.2.2.2.2.2.2.1,a.2.2.1.2.2.2.2.2.2.2.2.1,a.2.2.1.2.2.2.2.2.2.2.2.2.1,a.2.2.1.2.2.2.2.2.2.2.2.2.2.1,a.2.2.1.2.2.2.2.2.2.2.2.2.2.2.1,a.2.2.1.2.2.2.2.2.2.2.2.2.2.2.2.1,()),()))))) (fun r s t u v w x y w8 z d=>some (true,(r,s,t,u,v,w,x,y,w8,z,d,()),(false,(false,[],false,[],false,[],false,[],[],false,false,[],()),((false,[],false,[],false,[],false,[],[],false,[],false,[],()),()))))
def sh0:ShS:=⟨[.a 8,.s (.ptr 0 0),.s (.ptr 1 0),.a 2,.s (.ptr 2 0),.s (.ptr 3 0),.s (.ptr 5 0),.s (.ptr 6 0),.a 94],[.cells [.s .bool,.s (.sl (.int .i64))] 239,.cells [.s .bool,.s (.sl (.int .i64))] 239,.cells [.s .bool,.s (.sl (.int .i64))] 239,.cells [.s .bool,.s (.sl (.int .i64))] 239,.row (.int .i64) 3 false,.cells [.s .bool,.s (.row 4)] 239,.cells [.s .bool,.s .nil] 239]⟩
def S0(p:Bool×fm×Bool×fm×Bool×fm×Bool×fm×fm×Bool×Bool×Unit):St:=sh0.b p
def xh2:ShS:=⟨[.a 8,.s (.ptr 0 0),.s (.ptr 1 0),.a 2,.s (.ptr 2 0),.a 1,.s (.ptr 5 0),.a 95],[.cells [.s .bool,.s (.sl (.int .i64))] 239,.cells [.s .bool,.s (.sl (.int .i64))] 239,.cells [.s .bool,.s (.sl (.int .i64))] 239,.cells [.s .bool,.s (.sl (.int .i64))] 239,.row (.int .i64) 3 false,.cells [.s .bool,.s (.row 4)] 239,.cells [.s .bool,.s .nil] 239]⟩
def o0(c:Bool)(d:fm)(e:Bool)(f:fm)(g:Bool)(h:fm)(i:Bool)(j k:fm)(l a:Bool)(y:Bool×(Bool×fm×Bool×fm×Bool×fm×Bool×fm×fm×Bool×Bool×Unit)×Bool×(Bool×fm×Bool×fm×Bool×fm×Bool×fm×fm×Bool×Bool×fm×Unit)×(Bool×fm×Bool×fm×Bool×fm×Bool×fm×fm×Bool×fm×Bool×fm×Unit)×Unit):Alt:=.two y.1 (.one (.exit 0) (xh2.b (y.2.1.1,y.2.1.2.1,y.2.1.2.2.1,y.2.1.2.2.2.1,y.2.1.2.2.2.2.1,y.2.1.2.2.2.2.2.1,y.2.1.2.2.2.2.2.2.1,y.2.1.2.2.2.2.2.2.2.1,y.2.1.2.2.2.2.2.2.2.2.1,y.2.1.2.2.2.2.2.2.2.2.2.1,y.2.1.2.2.2.2.2.2.2.2.2.2.1,()))) (.two y.2.2.1 (.one (.exit 0) (xh1.b (y.2.2.2.1.1,y.2.2.2.1.2.1,y.2.2.2.1.2.2.1,y.2.2.2.1.2.2.2.1,y.2.2.2.1.2.2.2.2.1,y.2.2.2.1.2.2.2.2.2.1,y.2.2.2.1.2.2.2.2.2.2.1,y.2.2.2.1.2.2.2.2.2.2.2.1,y.2.2.2.1.2.2.2.2.2.2.2.2.1,y.2.2.2.1.2.2.2.2.2.2.2.2.2.1,y.2.2.2.1.2.2.2.2.2.2.2.2.2.2.1,y.2.2.2.1.2.2.2.2.2.2.2.2.2.2.2.1,()))) (.one (.exit 0) (xh0.b (y.2.2.2.2.1.1,y.2.2.2.2.1.2.1,y.2.2.2.2.1.2.2.1,y.2.2.2.2.1.2.2.2.1,y.2.2.2.2.1.2.2.2.2.1,y.2.2.2.2.1.2.2.2.2.2.1,y.2.2.2.2.1.2.2.2.2.2.2.1,y.2.2.2.2.1.2.2.2.2.2.2.2.1,y.2.2.2.2.1.2.2.2.2.2.2.2.2.1,y.2.2.2.2.1.2.2.2.2.2.2.2.2.2.1,y.2.2.2.2.1.2.2.2.2.2.2.2.2.2.2.1,y.2.2.2.2.1.2.2.2.2.2.2.2.2.2.2.2.1,y.2.2.2.2.1.2.2.2.2.2.2.2.2.2.2.2.2.1,()))))
def tb(c:Nat):List (FuncId×Entry):=[(291,gQ.E c),(292,pI.E c),(293,gX.E c),(294,dM.E c),(299,dY.E c),(300,aH.E c),(301,yL.E c),(302,cu.E c),(303,aB.E c)]
def aa6(c:Nat):List (Nat×(St→Option LTE)):=[(0,sumE sh2 fun(p:Bool×fm×Bool×fm×Bool×fm×Bool×fm×fm×Bool×fm×Bool×fm×Unit)=>⟨(Bool×fm×Bool×fm×Bool×fm×Bool×fm×fm×Bool×fm×Bool×fm×Unit)×Unit,l2 c p.1 p.2.1 p.2.2.1 p.2.2.2.1 p.2.2.2.2.2.2.2.2.1 (c+40) p.2.2.2.2.1 p.2.2.2.2.2.1 p.2.2.2.2.2.2.1 p.2.2.2.2.2.2.2.1 p.2.2.2.2.2.2.2.2.2.1 p.2.2.2.2.2.2.2.2.2.2.1 p.2.2.2.2.2.2.2.2.2.2.2.1 p.2.2.2.2.2.2.2.2.2.2.2.2.1,o2 p.1 p.2.1 p.2.2.1 p.2.2.2.1 p.2.2.2.2.2.2.2.2.1⟩),
 (0,sumE sh1 fun(p:Bool×fm×Bool×fm×Bool×fm×Bool×fm×fm×Bool×Bool×fm×Unit)=>⟨Bool×(Bool×fm×Bool×fm×Bool×fm×Bool×fm×fm×Bool×Bool×fm×Unit)×(Bool×fm×Bool×fm×Bool×fm×Bool×fm×fm×Bool×fm×Bool×fm×Unit)×Unit,l1 c p.1 p.2.1 p.2.2.1 p.2.2.2.1 p.2.2.2.2.1 p.2.2.2.2.2.1 p.2.2.2.2.2.2.1 p.2.2.2.2.2.2.2.1 p.2.2.2.2.2.2.2.2.1 p.2.2.2.2.2.2.2.2.2.1 p.2.2.2.2.2.2.2.2.2.2.1 p.2.2.2.2.2.2.2.2.2.2.2.1 (c+40),o1 p.1 p.2.1 p.2.2.1 p.2.2.2.1 p.2.2.2.2.1 p.2.2.2.2.2.1 p.2.2.2.2.2.2.1 p.2.2.2.2.2.2.2.1 p.2.2.2.2.2.2.2.2.1 p.2.2.2.2.2.2.2.2.2.1 p.2.2.2.2.2.2.2.2.2.2.1 p.2.2.2.2.2.2.2.2.2.2.2.1⟩),
 (0,sumE sh0 fun(p:Bool×fm×Bool×fm×Bool×fm×Bool×fm×fm×Bool×Bool×Unit)=>⟨Bool×(Bool×fm×Bool×fm×Bool×fm×Bool×fm×fm×Bool×Bool×Unit)×Bool×(Bool×fm×Bool×fm×Bool×fm×Bool×fm×fm×Bool×Bool×fm×Unit)×(Bool×fm×Bool×fm×Bool×fm×Bool×fm×fm×Bool×fm×Bool×fm×Unit)×Unit,l0 c p.1 p.2.1 p.2.2.1 p.2.2.2.1 p.2.2.2.2.1 p.2.2.2.2.2.1 p.2.2.2.2.2.2.1 p.2.2.2.2.2.2.2.1 p.2.2.2.2.2.2.2.2.1 p.2.2.2.2.2.2.2.2.2.1 p.2.2.2.2.2.2.2.2.2.2.1 (c+40),o0 p.1 p.2.1 p.2.2.1 p.2.2.2.1 p.2.2.2.2.1 p.2.2.2.2.2.1 p.2.2.2.2.2.2.1 p.2.2.2.2.2.2.2.1 p.2.2.2.2.2.2.2.2.1 p.2.2.2.2.2.2.2.2.2.1 p.2.2.2.2.2.2.2.2.2.2.1⟩)]
def ls(c:Nat):List (Nat×FuncId×Sums):=[(13,218,sumsL (aa6 c))]
def it2{ρ:Type}(c n:Nat)(a:St)(k:KE ρ):Option ρ:=itG anns (ls c) (tb c) c 13 218 0 7 (sumsL (aa6 c)) n a k
theorem t2{ρ:Type}(c n:Nat)(f:Bool)(g:fm)(h:Bool)(i:fm)(p:Bool)(q:fm)(r:Bool)(s j:fm)(t:Bool)(a:fm)(d:Bool)(e:fm)(k:KE ρ):it2 c (n+1) (S2 (f,g,h,i,p,q,r,s,j,t,a,d,e,())) k=r2 c f g h i j p q r s t a d e (fun D E F G H I J K=>it2 c n (S2 (f,g,h,i,D,E,F,G,j,H,I,J,K,())) k) (fun u v w x y z A B w8 C l m o=>k (.exit 0) (xh0.b (u,v,w,x,y,z,A,B,w8,C,l,m,o,()))):=θ
theorem u2{ρ:Type}(c:Nat)(e:Bool)(f:fm)(g:Bool)(h i:fm)(k:KE ρ):∀ (n:Nat) (j:Bool) (l:fm) (m:Bool) (o:fm) (p:Bool) (a:fm) (b:Bool) (d:fm),it2 c n (S2 (e,f,g,h,j,l,m,o,i,p,a,b,d,())) k=bd (l2 c e f g h i n j l m o p a b d) fun y=>altK k (o2 e f g h i y)
 | 0,_,_,_,_,_,_,_,_=>by rw[l2,bd_none];rfl
 | n+1,j,l,m,o,p,a,b,d=>by
  rw[t2];simp only[l2,r2,u2 c e f g h i k n,bd_br,bd_bd,bd_some',bd_none,br_t,br_f,o2,altK]
def it1{ρ:Type}(c n:Nat)(a:St)(k:KE ρ):Option ρ:=itG anns (ls c) (tb c) c 13 218 0 7 (sumsL (aa6 c)) n a k
theorem t1{ρ:Type}(c n:Nat)(j:Bool)(l:fm)(m:Bool)(o:fm)(p:Bool)(q:fm)(r:Bool)(s t:fm)(u a:Bool)(d:fm)(k:KE ρ):it1 c (n+1) (S1 (j,l,m,o,p,q,r,s,t,u,a,d,())) k=r1 c j l m o p q r s t u a d (fun E F G H I J K L M N g h i=>it2 c n (S2 (E,F,G,H,I,J,K,L,M,N,g,h,i,())) k) (fun v w x y z A B C w8 D e f=>k (.exit 0) (xh1.b (v,w,x,y,z,A,B,C,w8,D,e,f,()))):=θ
theorem u1{ρ:Type}(c:Nat)(d:Bool)(e:fm)(f:Bool)(g:fm)(h:Bool)(i:fm)(j:Bool)(l m:fm)(o a:Bool)(b:fm)(k:KE ρ):∀ (n:Nat),it1 c n (S1 (d,e,f,g,h,i,j,l,m,o,a,b,())) k=bd (l1 c d e f g h i j l m o a b n) fun y=>altK k (o1 d e f g h i j l m o a b y)
 | 0=>by rw[l1,bd_none];rfl
 | n+1=>by
  rw[t1];simp only[l1,r1,u2,bd_br,bd_bd,bd_some',bd_none,br_t,br_f,o1,o2,altK]
def it0{ρ:Type}(c n:Nat)(a:St)(k:KE ρ):Option ρ:=itG anns (ls c) (tb c) c 13 218 0 7 (sumsL (aa6 c)) n a k
theorem t0{ρ:Type}(c n:Nat)(g:Bool)(h:fm)(i:Bool)(j:fm)(l:Bool)(m:fm)(o:Bool)(p q:fm)(r a:Bool)(k:KE ρ):it0 c (n+1) (S0 (g,h,i,j,l,m,o,p,q,r,a,())) k=r0 c g h i j l m o p q r a (fun B C D E F G H I J K e f=>it1 c n (S1 (B,C,D,E,F,G,H,I,J,K,e,f,())) k) (fun s t u v w x y z w8 A d=>k (.exit 0) (xh2.b (s,t,u,v,w,x,y,z,w8,A,d,()))):=θ
theorem u0{ρ:Type}(c:Nat)(b:Bool)(d:fm)(e:Bool)(f:fm)(g:Bool)(h:fm)(i:Bool)(j l:fm)(m a:Bool)(k:KE ρ):∀ (n:Nat),it0 c n (S0 (b,d,e,f,g,h,i,j,l,m,a,())) k=bd (l0 c b d e f g h i j l m a n) fun y=>altK k (o0 b d e f g h i j l m a y)
 | 0=>by rw[l0,bd_none];rfl
 | n+1=>by
  rw[t0];simp only[l0,r0,u1,bd_br,bd_bd,bd_some',bd_none,br_t,br_f,o0,o1,altK]
theorem sl(c:Nat):SL anns (ls c) (tb c) c (ls c):=slC (laC (fun _=>θ) (fun _ (x:Bool×fm×Bool×fm×Bool×fm×Bool×fm×fm×Bool×fm×Bool×fm×Unit) k=>dN (u2 c x.1 x.2.1 x.2.2.1 x.2.2.2.1 x.2.2.2.2.2.2.2.2.1 k (c+40) x.2.2.2.2.1 x.2.2.2.2.2.1 x.2.2.2.2.2.2.1 x.2.2.2.2.2.2.2.1 x.2.2.2.2.2.2.2.2.2.1 x.2.2.2.2.2.2.2.2.2.2.1 x.2.2.2.2.2.2.2.2.2.2.2.1 x.2.2.2.2.2.2.2.2.2.2.2.2.1)) (laC (fun _=>θ) (fun _ (x:Bool×fm×Bool×fm×Bool×fm×Bool×fm×fm×Bool×Bool×fm×Unit) k=>dN (u1 c x.1 x.2.1 x.2.2.1 x.2.2.2.1 x.2.2.2.2.1 x.2.2.2.2.2.1 x.2.2.2.2.2.2.1 x.2.2.2.2.2.2.2.1 x.2.2.2.2.2.2.2.2.1 x.2.2.2.2.2.2.2.2.2.1 x.2.2.2.2.2.2.2.2.2.2.1 x.2.2.2.2.2.2.2.2.2.2.2.1 k (c+40))) (laC (fun _=>θ) (fun _ (x:Bool×fm×Bool×fm×Bool×fm×Bool×fm×fm×Bool×Bool×Unit) k=>dN (u0 c x.1 x.2.1 x.2.2.1 x.2.2.2.1 x.2.2.2.2.1 x.2.2.2.2.2.1 x.2.2.2.2.2.2.1 x.2.2.2.2.2.2.2.1 x.2.2.2.2.2.2.2.2.1 x.2.2.2.2.2.2.2.2.2.1 x.2.2.2.2.2.2.2.2.2.2.1 k (c+40))) laN))) slN
def f(c:Nat)(o:fi)(p:fi):Option (fi×fi×fi×Int×Unit):=bd (gQ.f c o p) fun a=>br (a.2.2.1 != 0) (some ((⟨#[]⟩:fi),(⟨#[]⟩:fi),(⟨#[]⟩:fi),a.2.2.1,())) (br ((a.2.1.2.1.length:Int)==0) (bd (pI.f c a.1) fun b=>bd (aH.f c (false,a.1.2.1,())) fun d=>bd (yL.f c b.1) fun e=>some (d.1,e.1,(⟨#[48]⟩:fi),0,())) (bd (l0 c a.1.1 a.1.2.1 a.2.1.1 a.2.1.2.1 false a.1.2.1 false a.2.1.2.1 [1] false false (c+40)) fun b=>br b.1 (br b.2.1.1 (bd (dM.f c (b.2.1.2.2.2.2.2.2.2.2.2.1,b.2.1.2.2.2.2.2.2.2.2.1,())) fun d=>bd (aB.f c b.2.1.2.2.2.1 b.2.1.2.2.2.2.2.1) fun e=>bd (cu.f c d.1 (false,e.1,())) fun g=>bd (dY.f c (b.2.1.1,b.2.1.2.1,()) g.2.1) fun h=>bd (dM.f c h.1) fun i=>bd (gX.f c (b.2.1.2.2.2.2.1,b.2.1.2.2.2.2.2.1,()) i.1) fun j=>bd (cu.f c j.1 (b.2.1.2.2.1,b.2.1.2.2.2.1,())) fun k=>bd (aH.f c (b.2.1.2.2.2.2.1,b.2.1.2.2.2.2.2.1,())) fun l=>bd (aH.f c g.2.1) fun m=>bd (aH.f c k.1) fun n=>some (l.1,m.1,n.1,0,())) (bd (aB.f c b.2.1.2.2.2.1 b.2.1.2.2.2.2.2.1) fun d=>bd (cu.f c (b.2.1.2.2.2.2.2.2.2.2.2.1,b.2.1.2.2.2.2.2.2.2.2.1,()) (false,d.1,())) fun e=>bd (dY.f c (b.2.1.1,b.2.1.2.1,()) e.2.1) fun g=>bd (dM.f c g.1) fun h=>bd (gX.f c (b.2.1.2.2.2.2.1,b.2.1.2.2.2.2.2.1,()) h.1) fun i=>bd (cu.f c i.1 (b.2.1.2.2.1,b.2.1.2.2.2.1,())) fun j=>bd (aH.f c (b.2.1.2.2.2.2.1,b.2.1.2.2.2.2.2.1,())) fun k=>bd (aH.f c e.2.1) fun l=>bd (aH.f c j.1) fun m=>some (k.1,l.1,m.1,0,()))) (br b.2.2.1 (br b.2.2.2.1.1 (bd (dM.f c (b.2.2.2.1.2.2.2.2.2.2.2.2.2.1,[],())) fun d=>bd (aB.f c b.2.2.2.1.2.2.2.1 b.2.2.2.1.2.2.2.2.2.1) fun e=>bd (cu.f c d.1 (false,e.1,())) fun g=>bd (dY.f c (b.2.2.2.1.1,b.2.2.2.1.2.1,()) g.2.1) fun h=>bd (dM.f c h.1) fun i=>bd (gX.f c (b.2.2.2.1.2.2.2.2.1,b.2.2.2.1.2.2.2.2.2.1,()) i.1) fun j=>bd (cu.f c j.1 (b.2.2.2.1.2.2.1,b.2.2.2.1.2.2.2.1,())) fun k=>bd (aH.f c (b.2.2.2.1.2.2.2.2.1,b.2.2.2.1.2.2.2.2.2.1,())) fun l=>bd (aH.f c g.2.1) fun m=>bd (aH.f c k.1) fun n=>some (l.1,m.1,n.1,0,())) (bd (aB.f c b.2.2.2.1.2.2.2.1 b.2.2.2.1.2.2.2.2.2.1) fun d=>bd (cu.f c (b.2.2.2.1.2.2.2.2.2.2.2.2.2.1,[],()) (false,d.1,())) fun e=>bd (dY.f c (b.2.2.2.1.1,b.2.2.2.1.2.1,()) e.2.1) fun g=>bd (dM.f c g.1) fun h=>bd (gX.f c (b.2.2.2.1.2.2.2.2.1,b.2.2.2.1.2.2.2.2.2.1,()) h.1) fun i=>bd (cu.f c i.1 (b.2.2.2.1.2.2.1,b.2.2.2.1.2.2.2.1,())) fun j=>bd (aH.f c (b.2.2.2.1.2.2.2.2.1,b.2.2.2.1.2.2.2.2.2.1,())) fun k=>bd (aH.f c e.2.1) fun l=>bd (aH.f c j.1) fun m=>some (k.1,l.1,m.1,0,()))) (br b.2.2.2.2.1.1 (bd (dM.f c (b.2.2.2.2.1.2.2.2.2.2.2.2.2.2.1,b.2.2.2.2.1.2.2.2.2.2.2.2.2.2.2.1,())) fun d=>bd (aB.f c b.2.2.2.2.1.2.2.2.1 b.2.2.2.2.1.2.2.2.2.2.1) fun e=>bd (cu.f c d.1 (false,e.1,())) fun g=>bd (dY.f c (b.2.2.2.2.1.1,b.2.2.2.2.1.2.1,()) g.2.1) fun h=>bd (dM.f c h.1) fun i=>bd (gX.f c (b.2.2.2.2.1.2.2.2.2.1,b.2.2.2.2.1.2.2.2.2.2.1,()) i.1) fun j=>bd (cu.f c j.1 (b.2.2.2.2.1.2.2.1,b.2.2.2.2.1.2.2.2.1,())) fun k=>bd (aH.f c (b.2.2.2.2.1.2.2.2.2.1,b.2.2.2.2.1.2.2.2.2.2.1,())) fun l=>bd (aH.f c g.2.1) fun m=>bd (aH.f c k.1) fun n=>some (l.1,m.1,n.1,0,())) (bd (aB.f c b.2.2.2.2.1.2.2.2.1 b.2.2.2.2.1.2.2.2.2.2.1) fun d=>bd (cu.f c (b.2.2.2.2.1.2.2.2.2.2.2.2.2.2.1,b.2.2.2.2.1.2.2.2.2.2.2.2.2.2.2.1,()) (false,d.1,())) fun e=>bd (dY.f c (b.2.2.2.2.1.1,b.2.2.2.2.1.2.1,()) e.2.1) fun g=>bd (dM.f c g.1) fun h=>bd (gX.f c (b.2.2.2.2.1.2.2.2.2.1,b.2.2.2.2.1.2.2.2.2.2.1,()) h.1) fun i=>bd (cu.f c i.1 (b.2.2.2.2.1.2.2.1,b.2.2.2.2.1.2.2.2.1,())) fun j=>bd (aH.f c (b.2.2.2.2.1.2.2.2.2.1,b.2.2.2.2.1.2.2.2.2.2.1,())) fun k=>bd (aH.f c e.2.1) fun l=>bd (aH.f c j.1) fun m=>some (k.1,l.1,m.1,0,()))))))
def E(c:Nat):Entry:=⟨[.str,.str],[.str,.str,.str,(.int .i64)],fun x=>f c x.1 x.2.1⟩
theorem ok(c:Nat):Ok 218 (E c):=okL (tC (gQ.ok c) (tC (pI.ok c) (tC (gX.ok c) (tC (dM.ok c) (tC (dY.ok c) (tC (aH.ok c) (tC (yL.ok c) (tC (cu.ok c) (tC (aB.ok c) tN))))))))) (aoC aoN) (sl c) fun x=>θ
end dX
end
end Go.Q
namespace Go.Q
open Go Go.RowKit
open Go.Rx (br bd sIdx sCat sCut iQuo iRem iShl)
noncomputable section
namespace vP
def f(c:Nat)(h:fi)(i:fi):Option (fi×Int×Unit):=bd (gQ.f c h i) fun a=>br (a.2.2.1 != 0) (some ((⟨#[]⟩:fi),a.2.2.1,())) (br ((a.1.2.1.length:Int)==0) (some ((⟨#[48]⟩:fi),0,())) (br ((a.2.1.2.1.length:Int)==0) (some ((⟨#[48]⟩:fi),0,())) (bd (iL.f c a.1.2.1 a.2.1.2.1) fun b=>bd (aB.f c a.1.2.1 b.1) fun d=>bd (gY.f c d.1 a.2.1.2.1) fun e=>bd (jF.f c (false,e.1,())) fun g=>some (g.1,g.2.1,()))))
def E(c:Nat):Entry:=⟨[.str,.str],[.str,(.int .i64)],fun x=>f c x.1 x.2.1⟩
theorem ok(c:Nat):Ok 220 (E c):=fp c (tC (gQ.ok c) (tC (jF.ok c) (tC (aB.ok c) (tC (iL.ok c) (tC (gY.ok c) tN))))) fun x=>θ
end vP
end
end Go.Q
namespace Go.Q
open Go.IntKind (i64)
open Go Go.RowKit
open Go.Rx (br bd sIdx sCat sCut iQuo iRem iShl)
noncomputable section
namespace mM
def f(c:Nat)(a:fi):fo Int:=br (decide ((a.size:Int) > 0)) (bd (sIdx a 0) fun r1=>br (((r1.toNat:Nat):Int)==45) (some ((i64.wrap ((a.size:Int)-1)),())) (some ((a.size:Int),()))) (some ((a.size:Int),()))
def E(c:Nat):Entry:=⟨[.str],[(.int .i64)],fun x=>f c x.1⟩
theorem ok(c:Nat):Ok 283 (E c):=fp c tN fun x=>θ
end mM
namespace jK
def f(c:Nat)(a:fi):fo Int:=bd (dK.f c a) fun r1=>br (r1.1 != 0) (some (r1.1,())) (bd (mM.f c a) fun r2=>br (decide (r2.1 > 100)) (some (10,())) (some (0,())))
def E(c:Nat):Entry:=⟨[.str],[(.int .i64)],fun x=>f c x.1⟩
theorem ok(c:Nat):Ok 195 (E c):=fp c (tC (dK.ok c) (tC (mM.ok c) tN)) fun x=>θ
end jK
namespace dS
def f(c:Nat)(a:fi)(b:fi):fo Int:=bd (je.f c a b) fun r1=>some (r1.1,())
def E(c:Nat):Entry:=⟨[.str,.str],[(.int .i64)],fun x=>f c x.1 x.2.1⟩
theorem ok(c:Nat):Ok 196 (E c):=fp c (tC (je.ok c) tN) fun x=>θ
end dS
namespace bC
def f(c:Nat)(e:TI):fo Int:=br e.1 (br (!(e.2.1.toList==(⟨#[]⟩:fi).toList)) (some (3,())) (br (!(e.2.2.1.toList==(⟨#[]⟩:fi).toList)) (some (3,())) (br (e.2.1.toList==(⟨#[]⟩:fi).toList) (br (e.2.2.1.toList==(⟨#[]⟩:fi).toList) (br (!(e.2.1.toList==(⟨#[]⟩:fi).toList)) (br (!(e.2.2.1.toList==(⟨#[]⟩:fi).toList)) (bd (dS.f c e.2.1 e.2.2.1) fun a=>br (decide (a.1 > 0)) (some (14,())) (some (0,()))) (some (0,()))) (some (0,()))) (bd (jK.f c e.2.2.1) fun a=>br (a.1 != 0) (some (a.1,())) (br (!(e.2.1.toList==(⟨#[]⟩:fi).toList)) (br (!(e.2.2.1.toList==(⟨#[]⟩:fi).toList)) (bd (dS.f c e.2.1 e.2.2.1) fun b=>br (decide (b.1 > 0)) (some (14,())) (some (0,()))) (some (0,()))) (some (0,()))))) (bd (jK.f c e.2.1) fun a=>br (a.1 != 0) (some (a.1,())) (br (e.2.2.1.toList==(⟨#[]⟩:fi).toList) (br (!(e.2.1.toList==(⟨#[]⟩:fi).toList)) (br (!(e.2.2.1.toList==(⟨#[]⟩:fi).toList)) (bd (dS.f c e.2.1 e.2.2.1) fun b=>br (decide (b.1 > 0)) (some (14,())) (some (0,()))) (some (0,()))) (some (0,()))) (bd (jK.f c e.2.2.1) fun b=>br (b.1 != 0) (some (b.1,())) (br (!(e.2.1.toList==(⟨#[]⟩:fi).toList)) (br (!(e.2.2.1.toList==(⟨#[]⟩:fi).toList)) (bd (dS.f c e.2.1 e.2.2.1) fun d=>br (decide (d.1 > 0)) (some (14,())) (some (0,()))) (some (0,()))) (some (0,()))))))))) (br (e.2.1.toList==(⟨#[]⟩:fi).toList) (br (e.2.2.1.toList==(⟨#[]⟩:fi).toList) (br (!(e.2.1.toList==(⟨#[]⟩:fi).toList)) (br (!(e.2.2.1.toList==(⟨#[]⟩:fi).toList)) (bd (dS.f c e.2.1 e.2.2.1) fun a=>br (decide (a.1 > 0)) (some (14,())) (some (0,()))) (some (0,()))) (some (0,()))) (bd (jK.f c e.2.2.1) fun a=>br (a.1 != 0) (some (a.1,())) (br (!(e.2.1.toList==(⟨#[]⟩:fi).toList)) (br (!(e.2.2.1.toList==(⟨#[]⟩:fi).toList)) (bd (dS.f c e.2.1 e.2.2.1) fun b=>br (decide (b.1 > 0)) (some (14,())) (some (0,()))) (some (0,()))) (some (0,()))))) (bd (jK.f c e.2.1) fun a=>br (a.1 != 0) (some (a.1,())) (br (e.2.2.1.toList==(⟨#[]⟩:fi).toList) (br (!(e.2.1.toList==(⟨#[]⟩:fi).toList)) (br (!(e.2.2.1.toList==(⟨#[]⟩:fi).toList)) (bd (dS.f c e.2.1 e.2.2.1) fun b=>br (decide (b.1 > 0)) (some (14,())) (some (0,()))) (some (0,()))) (some (0,()))) (bd (jK.f c e.2.2.1) fun b=>br (b.1 != 0) (some (b.1,())) (br (!(e.2.1.toList==(⟨#[]⟩:fi).toList)) (br (!(e.2.2.1.toList==(⟨#[]⟩:fi).toList)) (bd (dS.f c e.2.1 e.2.2.1) fun d=>br (decide (d.1 > 0)) (some (14,())) (some (0,()))) (some (0,()))) (some (0,())))))))
def E(c:Nat):Entry:=⟨[yI],[(.int .i64)],fun x=>f c x.1⟩
theorem ok(c:Nat):Ok 110 (E c):=fp c (tC (jK.ok c) (tC (dS.ok c) tN)) fun x=>θ
end bC
namespace bT
def f(c:Nat)(a:Int):fo TX:=some ((a,(⟨#[]⟩:fi),()),())
def E(c:Nat):Entry:=⟨[(.int .i64)],[yX],fun x=>f c x.1⟩
theorem ok(c:Nat):Ok 233 (E c):=fp c tN fun x=>θ
end bT
namespace au
def f(c:Nat)  : fo TS:=bd (bT.f c 1) fun r1=>bd (bT.f c (-1)) fun r2=>some ((r1.1,r2.1,()),())
def E(c:Nat):Entry:=⟨[],[yS],fun x=>f c⟩
theorem ok(c:Nat):Ok 130 (E c):=fp c (tC (bT.ok c) tN) fun x=>θ
end au
namespace aZ
def f(c:Nat)(a:fi):fo TX:=some ((0,a,()),())
def E(c:Nat):Entry:=⟨[.str],[yX],fun x=>f c x.1⟩
theorem ok(c:Nat):Ok 234 (E c):=fp c tN fun x=>θ
end aZ
namespace aK
def f(c:Nat)(g:TI):fo TS:=br g.1 (bd (au.f c) fun a=>some (a.1,())) (bd (bT.f c (-1)) fun a=>bd (bT.f c 1) fun b=>br (!(g.2.1.toList==(⟨#[]⟩:fi).toList)) (bd (aZ.f c g.2.1) fun d=>br (!(g.2.2.1.toList==(⟨#[]⟩:fi).toList)) (bd (aZ.f c g.2.2.1) fun e=>some ((d.1,e.1,()),())) (some ((d.1,b.1,()),()))) (br (!(g.2.2.1.toList==(⟨#[]⟩:fi).toList)) (bd (aZ.f c g.2.2.1) fun d=>some ((a.1,d.1,()),())) (some ((a.1,b.1,()),()))))
def E(c:Nat):Entry:=⟨[yI],[yS],fun x=>f c x.1⟩
theorem ok(c:Nat):Ok 128 (E c):=fp c (tC (au.ok c) (tC (bT.ok c) (tC (aZ.ok c) tN))) fun x=>θ
end aK
namespace fG
def f(c:Nat)(a:TX)(b:TX):fo Int:=br (a.1 != 0) (some ((i64.wrap (a.1-b.1)),())) (br (b.1 != 0) (some ((i64.wrap (a.1-b.1)),())) (bd (dS.f c a.2.1 b.2.1) fun r1=>some (r1.1,())))
def E(c:Nat):Entry:=⟨[yX,yX],[(.int .i64)],fun x=>f c x.1 x.2.1⟩
theorem ok(c:Nat):Ok 235 (E c):=fp c (tC (dS.ok c) tN) fun x=>θ
end fG
namespace qQ
def f(c:Nat)(i:TI)(j:fi):Option (Bool×Int×Unit):=bd (bC.f c i) fun a=>br (a.1 != 0) (some (false,a.1,())) (bd (dK.f c j) fun b=>br (b.1 != 0) (some (false,b.1,())) (bd (aK.f c i) fun d=>bd (aZ.f c j) fun e=>bd (fG.f c d.1.1 e.1) fun g=>br (decide (g.1≤0)) (bd (fG.f c e.1 d.1.2.1) fun h=>some ((decide (h.1≤0)),0,())) (some (false,0,()))))
def E(c:Nat):Entry:=⟨[yI,.str],[.bool,(.int .i64)],fun x=>f c x.1 x.2.1⟩
theorem ok(c:Nat):Ok 199 (E c):=fp c (tC (bC.ok c) (tC (dK.ok c) (tC (aK.ok c) (tC (aZ.ok c) (tC (fG.ok c) tN))))) fun x=>θ
end qQ
namespace ah
def f(c:Nat)(a:TS):fo Bool:=bd (fG.f c a.1 a.2.1) fun r1=>some ((decide (r1.1 > 0)),())
def E(c:Nat):Entry:=⟨[yS],[.bool],fun x=>f c x.1⟩
theorem ok(c:Nat):Ok 129 (E c):=fp c (tC (fG.ok c) tN) fun x=>θ
end ah
namespace qy
def f(c:Nat)(a:TX):fo fi:=br (a.1 != 0) (some ((⟨#[]⟩:fi),())) (bd (mM.f c a.2.1) fun r1=>br (decide (r1.1 > 100)) (some ((⟨#[]⟩:fi),())) (some (a.2.1,())))
def E(c:Nat):Entry:=⟨[yX],[.str],fun x=>f c x.1⟩
theorem ok(c:Nat):Ok 236 (E c):=fp c (tC (mM.ok c) tN) fun x=>θ
end qy
namespace af
def f(c:Nat)(e:TS):fo TI:=bd (ah.f c e) fun a=>br a.1 (some ((true,(⟨#[]⟩:fi),(⟨#[]⟩:fi),()),())) (bd (qy.f c e.1) fun b=>bd (qy.f c e.2.1) fun d=>some ((false,b.1,d.1,()),()))
def E(c:Nat):Entry:=⟨[yS],[yI],fun x=>f c x.1⟩
theorem ok(c:Nat):Ok 131 (E c):=fp c (tC (ah.ok c) (tC (qy.ok c) tN)) fun x=>θ
end af
namespace fH
def f(c:Nat)(a:fi):fo fi:=bd (jQ.f c a) fun r1=>some (r1.1,())
def E(c:Nat):Entry:=⟨[.str],[.str],fun x=>f c x.1⟩
theorem ok(c:Nat):Ok 228 (E c):=fp c (tC (jQ.ok c) tN) fun x=>θ
end fH
namespace lZ
def f(c:Nat)(d:TX):fo TX:=br (d.1 != 0) (bd (bT.f c (i64.wrap (0-d.1))) fun a=>some (a.1,())) (bd (fH.f c d.2.1) fun a=>bd (aZ.f c a.1) fun b=>some (b.1,()))
def E(c:Nat):Entry:=⟨[yX],[yX],fun x=>f c x.1⟩
theorem ok(c:Nat):Ok 268 (E c):=fp c (tC (fH.ok c) (tC (bT.ok c) (tC (aZ.ok c) tN))) fun x=>θ
end lZ
namespace ay
def f(c:Nat)(e:TS):fo TS:=bd (ah.f c e) fun a=>br a.1 (bd (au.f c) fun b=>some (b.1,())) (bd (lZ.f c e.2.1) fun b=>bd (lZ.f c e.1) fun d=>some ((b.1,d.1,()),()))
def E(c:Nat):Entry:=⟨[yS],[yS],fun x=>f c x.1⟩
theorem ok(c:Nat):Ok 168 (E c):=fp c (tC (ah.ok c) (tC (au.ok c) (tC (lZ.ok c) tN))) fun x=>θ
end ay
namespace pY
def f(c:Nat)(g:TI):Option (TI×Int×Unit):=bd (bC.f c g) fun a=>br (a.1 != 0) (some ((false,(⟨#[]⟩:fi),(⟨#[]⟩:fi),()),a.1,())) (bd (aK.f c g) fun b=>bd (ay.f c b.1) fun d=>bd (af.f c d.1) fun e=>some (e.1,0,()))
def E(c:Nat):Entry:=⟨[yI],[yI,(.int .i64)],fun x=>f c x.1⟩
theorem ok(c:Nat):Ok 93 (E c):=fp c (tC (bC.ok c) (tC (aK.ok c) (tC (af.ok c) (tC (ay.ok c) tN)))) fun x=>θ
end pY
namespace kQ
def f(c:Nat)(a:fi)(b:fi):fo fi:=bd (kM.f c a b) fun r1=>some (r1.1,())
def E(c:Nat):Entry:=⟨[.str,.str],[.str],fun x=>f c x.1 x.2.1⟩
theorem ok(c:Nat):Ok 270 (E c):=fp c (tC (kM.ok c) tN) fun x=>θ
end kQ
namespace nG
def f(c:Nat)(d:TX)(e:TX):fo TX:=br (d.1 != 0) (bd (bT.f c (if(if(i64.wrap (d.1+e.1)) < 1 then(i64.wrap (d.1+e.1))else 1) >(-1)then(if(i64.wrap (d.1+e.1)) < 1 then(i64.wrap (d.1+e.1))else 1)else(-1))) fun a=>some (a.1,())) (br (e.1 != 0) (bd (bT.f c (if(if(i64.wrap (d.1+e.1)) < 1 then(i64.wrap (d.1+e.1))else 1) >(-1)then(if(i64.wrap (d.1+e.1)) < 1 then(i64.wrap (d.1+e.1))else 1)else(-1))) fun a=>some (a.1,())) (bd (kQ.f c d.2.1 e.2.1) fun a=>bd (aZ.f c a.1) fun b=>some (b.1,())))
def E(c:Nat):Entry:=⟨[yX,yX],[yX],fun x=>f c x.1 x.2.1⟩
theorem ok(c:Nat):Ok 269 (E c):=fp c (tC (bT.ok c) (tC (aZ.ok c) (tC (kQ.ok c) tN))) fun x=>θ
end nG
namespace kP
def f(c:Nat)(g:TS)(h:TS):fo TS:=bd (ah.f c g) fun a=>br a.1 (bd (au.f c) fun b=>some (b.1,())) (bd (ah.f c h) fun b=>br b.1 (bd (au.f c) fun d=>some (d.1,())) (bd (nG.f c g.1 h.1) fun d=>bd (nG.f c g.2.1 h.2.1) fun e=>some ((d.1,e.1,()),())))
def E(c:Nat):Entry:=⟨[yS,yS],[yS],fun x=>f c x.1 x.2.1⟩
theorem ok(c:Nat):Ok 170 (E c):=fp c (tC (ah.ok c) (tC (au.ok c) (tC (nG.ok c) tN))) fun x=>θ
end kP
namespace sQ
def f(c:Nat)(i:TI)(j:TI):Option (TI×Int×Unit):=bd (bC.f c i) fun a=>br (a.1 != 0) (br (a.1 != 0) (some ((false,(⟨#[]⟩:fi),(⟨#[]⟩:fi),()),a.1,())) (bd (aK.f c i) fun b=>bd (aK.f c j) fun d=>bd (kP.f c b.1 d.1) fun e=>bd (af.f c e.1) fun g=>some (g.1,0,()))) (bd (bC.f c j) fun b=>br (b.1 != 0) (br (b.1 != 0) (some ((false,(⟨#[]⟩:fi),(⟨#[]⟩:fi),()),b.1,())) (bd (aK.f c i) fun d=>bd (aK.f c j) fun e=>bd (kP.f c d.1 e.1) fun g=>bd (af.f c g.1) fun h=>some (h.1,0,()))) (bd (aK.f c i) fun d=>bd (aK.f c j) fun e=>bd (kP.f c d.1 e.1) fun g=>bd (af.f c g.1) fun h=>some (h.1,0,())))
def E(c:Nat):Entry:=⟨[yI,yI],[yI,(.int .i64)],fun x=>f c x.1 x.2.1⟩
theorem ok(c:Nat):Ok 95 (E c):=fp c (tC (bC.ok c) (tC (aK.ok c) (tC (af.ok c) (tC (kP.ok c) tN)))) fun x=>θ
end sQ
namespace oW
def f(c:Nat)(a:TS)(b:TS):fo TS:=bd (ay.f c b) fun r1=>bd (kP.f c a r1.1) fun r2=>some (r2.1,())
def E(c:Nat):Entry:=⟨[yS,yS],[yS],fun x=>f c x.1 x.2.1⟩
theorem ok(c:Nat):Ok 175 (E c):=fp c (tC (ay.ok c) (tC (kP.ok c) tN)) fun x=>θ
end oW
end
end Go.Q
