import Derived.Test.YtnjnggbibpnkbaaGreatDoorEIG2
set_option linter.all false
set_option maxRecDepth 100000
namespace Go.Q
open Go Go.RowKit
open Go.Rx (br bd sIdx sCat sCut iQuo iRem iShl)
noncomputable section
namespace bZ
def f(c:Nat)(g:TB)(e:TB):Option (TB×TB×Unit):=bd (ay.f c g.2.1 e.2.1) fun a=>br (g.1==e.1) (some ((false,a.1,()),(e.1,a.2.1,()),())) (br (decide ((a.2.1.length:Int) > 0)) (bd (jH.f c a.1 [1]) fun b=>bd (iq.f c e.2.1 a.2.1) fun d=>some ((true,b.1,()),(e.1,d.1,()),())) (some ((true,a.1,()),(e.1,a.2.1,()),())))
def E(c:Nat):Entry:=⟨[yB,yB],[yB,yB],fun x=>f c x.1 x.2.1⟩
theorem ok(c:Nat):Ok 310 (E c):=fo c (tC (ay.ok c) (tC (jH.ok c) (tC (iq.ok c) tN))) fun x=>θ
end bZ
namespace mP
def f(c:Nat)(g:fg)(h:fg):Option (fg×fg×Int×Unit):=bd (fZ.f c g h) fun a=>br (a.2.2.1 != 0) (some ((⟨#[]⟩:fg),(⟨#[]⟩:fg),a.2.2.1,())) (br ((a.2.1.2.1.length:Int)==0) (some ((⟨#[]⟩:fg),(⟨#[]⟩:fg),19,())) (bd (bZ.f c a.1 a.2.1) fun b=>bd (aG.f c b.1) fun d=>bd (aG.f c b.2.1) fun e=>some (d.1,e.1,0,())))
def E(c:Nat):Entry:=⟨[.str,.str],[.str,.str,(.int .i64)],fun x=>f c x.1 x.2.1⟩
theorem ok(c:Nat):Ok 256 (E c):=fo c (tC (fZ.ok c) (tC (aG.ok c) (tC (bZ.ok c) tN))) fun x=>θ
end mP
namespace jk
def f(c:Nat)(a:fg)(b:fg):Option (fg×Int×Unit):=bd (mP.f c a b) fun r1=>some (r1.2.1,r1.2.2.1,())
def E(c:Nat):Entry:=⟨[.str,.str],[.str,(.int .i64)],fun x=>f c x.1 x.2.1⟩
theorem ok(c:Nat):Ok 291 (E c):=fo c (tC (mP.ok c) tN) fun x=>θ
end jk
namespace jD
def f(c:Nat)(a:fg):Option (fg×Int×Unit):=bd (kR.f c (⟨#[48]⟩:fg) a) fun r1=>some (r1.1,r1.2.1,())
def E(c:Nat):Entry:=⟨[.str],[.str,(.int .i64)],fun x=>f c x.1⟩
theorem ok(c:Nat):Ok 154 (E c):=fo c (tC (kR.ok c) tN) fun x=>θ
end jD
namespace ve
def f(c:Nat)(a:fg):Option (fg×Int×Unit):=bd (dF.f c a) fun r1=>br (r1.1 != 0) (some ((⟨#[]⟩:fg),r1.1,())) (bd (strings_TrimPrefix.f c a (⟨#[45]⟩:fg)) fun r2=>some (r2.1,0,()))
def E(c:Nat):Entry:=⟨[.str],[.str,(.int .i64)],fun x=>f c x.1⟩
theorem ok(c:Nat):Ok 290 (E c):=fo c (tC (dF.ok c) (tC (strings_TrimPrefix.ok c) tN)) fun x=>θ
end ve
namespace iF
def anns:FuncId→FA:=annsL [(312,⟨annOf [(0,⟨kx 19 [0,1],[],[]⟩,⟨kx 19 [0,4],[],[]⟩)],none,[]⟩)]
def r0{ρ:Type}(c:Nat)(b a:fi)(K:fi→fi→Option ρ)(E0:fi→Option ρ):Option ρ:=br (decide ((a.length:Int) > 0)) (bd (ay.f c b a) fun r1 =>
 K a r1.2.1) (
 E0 b)
def l0(c:Nat):Nat→fi→fi→Option ((fi×Unit)×Unit)
 | 0,_,_=>none
 | n+1,v0,v1=>r0 c v0 v1 (l0 c n) (fun a=>some ((a,()),()))
def sh0:ShS:=⟨[.s (.sl (.int .i64)),.s (.sl (.int .i64)),.a 17],[]⟩
def S0(p:fi×fi×Unit):St:=sh0.b p
def xh0:ShS:=⟨[.s (.sl (.int .i64)),.a 18],[]⟩
def o0(y:(fi×Unit)×Unit):Alt:=.one (.exit 0) (xh0.b (y.1.1,()))
def tb(c:Nat):List (FuncId×Entry):=[(311,ay.E c)]
def afe(c:Nat):List (Nat×(St→Option LTE)):=[(0,sumE sh0 fun(p:fi×fi×Unit)=>⟨(fi×Unit)×Unit,l0 c (c+40) p.1 p.2.1,o0⟩)]
def ls(c:Nat):List (Nat×FuncId×Sums):=[(13,312,sumsL (afe c))]
def it0{ρ:Type}(c n:Nat)(a:St)(k:KE ρ):Option ρ:=itG anns (ls c) (tb c) c 13 312 0 0 (sumsL (afe c)) n a k
theorem t0{ρ:Type}(c n:Nat)(a d:fi)(k:KE ρ):it0 c (n+1) (S0 (a,d,())) k=r0 c a d (fun f g=>it0 c n (S0 (f,g,())) k) (fun e=>k (.exit 0) (xh0.b (e,()))):=θ
theorem u0{ρ:Type}(c:Nat)(k:KE ρ):∀ (n:Nat) (a b:fi),it0 c n (S0 (a,b,())) k=bd (l0 c n a b) fun y=>altK k (o0 y)
 | 0,_,_=>by rw[l0,bd_none];rfl
 | n+1,a,b=>by
  rw[t0];simp only[l0,r0,u0 c k n,bd_br,bd_bd,bd_some',bd_none,br_t,br_f,o0,altK]
theorem sl(c:Nat):SL anns (ls c) (tb c) c (ls c):=slC (laC (fun _=>θ) (fun _ (x:fi×fi×Unit) k=>dJ (u0 c k (c+40) x.1 x.2.1)) laN) slN
def f(c:Nat)(a:fi)(b:fi):fm fi:=bd (l0 c (c+40) a b) fun d=>some (d.1.1,())
def E(c:Nat):Entry:=⟨[(.sl (.int .i64)),(.sl (.int .i64))],[(.sl (.int .i64))],fun x=>f c x.1 x.2.1⟩
theorem ok(c:Nat):Ok 312 (E c):=okL (tC (ay.ok c) tN) (aoC aoN) (sl c) fun x=>θ
end iF
namespace vg
def f(c:Nat)(e:fg)(g:fg):Option (fg×Int×Unit):=bd (fZ.f c e g) fun a=>br (a.2.2.1 != 0) (some ((⟨#[]⟩:fg),a.2.2.1,())) (bd (iF.f c a.1.2.1 a.2.1.2.1) fun b=>bd (aG.f c (false,b.1,())) fun d=>some (d.1,0,()))
def E(c:Nat):Entry:=⟨[.str,.str],[.str,(.int .i64)],fun x=>f c x.1 x.2.1⟩
theorem ok(c:Nat):Ok 292 (E c):=fo c (tC (fZ.ok c) (tC (aG.ok c) (tC (iF.ok c) tN))) fun x=>θ
end vg
namespace dV
def f(c:Nat)(a:TB)(b:TB):fm TB:=bd (gK.f c a.2.1 b.2.1) fun r1=>some (((a.1 != b.1),r1.1,()),())
def E(c:Nat):Entry:=⟨[yB,yB],[yB],fun x=>f c x.1 x.2.1⟩
theorem ok(c:Nat):Ok 261 (E c):=fo c (tC (gK.ok c) tN) fun x=>θ
end dV
namespace kQ
def f(c:Nat)(e:fg)(g:fg):Option (fg×Int×Unit):=bd (fZ.f c e g) fun a=>br (a.2.2.1 != 0) (some ((⟨#[]⟩:fg),a.2.2.1,())) (bd (dV.f c a.1 a.2.1) fun b=>bd (jl.f c b.1) fun d=>some (d.1,d.2.1,()))
def E(c:Nat):Entry:=⟨[.str,.str],[.str,(.int .i64)],fun x=>f c x.1 x.2.1⟩
theorem ok(c:Nat):Ok 157 (E c):=fo c (tC (fZ.ok c) (tC (jl.ok c) (tC (dV.ok c) tN))) fun x=>θ
end kQ
namespace gY
def f(c:Nat)(a:fg)(b:fg):Option (fg×Int×Unit):=bd (mP.f c a b) fun r1=>some (r1.1,r1.2.2.1,())
def E(c:Nat):Entry:=⟨[.str,.str],[.str,(.int .i64)],fun x=>f c x.1 x.2.1⟩
theorem ok(c:Nat):Ok 155 (E c):=fo c (tC (mP.ok c) tN) fun x=>θ
end gY
namespace xX
def f(c:Nat)(a:Int):fm fg:=bd (B.Itoa.f c a) fun r1=>some (r1.1,())
def E(c:Nat):Entry:=⟨[(.int .i64)],[.str],fun x=>f c x.1⟩
theorem ok(c:Nat):Ok 309 (E c):=fo c (tC (B.Itoa.ok c) tN) fun x=>θ
end xX
end
end Go.Q
namespace Go.Q
open Go Go.RowKit
open Go.Rx (br bd sIdx sCat sCut iQuo iRem iShl)
noncomputable section
namespace dS
def anns:FuncId→FA:=annsL [(231,⟨annOf [(0,⟨kx 110 [8,9,12,13,14,15],[],[]⟩,⟨kx 110 [4,5,6,7,8,9,12,14],[],[]⟩)],none,[]⟩)]
def r2{ρ:Type}(c:Nat)(o:Bool)(p:fi)(q:Bool)(r s:fi)(l:Bool)(m:fi)(k:Bool)(j:fi)(n:Bool)(i:fi)(g:Bool)(h:fi)(K:Bool→fi→Bool→fi→Bool→fi→Bool→fi→Option ρ)(E0:Bool→fi→Bool→fi→Bool→fi→Bool→fi→fi→Bool→fi→Bool→fi→Option ρ):Option ρ:=br (decide ((j.length:Int) > 0)) (bd (bZ.f c (l,m,()) (k,j,())) fun a=>bd (dV.f c a.1 (g,h,())) fun b=>bd (dH.f c b.1) fun d=>bd (gJ.f c (n,i,()) d.1) fun e =>
 K k j a.2.1.1 a.2.1.2.1 g h e.1.1 e.1.2.1) (
 E0 o p q r l m k j s n i g h)
def l2(c:Nat)(e:Bool)(f:fi)(g:Bool)(h i:fi):Nat→Bool→fi→Bool→fi→Bool→fi→Bool→fi→Option ((Bool×fi×Bool×fi×Bool×fi×Bool×fi×fi×Bool×fi×Bool×fi×Unit)×Unit)
 | 0,_,_,_,_,_,_,_,_=>none
 | n+1,v4,v5,v6,v7,v9,v10,v11,v12=>r2 c e f g h i v4 v5 v6 v7 v9 v10 v11 v12 (l2 c e f g h i n) (fun j k l m o p q r w8 s a b d=>some ((j,k,l,m,o,p,q,r,w8,s,a,b,d,()),()))
def sh2:ShS:=⟨[.a 8,.s (.ptr 0 0),.s (.ptr 1 0),.a 2,.s (.ptr 2 0),.s (.ptr 3 0),.s (.ptr 5 0),.s (.ptr 6 0),.a 94],[.cells [.s .bool,.s (.sl (.int .i64))] 217,.cells [.s .bool,.s (.sl (.int .i64))] 217,.cells [.s .bool,.s (.sl (.int .i64))] 217,.cells [.s .bool,.s (.sl (.int .i64))] 217,.row (.int .i64) 3 true,.cells [.s .bool,.s (.sl (.int .i64))] 217,.cells [.s .bool,.s (.sl (.int .i64))] 217]⟩
def S2(p:Bool×fi×Bool×fi×Bool×fi×Bool×fi×fi×Bool×fi×Bool×fi×Unit):St:=sh2.b p
def xh0:ShS:=⟨[.a 8,.s (.ptr 0 0),.s (.ptr 1 0),.a 2,.s (.ptr 2 0),.a 1,.s (.ptr 5 0),.a 95],[.cells [.s .bool,.s (.sl (.int .i64))] 217,.cells [.s .bool,.s (.sl (.int .i64))] 217,.cells [.s .bool,.s (.sl (.int .i64))] 217,.cells [.s .bool,.s (.sl (.int .i64))] 217,.row (.int .i64) 3 true,.cells [.s .bool,.s (.sl (.int .i64))] 217,.cells [.s .bool,.s (.sl (.int .i64))] 217]⟩
def o2(a:Bool)(c:fi)(d:Bool)(e f:fi)(y:(Bool×fi×Bool×fi×Bool×fi×Bool×fi×fi×Bool×fi×Bool×fi×Unit)×Unit):Alt:=.one (.exit 0) (xh0.b (y.1.1,y.1.2.1,y.1.2.2.1,y.1.2.2.2.1,y.1.2.2.2.2.1,y.1.2.2.2.2.2.1,y.1.2.2.2.2.2.2.1,y.1.2.2.2.2.2.2.2.1,y.1.2.2.2.2.2.2.2.2.1,y.1.2.2.2.2.2.2.2.2.2.1,y.1.2.2.2.2.2.2.2.2.2.2.1,y.1.2.2.2.2.2.2.2.2.2.2.2.1,y.1.2.2.2.2.2.2.2.2.2.2.2.2.1,()))
def r1{ρ:Type}(c:Nat)(k:Bool)(l:fi)(m:Bool)(n:fi)(o:Bool)(p:fi)(j:Bool)(i q:fi)(r g:Bool)(h:fi)(s:Bool→fi→Bool→fi→Bool→fi→Bool→fi→fi→Bool→fi→Bool→fi→Option ρ)(E0:Bool→fi→Bool→fi→Bool→fi→Bool→fi→fi→Bool→Bool→fi→Option ρ):Option ρ:=br (decide ((i.length:Int) > 0)) (bd (bZ.f c (o,p,()) (j,i,())) fun a=>bd (dV.f c a.1 (g,h,())) fun b=>bd (dH.f c b.1) fun d=>bd (gJ.f c (r,[],()) d.1) fun e =>
 s k l m n j i a.2.1.1 a.2.1.2.1 q g h e.1.1 e.1.2.1) (
 E0 k l m n o p j i q r g h)
def l1(c:Nat)(j:Bool)(k:fi)(l:Bool)(m:fi)(o:Bool)(p:fi)(q:Bool)(r s:fi)(t b:Bool)(d:fi):Nat→Option (Bool×(Bool×fi×Bool×fi×Bool×fi×Bool×fi×fi×Bool×Bool×fi×Unit)×(Bool×fi×Bool×fi×Bool×fi×Bool×fi×fi×Bool×fi×Bool×fi×Unit)×Unit)
 | 0=>none
 | n+1=>r1 c j k l m o p q r s t b d (fun D E F G H I J K L M g h i=>bd (l2 c D E F G L n H I J K M g h i) fun a=>some (false,(false,[],false,[],false,[],false,[],[],false,false,[],()),((a.1.1,a.1.2.1,a.1.2.2.1,a.1.2.2.2.1,a.1.2.2.2.2.1,a.1.2.2.2.2.2.1,a.1.2.2.2.2.2.2.1,a.1.2.2.2.2.2.2.2.1,a.1.2.2.2.2.2.2.2.2.1,a.1.2.2.2.2.2.2.2.2.2.1,a.1.2.2.2.2.2.2.2.2.2.2.1,a.1.2.2.2.2.2.2.2.2.2.2.2.1,a.1.2.2.2.2.2.2.2.2.2.2.2.2.1,()),()))) (fun u v w x y z A B w8 C e f=>some (true,(u,v,w,x,y,z,A,B,w8,C,e,f,()),((false,[],false,[],false,[],false,[],[],false,[],false,[],()),())))
def sh1:ShS:=⟨[.a 8,.s (.ptr 0 0),.s (.ptr 1 0),.a 2,.s (.ptr 2 0),.s (.ptr 3 0),.s (.ptr 5 0),.s (.ptr 6 0),.a 94],[.cells [.s .bool,.s (.sl (.int .i64))] 217,.cells [.s .bool,.s (.sl (.int .i64))] 217,.cells [.s .bool,.s (.sl (.int .i64))] 217,.cells [.s .bool,.s (.sl (.int .i64))] 217,.row (.int .i64) 3 true,.cells [.s .bool,.s .nil] 217,.cells [.s .bool,.s (.sl (.int .i64))] 217]⟩
def S1(p:Bool×fi×Bool×fi×Bool×fi×Bool×fi×fi×Bool×Bool×fi×Unit):St:=sh1.b p
def xh1:ShS:=⟨[.a 8,.s (.ptr 0 0),.s (.ptr 1 0),.a 2,.s (.ptr 2 0),.a 1,.s (.ptr 5 0),.a 95],[.cells [.s .bool,.s (.sl (.int .i64))] 217,.cells [.s .bool,.s (.sl (.int .i64))] 217,.cells [.s .bool,.s (.sl (.int .i64))] 217,.cells [.s .bool,.s (.sl (.int .i64))] 217,.row (.int .i64) 3 true,.cells [.s .bool,.s .nil] 217,.cells [.s .bool,.s (.sl (.int .i64))] 217]⟩
def o1(d:Bool)(e:fi)(f:Bool)(g:fi)(h:Bool)(i:fi)(j:Bool)(k l:fi)(m a:Bool)(c:fi)(y:Bool×(Bool×fi×Bool×fi×Bool×fi×Bool×fi×fi×Bool×Bool×fi×Unit)×(Bool×fi×Bool×fi×Bool×fi×Bool×fi×fi×Bool×fi×Bool×fi×Unit)×Unit):Alt:=.two y.1 (.one (.exit 0) (xh1.b (y.2.1.1,y.2.1.2.1,y.2.1.2.2.1,y.2.1.2.2.2.1,y.2.1.2.2.2.2.1,y.2.1.2.2.2.2.2.1,y.2.1.2.2.2.2.2.2.1,y.2.1.2.2.2.2.2.2.2.1,y.2.1.2.2.2.2.2.2.2.2.1,y.2.1.2.2.2.2.2.2.2.2.2.1,y.2.1.2.2.2.2.2.2.2.2.2.2.1,y.2.1.2.2.2.2.2.2.2.2.2.2.2.1,()))) (.one (.exit 0) (xh0.b (y.2.2.1.1,y.2.2.1.2.1,y.2.2.1.2.2.1,y.2.2.1.2.2.2.1,y.2.2.1.2.2.2.2.1,y.2.2.1.2.2.2.2.2.1,y.2.2.1.2.2.2.2.2.2.1,y.2.2.1.2.2.2.2.2.2.2.1,y.2.2.1.2.2.2.2.2.2.2.2.1,y.2.2.1.2.2.2.2.2.2.2.2.2.1,y.2.2.1.2.2.2.2.2.2.2.2.2.2.1,y.2.2.1.2.2.2.2.2.2.2.2.2.2.2.1,y.2.2.1.2.2.2.2.2.2.2.2.2.2.2.2.1,())))
def r0{ρ:Type}(c:Nat)(k:Bool)(l:fi)(m:Bool)(n:fi)(o:Bool)(p:fi)(i:Bool)(h j:fi)(q g:Bool)(r:Bool→fi→Bool→fi→Bool→fi→Bool→fi→fi→Bool→Bool→fi→Option ρ)(E0:Bool→fi→Bool→fi→Bool→fi→Bool→fi→fi→Bool→Bool→Option ρ):Option ρ:=br (decide ((h.length:Int) > 0)) (bd (bZ.f c (o,p,()) (i,h,())) fun a=>bd (dV.f c a.1 (g,[],())) fun b=>bd (dH.f c b.1) fun d=>bd (gJ.f c (q,j,()) d.1) fun e =>
 r k l m n i h a.2.1.1 a.2.1.2.1 j g e.1.1 e.1.2.1) (
 E0 k l m n o p i h j q g)
def l0(c:Nat)(g:Bool)(h:fi)(i:Bool)(j:fi)(k:Bool)(l:fi)(m:Bool)(o p:fi)(q b:Bool):Nat→Option (Bool×(Bool×fi×Bool×fi×Bool×fi×Bool×fi×fi×Bool×Bool×Unit)×Bool×(Bool×fi×Bool×fi×Bool×fi×Bool×fi×fi×Bool×Bool×fi×Unit)×(Bool×fi×Bool×fi×Bool×fi×Bool×fi×fi×Bool×fi×Bool×fi×Unit)×Unit)
 | 0=>none
 | n+1=>r0 c g h i j k l m o p q b (fun A B C D E F G H I J e f=>bd (l1 c A B C D E F G H I J e f n) fun a=>br a.1 (some (false,(false,[],false,[],false,[],false,[],[],false,false,()),(true,(a.2.1.1,a.2.1.2.1,a.2.1.2.2.1,a.2.1.2.2.2.1,a.2.1.2.2.2.2.1,a.2.1.2.2.2.2.2.1,a.2.1.2.2.2.2.2.2.1,a.2.1.2.2.2.2.2.2.2.1,a.2.1.2.2.2.2.2.2.2.2.1,a.2.1.2.2.2.2.2.2.2.2.2.1,a.2.1.2.2.2.2.2.2.2.2.2.2.1,a.2.1.2.2.2.2.2.2.2.2.2.2.2.1,()),((false,[],false,[],false,[],false,[],[],false,[],false,[],()),())))) (some (false,(false,[],false,[],false,[],false,[],[],false,false,()),(false,(false,[],false,[],false,[],false,[],[],false,false,[],()),((a.2.2.1.1,a.2.2.1.2.1,a.2.2.1.2.2.1,a.2.2.1.2.2.2.1,a.2.2.1.2.2.2.2.1,a.2.2.1.2.2.2.2.2.1,a.2.2.1.2.2.2.2.2.2.1,a.2.2.1.2.2.2.2.2.2.2.1,a.2.2.1.2.2.2.2.2.2.2.2.1,a.2.2.1.2.2.2.2.2.2.2.2.2.1,a.2.2.1.2.2.2.2.2.2.2.2.2.2.1,a.2.2.1.2.2.2.2.2.2.2.2.2.2.2.1,a.2.2.1.2.2.2.2.2.2.2.2.2.2.2.2.1,()),()))))) (fun r s t u v w x y w8 z d=>some (true,(r,s,t,u,v,w,x,y,w8,z,d,()),(false,(false,[],false,[],false,[],false,[],[],false,false,[],()),((false,[],false,[],false,[],false,[],[],false,[],false,[],()),()))))
def sh0:ShS:=⟨[.a 8,.s (.ptr 0 0),.s (.ptr 1 0),.a 2,.s (.ptr 2 0),.s (.ptr 3 0),.s (.ptr 5 0),.s (.ptr 6 0),.a 94],[.cells [.s .bool,.s (.sl (.int .i64))] 217,.cells [.s .bool,.s (.sl (.int .i64))] 217,.cells [.s .bool,.s (.sl (.int .i64))] 217,.cells [.s .bool,.s (.sl (.int .i64))] 217,.row (.int .i64) 3 false,.cells [.s .bool,.s (.row 4)] 217,.cells [.s .bool,.s .nil] 217]⟩
def S0(p:Bool×fi×Bool×fi×Bool×fi×Bool×fi×fi×Bool×Bool×Unit):St:=sh0.b p
def xh2:ShS:=⟨[.a 8,.s (.ptr 0 0),.s (.ptr 1 0),.a 2,.s (.ptr 2 0),.a 1,.s (.ptr 5 0),.a 95],[.cells [.s .bool,.s (.sl (.int .i64))] 217,.cells [.s .bool,.s (.sl (.int .i64))] 217,.cells [.s .bool,.s (.sl (.int .i64))] 217,.cells [.s .bool,.s (.sl (.int .i64))] 217,.row (.int .i64) 3 false,.cells [.s .bool,.s (.row 4)] 217,.cells [.s .bool,.s .nil] 217]⟩
def o0(c:Bool)(d:fi)(e:Bool)(f:fi)(g:Bool)(h:fi)(i:Bool)(j k:fi)(l a:Bool)(y:Bool×(Bool×fi×Bool×fi×Bool×fi×Bool×fi×fi×Bool×Bool×Unit)×Bool×(Bool×fi×Bool×fi×Bool×fi×Bool×fi×fi×Bool×Bool×fi×Unit)×(Bool×fi×Bool×fi×Bool×fi×Bool×fi×fi×Bool×fi×Bool×fi×Unit)×Unit):Alt:=.two y.1 (.one (.exit 0) (xh2.b (y.2.1.1,y.2.1.2.1,y.2.1.2.2.1,y.2.1.2.2.2.1,y.2.1.2.2.2.2.1,y.2.1.2.2.2.2.2.1,y.2.1.2.2.2.2.2.2.1,y.2.1.2.2.2.2.2.2.2.1,y.2.1.2.2.2.2.2.2.2.2.1,y.2.1.2.2.2.2.2.2.2.2.2.1,y.2.1.2.2.2.2.2.2.2.2.2.2.1,()))) (.two y.2.2.1 (.one (.exit 0) (xh1.b (y.2.2.2.1.1,y.2.2.2.1.2.1,y.2.2.2.1.2.2.1,y.2.2.2.1.2.2.2.1,y.2.2.2.1.2.2.2.2.1,y.2.2.2.1.2.2.2.2.2.1,y.2.2.2.1.2.2.2.2.2.2.1,y.2.2.2.1.2.2.2.2.2.2.2.1,y.2.2.2.1.2.2.2.2.2.2.2.2.1,y.2.2.2.1.2.2.2.2.2.2.2.2.2.1,y.2.2.2.1.2.2.2.2.2.2.2.2.2.2.1,y.2.2.2.1.2.2.2.2.2.2.2.2.2.2.2.1,()))) (.one (.exit 0) (xh0.b (y.2.2.2.2.1.1,y.2.2.2.2.1.2.1,y.2.2.2.2.1.2.2.1,y.2.2.2.2.1.2.2.2.1,y.2.2.2.2.1.2.2.2.2.1,y.2.2.2.2.1.2.2.2.2.2.1,y.2.2.2.2.1.2.2.2.2.2.2.1,y.2.2.2.2.1.2.2.2.2.2.2.2.1,y.2.2.2.2.1.2.2.2.2.2.2.2.2.1,y.2.2.2.2.1.2.2.2.2.2.2.2.2.2.1,y.2.2.2.2.1.2.2.2.2.2.2.2.2.2.2.1,y.2.2.2.2.1.2.2.2.2.2.2.2.2.2.2.2.1,y.2.2.2.2.1.2.2.2.2.2.2.2.2.2.2.2.2.1,()))))
def tb(c:Nat):List (FuncId×Entry):=[(249,fZ.E c),(250,oO.E c),(251,gJ.E c),(252,dH.E c),(261,dV.E c),(308,aG.E c),(309,xX.E c),(310,bZ.E c),(311,ay.E c)]
def aaP(c:Nat):List (Nat×(St→Option LTE)):=[(0,sumE sh2 fun(p:Bool×fi×Bool×fi×Bool×fi×Bool×fi×fi×Bool×fi×Bool×fi×Unit)=>⟨(Bool×fi×Bool×fi×Bool×fi×Bool×fi×fi×Bool×fi×Bool×fi×Unit)×Unit,l2 c p.1 p.2.1 p.2.2.1 p.2.2.2.1 p.2.2.2.2.2.2.2.2.1 (c+40) p.2.2.2.2.1 p.2.2.2.2.2.1 p.2.2.2.2.2.2.1 p.2.2.2.2.2.2.2.1 p.2.2.2.2.2.2.2.2.2.1 p.2.2.2.2.2.2.2.2.2.2.1 p.2.2.2.2.2.2.2.2.2.2.2.1 p.2.2.2.2.2.2.2.2.2.2.2.2.1,o2 p.1 p.2.1 p.2.2.1 p.2.2.2.1 p.2.2.2.2.2.2.2.2.1⟩),
 (0,sumE sh1 fun(p:Bool×fi×Bool×fi×Bool×fi×Bool×fi×fi×Bool×Bool×fi×Unit)=>⟨Bool×(Bool×fi×Bool×fi×Bool×fi×Bool×fi×fi×Bool×Bool×fi×Unit)×(Bool×fi×Bool×fi×Bool×fi×Bool×fi×fi×Bool×fi×Bool×fi×Unit)×Unit,l1 c p.1 p.2.1 p.2.2.1 p.2.2.2.1 p.2.2.2.2.1 p.2.2.2.2.2.1 p.2.2.2.2.2.2.1 p.2.2.2.2.2.2.2.1 p.2.2.2.2.2.2.2.2.1 p.2.2.2.2.2.2.2.2.2.1 p.2.2.2.2.2.2.2.2.2.2.1 p.2.2.2.2.2.2.2.2.2.2.2.1 (c+40),o1 p.1 p.2.1 p.2.2.1 p.2.2.2.1 p.2.2.2.2.1 p.2.2.2.2.2.1 p.2.2.2.2.2.2.1 p.2.2.2.2.2.2.2.1 p.2.2.2.2.2.2.2.2.1 p.2.2.2.2.2.2.2.2.2.1 p.2.2.2.2.2.2.2.2.2.2.1 p.2.2.2.2.2.2.2.2.2.2.2.1⟩),
 (0,sumE sh0 fun(p:Bool×fi×Bool×fi×Bool×fi×Bool×fi×fi×Bool×Bool×Unit)=>⟨Bool×(Bool×fi×Bool×fi×Bool×fi×Bool×fi×fi×Bool×Bool×Unit)×Bool×(Bool×fi×Bool×fi×Bool×fi×Bool×fi×fi×Bool×Bool×fi×Unit)×(Bool×fi×Bool×fi×Bool×fi×Bool×fi×fi×Bool×fi×Bool×fi×Unit)×Unit,l0 c p.1 p.2.1 p.2.2.1 p.2.2.2.1 p.2.2.2.2.1 p.2.2.2.2.2.1 p.2.2.2.2.2.2.1 p.2.2.2.2.2.2.2.1 p.2.2.2.2.2.2.2.2.1 p.2.2.2.2.2.2.2.2.2.1 p.2.2.2.2.2.2.2.2.2.2.1 (c+40),o0 p.1 p.2.1 p.2.2.1 p.2.2.2.1 p.2.2.2.2.1 p.2.2.2.2.2.1 p.2.2.2.2.2.2.1 p.2.2.2.2.2.2.2.1 p.2.2.2.2.2.2.2.2.1 p.2.2.2.2.2.2.2.2.2.1 p.2.2.2.2.2.2.2.2.2.2.1⟩)]
def ls(c:Nat):List (Nat×FuncId×Sums):=[(13,231,sumsL (aaP c))]
def it2{ρ:Type}(c n:Nat)(a:St)(k:KE ρ):Option ρ:=itG anns (ls c) (tb c) c 13 231 0 7 (sumsL (aaP c)) n a k
theorem t2{ρ:Type}(c n:Nat)(f:Bool)(g:fi)(h:Bool)(i:fi)(p:Bool)(q:fi)(r:Bool)(s j:fi)(t:Bool)(a:fi)(d:Bool)(e:fi)(k:KE ρ):it2 c (n+1) (S2 (f,g,h,i,p,q,r,s,j,t,a,d,e,())) k=r2 c f g h i j p q r s t a d e (fun D E F G H I J K=>it2 c n (S2 (f,g,h,i,D,E,F,G,j,H,I,J,K,())) k) (fun u v w x y z A B w8 C l m o=>k (.exit 0) (xh0.b (u,v,w,x,y,z,A,B,w8,C,l,m,o,()))):=θ
theorem u2{ρ:Type}(c:Nat)(e:Bool)(f:fi)(g:Bool)(h i:fi)(k:KE ρ):∀ (n:Nat) (j:Bool) (l:fi) (m:Bool) (o:fi) (p:Bool) (a:fi) (b:Bool) (d:fi),it2 c n (S2 (e,f,g,h,j,l,m,o,i,p,a,b,d,())) k=bd (l2 c e f g h i n j l m o p a b d) fun y=>altK k (o2 e f g h i y)
 | 0,_,_,_,_,_,_,_,_=>by rw[l2,bd_none];rfl
 | n+1,j,l,m,o,p,a,b,d=>by
  rw[t2];simp only[l2,r2,u2 c e f g h i k n,bd_br,bd_bd,bd_some',bd_none,br_t,br_f,o2,altK]
def it1{ρ:Type}(c n:Nat)(a:St)(k:KE ρ):Option ρ:=itG anns (ls c) (tb c) c 13 231 0 7 (sumsL (aaP c)) n a k
theorem t1{ρ:Type}(c n:Nat)(j:Bool)(l:fi)(m:Bool)(o:fi)(p:Bool)(q:fi)(r:Bool)(s t:fi)(u a:Bool)(d:fi)(k:KE ρ):it1 c (n+1) (S1 (j,l,m,o,p,q,r,s,t,u,a,d,())) k=r1 c j l m o p q r s t u a d (fun E F G H I J K L M N g h i=>it2 c n (S2 (E,F,G,H,I,J,K,L,M,N,g,h,i,())) k) (fun v w x y z A B C w8 D e f=>k (.exit 0) (xh1.b (v,w,x,y,z,A,B,C,w8,D,e,f,()))):=θ
theorem u1{ρ:Type}(c:Nat)(d:Bool)(e:fi)(f:Bool)(g:fi)(h:Bool)(i:fi)(j:Bool)(l m:fi)(o a:Bool)(b:fi)(k:KE ρ):∀ (n:Nat),it1 c n (S1 (d,e,f,g,h,i,j,l,m,o,a,b,())) k=bd (l1 c d e f g h i j l m o a b n) fun y=>altK k (o1 d e f g h i j l m o a b y)
 | 0=>by rw[l1,bd_none];rfl
 | n+1=>by
  rw[t1];simp only[l1,r1,u2,bd_br,bd_bd,bd_some',bd_none,br_t,br_f,o1,o2,altK]
def it0{ρ:Type}(c n:Nat)(a:St)(k:KE ρ):Option ρ:=itG anns (ls c) (tb c) c 13 231 0 7 (sumsL (aaP c)) n a k
theorem t0{ρ:Type}(c n:Nat)(g:Bool)(h:fi)(i:Bool)(j:fi)(l:Bool)(m:fi)(o:Bool)(p q:fi)(r a:Bool)(k:KE ρ):it0 c (n+1) (S0 (g,h,i,j,l,m,o,p,q,r,a,())) k=r0 c g h i j l m o p q r a (fun B C D E F G H I J K e f=>it1 c n (S1 (B,C,D,E,F,G,H,I,J,K,e,f,())) k) (fun s t u v w x y z w8 A d=>k (.exit 0) (xh2.b (s,t,u,v,w,x,y,z,w8,A,d,()))):=θ
theorem u0{ρ:Type}(c:Nat)(b:Bool)(d:fi)(e:Bool)(f:fi)(g:Bool)(h:fi)(i:Bool)(j l:fi)(m a:Bool)(k:KE ρ):∀ (n:Nat),it0 c n (S0 (b,d,e,f,g,h,i,j,l,m,a,())) k=bd (l0 c b d e f g h i j l m a n) fun y=>altK k (o0 b d e f g h i j l m a y)
 | 0=>by rw[l0,bd_none];rfl
 | n+1=>by
  rw[t0];simp only[l0,r0,u1,bd_br,bd_bd,bd_some',bd_none,br_t,br_f,o0,o1,altK]
theorem sl(c:Nat):SL anns (ls c) (tb c) c (ls c):=slC (laC (fun _=>θ) (fun _ (x:Bool×fi×Bool×fi×Bool×fi×Bool×fi×fi×Bool×fi×Bool×fi×Unit) k=>dJ (u2 c x.1 x.2.1 x.2.2.1 x.2.2.2.1 x.2.2.2.2.2.2.2.2.1 k (c+40) x.2.2.2.2.1 x.2.2.2.2.2.1 x.2.2.2.2.2.2.1 x.2.2.2.2.2.2.2.1 x.2.2.2.2.2.2.2.2.2.1 x.2.2.2.2.2.2.2.2.2.2.1 x.2.2.2.2.2.2.2.2.2.2.2.1 x.2.2.2.2.2.2.2.2.2.2.2.2.1)) (laC (fun _=>θ) (fun _ (x:Bool×fi×Bool×fi×Bool×fi×Bool×fi×fi×Bool×Bool×fi×Unit) k=>dJ (u1 c x.1 x.2.1 x.2.2.1 x.2.2.2.1 x.2.2.2.2.1 x.2.2.2.2.2.1 x.2.2.2.2.2.2.1 x.2.2.2.2.2.2.2.1 x.2.2.2.2.2.2.2.2.1 x.2.2.2.2.2.2.2.2.2.1 x.2.2.2.2.2.2.2.2.2.2.1 x.2.2.2.2.2.2.2.2.2.2.2.1 k (c+40))) (laC (fun _=>θ) (fun _ (x:Bool×fi×Bool×fi×Bool×fi×Bool×fi×fi×Bool×Bool×Unit) k=>dJ (u0 c x.1 x.2.1 x.2.2.1 x.2.2.2.1 x.2.2.2.2.1 x.2.2.2.2.2.1 x.2.2.2.2.2.2.1 x.2.2.2.2.2.2.2.1 x.2.2.2.2.2.2.2.2.1 x.2.2.2.2.2.2.2.2.2.1 x.2.2.2.2.2.2.2.2.2.2.1 k (c+40))) laN))) slN
def f(c:Nat)(o:fg)(p:fg):Option (fg×fg×fg×Int×Unit):=bd (fZ.f c o p) fun a=>br (a.2.2.1 != 0) (some ((⟨#[]⟩:fg),(⟨#[]⟩:fg),(⟨#[]⟩:fg),a.2.2.1,())) (br ((a.2.1.2.1.length:Int)==0) (bd (oO.f c a.1) fun b=>bd (aG.f c (false,a.1.2.1,())) fun d=>bd (xX.f c b.1) fun e=>some (d.1,e.1,(⟨#[48]⟩:fg),0,())) (bd (l0 c a.1.1 a.1.2.1 a.2.1.1 a.2.1.2.1 false a.1.2.1 false a.2.1.2.1 [1] false false (c+40)) fun b=>br b.1 (br b.2.1.1 (bd (dH.f c (b.2.1.2.2.2.2.2.2.2.2.2.1,b.2.1.2.2.2.2.2.2.2.2.1,())) fun d=>bd (ay.f c b.2.1.2.2.2.1 b.2.1.2.2.2.2.2.1) fun e=>bd (bZ.f c d.1 (false,e.1,())) fun g=>bd (dV.f c (b.2.1.1,b.2.1.2.1,()) g.2.1) fun h=>bd (dH.f c h.1) fun i=>bd (gJ.f c (b.2.1.2.2.2.2.1,b.2.1.2.2.2.2.2.1,()) i.1) fun j=>bd (bZ.f c j.1 (b.2.1.2.2.1,b.2.1.2.2.2.1,())) fun k=>bd (aG.f c (b.2.1.2.2.2.2.1,b.2.1.2.2.2.2.2.1,())) fun l=>bd (aG.f c g.2.1) fun m=>bd (aG.f c k.1) fun n=>some (l.1,m.1,n.1,0,())) (bd (ay.f c b.2.1.2.2.2.1 b.2.1.2.2.2.2.2.1) fun d=>bd (bZ.f c (b.2.1.2.2.2.2.2.2.2.2.2.1,b.2.1.2.2.2.2.2.2.2.2.1,()) (false,d.1,())) fun e=>bd (dV.f c (b.2.1.1,b.2.1.2.1,()) e.2.1) fun g=>bd (dH.f c g.1) fun h=>bd (gJ.f c (b.2.1.2.2.2.2.1,b.2.1.2.2.2.2.2.1,()) h.1) fun i=>bd (bZ.f c i.1 (b.2.1.2.2.1,b.2.1.2.2.2.1,())) fun j=>bd (aG.f c (b.2.1.2.2.2.2.1,b.2.1.2.2.2.2.2.1,())) fun k=>bd (aG.f c e.2.1) fun l=>bd (aG.f c j.1) fun m=>some (k.1,l.1,m.1,0,()))) (br b.2.2.1 (br b.2.2.2.1.1 (bd (dH.f c (b.2.2.2.1.2.2.2.2.2.2.2.2.2.1,[],())) fun d=>bd (ay.f c b.2.2.2.1.2.2.2.1 b.2.2.2.1.2.2.2.2.2.1) fun e=>bd (bZ.f c d.1 (false,e.1,())) fun g=>bd (dV.f c (b.2.2.2.1.1,b.2.2.2.1.2.1,()) g.2.1) fun h=>bd (dH.f c h.1) fun i=>bd (gJ.f c (b.2.2.2.1.2.2.2.2.1,b.2.2.2.1.2.2.2.2.2.1,()) i.1) fun j=>bd (bZ.f c j.1 (b.2.2.2.1.2.2.1,b.2.2.2.1.2.2.2.1,())) fun k=>bd (aG.f c (b.2.2.2.1.2.2.2.2.1,b.2.2.2.1.2.2.2.2.2.1,())) fun l=>bd (aG.f c g.2.1) fun m=>bd (aG.f c k.1) fun n=>some (l.1,m.1,n.1,0,())) (bd (ay.f c b.2.2.2.1.2.2.2.1 b.2.2.2.1.2.2.2.2.2.1) fun d=>bd (bZ.f c (b.2.2.2.1.2.2.2.2.2.2.2.2.2.1,[],()) (false,d.1,())) fun e=>bd (dV.f c (b.2.2.2.1.1,b.2.2.2.1.2.1,()) e.2.1) fun g=>bd (dH.f c g.1) fun h=>bd (gJ.f c (b.2.2.2.1.2.2.2.2.1,b.2.2.2.1.2.2.2.2.2.1,()) h.1) fun i=>bd (bZ.f c i.1 (b.2.2.2.1.2.2.1,b.2.2.2.1.2.2.2.1,())) fun j=>bd (aG.f c (b.2.2.2.1.2.2.2.2.1,b.2.2.2.1.2.2.2.2.2.1,())) fun k=>bd (aG.f c e.2.1) fun l=>bd (aG.f c j.1) fun m=>some (k.1,l.1,m.1,0,()))) (br b.2.2.2.2.1.1 (bd (dH.f c (b.2.2.2.2.1.2.2.2.2.2.2.2.2.2.1,b.2.2.2.2.1.2.2.2.2.2.2.2.2.2.2.1,())) fun d=>bd (ay.f c b.2.2.2.2.1.2.2.2.1 b.2.2.2.2.1.2.2.2.2.2.1) fun e=>bd (bZ.f c d.1 (false,e.1,())) fun g=>bd (dV.f c (b.2.2.2.2.1.1,b.2.2.2.2.1.2.1,()) g.2.1) fun h=>bd (dH.f c h.1) fun i=>bd (gJ.f c (b.2.2.2.2.1.2.2.2.2.1,b.2.2.2.2.1.2.2.2.2.2.1,()) i.1) fun j=>bd (bZ.f c j.1 (b.2.2.2.2.1.2.2.1,b.2.2.2.2.1.2.2.2.1,())) fun k=>bd (aG.f c (b.2.2.2.2.1.2.2.2.2.1,b.2.2.2.2.1.2.2.2.2.2.1,())) fun l=>bd (aG.f c g.2.1) fun m=>bd (aG.f c k.1) fun n=>some (l.1,m.1,n.1,0,())) (bd (ay.f c b.2.2.2.2.1.2.2.2.1 b.2.2.2.2.1.2.2.2.2.2.1) fun d=>bd (bZ.f c (b.2.2.2.2.1.2.2.2.2.2.2.2.2.2.1,b.2.2.2.2.1.2.2.2.2.2.2.2.2.2.2.1,()) (false,d.1,())) fun e=>bd (dV.f c (b.2.2.2.2.1.1,b.2.2.2.2.1.2.1,()) e.2.1) fun g=>bd (dH.f c g.1) fun h=>bd (gJ.f c (b.2.2.2.2.1.2.2.2.2.1,b.2.2.2.2.1.2.2.2.2.2.1,()) h.1) fun i=>bd (bZ.f c i.1 (b.2.2.2.2.1.2.2.1,b.2.2.2.2.1.2.2.2.1,())) fun j=>bd (aG.f c (b.2.2.2.2.1.2.2.2.2.1,b.2.2.2.2.1.2.2.2.2.2.1,())) fun k=>bd (aG.f c e.2.1) fun l=>bd (aG.f c j.1) fun m=>some (k.1,l.1,m.1,0,()))))))
def E(c:Nat):Entry:=⟨[.str,.str],[.str,.str,.str,(.int .i64)],fun x=>f c x.1 x.2.1⟩
theorem ok(c:Nat):Ok 231 (E c):=okL (tC (fZ.ok c) (tC (oO.ok c) (tC (gJ.ok c) (tC (dH.ok c) (tC (dV.ok c) (tC (aG.ok c) (tC (xX.ok c) (tC (bZ.ok c) (tC (ay.ok c) tN))))))))) (aoC aoN) (sl c) fun x=>θ
end dS
end
end Go.Q
namespace Go.Q
open Go Go.RowKit
open Go.Rx (br bd sIdx sCat sCut iQuo iRem iShl)
noncomputable section
namespace vk
def f(c:Nat)(h:fg)(i:fg):Option (fg×Int×Unit):=bd (fZ.f c h i) fun a=>br (a.2.2.1 != 0) (some ((⟨#[]⟩:fg),a.2.2.1,())) (br ((a.1.2.1.length:Int)==0) (some ((⟨#[48]⟩:fg),0,())) (br ((a.2.1.2.1.length:Int)==0) (some ((⟨#[48]⟩:fg),0,())) (bd (iF.f c a.1.2.1 a.2.1.2.1) fun b=>bd (ay.f c a.1.2.1 b.1) fun d=>bd (gK.f c d.1 a.2.1.2.1) fun e=>bd (jl.f c (false,e.1,())) fun g=>some (g.1,g.2.1,()))))
def E(c:Nat):Entry:=⟨[.str,.str],[.str,(.int .i64)],fun x=>f c x.1 x.2.1⟩
theorem ok(c:Nat):Ok 233 (E c):=fo c (tC (fZ.ok c) (tC (jl.ok c) (tC (ay.ok c) (tC (iF.ok c) (tC (gK.ok c) tN))))) fun x=>θ
end vk
end
end Go.Q
namespace Go.Q
open Go.IntKind (i64)
open Go Go.RowKit
open Go.Rx (br bd sIdx sCat sCut iQuo iRem iShl)
noncomputable section
namespace lT
def f(c:Nat)(a:fg):fm Int:=br (decide ((a.size:Int) > 0)) (bd (sIdx a 0) fun r1=>br (((r1.toNat:Nat):Int)==45) (some ((i64.wrap ((a.size:Int)-1)),())) (some ((a.size:Int),()))) (some ((a.size:Int),()))
def E(c:Nat):Entry:=⟨[.str],[(.int .i64)],fun x=>f c x.1⟩
theorem ok(c:Nat):Ok 238 (E c):=fo c tN fun x=>θ
end lT
namespace jr
def f(c:Nat)(a:fg):fm Int:=bd (dF.f c a) fun r1=>br (r1.1 != 0) (some (r1.1,())) (bd (lT.f c a) fun r2=>br (decide (r2.1 > 100)) (some (10,())) (some (0,())))
def E(c:Nat):Entry:=⟨[.str],[(.int .i64)],fun x=>f c x.1⟩
theorem ok(c:Nat):Ok 137 (E c):=fo c (tC (dF.ok c) (tC (lT.ok c) tN)) fun x=>θ
end jr
namespace dO
def f(c:Nat)(a:fg)(b:fg):fm Int:=bd (iU.f c a b) fun r1=>some (r1.1,())
def E(c:Nat):Entry:=⟨[.str,.str],[(.int .i64)],fun x=>f c x.1 x.2.1⟩
theorem ok(c:Nat):Ok 138 (E c):=fo c (tC (iU.ok c) tN) fun x=>θ
end dO
namespace bJ
def f(c:Nat)(e:TI):fm Int:=br e.1 (br (!(e.2.1.toList==(⟨#[]⟩:fg).toList)) (some (3,())) (br (!(e.2.2.1.toList==(⟨#[]⟩:fg).toList)) (some (3,())) (br (e.2.1.toList==(⟨#[]⟩:fg).toList) (br (e.2.2.1.toList==(⟨#[]⟩:fg).toList) (br (!(e.2.1.toList==(⟨#[]⟩:fg).toList)) (br (!(e.2.2.1.toList==(⟨#[]⟩:fg).toList)) (bd (dO.f c e.2.1 e.2.2.1) fun a=>br (decide (a.1 > 0)) (some (14,())) (some (0,()))) (some (0,()))) (some (0,()))) (bd (jr.f c e.2.2.1) fun a=>br (a.1 != 0) (some (a.1,())) (br (!(e.2.1.toList==(⟨#[]⟩:fg).toList)) (br (!(e.2.2.1.toList==(⟨#[]⟩:fg).toList)) (bd (dO.f c e.2.1 e.2.2.1) fun b=>br (decide (b.1 > 0)) (some (14,())) (some (0,()))) (some (0,()))) (some (0,()))))) (bd (jr.f c e.2.1) fun a=>br (a.1 != 0) (some (a.1,())) (br (e.2.2.1.toList==(⟨#[]⟩:fg).toList) (br (!(e.2.1.toList==(⟨#[]⟩:fg).toList)) (br (!(e.2.2.1.toList==(⟨#[]⟩:fg).toList)) (bd (dO.f c e.2.1 e.2.2.1) fun b=>br (decide (b.1 > 0)) (some (14,())) (some (0,()))) (some (0,()))) (some (0,()))) (bd (jr.f c e.2.2.1) fun b=>br (b.1 != 0) (some (b.1,())) (br (!(e.2.1.toList==(⟨#[]⟩:fg).toList)) (br (!(e.2.2.1.toList==(⟨#[]⟩:fg).toList)) (bd (dO.f c e.2.1 e.2.2.1) fun d=>br (decide (d.1 > 0)) (some (14,())) (some (0,()))) (some (0,()))) (some (0,()))))))))) (br (e.2.1.toList==(⟨#[]⟩:fg).toList) (br (e.2.2.1.toList==(⟨#[]⟩:fg).toList) (br (!(e.2.1.toList==(⟨#[]⟩:fg).toList)) (br (!(e.2.2.1.toList==(⟨#[]⟩:fg).toList)) (bd (dO.f c e.2.1 e.2.2.1) fun a=>br (decide (a.1 > 0)) (some (14,())) (some (0,()))) (some (0,()))) (some (0,()))) (bd (jr.f c e.2.2.1) fun a=>br (a.1 != 0) (some (a.1,())) (br (!(e.2.1.toList==(⟨#[]⟩:fg).toList)) (br (!(e.2.2.1.toList==(⟨#[]⟩:fg).toList)) (bd (dO.f c e.2.1 e.2.2.1) fun b=>br (decide (b.1 > 0)) (some (14,())) (some (0,()))) (some (0,()))) (some (0,()))))) (bd (jr.f c e.2.1) fun a=>br (a.1 != 0) (some (a.1,())) (br (e.2.2.1.toList==(⟨#[]⟩:fg).toList) (br (!(e.2.1.toList==(⟨#[]⟩:fg).toList)) (br (!(e.2.2.1.toList==(⟨#[]⟩:fg).toList)) (bd (dO.f c e.2.1 e.2.2.1) fun b=>br (decide (b.1 > 0)) (some (14,())) (some (0,()))) (some (0,()))) (some (0,()))) (bd (jr.f c e.2.2.1) fun b=>br (b.1 != 0) (some (b.1,())) (br (!(e.2.1.toList==(⟨#[]⟩:fg).toList)) (br (!(e.2.2.1.toList==(⟨#[]⟩:fg).toList)) (bd (dO.f c e.2.1 e.2.2.1) fun d=>br (decide (d.1 > 0)) (some (14,())) (some (0,()))) (some (0,()))) (some (0,())))))))
def E(c:Nat):Entry:=⟨[yI],[(.int .i64)],fun x=>f c x.1⟩
theorem ok(c:Nat):Ok 79 (E c):=fo c (tC (jr.ok c) (tC (dO.ok c) tN)) fun x=>θ
end bJ
namespace bQ
def f(c:Nat)(a:Int):fm TX:=some ((a,(⟨#[]⟩:fg),()),())
def E(c:Nat):Entry:=⟨[(.int .i64)],[yX],fun x=>f c x.1⟩
theorem ok(c:Nat):Ok 253 (E c):=fo c tN fun x=>θ
end bQ
namespace aB
def f(c:Nat)  : fm TS:=bd (bQ.f c 1) fun r1=>bd (bQ.f c (-1)) fun r2=>some ((r1.1,r2.1,()),())
def E(c:Nat):Entry:=⟨[],[yS],fun x=>f c⟩
theorem ok(c:Nat):Ok 217 (E c):=fo c (tC (bQ.ok c) tN) fun x=>θ
end aB
namespace aY
def f(c:Nat)(a:fg):fm TX:=some ((0,a,()),())
def E(c:Nat):Entry:=⟨[.str],[yX],fun x=>f c x.1⟩
theorem ok(c:Nat):Ok 241 (E c):=fo c tN fun x=>θ
end aY
namespace aV
def f(c:Nat)(g:TI):fm TS:=br g.1 (bd (aB.f c) fun a=>some (a.1,())) (bd (bQ.f c (-1)) fun a=>bd (bQ.f c 1) fun b=>br (!(g.2.1.toList==(⟨#[]⟩:fg).toList)) (bd (aY.f c g.2.1) fun d=>br (!(g.2.2.1.toList==(⟨#[]⟩:fg).toList)) (bd (aY.f c g.2.2.1) fun e=>some ((d.1,e.1,()),())) (some ((d.1,b.1,()),()))) (br (!(g.2.2.1.toList==(⟨#[]⟩:fg).toList)) (bd (aY.f c g.2.2.1) fun d=>some ((a.1,d.1,()),())) (some ((a.1,b.1,()),()))))
def E(c:Nat):Entry:=⟨[yI],[yS],fun x=>f c x.1⟩
theorem ok(c:Nat):Ok 147 (E c):=fo c (tC (aB.ok c) (tC (aY.ok c) (tC (bQ.ok c) tN))) fun x=>θ
end aV
namespace fA
def f(c:Nat)(a:TX)(b:TX):fm Int:=br (a.1 != 0) (some ((i64.wrap (a.1-b.1)),())) (br (b.1 != 0) (some ((i64.wrap (a.1-b.1)),())) (bd (dO.f c a.2.1 b.2.1) fun r1=>some (r1.1,())))
def E(c:Nat):Entry:=⟨[yX,yX],[(.int .i64)],fun x=>f c x.1 x.2.1⟩
theorem ok(c:Nat):Ok 242 (E c):=fo c (tC (dO.ok c) tN) fun x=>θ
end fA
namespace qE
def f(c:Nat)(i:TI)(j:fg):Option (Bool×Int×Unit):=bd (bJ.f c i) fun a=>br (a.1 != 0) (some (false,a.1,())) (bd (dF.f c j) fun b=>br (b.1 != 0) (some (false,b.1,())) (bd (aV.f c i) fun d=>bd (aY.f c j) fun e=>bd (fA.f c d.1.1 e.1) fun g=>br (decide (g.1≤0)) (bd (fA.f c e.1 d.1.2.1) fun h=>some ((decide (h.1≤0)),0,())) (some (false,0,()))))
def E(c:Nat):Entry:=⟨[yI,.str],[.bool,(.int .i64)],fun x=>f c x.1 x.2.1⟩
theorem ok(c:Nat):Ok 141 (E c):=fo c (tC (bJ.ok c) (tC (dF.ok c) (tC (aV.ok c) (tC (aY.ok c) (tC (fA.ok c) tN))))) fun x=>θ
end qE
namespace ak
def f(c:Nat)(a:TS):fm Bool:=bd (fA.f c a.1 a.2.1) fun r1=>some ((decide (r1.1 > 0)),())
def E(c:Nat):Entry:=⟨[yS],[.bool],fun x=>f c x.1⟩
theorem ok(c:Nat):Ok 216 (E c):=fo c (tC (fA.ok c) tN) fun x=>θ
end ak
namespace jB
def f(c:Nat)(a:fg):fm fg:=bd (jD.f c a) fun r1=>some (r1.1,())
def E(c:Nat):Entry:=⟨[.str],[.str],fun x=>f c x.1⟩
theorem ok(c:Nat):Ok 303 (E c):=fo c (tC (jD.ok c) tN) fun x=>θ
end jB
namespace lI
def f(c:Nat)(d:TX):fm TX:=br (d.1 != 0) (bd (bQ.f c (i64.wrap (0-d.1))) fun a=>some (a.1,())) (bd (jB.f c d.2.1) fun a=>bd (aY.f c a.1) fun b=>some (b.1,()))
def E(c:Nat):Entry:=⟨[yX],[yX],fun x=>f c x.1⟩
theorem ok(c:Nat):Ok 254 (E c):=fo c (tC (aY.ok c) (tC (bQ.ok c) (tC (jB.ok c) tN))) fun x=>θ
end lI
namespace ax
def f(c:Nat)(e:TS):fm TS:=bd (ak.f c e) fun a=>br a.1 (bd (aB.f c) fun b=>some (b.1,())) (bd (lI.f c e.2.1) fun b=>bd (lI.f c e.1) fun d=>some ((b.1,d.1,()),()))
def E(c:Nat):Entry:=⟨[yS],[yS],fun x=>f c x.1⟩
theorem ok(c:Nat):Ok 148 (E c):=fo c (tC (ak.ok c) (tC (aB.ok c) (tC (lI.ok c) tN))) fun x=>θ
end ax
namespace pX
def f(c:Nat)(a:TX):fm fg:=br (a.1 != 0) (some ((⟨#[]⟩:fg),())) (bd (lT.f c a.2.1) fun r1=>br (decide (r1.1 > 100)) (some ((⟨#[]⟩:fg),())) (some (a.2.1,())))
def E(c:Nat):Entry:=⟨[yX],[.str],fun x=>f c x.1⟩
theorem ok(c:Nat):Ok 255 (E c):=fo c (tC (lT.ok c) tN) fun x=>θ
end pX
namespace af
def f(c:Nat)(e:TS):fm TI:=bd (ak.f c e) fun a=>br a.1 (some ((true,(⟨#[]⟩:fg),(⟨#[]⟩:fg),()),())) (bd (pX.f c e.1) fun b=>bd (pX.f c e.2.1) fun d=>some ((false,b.1,d.1,()),()))
def E(c:Nat):Entry:=⟨[yS],[yI],fun x=>f c x.1⟩
theorem ok(c:Nat):Ok 149 (E c):=fo c (tC (ak.ok c) (tC (pX.ok c) tN)) fun x=>θ
end af
namespace pI
def f(c:Nat)(g:TI):Option (TI×Int×Unit):=bd (bJ.f c g) fun a=>br (a.1 != 0) (some ((false,(⟨#[]⟩:fg),(⟨#[]⟩:fg),()),a.1,())) (bd (aV.f c g) fun b=>bd (ax.f c b.1) fun d=>bd (af.f c d.1) fun e=>some (e.1,0,()))
def E(c:Nat):Entry:=⟨[yI],[yI,(.int .i64)],fun x=>f c x.1⟩
theorem ok(c:Nat):Ok 84 (E c):=fo c (tC (bJ.ok c) (tC (aV.ok c) (tC (ax.ok c) (tC (af.ok c) tN)))) fun x=>θ
end pI
namespace jY
def f(c:Nat)(a:fg)(b:fg):fm fg:=bd (jV.f c a b) fun r1=>some (r1.1,())
def E(c:Nat):Entry:=⟨[.str,.str],[.str],fun x=>f c x.1 x.2.1⟩
theorem ok(c:Nat):Ok 289 (E c):=fo c (tC (jV.ok c) tN) fun x=>θ
end jY
namespace mO
def f(c:Nat)(d:TX)(e:TX):fm TX:=br (d.1 != 0) (bd (bQ.f c (if(if(i64.wrap (d.1+e.1)) < 1 then(i64.wrap (d.1+e.1))else 1) >(-1)then(if(i64.wrap (d.1+e.1)) < 1 then(i64.wrap (d.1+e.1))else 1)else(-1))) fun a=>some (a.1,())) (br (e.1 != 0) (bd (bQ.f c (if(if(i64.wrap (d.1+e.1)) < 1 then(i64.wrap (d.1+e.1))else 1) >(-1)then(if(i64.wrap (d.1+e.1)) < 1 then(i64.wrap (d.1+e.1))else 1)else(-1))) fun a=>some (a.1,())) (bd (jY.f c d.2.1 e.2.1) fun a=>bd (aY.f c a.1) fun b=>some (b.1,())))
def E(c:Nat):Entry:=⟨[yX,yX],[yX],fun x=>f c x.1 x.2.1⟩
theorem ok(c:Nat):Ok 288 (E c):=fo c (tC (aY.ok c) (tC (bQ.ok c) (tC (jY.ok c) tN))) fun x=>θ
end mO
namespace jX
def f(c:Nat)(g:TS)(h:TS):fm TS:=bd (ak.f c g) fun a=>br a.1 (bd (aB.f c) fun b=>some (b.1,())) (bd (ak.f c h) fun b=>br b.1 (bd (aB.f c) fun d=>some (d.1,())) (bd (mO.f c g.1 h.1) fun d=>bd (mO.f c g.2.1 h.2.1) fun e=>some ((d.1,e.1,()),())))
def E(c:Nat):Entry:=⟨[yS,yS],[yS],fun x=>f c x.1 x.2.1⟩
theorem ok(c:Nat):Ok 196 (E c):=fo c (tC (ak.ok c) (tC (aB.ok c) (tC (mO.ok c) tN))) fun x=>θ
end jX
namespace rZ
def f(c:Nat)(i:TI)(j:TI):Option (TI×Int×Unit):=bd (bJ.f c i) fun a=>br (a.1 != 0) (br (a.1 != 0) (some ((false,(⟨#[]⟩:fg),(⟨#[]⟩:fg),()),a.1,())) (bd (aV.f c i) fun b=>bd (aV.f c j) fun d=>bd (jX.f c b.1 d.1) fun e=>bd (af.f c e.1) fun g=>some (g.1,0,()))) (bd (bJ.f c j) fun b=>br (b.1 != 0) (br (b.1 != 0) (some ((false,(⟨#[]⟩:fg),(⟨#[]⟩:fg),()),b.1,())) (bd (aV.f c i) fun d=>bd (aV.f c j) fun e=>bd (jX.f c d.1 e.1) fun g=>bd (af.f c g.1) fun h=>some (h.1,0,()))) (bd (aV.f c i) fun d=>bd (aV.f c j) fun e=>bd (jX.f c d.1 e.1) fun g=>bd (af.f c g.1) fun h=>some (h.1,0,())))
def E(c:Nat):Entry:=⟨[yI,yI],[yI,(.int .i64)],fun x=>f c x.1 x.2.1⟩
theorem ok(c:Nat):Ok 113 (E c):=fo c (tC (bJ.ok c) (tC (aV.ok c) (tC (af.ok c) (tC (jX.ok c) tN)))) fun x=>θ
end rZ
namespace oI
def f(c:Nat)(a:TS)(b:TS):fm TS:=bd (ax.f c b) fun r1=>bd (jX.f c a r1.1) fun r2=>some (r2.1,())
def E(c:Nat):Entry:=⟨[yS,yS],[yS],fun x=>f c x.1 x.2.1⟩
theorem ok(c:Nat):Ok 201 (E c):=fo c (tC (ax.ok c) (tC (jX.ok c) tN)) fun x=>θ
end oI
end
end Go.Q
