import Derived.Test.YtnjnggbibpnkbaaGreatDoorEIE3
set_option linter.all false
set_option maxRecDepth 100000
namespace Go.Q
open Go.IntKind (i64)
open Go Go.RowKit
open Go.Rx (br bd sIdx sCat sCut iQuo iRem iShl)
noncomputable section
namespace nM
def f(c:Nat)(a:fg):fm Bool:=some ((decide ((a.size:Int)≤250)),())
def E(c:Nat):Entry:=⟨[.str],[.bool],fun x=>f c x.1⟩
theorem ok(c:Nat):Ok 34 (E c):=fo c tN fun x=>θ
end nM
namespace aA
def f(c:Nat)(a:fg):fm Bool:=bd (sIdx a 0) fun r1=>some ((((r1.toNat:Nat):Int)==45),())
def E(c:Nat):Entry:=⟨[.str],[.bool],fun x=>f c x.1⟩
theorem ok(c:Nat):Ok 165 (E c):=fo c tN fun x=>θ
end aA
namespace bH
def f(c:Nat)(a:fg):fm Int:=bd (aA.f c a) fun r1=>br r1.1 (some ((i64.wrap ((a.size:Int)-1)),())) (some ((a.size:Int),()))
def E(c:Nat):Entry:=⟨[.str],[(.int .i64)],fun x=>f c x.1⟩
theorem ok(c:Nat):Ok 164 (E c):=fo c (tC (aA.ok c) tN) fun x=>θ
end bH
namespace fD
def anns:FuncId→FA:=annsL [(163,⟨annOf [(0,⟨kx 42 [0,4],[],[]⟩,⟨kx 42 [2],[],[]⟩)],none,[]⟩)]
def r0{ρ:Type}(c:Nat)(b:fg)(a:Int)(K:Int→Option ρ)(E0:Option ρ)(d:Option ρ):Option ρ:=br (decide (a < (b.size:Int))) (bd (sIdx b a) fun r3=>br (decide (((r3.toNat:Nat):Int) < 48)) (
 E0) (bd (sIdx b a) fun r4=>br (decide (((r4.toNat:Nat):Int) > 57)) (
 E0) (
 K (i64.wrap (a+1))))) (
 d)
def l0(c:Nat)(a:fg):Nat→Int→Option (Bool×(Unit)×(Unit)×Unit)
 | 0,_=>none
 | n+1,v1=>r0 c a v1 (l0 c a n) (some (true,(()),((()),()))) (some (false,(()),((()),())))
def sh0:ShS:=⟨[.s .str,.a 3,.s (.int .i64),.a 37],[]⟩
def S0(p:fg×Int×Unit):St:=sh0.b p
def xh0:ShS:=⟨[.a 2,.s .bool,.a 39],[]⟩
def xh1:ShS:=⟨[.a 42],[]⟩
def o0(a:fg)(y:Bool×(Unit)×(Unit)×Unit):Alt:=.two y.1 (.one .ret (xh0.b (false,()))) (.one (.exit 0) (xh1.b (())))
def tb(c:Nat):List (FuncId×Entry):=[]
def ae4(c:Nat):List (Nat×(St→Option LTE)):=[(0,sumE sh0 fun(p:fg×Int×Unit)=>⟨Bool×(Unit)×(Unit)×Unit,l0 c p.1 (c+40) p.2.1,o0 p.1⟩)]
def ls(c:Nat):List (Nat×FuncId×Sums):=[(13,163,sumsL (ae4 c))]
def it0{ρ:Type}(c n:Nat)(a:St)(k:KE ρ):Option ρ:=itG anns (ls c) (tb c) c 13 163 0 0 (sumsL (ae4 c)) n a k
theorem t0{ρ:Type}(c n:Nat)(a:fg)(d:Int)(k:KE ρ):it0 c (n+1) (S0 (a,d,())) k=r0 c a d (fun e=>it0 c n (S0 (a,e,())) k) (k .ret (xh0.b (false,()))) (k (.exit 0) (xh1.b (()))):=θ
theorem u0{ρ:Type}(c:Nat)(a:fg)(k:KE ρ):∀ (n:Nat) (b:Int),it0 c n (S0 (a,b,())) k=bd (l0 c a n b) fun y=>altK k (o0 a y)
 | 0,_=>by rw[l0,bd_none];rfl
 | n+1,b=>by
  rw[t0];simp only[l0,r0,u0 c a k n,bd_br,bd_bd,bd_some',bd_none,br_t,br_f,o0,altK]
theorem sl(c:Nat):SL anns (ls c) (tb c) c (ls c):=slC (laC (fun _=>θ) (fun _ (x:fg×Int×Unit) k=>dJ (u0 c x.1 k (c+40) x.2.1)) laN) slN
def f(c:Nat)(e:fg):fm Bool:=br (e.toList==(⟨#[48]⟩:fg).toList) (some (true,())) (br (decide ((e.size:Int) > 0)) (bd (sIdx e 0) fun a=>br (((a.toNat:Nat):Int)==45) (br (1==(e.size:Int)) (some (false,())) (bd (sIdx e 1) fun b=>br (((b.toNat:Nat):Int)==48) (some (false,())) (bd (l0 c e (c+40) 1) fun d=>br d.1 (some (false,())) (some (true,()))))) (br (0==(e.size:Int)) (some (false,())) (bd (sIdx e 0) fun b=>br (((b.toNat:Nat):Int)==48) (some (false,())) (bd (l0 c e (c+40) 0) fun d=>br d.1 (some (false,())) (some (true,())))))) (br (0==(e.size:Int)) (some (false,())) (bd (sIdx e 0) fun a=>br (((a.toNat:Nat):Int)==48) (some (false,())) (bd (l0 c e (c+40) 0) fun b=>br b.1 (some (false,())) (some (true,()))))))
def E(c:Nat):Entry:=⟨[.str],[.bool],fun x=>f c x.1⟩
theorem ok(c:Nat):Ok 163 (E c):=okL tN (aoC aoN) (sl c) fun x=>θ
end fD
namespace lW
def f(c:Nat)(a:fg):fm Int:=bd (fD.f c a) fun r1=>br (!r1.1) (some (3,())) (bd (bH.f c a) fun r2=>br (decide (r2.1 > 4096)) (some (10,())) (some (0,())))
def E(c:Nat):Entry:=⟨[.str],[(.int .i64)],fun x=>f c x.1⟩
theorem ok(c:Nat):Ok 262 (E c):=fo c (tC (fD.ok c) (tC (bH.ok c) tN)) fun x=>θ
end lW
namespace bD
def f(c:Nat)(a:fg):fm Int:=br (a.toList==(⟨#[48]⟩:fg).toList) (some (0,())) (bd (aA.f c a) fun r1=>br r1.1 (some ((-1),())) (some (1,())))
def E(c:Nat):Entry:=⟨[.str],[(.int .i64)],fun x=>f c x.1⟩
theorem ok(c:Nat):Ok 97 (E c):=fo c (tC (aA.ok c) tN) fun x=>θ
end bD
namespace dh
def anns:FuncId→FA:=annsL [(263,⟨annOf [(0,⟨kx 41 [0,1,5],[],[]⟩,⟨kx 41 [4],[],[]⟩)],none,[]⟩)]
def r0{ρ:Type}(c:Nat)(g h:fi)(f:Int)(K:Int→Option ρ)(E0:Int→Option ρ)(i:Option ρ):Option ρ:=br (decide (f≥0)) (bd (idxL g f) fun a=>bd (idxL h f) fun b=>br (a != b) (bd (idxL g f) fun d=>bd (idxL h f) fun e=>br (decide (d < e)) (
 E0 (-1)) (
 E0 1)) (
 K (i64.wrap (f-1)))) (
 i)
def l0(c:Nat)(a b:fi):Nat→Int→Option (Bool×(Int×Unit)×(Unit)×Unit)
 | 0,_=>none
 | n+1,v2=>r0 c a b v2 (l0 c a b n) (fun d=>some (true,(d,()),((()),()))) (some (false,(0,()),((()),())))
def sh0:ShS:=⟨[.s (.sl (.int .i64)),.s (.sl (.int .i64)),.a 3,.s (.int .i64),.a 35],[]⟩
def S0(p:fi×fi×Int×Unit):St:=sh0.b p
def xh0:ShS:=⟨[.a 4,.s (.int .i64),.a 36],[]⟩
def xh1:ShS:=⟨[.a 41],[]⟩
def o0(a c:fi)(y:Bool×(Int×Unit)×(Unit)×Unit):Alt:=.two y.1 (.one .ret (xh0.b (y.2.1.1,()))) (.one (.exit 0) (xh1.b (())))
def tb(c:Nat):List (FuncId×Entry):=[]
def ae7(c:Nat):List (Nat×(St→Option LTE)):=[(0,sumE sh0 fun(p:fi×fi×Int×Unit)=>⟨Bool×(Int×Unit)×(Unit)×Unit,l0 c p.1 p.2.1 (c+40) p.2.2.1,o0 p.1 p.2.1⟩)]
def ls(c:Nat):List (Nat×FuncId×Sums):=[(13,263,sumsL (ae7 c))]
def it0{ρ:Type}(c n:Nat)(a:St)(k:KE ρ):Option ρ:=itG anns (ls c) (tb c) c 13 263 0 0 (sumsL (ae7 c)) n a k
theorem t0{ρ:Type}(c n:Nat)(a d:fi)(e:Int)(k:KE ρ):it0 c (n+1) (S0 (a,d,e,())) k=r0 c a d e (fun g=>it0 c n (S0 (a,d,g,())) k) (fun f=>k .ret (xh0.b (f,()))) (k (.exit 0) (xh1.b (()))):=θ
theorem u0{ρ:Type}(c:Nat)(a b:fi)(k:KE ρ):∀ (n:Nat) (d:Int),it0 c n (S0 (a,b,d,())) k=bd (l0 c a b n d) fun y=>altK k (o0 a b y)
 | 0,_=>by rw[l0,bd_none];rfl
 | n+1,d=>by
  rw[t0];simp only[l0,r0,u0 c a b k n,bd_br,bd_bd,bd_some',bd_none,br_t,br_f,o0,altK]
theorem sl(c:Nat):SL anns (ls c) (tb c) c (ls c):=slC (laC (fun _=>θ) (fun _ (x:fi×fi×Int×Unit) k=>dJ (u0 c x.1 x.2.1 k (c+40) x.2.2.1)) laN) slN
def f(c:Nat)(a:fi)(b:fi):fm Int:=br ((a.length:Int) !=(b.length:Int)) (br (decide ((a.length:Int) < (b.length:Int))) (some ((-1),())) (some (1,()))) (bd (l0 c a b (c+40) (i64.wrap ((a.length:Int)-1))) fun d=>br d.1 (some (d.2.1.1,())) (some (0,())))
def E(c:Nat):Entry:=⟨[(.sl (.int .i64)),(.sl (.int .i64))],[(.int .i64)],fun x=>f c x.1 x.2.1⟩
theorem ok(c:Nat):Ok 263 (E c):=okL tN (aoC aoN) (sl c) fun x=>θ
end dh
namespace aN
def anns:FuncId→FA:=annsL [(264,⟨annOf [(0,⟨kx 21 [0,3],[],[]⟩,⟨kx 21 [0,2,3],[],[]⟩)],none,[]⟩)]
def r0{ρ:Type}(c:Nat)(b:fi)(a:Int)(K:Int→Option ρ)(E0:Int→Option ρ):Option ρ:=br (decide (a > 0)) (bd (idxL b (i64.wrap (a-1))) fun d=>br (d==0) (
 K (i64.wrap (a-1))) (
 E0 a)) (
 E0 a)
def l0(c:Nat)(a:fi):Nat→Int→Option ((Int×Unit)×Unit)
 | 0,_=>none
 | n+1,v1=>r0 c a v1 (l0 c a n) (fun b=>some ((b,()),()))
def sh0:ShS:=⟨[.s (.sl (.int .i64)),.a 2,.s (.int .i64),.a 17],[]⟩
def S0(p:fi×Int×Unit):St:=sh0.b p
def xh0:ShS:=⟨[.s (.sl (.int .i64)),.a 2,.s (.int .i64),.a 17],[]⟩
def o0(a:fi)(y:(Int×Unit)×Unit):Alt:=.one (.exit 0) (xh0.b (a,y.1.1,()))
def tb(c:Nat):List (FuncId×Entry):=[]
def ae8(c:Nat):List (Nat×(St→Option LTE)):=[(0,sumE sh0 fun(p:fi×Int×Unit)=>⟨(Int×Unit)×Unit,l0 c p.1 (c+40) p.2.1,o0 p.1⟩)]
def ls(c:Nat):List (Nat×FuncId×Sums):=[(13,264,sumsL (ae8 c))]
def it0{ρ:Type}(c n:Nat)(a:St)(k:KE ρ):Option ρ:=itG anns (ls c) (tb c) c 13 264 0 0 (sumsL (ae8 c)) n a k
theorem t0{ρ:Type}(c n:Nat)(a:fi)(d:Int)(k:KE ρ):it0 c (n+1) (S0 (a,d,())) k=r0 c a d (fun f=>it0 c n (S0 (a,f,())) k) (fun e=>k (.exit 0) (xh0.b (a,e,()))):=θ
theorem u0{ρ:Type}(c:Nat)(a:fi)(k:KE ρ):∀ (n:Nat) (b:Int),it0 c n (S0 (a,b,())) k=bd (l0 c a n b) fun y=>altK k (o0 a y)
 | 0,_=>by rw[l0,bd_none];rfl
 | n+1,b=>by
  rw[t0];simp only[l0,r0,u0 c a k n,bd_br,bd_bd,bd_some',bd_none,br_t,br_f,o0,altK]
theorem sl(c:Nat):SL anns (ls c) (tb c) c (ls c):=slC (laC (fun _=>θ) (fun _ (x:fi×Int×Unit) k=>dJ (u0 c x.1 k (c+40) x.2.1)) laN) slN
def f(c:Nat)(a:fi):fm fi:=bd (l0 c a (c+40) (a.length:Int)) fun d=>bd (cutL a none (some d.1.1)) fun b=>some (b,())
def E(c:Nat):Entry:=⟨[(.sl (.int .i64))],[(.sl (.int .i64))],fun x=>f c x.1⟩
theorem ok(c:Nat):Ok 264 (E c):=okL tN (aoC aoN) (sl c) fun x=>θ
end aN
namespace aW
def anns:FuncId→FA:=annsL [(265,⟨annOf [(0,⟨kx 27 [0,3,4],[⟨.tmp 3,(.int .i64),3⟩],[]⟩,⟨kx 27 [2,3],[⟨.tmp 3,(.int .i64),3⟩],[]⟩)],none,[]⟩)]
def r0{ρ:Type}(c:Nat)(g:fg)(e:Int)(f:fi)(K:Int→fi→Option ρ)(E0:fi→Option ρ):Option ρ:=br (decide (e≥0)) (bd (sIdx g e) fun a=>br (((a.toNat:Nat):Int) != 45) (bd (sIdx g e) fun b=>bd (apL true 8 f [(i64.wrap (IntKind.u8.wrap (((b.toNat:Nat):Int)-48)))]) fun d =>
 K (i64.wrap (e-1)) d) (
 E0 f)) (
 E0 f)
def l0(c:Nat)(a:fg):Nat→Int→fi→Option ((fi×Unit)×Unit)
 | 0,_,_=>none
 | n+1,v1,v2=>r0 c a v1 v2 (l0 c a n) (fun b=>some ((b,()),()))
def sh0:ShS:=⟨[.s .str,.a 2,.s (.row 0),.s (.int .i64),.a 22],[.row (.int .i64) 3 false]⟩
def S0(p:fg×Int×fi×Unit):St:=sh0.b p
def xh0:ShS:=⟨[.a 3,.s (.row 0),.a 23],[.row (.int .i64) 3 false]⟩
def o0(a:fg)(y:(fi×Unit)×Unit):Alt:=.one (.exit 0) (xh0.b (y.1.1,()))
def tb(c:Nat):List (FuncId×Entry):=[]
def ae9(c:Nat):List (Nat×(St→Option LTE)):=[(0,sumE sh0 fun(p:fg×Int×fi×Unit)=>⟨(fi×Unit)×Unit,l0 c p.1 (c+40) p.2.1 p.2.2.1,o0 p.1⟩)]
def ls(c:Nat):List (Nat×FuncId×Sums):=[(13,265,sumsL (ae9 c))]
def it0{ρ:Type}(c n:Nat)(a:St)(k:KE ρ):Option ρ:=itG anns (ls c) (tb c) c 13 265 0 0 (sumsL (ae9 c)) n a k
theorem t0{ρ:Type}(c n:Nat)(a:fg)(d:Int)(e:fi)(k:KE ρ):it0 c (n+1) (S0 (a,d,e,())) k=r0 c a d e (fun g h=>it0 c n (S0 (a,g,h,())) k) (fun f=>k (.exit 0) (xh0.b (f,()))):=θ
theorem u0{ρ:Type}(c:Nat)(a:fg)(k:KE ρ):∀ (n:Nat) (b:Int) (d:fi),it0 c n (S0 (a,b,d,())) k=bd (l0 c a n b d) fun y=>altK k (o0 a y)
 | 0,_,_=>by rw[l0,bd_none];rfl
 | n+1,b,d=>by
  rw[t0];simp only[l0,r0,u0 c a k n,bd_br,bd_bd,bd_some',bd_none,br_t,br_f,o0,altK]
theorem sl(c:Nat):SL anns (ls c) (tb c) c (ls c):=slC (laC (fun _=>θ) (fun _ (x:fg×Int×fi×Unit) k=>dJ (u0 c x.1 k (c+40) x.2.1 x.2.2.1)) laN) slN
def f(c:Nat)(a:fg):fm fi:=bd (l0 c a (c+40) (i64.wrap ((a.size:Int)-1)) []) fun b=>some (b.1.1,())
def E(c:Nat):Entry:=⟨[.str],[(.sl (.int .i64))],fun x=>f c x.1⟩
theorem ok(c:Nat):Ok 265 (E c):=okL tN (aoC aoN) (sl c) fun x=>θ
end aW
namespace lX
def f(c:Nat)(j:fg)(k:fg):fm Int:=bd (bD.f c j) fun a=>bd (bD.f c k) fun b=>br (a.1 != b.1) (br (decide (a.1 < b.1)) (some ((-1),())) (some (1,()))) (bd (aW.f c j) fun d=>bd (aN.f c d.1) fun e=>bd (aW.f c k) fun g=>bd (aN.f c g.1) fun h=>bd (dh.f c e.1 h.1) fun i=>some ((i64.wrap (a.1*i.1)),()))
def E(c:Nat):Entry:=⟨[.str,.str],[(.int .i64)],fun x=>f c x.1 x.2.1⟩
theorem ok(c:Nat):Ok 162 (E c):=fo c (tC (bD.ok c) (tC (dh.ok c) (tC (aN.ok c) (tC (aW.ok c) tN)))) fun x=>θ
end lX
namespace aK
def f(c:Nat)(a:fg)(b:fg):fm Bool:=bd (lX.f c a b) fun r1=>some ((decide (r1.1 < 0)),())
def E(c:Nat):Entry:=⟨[.str,.str],[.bool],fun x=>f c x.1 x.2.1⟩
theorem ok(c:Nat):Ok 95 (E c):=fo c (tC (lX.ok c) tN) fun x=>θ
end aK
namespace iC
def f(c:Nat)(a:fg)(b:Int):fm Bool:=bd (bH.f c a) fun r1=>some ((decide (r1.1≤b)),())
def E(c:Nat):Entry:=⟨[.str,(.int .i64)],[.bool],fun x=>f c x.1 x.2.1⟩
theorem ok(c:Nat):Ok 266 (E c):=fo c (tC (bH.ok c) tN) fun x=>θ
end iC
namespace bW
def anns:FuncId→FA:=annsL [(267,⟨annOf [(0,⟨kx 30 [0,3,4],[],[]⟩,⟨kx 30 [0,2,3],[],[]⟩)],none,[]⟩)]
def r0{ρ:Type}(c:Nat)(i:Int)(h:fg)(g:Int)(K:fg→Int→Option ρ)(E0:fg→Option ρ):Option ρ:=br (g != 0) (bd (iRem g 10) fun a=>bd (iRem g 10) fun b=>bd (sCut (⟨#[48,49,50,51,52,53,54,55,56,57]⟩:fg) (some (if(i64.wrap (0-b)) > a then(i64.wrap (0-b))else a)) (some (i64.wrap ((if(i64.wrap (0-b)) > a then(i64.wrap (0-b))else a)+1)))) fun d=>bd (sCat d h) fun e=>bd (iQuo .i64 g 10) fun f =>
 K e f) (
 E0 h)
def l0(c:Nat)(a:Int):Nat→fg→Int→Option ((fg×Unit)×Unit)
 | 0,_,_=>none
 | n+1,v1,v2=>r0 c a v1 v2 (l0 c a n) (fun b=>some ((b,()),()))
def sh0:ShS:=⟨[.s (.int .i64),.a 2,.s .str,.s (.int .i64),.a 25],[]⟩
def S0(p:Int×fg×Int×Unit):St:=sh0.b p
def xh0:ShS:=⟨[.s (.int .i64),.a 2,.s .str,.a 26],[]⟩
def o0(a:Int)(y:(fg×Unit)×Unit):Alt:=.one (.exit 0) (xh0.b (a,y.1.1,()))
def tb(c:Nat):List (FuncId×Entry):=[]
def afa(c:Nat):List (Nat×(St→Option LTE)):=[(0,sumE sh0 fun(p:Int×fg×Int×Unit)=>⟨(fg×Unit)×Unit,l0 c p.1 (c+40) p.2.1 p.2.2.1,o0 p.1⟩)]
def ls(c:Nat):List (Nat×FuncId×Sums):=[(13,267,sumsL (afa c))]
def it0{ρ:Type}(c n:Nat)(a:St)(k:KE ρ):Option ρ:=itG anns (ls c) (tb c) c 13 267 0 0 (sumsL (afa c)) n a k
theorem t0{ρ:Type}(c n:Nat)(a:Int)(d:fg)(e:Int)(k:KE ρ):it0 c (n+1) (S0 (a,d,e,())) k=r0 c a d e (fun g h=>it0 c n (S0 (a,g,h,())) k) (fun f=>k (.exit 0) (xh0.b (a,f,()))):=θ
theorem u0{ρ:Type}(c:Nat)(a:Int)(k:KE ρ):∀ (n:Nat) (b:fg) (d:Int),it0 c n (S0 (a,b,d,())) k=bd (l0 c a n b d) fun y=>altK k (o0 a y)
 | 0,_,_=>by rw[l0,bd_none];rfl
 | n+1,b,d=>by
  rw[t0];simp only[l0,r0,u0 c a k n,bd_br,bd_bd,bd_some',bd_none,br_t,br_f,o0,altK]
theorem sl(c:Nat):SL anns (ls c) (tb c) c (ls c):=slC (laC (fun _=>θ) (fun _ (x:Int×fg×Int×Unit) k=>dJ (u0 c x.1 k (c+40) x.2.1 x.2.2.1)) laN) slN
def f(c:Nat)(a:Int):fm fg:=br (a==0) (some ((⟨#[48]⟩:fg),())) (bd (l0 c a (c+40) (⟨#[]⟩:fg) a) fun b=>br (decide (a < 0)) (bd (sCat (⟨#[45]⟩:fg) b.1.1) fun r7=>some (r7,())) (some (b.1.1,())))
def E(c:Nat):Entry:=⟨[(.int .i64)],[.str],fun x=>f c x.1⟩
theorem ok(c:Nat):Ok 267 (E c):=okL tN (aoC aoN) (sl c) fun x=>θ
end bW
end
end Go.Q
namespace Go.Q
open Go Go.RowKit
open Go.Rx (br bd sIdx sCat sCut iQuo iRem iShl)
noncomputable section
namespace eY
def f(c:Nat)(a:fg):fm Int:=bd (lW.f c a) fun r1=>br (r1.1 != 0) (some (r1.1,())) (bd (bH.f c a) fun r2=>br (decide (r2.1 > 100)) (some (10,())) (some (0,())))
def E(c:Nat):Entry:=⟨[.str],[(.int .i64)],fun x=>f c x.1⟩
theorem ok(c:Nat):Ok 161 (E c):=fo c (tC (bH.ok c) (tC (lW.ok c) tN)) fun x=>θ
end eY
end
end Go.Q
namespace Go.Q
open Go.IntKind (i64)
open Go Go.RowKit
open Go.Rx (br bd sIdx sCat sCut iQuo iRem iShl)
noncomputable section
namespace bP
def anns:FuncId→FA:=annsL [(268,⟨annOf [(0,⟨kx 28 [0,3,4],[],[]⟩,⟨kx 28 [0,2,3],[],[]⟩)],none,[]⟩)]
def r0{ρ:Type}(c:Nat)(b:fg)(d a:Int)(K:Int→Int→Option ρ)(E0:Int→Option ρ):Option ρ:=br (decide (a < (b.size:Int))) (bd (sIdx b a) fun r1=>br (((r1.toNat:Nat):Int) != 45) (bd (sIdx b a) fun r2 =>
 K (i64.wrap ((i64.wrap (d*10))+(i64.wrap (IntKind.u8.wrap (((r2.toNat:Nat):Int)-48))))) (i64.wrap (a+1))) (
 K d (i64.wrap (a+1)))) (
 E0 d)
def l0(c:Nat)(a:fg):Nat→Int→Int→Option ((Int×Unit)×Unit)
 | 0,_,_=>none
 | n+1,v1,v2=>r0 c a v1 v2 (l0 c a n) (fun b=>some ((b,()),()))
def sh0:ShS:=⟨[.s .str,.a 2,.s (.int .i64),.s (.int .i64),.a 23],[]⟩
def S0(p:fg×Int×Int×Unit):St:=sh0.b p
def xh0:ShS:=⟨[.s .str,.a 2,.s (.int .i64),.a 24],[]⟩
def o0(a:fg)(y:(Int×Unit)×Unit):Alt:=.one (.exit 0) (xh0.b (a,y.1.1,()))
def tb(c:Nat):List (FuncId×Entry):=[(165,aA.E c)]
def afb(c:Nat):List (Nat×(St→Option LTE)):=[(0,sumE sh0 fun(p:fg×Int×Int×Unit)=>⟨(Int×Unit)×Unit,l0 c p.1 (c+40) p.2.1 p.2.2.1,o0 p.1⟩)]
def ls(c:Nat):List (Nat×FuncId×Sums):=[(13,268,sumsL (afb c))]
def it0{ρ:Type}(c n:Nat)(a:St)(k:KE ρ):Option ρ:=itG anns (ls c) (tb c) c 13 268 0 0 (sumsL (afb c)) n a k
theorem t0{ρ:Type}(c n:Nat)(a:fg)(d e:Int)(k:KE ρ):it0 c (n+1) (S0 (a,d,e,())) k=r0 c a d e (fun g h=>it0 c n (S0 (a,g,h,())) k) (fun f=>k (.exit 0) (xh0.b (a,f,()))):=θ
theorem u0{ρ:Type}(c:Nat)(a:fg)(k:KE ρ):∀ (n:Nat) (b d:Int),it0 c n (S0 (a,b,d,())) k=bd (l0 c a n b d) fun y=>altK k (o0 a y)
 | 0,_,_=>by rw[l0,bd_none];rfl
 | n+1,b,d=>by
  rw[t0];simp only[l0,r0,u0 c a k n,bd_br,bd_bd,bd_some',bd_none,br_t,br_f,o0,altK]
theorem sl(c:Nat):SL anns (ls c) (tb c) c (ls c):=slC (laC (fun _=>θ) (fun _ (x:fg×Int×Int×Unit) k=>dJ (u0 c x.1 k (c+40) x.2.1 x.2.2.1)) laN) slN
def f(c:Nat)(a:fg):fm Int:=bd (l0 c a (c+40) 0 0) fun b=>bd (aA.f c a) fun r4=>br r4.1 (some ((i64.wrap (0-b.1.1)),())) (some (b.1.1,()))
def E(c:Nat):Entry:=⟨[.str],[(.int .i64)],fun x=>f c x.1⟩
theorem ok(c:Nat):Ok 268 (E c):=okL (tC (aA.ok c) tN) (aoC aoN) (sl c) fun x=>θ
end bP
namespace bg
def anns:FuncId→FA:=annsL [(269,⟨annOf [(0,⟨kx 34 [0,5,6],[⟨.tmp 5,(.int .u8),5⟩],[]⟩,⟨kx 34 [4,5],[⟨.tmp 5,(.int .u8),5⟩],[]⟩)],none,[]⟩)]
def r0{ρ:Type}(c:Nat)(e g:fi)(a:Int)(b:fi)(K:Int→fi→Option ρ)(E0:fi→Option ρ):Option ρ:=br (decide (a≥0)) (bd (idxL e a) fun f=>bd (apL true 1 b [(IntKind.u8.wrap (i64.wrap (48+f)))]) fun d =>
 K (i64.wrap (a-1)) d) (
 E0 b)
def l0(c:Nat)(a b:fi):Nat→Int→fi→Option ((fi×Unit)×Unit)
 | 0,_,_=>none
 | n+1,v1,v3=>r0 c a b v1 v3 (l0 c a b n) (fun d=>some ((d,()),()))
def sh0:ShS:=⟨[.s (.sl (.int .i64)),.a 4,.s (.row 2),.s (.int .i64),.a 27],[.row (.int .u8) 5 false,.gone,.row (.int .u8) 5 false]⟩
def S0(p:fi×Int×fi×fi×Unit):St:=sh0.b p
def xh0:ShS:=⟨[.a 5,.s (.row 2),.a 28],[.row (.int .u8) 5 false,.gone,.row (.int .u8) 5 false]⟩
def o0(c a:fi)(y:(fi×Unit)×Unit):Alt:=.one (.exit 0) (xh0.b (a,y.1.1,()))
def r1{ρ:Type}(c:Nat)(e:fi)(a:Int)(b:fi)(K:Int→fi→Option ρ)(E0:fi→Option ρ):Option ρ:=br (decide (a≥0)) (bd (idxL e a) fun f=>bd (apL true 1 b [(IntKind.u8.wrap (i64.wrap (48+f)))]) fun d =>
 K (i64.wrap (a-1)) d) (
 E0 b)
def l1(c:Nat)(a:fi):Nat→Int→fi→Option ((fi×Unit)×Unit)
 | 0,_,_=>none
 | n+1,v1,v2=>r1 c a v1 v2 (l1 c a n) (fun b=>some ((b,()),()))
def sh1:ShS:=⟨[.s (.sl (.int .i64)),.a 4,.s (.row 0),.s (.int .i64),.a 27],[.row (.int .u8) 5 false]⟩
def S1(p:fi×Int×fi×Unit):St:=sh1.b p
def xh1:ShS:=⟨[.a 5,.s (.row 0),.a 28],[.row (.int .u8) 5 false]⟩
def o1(a:fi)(y:(fi×Unit)×Unit):Alt:=.one (.exit 0) (xh1.b (y.1.1,()))
def tb(c:Nat):List (FuncId×Entry):=[(264,aN.E c)]
def acL(c:Nat):List (Nat×(St→Option LTE)):=[(0,sumE sh0 fun(p:fi×Int×fi×fi×Unit)=>⟨(fi×Unit)×Unit,l0 c p.1 p.2.2.1 (c+40) p.2.1 p.2.2.2.1,o0 p.1 p.2.2.1⟩),
 (0,sumE sh1 fun(p:fi×Int×fi×Unit)=>⟨(fi×Unit)×Unit,l1 c p.1 (c+40) p.2.1 p.2.2.1,o1 p.1⟩)]
def ls(c:Nat):List (Nat×FuncId×Sums):=[(13,269,sumsL (acL c))]
def it0{ρ:Type}(c n:Nat)(a:St)(k:KE ρ):Option ρ:=itG anns (ls c) (tb c) c 13 269 0 2 (sumsL (acL c)) n a k
theorem t0{ρ:Type}(c n:Nat)(d:fi)(e:Int)(a f:fi)(k:KE ρ):it0 c (n+1) (S0 (d,e,a,f,())) k=r0 c d a e f (fun h i=>it0 c n (S0 (d,h,a,i,())) k) (fun g=>k (.exit 0) (xh0.b (a,g,()))):=θ
theorem u0{ρ:Type}(c:Nat)(a b:fi)(k:KE ρ):∀ (n:Nat) (d:Int) (e:fi),it0 c n (S0 (a,d,b,e,())) k=bd (l0 c a b n d e) fun y=>altK k (o0 a b y)
 | 0,_,_=>by rw[l0,bd_none];rfl
 | n+1,d,e=>by
  rw[t0];simp only[l0,r0,u0 c a b k n,bd_br,bd_bd,bd_some',bd_none,br_t,br_f,o0,altK]
def it1{ρ:Type}(c n:Nat)(a:St)(k:KE ρ):Option ρ:=itG anns (ls c) (tb c) c 13 269 0 0 (sumsL (acL c)) n a k
theorem t1{ρ:Type}(c n:Nat)(a:fi)(d:Int)(e:fi)(k:KE ρ):it1 c (n+1) (S1 (a,d,e,())) k=r1 c a d e (fun g h=>it1 c n (S1 (a,g,h,())) k) (fun f=>k (.exit 0) (xh1.b (f,()))):=θ
theorem u1{ρ:Type}(c:Nat)(a:fi)(k:KE ρ):∀ (n:Nat) (b:Int) (d:fi),it1 c n (S1 (a,b,d,())) k=bd (l1 c a n b d) fun y=>altK k (o1 a y)
 | 0,_,_=>by rw[l1,bd_none];rfl
 | n+1,b,d=>by
  rw[t1];simp only[l1,r1,u1 c a k n,bd_br,bd_bd,bd_some',bd_none,br_t,br_f,o1,altK]
theorem sl(c:Nat):SL anns (ls c) (tb c) c (ls c):=slC (laC (fun _=>θ) (fun _ (x:fi×Int×fi×fi×Unit) k=>dJ (u0 c x.1 x.2.2.1 k (c+40) x.2.1 x.2.2.2.1)) (laC (fun _=>θ) (fun _ (x:fi×Int×fi×Unit) k=>dJ (u1 c x.1 k (c+40) x.2.1 x.2.2.1)) laN)) slN
def f(c:Nat)(g:fi)(h:Bool):fm fg:=bd (aN.f c g) fun a=>br ((a.1.length:Int)==0) (some ((⟨#[48]⟩:fg),())) (br h (bd (apL true 1 [] [45]) fun b=>bd (l0 c a.1 [45] (c+40) (i64.wrap ((a.1.length:Int)-1)) b) fun d=>bd (if true=true then some (bytesS d.1.1)else none) fun e=>some (e,())) (bd (l1 c a.1 (c+40) (i64.wrap ((a.1.length:Int)-1)) []) fun b=>bd (if true=true then some (bytesS b.1.1)else none) fun d=>some (d,())))
def E(c:Nat):Entry:=⟨[(.sl (.int .i64)),.bool],[.str],fun x=>f c x.1 x.2.1⟩
theorem ok(c:Nat):Ok 269 (E c):=okL (tC (aN.ok c) tN) (aoC aoN) (sl c) fun x=>θ
end bg
namespace iZ
def f(c:Nat)(a:fi)(b:Int):fm Int:=br (decide (b < (a.length:Int))) (bd (idxL a b) fun d=>some (d,())) (some (0,()))
def E(c:Nat):Entry:=⟨[(.sl (.int .i64)),(.int .i64)],[(.int .i64)],fun x=>f c x.1 x.2.1⟩
theorem ok(c:Nat):Ok 320 (E c):=fo c tN fun x=>θ
end iZ
namespace fE
def anns:FuncId→FA:=annsL [(270,⟨annOf [(0,⟨kx 36 [0,1,5,6,7],[⟨.tmp 5,(.int .i64),3⟩],[]⟩,⟨kx 36 [4,5],[⟨.tmp 5,(.int .i64),3⟩],[]⟩)],none,[]⟩)]
def r0{ρ:Type}(c:Nat)(i j:fi)(k h:Int)(l:fi)(K:Int→Int→fi→Option ρ)(E0:fi→Option ρ):Option ρ:=br (decide (h < (i64.wrap ((if(j.length:Int) >(i.length:Int)then(j.length:Int)else(i.length:Int))+1)))) (bd (iZ.f c i h) fun a=>bd (iZ.f c j h) fun b=>bd (iRem (i64.wrap (k+(i64.wrap (a.1+b.1)))) 10) fun d=>bd (apL true 8 l [d]) fun e=>bd (iQuo .i64 (i64.wrap (k+(i64.wrap (a.1+b.1)))) 10) fun g =>
 K g (i64.wrap (h+1)) e) (
 E0 l)
def l0(c:Nat)(a b:fi):Nat→Int→Int→fi→Option ((fi×Unit)×Unit)
 | 0,_,_,_=>none
 | n+1,v2,v3,v4=>r0 c a b v2 v3 v4 (l0 c a b n) (fun d=>some ((d,()),()))
def sh0:ShS:=⟨[.s (.sl (.int .i64)),.s (.sl (.int .i64)),.a 3,.s (.row 0),.s (.int .i64),.s (.int .i64),.a 28],[.row (.int .i64) 3 false]⟩
def S0(p:fi×fi×Int×Int×fi×Unit):St:=sh0.b p
def xh0:ShS:=⟨[.a 5,.s (.row 0),.a 30],[.row (.int .i64) 3 false]⟩
def o0(a c:fi)(y:(fi×Unit)×Unit):Alt:=.one (.exit 0) (xh0.b (y.1.1,()))
def tb(c:Nat):List (FuncId×Entry):=[(264,aN.E c),(320,iZ.E c)]
def afc(c:Nat):List (Nat×(St→Option LTE)):=[(0,sumE sh0 fun(p:fi×fi×Int×Int×fi×Unit)=>⟨(fi×Unit)×Unit,l0 c p.1 p.2.1 (c+40) p.2.2.1 p.2.2.2.1 p.2.2.2.2.1,o0 p.1 p.2.1⟩)]
def ls(c:Nat):List (Nat×FuncId×Sums):=[(13,270,sumsL (afc c))]
def it0{ρ:Type}(c n:Nat)(a:St)(k:KE ρ):Option ρ:=itG anns (ls c) (tb c) c 13 270 0 0 (sumsL (afc c)) n a k
theorem t0{ρ:Type}(c n:Nat)(a d:fi)(e f:Int)(g:fi)(k:KE ρ):it0 c (n+1) (S0 (a,d,e,f,g,())) k=r0 c a d e f g (fun i j l=>it0 c n (S0 (a,d,i,j,l,())) k) (fun h=>k (.exit 0) (xh0.b (h,()))):=θ
theorem u0{ρ:Type}(c:Nat)(a b:fi)(k:KE ρ):∀ (n:Nat) (d e:Int) (f:fi),it0 c n (S0 (a,b,d,e,f,())) k=bd (l0 c a b n d e f) fun y=>altK k (o0 a b y)
 | 0,_,_,_=>by rw[l0,bd_none];rfl
 | n+1,d,e,f=>by
  rw[t0];simp only[l0,r0,u0 c a b k n,bd_br,bd_bd,bd_some',bd_none,br_t,br_f,o0,altK]
theorem sl(c:Nat):SL anns (ls c) (tb c) c (ls c):=slC (laC (fun _=>θ) (fun _ (x:fi×fi×Int×Int×fi×Unit) k=>dJ (u0 c x.1 x.2.1 k (c+40) x.2.2.1 x.2.2.2.1 x.2.2.2.2.1)) laN) slN
def f(c:Nat)(a:fi)(b:fi):fm fi:=bd (l0 c a b (c+40) 0 0 []) fun d=>bd (aN.f c d.1.1) fun r7=>some (r7.1,())
def E(c:Nat):Entry:=⟨[(.sl (.int .i64)),(.sl (.int .i64))],[(.sl (.int .i64))],fun x=>f c x.1 x.2.1⟩
theorem ok(c:Nat):Ok 270 (E c):=okL (tC (aN.ok c) (tC (iZ.ok c) tN)) (aoC aoN) (sl c) fun x=>θ
end fE
namespace bY
def anns:FuncId→FA:=annsL [(271,⟨annOf [(0,⟨kx 35 [0,1,5,6,7],[⟨.tmp 5,(.int .i64),3⟩],[]⟩,⟨kx 35 [4,5],[⟨.tmp 5,(.int .i64),3⟩],[]⟩)],none,[]⟩)]
def r0{ρ:Type}(c:Nat)(i j:fi)(g e:Int)(h:fi)(K:Int→Int→fi→Option ρ)(E0:fi→Option ρ):Option ρ:=br (decide (e < (i.length:Int))) (bd (idxL i e) fun a=>bd (iZ.f c j e) fun b=>br (decide ((i64.wrap ((i64.wrap (a-b.1))-g)) < 0)) (bd (apL true 8 h [(i64.wrap ((i64.wrap ((i64.wrap (a-b.1))-g))+10))]) fun d =>
 K 1 (i64.wrap (e+1)) d) (bd (apL true 8 h [(i64.wrap ((i64.wrap (a-b.1))-g))]) fun d =>
 K 0 (i64.wrap (e+1)) d)) (
 E0 h)
def l0(c:Nat)(a b:fi):Nat→Int→Int→fi→Option ((fi×Unit)×Unit)
 | 0,_,_,_=>none
 | n+1,v2,v3,v4=>r0 c a b v2 v3 v4 (l0 c a b n) (fun d=>some ((d,()),()))
def sh0:ShS:=⟨[.s (.sl (.int .i64)),.s (.sl (.int .i64)),.a 3,.s (.row 0),.s (.int .i64),.s (.int .i64),.a 27],[.row (.int .i64) 3 false]⟩
def S0(p:fi×fi×Int×Int×fi×Unit):St:=sh0.b p
def xh0:ShS:=⟨[.a 5,.s (.row 0),.a 29],[.row (.int .i64) 3 false]⟩
def o0(a c:fi)(y:(fi×Unit)×Unit):Alt:=.one (.exit 0) (xh0.b (y.1.1,()))
def tb(c:Nat):List (FuncId×Entry):=[(264,aN.E c),(320,iZ.E c)]
def afd(c:Nat):List (Nat×(St→Option LTE)):=[(0,sumE sh0 fun(p:fi×fi×Int×Int×fi×Unit)=>⟨(fi×Unit)×Unit,l0 c p.1 p.2.1 (c+40) p.2.2.1 p.2.2.2.1 p.2.2.2.2.1,o0 p.1 p.2.1⟩)]
def ls(c:Nat):List (Nat×FuncId×Sums):=[(13,271,sumsL (afd c))]
def it0{ρ:Type}(c n:Nat)(a:St)(k:KE ρ):Option ρ:=itG anns (ls c) (tb c) c 13 271 0 0 (sumsL (afd c)) n a k
theorem t0{ρ:Type}(c n:Nat)(a d:fi)(e f:Int)(g:fi)(k:KE ρ):it0 c (n+1) (S0 (a,d,e,f,g,())) k=r0 c a d e f g (fun i j l=>it0 c n (S0 (a,d,i,j,l,())) k) (fun h=>k (.exit 0) (xh0.b (h,()))):=θ
theorem u0{ρ:Type}(c:Nat)(a b:fi)(k:KE ρ):∀ (n:Nat) (d e:Int) (f:fi),it0 c n (S0 (a,b,d,e,f,())) k=bd (l0 c a b n d e f) fun y=>altK k (o0 a b y)
 | 0,_,_,_=>by rw[l0,bd_none];rfl
 | n+1,d,e,f=>by
  rw[t0];simp only[l0,r0,u0 c a b k n,bd_br,bd_bd,bd_some',bd_none,br_t,br_f,o0,altK]
theorem sl(c:Nat):SL anns (ls c) (tb c) c (ls c):=slC (laC (fun _=>θ) (fun _ (x:fi×fi×Int×Int×fi×Unit) k=>dJ (u0 c x.1 x.2.1 k (c+40) x.2.2.1 x.2.2.2.1 x.2.2.2.2.1)) laN) slN
def f(c:Nat)(a:fi)(b:fi):fm fi:=bd (l0 c a b (c+40) 0 0 []) fun d=>bd (aN.f c d.1.1) fun r6=>some (r6.1,())
def E(c:Nat):Entry:=⟨[(.sl (.int .i64)),(.sl (.int .i64))],[(.sl (.int .i64))],fun x=>f c x.1 x.2.1⟩
theorem ok(c:Nat):Ok 271 (E c):=okL (tC (aN.ok c) (tC (iZ.ok c) tN)) (aoC aoN) (sl c) fun x=>θ
end bY
namespace dD
def f(c:Nat)(o:fg)(p:fg):fm fg:=bd (iC.f c o 17) fun a=>br a.1 (bd (iC.f c p 17) fun b=>br b.1 (bd (bP.f c o) fun d=>bd (bP.f c p) fun e=>bd (bW.f c (i64.wrap (d.1+e.1))) fun g=>some (g.1,())) (bd (aW.f c o) fun d=>bd (aW.f c p) fun e=>bd (aA.f c o) fun g=>bd (aA.f c p) fun h=>br (g.1==h.1) (bd (fE.f c d.1 e.1) fun i=>bd (aA.f c o) fun j=>bd (bg.f c i.1 j.1) fun k=>some (k.1,())) (bd (aN.f c d.1) fun i=>bd (aN.f c e.1) fun j=>bd (dh.f c i.1 j.1) fun k=>br (decide (k.1≥0)) (bd (bY.f c d.1 e.1) fun l=>bd (aA.f c o) fun m=>bd (bg.f c l.1 m.1) fun n=>some (n.1,())) (bd (bY.f c e.1 d.1) fun l=>bd (aA.f c p) fun m=>bd (bg.f c l.1 m.1) fun n=>some (n.1,()))))) (bd (aW.f c o) fun b=>bd (aW.f c p) fun d=>bd (aA.f c o) fun e=>bd (aA.f c p) fun g=>br (e.1==g.1) (bd (fE.f c b.1 d.1) fun h=>bd (aA.f c o) fun i=>bd (bg.f c h.1 i.1) fun j=>some (j.1,())) (bd (aN.f c b.1) fun h=>bd (aN.f c d.1) fun i=>bd (dh.f c h.1 i.1) fun j=>br (decide (j.1≥0)) (bd (bY.f c b.1 d.1) fun k=>bd (aA.f c o) fun l=>bd (bg.f c k.1 l.1) fun m=>some (m.1,())) (bd (bY.f c d.1 b.1) fun k=>bd (aA.f c p) fun l=>bd (bg.f c k.1 l.1) fun m=>some (m.1,()))))
def E(c:Nat):Entry:=⟨[.str,.str],[.str],fun x=>f c x.1 x.2.1⟩
theorem ok(c:Nat):Ok 168 (E c):=fo c (tC (aA.ok c) (tC (dh.ok c) (tC (aN.ok c) (tC (aW.ok c) (tC (iC.ok c) (tC (bW.ok c) (tC (bP.ok c) (tC (bg.ok c) (tC (fE.ok c) (tC (bY.ok c) tN)))))))))) fun x=>θ
end dD
namespace aZ
def f(c:Nat)(d:fg):fm fg:=br (d.toList==(⟨#[48]⟩:fg).toList) (some (d,())) (bd (aA.f c d) fun a=>br a.1 (bd (sCut d (some 1) none) fun b=>some (b,())) (bd (sCat (⟨#[45]⟩:fg) d) fun b=>some (b,())))
def E(c:Nat):Entry:=⟨[.str],[.str],fun x=>f c x.1⟩
theorem ok(c:Nat):Ok 171 (E c):=fo c (tC (aA.ok c) tN) fun x=>θ
end aZ
namespace aU
def f(c:Nat)(a:fg)(b:fg):fm fg:=bd (aZ.f c b) fun r1=>bd (dD.f c a r1.1) fun r2=>some (r2.1,())
def E(c:Nat):Entry:=⟨[.str,.str],[.str],fun x=>f c x.1 x.2.1⟩
theorem ok(c:Nat):Ok 170 (E c):=fo c (tC (dD.ok c) (tC (aZ.ok c) tN)) fun x=>θ
end aU
end
end Go.Q
