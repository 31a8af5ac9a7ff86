import Derived.Test.YtnjnggbibpnkbaaGreatDoorEIE3
set_option linter.all false
set_option maxRecDepth 100000
namespace Go.Q
open Go Go.RowKit
open Go.Rx (br bd sIdx sCat sCut iQuo iRem iShl)
noncomputable section
namespace stringslite_HasPrefix
def f(c:Nat)(b:fg)(a:fg):fm Bool:=br (decide ((b.size:Int)≥(a.size:Int))) (bd (sCut b none (some (a.size:Int))) fun r1=>some ((r1.toList==a.toList),())) (some (false,()))
def E(c:Nat):Entry:=⟨[.str,.str],[.bool],fun x=>f c x.1 x.2.1⟩
theorem ok(c:Nat):Ok 343 (E c):=fo c tN fun x=>θ
end stringslite_HasPrefix
namespace stringslite_CutPrefix
def f(c:Nat)(a:fg)(b:fg):Option (fg×Bool×Unit):=bd (stringslite_HasPrefix.f c a b) fun r1=>br (!r1.1) (some (a,false,())) (bd (sCut a (some (b.size:Int)) none) fun r2=>some (r2,true,()))
def E(c:Nat):Entry:=⟨[.str,.str],[.str,.bool],fun x=>f c x.1 x.2.1⟩
theorem ok(c:Nat):Ok 335 (E c):=fo c (tC (stringslite_HasPrefix.ok c) tN) fun x=>θ
end stringslite_CutPrefix
namespace stringslite_TrimPrefix
def f(c:Nat)(a:fg)(b:fg):fm fg:=bd (stringslite_HasPrefix.f c a b) fun r1=>br r1.1 (bd (sCut a (some (b.size:Int)) none) fun r2=>some (r2,())) (some (a,()))
def E(c:Nat):Entry:=⟨[.str,.str],[.str],fun x=>f c x.1 x.2.1⟩
theorem ok(c:Nat):Ok 316 (E c):=fo c (tC (stringslite_HasPrefix.ok c) tN) fun x=>θ
end stringslite_TrimPrefix
end
end Go.Q
namespace Go.Q
open Go Go.RowKit
open Go.Rx (br bd sIdx sCat sCut iQuo iRem iShl)
noncomputable section
namespace strings_CutPrefix
def f(c:Nat)(a:fg)(b:fg):Option (fg×Bool×Unit):=bd (stringslite_CutPrefix.f c a b) fun r1=>some (r1.1,r1.2.1,())
def E(c:Nat):Entry:=⟨[.str,.str],[.str,.bool],fun x=>f c x.1 x.2.1⟩
theorem ok(c:Nat):Ok 314 (E c):=fo c (tC (stringslite_CutPrefix.ok c) tN) fun x=>θ
end strings_CutPrefix
namespace strings_TrimPrefix
def f(c:Nat)(a:fg)(b:fg):fm fg:=bd (stringslite_TrimPrefix.f c a b) fun r1=>some (r1.1,())
def E(c:Nat):Entry:=⟨[.str,.str],[.str],fun x=>f c x.1 x.2.1⟩
theorem ok(c:Nat):Ok 237 (E c):=fo c (tC (stringslite_TrimPrefix.ok c) tN) fun x=>θ
end strings_TrimPrefix
end
end Go.Q
namespace Go.Q
open Go.IntKind (i64)
open Go Go.RowKit
open Go.Rx (br bd sIdx sCat sCut iQuo iRem iShl)
noncomputable section
namespace oC
def f(c:Nat)(e:fg):fm Bool:=bd (strings_CutPrefix.f c e (⟨#[45]⟩:fg)) fun a=>br (a.1.toList==(⟨#[48]⟩:fg).toList) (some ((!a.2.1),())) (br (!(a.1.toList==(⟨#[]⟩:fg).toList)) (bd (sIdx a.1 0) fun b=>br (((b.toNat:Nat):Int) != 48) (bd (B.Trim.f c a.1 (⟨#[48,49,50,51,52,53,54,55,56,57]⟩:fg)) fun d=>some ((d.1.toList==(⟨#[]⟩:fg).toList),())) (some (false,()))) (some (false,())))
def E(c:Nat):Entry:=⟨[.str],[.bool],fun x=>f c x.1⟩
theorem ok(c:Nat):Ok 235 (E c):=fo c (tC (strings_CutPrefix.ok c) (tC (B.Trim.ok c) tN)) fun x=>θ
end oC
namespace qW
def f(c:Nat)(a:fg):fm Int:=bd (strings_TrimPrefix.f c a (⟨#[45]⟩:fg)) fun r1=>some ((r1.1.size:Int),())
def E(c:Nat):Entry:=⟨[.str],[(.int .i64)],fun x=>f c x.1⟩
theorem ok(c:Nat):Ok 236 (E c):=fo c (tC (strings_TrimPrefix.ok c) tN) fun x=>θ
end qW
namespace dF
def f(c:Nat)(a:fg):fm Int:=bd (oC.f c a) fun r1=>br (!r1.1) (some (3,())) (bd (qW.f c a) fun r2=>br (decide (r2.1 > 4096)) (some (10,())) (some (0,())))
def E(c:Nat):Entry:=⟨[.str],[(.int .i64)],fun x=>f c x.1⟩
theorem ok(c:Nat):Ok 135 (E c):=fo c (tC (oC.ok c) (tC (qW.ok c) tN)) fun x=>θ
end dF
namespace bM
def anns:FuncId→FA:=annsL [(333,⟨annOf [(0,⟨kx 21 [0],[],[]⟩,⟨kx 21 [0,2],[],[]⟩)],none,[]⟩)]
def r0{ρ:Type}(c:Nat)(a:fi)(K:fi→Option ρ)(E0:fi→Option ρ):Option ρ:=br (decide ((a.length:Int) > 0)) (bd (idxL a (i64.wrap ((a.length:Int)-1))) fun d=>br (d==0) (bd (cutL a none (some (i64.wrap ((a.length:Int)-1)))) fun b =>
 K b) (
 E0 a)) (
 E0 a)
def l0(c:Nat):Nat→fi→Option ((fi×Unit)×Unit)
 | 0,_=>none
 | n+1,v0=>r0 c v0 (l0 c n) (fun a=>some ((a,()),()))
def sh0:ShS:=⟨[.s (.sl (.int .i64)),.a 20],[]⟩
def S0(p:fi×Unit):St:=sh0.b p
def xh0:ShS:=⟨[.s (.sl (.int .i64)),.a 20],[]⟩
def o0(y:(fi×Unit)×Unit):Alt:=.one (.exit 0) (xh0.b (y.1.1,()))
def tb(c:Nat):List (FuncId×Entry):=[]
def afh(c:Nat):List (Nat×(St→Option LTE)):=[(0,sumE sh0 fun(p:fi×Unit)=>⟨(fi×Unit)×Unit,l0 c (c+40) p.1,o0⟩)]
def ls(c:Nat):List (Nat×FuncId×Sums):=[(13,333,sumsL (afh c))]
def it0{ρ:Type}(c n:Nat)(a:St)(k:KE ρ):Option ρ:=itG anns (ls c) (tb c) c 13 333 0 0 (sumsL (afh c)) n a k
theorem t0{ρ:Type}(c n:Nat)(a:fi)(k:KE ρ):it0 c (n+1) (S0 (a,())) k=r0 c a (fun e=>it0 c n (S0 (e,())) k) (fun d=>k (.exit 0) (xh0.b (d,()))):=θ
theorem u0{ρ:Type}(c:Nat)(k:KE ρ):∀ (n:Nat) (a:fi),it0 c n (S0 (a,())) k=bd (l0 c n a) fun y=>altK k (o0 y)
 | 0,_=>by rw[l0,bd_none];rfl
 | n+1,a=>by
  rw[t0];simp only[l0,r0,u0 c k n,bd_br,bd_bd,bd_some',bd_none,br_t,br_f,o0,altK]
theorem sl(c:Nat):SL anns (ls c) (tb c) c (ls c):=slC (laC (fun _=>θ) (fun _ (x:fi×Unit) k=>dJ (u0 c k (c+40) x.1)) laN) slN
def f(c:Nat)(a:fi):fm fi:=bd (l0 c (c+40) a) fun b=>some (b.1.1,())
def E(c:Nat):Entry:=⟨[(.sl (.int .i64))],[(.sl (.int .i64))],fun x=>f c x.1⟩
theorem ok(c:Nat):Ok 333 (E c):=okL tN (aoC aoN) (sl c) fun x=>θ
end bM
namespace jR
def anns:FuncId→FA:=annsL [(361,⟨annOf [(0,⟨kx 13 [2],[],[]⟩,⟨[],[],[]⟩)],none,[]⟩),(362,⟨annOf [(0,⟨kx 26 [0,1,3],[⟨.ref 2 0,(.int .i64),3⟩],[]⟩,⟨kx 26 [],[⟨.ref 2 0,(.int .i64),3⟩],[]⟩)],none,[]⟩)]
def r0{ρ:Type}(c:Nat)(i:Bool)(h:fg)(e:Int)(g:fi)(K:Int→fi→Option ρ)(E0:fi→Option ρ):Option ρ:=br (decide (e > 0)) (bd (sCut h (some (if(i64.wrap (e-9)) > 0 then(i64.wrap (e-9))else 0)) (some e)) fun a=>bd (B.Atoi.f c a) fun b=>bd (apL true 8 g [b.1]) fun d =>
 K (i64.wrap (e-9)) d) (
 E0 g)
def l0(c:Nat)(a:Bool)(b:fg):Nat→Int→fi→Option ((fi×Unit)×Unit)
 | 0,_,_=>none
 | n+1,v0,v3=>r0 c a b v0 v3 (l0 c a b n) (fun d=>some ((d,()),()))
def sh0:ShS:=⟨[.s (.yld 3),.s (.ptr 1 0),.a 1,.s (.int .i64),.a 22],[.cells [.s .bool,.s .nil] 217,.cells [.s .str] 9,.cells [.s (.row 4)] 215,.rnd [.a 2,.s (.ptr 2 0),.a 10] 361 0 .ready none,.row (.int .i64) 3 false]⟩
def S0(p:Int×Bool×fg×fi×Unit):St:=sh0.b p
def xh0:ShS:=⟨[.a 26],[.cells [.s .bool,.s .nil] 217,.cells [.s .str] 9,.cells [.s (.row 4)] 215,.rnd [.a 2,.s (.ptr 2 0),.a 10] 361 0 .ready none,.row (.int .i64) 3 false]⟩
def o0(a:Bool)(c:fg)(y:(fi×Unit)×Unit):Alt:=.one (.exit 0) (xh0.b (a,c,y.1.1,()))
def tb(c:Nat):List (FuncId×Entry):=[(314,strings_CutPrefix.E c),(333,bM.E c),(363,B.Atoi.E c)]
def ae3(c:Nat):List (Nat×(St→Option LTE)):=[(0,sumE sh0 fun(p:Int×Bool×fg×fi×Unit)=>⟨(fi×Unit)×Unit,l0 c p.2.1 p.2.2.1 (c+40) p.1 p.2.2.2.1,o0 p.2.1 p.2.2.1⟩)]
def ls(c:Nat):List (Nat×FuncId×Sums):=[(10,362,sumsL (ae3 c))]
def it0{ρ:Type}(c n:Nat)(a:St)(k:KE ρ):Option ρ:=itG anns (ls c) (tb c) c 10 362 0 4 (sumsL (ae3 c)) n a k
theorem t0{ρ:Type}(c n:Nat)(e:Int)(a:Bool)(d:fg)(f:fi)(k:KE ρ):it0 c (n+1) (S0 (e,a,d,f,())) k=r0 c a d e f (fun h i=>it0 c n (S0 (h,a,d,i,())) k) (fun g=>k (.exit 0) (xh0.b (a,d,g,()))):=θ
theorem u0{ρ:Type}(c:Nat)(a:Bool)(b:fg)(k:KE ρ):∀ (n:Nat) (d:Int) (e:fi),it0 c n (S0 (d,a,b,e,())) k=bd (l0 c a b n d e) fun y=>altK k (o0 a b y)
 | 0,_,_=>by rw[l0,bd_none];rfl
 | n+1,d,e=>by
  rw[t0];simp only[l0,r0,u0 c a b k n,bd_br,bd_bd,bd_some',bd_none,br_t,br_f,o0,altK]
theorem sl(c:Nat):SL anns (ls c) (tb c) c (ls c):=slC (laC (fun _=>θ) (fun _ (x:Int×Bool×fg×fi×Unit) k=>dJ (u0 c x.2.1 x.2.2.1 k (c+40) x.1 x.2.2.2.1)) laN) slN
def f(c:Nat)(e:fg):fm TB:=bd (strings_CutPrefix.f c e (⟨#[45]⟩:fg)) fun a=>bd (l0 c false a.1 (c+40) (a.1.size:Int) []) fun b=>bd (bM.f c b.1.1) fun d=>some ((a.2.1,d.1,()),())
def E(c:Nat):Entry:=⟨[.str],[yB],fun x=>f c x.1⟩
theorem ok(c:Nat):Ok 317 (E c):=okL (tC (strings_CutPrefix.ok c) (tC (bM.ok c) (tC (B.Atoi.ok c) tN))) (aoC (aoC aoN)) (sl c) fun x=>θ
end jR
namespace fZ
def f(c:Nat)(g:fg)(h:fg):Option (TB×TB×Int×Unit):=bd (dF.f c g) fun a=>br (a.1 != 0) (some ((false,[],()),(false,[],()),a.1,())) (bd (dF.f c h) fun b=>br (b.1 != 0) (some ((false,[],()),(false,[],()),b.1,())) (bd (jR.f c g) fun d=>bd (jR.f c h) fun e=>some (d.1,e.1,0,())))
def E(c:Nat):Entry:=⟨[.str,.str],[yB,yB,(.int .i64)],fun x=>f c x.1 x.2.1⟩
theorem ok(c:Nat):Ok 249 (E c):=fo c (tC (dF.ok c) (tC (jR.ok c) tN)) fun x=>θ
end fZ
namespace oO
def f(c:Nat)(a:TB):fm Int:=br ((a.2.1.length:Int)==0) (some (0,())) (br a.1 (some ((-1),())) (some (1,())))
def E(c:Nat):Entry:=⟨[yB],[(.int .i64)],fun x=>f c x.1⟩
theorem ok(c:Nat):Ok 250 (E c):=fo c tN fun x=>θ
end oO
namespace jH
def anns:FuncId→FA:=annsL [(329,⟨annOf [(0,⟨kx 54 [0,1,5,6,20,21],[],[]⟩,⟨kx 54 [4,5],[],[]⟩)],none,[]⟩)]
def r0{ρ:Type}(c:Nat)(l k:fi)(m:Int)(j h:Int)(i:fi)(K:Int→Int→fi→Option ρ)(E0:fi→Option ρ):Option ρ:=br (decide (h < m)) (br (decide (h < (l.length:Int))) (bd (idxL l h) fun a=>br (decide (h < (k.length:Int))) (bd (idxL k h) fun b=>bd (iRem (i64.wrap ((i64.wrap (j+a))+b)) 1000000000) fun d=>bd (iQuo .i64 (i64.wrap ((i64.wrap (j+a))+b)) 1000000000) fun e=>bd (idxB i.length h) fun f=>bd (upE i f fun _=>some d) fun g =>
 K e (i64.wrap (h+1)) g) (bd (iRem (i64.wrap (j+a)) 1000000000) fun b=>bd (iQuo .i64 (i64.wrap (j+a)) 1000000000) fun d=>bd (idxB i.length h) fun e=>bd (upE i e fun _=>some b) fun f =>
 K d (i64.wrap (h+1)) f)) (br (decide (h < (k.length:Int))) (bd (idxL k h) fun a=>bd (iRem (i64.wrap (j+a)) 1000000000) fun b=>bd (iQuo .i64 (i64.wrap (j+a)) 1000000000) fun d=>bd (idxB i.length h) fun e=>bd (upE i e fun _=>some b) fun f =>
 K d (i64.wrap (h+1)) f) (bd (iRem j 1000000000) fun a=>bd (iQuo .i64 j 1000000000) fun b=>bd (idxB i.length h) fun d=>bd (upE i d fun _=>some a) fun e =>
 K b (i64.wrap (h+1)) e))) (
 E0 i)
def l0(c:Nat)(a b:fi)(d:Int):Nat→Int→Int→fi→Option ((fi×Unit)×Unit)
 | 0,_,_,_=>none
 | n+1,v2,v4,v5=>r0 c a b d v2 v4 v5 (l0 c a b d n) (fun e=>some ((e,()),()))
def sh0:ShS:=⟨[.s (.sl (.int .i64)),.s (.sl (.int .i64)),.a 3,.s (.row 0),.s (.int .i64),.a 13,.s (.int .i64),.s (.int .i64),.a 32],[.row (.int .i64) 3 false]⟩
def S0(p:fi×fi×Int×Int×Int×fi×Unit):St:=sh0.b p
def xh0:ShS:=⟨[.a 5,.s (.row 0),.a 48],[.row (.int .i64) 3 false]⟩
def o0(a c:fi)(d:Int)(y:(fi×Unit)×Unit):Alt:=.one (.exit 0) (xh0.b (y.1.1,()))
def tb(c:Nat):List (FuncId×Entry):=[(333,bM.E c)]
def aff(c:Nat):List (Nat×(St→Option LTE)):=[(0,sumE sh0 fun(p:fi×fi×Int×Int×Int×fi×Unit)=>⟨(fi×Unit)×Unit,l0 c p.1 p.2.1 p.2.2.2.1 (c+40) p.2.2.1 p.2.2.2.2.1 p.2.2.2.2.2.1,o0 p.1 p.2.1 p.2.2.2.1⟩)]
def ls(c:Nat):List (Nat×FuncId×Sums):=[(13,329,sumsL (aff c))]
def it0{ρ:Type}(c n:Nat)(a:St)(k:KE ρ):Option ρ:=itG anns (ls c) (tb c) c 13 329 0 1 (sumsL (aff c)) n a k
theorem t0{ρ:Type}(c n:Nat)(a d:fi)(f e g:Int)(h:fi)(k:KE ρ):it0 c (n+1) (S0 (a,d,f,e,g,h,())) k=r0 c a d e f g h (fun j l m=>it0 c n (S0 (a,d,j,e,l,m,())) k) (fun i=>k (.exit 0) (xh0.b (i,()))):=θ
theorem u0{ρ:Type}(c:Nat)(a b:fi)(d:Int)(k:KE ρ):∀ (n:Nat) (e f:Int) (g:fi),it0 c n (S0 (a,b,e,d,f,g,())) k=bd (l0 c a b d n e f g) fun y=>altK k (o0 a b d y)
 | 0,_,_,_=>by rw[l0,bd_none];rfl
 | n+1,e,f,g=>by
  rw[t0];simp only[l0,r0,u0 c a b d k n,bd_br,bd_bd,bd_some',bd_none,br_t,br_f,o0,altK]
theorem sl(c:Nat):SL anns (ls c) (tb c) c (ls c):=slC (laC (fun _=>θ) (fun _ (x:fi×fi×Int×Int×Int×fi×Unit) k=>dJ (u0 c x.1 x.2.1 x.2.2.2.1 k (c+40) x.2.2.1 x.2.2.2.2.1 x.2.2.2.2.2.1)) laN) slN
def f(c:Nat)(e:fi)(g:fi):fm fi:=br (decide ((e.length:Int) < (g.length:Int))) (bd (mkL (i64.wrap ((g.length:Int)+1)) (i64.wrap ((g.length:Int)+1)) 8 0) fun a=>bd (l0 c g e (a.length:Int) (c+40) 0 0 a) fun b=>bd (bM.f c b.1.1) fun d=>some (d.1,())) (bd (mkL (i64.wrap ((e.length:Int)+1)) (i64.wrap ((e.length:Int)+1)) 8 0) fun a=>bd (l0 c e g (a.length:Int) (c+40) 0 0 a) fun b=>bd (bM.f c b.1.1) fun d=>some (d.1,()))
def E(c:Nat):Entry:=⟨[(.sl (.int .i64)),(.sl (.int .i64))],[(.sl (.int .i64))],fun x=>f c x.1 x.2.1⟩
theorem ok(c:Nat):Ok 329 (E c):=okL (tC (bM.ok c) tN) (aoC aoN) (sl c) fun x=>θ
end jH
namespace nU
def f(c:Nat)(a:TB)(b:TB):fm Bool:=some (a.1,())
def E(c:Nat):Entry:=⟨[yB,yB],[.bool],fun x=>f c x.1 x.2.1⟩
theorem ok(c:Nat):Ok 346 (E c):=fo c tN fun x=>θ
end nU
namespace iq
def anns:FuncId→FA:=annsL [(330,⟨annOf [(0,⟨kx 44 [0,1,5,6,13,14],[],[]⟩,⟨kx 44 [4,5],[],[]⟩)],none,[]⟩)]
def r0{ρ:Type}(c:Nat)(j i:fi)(k:Int)(h f:Int)(g:fi)(K:Int→Int→fi→Option ρ)(E0:fi→Option ρ):Option ρ:=br (decide (f < k)) (bd (idxL j f) fun a=>br (decide (f < (i.length:Int))) (bd (idxL i f) fun b=>br (decide ((i64.wrap ((i64.wrap (a-h))-b)) < 0)) (bd (idxB g.length f) fun d=>bd (upE g d fun _=>some (i64.wrap ((i64.wrap ((i64.wrap (a-h))-b))+1000000000))) fun e =>
 K 1 (i64.wrap (f+1)) e) (bd (idxB g.length f) fun d=>bd (upE g d fun _=>some (i64.wrap ((i64.wrap (a-h))-b))) fun e =>
 K 0 (i64.wrap (f+1)) e)) (br (decide ((i64.wrap (a-h)) < 0)) (bd (idxB g.length f) fun b=>bd (upE g b fun _=>some (i64.wrap ((i64.wrap (a-h))+1000000000))) fun d =>
 K 1 (i64.wrap (f+1)) d) (bd (idxB g.length f) fun b=>bd (upE g b fun _=>some (i64.wrap (a-h))) fun d =>
 K 0 (i64.wrap (f+1)) d))) (
 E0 g)
def l0(c:Nat)(a b:fi)(d:Int):Nat→Int→Int→fi→Option ((fi×Unit)×Unit)
 | 0,_,_,_=>none
 | n+1,v2,v4,v5=>r0 c a b d v2 v4 v5 (l0 c a b d n) (fun e=>some ((e,()),()))
def sh0:ShS:=⟨[.s (.sl (.int .i64)),.s (.sl (.int .i64)),.a 3,.s (.row 0),.s (.int .i64),.a 6,.s (.int .i64),.s (.int .i64),.a 29],[.row (.int .i64) 3 false]⟩
def S0(p:fi×fi×Int×Int×Int×fi×Unit):St:=sh0.b p
def xh0:ShS:=⟨[.a 5,.s (.row 0),.a 38],[.row (.int .i64) 3 false]⟩
def o0(a c:fi)(d:Int)(y:(fi×Unit)×Unit):Alt:=.one (.exit 0) (xh0.b (y.1.1,()))
def tb(c:Nat):List (FuncId×Entry):=[(333,bM.E c)]
def afg(c:Nat):List (Nat×(St→Option LTE)):=[(0,sumE sh0 fun(p:fi×fi×Int×Int×Int×fi×Unit)=>⟨(fi×Unit)×Unit,l0 c p.1 p.2.1 p.2.2.2.1 (c+40) p.2.2.1 p.2.2.2.2.1 p.2.2.2.2.2.1,o0 p.1 p.2.1 p.2.2.2.1⟩)]
def ls(c:Nat):List (Nat×FuncId×Sums):=[(13,330,sumsL (afg c))]
def it0{ρ:Type}(c n:Nat)(a:St)(k:KE ρ):Option ρ:=itG anns (ls c) (tb c) c 13 330 0 1 (sumsL (afg c)) n a k
theorem t0{ρ:Type}(c n:Nat)(a d:fi)(f e g:Int)(h:fi)(k:KE ρ):it0 c (n+1) (S0 (a,d,f,e,g,h,())) k=r0 c a d e f g h (fun j l m=>it0 c n (S0 (a,d,j,e,l,m,())) k) (fun i=>k (.exit 0) (xh0.b (i,()))):=θ
theorem u0{ρ:Type}(c:Nat)(a b:fi)(d:Int)(k:KE ρ):∀ (n:Nat) (e f:Int) (g:fi),it0 c n (S0 (a,b,e,d,f,g,())) k=bd (l0 c a b d n e f g) fun y=>altK k (o0 a b d y)
 | 0,_,_,_=>by rw[l0,bd_none];rfl
 | n+1,e,f,g=>by
  rw[t0];simp only[l0,r0,u0 c a b d k n,bd_br,bd_bd,bd_some',bd_none,br_t,br_f,o0,altK]
theorem sl(c:Nat):SL anns (ls c) (tb c) c (ls c):=slC (laC (fun _=>θ) (fun _ (x:fi×fi×Int×Int×Int×fi×Unit) k=>dJ (u0 c x.1 x.2.1 x.2.2.2.1 k (c+40) x.2.2.1 x.2.2.2.2.1 x.2.2.2.2.2.1)) laN) slN
def f(c:Nat)(e:fi)(g:fi):fm fi:=bd (mkL (e.length:Int) (e.length:Int) 8 0) fun a=>bd (l0 c e g (a.length:Int) (c+40) 0 0 a) fun b=>bd (bM.f c b.1.1) fun d=>some (d.1,())
def E(c:Nat):Entry:=⟨[(.sl (.int .i64)),(.sl (.int .i64))],[(.sl (.int .i64))],fun x=>f c x.1 x.2.1⟩
theorem ok(c:Nat):Ok 330 (E c):=okL (tC (bM.ok c) tN) (aoC aoN) (sl c) fun x=>θ
end iq
end
end Go.Q
namespace Go.Q
open Go.IntKind (i64)
open Go Go.RowKit
open Go.Rx (br bd sIdx sCat sCut iQuo iRem iShl)
noncomputable section
namespace iM
def anns:FuncId→FA:=annsL [(331,⟨annOf [(0,⟨kx 33 [3,4],[],[]⟩,⟨[],[],[]⟩)],none,[]⟩),(350,⟨annOf [(0,⟨kx 19 [0,1,3],[],[]⟩,⟨kx 19 [],[],[]⟩)],none,[]⟩)]
def r0{ρ:Type}(c:Nat)(f:fi)(i:Int)(h:fi)(e:Int)(K:Int→Option ρ)(E0:Int→Option ρ)(g:Option ρ):Option ρ:=br (decide (e≥0)) (bd (idxL h e) fun a=>bd (idxL f e) fun b=>br (a != b) (bd (idxL f e) fun d =>
 E0 (i64.wrap (a-d))) (
 K (i64.wrap (e-1)))) (
 g)
def l0(c:Nat)(a:fi)(b:Int)(d:fi):Nat→Int→Option (Bool×(Int×Unit)×(Unit)×Unit)
 | 0,_=>none
 | n+1,v0=>r0 c a b d v0 (l0 c a b d n) (fun e=>some (true,(e,()),((()),()))) (some (false,(0,()),((()),())))
def sh0:ShS:=⟨[.s (.yld 3),.s (.ptr 2 0),.a 1,.s (.int .i64),.a 15],[.cells [.s (.sl (.int .i64))] 215,.cells [.s (.int .i64)] 3,.cells [.s (.sl (.int .i64))] 215,.rnd [.a 3,.s (.ptr 0 0),.s (.ptr 1 0),.a 28] 331 0 .ready none]⟩
def S0(p:Int×fi×Int×fi×Unit):St:=sh0.b p
def xh0:ShS:=⟨[.a 19],[.cells [.s (.sl (.int .i64))] 215,.cells [.s (.int .i64)] 3,.cells [.s (.sl (.int .i64))] 215,.rnd [.a 3,.s (.ptr 0 0),.s (.ptr 1 0),.a 28] 331 0 .done (some .ret)]⟩
def xh1:ShS:=⟨[.a 19],[.cells [.s (.sl (.int .i64))] 215,.cells [.s (.int .i64)] 3,.cells [.s (.sl (.int .i64))] 215,.rnd [.a 3,.s (.ptr 0 0),.s (.ptr 1 0),.a 28] 331 0 .ready none]⟩
def o0(a:fi)(d:Int)(c:fi)(y:Bool×(Int×Unit)×(Unit)×Unit):Alt:=.two y.1 (.one .ret (xh0.b (a,y.2.1.1,c,()))) (.one (.exit 0) (xh1.b (a,d,c,())))
def tb(c:Nat):List (FuncId×Entry):=[]
def uw(c:Nat):List (Nat×(St→Option LTE)):=[(0,sumE sh0 fun(p:Int×fi×Int×fi×Unit)=>⟨Bool×(Int×Unit)×(Unit)×Unit,l0 c p.2.1 p.2.2.1 p.2.2.2.1 (c+40) p.1,o0 p.2.1 p.2.2.1 p.2.2.2.1⟩)]
def ls(c:Nat):List (Nat×FuncId×Sums):=[(12,350,sumsL (uw c))]
def it0{ρ:Type}(c n:Nat)(a:St)(k:KE ρ):Option ρ:=itG anns (ls c) (tb c) c 12 350 0 4 (sumsL (uw c)) n a k
theorem t0{ρ:Type}(c n:Nat)(f:Int)(a:fi)(e:Int)(d:fi)(k:KE ρ):it0 c (n+1) (S0 (f,a,e,d,())) k=r0 c a e d f (fun h=>it0 c n (S0 (h,a,e,d,())) k) (fun g=>k .ret (xh0.b (a,g,d,()))) (k (.exit 0) (xh1.b (a,e,d,()))):=θ
theorem u0{ρ:Type}(c:Nat)(a:fi)(b:Int)(d:fi)(k:KE ρ):∀ (n:Nat) (e:Int),it0 c n (S0 (e,a,b,d,())) k=bd (l0 c a b d n e) fun y=>altK k (o0 a b d y)
 | 0,_=>by rw[l0,bd_none];rfl
 | n+1,e=>by
  rw[t0];simp only[l0,r0,u0 c a b d k n,bd_br,bd_bd,bd_some',bd_none,br_t,br_f,o0,altK]
theorem sl(c:Nat):SL anns (ls c) (tb c) c (ls c):=slC (laC (fun _=>θ) (fun _ (x:Int×fi×Int×fi×Unit) k=>dJ (u0 c x.2.1 x.2.2.1 x.2.2.2.1 k (c+40) x.1)) laN) slN
def f(c:Nat)(a:fi)(b:fi):fm Int:=br ((a.length:Int) !=(b.length:Int)) (some ((i64.wrap ((a.length:Int)-(b.length:Int))),())) (bd (l0 c b 0 a (c+40) (i64.wrap ((a.length:Int)-1))) fun d=>br d.1 (some (d.2.1.1,())) (some (0,())))
def E(c:Nat):Entry:=⟨[(.sl (.int .i64)),(.sl (.int .i64))],[(.int .i64)],fun x=>f c x.1 x.2.1⟩
theorem ok(c:Nat):Ok 331 (E c):=okL tN (aoC (aoC aoN)) (sl c) fun x=>θ
end iM
namespace nV
def f(c:Nat)(d:fi)(e:fi):fm fi:=bd (iM.f c d e) fun a=>br (decide (a.1 < 0)) (bd (iq.f c e d) fun b=>some (b.1,())) (bd (iq.f c d e) fun b=>some (b.1,()))
def E(c:Nat):Entry:=⟨[(.sl (.int .i64)),(.sl (.int .i64))],[(.sl (.int .i64))],fun x=>f c x.1 x.2.1⟩
theorem ok(c:Nat):Ok 347 (E c):=fo c (tC (iq.ok c) (tC (iM.ok c) tN)) fun x=>θ
end nV
namespace nX
def f(c:Nat)(a:TB)(b:TB):fm Bool:=bd (iM.f c a.2.1 b.2.1) fun r1=>some (((decide (r1.1 < 0)) != a.1),())
def E(c:Nat):Entry:=⟨[yB,yB],[.bool],fun x=>f c x.1 x.2.1⟩
theorem ok(c:Nat):Ok 348 (E c):=fo c (tC (iM.ok c) tN) fun x=>θ
end nX
namespace gJ
def f(c:Nat)(d:TB)(e:TB):fm TB:=br (d.1 != e.1) (bd (nX.f c d e) fun a=>bd (nV.f c d.2.1 e.2.1) fun b=>some ((a.1,b.1,()),())) (bd (nU.f c d e) fun a=>bd (jH.f c d.2.1 e.2.1) fun b=>some ((a.1,b.1,()),()))
def E(c:Nat):Entry:=⟨[yB,yB],[yB],fun x=>f c x.1 x.2.1⟩
theorem ok(c:Nat):Ok 251 (E c):=fo c (tC (jH.ok c) (tC (nU.ok c) (tC (nV.ok c) (tC (nX.ok c) tN)))) fun x=>θ
end gJ
namespace dH
def f(c:Nat)(a:TB):fm TB:=some (((!a.1),a.2.1,()),())
def E(c:Nat):Entry:=⟨[yB],[yB],fun x=>f c x.1⟩
theorem ok(c:Nat):Ok 252 (E c):=fo c tN fun x=>θ
end dH
namespace iU
def f(c:Nat)(g:fg)(h:fg):Option (Int×Int×Unit):=bd (fZ.f c g h) fun a=>br (a.2.2.1 != 0) (some (0,a.2.2.1,())) (bd (dH.f c a.2.1) fun b=>bd (gJ.f c a.1 b.1) fun d=>bd (oO.f c d.1) fun e=>some (e.1,0,()))
def E(c:Nat):Entry:=⟨[.str,.str],[(.int .i64),(.int .i64)],fun x=>f c x.1 x.2.1⟩
theorem ok(c:Nat):Ok 145 (E c):=fo c (tC (fZ.ok c) (tC (oO.ok c) (tC (gJ.ok c) (tC (dH.ok c) tN)))) fun x=>θ
end iU
namespace aG
def anns:FuncId→FA:=annsL [(308,⟨annOf [(0,⟨kx 35 [1,3],[],[]⟩,⟨[],[],[]⟩)],none,[]⟩),(328,⟨annOf [],some (.bString 272 5),[]⟩),(349,⟨annOf [],some (.copyCheck 272),[]⟩),(350,⟨annOf [(0,⟨kx 19 [0,1,3],[⟨.ref 1 1,(.int .u8),5⟩],[]⟩,⟨kx 19 [],[⟨.ref 1 1,(.int .u8),5⟩],[]⟩)],none,[]⟩)]
def r0{ρ:Type}(c:Nat)(l:Bool)(j m k:fi)(h:Int)(i:fi)(K:Int→fi→Option ρ)(E0:fi→Option ρ):Option ρ:=br (decide (h≥0)) (bd (idxL k h) fun a=>bd (B.Itoa.f c a) fun b=>br (decide (h < (i64.wrap ((j.length:Int)-1)))) (bd (B.Repeat.f c (⟨#[48]⟩:fg) (i64.wrap (9-(b.1.size:Int)))) fun d=>bd (apL true 1 i (sBytes d.1)) fun e=>bd (apL true 1 e (sBytes b.1)) fun g =>
 K (i64.wrap (h-1)) g) (bd (apL true 1 i (sBytes b.1)) fun d =>
 K (i64.wrap (h-1)) d)) (
 E0 i)
def l0(c:Nat)(a:Bool)(b d e:fi):Nat→Int→fi→Option ((fi×Unit)×Unit)
 | 0,_,_=>none
 | n+1,v0,v5=>r0 c a b d e v0 v5 (l0 c a b d e n) (fun f=>some ((f,()),()))
def sh0:ShS:=⟨[.s (.yld 5),.s (.ptr 4 0),.a 1,.s (.int .i64),.a 15],[.cells [.s .bool,.s (.sl (.int .i64))] 217,.cells [.s (.ptr 1 0),.s (.row 6)] 272,.row (.int .u8) 5 false,.gone,.cells [.s (.sl (.int .i64))] 215,.rnd [.a 1,.s (.ptr 0 0),.a 1,.s (.ptr 1 0),.a 31] 308 0 .ready none,.row (.int .u8) 5 false]⟩
def S0(p:Int×Bool×fi×fi×fi×fi×Unit):St:=sh0.b p
def xh0:ShS:=⟨[.a 19],[.cells [.s .bool,.s (.sl (.int .i64))] 217,.cells [.s (.ptr 1 0),.s (.row 6)] 272,.row (.int .u8) 5 false,.gone,.cells [.s (.sl (.int .i64))] 215,.rnd [.a 1,.s (.ptr 0 0),.a 1,.s (.ptr 1 0),.a 31] 308 0 .ready none,.row (.int .u8) 5 false]⟩
def o0(a:Bool)(c d e:fi)(y:(fi×Unit)×Unit):Alt:=.one (.exit 0) (xh0.b (a,c,d,e,y.1.1,()))
def r2{ρ:Type}(c:Nat)(l:Bool)(j k:fi)(h:Int)(i:fi)(K:Int→fi→Option ρ)(E0:Bool→fi→fi→fi→Option ρ):Option ρ:=br (decide (h≥0)) (bd (idxL k h) fun a=>bd (B.Itoa.f c a) fun b=>br (decide (h < (i64.wrap ((j.length:Int)-1)))) (bd (B.Repeat.f c (⟨#[48]⟩:fg) (i64.wrap (9-(b.1.size:Int)))) fun d=>bd (apL true 1 i (sBytes d.1)) fun e=>bd (apL true 1 e (sBytes b.1)) fun g =>
 K (i64.wrap (h-1)) g) (bd (apL true 1 i (sBytes b.1)) fun d =>
 K (i64.wrap (h-1)) d)) (
 E0 l j k i)
def l2(c:Nat)(a:Bool)(b d:fi):Nat→Int→fi→Option ((Bool×fi×fi×fi×Unit)×Unit)
 | 0,_,_=>none
 | n+1,v0,v4=>r2 c a b d v0 v4 (l2 c a b d n) (fun e f g h=>some ((e,f,g,h,()),()))
def sh2:ShS:=⟨[.s (.yld 3),.s (.ptr 2 0),.a 1,.s (.int .i64),.a 15],[.cells [.s .bool,.s (.sl (.int .i64))] 217,.cells [.s (.ptr 1 0),.s (.row 4)] 272,.cells [.s (.sl (.int .i64))] 215,.rnd [.a 1,.s (.ptr 0 0),.a 1,.s (.ptr 1 0),.a 31] 308 0 .ready none,.row (.int .u8) 5 false]⟩
def S2(p:Int×Bool×fi×fi×fi×Unit):St:=sh2.b p
def xh1:ShS:=⟨[.a 19],[.cells [.s .bool,.s (.sl (.int .i64))] 217,.cells [.s (.ptr 1 0),.s (.row 4)] 272,.cells [.s (.sl (.int .i64))] 215,.rnd [.a 1,.s (.ptr 0 0),.a 1,.s (.ptr 1 0),.a 31] 308 0 .ready none,.row (.int .u8) 5 false]⟩
def o2(a:Bool)(c d:fi)(y:(Bool×fi×fi×fi×Unit)×Unit):Alt:=.one (.exit 0) (xh1.b (y.1.1,y.1.2.1,y.1.2.2.1,y.1.2.2.2.1,()))
def r1{ρ:Type}(c:Nat)(h:Int)(k:Bool)(i j l:fi)(m:Int→Bool→fi→fi→fi→Option ρ)(E0:Bool→fi→fi→fi→Option ρ):Option ρ:=br (decide (h≥0)) (bd (idxL j h) fun a=>bd (B.Itoa.f c a) fun b=>br (decide (h < (i64.wrap ((i.length:Int)-1)))) (bd (B.Repeat.f c (⟨#[48]⟩:fg) (i64.wrap (9-(b.1.size:Int)))) fun d=>bd (apL true 1 l (sBytes d.1)) fun e=>bd (apL true 1 e (sBytes b.1)) fun g =>
 m (i64.wrap (h-1)) k i j g) (bd (apL true 1 l (sBytes b.1)) fun d =>
 m (i64.wrap (h-1)) k i j d)) (
 E0 k i j l)
def l1(c:Nat)(b:Int)(d:Bool)(e f g:fi):Nat→Option (Bool×(Bool×fi×fi×fi×Unit)×(Bool×fi×fi×fi×Unit)×Unit)
 | 0=>none
 | n+1=>r1 c b d e f g (fun l m o p q=>bd (l2 c m o p n l q) fun a=>some (false,(false,[],[],[],()),((a.1.1,a.1.2.1,a.1.2.2.1,a.1.2.2.2.1,()),()))) (fun h i j k=>some (true,(h,i,j,k,()),((false,[],[],[],()),())))
def sh1:ShS:=⟨[.s (.yld 3),.s (.ptr 2 0),.a 1,.s (.int .i64),.a 15],[.cells [.s .bool,.s (.sl (.int .i64))] 217,.cells [.s .nilp,.s (.row 4)] 272,.cells [.s (.sl (.int .i64))] 215,.rnd [.a 1,.s (.ptr 0 0),.a 1,.s (.ptr 1 0),.a 31] 308 0 .ready none,.row (.int .u8) 5 false]⟩
def S1(p:Int×Bool×fi×fi×fi×Unit):St:=sh1.b p
def xh2:ShS:=⟨[.a 19],[.cells [.s .bool,.s (.sl (.int .i64))] 217,.cells [.s .nilp,.s (.row 4)] 272,.cells [.s (.sl (.int .i64))] 215,.rnd [.a 1,.s (.ptr 0 0),.a 1,.s (.ptr 1 0),.a 31] 308 0 .ready none,.row (.int .u8) 5 false]⟩
def o1(a:Int)(c:Bool)(d e f:fi)(y:Bool×(Bool×fi×fi×fi×Unit)×(Bool×fi×fi×fi×Unit)×Unit):Alt:=.two y.1 (.one (.exit 0) (xh2.b (y.2.1.1,y.2.1.2.1,y.2.1.2.2.1,y.2.1.2.2.2.1,()))) (.one (.exit 0) (xh1.b (y.2.2.1.1,y.2.2.1.2.1,y.2.2.1.2.2.1,y.2.2.1.2.2.2.1,())))
def tb(c:Nat):List (FuncId×Entry):=[(325,B.Itoa.E c),(327,B.Repeat.E c)]
def uw(c:Nat):List (Nat×(St→Option LTE)):=[(0,sumE sh0 fun(p:Int×Bool×fi×fi×fi×fi×Unit)=>⟨(fi×Unit)×Unit,l0 c p.2.1 p.2.2.1 p.2.2.2.1 p.2.2.2.2.1 (c+40) p.1 p.2.2.2.2.2.1,o0 p.2.1 p.2.2.1 p.2.2.2.1 p.2.2.2.2.1⟩),
 (0,sumE sh2 fun(p:Int×Bool×fi×fi×fi×Unit)=>⟨(Bool×fi×fi×fi×Unit)×Unit,l2 c p.2.1 p.2.2.1 p.2.2.2.1 (c+40) p.1 p.2.2.2.2.1,o2 p.2.1 p.2.2.1 p.2.2.2.1⟩),
 (0,sumE sh1 fun(p:Int×Bool×fi×fi×fi×Unit)=>⟨Bool×(Bool×fi×fi×fi×Unit)×(Bool×fi×fi×fi×Unit)×Unit,l1 c p.1 p.2.1 p.2.2.1 p.2.2.2.1 p.2.2.2.2.1 (c+40),o1 p.1 p.2.1 p.2.2.1 p.2.2.2.1 p.2.2.2.2.1⟩)]
def ls(c:Nat):List (Nat×FuncId×Sums):=[(12,350,sumsL (uw c))]
def it0{ρ:Type}(c n:Nat)(a:St)(k:KE ρ):Option ρ:=itG anns (ls c) (tb c) c 12 350 0 6 (sumsL (uw c)) n a k
theorem t0{ρ:Type}(c n:Nat)(g:Int)(a:Bool)(d e f h:fi)(k:KE ρ):it0 c (n+1) (S0 (g,a,d,e,f,h,())) k=r0 c a d e f g h (fun j l=>it0 c n (S0 (j,a,d,e,f,l,())) k) (fun i=>k (.exit 0) (xh0.b (a,d,e,f,i,()))):=θ
theorem u0{ρ:Type}(c:Nat)(a:Bool)(b d e:fi)(k:KE ρ):∀ (n:Nat) (f:Int) (g:fi),it0 c n (S0 (f,a,b,d,e,g,())) k=bd (l0 c a b d e n f g) fun y=>altK k (o0 a b d e y)
 | 0,_,_=>by rw[l0,bd_none];rfl
 | n+1,f,g=>by
  rw[t0];simp only[l0,r0,u0 c a b d e k n,bd_br,bd_bd,bd_some',bd_none,br_t,br_f,o0,altK]
def it2{ρ:Type}(c n:Nat)(a:St)(k:KE ρ):Option ρ:=itG anns (ls c) (tb c) c 12 350 0 4 (sumsL (uw c)) n a k
theorem t2{ρ:Type}(c n:Nat)(f:Int)(a:Bool)(d e g:fi)(k:KE ρ):it2 c (n+1) (S2 (f,a,d,e,g,())) k=r2 c a d e f g (fun m o=>it2 c n (S2 (m,a,d,e,o,())) k) (fun h i j l=>k (.exit 0) (xh1.b (h,i,j,l,()))):=θ
theorem u2{ρ:Type}(c:Nat)(a:Bool)(b d:fi)(k:KE ρ):∀ (n:Nat) (e:Int) (f:fi),it2 c n (S2 (e,a,b,d,f,())) k=bd (l2 c a b d n e f) fun y=>altK k (o2 a b d y)
 | 0,_,_=>by rw[l2,bd_none];rfl
 | n+1,e,f=>by
  rw[t2];simp only[l2,r2,u2 c a b d k n,bd_br,bd_bd,bd_some',bd_none,br_t,br_f,o2,altK]
def it1{ρ:Type}(c n:Nat)(a:St)(k:KE ρ):Option ρ:=itG anns (ls c) (tb c) c 12 350 0 4 (sumsL (uw c)) n a k
theorem t1{ρ:Type}(c n:Nat)(a:Int)(d:Bool)(e f g:fi)(k:KE ρ):it1 c (n+1) (S1 (a,d,e,f,g,())) k=r1 c a d e f g (fun m o p q r=>it2 c n (S2 (m,o,p,q,r,())) k) (fun h i j l=>k (.exit 0) (xh2.b (h,i,j,l,()))):=θ
theorem u1{ρ:Type}(c:Nat)(a:Int)(b:Bool)(d e f:fi)(k:KE ρ):∀ (n:Nat),it1 c n (S1 (a,b,d,e,f,())) k=bd (l1 c a b d e f n) fun y=>altK k (o1 a b d e f y)
 | 0=>by rw[l1,bd_none];rfl
 | n+1=>by
  rw[t1];simp only[l1,r1,u2,bd_br,bd_bd,bd_some',bd_none,br_t,br_f,o1,o2,altK]
theorem sl(c:Nat):SL anns (ls c) (tb c) c (ls c):=slC (laC (fun _=>θ) (fun _ (x:Int×Bool×fi×fi×fi×fi×Unit) k=>dJ (u0 c x.2.1 x.2.2.1 x.2.2.2.1 x.2.2.2.2.1 k (c+40) x.1 x.2.2.2.2.2.1)) (laC (fun _=>θ) (fun _ (x:Int×Bool×fi×fi×fi×Unit) k=>dJ (u2 c x.2.1 x.2.2.1 x.2.2.2.1 k (c+40) x.1 x.2.2.2.2.1)) (laC (fun _=>θ) (fun _ (x:Int×Bool×fi×fi×fi×Unit) k=>dJ (u1 c x.1 x.2.1 x.2.2.1 x.2.2.2.1 x.2.2.2.2.1 k (c+40))) laN))) slN
def f(c:Nat)(e:TB):fm fg:=br ((e.2.1.length:Int)==0) (some ((⟨#[48]⟩:fg),())) (br e.1 (bd (apL true 1 [] [45]) fun a=>bd (l0 c e.1 e.2.1 [45] e.2.1 (c+40) (i64.wrap ((e.2.1.length:Int)-1)) a) fun b=>bd (if 0 < b.1.1.length then some (bytesS b.1.1)else none) fun d=>some (d,())) (bd (l1 c (i64.wrap ((e.2.1.length:Int)-1)) e.1 e.2.1 e.2.1 [] (c+40)) fun a=>br a.1 (bd (if 0 < a.2.1.2.2.2.1.length then some (bytesS a.2.1.2.2.2.1)else none) fun b=>some (b,())) (bd (if 0 < a.2.2.1.2.2.2.1.length then some (bytesS a.2.2.1.2.2.2.1)else none) fun b=>some (b,()))))
def E(c:Nat):Entry:=⟨[yB],[.str],fun x=>f c x.1⟩
theorem ok(c:Nat):Ok 308 (E c):=okL (tC (B.Itoa.ok c) (tC (B.Repeat.ok c) tN)) (aoC (aoP adP (aoP acg (aoC aoN)))) (sl c) fun x=>θ
end aG
namespace mQ
def f(c:Nat)(a:TB):fm Int:=br ((a.2.1.length:Int)==0) (some (0,())) (bd (idxL a.2.1 (i64.wrap ((a.2.1.length:Int)-1))) fun b=>bd (B.Itoa.f c b) fun r2=>some ((i64.wrap ((i64.wrap ((i64.wrap ((a.2.1.length:Int)-1))*9))+(r2.1.size:Int))),()))
def E(c:Nat):Entry:=⟨[yB],[(.int .i64)],fun x=>f c x.1⟩
theorem ok(c:Nat):Ok 319 (E c):=fo c (tC (B.Itoa.ok c) tN) fun x=>θ
end mQ
namespace jl
def f(c:Nat)(a:TB):Option (fg×Int×Unit):=bd (mQ.f c a) fun r1=>br (decide (r1.1 > 4096)) (some ((⟨#[]⟩:fg),10,())) (bd (aG.f c a) fun r2=>some (r2.1,0,()))
def E(c:Nat):Entry:=⟨[yB],[.str,(.int .i64)],fun x=>f c x.1⟩
theorem ok(c:Nat):Ok 260 (E c):=fo c (tC (aG.ok c) (tC (mQ.ok c) tN)) fun x=>θ
end jl
end
end Go.Q
namespace Go.Q
open Go.IntKind (i64)
open Go Go.RowKit
open Go.Rx (br bd sIdx sCat sCut iQuo iRem iShl)
noncomputable section
namespace jV
def f(c:Nat)(e:fg)(g:fg):Option (fg×Int×Unit):=bd (fZ.f c e g) fun a=>br (a.2.2.1 != 0) (some ((⟨#[]⟩:fg),a.2.2.1,())) (bd (gJ.f c a.1 a.2.1) fun b=>bd (jl.f c b.1) fun d=>some (d.1,d.2.1,()))
def E(c:Nat):Entry:=⟨[.str,.str],[.str,(.int .i64)],fun x=>f c x.1 x.2.1⟩
theorem ok(c:Nat):Ok 159 (E c):=fo c (tC (fZ.ok c) (tC (gJ.ok c) (tC (jl.ok c) tN))) fun x=>θ
end jV
namespace kR
def f(c:Nat)(g:fg)(h:fg):Option (fg×Int×Unit):=bd (fZ.f c g h) fun a=>br (a.2.2.1 != 0) (some ((⟨#[]⟩:fg),a.2.2.1,())) (bd (dH.f c a.2.1) fun b=>bd (gJ.f c a.1 b.1) fun d=>bd (jl.f c d.1) fun e=>some (e.1,e.2.1,()))
def E(c:Nat):Entry:=⟨[.str,.str],[.str,(.int .i64)],fun x=>f c x.1 x.2.1⟩
theorem ok(c:Nat):Ok 158 (E c):=fo c (tC (fZ.ok c) (tC (gJ.ok c) (tC (dH.ok c) (tC (jl.ok c) tN)))) fun x=>θ
end kR
namespace gK
def anns:FuncId→FA:=annsL [(313,⟨annOf [(0,⟨kx 63 [1,5,17,18,19],[],[]⟩,⟨kx 63 [4,5],[],[]⟩),(1,⟨kx 63 [1,5,6,7,8,17,18,19,24,25,26],[],[]⟩,⟨kx 63 [1,4,5,6,8,17,18,19],[],[]⟩)],none,[]⟩)]
def r1{ρ:Type}(c:Nat)(p:fi)(l m:Int)(q:fi)(r s:Int)(n:fi)(o:Int)(k j:Int)(i:fi)(K:Int→Int→fi→Option ρ)(E0:Int→fi→Option ρ):Option ρ:=br (decide (j < o)) (bd (idxL n j) fun a=>bd (idxB i.length (i64.wrap (l+j))) fun b=>bd (i[b]?) fun d=>bd (iRem (i64.wrap (k+(i64.wrap (d+(i64.wrap (m*a)))))) 1000000000) fun e=>bd (iQuo .i64 (i64.wrap (k+(i64.wrap (d+(i64.wrap (m*a)))))) 1000000000) fun f=>bd (idxB i.length (i64.wrap (l+j))) fun g=>bd (upE i g fun _=>some e) fun h =>
 K f (i64.wrap (j+1)) h) (
 E0 k i)
def l1(c:Nat)(a:fi)(b d:Int)(e:fi)(f g:Int)(h:fi)(i:Int):Nat→Int→Int→fi→Option ((Int×fi×Unit)×Unit)
 | 0,_,_,_=>none
 | n+1,v3,v9,v10=>r1 c a b d e f g h i v3 v9 v10 (l1 c a b d e f g h i n) (fun j k=>some ((j,k,()),()))
def sh1:ShS:=⟨[.a 1,.s (.sl (.int .i64)),.a 3,.s (.row 0),.s (.int .i64),.s (.int .i64),.s (.int .i64),.a 8,.s (.sl (.int .i64)),.s (.int .i64),.s (.int .i64),.a 4,.s (.sl (.int .i64)),.s (.int .i64),.s (.int .i64),.a 36],[.row (.int .i64) 3 false]⟩
def S1(p:fi×Int×Int×Int×fi×Int×Int×fi×Int×Int×fi×Unit):St:=sh1.b p
def xh0:ShS:=⟨[.a 1,.s (.sl (.int .i64)),.a 3,.s (.row 0),.s (.int .i64),.a 1,.s (.int .i64),.a 8,.s (.sl (.int .i64)),.s (.int .i64),.s (.int .i64),.a 43],[.row (.int .i64) 3 false]⟩
def o1(a:fi)(c g:Int)(d:fi)(e f:Int)(h:fi)(i:Int)(y:(Int×fi×Unit)×Unit):Alt:=.one (.exit 2) (xh0.b (a,c,y.1.1,d,e,f,y.1.2.1,()))
def r0{ρ:Type}(c:Nat)(g h:fi)(i:Int)(f:Int)(j:fi)(K:Int→fi→Option ρ)(E0:fi→Option ρ):Option ρ:=br (decide (f < i)) (bd (idxL h f) fun a=>bd (l1 c g f a h i f g (g.length:Int) (c+40) 0 0 j) fun b=>bd (idxB b.1.2.1.length (i64.wrap (f+(g.length:Int)))) fun d=>bd (upE b.1.2.1 d fun _=>some b.1.1) fun e =>
 K (i64.wrap (f+1)) e) (
 E0 j)
def l0(c:Nat)(a b:fi)(d:Int):Nat→Int→fi→Option ((fi×Unit)×Unit)
 | 0,_,_=>none
 | n+1,v3,v4=>r0 c a b d v3 v4 (l0 c a b d n) (fun e=>some ((e,()),()))
def sh0:ShS:=⟨[.a 1,.s (.sl (.int .i64)),.a 3,.s (.row 0),.a 11,.s (.sl (.int .i64)),.s (.int .i64),.s (.int .i64),.a 43],[.row (.int .i64) 3 false]⟩
def S0(p:fi×fi×Int×Int×fi×Unit):St:=sh0.b p
def xh1:ShS:=⟨[.a 5,.s (.row 0),.a 57],[.row (.int .i64) 3 false]⟩
def o0(a c:fi)(d:Int)(y:(fi×Unit)×Unit):Alt:=.one (.exit 0) (xh1.b (y.1.1,()))
def tb(c:Nat):List (FuncId×Entry):=[(333,bM.E c)]
def acN(c:Nat):List (Nat×(St→Option LTE)):=[(0,sumE sh0 fun(p:fi×fi×Int×Int×fi×Unit)=>⟨(fi×Unit)×Unit,l0 c p.1 p.2.1 p.2.2.1 (c+40) p.2.2.2.1 p.2.2.2.2.1,o0 p.1 p.2.1 p.2.2.1⟩),
 (1,sumE sh1 fun(p:fi×Int×Int×Int×fi×Int×Int×fi×Int×Int×fi×Unit)=>⟨(Int×fi×Unit)×Unit,l1 c p.1 p.2.1 p.2.2.1 p.2.2.2.2.1 p.2.2.2.2.2.1 p.2.2.2.2.2.2.1 p.2.2.2.2.2.2.2.1 p.2.2.2.2.2.2.2.2.1 (c+40) p.2.2.2.1 p.2.2.2.2.2.2.2.2.2.1 p.2.2.2.2.2.2.2.2.2.2.1,o1 p.1 p.2.1 p.2.2.1 p.2.2.2.2.1 p.2.2.2.2.2.1 p.2.2.2.2.2.2.1 p.2.2.2.2.2.2.2.1 p.2.2.2.2.2.2.2.2.1⟩)]
def ls(c:Nat):List (Nat×FuncId×Sums):=[(13,313,sumsL (acN c))]
def it1{ρ:Type}(c n:Nat)(a:St)(k:KE ρ):Option ρ:=itG anns (ls c) (tb c) c 13 313 1 1 (sumsL (acN c)) n a k
theorem t1{ρ:Type}(c n:Nat)(d:fi)(e i m:Int)(f:fi)(g h:Int)(j:fi)(l o:Int)(a:fi)(k:KE ρ):it1 c (n+1) (S1 (d,e,i,m,f,g,h,j,l,o,a,())) k=r1 c d e i f g h j l m o a (fun r s t=>it1 c n (S1 (d,e,i,r,f,g,h,j,l,s,t,())) k) (fun p q=>k (.exit 2) (xh0.b (d,e,p,f,g,h,q,()))):=θ
theorem u1{ρ:Type}(c:Nat)(b:fi)(d e:Int)(f:fi)(g h:Int)(i:fi)(j:Int)(k:KE ρ):∀ (n:Nat) (l m:Int) (a:fi),it1 c n (S1 (b,d,e,l,f,g,h,i,j,m,a,())) k=bd (l1 c b d e f g h i j n l m a) fun y=>altK k (o1 b d e f g h i j y)
 | 0,_,_,_=>by rw[l1,bd_none];rfl
 | n+1,l,m,a=>by
  rw[t1];simp only[l1,r1,u1 c b d e f g h i j k n,bd_br,bd_bd,bd_some',bd_none,br_t,br_f,o1,altK]
def it0{ρ:Type}(c n:Nat)(a:St)(k:KE ρ):Option ρ:=itG anns (ls c) (tb c) c 13 313 0 1 (sumsL (acN c)) n a k
theorem t0{ρ:Type}(c n:Nat)(a d:fi)(e f:Int)(g:fi)(k:KE ρ):it0 c (n+1) (S0 (a,d,e,f,g,())) k=r0 c a d e f g (fun i j=>it0 c n (S0 (a,d,e,i,j,())) k) (fun h=>k (.exit 0) (xh1.b (h,()))):=θ
theorem u0{ρ:Type}(c:Nat)(a b:fi)(d:Int)(k:KE ρ):∀ (n:Nat) (e:Int) (f:fi),it0 c n (S0 (a,b,d,e,f,())) k=bd (l0 c a b d n e f) fun y=>altK k (o0 a b d y)
 | 0,_,_=>by rw[l0,bd_none];rfl
 | n+1,e,f=>by
  rw[t0];simp only[l0,r0,u0 c a b d k n,bd_br,bd_bd,bd_some',bd_none,br_t,br_f,o0,altK]
theorem sl(c:Nat):SL anns (ls c) (tb c) c (ls c):=slC (laC (fun _=>θ) (fun _ (x:fi×fi×Int×Int×fi×Unit) k=>dJ (u0 c x.1 x.2.1 x.2.2.1 k (c+40) x.2.2.2.1 x.2.2.2.2.1)) (laC (fun _=>θ) (fun _ (x:fi×Int×Int×Int×fi×Int×Int×fi×Int×Int×fi×Unit) k=>dJ (u1 c x.1 x.2.1 x.2.2.1 x.2.2.2.2.1 x.2.2.2.2.2.1 x.2.2.2.2.2.2.1 x.2.2.2.2.2.2.2.1 x.2.2.2.2.2.2.2.2.1 k (c+40) x.2.2.2.1 x.2.2.2.2.2.2.2.2.2.1 x.2.2.2.2.2.2.2.2.2.2.1)) laN)) slN
def f(c:Nat)(e:fi)(g:fi):fm fi:=bd (mkL (i64.wrap ((e.length:Int)+(g.length:Int))) (i64.wrap ((e.length:Int)+(g.length:Int))) 8 0) fun a=>bd (l0 c g e (e.length:Int) (c+40) 0 a) fun b=>bd (bM.f c b.1.1) fun d=>some (d.1,())
def E(c:Nat):Entry:=⟨[(.sl (.int .i64)),(.sl (.int .i64))],[(.sl (.int .i64))],fun x=>f c x.1 x.2.1⟩
theorem ok(c:Nat):Ok 313 (E c):=okL (tC (bM.ok c) tN) (aoC aoN) (sl c) fun x=>θ
end gK
namespace iw
def anns:FuncId→FA:=annsL [(332,⟨annOf [(0,⟨kx 33 [3,6,7],[],[]⟩,⟨[],[],[]⟩)],none,[]⟩),(350,⟨annOf [(0,⟨kx 19 [0,1,3],[],[]⟩,⟨kx 19 [],[],[]⟩)],none,[]⟩)]
def r0{ρ:Type}(c:Nat)(j:Int)(k:fi)(g:Int)(h:fi)(i:Int)(K:Int→fi→Int→Option ρ)(E0:fi→Int→Option ρ):Option ρ:=br (decide (g≥0)) (bd (idxL k g) fun a=>bd (iQuo .i64 (i64.wrap ((i64.wrap (i*1000000000))+a)) j) fun b=>bd (iRem (i64.wrap ((i64.wrap (i*1000000000))+a)) j) fun d=>bd (idxB h.length g) fun e=>bd (upE h e fun _=>some b) fun f =>
 K (i64.wrap (g-1)) f d) (
 E0 h i)
def l0(c:Nat)(a:Int)(b:fi):Nat→Int→fi→Int→Option ((fi×Int×Unit)×Unit)
 | 0,_,_,_=>none
 | n+1,v0,v2,v3=>r0 c a b v0 v2 v3 (l0 c a b n) (fun d e=>some ((d,e,()),()))
def sh0:ShS:=⟨[.s (.yld 5),.s (.ptr 4 0),.a 1,.s (.int .i64),.a 15],[.cells [.s (.int .i64)] 3,.row (.int .i64) 3 false,.cells [.s (.row 1)] 215,.cells [.s (.int .i64)] 3,.cells [.s (.sl (.int .i64))] 215,.rnd [.a 3,.s (.ptr 0 0),.a 2,.s (.ptr 2 0),.s (.ptr 3 0),.a 25] 332 0 .ready none]⟩
def S0(p:Int×Int×fi×Int×fi×Unit):St:=sh0.b p
def xh0:ShS:=⟨[.a 19],[.cells [.s (.int .i64)] 3,.row (.int .i64) 3 false,.cells [.s (.row 1)] 215,.cells [.s (.int .i64)] 3,.cells [.s (.sl (.int .i64))] 215,.rnd [.a 3,.s (.ptr 0 0),.a 2,.s (.ptr 2 0),.s (.ptr 3 0),.a 25] 332 0 .ready none]⟩
def o0(a:Int)(c:fi)(y:(fi×Int×Unit)×Unit):Alt:=.one (.exit 0) (xh0.b (a,y.1.1,y.1.2.1,c,()))
def tb(c:Nat):List (FuncId×Entry):=[(333,bM.E c)]
def uw(c:Nat):List (Nat×(St→Option LTE)):=[(0,sumE sh0 fun(p:Int×Int×fi×Int×fi×Unit)=>⟨(fi×Int×Unit)×Unit,l0 c p.2.1 p.2.2.2.2.1 (c+40) p.1 p.2.2.1 p.2.2.2.1,o0 p.2.1 p.2.2.2.2.1⟩)]
def ls(c:Nat):List (Nat×FuncId×Sums):=[(12,350,sumsL (uw c))]
def it0{ρ:Type}(c n:Nat)(a:St)(k:KE ρ):Option ρ:=itG anns (ls c) (tb c) c 12 350 0 6 (sumsL (uw c)) n a k
theorem t0{ρ:Type}(c n:Nat)(e a:Int)(f:fi)(g:Int)(d:fi)(k:KE ρ):it0 c (n+1) (S0 (e,a,f,g,d,())) k=r0 c a d e f g (fun j l m=>it0 c n (S0 (j,a,l,m,d,())) k) (fun h i=>k (.exit 0) (xh0.b (a,h,i,d,()))):=θ
theorem u0{ρ:Type}(c:Nat)(a:Int)(b:fi)(k:KE ρ):∀ (n:Nat) (d:Int) (e:fi) (f:Int),it0 c n (S0 (d,a,e,f,b,())) k=bd (l0 c a b n d e f) fun y=>altK k (o0 a b y)
 | 0,_,_,_=>by rw[l0,bd_none];rfl
 | n+1,d,e,f=>by
  rw[t0];simp only[l0,r0,u0 c a b k n,bd_br,bd_bd,bd_some',bd_none,br_t,br_f,o0,altK]
theorem sl(c:Nat):SL anns (ls c) (tb c) c (ls c):=slC (laC (fun _=>θ) (fun _ (x:Int×Int×fi×Int×fi×Unit) k=>dJ (u0 c x.2.1 x.2.2.2.2.1 k (c+40) x.1 x.2.2.1 x.2.2.2.1)) laN) slN
def f(c:Nat)(e:fi)(g:Int):Option (fi×Int×Unit):=bd (mkL (e.length:Int) (e.length:Int) 8 0) fun a=>bd (l0 c g e (c+40) (i64.wrap ((e.length:Int)-1)) a 0) fun b=>bd (bM.f c b.1.1) fun d=>some (d.1,b.1.2.1,())
def E(c:Nat):Entry:=⟨[(.sl (.int .i64)),(.int .i64)],[(.sl (.int .i64)),(.int .i64)],fun x=>f c x.1 x.2.1⟩
theorem ok(c:Nat):Ok 332 (E c):=okL (tC (bM.ok c) tN) (aoC (aoC aoN)) (sl c) fun x=>θ
end iw
end
end Go.Q
