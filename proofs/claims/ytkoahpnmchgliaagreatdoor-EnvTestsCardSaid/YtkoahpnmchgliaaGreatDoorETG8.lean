import Derived.Test.YtkoahpnmchgliaaGreatDoorETG7
set_option linter.all false
set_option maxRecDepth 100000
namespace Go.Q
open Go.IntKind (i64)
open Go Go.RowKit
open Go.Rx (br bd sIdx sCat sCut iQuo iRem iShl)
noncomputable section
namespace fZ
def f(c:Nat)(i:TI):Option ((List TI)×Unit):=bd (ax.f c (⟨#[]⟩:fi) (⟨#[45,49]⟩:fi)) fun a=>bd (gI.f c i a.1) fun b=>bd (jW.f c (⟨#[48]⟩:fi)) fun d=>bd (gI.f c i d.1) fun e=>bd (ax.f c (⟨#[49]⟩:fi) (⟨#[]⟩:fi)) fun g=>bd (gI.f c i g.1) fun h=>some ([b.1,e.1,h.1],())
def E(c:Nat):Entry:=⟨[yI],[(.sl yI)],fun x=>f c x.1⟩
theorem ok(c:Nat):Ok 259 (E c):=fp c (tC (ax.ok c) (tC (gI.ok c) (tC (jW.ok c) tN))) fun x=>θ
end fZ
namespace jY
def f(c:Nat)(e:TI)(g:TI):fo TI:=br (!(e.2.2.1.toList==(⟨#[]⟩:fi).toList)) (br (!(g.2.2.1.toList==(⟨#[]⟩:fi).toList)) (bd (aU.f c e.2.2.1 g.2.2.1) fun a=>bd (aU.f c e.2.1 g.2.1) fun b=>bd (ax.f c b.1 a.1) fun d=>some (d.1,())) (bd (aU.f c e.2.1 g.2.1) fun a=>bd (ax.f c a.1 (⟨#[]⟩:fi)) fun b=>some (b.1,()))) (bd (aU.f c e.2.1 g.2.1) fun a=>bd (ax.f c a.1 (⟨#[]⟩:fi)) fun b=>some (b.1,()))
def E(c:Nat):Entry:=⟨[yI,yI],[yI],fun x=>f c x.1 x.2.1⟩
theorem ok(c:Nat):Ok 261 (E c):=fp c (tC (ax.ok c) (tC (aU.ok c) tN)) fun x=>θ
end jY
namespace iw
def f(c:Nat)(a:TI)(b:Int):fo TI:=br (b==0) (bd (bG.f c a) fun r1=>some (r1.1,())) (some (a,()))
def E(c:Nat):Entry:=⟨[yI,(.int .i64)],[yI],fun x=>f c x.1 x.2.1⟩
theorem ok(c:Nat):Ok 262 (E c):=fp c (tC (bG.ok c) tN) fun x=>θ
end iw
namespace dU
def f(c:Nat)(e:TI)(g:TI):fo TI:=br e.1 (some (g,())) (br g.1 (some (e,())) (bd (jR.f c e.2.1 g.2.1) fun a=>bd (ja.f c e.2.2.1 g.2.2.1) fun b=>bd (ax.f c a.1 b.1) fun d=>some (d.1,())))
def E(c:Nat):Entry:=⟨[yI,yI],[yI],fun x=>f c x.1 x.2.1⟩
theorem ok(c:Nat):Ok 263 (E c):=fp c (tC (ax.ok c) (tC (jR.ok c) (tC (ja.ok c) tN))) fun x=>θ
end dU
namespace dw
def anns:FuncId→FA:=annsL [(157,⟨annOf [(0,⟨kx 65 [4,5,6,7,8],[],[0,1]⟩,⟨kx 65 [4,5],[],[0,1]⟩),(1,⟨kx 65 [4,5,6,7,8,9],[],[]⟩,⟨kx 65 [4,5,6,7,8],[],[]⟩)],none,[]⟩)]
def r1{ρ:Type}(c:Nat)(r s:List TI)(q:Int)(t:Bool)(u v:fi)(m:Int)(n:Bool)(o p:fi)(K:Int→Bool→fi→fi→Option ρ)(E0:Bool→fi→fi→Option ρ):Option ρ:=br (decide (m < 3)) (bd (idxL r q) fun a=>br a.1 (
 K (i64.wrap (m+1)) n o p) (bd (idxL s m) fun b=>br b.1 (
 K (i64.wrap (m+1)) n o p) (bd (jW.f c (⟨#[48]⟩:fi)) fun d=>br (q != 1) (br (m != 1) (bd (idxL r q) fun e=>bd (iw.f c e q) fun g=>bd (idxL s m) fun h=>bd (iw.f c h m) fun i=>bd (jY.f c g.1 i.1) fun j=>br (q != m) (bd (bG.f c j.1) fun k=>bd (dU.f c (n,o,p,()) k.1) fun l =>
 K (i64.wrap (m+1)) l.1.1 l.1.2.1 l.1.2.2.1) (bd (dU.f c (n,o,p,()) j.1) fun k =>
 K (i64.wrap (m+1)) k.1.1 k.1.2.1 k.1.2.2.1)) (bd (dU.f c (n,o,p,()) d.1) fun e =>
 K (i64.wrap (m+1)) e.1.1 e.1.2.1 e.1.2.2.1)) (bd (dU.f c (n,o,p,()) d.1) fun e =>
 K (i64.wrap (m+1)) e.1.1 e.1.2.1 e.1.2.2.1)))) (
 E0 n o p)
def l1(c:Nat)(a b:List TI)(d:Int)(e:Bool)(f g:fi):Nat→Int→Bool→fi→fi→Option ((Bool×fi×fi×Unit)×Unit)
 | 0,_,_,_,_=>none
 | n+1,v3,v7,v8,v9=>r1 c a b d e f g v3 v7 v8 v9 (l1 c a b d e f g n) (fun h i j=>some ((h,i,j,()),()))
def sh1:ShS:=⟨[.a 4,.s (.ptr 2 0),.s (.ptr 3 0),.s (.sl yI),.s (.sl yI),.s (.int .i64),.s (.int .i64),.a 55],[.gone,.gone,.cells [.s .bool,.s .str,.s .str] 40,.cells [.s .bool,.s .str,.s .str] 40]⟩
def S1(p:(List TI)×(List TI)×Int×Int×Bool×fi×fi×Bool×fi×fi×Unit):St:=sh1.b p
def xh0:ShS:=⟨[.a 4,.s (.ptr 2 0),.s (.ptr 3 0),.s (.sl yI),.s (.sl yI),.s (.int .i64),.a 56],[.gone,.gone,.cells [.s .bool,.s .str,.s .str] 40,.cells [.s .bool,.s .str,.s .str] 40]⟩
def o1(a c:List TI)(d:Int)(e:Bool)(f g:fi)(y:(Bool×fi×fi×Unit)×Unit):Alt:=.one (.exit 2) (xh0.b (a,c,d,e,f,g,y.1.1,y.1.2.1,y.1.2.2.1,()))
def r0{ρ:Type}(c:Nat)(g h:List TI)(i:Bool)(j k:fi)(b:Int)(d:Bool)(e f:fi)(K:Int→Bool→fi→fi→Option ρ)(E0:Bool→fi→fi→Option ρ):Option ρ:=br (decide (b < 3)) (bd (l1 c g h b i j k (c+40) 0 d e f) fun a =>
 K (i64.wrap (b+1)) a.1.1 a.1.2.1 a.1.2.2.1) (
 E0 d e f)
def l0(c:Nat)(a b:List TI)(d:Bool)(e f:fi):Nat→Int→Bool→fi→fi→Option ((Bool×fi×fi×Unit)×Unit)
 | 0,_,_,_,_=>none
 | n+1,v2,v6,v7,v8=>r0 c a b d e f v2 v6 v7 v8 (l0 c a b d e f n) (fun g h i=>some ((g,h,i,()),()))
def sh0:ShS:=⟨[.a 4,.s (.ptr 2 0),.s (.ptr 3 0),.s (.sl yI),.s (.sl yI),.s (.int .i64),.a 56],[.gone,.gone,.cells [.s .bool,.s .str,.s .str] 40,.cells [.s .bool,.s .str,.s .str] 40]⟩
def S0(p:(List TI)×(List TI)×Int×Bool×fi×fi×Bool×fi×fi×Unit):St:=sh0.b p
def xh1:ShS:=⟨[.a 4,.s (.ptr 2 0),.s (.ptr 3 0),.a 59],[.gone,.gone,.cells [.s .bool,.s .str,.s .str] 40,.cells [.s .bool,.s .str,.s .str] 40]⟩
def o0(e f:List TI)(a:Bool)(c d:fi)(y:(Bool×fi×fi×Unit)×Unit):Alt:=.one (.exit 0) (xh1.b (a,c,d,y.1.1,y.1.2.1,y.1.2.2.1,()))
def tb(c:Nat):List (FuncId×Entry):=[(143,aA.E c),(151,bG.E c),(259,fZ.E c),(260,jW.E c),(261,jY.E c),(262,iw.E c),(263,dU.E c)]
def adb(c:Nat):List (Nat×(St→Option LTE)):=[(0,sumE sh0 fun(p:(List TI)×(List TI)×Int×Bool×fi×fi×Bool×fi×fi×Unit)=>⟨(Bool×fi×fi×Unit)×Unit,l0 c p.1 p.2.1 p.2.2.2.1 p.2.2.2.2.1 p.2.2.2.2.2.1 (c+40) p.2.2.1 p.2.2.2.2.2.2.1 p.2.2.2.2.2.2.2.1 p.2.2.2.2.2.2.2.2.1,o0 p.1 p.2.1 p.2.2.2.1 p.2.2.2.2.1 p.2.2.2.2.2.1⟩),
 (1,sumE sh1 fun(p:(List TI)×(List TI)×Int×Int×Bool×fi×fi×Bool×fi×fi×Unit)=>⟨(Bool×fi×fi×Unit)×Unit,l1 c p.1 p.2.1 p.2.2.1 p.2.2.2.2.1 p.2.2.2.2.2.1 p.2.2.2.2.2.2.1 (c+40) p.2.2.2.1 p.2.2.2.2.2.2.2.1 p.2.2.2.2.2.2.2.2.1 p.2.2.2.2.2.2.2.2.2.1,o1 p.1 p.2.1 p.2.2.1 p.2.2.2.2.1 p.2.2.2.2.2.1 p.2.2.2.2.2.2.1⟩)]
def ls(c:Nat):List (Nat×FuncId×Sums):=[(13,157,sumsL (adb c))]
def it1{ρ:Type}(c n:Nat)(a:St)(k:KE ρ):Option ρ:=itG anns (ls c) (tb c) c 13 157 1 4 (sumsL (adb c)) n a k
theorem t1{ρ:Type}(c n:Nat)(a d:List TI)(e i:Int)(f:Bool)(g h:fi)(j:Bool)(l m:fi)(k:KE ρ):it1 c (n+1) (S1 (a,d,e,i,f,g,h,j,l,m,())) k=r1 c a d e f g h i j l m (fun r s t u=>it1 c n (S1 (a,d,e,r,f,g,h,s,t,u,())) k) (fun o p q=>k (.exit 2) (xh0.b (a,d,e,f,g,h,o,p,q,()))):=θ
theorem u1{ρ:Type}(c:Nat)(a b:List TI)(d:Int)(e:Bool)(f g:fi)(k:KE ρ):∀ (n:Nat) (h:Int) (i:Bool) (j l:fi),it1 c n (S1 (a,b,d,h,e,f,g,i,j,l,())) k=bd (l1 c a b d e f g n h i j l) fun y=>altK k (o1 a b d e f g y)
 | 0,_,_,_,_=>by rw[l1,bd_none];rfl
 | n+1,h,i,j,l=>by
  rw[t1];simp only[l1,r1,u1 c a b d e f g k n,bd_br,bd_bd,bd_some',bd_none,br_t,br_f,o1,altK]
def it0{ρ:Type}(c n:Nat)(a:St)(k:KE ρ):Option ρ:=itG anns (ls c) (tb c) c 13 157 0 4 (sumsL (adb c)) n a k
theorem t0{ρ:Type}(c n:Nat)(f g:List TI)(h:Int)(a:Bool)(d e:fi)(i:Bool)(j l:fi)(k:KE ρ):it0 c (n+1) (S0 (f,g,h,a,d,e,i,j,l,())) k=r0 c f g a d e h i j l (fun q r s t=>it0 c n (S0 (f,g,q,a,d,e,r,s,t,())) k) (fun m o p=>k (.exit 0) (xh1.b (a,d,e,m,o,p,()))):=θ
theorem u0{ρ:Type}(c:Nat)(a b:List TI)(d:Bool)(e f:fi)(k:KE ρ):∀ (n:Nat) (g:Int) (h:Bool) (i j:fi),it0 c n (S0 (a,b,g,d,e,f,h,i,j,())) k=bd (l0 c a b d e f n g h i j) fun y=>altK k (o0 a b d e f y)
 | 0,_,_,_,_=>by rw[l0,bd_none];rfl
 | n+1,g,h,i,j=>by
  rw[t0];simp only[l0,r0,u0 c a b d e f k n,bd_br,bd_bd,bd_some',bd_none,br_t,br_f,o0,altK]
theorem sl(c:Nat):SL anns (ls c) (tb c) c (ls c):=slC (laC (fun _=>θ) (fun _ (x:(List TI)×(List TI)×Int×Bool×fi×fi×Bool×fi×fi×Unit) k=>dN (u0 c x.1 x.2.1 x.2.2.2.1 x.2.2.2.2.1 x.2.2.2.2.2.1 k (c+40) x.2.2.1 x.2.2.2.2.2.2.1 x.2.2.2.2.2.2.2.1 x.2.2.2.2.2.2.2.2.1)) (laC (fun _=>θ) (fun _ (x:(List TI)×(List TI)×Int×Int×Bool×fi×fi×Bool×fi×fi×Unit) k=>dN (u1 c x.1 x.2.1 x.2.2.1 x.2.2.2.2.1 x.2.2.2.2.2.1 x.2.2.2.2.2.2.1 k (c+40) x.2.2.2.1 x.2.2.2.2.2.2.2.1 x.2.2.2.2.2.2.2.2.1 x.2.2.2.2.2.2.2.2.2.1)) laN)) slN
def f(c:Nat)(g:TI)(h:TI):fo TI:=bd (aA.f c) fun a=>bd (fZ.f c g) fun b=>bd (fZ.f c h) fun d=>bd (l0 c b.1 d.1 false (⟨#[]⟩:fi) (⟨#[]⟩:fi) (c+40) 0 a.1.1 a.1.2.1 a.1.2.2.1) fun e=>some (e.1,())
def E(c:Nat):Entry:=⟨[yI,yI],[yI],fun x=>f c x.1 x.2.1⟩
theorem ok(c:Nat):Ok 157 (E c):=okL (tC (aA.ok c) (tC (bG.ok c) (tC (fZ.ok c) (tC (jW.ok c) (tC (jY.ok c) (tC (iw.ok c) (tC (dU.ok c) tN))))))) (aoC aoN) (sl c) fun x=>θ
end dw
namespace jD
def f(c:Nat)(h:TI)(i:TI):fo TI:=br h.1 (bd (aA.f c) fun a=>some (a.1,())) (br i.1 (bd (aA.f c) fun a=>some (a.1,())) (br (!(h.2.1.toList==(⟨#[]⟩:fi).toList)) (bd (bF.f c h.2.1) fun a=>br (decide (a.1 < 0)) (bd (aJ.f c h.2.1 i.2.1) fun b=>br (!(h.2.2.1.toList==(⟨#[]⟩:fi).toList)) (bd (bF.f c h.2.2.1) fun d=>br (decide (d.1≥0)) (bd (aJ.f c h.2.2.1 i.2.1) fun e=>bd (ax.f c b.1 e.1) fun g=>some (g.1,())) (br (!(i.2.2.1.toList==(⟨#[]⟩:fi).toList)) (bd (aJ.f c h.2.2.1 i.2.2.1) fun e=>bd (ax.f c b.1 e.1) fun g=>some (g.1,())) (bd (ax.f c b.1 (⟨#[45,49]⟩:fi)) fun e=>some (e.1,())))) (bd (ax.f c b.1 h.2.2.1) fun d=>some (d.1,()))) (br (!(i.2.2.1.toList==(⟨#[]⟩:fi).toList)) (bd (aJ.f c h.2.1 i.2.2.1) fun b=>br (!(h.2.2.1.toList==(⟨#[]⟩:fi).toList)) (bd (bF.f c h.2.2.1) fun d=>br (decide (d.1≥0)) (bd (aJ.f c h.2.2.1 i.2.1) fun e=>bd (ax.f c b.1 e.1) fun g=>some (g.1,())) (br (!(i.2.2.1.toList==(⟨#[]⟩:fi).toList)) (bd (aJ.f c h.2.2.1 i.2.2.1) fun e=>bd (ax.f c b.1 e.1) fun g=>some (g.1,())) (bd (ax.f c b.1 (⟨#[45,49]⟩:fi)) fun e=>some (e.1,())))) (bd (ax.f c b.1 h.2.2.1) fun d=>some (d.1,()))) (br (!(h.2.2.1.toList==(⟨#[]⟩:fi).toList)) (bd (bF.f c h.2.2.1) fun b=>br (decide (b.1≥0)) (bd (aJ.f c h.2.2.1 i.2.1) fun d=>bd (ax.f c (⟨#[48]⟩:fi) d.1) fun e=>some (e.1,())) (br (!(i.2.2.1.toList==(⟨#[]⟩:fi).toList)) (bd (aJ.f c h.2.2.1 i.2.2.1) fun d=>bd (ax.f c (⟨#[48]⟩:fi) d.1) fun e=>some (e.1,())) (bd (ax.f c (⟨#[48]⟩:fi) (⟨#[45,49]⟩:fi)) fun d=>some (d.1,())))) (bd (ax.f c (⟨#[48]⟩:fi) h.2.2.1) fun b=>some (b.1,()))))) (br (!(h.2.2.1.toList==(⟨#[]⟩:fi).toList)) (bd (bF.f c h.2.2.1) fun a=>br (decide (a.1≥0)) (bd (aJ.f c h.2.2.1 i.2.1) fun b=>bd (ax.f c h.2.1 b.1) fun d=>some (d.1,())) (br (!(i.2.2.1.toList==(⟨#[]⟩:fi).toList)) (bd (aJ.f c h.2.2.1 i.2.2.1) fun b=>bd (ax.f c h.2.1 b.1) fun d=>some (d.1,())) (bd (ax.f c h.2.1 (⟨#[45,49]⟩:fi)) fun b=>some (b.1,())))) (bd (ax.f c h.2.1 h.2.2.1) fun a=>some (a.1,())))))
def E(c:Nat):Entry:=⟨[yI,yI],[yI],fun x=>f c x.1 x.2.1⟩
theorem ok(c:Nat):Ok 264 (E c):=fp c (tC (bF.ok c) (tC (ax.ok c) (tC (aA.ok c) (tC (aJ.ok c) tN)))) fun x=>θ
end jD
namespace nN
def f(c:Nat)(k:TI)(l:TI):fo TI:=bd (fZ.f c l) fun a=>bd (idxL a.1 2) fun b=>bd (jD.f c k b) fun d=>bd (bG.f c k) fun e=>bd (idxL a.1 0) fun g=>bd (bG.f c g) fun h=>bd (jD.f c e.1 h.1) fun i=>bd (dU.f c d.1 i.1) fun j=>some (j.1,())
def E(c:Nat):Entry:=⟨[yI,yI],[yI],fun x=>f c x.1 x.2.1⟩
theorem ok(c:Nat):Ok 159 (E c):=fp c (tC (bG.ok c) (tC (fZ.ok c) (tC (dU.ok c) (tC (jD.ok c) tN)))) fun x=>θ
end nN
namespace lS
def f(c:Nat)(d:TI)(e:TI):fo Bool:=br d.1 (some (d.1,())) (br e.1 (some (d.1,())) (br (e.2.1.toList==(⟨#[]⟩:fi).toList) (br (e.2.2.1.toList==(⟨#[]⟩:fi).toList) (some (true,())) (br (!(d.2.2.1.toList==(⟨#[]⟩:fi).toList)) (bd (aO.f c e.2.2.1 d.2.2.1) fun a=>some ((!a.1),())) (some (false,())))) (br (!(d.2.1.toList==(⟨#[]⟩:fi).toList)) (bd (aO.f c d.2.1 e.2.1) fun a=>br (e.2.2.1.toList==(⟨#[]⟩:fi).toList) (br (!a.1) (some (true,())) (some (false,()))) (br (!(d.2.2.1.toList==(⟨#[]⟩:fi).toList)) (bd (aO.f c e.2.2.1 d.2.2.1) fun b=>br (!a.1) (some ((!b.1),())) (some (false,()))) (br (!a.1) (some (false,())) (some (false,()))))) (br (e.2.2.1.toList==(⟨#[]⟩:fi).toList) (some (false,())) (br (!(d.2.2.1.toList==(⟨#[]⟩:fi).toList)) (bd (aO.f c e.2.2.1 d.2.2.1) fun a=>some (false,())) (some (false,())))))))
def E(c:Nat):Entry:=⟨[yI,yI],[.bool],fun x=>f c x.1 x.2.1⟩
theorem ok(c:Nat):Ok 322 (E c):=fp c (tC (aO.ok c) tN) fun x=>θ
end lS
end
end Go.Q
namespace Go.Q
open Go Go.RowKit
open Go.Rx (br bd sIdx sCat sCut iQuo iRem iShl)
noncomputable section
namespace jk
def f(c:Nat)(j:TI)(k:TI):fo TI:=br j.1 (bd (aA.f c) fun a=>some (a.1,())) (br k.1 (bd (aA.f c) fun a=>some (a.1,())) (br (k.2.1.toList==k.2.2.1.toList) (br (!(j.2.1.toList==(⟨#[]⟩:fi).toList)) (br (!(j.2.2.1.toList==(⟨#[]⟩:fi).toList)) (bd (aJ.f c j.2.1 k.2.1) fun a=>bd (aJ.f c j.2.2.1 k.2.1) fun b=>br (a.1.toList==b.1.toList) (bd (bU.f c j.2.1 k.2.1) fun d=>bd (bU.f c j.2.2.1 k.2.1) fun e=>bd (ax.f c d.1 e.1) fun g=>some (g.1,())) (bd (aT.f c k.2.1 (⟨#[49]⟩:fi)) fun d=>bd (ax.f c (⟨#[48]⟩:fi) d.1) fun e=>some (e.1,()))) (bd (aT.f c k.2.1 (⟨#[49]⟩:fi)) fun a=>bd (ax.f c (⟨#[48]⟩:fi) a.1) fun b=>some (b.1,()))) (bd (aT.f c k.2.1 (⟨#[49]⟩:fi)) fun a=>bd (ax.f c (⟨#[48]⟩:fi) a.1) fun b=>some (b.1,()))) (bd (aT.f c k.2.1 (⟨#[49]⟩:fi)) fun a=>bd (ax.f c (⟨#[48]⟩:fi) a.1) fun b=>bd (lS.f c j b.1) fun d=>br d.1 (some (j,())) (bd (fK.f c k.2.2.1 (⟨#[45,49]⟩:fi)) fun e=>br (!(j.2.1.toList==(⟨#[]⟩:fi).toList)) (bd (bF.f c j.2.1) fun g=>br (decide (g.1≥0)) (bd (dQ.f c e.1 j.2.2.1) fun h=>bd (ax.f c (⟨#[48]⟩:fi) h.1) fun i=>some (i.1,())) (bd (ax.f c (⟨#[48]⟩:fi) e.1) fun h=>some (h.1,()))) (bd (ax.f c (⟨#[48]⟩:fi) e.1) fun g=>some (g.1,()))))))
def E(c:Nat):Entry:=⟨[yI,yI],[yI],fun x=>f c x.1 x.2.1⟩
theorem ok(c:Nat):Ok 266 (E c):=fp c (tC (bF.ok c) (tC (ax.ok c) (tC (aA.ok c) (tC (dQ.ok c) (tC (fK.ok c) (tC (bU.ok c) (tC (aT.ok c) (tC (aJ.ok c) (tC (lS.ok c) tN))))))))) fun x=>θ
end jk
namespace lT
def f(c:Nat)(l:TI)(m:TI):fo TI:=bd (fZ.f c m) fun a=>bd (idxL a.1 2) fun b=>bd (jk.f c l b) fun d=>bd (bG.f c l) fun e=>bd (idxL a.1 0) fun g=>bd (bG.f c g) fun h=>bd (jk.f c e.1 h.1) fun i=>bd (bG.f c i.1) fun j=>bd (dU.f c d.1 j.1) fun k=>some (k.1,())
def E(c:Nat):Entry:=⟨[yI,yI],[yI],fun x=>f c x.1 x.2.1⟩
theorem ok(c:Nat):Ok 161 (E c):=fp c (tC (bG.ok c) (tC (fZ.ok c) (tC (dU.ok c) (tC (jk.ok c) tN)))) fun x=>θ
end lT
end
end Go.Q
namespace Go.Q
open Go Go.RowKit
open Go.Rx (br bd sIdx sCat sCut iQuo iRem iShl)
noncomputable section
namespace iU
def f(c:Nat)(a:fi)(b:Int):fo fi:=some (a,())
def E(c:Nat):Entry:=⟨[.str,(.int .i64)],[.str],fun x=>f c x.1 x.2.1⟩
theorem ok(c:Nat):Ok 219 (E c):=fp c tN fun x=>θ
end iU
namespace eG
def f(c:Nat)(a:TV)(b:Int):fo TV:=some (a,())
def E(c:Nat):Entry:=⟨[yV,(.int .i64)],[yV],fun x=>f c x.1 x.2.1⟩
theorem ok(c:Nat):Ok 62 (E c):=fp c tN fun x=>θ
end eG
namespace oH
def f(c:Nat)(a:TI)(b:Int):fo TI:=some (a,())
def E(c:Nat):Entry:=⟨[yI,(.int .i64)],[yI],fun x=>f c x.1 x.2.1⟩
theorem ok(c:Nat):Ok 204 (E c):=fp c tN fun x=>θ
end oH
namespace fQ
def f(c:Nat)(a:fi)(b:Int):fo fi:=some (a,())
def E(c:Nat):Entry:=⟨[.str,(.int .i64)],[.str],fun x=>f c x.1 x.2.1⟩
theorem ok(c:Nat):Ok 205 (E c):=fp c tN fun x=>θ
end fQ
end
end Go.Q
namespace Go.Q
open Go Go.RowKit
open Go.Rx (br bd sIdx sCat sCut iQuo iRem iShl)
noncomputable section
namespace jg
def f(c:Nat)(a:fi):fo Bool:=bd (strings_TrimPrefix.f c a (⟨#[45]⟩:fi)) fun r1=>some ((decide ((r1.1.size:Int) > 100)),())
def E(c:Nat):Entry:=⟨[.str],[.bool],fun x=>f c x.1⟩
theorem ok(c:Nat):Ok 273 (E c):=fp c (tC (strings_TrimPrefix.ok c) tN) fun x=>θ
end jg
namespace lX
def f(c:Nat)(a:fi):fo Int:=bd (dK.f c a) fun r1=>br (r1.1==10) (some (10,())) (br (r1.1==0) (bd (jg.f c a) fun r2=>br r2.1 (some (10,())) (br (r1.1 != 0) (some (r1.1,())) (some (0,())))) (br (r1.1 != 0) (some (r1.1,())) (some (0,()))))
def E(c:Nat):Entry:=⟨[.str],[(.int .i64)],fun x=>f c x.1⟩
theorem ok(c:Nat):Ok 197 (E c):=fp c (tC (dK.ok c) (tC (jg.ok c) tN)) fun x=>θ
end lX
namespace oN
def f(c:Nat)(a:Int)(b:Int):fo Int:=some (a,())
def E(c:Nat):Entry:=⟨[(.int .i64),(.int .i64)],[(.int .i64)],fun x=>f c x.1 x.2.1⟩
theorem ok(c:Nat):Ok 284 (E c):=fp c tN fun x=>θ
end oN
namespace jf
def f(c:Nat)(a:fi)(b:fi):fo Bool:=bd (je.f c a b) fun r1=>bd (oN.f c r1.1 r1.2.1) fun r2=>some ((decide (r2.1 < 0)),())
def E(c:Nat):Entry:=⟨[.str,.str],[.bool],fun x=>f c x.1 x.2.1⟩
theorem ok(c:Nat):Ok 198 (E c):=fp c (tC (je.ok c) (tC (oN.ok c) tN)) fun x=>θ
end jf
namespace gu
def f(c:Nat)(h:TI):fo Int:=br h.1 (br (!(h.2.1.toList==(⟨#[]⟩:fi).toList)) (some (3,())) (br (!(h.2.2.1.toList==(⟨#[]⟩:fi).toList)) (some (3,())) (some (0,())))) (bd (lX.f c h.2.1) fun a=>br (a.1 != 0) (some (a.1,())) (bd (lX.f c h.2.2.1) fun b=>br (b.1 != 0) (some (b.1,())) (bd (jf.f c h.2.1 (⟨#[48]⟩:fi)) fun d=>br d.1 (some (2,())) (br (!(h.2.1.toList==(⟨#[48]⟩:fi).toList)) (bd (jf.f c h.2.2.1 (⟨#[48]⟩:fi)) fun e=>br e.1 (some (2,())) (bd (jf.f c h.2.2.1 h.2.1) fun g=>br (!g.1) (some (2,())) (some (0,())))) (some (0,()))))))
def E(c:Nat):Entry:=⟨[yI],[(.int .i64)],fun x=>f c x.1⟩
theorem ok(c:Nat):Ok 111 (E c):=fp c (tC (lX.ok c) (tC (jf.ok c) tN)) fun x=>θ
end gu
namespace iJ
def f(c:Nat)(a:fi)(b:fi):fo fi:=bd (lG.f c a b) fun r1=>bd (iU.f c r1.1 r1.2.1) fun r2=>some (r2.1,())
def E(c:Nat):Entry:=⟨[.str,.str],[.str],fun x=>f c x.1 x.2.1⟩
theorem ok(c:Nat):Ok 177 (E c):=fp c (tC (lG.ok c) (tC (iU.ok c) tN)) fun x=>θ
end iJ
namespace kN
def f(c:Nat)(h:fi)(i:fi)(g:fi):Option (fi×Int×Unit):=bd (jE.f c h g) fun a=>br (a.2.1 != 0) (some ((⟨#[]⟩:fi),a.2.1,())) (bd (jE.f c i g) fun b=>br (b.2.1 != 0) (some ((⟨#[]⟩:fi),b.2.1,())) (bd (iJ.f c a.1 b.1) fun d=>bd (jE.f c d.1 g) fun e=>some (e.1,e.2.1,())))
def E(c:Nat):Entry:=⟨[.str,.str,.str],[.str,(.int .i64)],fun x=>f c x.1 x.2.1 x.2.2.1⟩
theorem ok(c:Nat):Ok 287 (E c):=fp c (tC (iJ.ok c) (tC (jE.ok c) tN)) fun x=>θ
end kN
namespace oQ
def f(c:Nat)(g:TI)(h:fi):Option (fi×Int×Unit):=bd (gu.f c g) fun a=>br (a.1 != 0) (some ((⟨#[]⟩:fi),a.1,())) (bd (dK.f c h) fun b=>br (b.1 != 0) (some ((⟨#[]⟩:fi),b.1,())) (br g.1 (some ((⟨#[]⟩:fi),16,())) (br (!(g.2.1.toList==(⟨#[48]⟩:fi).toList)) (bd (kN.f c g.2.2.1 h g.2.1) fun d=>br (d.2.1 != 0) (some ((⟨#[]⟩:fi),d.2.1,())) (bd (kM.f c h d.1) fun e=>some (e.1,e.2.1,()))) (bd (jf.f c g.2.2.1 h) fun d=>br d.1 (some ((⟨#[]⟩:fi),6,())) (some (g.2.2.1,0,()))))))
def E(c:Nat):Entry:=⟨[yI,.str],[.str,(.int .i64)],fun x=>f c x.1 x.2.1⟩
theorem ok(c:Nat):Ok 200 (E c):=fp c (tC (gu.ok c) (tC (dK.ok c) (tC (jf.ok c) (tC (kM.ok c) (tC (kN.ok c) tN))))) fun x=>θ
end oQ
namespace kR
def f(c:Nat)(g:TI)(h:fi):Option (fi×Int×Unit):=bd (gu.f c g) fun a=>br (a.1 != 0) (some ((⟨#[]⟩:fi),a.1,())) (bd (dK.f c h) fun b=>br (b.1 != 0) (some ((⟨#[]⟩:fi),b.1,())) (br g.1 (some ((⟨#[]⟩:fi),16,())) (br (!(g.2.1.toList==(⟨#[48]⟩:fi).toList)) (bd (kN.f c h g.2.2.1 g.2.1) fun d=>br (d.2.1 != 0) (some ((⟨#[]⟩:fi),d.2.1,())) (bd (lG.f c h d.1) fun e=>some (e.1,e.2.1,()))) (bd (jf.f c h g.2.2.1) fun d=>br d.1 (some ((⟨#[]⟩:fi),6,())) (some (g.2.2.1,0,()))))))
def E(c:Nat):Entry:=⟨[yI,.str],[.str,(.int .i64)],fun x=>f c x.1 x.2.1⟩
theorem ok(c:Nat):Ok 201 (E c):=fp c (tC (gu.ok c) (tC (dK.ok c) (tC (jf.ok c) (tC (lG.ok c) (tC (kN.ok c) tN))))) fun x=>θ
end kR
namespace aW
def f(c:Nat)  : fo TI:=some ((true,(⟨#[]⟩:fi),(⟨#[]⟩:fi),()),())
def E(c:Nat):Entry:=⟨[],[yI],fun x=>f c⟩
theorem ok(c:Nat):Ok 217 (E c):=fp c tN fun x=>θ
end aW
namespace eP
def f(c:Nat)(a:TI)(b:TI):fo Int:=bd (gu.f c a) fun r1=>br (r1.1 != 0) (some (r1.1,())) (bd (gu.f c b) fun r2=>some (r2.1,()))
def E(c:Nat):Entry:=⟨[yI,yI],[(.int .i64)],fun x=>f c x.1 x.2.1⟩
theorem ok(c:Nat):Ok 221 (E c):=fp c (tC (gu.ok c) tN) fun x=>θ
end eP
namespace gZ
def f(c:Nat)  : fo TI:=some ((false,(⟨#[49]⟩:fi),(⟨#[48]⟩:fi),()),())
def E(c:Nat):Entry:=⟨[],[yI],fun x=>f c⟩
theorem ok(c:Nat):Ok 274 (E c):=fp c tN fun x=>θ
end gZ
namespace dL
def f(c:Nat)(k:fi)(j:fi):fo TI:=bd (vN.f c k) fun a=>bd (iU.f c a.1 a.2.1) fun b=>br (!(b.1.toList==(⟨#[48]⟩:fi).toList)) (bd (jE.f c j b.1) fun d=>bd (iU.f c d.1 d.2.1) fun e=>bd (jg.f c b.1) fun g=>br g.1 (bd (gZ.f c) fun h=>some (h.1,())) (bd (jg.f c e.1) fun h=>br h.1 (bd (gZ.f c) fun i=>some (i.1,())) (some ((false,b.1,e.1,()),())))) (bd (jg.f c b.1) fun d=>br d.1 (bd (gZ.f c) fun e=>some (e.1,())) (bd (jg.f c j) fun e=>br e.1 (bd (gZ.f c) fun g=>some (g.1,())) (some ((false,b.1,j,()),()))))
def E(c:Nat):Entry:=⟨[.str,.str],[yI],fun x=>f c x.1 x.2.1⟩
theorem ok(c:Nat):Ok 172 (E c):=fp c (tC (iU.ok c) (tC (vN.ok c) (tC (jE.ok c) (tC (jg.ok c) (tC (gZ.ok c) tN))))) fun x=>θ
end dL
namespace dZ
def f(c:Nat)(a:fi)(b:fi):fo fi:=bd (vO.f c a b) fun r1=>bd (iU.f c r1.1 r1.2.1) fun r2=>some (r2.1,())
def E(c:Nat):Entry:=⟨[.str,.str],[.str],fun x=>f c x.1 x.2.1⟩
theorem ok(c:Nat):Ok 173 (E c):=fp c (tC (iU.ok c) (tC (vO.ok c) tN)) fun x=>θ
end dZ
namespace qX
def f(c:Nat)(e:TI)(g:TI):fo TI:=bd (dZ.f c e.2.1 g.2.1) fun a=>bd (iJ.f c e.2.2.1 g.2.2.1) fun b=>bd (dL.f c a.1 b.1) fun d=>some (d.1,())
def E(c:Nat):Entry:=⟨[yI,yI],[yI],fun x=>f c x.1 x.2.1⟩
theorem ok(c:Nat):Ok 176 (E c):=fp c (tC (dL.ok c) (tC (dZ.ok c) (tC (iJ.ok c) tN))) fun x=>θ
end qX
namespace nJ
def f(c:Nat)(d:TI)(e:TI):Option (TI×Int×Unit):=bd (eP.f c d e) fun a=>br (a.1 != 0) (some ((false,(⟨#[]⟩:fi),(⟨#[]⟩:fi),()),a.1,())) (br d.1 (bd (aW.f c) fun b=>some (b.1,0,())) (br e.1 (bd (aW.f c) fun b=>some (b.1,0,())) (bd (qX.f c d e) fun b=>some (b.1,0,()))))
def E(c:Nat):Entry:=⟨[yI,yI],[yI,(.int .i64)],fun x=>f c x.1 x.2.1⟩
theorem ok(c:Nat):Ok 98 (E c):=fp c (tC (qX.ok c) (tC (aW.ok c) (tC (eP.ok c) tN))) fun x=>θ
end nJ
namespace ig
def f(c:Nat)(a:fi):fo TI:=some ((false,(⟨#[48]⟩:fi),a,()),())
def E(c:Nat):Entry:=⟨[.str],[yI],fun x=>f c x.1⟩
theorem ok(c:Nat):Ok 169 (E c):=fp c tN fun x=>θ
end ig
namespace qJ
def f(c:Nat)(a:TI):Option (TI×Int×Unit):=bd (ig.f c (⟨#[48]⟩:fi)) fun r1=>bd (nJ.f c r1.1 a) fun r2=>some (r2.1,r2.2.1,())
def E(c:Nat):Entry:=⟨[yI],[yI,(.int .i64)],fun x=>f c x.1⟩
theorem ok(c:Nat):Ok 94 (E c):=fp c (tC (nJ.ok c) (tC (ig.ok c) tN)) fun x=>θ
end qJ
namespace nK
def f(c:Nat)(a:fi)(b:fi):fo fi:=bd (kM.f c a b) fun r1=>bd (iU.f c r1.1 r1.2.1) fun r2=>some (r2.1,())
def E(c:Nat):Entry:=⟨[.str,.str],[.str],fun x=>f c x.1 x.2.1⟩
theorem ok(c:Nat):Ok 174 (E c):=fp c (tC (kM.ok c) (tC (iU.ok c) tN)) fun x=>θ
end nK
namespace qV
def f(c:Nat)(e:TI)(g:TI):fo TI:=bd (dZ.f c e.2.1 g.2.1) fun a=>bd (nK.f c e.2.2.1 g.2.2.1) fun b=>bd (dL.f c a.1 b.1) fun d=>some (d.1,())
def E(c:Nat):Entry:=⟨[yI,yI],[yI],fun x=>f c x.1 x.2.1⟩
theorem ok(c:Nat):Ok 171 (E c):=fp c (tC (dL.ok c) (tC (dZ.ok c) (tC (nK.ok c) tN))) fun x=>θ
end qV
namespace qG
def f(c:Nat)(d:TI)(e:TI):Option (TI×Int×Unit):=bd (eP.f c d e) fun a=>br (a.1 != 0) (some ((false,(⟨#[]⟩:fi),(⟨#[]⟩:fi),()),a.1,())) (br d.1 (bd (aW.f c) fun b=>some (b.1,0,())) (br e.1 (bd (aW.f c) fun b=>some (b.1,0,())) (bd (qV.f c d e) fun b=>some (b.1,0,()))))
def E(c:Nat):Entry:=⟨[yI,yI],[yI,(.int .i64)],fun x=>f c x.1 x.2.1⟩
theorem ok(c:Nat):Ok 96 (E c):=fp c (tC (qV.ok c) (tC (aW.ok c) (tC (eP.ok c) tN))) fun x=>θ
end qG
namespace jG
def f(c:Nat)(a:fi)(b:fi):fo fi:=bd (lF.f c a b) fun r1=>bd (iU.f c r1.1 r1.2.1) fun r2=>some (r2.1,())
def E(c:Nat):Entry:=⟨[.str,.str],[.str],fun x=>f c x.1 x.2.1⟩
theorem ok(c:Nat):Ok 181 (E c):=fp c (tC (lF.ok c) (tC (iU.ok c) tN)) fun x=>θ
end jG
namespace qW
def f(c:Nat)(j:TI)(k:TI):fo TI:=bd (jG.f c j.2.1 k.2.1) fun a=>bd (jG.f c j.2.1 k.2.2.1) fun b=>bd (jG.f c k.2.1 j.2.2.1) fun d=>bd (dZ.f c b.1 d.1) fun e=>bd (dZ.f c a.1 e.1) fun g=>bd (jG.f c j.2.2.1 k.2.2.1) fun h=>bd (dL.f c g.1 h.1) fun i=>some (i.1,())
def E(c:Nat):Entry:=⟨[yI,yI],[yI],fun x=>f c x.1 x.2.1⟩
theorem ok(c:Nat):Ok 180 (E c):=fp c (tC (dL.ok c) (tC (dZ.ok c) (tC (jG.ok c) tN))) fun x=>θ
end qW
namespace qI
def f(c:Nat)(d:TI)(e:TI):Option (TI×Int×Unit):=bd (eP.f c d e) fun a=>br (a.1 != 0) (some ((false,(⟨#[]⟩:fi),(⟨#[]⟩:fi),()),a.1,())) (br d.1 (bd (aW.f c) fun b=>some (b.1,0,())) (br e.1 (bd (aW.f c) fun b=>some (b.1,0,())) (bd (qW.f c d e) fun b=>some (b.1,0,()))))
def E(c:Nat):Entry:=⟨[yI,yI],[yI,(.int .i64)],fun x=>f c x.1 x.2.1⟩
theorem ok(c:Nat):Ok 100 (E c):=fp c (tC (qW.ok c) (tC (aW.ok c) (tC (eP.ok c) tN))) fun x=>θ
end qI
namespace fM
def f(c:Nat)(a:fi)(b:fi):fo Bool:=br (a.toList==(⟨#[48]⟩:fi).toList) (some ((b.toList==(⟨#[48]⟩:fi).toList),())) (bd (jE.f c b a) fun r1=>bd (iU.f c r1.1 r1.2.1) fun r2=>some ((r2.1.toList==(⟨#[48]⟩:fi).toList),()))
def E(c:Nat):Entry:=⟨[.str,.str],[.bool],fun x=>f c x.1 x.2.1⟩
theorem ok(c:Nat):Ok 216 (E c):=fp c (tC (iU.ok c) (tC (jE.ok c) tN)) fun x=>θ
end fM
namespace sJ
def f(c:Nat)(k:TI)(l:TI):fo TI:=bd (ig.f c (⟨#[48]⟩:fi)) fun a=>bd (some ((l.1==a.1.1)&&((l.2.1==a.1.2.1)&&((l.2.2.1==a.1.2.2.1)&&true)))) fun b=>br b (bd (aW.f c) fun d=>some (d.1,())) (br (!(l.2.1.toList==(⟨#[48]⟩:fi).toList)) (bd (ig.f c (⟨#[48]⟩:fi)) fun d=>bd (some ((k.1==d.1.1)&&((k.2.1==d.1.2.1)&&((k.2.2.1==d.1.2.2.1)&&true)))) fun e=>br e (some (k,())) (bd (gZ.f c) fun g=>some (g.1,()))) (bd (fM.f c l.2.2.1 k.2.1) fun d=>br d.1 (bd (iE.f c k.2.1 l.2.2.1) fun e=>bd (iU.f c e.1 e.2.1) fun g=>bd (iE.f c k.2.2.1 l.2.2.1) fun h=>bd (iU.f c h.1 h.2.1) fun i=>bd (dL.f c g.1 i.1) fun j=>some (j.1,())) (bd (gZ.f c) fun e=>some (e.1,()))))
def E(c:Nat):Entry:=⟨[yI,yI],[yI],fun x=>f c x.1 x.2.1⟩
theorem ok(c:Nat):Ok 185 (E c):=fp c (tC (ig.ok c) (tC (dL.ok c) (tC (iE.ok c) (tC (fM.ok c) (tC (aW.ok c) (tC (iU.ok c) (tC (gZ.ok c) tN))))))) fun x=>θ
end sJ
end
end Go.Q
namespace Go.Q
open Go Go.RowKit
open Go.Rx (br bd sIdx sCat sCut iQuo iRem iShl)
noncomputable section
namespace qK
def f(c:Nat)(d:TI)(e:TI):Option (TI×Int×Unit):=bd (eP.f c d e) fun a=>br (a.1 != 0) (some ((false,(⟨#[]⟩:fi),(⟨#[]⟩:fi),()),a.1,())) (br d.1 (bd (aW.f c) fun b=>some (b.1,0,())) (br e.1 (bd (aW.f c) fun b=>some (b.1,0,())) (bd (sJ.f c d e) fun b=>some (b.1,0,()))))
def E(c:Nat):Entry:=⟨[yI,yI],[yI,(.int .i64)],fun x=>f c x.1 x.2.1⟩
theorem ok(c:Nat):Ok 102 (E c):=fp c (tC (sJ.ok c) (tC (aW.ok c) (tC (eP.ok c) tN))) fun x=>θ
end qK
namespace rQ
def f(c:Nat)(j:TI)(i:TI):fo TI:=bd (ig.f c (⟨#[48]⟩:fi)) fun a=>bd (some ((i.1==a.1.1)&&((i.2.1==a.1.2.1)&&((i.2.2.1==a.1.2.2.1)&&true)))) fun b=>br b (bd (aW.f c) fun d=>some (d.1,())) (br (i.2.1.toList==(⟨#[48]⟩:fi).toList) (bd (fM.f c i.2.2.1 j.2.1) fun d=>br d.1 (bd (jE.f c j.2.2.1 i.2.2.1) fun e=>bd (iU.f c e.1 e.2.1) fun g=>bd (dL.f c (⟨#[48]⟩:fi) g.1) fun h=>some (h.1,())) (bd (dZ.f c i.2.1 i.2.2.1) fun e=>bd (dZ.f c j.2.1 e.1) fun g=>bd (dL.f c g.1 j.2.2.1) fun h=>some (h.1,()))) (bd (dZ.f c i.2.1 i.2.2.1) fun d=>bd (dZ.f c j.2.1 d.1) fun e=>bd (dL.f c e.1 j.2.2.1) fun g=>some (g.1,())))
def E(c:Nat):Entry:=⟨[yI,yI],[yI],fun x=>f c x.1 x.2.1⟩
theorem ok(c:Nat):Ok 187 (E c):=fp c (tC (ig.ok c) (tC (dL.ok c) (tC (dZ.ok c) (tC (fM.ok c) (tC (aW.ok c) (tC (iU.ok c) (tC (jE.ok c) tN))))))) fun x=>θ
end rQ
namespace qM
def f(c:Nat)(d:TI)(e:TI):Option (TI×Int×Unit):=bd (eP.f c d e) fun a=>br (a.1 != 0) (some ((false,(⟨#[]⟩:fi),(⟨#[]⟩:fi),()),a.1,())) (br d.1 (bd (aW.f c) fun b=>some (b.1,0,())) (br e.1 (bd (aW.f c) fun b=>some (b.1,0,())) (bd (rQ.f c d e) fun b=>some (b.1,0,()))))
def E(c:Nat):Entry:=⟨[yI,yI],[yI,(.int .i64)],fun x=>f c x.1 x.2.1⟩
theorem ok(c:Nat):Ok 104 (E c):=fp c (tC (rQ.ok c) (tC (aW.ok c) (tC (eP.ok c) tN))) fun x=>θ
end qM
namespace lW
def f(c:Nat)(e:TI)(g:TI):fo Bool:=br e.1 (some (e.1,())) (br g.1 (some (e.1,())) (bd (fM.f c g.2.1 e.2.1) fun a=>br a.1 (bd (iJ.f c e.2.2.1 g.2.2.1) fun b=>bd (fM.f c g.2.1 b.1) fun d=>some (d.1,())) (some (false,()))))
def E(c:Nat):Entry:=⟨[yI,yI],[.bool],fun x=>f c x.1 x.2.1⟩
theorem ok(c:Nat):Ok 215 (E c):=fp c (tC (iJ.ok c) (tC (fM.ok c) tN)) fun x=>θ
end lW
namespace rP
def f(c:Nat)(q:TI)(r:TI):fo TI:=bd (lW.f c q r) fun a=>br a.1 (some (q,())) (bd (lW.f c r q) fun b=>br b.1 (some (r,())) (bd (dZ.f c q.2.1 r.2.1) fun d=>bd (iJ.f c r.2.2.1 q.2.2.1) fun e=>br (q.2.1.toList==(⟨#[48]⟩:fi).toList) (bd (aW.f c) fun g=>some (g.1,())) (br (r.2.1.toList==(⟨#[48]⟩:fi).toList) (bd (aW.f c) fun g=>some (g.1,())) (bd (fM.f c d.1 e.1) fun g=>br (!g.1) (bd (aW.f c) fun h=>some (h.1,())) (bd (dX.f c q.2.1 r.2.1) fun h=>bd (iE.f c e.1 d.1) fun i=>bd (iU.f c i.1 i.2.1) fun j=>bd (jG.f c h.2.1 j.1) fun k=>bd (vP.f c q.2.1 r.2.1) fun l=>bd (iU.f c l.1 l.2.1) fun m=>bd (jG.f c k.1 q.2.1) fun n=>bd (nK.f c q.2.2.1 n.1) fun o=>bd (dL.f c m.1 o.1) fun p=>some (p.1,()))))))
def E(c:Nat):Entry:=⟨[yI,yI],[yI],fun x=>f c x.1 x.2.1⟩
theorem ok(c:Nat):Ok 122 (E c):=fp c (tC (dL.ok c) (tC (dZ.ok c) (tC (nK.ok c) (tC (iJ.ok c) (tC (jG.ok c) (tC (iE.ok c) (tC (lW.ok c) (tC (fM.ok c) (tC (aW.ok c) (tC (dX.ok c) (tC (iU.ok c) (tC (vP.ok c) tN)))))))))))) fun x=>θ
end rP
namespace qi
def f(c:Nat)(d:TI)(e:TI):Option (TI×Int×Unit):=bd (eP.f c d e) fun a=>br (a.1 != 0) (some ((false,(⟨#[]⟩:fi),(⟨#[]⟩:fi),()),a.1,())) (br d.1 (bd (aW.f c) fun b=>some (b.1,0,())) (br e.1 (bd (aW.f c) fun b=>some (b.1,0,())) (bd (rP.f c d e) fun b=>some (b.1,0,()))))
def E(c:Nat):Entry:=⟨[yI,yI],[yI,(.int .i64)],fun x=>f c x.1 x.2.1⟩
theorem ok(c:Nat):Ok 72 (E c):=fp c (tC (rP.ok c) (tC (aW.ok c) (tC (eP.ok c) tN))) fun x=>θ
end qi
end
end Go.Q
