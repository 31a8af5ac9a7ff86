import Derived.Test.YtnjnggbibpnkbaaGreatDoorEIG9
set_option linter.all false
set_option maxRecDepth 100000
set_option maxHeartbeats 40000000
open Go.Proofs.Tryz renaming prog→y5
namespace Go.Q
open Go.IntKind (i64)
open Go Go.RowKit
open Go.Rx (br bd sIdx sCat sCut iQuo iRem iShl)
noncomputable section
namespace jh
def anns:FuncId→FA:=annsL [(25,⟨annOf [(0,⟨kx 24 [9,10,11],[],[]⟩,⟨kx 24 [2],[],[]⟩)],none,[]⟩)]
def r0{ρ:Type}(c:Nat)(e:List TV)(g:Int)(a:Int)(K:Int→Option ρ)(E0:Int→Option ρ)(d:Option ρ):Option ρ:=br (decide (a < g)) (bd (idxL e a) fun b=>bd (iK.f c b) fun r2=>br (r2.1 != 0) (
 E0 r2.1) (br b.1.1 (
 E0 16) (
 K (i64.wrap (a+1))))) (
 d)
def l0(c:Nat)(a:List TV)(b:Int):Nat→Int→Option (Bool×(Int×Unit)×(Unit)×Unit)
 | 0,_=>none
 | n+1,v2=>r0 c a b v2 (l0 c a b n) (fun d=>some (true,(d,()),((()),()))) (some (false,(0,()),((()),())))
def sh0:ShS:=⟨[.a 9,.s (.sl yV),.s (.int .i64),.s (.int .i64),.a 12],[]⟩
def S0(p:(List TV)×Int×Int×Unit):St:=sh0.b p
def xh0:ShS:=⟨[.a 2,.s (.int .i64),.a 21],[]⟩
def xh1:ShS:=⟨[.a 24],[]⟩
def o0(a:List TV)(c:Int)(y:Bool×(Int×Unit)×(Unit)×Unit):Alt:=.two y.1 (.one .ret (xh0.b (y.2.1.1,()))) (.one (.exit 0) (xh1.b (())))
def tb(c:Nat):List (FuncId×Entry):=[(27,iK.E c)]
def ahl(c:Nat):List (Nat×(St→Option LTE)):=[(0,sumE sh0 fun(p:(List TV)×Int×Int×Unit)=>⟨Bool×(Int×Unit)×(Unit)×Unit,l0 c p.1 p.2.1 (c+40) p.2.2.1,o0 p.1 p.2.1⟩)]
def ls(c:Nat):List (Nat×FuncId×Sums):=[(13,25,sumsL (ahl c))]
def it0{ρ:Type}(c n:Nat)(a:St)(k:KE ρ):Option ρ:=itG anns (ls c) (tb c) c 13 25 0 0 (sumsL (ahl c)) n a k
theorem t0{ρ:Type}(c n:Nat)(a:List TV)(d e:Int)(k:KE ρ):it0 c (n+1) (S0 (a,d,e,())) k=r0 c a d e (fun g=>it0 c n (S0 (a,d,g,())) k) (fun f=>k .ret (xh0.b (f,()))) (k (.exit 0) (xh1.b (()))):=θ
theorem u0{ρ:Type}(c:Nat)(a:List TV)(b:Int)(k:KE ρ):∀ (n:Nat) (d:Int),it0 c n (S0 (a,b,d,())) k=bd (l0 c a b n d) fun y=>altK k (o0 a b y)
 | 0,_=>by rw[l0,bd_none];rfl
 | n+1,d=>by
  rw[t0];simp only[l0,r0,u0 c a b k n,bd_br,bd_bd,bd_some',bd_none,br_t,br_f,o0,altK]
theorem sl(c:Nat):SL anns (ls c) (tb c) c (ls c):=slC (laC (fun _=>θ) (fun _ (x:(List TV)×Int×Int×Unit) k=>dJ (u0 c x.1 x.2.1 k (c+40) x.2.2.1)) laN) slN
def f(c:Nat)(a:List TV):fm Int:=br (decide ((a.length:Int) > 32)) (some (5,())) (bd (l0 c a (a.length:Int) (c+40) 0) fun b=>br b.1 (some (b.2.1.1,())) (some (0,())))
def E(c:Nat):Entry:=⟨[(.sl yV)],[(.int .i64)],fun x=>f c x.1⟩
theorem ok(c:Nat):Ok 25 (E c):=okL (tC (iK.ok c) tN) (aoC aoN) (sl c) fun x=>θ
end jh
namespace kS
def f(c:Nat)(a:List TV)(b:Bool):Option ((List TV)×Bool×Int×Unit):=br (!b) (some ([],false,0,())) (br (decide (0 < a.length)) (bd (apL true 80 [] a) fun d=>some (d,true,0,())) (chs [(bd (apL true 80 [] a) fun e=>some (e,true,0,())),(some ([],true,0,()))]))
def E(c:Nat):Entry:=⟨[(.sl yV),.bool],[(.sl yV),.bool,(.int .i64)],fun x=>f c x.1 x.2.1⟩
theorem ok(c:Nat):Ok 28 (E c):=fo c tN fun x=>θ
end kS
namespace aco
def f(c:Nat)(a:fg):fm TV:=bd (xU.f c a) fun r1=>bd (dX.f c r1.1 r1.2.1) fun r2=>some (r2.1,())
def E(c:Nat):Entry:=⟨[.str],[yV],fun x=>f c x.1⟩
theorem ok(c:Nat):Ok 67 (E c):=fo c (tC (dX.ok c) (tC (xU.ok c) tN)) fun x=>θ
end aco
namespace bn
def fb(c:Nat)(n:(List TV)→EX→fm TV)(m:List TV)(k:EX):fm TV:=br (k.i==0) (bd (aco.f c k.s) fun a=>some (a.1,())) (br (k.i==1) (bd (idxL m k.j) fun a=>some (a,())) (br (k.i==2) (bd (idxL k.l 0) fun a=>bd (n m (EX.mk a.i a.s a.j a.l)) fun b=>bd (uj.f c b.1) fun d=>bd (dX.f c d.1 d.2.1) fun e=>some (e.1,())) (bd (idxL k.l 0) fun a=>bd (n m (EX.mk a.i a.s a.j a.l)) fun b=>bd (idxL k.l 1) fun d=>bd (n m (EX.mk d.i d.s d.j d.l)) fun e=>bd (qG.f c k.i b.1 e.1) fun g=>bd (dX.f c g.1 g.2.1) fun h=>some (h.1,()))))
def f(c:Nat):(List TV)→EX→fm TV:=c.rec (fun _ _=>none) fun c a=>fb c a
def E(c:Nat):Entry:=⟨[(.sl yV),(.rc false)],[yV],fun x=>f c x.1 x.2.1⟩
def anns:FuncId→FA:=annsL [(35,⟨annOf [],none,[13]⟩)]
theorem ok:∀ c:Nat,Ok 35 (E c)
 | 0=>okZ fun _=>rfl
 | c+1=>okT (an:=anns) (lf:=c) (tC (ok c) (tC (dX.ok c) (tC (uj.ok c) (tC (aco.ok c) (tC (qG.ok c) tN))))) (aoC aoN) fun x=>θ
end bn
namespace jo
def f(c:Nat)(e:List TV)(h:Int)(g:TV):Option ((List TV)×Bool×Unit):=br g.1.1 (some ([],false,())) (br (decide (0 < e.length)) (bd (apL true 80 [] e) fun a=>bd (idxB a.length h) fun b=>bd (upE a b fun _=>some g) fun d=>some (d,true,())) (chs [(bd (apL true 80 [] e) fun a=>bd (idxB a.length h) fun b=>bd (upE a b fun _=>some g) fun d=>some (d,true,())),(none)]))
def E(c:Nat):Entry:=⟨[(.sl yV),(.int .i64),yV],[(.sl yV),.bool],fun x=>f c x.1 x.2.1 x.2.2.1⟩
theorem ok(c:Nat):Ok 37 (E c):=fo c tN fun x=>θ
end jo
namespace fM
def f(c:Nat)(a:TV)(b:TV):fm TV:=bd (nD.f c a b) fun r1=>bd (dX.f c r1.1 r1.2.1) fun r2=>some (r2.1,())
def E(c:Nat):Entry:=⟨[yV,yV],[yV],fun x=>f c x.1 x.2.1⟩
theorem ok(c:Nat):Ok 86 (E c):=fo c (tC (nD.ok c) (tC (dX.ok c) tN)) fun x=>θ
end fM
namespace oQ
def f(c:Nat)(a:Int)(b:TV)(d:TV):fm TV:=bd (qG.f c a b d) fun r1=>bd (dX.f c r1.1 r1.2.1) fun r2=>some (r2.1,())
def E(c:Nat):Entry:=⟨[(.int .i64),yV,yV],[yV],fun x=>f c x.1 x.2.1 x.2.2.1⟩
theorem ok(c:Nat):Ok 87 (E c):=fo c (tC (dX.ok c) (tC (qG.ok c) tN)) fun x=>θ
end oQ
namespace pF
def f(c:Nat)(a:TV):fm fg:=bd (uV.f c a) fun r1=>br (!r1.2.1) (some ((⟨#[]⟩:fg),())) (some (r1.1,()))
def E(c:Nat):Entry:=⟨[yV],[.str],fun x=>f c x.1⟩
theorem ok(c:Nat):Ok 88 (E c):=fo c (tC (uV.ok c) tN) fun x=>θ
end pF
namespace fK
def f(c:Nat)(h:fg)(i:fg):fm TV:=bd (qX.f c h i) fun a=>bd (nR.f c a.1 a.2.1) fun b=>bd (gQ.f c) fun d=>bd (xB.f c b.1 d.1) fun e=>bd (dX.f c e.1 e.2.1) fun g=>some (g.1,())
def E(c:Nat):Entry:=⟨[.str,.str],[yV],fun x=>f c x.1 x.2.1⟩
theorem ok(c:Nat):Ok 156 (E c):=fo c (tC (dX.ok c) (tC (nR.ok c) (tC (xB.ok c) (tC (qX.ok c) (tC (gQ.ok c) tN))))) fun x=>θ
end fK
namespace pz
def f(c:Nat)(q:TV)(r:fg):fm TV:=bd (sIdx r 0) fun a=>br (((a.toNat:Nat):Int)==45) (bd (pI.f c q.1) fun b=>bd (nR.f c b.1 b.2.1) fun d=>bd (jD.f c r) fun e=>bd (fF.f c e.1 e.2.1) fun g=>br (!(d.1.2.1.toList==(⟨#[]⟩:fg).toList)) (bd (jD.f c d.1.2.1) fun h=>bd (fF.f c h.1 h.2.1) fun i=>bd (gY.f c i.1 g.1) fun j=>bd (fF.f c j.1 j.2.1) fun k=>bd (jD.f c k.1) fun l=>bd (fF.f c l.1 l.2.1) fun m=>br (!(d.1.2.2.1.toList==(⟨#[]⟩:fg).toList)) (bd (gY.f c d.1.2.2.1 g.1) fun n=>bd (fF.f c n.1 n.2.1) fun o=>bd (fK.f c m.1 o.1) fun p=>some (p.1,())) (bd (fK.f c m.1 d.1.2.2.1) fun n=>some (n.1,()))) (br (!(d.1.2.2.1.toList==(⟨#[]⟩:fg).toList)) (bd (gY.f c d.1.2.2.1 g.1) fun h=>bd (fF.f c h.1 h.2.1) fun i=>bd (fK.f c d.1.2.1 i.1) fun j=>some (j.1,())) (bd (fK.f c d.1.2.1 d.1.2.2.1) fun h=>some (h.1,())))) (br (!(q.1.2.1.toList==(⟨#[]⟩:fg).toList)) (bd (jD.f c q.1.2.1) fun b=>bd (fF.f c b.1 b.2.1) fun d=>bd (gY.f c d.1 r) fun e=>bd (fF.f c e.1 e.2.1) fun g=>bd (jD.f c g.1) fun h=>bd (fF.f c h.1 h.2.1) fun i=>br (!(q.1.2.2.1.toList==(⟨#[]⟩:fg).toList)) (bd (gY.f c q.1.2.2.1 r) fun j=>bd (fF.f c j.1 j.2.1) fun k=>bd (fK.f c i.1 k.1) fun l=>some (l.1,())) (bd (fK.f c i.1 q.1.2.2.1) fun j=>some (j.1,()))) (br (!(q.1.2.2.1.toList==(⟨#[]⟩:fg).toList)) (bd (gY.f c q.1.2.2.1 r) fun b=>bd (fF.f c b.1 b.2.1) fun d=>bd (fK.f c q.1.2.1 d.1) fun e=>some (e.1,())) (bd (fK.f c q.1.2.1 q.1.2.2.1) fun b=>some (b.1,()))))
def E(c:Nat):Entry:=⟨[yV,.str],[yV],fun x=>f c x.1 x.2.1⟩
theorem ok(c:Nat):Ok 89 (E c):=fo c (tC (pI.ok c) (tC (nR.ok c) (tC (fF.ok c) (tC (jD.ok c) (tC (gY.ok c) (tC (fK.ok c) tN)))))) fun x=>θ
end pz
namespace oP
def f(c:Nat)(l:TV)(m:fg):fm TV:=br (!(l.1.2.1.toList==(⟨#[]⟩:fg).toList)) (bd (kQ.f c m l.1.2.1) fun a=>bd (fF.f c a.1 a.2.1) fun b=>br (!(l.1.2.2.1.toList==(⟨#[]⟩:fg).toList)) (bd (kQ.f c m l.1.2.2.1) fun d=>bd (fF.f c d.1 d.2.1) fun e=>bd (jV.f c e.1 m) fun g=>bd (fF.f c g.1 g.2.1) fun h=>bd (kR.f c h.1 (⟨#[49]⟩:fg)) fun i=>bd (fF.f c i.1 i.2.1) fun j=>bd (fK.f c b.1 j.1) fun k=>some (k.1,())) (bd (fK.f c b.1 l.1.2.2.1) fun d=>some (d.1,()))) (br (!(l.1.2.2.1.toList==(⟨#[]⟩:fg).toList)) (bd (kQ.f c m l.1.2.2.1) fun a=>bd (fF.f c a.1 a.2.1) fun b=>bd (jV.f c b.1 m) fun d=>bd (fF.f c d.1 d.2.1) fun e=>bd (kR.f c e.1 (⟨#[49]⟩:fg)) fun g=>bd (fF.f c g.1 g.2.1) fun h=>bd (fK.f c l.1.2.1 h.1) fun i=>some (i.1,())) (bd (fK.f c l.1.2.1 l.1.2.2.1) fun a=>some (a.1,())))
def E(c:Nat):Entry:=⟨[yV,.str],[yV],fun x=>f c x.1 x.2.1⟩
theorem ok(c:Nat):Ok 90 (E c):=fo c (tC (fF.ok c) (tC (fK.ok c) (tC (kQ.ok c) (tC (kR.ok c) (tC (jV.ok c) tN))))) fun x=>θ
end oP
end
end Go.Q
namespace Go.Q
open Go.IntKind (i64)
open Go Go.RowKit
open Go.Rx (br bd sIdx sCat sCut iQuo iRem iShl)
noncomputable section
namespace jy
def r1{ρ:Type}(c:Nat)(n:Int→Int→fg→Int→(List EX)→Int→fg→Int→(List EX)→Int→Int→Int→fg→Int→(List EX)→Option ((Int×Int×Unit)×Unit))(o:Int)(p:List EX)(q r:Int)(t:fg)(u:Int)(v:List EX)(b:Int)(d:fg)(e:Int)(f:List EX)(g h k:Int)(K:Int→Int→Int→Option ρ)(E0:Int→Int→Option ρ):Option ρ:=br (decide (g < q)) (bd (idxL p g) fun a=>bd (n (i64.wrap (o+1)) a.i a.s a.j a.l r t u v h k b d e f) fun m =>
 K (i64.wrap (g+1)) m.1.1 m.1.2.1) (
 E0 h k)
def l1(c:Nat)(f:Int→Int→fg→Int→(List EX)→Int→fg→Int→(List EX)→Int→Int→Int→fg→Int→(List EX)→Option ((Int×Int×Unit)×Unit))(g:Int)(h:List EX)(i j:Int)(k:fg)(l:Int)(m:List EX)(a:Int)(b:fg)(d:Int)(e:List EX):Nat→Int→Int→Int→Option ((Int×Int×Unit)×Unit)
 | 0,_,_,_=>none
 | n+1,v3,v8,v9=>r1 c f g h i j k l m a b d e v3 v8 v9 (l1 c f g h i j k l m a b d e n) (fun o p=>some ((o,p,()),()))
def sh1:ShS:=⟨[.s (.int .i64),.a 2,.s (.ptr 6 0),.a 11,.s (.sl (.rc false)),.s (.int .i64),.s (.int .i64),.a 10],[.cells [.s (.int .i64),.s .str,.s (.int .i64),.s (.sl (.rc false))] 26,.cells [.s (.int .i64)] 3,.cells [.s (.int .i64)] 3,.cells [.s (.int .i64),.s .str,.s (.int .i64),.s (.sl (.rc false))] 26,.rnd [.a 4,.s (.ptr 1 0),.s (.ptr 2 0),.a 12] 47 0 .ready none,.cells [.s (.yld 4)] 118,.cells [.s (.fn 77 [] [.ptr 5 0,.ptr 6 0])] 118,.gone]⟩
def S1(p:Int×(List EX)×Int×Int×Int×fg×Int×(List EX)×Int×Int×Int×fg×Int×(List EX)×Unit):St:=sh1.b p
def xh0:ShS:=⟨[.a 28],[.cells [.s (.int .i64),.s .str,.s (.int .i64),.s (.sl (.rc false))] 26,.cells [.s (.int .i64)] 3,.cells [.s (.int .i64)] 3,.cells [.s (.int .i64),.s .str,.s (.int .i64),.s (.sl (.rc false))] 26,.rnd [.a 4,.s (.ptr 1 0),.s (.ptr 2 0),.a 12] 47 0 .ready none,.cells [.s (.yld 4)] 118,.cells [.s (.fn 77 [] [.ptr 5 0,.ptr 6 0])] 118,.gone]⟩
def o1(j:Int)(k:List EX)(l f:Int)(g:fg)(h:Int)(i:List EX)(a:Int)(c:fg)(d:Int)(e:List EX)(y:(Int×Int×Unit)×Unit):Alt:=.one (.exit 0) (xh0.b (f,g,h,i,y.1.1,y.1.2.1,a,c,d,e,()))
def gr0{ρ:Type}(c:Nat)(j:Int→Int→fg→Int→(List EX)→Int→fg→Int→(List EX)→Int→Int→Int→fg→Int→(List EX)→Option ((Int×Int×Unit)×Unit))(b:Int)(p:Int)(q:fg)(r:Int)(h:List EX)(k:Int)(l:fg)(m:Int)(n:List EX)(o:Int)(a:Int)(d:Int)(e:fg)(f:Int)(g:List EX)(E0:Int→Int→Option ρ):Option ρ:=bd (l1 c j b h (h.length:Int) k l m n d e f g (c+40) 0 (i64.wrap (o+1)) (if b > a then b else a)) fun i =>
 E0 i.1.1 i.1.2.1
def g0(c:Nat):Nat→Int→Int→fg→Int→(List EX)→Int→fg→Int→(List EX)→Int→Int→Int→fg→Int→(List EX)→Option ((Int×Int×Unit)×Unit)
 | 0,_,_,_,_,_,_,_,_,_,_,_,_,_,_,_=>none
 | n+1,v0,v1,v2,v3,v4,v5,v6,v7,v8,v9,v10,v11,v12,v13,v14=>gr0 c (g0 c n) v0 v1 v2 v3 v4 v5 v6 v7 v8 v9 v10 v11 v12 v13 v14 (fun a b=>some ((a,b,()),()))
def sh0:ShS:=⟨[.s (.int .i64),.s (.agg [.int .i64,.str,.int .i64,.sl (.rc false)]),.s (.ptr 5 0),.s (.ptr 6 0)],[.cells [.s (.int .i64),.s .str,.s (.int .i64),.s (.sl (.rc false))] 26,.cells [.s (.int .i64)] 3,.cells [.s (.int .i64)] 3,.cells [.s (.int .i64),.s .str,.s (.int .i64),.s (.sl (.rc false))] 26,.rnd [.a 4,.s (.ptr 1 0),.s (.ptr 2 0),.a 12] 47 0 .ready none,.cells [.s (.yld 4)] 118,.cells [.s (.fn 77 [] [.ptr 5 0,.ptr 6 0])] 118]⟩
def S0(p:Int×Int×fg×Int×(List EX)×Int×fg×Int×(List EX)×Int×Int×Int×fg×Int×(List EX)×Unit):St:=sh0.b p
def xh1:ShS:=⟨[.s .bool],[.cells [.s (.int .i64),.s .str,.s (.int .i64),.s (.sl (.rc false))] 26,.cells [.s (.int .i64)] 3,.cells [.s (.int .i64)] 3,.cells [.s (.int .i64),.s .str,.s (.int .i64),.s (.sl (.rc false))] 26,.rnd [.a 4,.s (.ptr 1 0),.s (.ptr 2 0),.a 12] 47 0 .ready none,.cells [.s (.yld 4)] 118,.cells [.s (.fn 77 [] [.ptr 5 0,.ptr 6 0])] 118]⟩
def go0(k:Int)(l:Int)(m:fg)(n:Int)(o:List EX)(g:Int)(h:fg)(i:Int)(j:List EX)(p:Int)(f:Int)(a:Int)(c:fg)(d:Int)(e:List EX)(y:(Int×Int×Unit)×Unit):Res:=detG (xh1.b (true,g,h,i,j,y.1.1,y.1.2.1,a,c,d,e,()))
def gG(c q:Nat):Nat→List SV→Mem→Option Res:=genE sh0 (fun(x:Int×Int×fg×Int×(List EX)×Int×fg×Int×(List EX)×Int×Int×Int×fg×Int×(List EX)×Unit)=>.bnd _ (g0 c q x.1 x.2.1 x.2.2.1 x.2.2.2.1 x.2.2.2.2.1 x.2.2.2.2.2.1 x.2.2.2.2.2.2.1 x.2.2.2.2.2.2.2.1 x.2.2.2.2.2.2.2.2.1 x.2.2.2.2.2.2.2.2.2.1 x.2.2.2.2.2.2.2.2.2.2.1 x.2.2.2.2.2.2.2.2.2.2.2.1 x.2.2.2.2.2.2.2.2.2.2.2.2.1 x.2.2.2.2.2.2.2.2.2.2.2.2.2.1 x.2.2.2.2.2.2.2.2.2.2.2.2.2.2.1) (go0 x.1 x.2.1 x.2.2.1 x.2.2.2.1 x.2.2.2.2.1 x.2.2.2.2.2.1 x.2.2.2.2.2.2.1 x.2.2.2.2.2.2.2.1 x.2.2.2.2.2.2.2.2.1 x.2.2.2.2.2.2.2.2.2.1 x.2.2.2.2.2.2.2.2.2.2.1 x.2.2.2.2.2.2.2.2.2.2.2.1 x.2.2.2.2.2.2.2.2.2.2.2.2.1 x.2.2.2.2.2.2.2.2.2.2.2.2.2.1 x.2.2.2.2.2.2.2.2.2.2.2.2.2.2.1)) genN
def anns(c q:Nat):FuncId→FA:=annsL [(47,⟨annOf [(0,⟨kx 18 [4,5],[],[]⟩,⟨[],[],[]⟩)],none,[]⟩),(77,⟨annOf [(0,⟨kx 28 [0,3,15,16,17],[],[7]⟩,⟨kx 28 [6],[],[7]⟩)],some (.gen (genT 7 (gG c q))),[]⟩)]
def tb(c:Nat):List (FuncId×Entry):=[]
def abp(c q:Nat):List (Nat×(St→Option LTE)):=[(0,sumE sh1 fun(p:Int×(List EX)×Int×Int×Int×fg×Int×(List EX)×Int×Int×Int×fg×Int×(List EX)×Unit)=>⟨(Int×Int×Unit)×Unit,l1 c (g0 c q) p.1 p.2.1 p.2.2.1 p.2.2.2.2.1 p.2.2.2.2.2.1 p.2.2.2.2.2.2.1 p.2.2.2.2.2.2.2.1 p.2.2.2.2.2.2.2.2.2.2.1 p.2.2.2.2.2.2.2.2.2.2.2.1 p.2.2.2.2.2.2.2.2.2.2.2.2.1 p.2.2.2.2.2.2.2.2.2.2.2.2.2.1 (c+40) p.2.2.2.1 p.2.2.2.2.2.2.2.2.1 p.2.2.2.2.2.2.2.2.2.1,o1 p.1 p.2.1 p.2.2.1 p.2.2.2.2.1 p.2.2.2.2.2.1 p.2.2.2.2.2.2.1 p.2.2.2.2.2.2.2.1 p.2.2.2.2.2.2.2.2.2.2.1 p.2.2.2.2.2.2.2.2.2.2.2.1 p.2.2.2.2.2.2.2.2.2.2.2.2.1 p.2.2.2.2.2.2.2.2.2.2.2.2.2.1⟩)]
def ls(c q:Nat):List (Nat×FuncId×Sums):=[(13,77,sumsL (abp c q))]
def it1{ρ:Type}(c q n:Nat)(a:St)(k:KE ρ):Option ρ:=itG (anns c q) (ls c q) (tb c) c 13 77 0 8 (sumsL (abp c q)) n a k
theorem t1{ρ:Type}(c q n:Nat)(l:Int)(m:List EX)(o p g:Int)(h:fg)(i:Int)(j:List EX)(r s a:Int)(d:fg)(e:Int)(f:List EX)(k:KE ρ):it1 c q (n+1) (S1 (l,m,o,p,g,h,i,j,r,s,a,d,e,f,())) k=r1 c (g0 c q) l m o g h i j a d e f p r s (fun v w x=>it1 c q n (S1 (l,m,o,v,g,h,i,j,w,x,a,d,e,f,())) k) (fun t u=>k (.exit 0) (xh0.b (g,h,i,j,t,u,a,d,e,f,()))):=θ
theorem u1{ρ:Type}(c q:Nat)(f:Int)(g:List EX)(h i:Int)(j:fg)(l:Int)(m:List EX)(a:Int)(b:fg)(d:Int)(e:List EX)(k:KE ρ):∀ (n:Nat) (o p r:Int),it1 c q n (S1 (f,g,h,o,i,j,l,m,p,r,a,b,d,e,())) k=bd (l1 c (g0 c q) f g h i j l m a b d e n o p r) fun y=>altK k (o1 f g h i j l m a b d e y)
 | 0,_,_,_=>by rw[l1,bd_none];rfl
 | n+1,o,p,r=>by
  rw[t1];simp only[l1,r1,u1 c q f g h i j l m a b d e k n,bd_br,bd_bd,bd_some',bd_none,br_t,br_f,o1,altK]
theorem sl(c q:Nat):SL (anns c q) (ls c q) (tb c) c (ls c q):=slC (laC (fun _=>θ) (fun _ (x:Int×(List EX)×Int×Int×Int×fg×Int×(List EX)×Int×Int×Int×fg×Int×(List EX)×Unit) k=>dJ (u1 c q x.1 x.2.1 x.2.2.1 x.2.2.2.2.1 x.2.2.2.2.2.1 x.2.2.2.2.2.2.1 x.2.2.2.2.2.2.2.1 x.2.2.2.2.2.2.2.2.2.2.1 x.2.2.2.2.2.2.2.2.2.2.2.1 x.2.2.2.2.2.2.2.2.2.2.2.2.1 x.2.2.2.2.2.2.2.2.2.2.2.2.2.1 k (c+40) x.2.2.2.1 x.2.2.2.2.2.2.2.2.1 x.2.2.2.2.2.2.2.2.2.1)) laN) slN
theorem gt0{ρ:Type}(c q:Nat)(m:Int)(n:Int)(o:fg)(p:Int)(r:List EX)(h:Int)(i:fg)(j:Int)(l:List EX)(s:Int)(g:Int)(a:Int)(d:fg)(e:Int)(f:List EX)(k:KO ρ):bodyG (anns c q) (ls c q) (tb c) c 13 77 (S0 (m,n,o,p,r,h,i,j,l,s,g,a,d,e,f,())) (cutK 7 k)=gr0 c (g0 c q) m n o p r h i j l s g a d e f (fun t u=>kG k (xh1.b (true,h,i,j,l,t,u,a,d,e,f,()))):=θ
theorem gu0{ρ:Type}(c q:Nat)(g:Int)(h:Int)(i:fg)(j:Int)(l:List EX)(m:Int)(n:fg)(o:Int)(p:List EX)(r:Int)(a:Int)(b:Int)(d:fg)(e:Int)(f:List EX)(k:KO ρ):bodyG (anns c q) (ls c q) (tb c) c 13 77 (S0 (g,h,i,j,l,m,n,o,p,r,a,b,d,e,f,())) (cutK 7 k)=resK (.bnd _ (g0 c (q+1) g h i j l m n o p r a b d e f) (go0 g h i j l m n o p r a b d e f)) k:=by
 rw[gt0];simp only[resK,g0,gr0,bd_br,bd_bd,bd_some',bd_none,br_t,br_f,go0,agf]
theorem gz(c:Nat):Gen0 (gG c 0):=(ags (fun _=>rfl) agt)
theorem ga(c q:Nat):GenAt (anns c q) (ls c q) (tb c) c 13 77 7 (gG c (q+1)):=(aeL (fun _=>θ) (fun _ (x:Int×Int×fg×Int×(List EX)×Int×fg×Int×(List EX)×Int×Int×Int×fg×Int×(List EX)×Unit) k=>dJ (gu0 c q x.1 x.2.1 x.2.2.1 x.2.2.2.1 x.2.2.2.2.1 x.2.2.2.2.2.1 x.2.2.2.2.2.2.1 x.2.2.2.2.2.2.2.1 x.2.2.2.2.2.2.2.2.1 x.2.2.2.2.2.2.2.2.2.1 x.2.2.2.2.2.2.2.2.2.2.1 x.2.2.2.2.2.2.2.2.2.2.2.1 x.2.2.2.2.2.2.2.2.2.2.2.2.1 x.2.2.2.2.2.2.2.2.2.2.2.2.2.1 x.2.2.2.2.2.2.2.2.2.2.2.2.2.2.1 k)) aeM)
theorem gok(c:Nat):∀ q,SpkOK y5 TabG (.gen (genT 7 (gG c q))) 77
 | 0=>aaH (aeN (gz c))
 | q+1=>aaH (genOK tN (aoC (aoP (gok c q) aoN)) (sl c q) (ga c q))
def f(c:Nat)(a:EX):Option (Int×Int×Unit):=bd (g0 c (c+40) 1 a.i a.s a.j a.l a.i a.s a.j a.l 0 0 a.i a.s a.j a.l) fun b=>some (b.1.1,b.1.2.1,())
def E(c:Nat):Entry:=⟨[(.rc false)],[(.int .i64),(.int .i64)],fun x=>f c x.1⟩
theorem ok(c:Nat):Ok 47 (E c):=okL (an:=anns c (c+40)) (ls:=ls c (c+40)) (tb:=tb c) tN (aoC (aoP (gok c (c+40)) aoN)) (sl c (c+40)) fun x=>θ
end jy
namespace yg
def f(c:Nat)(a:fg):fm Bool:=bd (strings_TrimPrefix.f c a (⟨#[45]⟩:fg)) fun r1=>some ((decide ((r1.1.size:Int) > 100)),())
def E(c:Nat):Entry:=⟨[.str],[.bool],fun x=>f c x.1⟩
theorem ok(c:Nat):Ok 136 (E c):=fo c (tC (strings_TrimPrefix.ok c) tN) fun x=>θ
end yg
namespace uF
def f(c:Nat)(a:fg):fm Int:=bd (dF.f c a) fun r1=>br (r1.1 != 0) (some (r1.1,())) (bd (yg.f c a) fun r2=>br r2.1 (some (10,())) (some (0,())))
def E(c:Nat):Entry:=⟨[.str],[(.int .i64)],fun x=>f c x.1⟩
theorem ok(c:Nat):Ok 78 (E c):=fo c (tC (dF.ok c) (tC (yg.ok c) tN)) fun x=>θ
end uF
namespace tK
def f(c:Nat)(a:EX)(b:Int):fm Int:=br (decide (a.i < 0)) (some (1,())) (br (decide (a.i≥8)) (some (1,())) (bd (idxL (gtab gtN) a.i) fun d=>br ((a.l.length:Int) != d) (some (15,())) (br (a.i==0) (bd (uF.f c a.s) fun r2=>br (r2.1 != 0) (some (r2.1,())) (br (a.i==1) (br (decide (a.j < 0)) (some (6,())) (br (decide (a.j≥b)) (some (6,())) (br (a.i != 1) (br (a.j != 0) (some (3,())) (some (0,()))) (some (0,()))))) (br (a.i != 1) (br (a.j != 0) (some (3,())) (some (0,()))) (some (0,()))))) (br (!(a.s.toList==(⟨#[]⟩:fg).toList)) (some (3,())) (br (a.i==1) (br (decide (a.j < 0)) (some (6,())) (br (decide (a.j≥b)) (some (6,())) (br (a.i != 1) (br (a.j != 0) (some (3,())) (some (0,()))) (some (0,()))))) (br (a.i != 1) (br (a.j != 0) (some (3,())) (some (0,()))) (some (0,()))))))))
def E(c:Nat):Entry:=⟨[(.rc false),(.int .i64)],[(.int .i64)],fun x=>f c x.1 x.2.1⟩
theorem ok(c:Nat):Ok 49 (E c):=fo c (tC (uF.ok c) tN) fun x=>θ
end tK
end
end Go.Q
namespace Go.Q
open Go.IntKind (i64)
open Go Go.RowKit
open Go.Rx (br bd sIdx sCat sCut iQuo iRem iShl)
noncomputable section
namespace dZ
def r1{ρ:Type}(c:Nat)(m:Int→Int→fg→Int→(List EX)→Int→fg→Int→(List EX)→Int→Int→Int→fg→Int→(List EX)→Option (Bool×(Int×Unit)×(Unit)×Unit))(n:Int)(o:List EX)(p q:Int)(r:fg)(t:Int)(u:List EX)(v w b:Int)(d:fg)(e:Int)(f:List EX)(g:Int)(K:Int→Option ρ)(E0:Int→Option ρ)(k:Option ρ):Option ρ:=br (decide (g < p)) (bd (idxL o g) fun a=>bd (m (i64.wrap (n+1)) a.i a.s a.j a.l q r t u v w b d e f) fun h=>br h.1 (
 E0 h.2.1.1) (
 K (i64.wrap (g+1)))) (
 k)
def l1(c:Nat)(f:Int→Int→fg→Int→(List EX)→Int→fg→Int→(List EX)→Int→Int→Int→fg→Int→(List EX)→Option (Bool×(Int×Unit)×(Unit)×Unit))(g:Int)(h:List EX)(i j:Int)(k:fg)(l:Int)(m:List EX)(o p a:Int)(b:fg)(d:Int)(e:List EX):Nat→Int→Option (Bool×(Int×Unit)×(Unit)×Unit)
 | 0,_=>none
 | n+1,v3=>r1 c f g h i j k l m o p a b d e v3 (l1 c f g h i j k l m o p a b d e n) (fun q=>some (true,(q,()),((()),()))) (some (false,(0,()),((()),())))
def sh1:ShS:=⟨[.s (.int .i64),.a 2,.s (.ptr 6 0),.a 11,.s (.sl (.rc false)),.s (.int .i64),.s (.int .i64),.a 10],[.cells [.s (.int .i64),.s .str,.s (.int .i64),.s (.sl (.rc false))] 26,.cells [.s (.int .i64)] 3,.cells [.s (.int .i64)] 37,.cells [.s (.int .i64),.s .str,.s (.int .i64),.s (.sl (.rc false))] 26,.rnd [.a 3,.s (.ptr 1 0),.s (.ptr 2 0),.a 32] 26 0 .ready none,.cells [.s (.yld 4)] 118,.cells [.s (.fn 77 [] [.ptr 5 0,.ptr 6 0])] 118,.gone,.gone]⟩
def S1(p:Int×(List EX)×Int×Int×Int×fg×Int×(List EX)×Int×Int×Int×fg×Int×(List EX)×Unit):St:=sh1.b p
def xh0:ShS:=⟨[.a 6,.s .bool,.a 21],[.cells [.s (.int .i64),.s .str,.s (.int .i64),.s (.sl (.rc false))] 26,.cells [.s (.int .i64)] 3,.cells [.s (.int .i64)] 37,.cells [.s (.int .i64),.s .str,.s (.int .i64),.s (.sl (.rc false))] 26,.rnd [.a 3,.s (.ptr 1 0),.s (.ptr 2 0),.a 32] 26 0 .done (some .ret),.cells [.s (.yld 4)] 118,.cells [.s (.fn 77 [] [.ptr 5 0,.ptr 6 0])] 118,.gone,.gone]⟩
def xh1:ShS:=⟨[.a 28],[.cells [.s (.int .i64),.s .str,.s (.int .i64),.s (.sl (.rc false))] 26,.cells [.s (.int .i64)] 3,.cells [.s (.int .i64)] 37,.cells [.s (.int .i64),.s .str,.s (.int .i64),.s (.sl (.rc false))] 26,.rnd [.a 3,.s (.ptr 1 0),.s (.ptr 2 0),.a 32] 26 0 .ready none,.cells [.s (.yld 4)] 118,.cells [.s (.fn 77 [] [.ptr 5 0,.ptr 6 0])] 118,.gone,.gone]⟩
def o1(l:Int)(m:List EX)(n f:Int)(g:fg)(h:Int)(i:List EX)(j k a:Int)(c:fg)(d:Int)(e:List EX)(y:Bool×(Int×Unit)×(Unit)×Unit):Alt:=.two y.1 (.one .ret (xh0.b (false,f,g,h,i,j,y.2.1.1,a,c,d,e,()))) (.one (.exit 0) (xh1.b (f,g,h,i,j,k,a,c,d,e,())))
def gr0{ρ:Type}(c:Nat)(l:Int→Int→fg→Int→(List EX)→Int→fg→Int→(List EX)→Int→Int→Int→fg→Int→(List EX)→Option (Bool×(Int×Unit)×(Unit)×Unit))(m:Int)(n:Int)(o:fg)(p:Int)(h:List EX)(q:Int)(r:fg)(s:Int)(t:List EX)(i:Int)(a:Int)(b:Int)(d:fg)(e:Int)(g:List EX)(E0:Int→Option ρ)(k:Option ρ):Option ρ:=bd (tK.f c (EX.mk n o p h) i) fun r2=>br (r2.1 != 0) (
 E0 r2.1) (bd (l1 c l m h (h.length:Int) q r s t i a b d e g (c+40) 0) fun j=>br j.1 (
 E0 j.2.1.1) (
 k))
def g0(c:Nat):Nat→Int→Int→fg→Int→(List EX)→Int→fg→Int→(List EX)→Int→Int→Int→fg→Int→(List EX)→Option (Bool×(Int×Unit)×(Unit)×Unit)
 | 0,_,_,_,_,_,_,_,_,_,_,_,_,_,_,_=>none
 | n+1,v0,v1,v2,v3,v4,v5,v6,v7,v8,v9,v10,v11,v12,v13,v14=>gr0 c (g0 c n) v0 v1 v2 v3 v4 v5 v6 v7 v8 v9 v10 v11 v12 v13 v14 (fun a=>some (true,(a,()),((()),()))) (some (false,(0,()),((()),())))
def sh0:ShS:=⟨[.s (.int .i64),.s (.agg [.int .i64,.str,.int .i64,.sl (.rc false)]),.s (.ptr 5 0),.s (.ptr 6 0)],[.cells [.s (.int .i64),.s .str,.s (.int .i64),.s (.sl (.rc false))] 26,.cells [.s (.int .i64)] 3,.cells [.s (.int .i64)] 37,.cells [.s (.int .i64),.s .str,.s (.int .i64),.s (.sl (.rc false))] 26,.rnd [.a 3,.s (.ptr 1 0),.s (.ptr 2 0),.a 32] 26 0 .ready none,.cells [.s (.yld 4)] 118,.cells [.s (.fn 77 [] [.ptr 5 0,.ptr 6 0])] 118]⟩
def S0(p:Int×Int×fg×Int×(List EX)×Int×fg×Int×(List EX)×Int×Int×Int×fg×Int×(List EX)×Unit):St:=sh0.b p
def xh2:ShS:=⟨[.s .bool],[.cells [.s (.int .i64),.s .str,.s (.int .i64),.s (.sl (.rc false))] 26,.cells [.s (.int .i64)] 3,.cells [.s (.int .i64)] 37,.cells [.s (.int .i64),.s .str,.s (.int .i64),.s (.sl (.rc false))] 26,.rnd [.a 3,.s (.ptr 1 0),.s (.ptr 2 0),.a 32] 26 0 .done (some .ret),.cells [.s (.yld 4)] 118,.cells [.s (.fn 77 [] [.ptr 5 0,.ptr 6 0])] 118]⟩
def xh3:ShS:=⟨[.s .bool],[.cells [.s (.int .i64),.s .str,.s (.int .i64),.s (.sl (.rc false))] 26,.cells [.s (.int .i64)] 3,.cells [.s (.int .i64)] 37,.cells [.s (.int .i64),.s .str,.s (.int .i64),.s (.sl (.rc false))] 26,.rnd [.a 3,.s (.ptr 1 0),.s (.ptr 2 0),.a 32] 26 0 .ready none,.cells [.s (.yld 4)] 118,.cells [.s (.fn 77 [] [.ptr 5 0,.ptr 6 0])] 118]⟩
def go0(l:Int)(m:Int)(n:fg)(o:Int)(p:List EX)(g:Int)(h:fg)(i:Int)(j:List EX)(k:Int)(f:Int)(a:Int)(c:fg)(d:Int)(e:List EX)(y:Bool×(Int×Unit)×(Unit)×Unit):Res:=.alt y.1 (detG (xh2.b (false,g,h,i,j,k,y.2.1.1,a,c,d,e,()))) (detG (xh3.b (true,g,h,i,j,k,f,a,c,d,e,())))
def gG(c q:Nat):Nat→List SV→Mem→Option Res:=genE sh0 (fun(x:Int×Int×fg×Int×(List EX)×Int×fg×Int×(List EX)×Int×Int×Int×fg×Int×(List EX)×Unit)=>.bnd _ (g0 c q x.1 x.2.1 x.2.2.1 x.2.2.2.1 x.2.2.2.2.1 x.2.2.2.2.2.1 x.2.2.2.2.2.2.1 x.2.2.2.2.2.2.2.1 x.2.2.2.2.2.2.2.2.1 x.2.2.2.2.2.2.2.2.2.1 x.2.2.2.2.2.2.2.2.2.2.1 x.2.2.2.2.2.2.2.2.2.2.2.1 x.2.2.2.2.2.2.2.2.2.2.2.2.1 x.2.2.2.2.2.2.2.2.2.2.2.2.2.1 x.2.2.2.2.2.2.2.2.2.2.2.2.2.2.1) (go0 x.1 x.2.1 x.2.2.1 x.2.2.2.1 x.2.2.2.2.1 x.2.2.2.2.2.1 x.2.2.2.2.2.2.1 x.2.2.2.2.2.2.2.1 x.2.2.2.2.2.2.2.2.1 x.2.2.2.2.2.2.2.2.2.1 x.2.2.2.2.2.2.2.2.2.2.1 x.2.2.2.2.2.2.2.2.2.2.2.1 x.2.2.2.2.2.2.2.2.2.2.2.2.1 x.2.2.2.2.2.2.2.2.2.2.2.2.2.1 x.2.2.2.2.2.2.2.2.2.2.2.2.2.2.1)) genN
def anns(c q:Nat):FuncId→FA:=annsL [(26,⟨annOf [(0,⟨kx 37 [3,4],[],[]⟩,⟨[],[],[]⟩)],none,[]⟩),(77,⟨annOf [(0,⟨kx 28 [0,3,15,16,17],[],[7,8]⟩,⟨kx 28 [6],[],[7,8]⟩)],some (.gen (genT 7 (gG c q))),[]⟩)]
def tb(c:Nat):List (FuncId×Entry):=[(47,jy.E c),(49,tK.E c)]
def abp(c q:Nat):List (Nat×(St→Option LTE)):=[(0,sumE sh1 fun(p:Int×(List EX)×Int×Int×Int×fg×Int×(List EX)×Int×Int×Int×fg×Int×(List EX)×Unit)=>⟨Bool×(Int×Unit)×(Unit)×Unit,l1 c (g0 c q) p.1 p.2.1 p.2.2.1 p.2.2.2.2.1 p.2.2.2.2.2.1 p.2.2.2.2.2.2.1 p.2.2.2.2.2.2.2.1 p.2.2.2.2.2.2.2.2.1 p.2.2.2.2.2.2.2.2.2.1 p.2.2.2.2.2.2.2.2.2.2.1 p.2.2.2.2.2.2.2.2.2.2.2.1 p.2.2.2.2.2.2.2.2.2.2.2.2.1 p.2.2.2.2.2.2.2.2.2.2.2.2.2.1 (c+40) p.2.2.2.1,o1 p.1 p.2.1 p.2.2.1 p.2.2.2.2.1 p.2.2.2.2.2.1 p.2.2.2.2.2.2.1 p.2.2.2.2.2.2.2.1 p.2.2.2.2.2.2.2.2.1 p.2.2.2.2.2.2.2.2.2.1 p.2.2.2.2.2.2.2.2.2.2.1 p.2.2.2.2.2.2.2.2.2.2.2.1 p.2.2.2.2.2.2.2.2.2.2.2.2.1 p.2.2.2.2.2.2.2.2.2.2.2.2.2.1⟩)]
def ls(c q:Nat):List (Nat×FuncId×Sums):=[(13,77,sumsL (abp c q))]
def it1{ρ:Type}(c q n:Nat)(a:St)(k:KE ρ):Option ρ:=itG (anns c q) (ls c q) (tb c) c 13 77 0 9 (sumsL (abp c q)) n a k
theorem t1{ρ:Type}(c q n:Nat)(o:Int)(p:List EX)(r s g:Int)(h:fg)(i:Int)(j:List EX)(l m a:Int)(d:fg)(e:Int)(f:List EX)(k:KE ρ):it1 c q (n+1) (S1 (o,p,r,s,g,h,i,j,l,m,a,d,e,f,())) k=r1 c (g0 c q) o p r g h i j l m a d e f s (fun u=>it1 c q n (S1 (o,p,r,u,g,h,i,j,l,m,a,d,e,f,())) k) (fun t=>k .ret (xh0.b (false,g,h,i,j,l,t,a,d,e,f,()))) (k (.exit 0) (xh1.b (g,h,i,j,l,m,a,d,e,f,()))):=θ
theorem u1{ρ:Type}(c q:Nat)(f:Int)(g:List EX)(h i:Int)(j:fg)(l:Int)(m:List EX)(o p a:Int)(b:fg)(d:Int)(e:List EX)(k:KE ρ):∀ (n:Nat) (r:Int),it1 c q n (S1 (f,g,h,r,i,j,l,m,o,p,a,b,d,e,())) k=bd (l1 c (g0 c q) f g h i j l m o p a b d e n r) fun y=>altK k (o1 f g h i j l m o p a b d e y)
 | 0,_=>by rw[l1,bd_none];rfl
 | n+1,r=>by
  rw[t1];simp only[l1,r1,u1 c q f g h i j l m o p a b d e k n,bd_br,bd_bd,bd_some',bd_none,br_t,br_f,o1,altK]
theorem sl(c q:Nat):SL (anns c q) (ls c q) (tb c) c (ls c q):=slC (laC (fun _=>θ) (fun _ (x:Int×(List EX)×Int×Int×Int×fg×Int×(List EX)×Int×Int×Int×fg×Int×(List EX)×Unit) k=>dJ (u1 c q x.1 x.2.1 x.2.2.1 x.2.2.2.2.1 x.2.2.2.2.2.1 x.2.2.2.2.2.2.1 x.2.2.2.2.2.2.2.1 x.2.2.2.2.2.2.2.2.1 x.2.2.2.2.2.2.2.2.2.1 x.2.2.2.2.2.2.2.2.2.2.1 x.2.2.2.2.2.2.2.2.2.2.2.1 x.2.2.2.2.2.2.2.2.2.2.2.2.1 x.2.2.2.2.2.2.2.2.2.2.2.2.2.1 k (c+40) x.2.2.2.1)) laN) slN
theorem gt0{ρ:Type}(c q:Nat)(n:Int)(o:Int)(p:fg)(r:Int)(s:List EX)(h:Int)(i:fg)(j:Int)(l:List EX)(m:Int)(g:Int)(a:Int)(d:fg)(e:Int)(f:List EX)(k:KO ρ):bodyG (anns c q) (ls c q) (tb c) c 13 77 (S0 (n,o,p,r,s,h,i,j,l,m,g,a,d,e,f,())) (cutK 7 k)=gr0 c (g0 c q) n o p r s h i j l m g a d e f (fun t=>kG k (xh2.b (false,h,i,j,l,m,t,a,d,e,f,()))) (kG k (xh3.b (true,h,i,j,l,m,g,a,d,e,f,()))):=θ
theorem gu0{ρ:Type}(c q:Nat)(g:Int)(h:Int)(i:fg)(j:Int)(l:List EX)(m:Int)(n:fg)(o:Int)(p:List EX)(r:Int)(a:Int)(b:Int)(d:fg)(e:Int)(f:List EX)(k:KO ρ):bodyG (anns c q) (ls c q) (tb c) c 13 77 (S0 (g,h,i,j,l,m,n,o,p,r,a,b,d,e,f,())) (cutK 7 k)=resK (.bnd _ (g0 c (q+1) g h i j l m n o p r a b d e f) (go0 g h i j l m n o p r a b d e f)) k:=by
 rw[gt0];simp only[resK,g0,gr0,bd_br,bd_bd,bd_some',bd_none,br_t,br_f,go0,agf]
theorem gz(c:Nat):Gen0 (gG c 0):=(ags (fun _=>rfl) agt)
theorem ga(c q:Nat):GenAt (anns c q) (ls c q) (tb c) c 13 77 7 (gG c (q+1)):=(aeL (fun _=>θ) (fun _ (x:Int×Int×fg×Int×(List EX)×Int×fg×Int×(List EX)×Int×Int×Int×fg×Int×(List EX)×Unit) k=>dJ (gu0 c q x.1 x.2.1 x.2.2.1 x.2.2.2.1 x.2.2.2.2.1 x.2.2.2.2.2.1 x.2.2.2.2.2.2.1 x.2.2.2.2.2.2.2.1 x.2.2.2.2.2.2.2.2.1 x.2.2.2.2.2.2.2.2.2.1 x.2.2.2.2.2.2.2.2.2.2.1 x.2.2.2.2.2.2.2.2.2.2.2.1 x.2.2.2.2.2.2.2.2.2.2.2.2.1 x.2.2.2.2.2.2.2.2.2.2.2.2.2.1 x.2.2.2.2.2.2.2.2.2.2.2.2.2.2.1 k)) aeM)
theorem gok(c:Nat):∀ q,SpkOK y5 TabG (.gen (genT 7 (gG c q))) 77
 | 0=>aaH (aeN (gz c))
 | q+1=>aaH (genOK (tC (jy.ok c) (tC (tK.ok c) tN)) (aoC (aoP (gok c q) aoN)) (sl c q) (ga c q))
def f(c:Nat)(a:EX)(b:Int):fm Int:=br (decide (b < 0)) (some (2,())) (br (decide (b > 12)) (some (2,())) (bd (jy.f c (EX.mk a.i a.s a.j a.l)) fun r1=>br (decide (r1.1 > 64)) (some (5,())) (br (decide (r1.2.1 > 16)) (some (12,())) (bd (g0 c (c+40) 1 a.i a.s a.j a.l a.i a.s a.j a.l b 0 a.i a.s a.j a.l) fun d=>br d.1 (some (d.2.1.1,())) (some (0,()))))))
def E(c:Nat):Entry:=⟨[(.rc false),(.int .i64)],[(.int .i64)],fun x=>f c x.1 x.2.1⟩
theorem ok(c:Nat):Ok 26 (E c):=okL (an:=anns c (c+40)) (ls:=ls c (c+40)) (tb:=tb c) (tC (jy.ok c) (tC (tK.ok c) tN)) (aoC (aoP (gok c (c+40)) aoN)) (sl c (c+40)) fun x=>θ
end dZ
end
end Go.Q
namespace Go.Q
open Go Go.RowKit
open Go.Rx (br bd sIdx sCat sCut iQuo iRem iShl)
noncomputable section
namespace xG
def l:List ((EX×Unit)×(EX×Unit)):=[((ck_c.c1,()),(ck_c.c1,())),((ck_c.c42,()),(ck_c.c42,())),((ck_c.c3,()),(ck_c.c3,())),((ck_c.c38,()),(ck_c.c38,()))]
def f(c:Nat)(a:EX):fm EX:=pick [(.rc false)] l (a,())
def E(c:Nat):Entry:=⟨[(.rc false)],[(.rc false)],fun x=>f c x.1⟩
def tb(c:Nat):List (FuncId×Entry):=[]
abbrev an:FuncId→FA:=annsL [(222,⟨annOf [(0,⟨kx 24 [2,3,9,10,11],[⟨.ref 2 3,(.rc false),26⟩],[0]⟩,⟨kx 24 [2,3],[⟨.ref 2 3,(.rc false),26⟩],[0]⟩)],none,[]⟩)]
theorem ok(c:Nat):Ok 222 (E c):=okP (an:=an) (tb:=tb c) (lf:=c) tN (aoC aoN) (l:=l) (fun _=>rfl) (fun _=>rfl) ⟨by as_aux_lemma=>kernel_rfl,by as_aux_lemma=>kernel_rfl,by as_aux_lemma=>kernel_rfl,by as_aux_lemma=>kernel_rfl,trivial⟩
end xG
namespace aaf
def l:List ((Int×EX×EX×Unit)×(CX×Unit)):=[((3,ck_c.c1,ck_c.c42,()),(ck_c.c43,())),((4,ck_c.c1,ck_c.c3,()),(ck_c.c47,())),((4,ck_c.c38,ck_c.c1,()),(ck_c.c48,()))]
def f(c:Nat)(a:Int)(b:EX)(d:EX):fm CX:=pick [(.int .i64),(.rc false),(.rc false)] l (a,b,d,())
def E(c:Nat):Entry:=⟨[(.int .i64),(.rc false),(.rc false)],[(.rc true)],fun x=>f c x.1 x.2.1 x.2.2.1⟩
def tb(c:Nat):List (FuncId×Entry):=[(222,xG.E 1000)]
abbrev an:FuncId→FA:=annsL []
theorem ok(c:Nat):Ok 129 (E c):=okP (an:=an) (tb:=tb c) (lf:=c) (tC (xG.ok 1000) tN) aoN (l:=l) (fun _=>rfl) (fun _=>rfl) ⟨by as_aux_lemma=>kernel_rfl,by as_aux_lemma=>kernel_rfl,by as_aux_lemma=>kernel_rfl,trivial⟩
end aaf
namespace vV
def l:List ((CX×Bool×Unit)×(CX×Unit)):=[((ck_c.c43,false,()),(ck_c.c43,())),((ck_c.c49,false,()),(ck_c.c49,()))]
def f(c:Nat)(a:CX)(b:Bool):fm CX:=pick [(.rc true),.bool] l (a,b,())
def E(c:Nat):Entry:=⟨[(.rc true),.bool],[(.rc true)],fun x=>f c x.1 x.2.1⟩
def tb(c:Nat):List (FuncId×Entry):=[(129,aaf.E 1000)]
abbrev an:FuncId→FA:=annsL [(71,⟨annOf [(0,⟨kx 82 [1,4,6,34,35,36],[⟨.ref 2 2,(.rc true),58⟩],[0]⟩,⟨kx 82 [4,6],[⟨.ref 2 2,(.rc true),58⟩],[0]⟩)],none,[]⟩)]
theorem ok(c:Nat):Ok 71 (E c):=okP (an:=an) (tb:=tb c) (lf:=c) (tC (aaf.ok 1000) tN) (aoC aoN) (l:=l) (fun _=>rfl) (fun _=>rfl) ⟨by as_aux_lemma=>kernel_rfl,by as_aux_lemma=>kernel_rfl,trivial⟩
end vV
namespace vU
def l:List ((CX×Int×Unit)×(CX×Int×Unit)):=[((ck_c.c43,2,()),(ck_c.c43,0,())),((ck_c.c49,2,()),(ck_c.c49,0,()))]
def f(c:Nat)(a:CX)(b:Int):Option (CX×Int×Unit):=pick [(.rc true),(.int .i64)] l (a,b,())
def E(c:Nat):Entry:=⟨[(.rc true),(.int .i64)],[(.rc true),(.int .i64)],fun x=>f c x.1 x.2.1⟩
def tb(c:Nat):List (FuncId×Entry):=[(26,dZ.E 1000),(47,jy.E 1000),(71,vV.E 1000)]
abbrev an:FuncId→FA:=annsL [(70,⟨annOf [(0,⟨kx 75 [3,4,7],[],[]⟩,⟨[],[],[]⟩)],none,[]⟩)]
theorem ok(c:Nat):Ok 39 (E c):=okP (an:=an) (tb:=tb c) (lf:=c) (tC (dZ.ok 1000) (tC (jy.ok 1000) (tC (vV.ok 1000) tN))) (aoC aoN) (l:=l) (fun _=>rfl) (fun _=>rfl) ⟨by as_aux_lemma=>kernel_rfl,by as_aux_lemma=>kernel_rfl,trivial⟩
end vU
end
end Go.Q
