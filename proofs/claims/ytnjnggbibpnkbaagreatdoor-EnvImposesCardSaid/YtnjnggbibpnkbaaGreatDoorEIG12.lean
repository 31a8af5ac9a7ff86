import Derived.Test.YtnjnggbibpnkbaaGreatDoorEIG11
set_option linter.all false
set_option maxRecDepth 100000
namespace Go.Q
open Go.IntKind (i64)
open Go Go.RowKit
open Go.Rx (br bd sIdx sCat sCut iQuo iRem iShl)
noncomputable section
namespace iH
def anns:FuncId→FA:=annsL [(4,⟨annOf [(0,⟨kx 23 [0,3],[],[]⟩,⟨kx 23 [2],[],[]⟩)],none,[]⟩)]
def r0{ρ:Type}(c:Nat)(g:List TV)(e:Int)(K:Int→Option ρ)(E0:Option ρ)(h:Option ρ):Option ρ:=br (decide (e < (g.length:Int))) (bd (idxL g e) fun a=>bd (idxL g e) fun b=>bd (jL.f c a b) fun d=>br (!d.1) (
 E0) (
 K (i64.wrap (e+1)))) (
 h)
def l0(c:Nat)(a:List TV):Nat→Int→Option (Bool×(Unit)×(Unit)×Unit)
 | 0,_=>none
 | n+1,v1=>r0 c a v1 (l0 c a n) (some (true,(()),((()),()))) (some (false,(()),((()),())))
def sh0:ShS:=⟨[.s (.sl yV),.a 2,.s (.int .i64),.a 19],[]⟩
def S0(p:(List TV)×Int×Unit):St:=sh0.b p
def xh0:ShS:=⟨[.a 2,.s .bool,.a 20],[]⟩
def xh1:ShS:=⟨[.a 23],[]⟩
def o0(a:List TV)(y:Bool×(Unit)×(Unit)×Unit):Alt:=.two y.1 (.one .ret (xh0.b (false,()))) (.one (.exit 0) (xh1.b (())))
def tb(c:Nat):List (FuncId×Entry):=[(6,jL.E c)]
def aiT(c:Nat):List (Nat×(St→Option LTE)):=[(0,sumE sh0 fun(p:(List TV)×Int×Unit)=>⟨Bool×(Unit)×(Unit)×Unit,l0 c p.1 (c+40) p.2.1,o0 p.1⟩)]
def ls(c:Nat):List (Nat×FuncId×Sums):=[(13,4,sumsL (aiT c))]
def it0{ρ:Type}(c n:Nat)(a:St)(k:KE ρ):Option ρ:=itG anns (ls c) (tb c) c 13 4 0 0 (sumsL (aiT c)) n a k
theorem t0{ρ:Type}(c n:Nat)(a:List TV)(d:Int)(k:KE ρ):it0 c (n+1) (S0 (a,d,())) k=r0 c a d (fun e=>it0 c n (S0 (a,e,())) k) (k .ret (xh0.b (false,()))) (k (.exit 0) (xh1.b (()))):=θ
theorem u0{ρ:Type}(c:Nat)(a:List TV)(k:KE ρ):∀ (n:Nat) (b:Int),it0 c n (S0 (a,b,())) k=bd (l0 c a n b) fun y=>altK k (o0 a y)
 | 0,_=>by rw[l0,bd_none];rfl
 | n+1,b=>by
  rw[t0];simp only[l0,r0,u0 c a k n,bd_br,bd_bd,bd_some',bd_none,br_t,br_f,o0,altK]
theorem sl(c:Nat):SL anns (ls c) (tb c) c (ls c):=slC (laC (fun _=>θ) (fun _ (x:(List TV)×Int×Unit) k=>dJ (u0 c x.1 k (c+40) x.2.1)) laN) slN
def f(c:Nat)(a:List TV):fm Bool:=br (decide ((a.length:Int) > 40)) (some (false,())) (bd (l0 c a (c+40) 0) fun b=>br b.1 (some (false,())) (some (true,())))
def E(c:Nat):Entry:=⟨[(.sl yV)],[.bool],fun x=>f c x.1⟩
theorem ok(c:Nat):Ok 4 (E c):=okL (tC (jL.ok c) tN) (aoC aoN) (sl c) fun x=>θ
end iH
namespace dM
def f(c:Nat)(a:TV):fm Bool:=some (a.1.1,())
def E(c:Nat):Entry:=⟨[yV],[.bool],fun x=>f c x.1⟩
theorem ok(c:Nat):Ok 63 (E c):=fo c tN fun x=>θ
end dM
namespace gu
def anns:FuncId→FA:=annsL [(56,⟨annOf [(0,⟨kx 27 [0,3],[],[]⟩,⟨kx 27 [2],[],[]⟩)],none,[]⟩)]
def r0{ρ:Type}(c:Nat)(h:List TV)(g:Int)(K:Int→Option ρ)(E0:Int→Option ρ)(i:Option ρ):Option ρ:=br (decide (g < (h.length:Int))) (bd (idxL h g) fun a=>bd (gm.f c a) fun b=>br (b.1 != 0) (
 E0 b.1) (bd (idxL h g) fun d=>bd (dM.f c d) fun e=>br e.1 (
 E0 16) (
 K (i64.wrap (g+1))))) (
 i)
def l0(c:Nat)(a:List TV):Nat→Int→Option (Bool×(Int×Unit)×(Unit)×Unit)
 | 0,_=>none
 | n+1,v1=>r0 c a v1 (l0 c a n) (fun b=>some (true,(b,()),((()),()))) (some (false,(0,()),((()),())))
def sh0:ShS:=⟨[.s (.sl yV),.a 2,.s (.int .i64),.a 23],[]⟩
def S0(p:(List TV)×Int×Unit):St:=sh0.b p
def xh0:ShS:=⟨[.a 2,.s (.int .i64),.a 24],[]⟩
def xh1:ShS:=⟨[.a 27],[]⟩
def o0(a:List TV)(y:Bool×(Int×Unit)×(Unit)×Unit):Alt:=.two y.1 (.one .ret (xh0.b (y.2.1.1,()))) (.one (.exit 0) (xh1.b (())))
def tb(c:Nat):List (FuncId×Entry):=[(31,gm.E c),(63,dM.E c)]
def ahm(c:Nat):List (Nat×(St→Option LTE)):=[(0,sumE sh0 fun(p:(List TV)×Int×Unit)=>⟨Bool×(Int×Unit)×(Unit)×Unit,l0 c p.1 (c+40) p.2.1,o0 p.1⟩)]
def ls(c:Nat):List (Nat×FuncId×Sums):=[(13,56,sumsL (ahm c))]
def it0{ρ:Type}(c n:Nat)(a:St)(k:KE ρ):Option ρ:=itG anns (ls c) (tb c) c 13 56 0 0 (sumsL (ahm c)) n a k
theorem t0{ρ:Type}(c n:Nat)(a:List TV)(d:Int)(k:KE ρ):it0 c (n+1) (S0 (a,d,())) k=r0 c a d (fun f=>it0 c n (S0 (a,f,())) k) (fun e=>k .ret (xh0.b (e,()))) (k (.exit 0) (xh1.b (()))):=θ
theorem u0{ρ:Type}(c:Nat)(a:List TV)(k:KE ρ):∀ (n:Nat) (b:Int),it0 c n (S0 (a,b,())) k=bd (l0 c a n b) fun y=>altK k (o0 a y)
 | 0,_=>by rw[l0,bd_none];rfl
 | n+1,b=>by
  rw[t0];simp only[l0,r0,u0 c a k n,bd_br,bd_bd,bd_some',bd_none,br_t,br_f,o0,altK]
theorem sl(c:Nat):SL anns (ls c) (tb c) c (ls c):=slC (laC (fun _=>θ) (fun _ (x:(List TV)×Int×Unit) k=>dJ (u0 c x.1 k (c+40) x.2.1)) laN) slN
def f(c:Nat)(a:List TV):fm Int:=br (decide ((a.length:Int) > 32)) (some (5,())) (bd (l0 c a (c+40) 0) fun b=>br b.1 (some (b.2.1.1,())) (some (0,())))
def E(c:Nat):Entry:=⟨[(.sl yV)],[(.int .i64)],fun x=>f c x.1⟩
theorem ok(c:Nat):Ok 56 (E c):=okL (tC (gm.ok c) (tC (dM.ok c) tN)) (aoC aoN) (sl c) fun x=>θ
end gu
namespace oq
def f(c:Nat)(b:List TV)(a:EX):fm Int:=bd (gu.f c b) fun r1=>br (r1.1 != 0) (some (r1.1,())) (bd (lZ.f c (EX.mk a.i a.s a.j a.l) (b.length:Int)) fun r2=>some (r2.1,()))
def E(c:Nat):Entry:=⟨[(.sl yV),(.rc false)],[(.int .i64)],fun x=>f c x.1 x.2.1⟩
theorem ok(c:Nat):Ok 30 (E c):=fo c (tC (gu.ok c) (tC (lZ.ok c) tN)) fun x=>θ
end oq
namespace aQ
def r0{ρ:Type}(c:Nat)(h:(List TV)→EX→fm TV)(k:List TV)(o:Int)(p:fg)(q:Int)(g:List EX)(r:Bool)(t u:fg)(v:Bool)(m n:fg)(f:Int)(e:List TV)(K:Int→(List TV)→Option ρ)(E0:(List TV)→Option ρ):Option ρ:=br (decide (f < (g.length:Int))) (bd (idxL g f) fun a=>bd (h k (EX.mk a.i a.s a.j a.l)) fun b=>bd (apL true 80 e [b.1]) fun d =>
 K (i64.wrap (f+1)) d) (
 E0 e)
def l0(c:Nat)(d:(List TV)→EX→fm TV)(e:List TV)(f:Int)(g:fg)(h:Int)(i:List EX)(j:Bool)(k l:fg)(m:Bool)(a b:fg):Nat→Int→(List TV)→Option (((List TV)×Unit)×Unit)
 | 0,_,_=>none
 | n+1,v1,v12=>r0 c d e f g h i j k l m a b v1 v12 (l0 c d e f g h i j k l m a b n) (fun o=>some ((o,()),()))
def sh0:ShS:=⟨[.s (.sl yV),.a 2,.s (.ptr 0 0),.s (.ptr 1 0),.s (.row 2),.s (.int .i64),.a 47],[.cells [.s (.int .i64),.s .str,.s (.int .i64),.s (.sl (.rc false))] 26,.cells [.s .bool,.s .str,.s .str,.s .bool,.s .str,.s .str] 32,.row yV 32 false]⟩
def S0(p:(List TV)×Int×Int×fg×Int×(List EX)×Bool×fg×fg×Bool×fg×fg×(List TV)×Unit):St:=sh0.b p
def xh0:ShS:=⟨[.a 3,.s (.ptr 0 0),.s (.ptr 1 0),.s (.row 2),.a 48],[.cells [.s (.int .i64),.s .str,.s (.int .i64),.s (.sl (.rc false))] 26,.cells [.s .bool,.s .str,.s .str,.s .bool,.s .str,.s .str] 32,.row yV 32 false]⟩
def o0(l:List TV)(d:Int)(e:fg)(f:Int)(g:List EX)(h:Bool)(i j:fg)(k:Bool)(a c:fg)(y:((List TV)×Unit)×Unit):Alt:=.one (.exit 0) (xh0.b (d,e,f,g,h,i,j,k,a,c,y.1.1,()))
def fb(c:Nat)(n:(List TV)→EX→fm TV)(m:List TV)(k:EX):fm TV:=br (k.i==0) (bd (fU.f c k.s) fun a=>some (a.1,())) (br (k.i==1) (bd (idxL m k.j) fun a=>some (a,())) (bd (l0 c n m k.i k.s k.j k.l false (⟨#[]⟩:fg) (⟨#[]⟩:fg) false (⟨#[]⟩:fg) (⟨#[]⟩:fg) (c+40) 0 []) fun a=>br (k.i==2) (bd (idxB a.1.1.length 0) fun b=>bd (a.1.1[b]?) fun d=>bd (gW.f c d) fun e=>some (e.1,())) (bd (idxB a.1.1.length 0) fun b=>bd (a.1.1[b]?) fun d=>bd (idxB a.1.1.length 1) fun e=>bd (a.1.1[e]?) fun g=>bd (eG.f c k.i d g) fun h=>some (h.1,()))))
def f(c:Nat):(List TV)→EX→fm TV:=c.rec (fun _ _=>none) fun c a=>fb c a
def E(c:Nat):Entry:=⟨[(.sl yV),(.rc false)],[yV],fun x=>f c x.1 x.2.1⟩
def anns:FuncId→FA:=annsL [(62,⟨annOf [(0,⟨kx 54 [0,3,4,5,6],[⟨.tmp 5,yV,32⟩],[]⟩,⟨kx 54 [3,4,5],[⟨.tmp 5,yV,32⟩],[]⟩)],none,[13]⟩)]
def tb(c:Nat):List (FuncId×Entry):=[(62,E c),(65,gW.E c),(102,fU.E c),(106,eG.E c)]
def ahn(c:Nat):List (Nat×(St→Option LTE)):=[(0,sumE sh0 fun(p:(List TV)×Int×Int×fg×Int×(List EX)×Bool×fg×fg×Bool×fg×fg×(List TV)×Unit)=>⟨((List TV)×Unit)×Unit,l0 c (f c) p.1 p.2.2.1 p.2.2.2.1 p.2.2.2.2.1 p.2.2.2.2.2.1 p.2.2.2.2.2.2.1 p.2.2.2.2.2.2.2.1 p.2.2.2.2.2.2.2.2.1 p.2.2.2.2.2.2.2.2.2.1 p.2.2.2.2.2.2.2.2.2.2.1 p.2.2.2.2.2.2.2.2.2.2.2.1 (c+40) p.2.1 p.2.2.2.2.2.2.2.2.2.2.2.2.1,o0 p.1 p.2.2.1 p.2.2.2.1 p.2.2.2.2.1 p.2.2.2.2.2.1 p.2.2.2.2.2.2.1 p.2.2.2.2.2.2.2.1 p.2.2.2.2.2.2.2.2.1 p.2.2.2.2.2.2.2.2.2.1 p.2.2.2.2.2.2.2.2.2.2.1 p.2.2.2.2.2.2.2.2.2.2.2.1⟩)]
def ls(c:Nat):List (Nat×FuncId×Sums):=[(13,62,sumsL (ahn c))]
def it0{ρ:Type}(c n:Nat)(a:St)(k:KE ρ):Option ρ:=itG anns (ls c) (tb c) c 13 62 0 2 (sumsL (ahn c)) n a k
theorem t0{ρ:Type}(c n:Nat)(q:List TV)(r g:Int)(h:fg)(i:Int)(j:List EX)(l:Bool)(m o:fg)(p:Bool)(a d:fg)(e:List TV)(k:KE ρ):it0 c (n+1) (S0 (q,r,g,h,i,j,l,m,o,p,a,d,e,())) k=r0 c (f c) q g h i j l m o p a d r e (fun t u=>it0 c n (S0 (q,t,g,h,i,j,l,m,o,p,a,d,u,())) k) (fun s=>k (.exit 0) (xh0.b (g,h,i,j,l,m,o,p,a,d,s,()))):=θ
theorem u0{ρ:Type}(c:Nat)(e:List TV)(g:Int)(h:fg)(i:Int)(j:List EX)(l:Bool)(m o:fg)(p:Bool)(a b:fg)(k:KE ρ):∀ (n:Nat) (q:Int) (d:List TV),it0 c n (S0 (e,q,g,h,i,j,l,m,o,p,a,b,d,())) k=bd (l0 c (f c) e g h i j l m o p a b n q d) fun y=>altK k (o0 e g h i j l m o p a b y)
 | 0,_,_=>by rw[l0,bd_none];rfl
 | n+1,q,d=>by
  rw[t0];simp only[l0,r0,u0 c e g h i j l m o p a b k n,bd_br,bd_bd,bd_some',bd_none,br_t,br_f,o0,altK]
theorem sl(c:Nat):SL anns (ls c) (tb c) c (ls c):=slC (laC (fun _=>θ) (fun _ (x:(List TV)×Int×Int×fg×Int×(List EX)×Bool×fg×fg×Bool×fg×fg×(List TV)×Unit) k=>dJ (u0 c x.1 x.2.2.1 x.2.2.2.1 x.2.2.2.2.1 x.2.2.2.2.2.1 x.2.2.2.2.2.2.1 x.2.2.2.2.2.2.2.1 x.2.2.2.2.2.2.2.2.1 x.2.2.2.2.2.2.2.2.2.1 x.2.2.2.2.2.2.2.2.2.2.1 x.2.2.2.2.2.2.2.2.2.2.2.1 k (c+40) x.2.1 x.2.2.2.2.2.2.2.2.2.2.2.2.1)) laN) slN
theorem ok:∀ c:Nat,Ok 62 (E c)
 | 0=>okZ fun _=>rfl
 | c+1=>okL (tC (ok c) (tC (gW.ok c) (tC (fU.ok c) (tC (eG.ok c) tN)))) (aoC aoN) (sl c) fun x=>θ
end aQ
namespace kV
def f(c:Nat)(h:List TV)(i:Int)(g:TV):Option ((List TV)×Bool×Unit):=bd (dM.f c g) fun a=>br a.1 (some ([],false,())) (bd (apL true 80 [] h) fun b=>bd (idxB b.length i) fun d=>bd (upE b d fun _=>some g) fun e=>some (e,true,()))
def E(c:Nat):Entry:=⟨[(.sl yV),(.int .i64),yV],[(.sl yV),.bool],fun x=>f c x.1 x.2.1 x.2.2.1⟩
theorem ok(c:Nat):Ok 64 (E c):=fo c (tC (dM.ok c) tN) fun x=>θ
end kV
end
end Go.Q
namespace Go.Q
open Go Go.RowKit
open Go.Rx (br bd sIdx sCat sCut iQuo iRem iShl)
noncomputable section
namespace gX
def f(c:Nat)(a:TV):fm fg:=br (a.2.1.2.1.toList==(⟨#[48]⟩:fg).toList) (some (a.2.1.2.2.1,())) (some ((⟨#[]⟩:fg),()))
def E(c:Nat):Entry:=⟨[yV],[.str],fun x=>f c x.1⟩
theorem ok(c:Nat):Ok 109 (E c):=fo c tN fun x=>θ
end gX
namespace bK
def f(c:Nat)(e:fg)(g:fg):fm TV:=bd (au.f c e g) fun a=>bd (dm.f c) fun b=>bd (bV.f c a.1 b.1) fun d=>some (d.1,())
def E(c:Nat):Entry:=⟨[.str,.str],[yV],fun x=>f c x.1 x.2.1⟩
theorem ok(c:Nat):Ok 195 (E c):=fo c (tC (bV.ok c) (tC (au.ok c) (tC (dm.ok c) tN))) fun x=>θ
end bK
namespace iJ
def f(c:Nat)(k:TV)(l:fg):fm TV:=bd (bD.f c l) fun a=>br (decide (a.1 < 0)) (bd (bF.f c k.1) fun b=>bd (aZ.f c l) fun d=>br (!(b.1.2.1.toList==(⟨#[]⟩:fg).toList)) (bd (aZ.f c b.1.2.1) fun e=>bd (aI.f c e.1 d.1) fun g=>bd (aZ.f c g.1) fun h=>br (!(b.1.2.2.1.toList==(⟨#[]⟩:fg).toList)) (bd (aI.f c b.1.2.2.1 d.1) fun i=>bd (bK.f c h.1 i.1) fun j=>some (j.1,())) (bd (bK.f c h.1 b.1.2.2.1) fun i=>some (i.1,()))) (br (!(b.1.2.2.1.toList==(⟨#[]⟩:fg).toList)) (bd (aI.f c b.1.2.2.1 d.1) fun e=>bd (bK.f c b.1.2.1 e.1) fun g=>some (g.1,())) (bd (bK.f c b.1.2.1 b.1.2.2.1) fun e=>some (e.1,())))) (br (!(k.1.2.1.toList==(⟨#[]⟩:fg).toList)) (bd (aZ.f c k.1.2.1) fun b=>bd (aI.f c b.1 l) fun d=>bd (aZ.f c d.1) fun e=>br (!(k.1.2.2.1.toList==(⟨#[]⟩:fg).toList)) (bd (aI.f c k.1.2.2.1 l) fun g=>bd (bK.f c e.1 g.1) fun h=>some (h.1,())) (bd (bK.f c e.1 k.1.2.2.1) fun g=>some (g.1,()))) (br (!(k.1.2.2.1.toList==(⟨#[]⟩:fg).toList)) (bd (aI.f c k.1.2.2.1 l) fun b=>bd (bK.f c k.1.2.1 b.1) fun d=>some (d.1,())) (bd (bK.f c k.1.2.1 k.1.2.2.1) fun b=>some (b.1,()))))
def E(c:Nat):Entry:=⟨[yV,.str],[yV],fun x=>f c x.1 x.2.1⟩
theorem ok(c:Nat):Ok 110 (E c):=fo c (tC (bD.ok c) (tC (bF.ok c) (tC (aZ.ok c) (tC (aI.ok c) (tC (bK.ok c) tN))))) fun x=>θ
end iJ
namespace kP
def f(c:Nat)(h:TV)(i:fg):fm TV:=br (!(h.1.2.1.toList==(⟨#[]⟩:fg).toList)) (bd (aO.f c i h.1.2.1) fun a=>br (!(h.1.2.2.1.toList==(⟨#[]⟩:fg).toList)) (bd (aO.f c i h.1.2.2.1) fun b=>bd (dD.f c b.1 i) fun d=>bd (aU.f c d.1 (⟨#[49]⟩:fg)) fun e=>bd (bK.f c a.1 e.1) fun g=>some (g.1,())) (bd (bK.f c a.1 h.1.2.2.1) fun b=>some (b.1,()))) (br (!(h.1.2.2.1.toList==(⟨#[]⟩:fg).toList)) (bd (aO.f c i h.1.2.2.1) fun a=>bd (dD.f c a.1 i) fun b=>bd (aU.f c b.1 (⟨#[49]⟩:fg)) fun d=>bd (bK.f c h.1.2.1 d.1) fun e=>some (e.1,())) (bd (bK.f c h.1.2.1 h.1.2.2.1) fun a=>some (a.1,())))
def E(c:Nat):Entry:=⟨[yV,.str],[yV],fun x=>f c x.1 x.2.1⟩
theorem ok(c:Nat):Ok 111 (E c):=fo c (tC (dD.ok c) (tC (aU.ok c) (tC (aO.ok c) (tC (bK.ok c) tN)))) fun x=>θ
end kP
namespace gB
def f(c:Nat)(l:Int)(k:TV)(j:TV)(i:TV):Option (TV×TV×Unit):=br (l==3) (bd (eG.f c 4 k i) fun a=>bd (dN.f c j a.1) fun b=>bd (eG.f c 4 k j) fun d=>bd (dN.f c i d.1) fun e=>some (b.1,e.1,())) (br (l==4) (bd (eG.f c 3 k i) fun a=>bd (dN.f c j a.1) fun b=>bd (eG.f c 4 j k) fun d=>bd (dN.f c i d.1) fun e=>some (b.1,e.1,())) (br (l==5) (bd (gX.f c i) fun a=>br (!(a.1.toList==(⟨#[]⟩:fg).toList)) (br (!(a.1.toList==(⟨#[48]⟩:fg).toList)) (bd (iJ.f c k a.1) fun b=>bd (dN.f c j b.1) fun d=>bd (gX.f c j) fun e=>br (!(e.1.toList==(⟨#[]⟩:fg).toList)) (br (!(e.1.toList==(⟨#[48]⟩:fg).toList)) (bd (iJ.f c k e.1) fun g=>bd (dN.f c i g.1) fun h=>some (d.1,h.1,())) (some (d.1,i,()))) (some (d.1,i,()))) (bd (gX.f c j) fun b=>br (!(b.1.toList==(⟨#[]⟩:fg).toList)) (br (!(b.1.toList==(⟨#[48]⟩:fg).toList)) (bd (iJ.f c k b.1) fun d=>bd (dN.f c i d.1) fun e=>some (j,e.1,())) (some (j,i,()))) (some (j,i,())))) (bd (gX.f c j) fun b=>br (!(b.1.toList==(⟨#[]⟩:fg).toList)) (br (!(b.1.toList==(⟨#[48]⟩:fg).toList)) (bd (iJ.f c k b.1) fun d=>bd (dN.f c i d.1) fun e=>some (j,e.1,())) (some (j,i,()))) (some (j,i,())))) (br (l==6) (bd (gX.f c i) fun a=>br (!(a.1.toList==(⟨#[]⟩:fg).toList)) (bd (bD.f c a.1) fun b=>br (decide (b.1 > 0)) (bd (kP.f c k a.1) fun d=>bd (dN.f c j d.1) fun e=>some (e.1,i,())) (some (j,i,()))) (some (j,i,()))) (some (j,i,())))))
def E(c:Nat):Entry:=⟨[(.int .i64),yV,yV,yV],[yV,yV],fun x=>f c x.1 x.2.1 x.2.2.1 x.2.2.2.1⟩
theorem ok(c:Nat):Ok 66 (E c):=fo c (tC (dN.ok c) (tC (bD.ok c) (tC (eG.ok c) (tC (gX.ok c) (tC (iJ.ok c) (tC (kP.ok c) tN)))))) fun x=>θ
end gB
end
end Go.Q
