import Derived.Test.YtkoahpnmchgliaaGreatDoorETG9
set_option linter.all false
set_option maxRecDepth 100000
open Go.Proofs.Tryz renaming prog→y5
namespace Go.Q
open Go Go.RowKit
open Go.Rx (br bd sIdx sCat sCut iQuo iRem iShl)
noncomputable section
namespace mG
def f(c:Nat)(e:TV)(g:TV):fo Bool:=bd (oC.f c e.1 g.1) fun a=>br a.1 (bd (mD.f c e.2.1) fun b=>br b.1 (bd (mD.f c g.2.1) fun d=>some (d.1,())) (some (false,()))) (some (false,()))
def E(c:Nat):Entry:=⟨[yV,yV],[.bool],fun x=>f c x.1 x.2.1⟩
theorem ok(c:Nat):Ok 10 (E c):=fp c (tC (oC.ok c) (tC (mD.ok c) tN)) fun x=>θ
end mG
namespace dH
def f(c:Nat)  : fo TV:=bd (aA.f c) fun r1=>bd (aI.f c) fun r2=>some ((r1.1,r2.1,()),())
def E(c:Nat):Entry:=⟨[],[yV],fun x=>f c⟩
theorem ok(c:Nat):Ok 86 (E c):=fp c (tC (aA.ok c) (tC (aI.ok c) tN)) fun x=>θ
end dH
namespace qF
def f(c:Nat)  : fo TV:=bd (dB.f c) fun r1=>some (((false,(⟨#[]⟩:fi),(⟨#[]⟩:fi),()),r1.1,()),())
def E(c:Nat):Entry:=⟨[],[yV],fun x=>f c⟩
theorem ok(c:Nat):Ok 150 (E c):=fp c (tC (dB.ok c) tN) fun x=>θ
end qF
namespace gJ
def f(c:Nat)(a:fi):fo TV:=bd (iQ.f c a) fun r1=>br (!(r1.1.2.1.toList==(⟨#[48]⟩:fi).toList)) (bd (qF.f c) fun r2=>some (r2.1,())) (some (((false,a,a,()),r1.1,()),()))
def E(c:Nat):Entry:=⟨[.str],[yV],fun x=>f c x.1⟩
theorem ok(c:Nat):Ok 87 (E c):=fp c (tC (iQ.ok c) (tC (qF.ok c) tN)) fun x=>θ
end gJ
namespace bK
def f(c:Nat)(g:TI)(h:TI):fo TV:=br g.1 (bd (dH.f c) fun a=>some (a.1,())) (br h.1 (bd (dH.f c) fun a=>some (a.1,())) (br (h.2.1.toList==(⟨#[48]⟩:fi).toList) (bd (pF.f c g h.2.2.1) fun a=>br (!a.1) (bd (dH.f c) fun b=>some (b.1,())) (some (((false,h.2.2.1,h.2.2.1,()),h,()),()))) (br (!(g.2.1.toList==(⟨#[]⟩:fi).toList)) (bd (jS.f c h g.2.1) fun a=>br (!(g.2.2.1.toList==(⟨#[]⟩:fi).toList)) (bd (kU.f c h g.2.2.1) fun b=>br (!(a.1.toList==(⟨#[]⟩:fi).toList)) (br (!(b.1.toList==(⟨#[]⟩:fi).toList)) (bd (aO.f c b.1 a.1) fun d=>br d.1 (bd (dH.f c) fun e=>some (e.1,())) (br (a.1.toList==b.1.toList) (bd (gJ.f c a.1) fun e=>some (e.1,())) (bd (ax.f c a.1 b.1) fun e=>some ((e.1,h,()),())))) (bd (ax.f c a.1 b.1) fun d=>some ((d.1,h,()),()))) (bd (ax.f c a.1 b.1) fun d=>some ((d.1,h,()),()))) (br (!(a.1.toList==(⟨#[]⟩:fi).toList)) (br (!(g.2.2.1.toList==(⟨#[]⟩:fi).toList)) (bd (aO.f c g.2.2.1 a.1) fun b=>br b.1 (bd (dH.f c) fun d=>some (d.1,())) (br (a.1.toList==g.2.2.1.toList) (bd (gJ.f c a.1) fun d=>some (d.1,())) (bd (ax.f c a.1 g.2.2.1) fun d=>some ((d.1,h,()),())))) (bd (ax.f c a.1 g.2.2.1) fun b=>some ((b.1,h,()),()))) (bd (ax.f c a.1 g.2.2.1) fun b=>some ((b.1,h,()),())))) (br (!(g.2.2.1.toList==(⟨#[]⟩:fi).toList)) (bd (kU.f c h g.2.2.1) fun a=>br (!(g.2.1.toList==(⟨#[]⟩:fi).toList)) (br (!(a.1.toList==(⟨#[]⟩:fi).toList)) (bd (aO.f c a.1 g.2.1) fun b=>br b.1 (bd (dH.f c) fun d=>some (d.1,())) (br (g.2.1.toList==a.1.toList) (bd (gJ.f c g.2.1) fun d=>some (d.1,())) (bd (ax.f c g.2.1 a.1) fun d=>some ((d.1,h,()),())))) (bd (ax.f c g.2.1 a.1) fun b=>some ((b.1,h,()),()))) (bd (ax.f c g.2.1 a.1) fun b=>some ((b.1,h,()),()))) (br (!(g.2.1.toList==(⟨#[]⟩:fi).toList)) (br (!(g.2.2.1.toList==(⟨#[]⟩:fi).toList)) (bd (aO.f c g.2.2.1 g.2.1) fun a=>br a.1 (bd (dH.f c) fun b=>some (b.1,())) (br (g.2.1.toList==g.2.2.1.toList) (bd (gJ.f c g.2.1) fun b=>some (b.1,())) (bd (ax.f c g.2.1 g.2.2.1) fun b=>some ((b.1,h,()),())))) (bd (ax.f c g.2.1 g.2.2.1) fun a=>some ((a.1,h,()),()))) (bd (ax.f c g.2.1 g.2.2.1) fun a=>some ((a.1,h,()),())))))))
def E(c:Nat):Entry:=⟨[yI,yI],[yV],fun x=>f c x.1 x.2.1⟩
theorem ok(c:Nat):Ok 82 (E c):=fp c (tC (dH.ok c) (tC (gJ.ok c) (tC (aO.ok c) (tC (pF.ok c) (tC (jS.ok c) (tC (kU.ok c) (tC (ax.ok c) tN))))))) fun x=>θ
end bK
namespace jo
def f(c:Nat)(g:TV):fo Int:=bd (kT.f c g.1) fun a=>br (a.1 != 0) (some (a.1,())) (bd (kV.f c g.2.1) fun b=>br (b.1 != 0) (some (b.1,())) (bd (bK.f c g.1 g.2.1) fun d=>bd (some (!(((d.1.1.1==g.1.1)&&((d.1.1.2.1==g.1.2.1)&&((d.1.1.2.2.1==g.1.2.2.1)&&true)))&&(((d.1.2.1.1==g.2.1.1)&&((d.1.2.1.2.1==g.2.1.2.1)&&((d.1.2.1.2.2.1==g.2.1.2.2.1)&&true)))&&true)))) fun e=>br e (some (3,())) (some (0,()))))
def E(c:Nat):Entry:=⟨[yV],[(.int .i64)],fun x=>f c x.1⟩
theorem ok(c:Nat):Ok 52 (E c):=fp c (tC (kT.ok c) (tC (kV.ok c) (tC (bK.ok c) tN))) fun x=>θ
end jo
namespace dD
def f(c:Nat)(e:TV)(g:TV):fo TV:=bd (gI.f c e.1 g.1) fun a=>bd (oG.f c e.2.1 g.2.1) fun b=>bd (bK.f c a.1 b.1) fun d=>some (d.1,())
def E(c:Nat):Entry:=⟨[yV,yV],[yV],fun x=>f c x.1 x.2.1⟩
theorem ok(c:Nat):Ok 84 (E c):=fp c (tC (bK.ok c) (tC (gI.ok c) (tC (oG.ok c) tN))) fun x=>θ
end dD
namespace lC
def f(c:Nat)(j:Int)(h:TV)(i:TV):Option (TV×TV×Unit):=br (j==2) (bd (dD.f c h i) fun a=>bd (dD.f c h i) fun b=>some (a.1,b.1,())) (bd (lm.f c j h.1 i.1) fun a=>bd (bK.f c a.1 h.2.1) fun b=>bd (bK.f c a.2.1 i.2.1) fun d=>br b.1.1.1 (bd (dH.f c) fun e=>bd (dH.f c) fun g=>some (e.1,g.1,())) (br d.1.1.1 (bd (dH.f c) fun e=>bd (dH.f c) fun g=>some (e.1,g.1,())) (some (b.1,d.1,()))))
def E(c:Nat):Entry:=⟨[(.int .i64),yV,yV],[yV,yV],fun x=>f c x.1 x.2.1 x.2.2.1⟩
theorem ok(c:Nat):Ok 57 (E c):=fp c (tC (bK.ok c) (tC (dD.ok c) (tC (lm.ok c) (tC (dH.ok c) tN)))) fun x=>θ
end lC
namespace iC
def f(c:Nat)(e:TV):fo TV:=bd (bG.f c e.1) fun a=>bd (jb.f c e.2.1) fun b=>bd (bK.f c a.1 b.1) fun d=>some (d.1,())
def E(c:Nat):Entry:=⟨[yV],[yV],fun x=>f c x.1⟩
theorem ok(c:Nat):Ok 88 (E c):=fp c (tC (bK.ok c) (tC (bG.ok c) (tC (jb.ok c) tN))) fun x=>θ
end iC
namespace eY
def f(c:Nat)(h:Int)(e:TV)(g:TV):fo TV:=br (h==3) (bd (kF.f c e.1 g.1) fun a=>bd (nP.f c e.2.1 g.2.1) fun b=>bd (bK.f c a.1 b.1) fun d=>some (d.1,())) (br (h==4) (bd (mW.f c e.1 g.1) fun a=>bd (mX.f c e.2.1 g.2.1) fun b=>bd (bK.f c a.1 b.1) fun d=>some (d.1,())) (br (h==5) (bd (dw.f c e.1 g.1) fun a=>bd (mY.f c e.2.1 g.2.1) fun b=>bd (bK.f c a.1 b.1) fun d=>some (d.1,())) (br (h==6) (bd (nN.f c e.1 g.1) fun a=>bd (nO.f c e.2.1 g.2.1) fun b=>bd (bK.f c a.1 b.1) fun d=>some (d.1,())) (bd (lT.f c e.1 g.1) fun a=>bd (lU.f c e.2.1 g.2.1) fun b=>bd (bK.f c a.1 b.1) fun d=>some (d.1,())))))
def E(c:Nat):Entry:=⟨[(.int .i64),yV,yV],[yV],fun x=>f c x.1 x.2.1 x.2.2.1⟩
theorem ok(c:Nat):Ok 89 (E c):=fp c (tC (bK.ok c) (tC (kF.ok c) (tC (nP.ok c) (tC (mW.ok c) (tC (mX.ok c) (tC (dw.ok c) (tC (mY.ok c) (tC (nN.ok c) (tC (nO.ok c) (tC (lT.ok c) (tC (lU.ok c) tN))))))))))) fun x=>θ
end eY
end
end Go.Q
namespace Go.Q
open Go.IntKind (i64)
open Go Go.RowKit
open Go.Rx (br bd sIdx sCat sCut iQuo iRem iShl)
noncomputable section
namespace jC
def anns:FuncId→FA:=annsL [(23,⟨annOf [(0,⟨kx 24 [9,10,11],[],[]⟩,⟨kx 24 [2],[],[]⟩)],none,[]⟩)]
def r0{ρ:Type}(c:Nat)(e:List TV)(g:Int)(a:Int)(K:Int→Option ρ)(E0:Int→Option ρ)(d:Option ρ):Option ρ:=br (decide (a < g)) (bd (idxL e a) fun b=>bd (iT.f c b) fun r2=>br (r2.1 != 0) (
 E0 r2.1) (br b.1.1 (
 E0 16) (
 K (i64.wrap (a+1))))) (
 d)
def l0(c:Nat)(a:List TV)(b:Int):Nat→Int→Option (Bool×(Int×Unit)×(Unit)×Unit)
 | 0,_=>none
 | n+1,v2=>r0 c a b v2 (l0 c a b n) (fun d=>some (true,(d,()),((()),()))) (some (false,(0,()),((()),())))
def sh0:ShS:=⟨[.a 9,.s (.sl yV),.s (.int .i64),.s (.int .i64),.a 12],[]⟩
def S0(p:(List TV)×Int×Int×Unit):St:=sh0.b p
def xh0:ShS:=⟨[.a 2,.s (.int .i64),.a 21],[]⟩
def xh1:ShS:=⟨[.a 24],[]⟩
def o0(a:List TV)(c:Int)(y:Bool×(Int×Unit)×(Unit)×Unit):Alt:=.two y.1 (.one .ret (xh0.b (y.2.1.1,()))) (.one (.exit 0) (xh1.b (())))
def tb(c:Nat):List (FuncId×Entry):=[(40,iT.E c)]
def ahG(c:Nat):List (Nat×(St→Option LTE)):=[(0,sumE sh0 fun(p:(List TV)×Int×Int×Unit)=>⟨Bool×(Int×Unit)×(Unit)×Unit,l0 c p.1 p.2.1 (c+40) p.2.2.1,o0 p.1 p.2.1⟩)]
def ls(c:Nat):List (Nat×FuncId×Sums):=[(13,23,sumsL (ahG c))]
def it0{ρ:Type}(c n:Nat)(a:St)(k:KE ρ):Option ρ:=itG anns (ls c) (tb c) c 13 23 0 0 (sumsL (ahG c)) n a k
theorem t0{ρ:Type}(c n:Nat)(a:List TV)(d e:Int)(k:KE ρ):it0 c (n+1) (S0 (a,d,e,())) k=r0 c a d e (fun g=>it0 c n (S0 (a,d,g,())) k) (fun f=>k .ret (xh0.b (f,()))) (k (.exit 0) (xh1.b (()))):=θ
theorem u0{ρ:Type}(c:Nat)(a:List TV)(b:Int)(k:KE ρ):∀ (n:Nat) (d:Int),it0 c n (S0 (a,b,d,())) k=bd (l0 c a b n d) fun y=>altK k (o0 a b y)
 | 0,_=>by rw[l0,bd_none];rfl
 | n+1,d=>by
  rw[t0];simp only[l0,r0,u0 c a b k n,bd_br,bd_bd,bd_some',bd_none,br_t,br_f,o0,altK]
theorem sl(c:Nat):SL anns (ls c) (tb c) c (ls c):=slC (laC (fun _=>θ) (fun _ (x:(List TV)×Int×Int×Unit) k=>dN (u0 c x.1 x.2.1 k (c+40) x.2.2.1)) laN) slN
def f(c:Nat)(a:List TV):fo Int:=br (decide ((a.length:Int) > 32)) (some (5,())) (bd (l0 c a (a.length:Int) (c+40) 0) fun b=>br b.1 (some (b.2.1.1,())) (some (0,())))
def E(c:Nat):Entry:=⟨[(.sl yV)],[(.int .i64)],fun x=>f c x.1⟩
theorem ok(c:Nat):Ok 23 (E c):=okL (tC (iT.ok c) tN) (aoC aoN) (sl c) fun x=>θ
end jC
namespace lH
def f(c:Nat)(a:List TV)(b:Bool):Option ((List TV)×Bool×Int×Unit):=br (!b) (some ([],false,0,())) (br (decide (0 < a.length)) (bd (apL true 80 [] a) fun d=>some (d,true,0,())) (chs [(bd (apL true 80 [] a) fun e=>some (e,true,0,())),(some ([],true,0,()))]))
def E(c:Nat):Entry:=⟨[(.sl yV),.bool],[(.sl yV),.bool,(.int .i64)],fun x=>f c x.1 x.2.1⟩
theorem ok(c:Nat):Ok 25 (E c):=fp c tN fun x=>θ
end lH
namespace acO
def f(c:Nat)(a:fi):fo TV:=bd (yH.f c a) fun r1=>bd (eG.f c r1.1 r1.2.1) fun r2=>some (r2.1,())
def E(c:Nat):Entry:=⟨[.str],[yV],fun x=>f c x.1⟩
theorem ok(c:Nat):Ok 61 (E c):=fp c (tC (eG.ok c) (tC (yH.ok c) tN)) fun x=>θ
end acO
namespace aY
def fb(c:Nat)(n:(List TV)→EX→fo TV)(m:List TV)(k:EX):fo TV:=br (k.i==0) (bd (acO.f c k.s) fun a=>some (a.1,())) (br (k.i==1) (bd (idxL m k.j) fun a=>some (a,())) (br (k.i==2) (bd (idxL k.l 0) fun a=>bd (n m (EX.mk a.i a.s a.j a.l)) fun b=>bd (uJ.f c b.1) fun d=>bd (eG.f c d.1 d.2.1) fun e=>some (e.1,())) (bd (idxL k.l 0) fun a=>bd (n m (EX.mk a.i a.s a.j a.l)) fun b=>bd (idxL k.l 1) fun d=>bd (n m (EX.mk d.i d.s d.j d.l)) fun e=>bd (qU.f c k.i b.1 e.1) fun g=>bd (eG.f c g.1 g.2.1) fun h=>some (h.1,()))))
def f(c:Nat):(List TV)→EX→fo TV:=c.rec (fun _ _=>none) fun c a=>fb c a
def E(c:Nat):Entry:=⟨[(.sl yV),(.rc false)],[yV],fun x=>f c x.1 x.2.1⟩
def anns:FuncId→FA:=annsL [(34,⟨annOf [],none,[13]⟩)]
theorem ok:∀ c:Nat,Ok 34 (E c)
 | 0=>okZ fun _=>rfl
 | c+1=>okT (an:=anns) (lf:=c) (tC (ok c) (tC (acO.ok c) (tC (eG.ok c) (tC (uJ.ok c) (tC (qU.ok c) tN))))) (aoC aoN) fun x=>θ
end aY
namespace jI
def f(c:Nat)(e:List TV)(h:Int)(g:TV):Option ((List TV)×Bool×Unit):=br g.1.1 (some ([],false,())) (br (decide (0 < e.length)) (bd (apL true 80 [] e) fun a=>bd (idxB a.length h) fun b=>bd (upE a b fun _=>some g) fun d=>some (d,true,())) (chs [(bd (apL true 80 [] e) fun a=>bd (idxB a.length h) fun b=>bd (upE a b fun _=>some g) fun d=>some (d,true,())),(none)]))
def E(c:Nat):Entry:=⟨[(.sl yV),(.int .i64),yV],[(.sl yV),.bool],fun x=>f c x.1 x.2.1 x.2.2.1⟩
theorem ok(c:Nat):Ok 36 (E c):=fp c tN fun x=>θ
end jI
namespace gq
def f(c:Nat)(a:TV)(b:TV):fo TV:=bd (nS.f c a b) fun r1=>bd (eG.f c r1.1 r1.2.1) fun r2=>some (r2.1,())
def E(c:Nat):Entry:=⟨[yV,yV],[yV],fun x=>f c x.1 x.2.1⟩
theorem ok(c:Nat):Ok 115 (E c):=fp c (tC (nS.ok c) (tC (eG.ok c) tN)) fun x=>θ
end gq
namespace pK
def f(c:Nat)(a:Int)(b:TV)(d:TV):fo TV:=bd (qU.f c a b d) fun r1=>bd (eG.f c r1.1 r1.2.1) fun r2=>some (r2.1,())
def E(c:Nat):Entry:=⟨[(.int .i64),yV,yV],[yV],fun x=>f c x.1 x.2.1 x.2.2.1⟩
theorem ok(c:Nat):Ok 116 (E c):=fp c (tC (eG.ok c) (tC (qU.ok c) tN)) fun x=>θ
end pK
namespace pW
def f(c:Nat)(a:TV):fo fi:=bd (vI.f c a) fun r1=>br (!r1.2.1) (some ((⟨#[]⟩:fi),())) (some (r1.1,()))
def E(c:Nat):Entry:=⟨[yV],[.str],fun x=>f c x.1⟩
theorem ok(c:Nat):Ok 117 (E c):=fp c (tC (vI.ok c) tN) fun x=>θ
end pW
namespace gm
def f(c:Nat)(h:fi)(i:fi):fo TV:=bd (rH.f c h i) fun a=>bd (oH.f c a.1 a.2.1) fun b=>bd (gZ.f c) fun d=>bd (xY.f c b.1 d.1) fun e=>bd (eG.f c e.1 e.2.1) fun g=>some (g.1,())
def E(c:Nat):Entry:=⟨[.str,.str],[yV],fun x=>f c x.1 x.2.1⟩
theorem ok(c:Nat):Ok 208 (E c):=fp c (tC (eG.ok c) (tC (oH.ok c) (tC (gZ.ok c) (tC (xY.ok c) (tC (rH.ok c) tN))))) fun x=>θ
end gm
namespace pV
def f(c:Nat)(q:TV)(r:fi):fo TV:=bd (sIdx r 0) fun a=>br (((a.toNat:Nat):Int)==45) (bd (pY.f c q.1) fun b=>bd (oH.f c b.1 b.2.1) fun d=>bd (jQ.f c r) fun e=>bd (fQ.f c e.1 e.2.1) fun g=>br (!(d.1.2.1.toList==(⟨#[]⟩:fi).toList)) (bd (jQ.f c d.1.2.1) fun h=>bd (fQ.f c h.1 h.2.1) fun i=>bd (iE.f c i.1 g.1) fun j=>bd (fQ.f c j.1 j.2.1) fun k=>bd (jQ.f c k.1) fun l=>bd (fQ.f c l.1 l.2.1) fun m=>br (!(d.1.2.2.1.toList==(⟨#[]⟩:fi).toList)) (bd (iE.f c d.1.2.2.1 g.1) fun n=>bd (fQ.f c n.1 n.2.1) fun o=>bd (gm.f c m.1 o.1) fun p=>some (p.1,())) (bd (gm.f c m.1 d.1.2.2.1) fun n=>some (n.1,()))) (br (!(d.1.2.2.1.toList==(⟨#[]⟩:fi).toList)) (bd (iE.f c d.1.2.2.1 g.1) fun h=>bd (fQ.f c h.1 h.2.1) fun i=>bd (gm.f c d.1.2.1 i.1) fun j=>some (j.1,())) (bd (gm.f c d.1.2.1 d.1.2.2.1) fun h=>some (h.1,())))) (br (!(q.1.2.1.toList==(⟨#[]⟩:fi).toList)) (bd (jQ.f c q.1.2.1) fun b=>bd (fQ.f c b.1 b.2.1) fun d=>bd (iE.f c d.1 r) fun e=>bd (fQ.f c e.1 e.2.1) fun g=>bd (jQ.f c g.1) fun h=>bd (fQ.f c h.1 h.2.1) fun i=>br (!(q.1.2.2.1.toList==(⟨#[]⟩:fi).toList)) (bd (iE.f c q.1.2.2.1 r) fun j=>bd (fQ.f c j.1 j.2.1) fun k=>bd (gm.f c i.1 k.1) fun l=>some (l.1,())) (bd (gm.f c i.1 q.1.2.2.1) fun j=>some (j.1,()))) (br (!(q.1.2.2.1.toList==(⟨#[]⟩:fi).toList)) (bd (iE.f c q.1.2.2.1 r) fun b=>bd (fQ.f c b.1 b.2.1) fun d=>bd (gm.f c q.1.2.1 d.1) fun e=>some (e.1,())) (bd (gm.f c q.1.2.1 q.1.2.2.1) fun b=>some (b.1,()))))
def E(c:Nat):Entry:=⟨[yV,.str],[yV],fun x=>f c x.1 x.2.1⟩
theorem ok(c:Nat):Ok 118 (E c):=fp c (tC (pY.ok c) (tC (oH.ok c) (tC (fQ.ok c) (tC (jQ.ok c) (tC (iE.ok c) (tC (gm.ok c) tN)))))) fun x=>θ
end pV
namespace pJ
def f(c:Nat)(l:TV)(m:fi):fo TV:=br (!(l.1.2.1.toList==(⟨#[]⟩:fi).toList)) (bd (lF.f c m l.1.2.1) fun a=>bd (fQ.f c a.1 a.2.1) fun b=>br (!(l.1.2.2.1.toList==(⟨#[]⟩:fi).toList)) (bd (lF.f c m l.1.2.2.1) fun d=>bd (fQ.f c d.1 d.2.1) fun e=>bd (kM.f c e.1 m) fun g=>bd (fQ.f c g.1 g.2.1) fun h=>bd (lG.f c h.1 (⟨#[49]⟩:fi)) fun i=>bd (fQ.f c i.1 i.2.1) fun j=>bd (gm.f c b.1 j.1) fun k=>some (k.1,())) (bd (gm.f c b.1 l.1.2.2.1) fun d=>some (d.1,()))) (br (!(l.1.2.2.1.toList==(⟨#[]⟩:fi).toList)) (bd (lF.f c m l.1.2.2.1) fun a=>bd (fQ.f c a.1 a.2.1) fun b=>bd (kM.f c b.1 m) fun d=>bd (fQ.f c d.1 d.2.1) fun e=>bd (lG.f c e.1 (⟨#[49]⟩:fi)) fun g=>bd (fQ.f c g.1 g.2.1) fun h=>bd (gm.f c l.1.2.1 h.1) fun i=>some (i.1,())) (bd (gm.f c l.1.2.1 l.1.2.2.1) fun a=>some (a.1,())))
def E(c:Nat):Entry:=⟨[yV,.str],[yV],fun x=>f c x.1 x.2.1⟩
theorem ok(c:Nat):Ok 119 (E c):=fp c (tC (fQ.ok c) (tC (gm.ok c) (tC (lF.ok c) (tC (lG.ok c) (tC (kM.ok c) tN))))) fun x=>θ
end pJ
end
end Go.Q
namespace Go.Q
open Go.IntKind (i64)
open Go Go.RowKit
open Go.Rx (br bd sIdx sCat sCut iQuo iRem iShl)
noncomputable section
namespace jM
def r1{ρ:Type}(c:Nat)(n:Int→Int→fi→Int→(List EX)→Int→fi→Int→(List EX)→Int→Int→Int→fi→Int→(List EX)→Option ((Int×Int×Unit)×Unit))(o:Int)(p:List EX)(q r:Int)(t:fi)(u:Int)(v:List EX)(b:Int)(d:fi)(e:Int)(f:List EX)(g h k:Int)(K:Int→Int→Int→Option ρ)(E0:Int→Int→Option ρ):Option ρ:=br (decide (g < q)) (bd (idxL p g) fun a=>bd (n (i64.wrap (o+1)) a.i a.s a.j a.l r t u v h k b d e f) fun m =>
 K (i64.wrap (g+1)) m.1.1 m.1.2.1) (
 E0 h k)
def l1(c:Nat)(f:Int→Int→fi→Int→(List EX)→Int→fi→Int→(List EX)→Int→Int→Int→fi→Int→(List EX)→Option ((Int×Int×Unit)×Unit))(g:Int)(h:List EX)(i j:Int)(k:fi)(l:Int)(m:List EX)(a:Int)(b:fi)(d:Int)(e:List EX):Nat→Int→Int→Int→Option ((Int×Int×Unit)×Unit)
 | 0,_,_,_=>none
 | n+1,v3,v8,v9=>r1 c f g h i j k l m a b d e v3 v8 v9 (l1 c f g h i j k l m a b d e n) (fun o p=>some ((o,p,()),()))
def sh1:ShS:=⟨[.s (.int .i64),.a 2,.s (.ptr 6 0),.a 11,.s (.sl (.rc false)),.s (.int .i64),.s (.int .i64),.a 10],[.cells [.s (.int .i64),.s .str,.s (.int .i64),.s (.sl (.rc false))] 26,.cells [.s (.int .i64)] 3,.cells [.s (.int .i64)] 3,.cells [.s (.int .i64),.s .str,.s (.int .i64),.s (.sl (.rc false))] 26,.rnd [.a 4,.s (.ptr 1 0),.s (.ptr 2 0),.a 12] 47 0 .ready none,.cells [.s (.yld 4)] 117,.cells [.s (.fn 75 [] [.ptr 5 0,.ptr 6 0])] 117,.gone]⟩
def S1(p:Int×(List EX)×Int×Int×Int×fi×Int×(List EX)×Int×Int×Int×fi×Int×(List EX)×Unit):St:=sh1.b p
def xh0:ShS:=⟨[.a 28],[.cells [.s (.int .i64),.s .str,.s (.int .i64),.s (.sl (.rc false))] 26,.cells [.s (.int .i64)] 3,.cells [.s (.int .i64)] 3,.cells [.s (.int .i64),.s .str,.s (.int .i64),.s (.sl (.rc false))] 26,.rnd [.a 4,.s (.ptr 1 0),.s (.ptr 2 0),.a 12] 47 0 .ready none,.cells [.s (.yld 4)] 117,.cells [.s (.fn 75 [] [.ptr 5 0,.ptr 6 0])] 117,.gone]⟩
def o1(j:Int)(k:List EX)(l f:Int)(g:fi)(h:Int)(i:List EX)(a:Int)(c:fi)(d:Int)(e:List EX)(y:(Int×Int×Unit)×Unit):Alt:=.one (.exit 0) (xh0.b (f,g,h,i,y.1.1,y.1.2.1,a,c,d,e,()))
def gr0{ρ:Type}(c:Nat)(j:Int→Int→fi→Int→(List EX)→Int→fi→Int→(List EX)→Int→Int→Int→fi→Int→(List EX)→Option ((Int×Int×Unit)×Unit))(b:Int)(p:Int)(q:fi)(r:Int)(h:List EX)(k:Int)(l:fi)(m:Int)(n:List EX)(o:Int)(a:Int)(d:Int)(e:fi)(f:Int)(g:List EX)(E0:Int→Int→Option ρ):Option ρ:=bd (l1 c j b h (h.length:Int) k l m n d e f g (c+40) 0 (i64.wrap (o+1)) (if b > a then b else a)) fun i =>
 E0 i.1.1 i.1.2.1
def g0(c:Nat):Nat→Int→Int→fi→Int→(List EX)→Int→fi→Int→(List EX)→Int→Int→Int→fi→Int→(List EX)→Option ((Int×Int×Unit)×Unit)
 | 0,_,_,_,_,_,_,_,_,_,_,_,_,_,_,_=>none
 | n+1,v0,v1,v2,v3,v4,v5,v6,v7,v8,v9,v10,v11,v12,v13,v14=>gr0 c (g0 c n) v0 v1 v2 v3 v4 v5 v6 v7 v8 v9 v10 v11 v12 v13 v14 (fun a b=>some ((a,b,()),()))
def sh0:ShS:=⟨[.s (.int .i64),.s (.agg [.int .i64,.str,.int .i64,.sl (.rc false)]),.s (.ptr 5 0),.s (.ptr 6 0)],[.cells [.s (.int .i64),.s .str,.s (.int .i64),.s (.sl (.rc false))] 26,.cells [.s (.int .i64)] 3,.cells [.s (.int .i64)] 3,.cells [.s (.int .i64),.s .str,.s (.int .i64),.s (.sl (.rc false))] 26,.rnd [.a 4,.s (.ptr 1 0),.s (.ptr 2 0),.a 12] 47 0 .ready none,.cells [.s (.yld 4)] 117,.cells [.s (.fn 75 [] [.ptr 5 0,.ptr 6 0])] 117]⟩
def S0(p:Int×Int×fi×Int×(List EX)×Int×fi×Int×(List EX)×Int×Int×Int×fi×Int×(List EX)×Unit):St:=sh0.b p
def xh1:ShS:=⟨[.s .bool],[.cells [.s (.int .i64),.s .str,.s (.int .i64),.s (.sl (.rc false))] 26,.cells [.s (.int .i64)] 3,.cells [.s (.int .i64)] 3,.cells [.s (.int .i64),.s .str,.s (.int .i64),.s (.sl (.rc false))] 26,.rnd [.a 4,.s (.ptr 1 0),.s (.ptr 2 0),.a 12] 47 0 .ready none,.cells [.s (.yld 4)] 117,.cells [.s (.fn 75 [] [.ptr 5 0,.ptr 6 0])] 117]⟩
def go0(k:Int)(l:Int)(m:fi)(n:Int)(o:List EX)(g:Int)(h:fi)(i:Int)(j:List EX)(p:Int)(f:Int)(a:Int)(c:fi)(d:Int)(e:List EX)(y:(Int×Int×Unit)×Unit):Res:=detG (xh1.b (true,g,h,i,j,y.1.1,y.1.2.1,a,c,d,e,()))
def gG(c q:Nat):Nat→List SV→Mem→Option Res:=genE sh0 (fun(x:Int×Int×fi×Int×(List EX)×Int×fi×Int×(List EX)×Int×Int×Int×fi×Int×(List EX)×Unit)=>.bnd _ (g0 c q x.1 x.2.1 x.2.2.1 x.2.2.2.1 x.2.2.2.2.1 x.2.2.2.2.2.1 x.2.2.2.2.2.2.1 x.2.2.2.2.2.2.2.1 x.2.2.2.2.2.2.2.2.1 x.2.2.2.2.2.2.2.2.2.1 x.2.2.2.2.2.2.2.2.2.2.1 x.2.2.2.2.2.2.2.2.2.2.2.1 x.2.2.2.2.2.2.2.2.2.2.2.2.1 x.2.2.2.2.2.2.2.2.2.2.2.2.2.1 x.2.2.2.2.2.2.2.2.2.2.2.2.2.2.1) (go0 x.1 x.2.1 x.2.2.1 x.2.2.2.1 x.2.2.2.2.1 x.2.2.2.2.2.1 x.2.2.2.2.2.2.1 x.2.2.2.2.2.2.2.1 x.2.2.2.2.2.2.2.2.1 x.2.2.2.2.2.2.2.2.2.1 x.2.2.2.2.2.2.2.2.2.2.1 x.2.2.2.2.2.2.2.2.2.2.2.1 x.2.2.2.2.2.2.2.2.2.2.2.2.1 x.2.2.2.2.2.2.2.2.2.2.2.2.2.1 x.2.2.2.2.2.2.2.2.2.2.2.2.2.2.1)) genN
def anns(c q:Nat):FuncId→FA:=annsL [(47,⟨annOf [(0,⟨kx 18 [4,5],[],[]⟩,⟨[],[],[]⟩)],none,[]⟩),(75,⟨annOf [(0,⟨kx 28 [0,3,15,16,17],[],[7]⟩,⟨kx 28 [6],[],[7]⟩)],some (.gen (genT 7 (gG c q))),[]⟩)]
def tb(c:Nat):List (FuncId×Entry):=[]
def abJ(c q:Nat):List (Nat×(St→Option LTE)):=[(0,sumE sh1 fun(p:Int×(List EX)×Int×Int×Int×fi×Int×(List EX)×Int×Int×Int×fi×Int×(List EX)×Unit)=>⟨(Int×Int×Unit)×Unit,l1 c (g0 c q) p.1 p.2.1 p.2.2.1 p.2.2.2.2.1 p.2.2.2.2.2.1 p.2.2.2.2.2.2.1 p.2.2.2.2.2.2.2.1 p.2.2.2.2.2.2.2.2.2.2.1 p.2.2.2.2.2.2.2.2.2.2.2.1 p.2.2.2.2.2.2.2.2.2.2.2.2.1 p.2.2.2.2.2.2.2.2.2.2.2.2.2.1 (c+40) p.2.2.2.1 p.2.2.2.2.2.2.2.2.1 p.2.2.2.2.2.2.2.2.2.1,o1 p.1 p.2.1 p.2.2.1 p.2.2.2.2.1 p.2.2.2.2.2.1 p.2.2.2.2.2.2.1 p.2.2.2.2.2.2.2.1 p.2.2.2.2.2.2.2.2.2.2.1 p.2.2.2.2.2.2.2.2.2.2.2.1 p.2.2.2.2.2.2.2.2.2.2.2.2.1 p.2.2.2.2.2.2.2.2.2.2.2.2.2.1⟩)]
def ls(c q:Nat):List (Nat×FuncId×Sums):=[(13,75,sumsL (abJ c q))]
def it1{ρ:Type}(c q n:Nat)(a:St)(k:KE ρ):Option ρ:=itG (anns c q) (ls c q) (tb c) c 13 75 0 8 (sumsL (abJ c q)) n a k
theorem t1{ρ:Type}(c q n:Nat)(l:Int)(m:List EX)(o p g:Int)(h:fi)(i:Int)(j:List EX)(r s a:Int)(d:fi)(e:Int)(f:List EX)(k:KE ρ):it1 c q (n+1) (S1 (l,m,o,p,g,h,i,j,r,s,a,d,e,f,())) k=r1 c (g0 c q) l m o g h i j a d e f p r s (fun v w x=>it1 c q n (S1 (l,m,o,v,g,h,i,j,w,x,a,d,e,f,())) k) (fun t u=>k (.exit 0) (xh0.b (g,h,i,j,t,u,a,d,e,f,()))):=θ
theorem u1{ρ:Type}(c q:Nat)(f:Int)(g:List EX)(h i:Int)(j:fi)(l:Int)(m:List EX)(a:Int)(b:fi)(d:Int)(e:List EX)(k:KE ρ):∀ (n:Nat) (o p r:Int),it1 c q n (S1 (f,g,h,o,i,j,l,m,p,r,a,b,d,e,())) k=bd (l1 c (g0 c q) f g h i j l m a b d e n o p r) fun y=>altK k (o1 f g h i j l m a b d e y)
 | 0,_,_,_=>by rw[l1,bd_none];rfl
 | n+1,o,p,r=>by
  rw[t1];simp only[l1,r1,u1 c q f g h i j l m a b d e k n,bd_br,bd_bd,bd_some',bd_none,br_t,br_f,o1,altK]
theorem sl(c q:Nat):SL (anns c q) (ls c q) (tb c) c (ls c q):=slC (laC (fun _=>θ) (fun _ (x:Int×(List EX)×Int×Int×Int×fi×Int×(List EX)×Int×Int×Int×fi×Int×(List EX)×Unit) k=>dN (u1 c q x.1 x.2.1 x.2.2.1 x.2.2.2.2.1 x.2.2.2.2.2.1 x.2.2.2.2.2.2.1 x.2.2.2.2.2.2.2.1 x.2.2.2.2.2.2.2.2.2.2.1 x.2.2.2.2.2.2.2.2.2.2.2.1 x.2.2.2.2.2.2.2.2.2.2.2.2.1 x.2.2.2.2.2.2.2.2.2.2.2.2.2.1 k (c+40) x.2.2.2.1 x.2.2.2.2.2.2.2.2.1 x.2.2.2.2.2.2.2.2.2.1)) laN) slN
theorem gt0{ρ:Type}(c q:Nat)(m:Int)(n:Int)(o:fi)(p:Int)(r:List EX)(h:Int)(i:fi)(j:Int)(l:List EX)(s:Int)(g:Int)(a:Int)(d:fi)(e:Int)(f:List EX)(k:KO ρ):bodyG (anns c q) (ls c q) (tb c) c 13 75 (S0 (m,n,o,p,r,h,i,j,l,s,g,a,d,e,f,())) (cutK 7 k)=gr0 c (g0 c q) m n o p r h i j l s g a d e f (fun t u=>kG k (xh1.b (true,h,i,j,l,t,u,a,d,e,f,()))):=θ
theorem gu0{ρ:Type}(c q:Nat)(g:Int)(h:Int)(i:fi)(j:Int)(l:List EX)(m:Int)(n:fi)(o:Int)(p:List EX)(r:Int)(a:Int)(b:Int)(d:fi)(e:Int)(f:List EX)(k:KO ρ):bodyG (anns c q) (ls c q) (tb c) c 13 75 (S0 (g,h,i,j,l,m,n,o,p,r,a,b,d,e,f,())) (cutK 7 k)=resK (.bnd _ (g0 c (q+1) g h i j l m n o p r a b d e f) (go0 g h i j l m n o p r a b d e f)) k:=by
 rw[gt0];simp only[resK,g0,gr0,bd_br,bd_bd,bd_some',bd_none,br_t,br_f,go0,agJ]
theorem gz(c:Nat):Gen0 (gG c 0):=(agT (fun _=>rfl) agU)
theorem ga(c q:Nat):GenAt (anns c q) (ls c q) (tb c) c 13 75 7 (gG c (q+1)):=(aff (fun _=>θ) (fun _ (x:Int×Int×fi×Int×(List EX)×Int×fi×Int×(List EX)×Int×Int×Int×fi×Int×(List EX)×Unit) k=>dN (gu0 c q x.1 x.2.1 x.2.2.1 x.2.2.2.1 x.2.2.2.2.1 x.2.2.2.2.2.1 x.2.2.2.2.2.2.1 x.2.2.2.2.2.2.2.1 x.2.2.2.2.2.2.2.2.1 x.2.2.2.2.2.2.2.2.2.1 x.2.2.2.2.2.2.2.2.2.2.1 x.2.2.2.2.2.2.2.2.2.2.2.1 x.2.2.2.2.2.2.2.2.2.2.2.2.1 x.2.2.2.2.2.2.2.2.2.2.2.2.2.1 x.2.2.2.2.2.2.2.2.2.2.2.2.2.2.1 k)) afg)
theorem gok(c:Nat):∀ q,SpkOK y5 TabG (.gen (genT 7 (gG c q))) 75
 | 0=>aaZ (afh (gz c))
 | q+1=>aaZ (genOK tN (aoC (aoP (gok c q) aoN)) (sl c q) (ga c q))
def f(c:Nat)(a:EX):Option (Int×Int×Unit):=bd (g0 c (c+40) 1 a.i a.s a.j a.l a.i a.s a.j a.l 0 0 a.i a.s a.j a.l) fun b=>some (b.1.1,b.1.2.1,())
def E(c:Nat):Entry:=⟨[(.rc false)],[(.int .i64),(.int .i64)],fun x=>f c x.1⟩
theorem ok(c:Nat):Ok 47 (E c):=okL (an:=anns c (c+40)) (ls:=ls c (c+40)) (tb:=tb c) tN (aoC (aoP (gok c (c+40)) aoN)) (sl c (c+40)) fun x=>θ
end jM
namespace yP
def f(c:Nat)(a:fi):fo Bool:=bd (strings_TrimPrefix.f c a (⟨#[45]⟩:fi)) fun r1=>some ((decide ((r1.1.size:Int) > 100)),())
def E(c:Nat):Entry:=⟨[.str],[.bool],fun x=>f c x.1⟩
theorem ok(c:Nat):Ok 125 (E c):=fp c (tC (strings_TrimPrefix.ok c) tN) fun x=>θ
end yP
namespace uT
def f(c:Nat)(a:fi):fo Int:=bd (dK.f c a) fun r1=>br (r1.1 != 0) (some (r1.1,())) (bd (yP.f c a) fun r2=>br r2.1 (some (10,())) (some (0,())))
def E(c:Nat):Entry:=⟨[.str],[(.int .i64)],fun x=>f c x.1⟩
theorem ok(c:Nat):Ok 76 (E c):=fp c (tC (dK.ok c) (tC (yP.ok c) tN)) fun x=>θ
end uT
namespace uz
def f(c:Nat)(a:EX)(b:Int):fo Int:=br (decide (a.i < 0)) (some (1,())) (br (decide (a.i≥8)) (some (1,())) (bd (idxL (gtab gtN) a.i) fun d=>br ((a.l.length:Int) != d) (some (15,())) (br (a.i==0) (bd (uT.f c a.s) fun r2=>br (r2.1 != 0) (some (r2.1,())) (br (a.i==1) (br (decide (a.j < 0)) (some (6,())) (br (decide (a.j≥b)) (some (6,())) (br (a.i != 1) (br (a.j != 0) (some (3,())) (some (0,()))) (some (0,()))))) (br (a.i != 1) (br (a.j != 0) (some (3,())) (some (0,()))) (some (0,()))))) (br (!(a.s.toList==(⟨#[]⟩:fi).toList)) (some (3,())) (br (a.i==1) (br (decide (a.j < 0)) (some (6,())) (br (decide (a.j≥b)) (some (6,())) (br (a.i != 1) (br (a.j != 0) (some (3,())) (some (0,()))) (some (0,()))))) (br (a.i != 1) (br (a.j != 0) (some (3,())) (some (0,()))) (some (0,()))))))))
def E(c:Nat):Entry:=⟨[(.rc false),(.int .i64)],[(.int .i64)],fun x=>f c x.1 x.2.1⟩
theorem ok(c:Nat):Ok 49 (E c):=fp c (tC (uT.ok c) tN) fun x=>θ
end uz
end
end Go.Q
