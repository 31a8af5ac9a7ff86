import Derived.Test.YtkoahpnmchgliaaGreatDoorETG13
set_option linter.all false
set_option maxRecDepth 100000
namespace Go.Q
open Go.IntKind (i64)
open Go Go.RowKit
open Go.Rx (br bd sIdx sCat sCut iQuo iRem iShl)
noncomputable section
namespace lV
def f(c:Nat)(n:List TV)(o:Int)(k:EX)(m:EX):Option ((List TV)×Bool×Unit):=bd (aQ.f c n (EX.mk k.i k.s k.j k.l)) fun a=>bd (aQ.f c n (EX.mk m.i m.s m.j m.l)) fun b=>bd (lC.f c o a.1 b.1) fun d=>bd (dA.f c d.1) fun e=>br e.1 (some ([],false,())) (bd (aG.f c n (EX.mk k.i k.s k.j k.l) d.1) fun g=>br (!g.2.1) (some ([],false,())) (bd (aG.f c g.1 (EX.mk m.i m.s m.j m.l) d.2.1) fun h=>some (h.1,h.2.1,())))
def E(c:Nat):Entry:=⟨[(.sl yV),(.int .i64),(.rc false),(.rc false)],[(.sl yV),.bool],fun x=>f c x.1 x.2.1 x.2.2.1 x.2.2.2.1⟩
theorem ok(c:Nat):Ok 30 (E c):=fp c (tC (dA.ok c) (tC (lC.ok c) (tC (aQ.ok c) (tC (aG.ok c) tN)))) fun x=>θ
end lV
namespace nR
def f(c:Nat)(m:List TV)(n:Int)(h:EX)(k:EX):Option ((List TV)×Bool×Int×Unit):=bd (gU.f c m) fun a=>br (a.1 != 0) (some ([],false,a.1,())) (bd (mZ.f c n) fun b=>br (!b.1) (some ([],false,1,())) (bd (kS.f c (EX.mk h.i h.s h.j h.l) (m.length:Int)) fun d=>br (d.1 != 0) (some ([],false,d.1,())) (bd (kS.f c (EX.mk k.i k.s k.j k.l) (m.length:Int)) fun e=>br (e.1 != 0) (some ([],false,e.1,())) (bd (lV.f c m n (EX.mk h.i h.s h.j h.l) (EX.mk k.i k.s k.j k.l)) fun g=>some (g.1,g.2.1,0,())))))
def E(c:Nat):Entry:=⟨[(.sl yV),(.int .i64),(.rc false),(.rc false)],[(.sl yV),.bool,(.int .i64)],fun x=>f c x.1 x.2.1 x.2.2.1 x.2.2.2.1⟩
theorem ok(c:Nat):Ok 8 (E c):=fp c (tC (gU.ok c) (tC (mZ.ok c) (tC (kS.ok c) (tC (lV.ok c) tN)))) fun x=>θ
end nR
namespace dJ
def anns:FuncId→FA:=annsL [(9,⟨annOf [(0,⟨kx 26 [0,1,5],[],[]⟩,⟨kx 26 [4],[],[]⟩)],none,[]⟩)]
def r0{ρ:Type}(c:Nat)(f h:List TV)(e:Int)(K:Int→Option ρ)(E0:Option ρ)(g:Option ρ):Option ρ:=br (decide (e < (f.length:Int))) (bd (idxL f e) fun a=>bd (idxL h e) fun b=>bd (some (!(((a.1.1==b.1.1)&&((a.1.2.1==b.1.2.1)&&((a.1.2.2.1==b.1.2.2.1)&&true)))&&(((a.2.1.1==b.2.1.1)&&((a.2.1.2.1==b.2.1.2.1)&&((a.2.1.2.2.1==b.2.1.2.2.1)&&true)))&&true)))) fun d=>br d (
 E0) (
 K (i64.wrap (e+1)))) (
 g)
def l0(c:Nat)(a b:List TV):Nat→Int→Option (Bool×(Unit)×(Unit)×Unit)
 | 0,_=>none
 | n+1,v2=>r0 c a b v2 (l0 c a b n) (some (true,(()),((()),()))) (some (false,(()),((()),())))
def sh0:ShS:=⟨[.s (.sl yV),.s (.sl yV),.a 3,.s (.int .i64),.a 20],[]⟩
def S0(p:(List TV)×(List TV)×Int×Unit):St:=sh0.b p
def xh0:ShS:=⟨[.a 4,.s .bool,.a 21],[]⟩
def xh1:ShS:=⟨[.a 26],[]⟩
def o0(a c:List TV)(y:Bool×(Unit)×(Unit)×Unit):Alt:=.two y.1 (.one .ret (xh0.b (false,()))) (.one (.exit 0) (xh1.b (())))
def tb(c:Nat):List (FuncId×Entry):=[]
def ajg(c:Nat):List (Nat×(St→Option LTE)):=[(0,sumE sh0 fun(p:(List TV)×(List TV)×Int×Unit)=>⟨Bool×(Unit)×(Unit)×Unit,l0 c p.1 p.2.1 (c+40) p.2.2.1,o0 p.1 p.2.1⟩)]
def ls(c:Nat):List (Nat×FuncId×Sums):=[(13,9,sumsL (ajg c))]
def it0{ρ:Type}(c n:Nat)(a:St)(k:KE ρ):Option ρ:=itG anns (ls c) (tb c) c 13 9 0 0 (sumsL (ajg c)) n a k
theorem t0{ρ:Type}(c n:Nat)(a d:List TV)(e:Int)(k:KE ρ):it0 c (n+1) (S0 (a,d,e,())) k=r0 c a d e (fun f=>it0 c n (S0 (a,d,f,())) k) (k .ret (xh0.b (false,()))) (k (.exit 0) (xh1.b (()))):=θ
theorem u0{ρ:Type}(c:Nat)(a b:List TV)(k:KE ρ):∀ (n:Nat) (d:Int),it0 c n (S0 (a,b,d,())) k=bd (l0 c a b n d) fun y=>altK k (o0 a b y)
 | 0,_=>by rw[l0,bd_none];rfl
 | n+1,d=>by
  rw[t0];simp only[l0,r0,u0 c a b k n,bd_br,bd_bd,bd_some',bd_none,br_t,br_f,o0,altK]
theorem sl(c:Nat):SL anns (ls c) (tb c) c (ls c):=slC (laC (fun _=>θ) (fun _ (x:(List TV)×(List TV)×Int×Unit) k=>dN (u0 c x.1 x.2.1 k (c+40) x.2.2.1)) laN) slN
def f(c:Nat)(a:List TV)(b:List TV):fo Bool:=br ((a.length:Int) !=(b.length:Int)) (some (false,())) (bd (l0 c a b (c+40) 0) fun d=>br d.1 (some (false,())) (some (true,())))
def E(c:Nat):Entry:=⟨[(.sl yV),(.sl yV)],[.bool],fun x=>f c x.1 x.2.1⟩
theorem ok(c:Nat):Ok 9 (E c):=okL tN (aoC aoN) (sl c) fun x=>θ
end dJ
end
end Go.Q
