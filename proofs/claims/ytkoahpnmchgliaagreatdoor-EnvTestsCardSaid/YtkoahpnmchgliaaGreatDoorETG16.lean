import Derived.Test.YtkoahpnmchgliaaGreatDoorETG15
set_option linter.all false
set_option maxRecDepth 100000
namespace Go.Q
open Go Go.RowKit
open Go.Rx (br bd sIdx sCat sCut iQuo iRem iShl)
noncomputable section
namespace iY
def f(n:Nat)(m:List TV)(o:Int)(k:EX×(EX×Unit)):fo Bool:=bd (iP.f n m) fun a=>br (!a.1) (bd (jl.f n) fun b=>some (b.1,())) (bd (mr.f n (EX.mk k.1.i k.1.s k.1.j k.1.l)) fun b=>br (!b.1) (bd (jl.f n) fun c=>some (c.1,())) (bd (mr.f n (EX.mk k.2.1.i k.2.1.s k.2.1.j k.2.1.l)) fun c=>br (!c.1) (bd (jl.f n) fun d=>some (d.1,())) (bd (uS.f n m o (EX.mk k.1.i k.1.s k.1.j k.1.l) (EX.mk k.2.1.i k.2.1.s k.2.1.j k.2.1.l)) fun d=>bd (nR.f n m o (EX.mk k.1.i k.1.s k.1.j k.1.l) (EX.mk k.2.1.i k.2.1.s k.2.1.j k.2.1.l)) fun e=>br (d.2.1==e.2.1) (bd (dJ.f n d.1 e.1) fun g=>br g.1 (br (d.2.2.1==e.2.2.1) (bd (jl.f n) fun h=>some (h.1,())) (some (false,()))) (some (false,()))) (some (false,())))))
def E(n:Nat):Entry:=⟨[(.sl yV),(.int .i64),(.pair (.rc false) (.pair (.rc false) .unit))],[.bool],fun x=>f n x.1 x.2.1 x.2.2.1⟩
theorem ok(n:Nat):Ok 3 (E n):=fp n (tC (iP.ok n) (tC (mr.ok n) (tC (jl.ok n) (tC (uS.ok n) (tC (nR.ok n) (tC (dJ.ok n) tN)))))) fun x=>θ
end iY
end
end Go.Q
