import Derived.Test.YtnjnggbibpnkbaaGreatDoorEIG14
set_option linter.all false
set_option maxRecDepth 100000
namespace Go.Q
open Go Go.RowKit
open Go.Rx (br bd sIdx sCat sCut iQuo iRem iShl)
noncomputable section
namespace gZ
def f(n:Nat)(o:List TV)(k:EX)(m:TV):fm Bool:=bd (iH.f n o) fun a=>br (!a.1) (bd (jb.f n) fun b=>some (b.1,())) (bd (nN.f n (EX.mk k.i k.s k.j k.l)) fun b=>br (!b.1) (bd (jb.f n) fun c=>some (c.1,())) (bd (jL.f n m m) fun c=>br (!c.1) (bd (jb.f n) fun d=>some (d.1,())) (bd (rG.f n o (EX.mk k.i k.s k.j k.l) m) fun d=>bd (lD.f n o (EX.mk k.i k.s k.j k.l) m) fun e=>br (d.2.1==e.2.1) (bd (dB.f n d.1 e.1) fun g=>br g.1 (br (d.2.2.1==e.2.2.1) (bd (jb.f n) fun h=>some (h.1,())) (some (false,()))) (some (false,()))) (some (false,())))))
def E(n:Nat):Entry:=⟨[(.sl yV),(.rc false),yV],[.bool],fun x=>f n x.1 x.2.1 x.2.2.1⟩
theorem ok(n:Nat):Ok 3 (E n):=fo n (tC (iH.ok n) (tC (nN.ok n) (tC (jL.ok n) (tC (jb.ok n) (tC (rG.ok n) (tC (lD.ok n) (tC (dB.ok n) tN))))))) fun x=>θ
end gZ
end
end Go.Q
