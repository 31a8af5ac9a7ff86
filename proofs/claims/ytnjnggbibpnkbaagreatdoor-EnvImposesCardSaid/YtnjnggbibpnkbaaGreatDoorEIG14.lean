import Derived.Test.YtnjnggbibpnkbaaGreatDoorEIG13
set_option linter.all false
set_option maxRecDepth 100000
namespace Go.Q
open Go.IntKind (i64)
open Go Go.RowKit
open Go.Rx (br bd sIdx sCat sCut iQuo iRem iShl)
noncomputable section
namespace iO
def f(n:Nat)(a:fg)(b:fg):fm TV:=some (((false,a,b,()),(false,(⟨#[49]⟩:fg),(⟨#[48]⟩:fg),()),()),())
def E(n:Nat):Entry:=⟨[.str,.str],[yV],fun x=>f n x.1 x.2.1⟩
theorem ok(n:Nat):Ok 14 (E n):=fo n tN fun x=>θ
end iO
namespace je
def f(n:Nat)(c:Int)(a:EX)(b:EX):fm EX:=bd (sQ.f n c (EX.mk a.i a.s a.j a.l) (EX.mk b.i b.s b.j b.l)) fun r1=>some ((EX.mk r1.1.i r1.1.s r1.1.j r1.1.l),())
def E(n:Nat):Entry:=⟨[(.int .i64),(.rc false),(.rc false)],[(.rc false)],fun x=>f n x.1 x.2.1 x.2.2.1⟩
theorem ok(n:Nat):Ok 18 (E n):=fo n (tC (sQ.ok n) tN) fun x=>θ
end je
namespace kM
def f(n:Nat)(c:Int)(a:EX)(b:EX):fm CX:=bd (qc.f n c (EX.mk a.i a.s a.j a.l) (EX.mk b.i b.s b.j b.l)) fun r1=>some ((CX.mk r1.1.i r1.1.l r1.1.m),())
def E(n:Nat):Entry:=⟨[(.int .i64),(.rc false),(.rc false)],[(.rc true)],fun x=>f n x.1 x.2.1 x.2.2.1⟩
theorem ok(n:Nat):Ok 22 (E n):=fo n (tC (qc.ok n) tN) fun x=>θ
end kM
namespace jb
def f(n:Nat)  : fm Bool:=bd (iO.f n (⟨#[48]⟩:fg) (⟨#[57]⟩:fg)) fun a=>bd (iO.f n (⟨#[50]⟩:fg) (⟨#[52]⟩:fg)) fun b=>bd (qg.f n 0) fun c=>bd (qg.f n 1) fun d=>bd (fB.f n (⟨#[50]⟩:fg)) fun e=>bd (je.f n 5 (EX.mk c.1.i c.1.s c.1.j c.1.l) (EX.mk e.1.i e.1.s e.1.j e.1.l)) fun g=>bd (fB.f n (⟨#[49]⟩:fg)) fun h=>bd (je.f n 3 (EX.mk g.1.i g.1.s g.1.j g.1.l) (EX.mk h.1.i h.1.s h.1.j h.1.l)) fun k=>bd (zx.f n [a.1,b.1] (EX.mk k.1.i k.1.s k.1.j k.1.l)) fun o=>bd (je.f n 6 (EX.mk c.1.i c.1.s c.1.j c.1.l) (EX.mk d.1.i d.1.s d.1.j d.1.l)) fun p=>bd (yT.f n [a.1,b.1] 0 (EX.mk p.1.i p.1.s p.1.j p.1.l)) fun q=>br ((i64.wrap (o.2.1+q.2.2.1)) != 0) (some (false,())) (br (!q.2.1) (some (false,())) (bd (some (!((o.1.1.1==false)&&((o.1.1.2.1==(⟨#[49]⟩:fg))&&((o.1.1.2.2.1==(⟨#[49,57]⟩:fg))&&true))))) fun r=>br r (some (false,())) (bd (some (!((o.1.2.1.1==false)&&((o.1.2.1.2.1==(⟨#[50]⟩:fg))&&((o.1.2.1.2.2.1==(⟨#[49]⟩:fg))&&true))))) fun t=>br t (some (false,())) (bd (iO.f n (⟨#[48]⟩:fg) (⟨#[52]⟩:fg)) fun u=>bd (dB.f n q.1 [u.1,b.1]) fun v=>br (!v.1) (some (false,())) (bd (je.f n 3 (EX.mk c.1.i c.1.s c.1.j c.1.l) (EX.mk d.1.i d.1.s d.1.j d.1.l)) fun w=>bd (fB.f n (⟨#[53]⟩:fg)) fun x=>bd (zy.f n [a.1,b.1] 4 (EX.mk w.1.i w.1.s w.1.j w.1.l) (EX.mk x.1.i x.1.s x.1.j x.1.l)) fun y=>bd (fB.f n (⟨#[50]⟩:fg)) fun z=>bd (je.f n 5 (EX.mk z.1.i z.1.s z.1.j z.1.l) (EX.mk c.1.i c.1.s c.1.j c.1.l)) fun A=>bd (fB.f n (⟨#[55]⟩:fg)) fun B=>bd (zy.f n [a.1,b.1] 2 (EX.mk A.1.i A.1.s A.1.j A.1.l) (EX.mk B.1.i B.1.s B.1.j B.1.l)) fun C=>bd (fB.f n (⟨#[48]⟩:fg)) fun D=>bd (kM.f n 3 (EX.mk c.1.i c.1.s c.1.j c.1.l) (EX.mk D.1.i D.1.s D.1.j D.1.l)) fun E=>bd (wS.f n [a.1,b.1] (CX.mk E.1.i E.1.l E.1.m)) fun F=>bd (fB.f n (⟨#[50]⟩:fg)) fun G=>bd (kM.f n 4 (EX.mk c.1.i c.1.s c.1.j c.1.l) (EX.mk G.1.i G.1.s G.1.j G.1.l)) fun H=>bd (fB.f n (⟨#[55]⟩:fg)) fun I=>bd (kM.f n 4 (EX.mk I.1.i I.1.s I.1.j I.1.l) (EX.mk c.1.i c.1.s c.1.j c.1.l)) fun J=>bd (sS.f n 8 (CX.mk H.1.i H.1.l H.1.m) (CX.mk J.1.i J.1.l J.1.m)) fun K=>bd (wS.f n [a.1,b.1] (CX.mk K.1.i K.1.l K.1.m)) fun L=>br ((i64.wrap ((i64.wrap ((i64.wrap (y.2.2.1+C.2.2.1))+F.2.2.1))+L.2.2.1)) != 0) (some (false,())) (br (!y.2.1) (some (false,())) (br C.2.1 (some (false,())) (br (!F.2.1) (some (false,())) (br (!L.2.1) (some (false,())) (bd (iO.f n (⟨#[48]⟩:fg) (⟨#[50]⟩:fg)) fun M=>bd (dB.f n y.1 [M.1,b.1]) fun N=>br (!N.1) (some (false,())) (bd (iO.f n (⟨#[49]⟩:fg) (⟨#[57]⟩:fg)) fun O=>bd (dB.f n F.1 [O.1,b.1]) fun P=>br (!P.1) (some (false,())) (bd (dB.f n L.1 [a.1,b.1]) fun Q=>br (!Q.1) (some (false,())) (bd (fB.f n (⟨#[51]⟩:fg)) fun R=>bd (zx.f n [a.1,b.1] (EX.mk R.1.i R.1.s R.1.j R.1.l)) fun S=>bd (fB.f n (⟨#[50]⟩:fg)) fun T=>bd (je.f n 6 (EX.mk c.1.i c.1.s c.1.j c.1.l) (EX.mk T.1.i T.1.s T.1.j T.1.l)) fun U=>bd (rG.f n [a.1,b.1] (EX.mk U.1.i U.1.s U.1.j U.1.l) S.1) fun V=>bd (fB.f n (⟨#[49]⟩:fg)) fun W=>bd (je.f n 4 (EX.mk c.1.i c.1.s c.1.j c.1.l) (EX.mk W.1.i W.1.s W.1.j W.1.l)) fun X=>bd (aa9.f n [a.1,b.1] [a.1,b.1] 1 (EX.mk X.1.i X.1.s X.1.j X.1.l)) fun Y=>br ((i64.wrap ((i64.wrap (S.2.1+V.2.2.1))+Y.2.2.1))==0) (br V.2.1 (br Y.2.1 (bd (iO.f n (⟨#[54]⟩:fg) (⟨#[55]⟩:fg)) fun Z=>bd (dB.f n V.1 [Z.1,b.1]) fun r46=>br r46.1 (bd (iO.f n (⟨#[51]⟩:fg) (⟨#[53]⟩:fg)) fun r47=>bd (dB.f n Y.1 [r47.1,b.1]) fun r48=>some (r48.1,())) (some (false,()))) (some (false,()))) (some (false,()))) (some (false,())))))))))))))))
def E(n:Nat):Entry:=⟨[],[.bool],fun x=>f n⟩
theorem ok(n:Nat):Ok 7 (E n):=fo n (tC (rG.ok n) (tC (dB.ok n) (tC (iO.ok n) (tC (qg.ok n) (tC (fB.ok n) (tC (zx.ok n) (tC (je.ok n) (tC (yT.ok n) (tC (zy.ok n) (tC (wS.ok n) (tC (kM.ok n) (tC (sS.ok n) (tC (aa9.ok n) tN))))))))))))) fun x=>θ
end jb
end
end Go.Q
