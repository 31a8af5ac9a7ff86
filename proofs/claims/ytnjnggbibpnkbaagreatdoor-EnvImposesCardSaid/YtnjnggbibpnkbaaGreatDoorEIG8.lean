import Derived.Test.YtnjnggbibpnkbaaGreatDoorEIG7
set_option linter.all false
set_option maxRecDepth 100000
namespace Go.Q
open Go Go.RowKit
open Go.Rx (br bd sIdx sCat sCut iQuo iRem iShl)
noncomputable section
namespace iW
def f(n:Nat)(a:fg):fm Bool:=bd (strings_TrimPrefix.f n a (⟨#[45]⟩:fg)) fun r1=>some ((decide ((r1.1.size:Int) > 100)),())
def E(n:Nat):Entry:=⟨[.str],[.bool],fun x=>f n x.1⟩
theorem ok(n:Nat):Ok 239 (E n):=fo n (tC (strings_TrimPrefix.ok n) tN) fun x=>θ
end iW
namespace lG
def f(n:Nat)(a:fg):fm Int:=bd (dF.f n a) fun r1=>br (r1.1==10) (some (10,())) (br (r1.1==0) (bd (iW.f n a) fun r2=>br r2.1 (some (10,())) (br (r1.1 != 0) (some (r1.1,())) (some (0,())))) (br (r1.1 != 0) (some (r1.1,())) (some (0,()))))
def E(n:Nat):Entry:=⟨[.str],[(.int .i64)],fun x=>f n x.1⟩
theorem ok(n:Nat):Ok 139 (E n):=fo n (tC (dF.ok n) (tC (iW.ok n) tN)) fun x=>θ
end lG
namespace nY
def f(n:Nat)(a:Int)(b:Int):fm Int:=some (a,())
def E(n:Nat):Entry:=⟨[(.int .i64),(.int .i64)],[(.int .i64)],fun x=>f n x.1 x.2.1⟩
theorem ok(n:Nat):Ok 240 (E n):=fo n tN fun x=>θ
end nY
namespace iV
def f(n:Nat)(a:fg)(b:fg):fm Bool:=bd (iU.f n a b) fun r1=>bd (nY.f n r1.1 r1.2.1) fun r2=>some ((decide (r2.1 < 0)),())
def E(n:Nat):Entry:=⟨[.str,.str],[.bool],fun x=>f n x.1 x.2.1⟩
theorem ok(n:Nat):Ok 140 (E n):=fo n (tC (iU.ok n) (tC (nY.ok n) tN)) fun x=>θ
end iV
namespace fP
def f(n:Nat)(g:TI):fm Int:=br g.1 (br (!(g.2.1.toList==(⟨#[]⟩:fg).toList)) (some (3,())) (br (!(g.2.2.1.toList==(⟨#[]⟩:fg).toList)) (some (3,())) (some (0,())))) (bd (lG.f n g.2.1) fun a=>br (a.1 != 0) (some (a.1,())) (bd (lG.f n g.2.2.1) fun b=>br (b.1 != 0) (some (b.1,())) (bd (iV.f n g.2.1 (⟨#[48]⟩:fg)) fun c=>br c.1 (some (2,())) (br (!(g.2.1.toList==(⟨#[48]⟩:fg).toList)) (bd (iV.f n g.2.2.1 (⟨#[48]⟩:fg)) fun d=>br d.1 (some (2,())) (bd (iV.f n g.2.2.1 g.2.1) fun e=>br (!e.1) (some (2,())) (some (0,())))) (some (0,()))))))
def E(n:Nat):Entry:=⟨[yI],[(.int .i64)],fun x=>f n x.1⟩
theorem ok(n:Nat):Ok 80 (E n):=fo n (tC (lG.ok n) (tC (iV.ok n) tN)) fun x=>θ
end fP
namespace iD
def f(n:Nat)(a:fg)(b:fg):fm fg:=bd (kR.f n a b) fun r1=>bd (iL.f n r1.1 r1.2.1) fun r2=>some (r2.1,())
def E(n:Nat):Entry:=⟨[.str,.str],[.str],fun x=>f n x.1 x.2.1⟩
theorem ok(n:Nat):Ok 203 (E n):=fo n (tC (kR.ok n) (tC (iL.ok n) tN)) fun x=>θ
end iD
namespace jW
def f(n:Nat)(g:fg)(h:fg)(e:fg):Option (fg×Int×Unit):=bd (jk.f n g e) fun a=>br (a.2.1 != 0) (some ((⟨#[]⟩:fg),a.2.1,())) (bd (jk.f n h e) fun b=>br (b.2.1 != 0) (some ((⟨#[]⟩:fg),b.2.1,())) (bd (iD.f n a.1 b.1) fun c=>bd (jk.f n c.1 e) fun d=>some (d.1,d.2.1,())))
def E(n:Nat):Entry:=⟨[.str,.str,.str],[.str,(.int .i64)],fun x=>f n x.1 x.2.1 x.2.2.1⟩
theorem ok(n:Nat):Ok 245 (E n):=fo n (tC (iD.ok n) (tC (jk.ok n) tN)) fun x=>θ
end jW
namespace oD
def f(n:Nat)(e:TI)(g:fg):Option (fg×Int×Unit):=bd (fP.f n e) fun a=>br (a.1 != 0) (some ((⟨#[]⟩:fg),a.1,())) (bd (dF.f n g) fun b=>br (b.1 != 0) (some ((⟨#[]⟩:fg),b.1,())) (br e.1 (some ((⟨#[]⟩:fg),16,())) (br (!(e.2.1.toList==(⟨#[48]⟩:fg).toList)) (bd (jW.f n e.2.2.1 g e.2.1) fun c=>br (c.2.1 != 0) (some ((⟨#[]⟩:fg),c.2.1,())) (bd (jV.f n g c.1) fun d=>some (d.1,d.2.1,()))) (bd (iV.f n e.2.2.1 g) fun c=>br c.1 (some ((⟨#[]⟩:fg),6,())) (some (e.2.2.1,0,()))))))
def E(n:Nat):Entry:=⟨[yI,.str],[.str,(.int .i64)],fun x=>f n x.1 x.2.1⟩
theorem ok(n:Nat):Ok 143 (E n):=fo n (tC (fP.ok n) (tC (dF.ok n) (tC (iV.ok n) (tC (jV.ok n) (tC (jW.ok n) tN))))) fun x=>θ
end oD
namespace jZ
def f(n:Nat)(e:TI)(g:fg):Option (fg×Int×Unit):=bd (fP.f n e) fun a=>br (a.1 != 0) (some ((⟨#[]⟩:fg),a.1,())) (bd (dF.f n g) fun b=>br (b.1 != 0) (some ((⟨#[]⟩:fg),b.1,())) (br e.1 (some ((⟨#[]⟩:fg),16,())) (br (!(e.2.1.toList==(⟨#[48]⟩:fg).toList)) (bd (jW.f n g e.2.2.1 e.2.1) fun c=>br (c.2.1 != 0) (some ((⟨#[]⟩:fg),c.2.1,())) (bd (kR.f n g c.1) fun d=>some (d.1,d.2.1,()))) (bd (iV.f n g e.2.2.1) fun c=>br c.1 (some ((⟨#[]⟩:fg),6,())) (some (e.2.2.1,0,()))))))
def E(n:Nat):Entry:=⟨[yI,.str],[.str,(.int .i64)],fun x=>f n x.1 x.2.1⟩
theorem ok(n:Nat):Ok 144 (E n):=fo n (tC (fP.ok n) (tC (dF.ok n) (tC (iV.ok n) (tC (kR.ok n) (tC (jW.ok n) tN))))) fun x=>θ
end jZ
namespace aT
def f(n:Nat)  : fm TI:=some ((true,(⟨#[]⟩:fg),(⟨#[]⟩:fg),()),())
def E(n:Nat):Entry:=⟨[],[yI],fun x=>f n⟩
theorem ok(n:Nat):Ok 230 (E n):=fo n tN fun x=>θ
end aT
namespace dY
def f(n:Nat)(a:TI)(b:TI):fm Int:=bd (fP.f n a) fun r1=>br (r1.1 != 0) (some (r1.1,())) (bd (fP.f n b) fun r2=>some (r2.1,()))
def E(n:Nat):Entry:=⟨[yI,yI],[(.int .i64)],fun x=>f n x.1 x.2.1⟩
theorem ok(n:Nat):Ok 234 (E n):=fo n (tC (fP.ok n) tN) fun x=>θ
end dY
namespace gQ
def f(n:Nat)  : fm TI:=some ((false,(⟨#[49]⟩:fg),(⟨#[48]⟩:fg),()),())
def E(n:Nat):Entry:=⟨[],[yI],fun x=>f n⟩
theorem ok(n:Nat):Ok 259 (E n):=fo n tN fun x=>θ
end gQ
namespace dG
def f(n:Nat)(j:fg)(i:fg):fm TI:=bd (ve.f n j) fun a=>bd (iL.f n a.1 a.2.1) fun b=>br (!(b.1.toList==(⟨#[48]⟩:fg).toList)) (bd (jk.f n i b.1) fun c=>bd (iL.f n c.1 c.2.1) fun d=>bd (iW.f n b.1) fun e=>br e.1 (bd (gQ.f n) fun g=>some (g.1,())) (bd (iW.f n d.1) fun g=>br g.1 (bd (gQ.f n) fun h=>some (h.1,())) (some ((false,b.1,d.1,()),())))) (bd (iW.f n b.1) fun c=>br c.1 (bd (gQ.f n) fun d=>some (d.1,())) (bd (iW.f n i) fun d=>br d.1 (bd (gQ.f n) fun e=>some (e.1,())) (some ((false,b.1,i,()),()))))
def E(n:Nat):Entry:=⟨[.str,.str],[yI],fun x=>f n x.1 x.2.1⟩
theorem ok(n:Nat):Ok 198 (E n):=fo n (tC (iL.ok n) (tC (iW.ok n) (tC (gQ.ok n) (tC (ve.ok n) (tC (jk.ok n) tN))))) fun x=>θ
end dG
namespace dW
def f(n:Nat)(a:fg)(b:fg):fm fg:=bd (vg.f n a b) fun r1=>bd (iL.f n r1.1 r1.2.1) fun r2=>some (r2.1,())
def E(n:Nat):Entry:=⟨[.str,.str],[.str],fun x=>f n x.1 x.2.1⟩
theorem ok(n:Nat):Ok 199 (E n):=fo n (tC (iL.ok n) (tC (vg.ok n) tN)) fun x=>θ
end dW
namespace qK
def f(n:Nat)(d:TI)(e:TI):fm TI:=bd (dW.f n d.2.1 e.2.1) fun a=>bd (iD.f n d.2.2.1 e.2.2.1) fun b=>bd (dG.f n a.1 b.1) fun c=>some (c.1,())
def E(n:Nat):Entry:=⟨[yI,yI],[yI],fun x=>f n x.1 x.2.1⟩
theorem ok(n:Nat):Ok 202 (E n):=fo n (tC (dG.ok n) (tC (dW.ok n) (tC (iD.ok n) tN))) fun x=>θ
end qK
namespace mV
def f(n:Nat)(c:TI)(d:TI):Option (TI×Int×Unit):=bd (dY.f n c d) fun a=>br (a.1 != 0) (some ((false,(⟨#[]⟩:fg),(⟨#[]⟩:fg),()),a.1,())) (br c.1 (bd (aT.f n) fun b=>some (b.1,0,())) (br d.1 (bd (aT.f n) fun b=>some (b.1,0,())) (bd (qK.f n c d) fun b=>some (b.1,0,()))))
def E(n:Nat):Entry:=⟨[yI,yI],[yI,(.int .i64)],fun x=>f n x.1 x.2.1⟩
theorem ok(n:Nat):Ok 116 (E n):=fo n (tC (qK.ok n) (tC (aT.ok n) (tC (dY.ok n) tN))) fun x=>θ
end mV
namespace gU
def f(n:Nat)(a:fg):fm TI:=some ((false,(⟨#[48]⟩:fg),a,()),())
def E(n:Nat):Entry:=⟨[.str],[yI],fun x=>f n x.1⟩
theorem ok(n:Nat):Ok 150 (E n):=fo n tN fun x=>θ
end gU
namespace qw
def f(n:Nat)(a:TI):Option (TI×Int×Unit):=bd (gU.f n (⟨#[48]⟩:fg)) fun r1=>bd (mV.f n r1.1 a) fun r2=>some (r2.1,r2.2.1,())
def E(n:Nat):Entry:=⟨[yI],[yI,(.int .i64)],fun x=>f n x.1⟩
theorem ok(n:Nat):Ok 85 (E n):=fo n (tC (mV.ok n) (tC (gU.ok n) tN)) fun x=>θ
end qw
namespace mW
def f(n:Nat)(a:fg)(b:fg):fm fg:=bd (jV.f n a b) fun r1=>bd (iL.f n r1.1 r1.2.1) fun r2=>some (r2.1,())
def E(n:Nat):Entry:=⟨[.str,.str],[.str],fun x=>f n x.1 x.2.1⟩
theorem ok(n:Nat):Ok 200 (E n):=fo n (tC (jV.ok n) (tC (iL.ok n) tN)) fun x=>θ
end mW
namespace qI
def f(n:Nat)(d:TI)(e:TI):fm TI:=bd (dW.f n d.2.1 e.2.1) fun a=>bd (mW.f n d.2.2.1 e.2.2.1) fun b=>bd (dG.f n a.1 b.1) fun c=>some (c.1,())
def E(n:Nat):Entry:=⟨[yI,yI],[yI],fun x=>f n x.1 x.2.1⟩
theorem ok(n:Nat):Ok 197 (E n):=fo n (tC (dG.ok n) (tC (dW.ok n) (tC (mW.ok n) tN))) fun x=>θ
end qI
namespace qj
def f(n:Nat)(c:TI)(d:TI):Option (TI×Int×Unit):=bd (dY.f n c d) fun a=>br (a.1 != 0) (some ((false,(⟨#[]⟩:fg),(⟨#[]⟩:fg),()),a.1,())) (br c.1 (bd (aT.f n) fun b=>some (b.1,0,())) (br d.1 (bd (aT.f n) fun b=>some (b.1,0,())) (bd (qI.f n c d) fun b=>some (b.1,0,()))))
def E(n:Nat):Entry:=⟨[yI,yI],[yI,(.int .i64)],fun x=>f n x.1 x.2.1⟩
theorem ok(n:Nat):Ok 114 (E n):=fo n (tC (qI.ok n) (tC (aT.ok n) (tC (dY.ok n) tN))) fun x=>θ
end qj
namespace jm
def f(n:Nat)(a:fg)(b:fg):fm fg:=bd (kQ.f n a b) fun r1=>bd (iL.f n r1.1 r1.2.1) fun r2=>some (r2.1,())
def E(n:Nat):Entry:=⟨[.str,.str],[.str],fun x=>f n x.1 x.2.1⟩
theorem ok(n:Nat):Ok 207 (E n):=fo n (tC (kQ.ok n) (tC (iL.ok n) tN)) fun x=>θ
end jm
namespace qJ
def f(n:Nat)(i:TI)(j:TI):fm TI:=bd (jm.f n i.2.1 j.2.1) fun a=>bd (jm.f n i.2.1 j.2.2.1) fun b=>bd (jm.f n j.2.1 i.2.2.1) fun c=>bd (dW.f n b.1 c.1) fun d=>bd (dW.f n a.1 d.1) fun e=>bd (jm.f n i.2.2.1 j.2.2.1) fun g=>bd (dG.f n e.1 g.1) fun h=>some (h.1,())
def E(n:Nat):Entry:=⟨[yI,yI],[yI],fun x=>f n x.1 x.2.1⟩
theorem ok(n:Nat):Ok 206 (E n):=fo n (tC (dG.ok n) (tC (dW.ok n) (tC (jm.ok n) tN))) fun x=>θ
end qJ
namespace qm
def f(n:Nat)(c:TI)(d:TI):Option (TI×Int×Unit):=bd (dY.f n c d) fun a=>br (a.1 != 0) (some ((false,(⟨#[]⟩:fg),(⟨#[]⟩:fg),()),a.1,())) (br c.1 (bd (aT.f n) fun b=>some (b.1,0,())) (br d.1 (bd (aT.f n) fun b=>some (b.1,0,())) (bd (qJ.f n c d) fun b=>some (b.1,0,()))))
def E(n:Nat):Entry:=⟨[yI,yI],[yI,(.int .i64)],fun x=>f n x.1 x.2.1⟩
theorem ok(n:Nat):Ok 118 (E n):=fo n (tC (qJ.ok n) (tC (aT.ok n) (tC (dY.ok n) tN))) fun x=>θ
end qm
namespace fC
def f(n:Nat)(a:fg)(b:fg):fm Bool:=br (a.toList==(⟨#[48]⟩:fg).toList) (some ((b.toList==(⟨#[48]⟩:fg).toList),())) (bd (jk.f n b a) fun r1=>bd (iL.f n r1.1 r1.2.1) fun r2=>some ((r2.1.toList==(⟨#[48]⟩:fg).toList),()))
def E(n:Nat):Entry:=⟨[.str,.str],[.bool],fun x=>f n x.1 x.2.1⟩
theorem ok(n:Nat):Ok 229 (E n):=fo n (tC (iL.ok n) (tC (jk.ok n) tN)) fun x=>θ
end fC
namespace rV
def f(n:Nat)(j:TI)(k:TI):fm TI:=bd (gU.f n (⟨#[48]⟩:fg)) fun a=>bd (some ((k.1==a.1.1)&&((k.2.1==a.1.2.1)&&((k.2.2.1==a.1.2.2.1)&&true)))) fun b=>br b (bd (aT.f n) fun c=>some (c.1,())) (br (!(k.2.1.toList==(⟨#[48]⟩:fg).toList)) (bd (gU.f n (⟨#[48]⟩:fg)) fun c=>bd (some ((j.1==c.1.1)&&((j.2.1==c.1.2.1)&&((j.2.2.1==c.1.2.2.1)&&true)))) fun d=>br d (some (j,())) (bd (gQ.f n) fun e=>some (e.1,()))) (bd (fC.f n k.2.2.1 j.2.1) fun c=>br c.1 (bd (gY.f n j.2.1 k.2.2.1) fun d=>bd (iL.f n d.1 d.2.1) fun e=>bd (gY.f n j.2.2.1 k.2.2.1) fun g=>bd (iL.f n g.1 g.2.1) fun h=>bd (dG.f n e.1 h.1) fun i=>some (i.1,())) (bd (gQ.f n) fun d=>some (d.1,()))))
def E(n:Nat):Entry:=⟨[yI,yI],[yI],fun x=>f n x.1 x.2.1⟩
theorem ok(n:Nat):Ok 211 (E n):=fo n (tC (gU.ok n) (tC (gY.ok n) (tC (dG.ok n) (tC (fC.ok n) (tC (aT.ok n) (tC (iL.ok n) (tC (gQ.ok n) tN))))))) fun x=>θ
end rV
end
end Go.Q
namespace Go.Q
open Go Go.RowKit
open Go.Rx (br bd sIdx sCat sCut iQuo iRem iShl)
noncomputable section
namespace qx
def f(n:Nat)(c:TI)(d:TI):Option (TI×Int×Unit):=bd (dY.f n c d) fun a=>br (a.1 != 0) (some ((false,(⟨#[]⟩:fg),(⟨#[]⟩:fg),()),a.1,())) (br c.1 (bd (aT.f n) fun b=>some (b.1,0,())) (br d.1 (bd (aT.f n) fun b=>some (b.1,0,())) (bd (rV.f n c d) fun b=>some (b.1,0,()))))
def E(n:Nat):Entry:=⟨[yI,yI],[yI,(.int .i64)],fun x=>f n x.1 x.2.1⟩
theorem ok(n:Nat):Ok 120 (E n):=fo n (tC (rV.ok n) (tC (aT.ok n) (tC (dY.ok n) tN))) fun x=>θ
end qx
namespace rC
def f(n:Nat)(i:TI)(h:TI):fm TI:=bd (gU.f n (⟨#[48]⟩:fg)) fun a=>bd (some ((h.1==a.1.1)&&((h.2.1==a.1.2.1)&&((h.2.2.1==a.1.2.2.1)&&true)))) fun b=>br b (bd (aT.f n) fun c=>some (c.1,())) (br (h.2.1.toList==(⟨#[48]⟩:fg).toList) (bd (fC.f n h.2.2.1 i.2.1) fun c=>br c.1 (bd (jk.f n i.2.2.1 h.2.2.1) fun d=>bd (iL.f n d.1 d.2.1) fun e=>bd (dG.f n (⟨#[48]⟩:fg) e.1) fun g=>some (g.1,())) (bd (dW.f n h.2.1 h.2.2.1) fun d=>bd (dW.f n i.2.1 d.1) fun e=>bd (dG.f n e.1 i.2.2.1) fun g=>some (g.1,()))) (bd (dW.f n h.2.1 h.2.2.1) fun c=>bd (dW.f n i.2.1 c.1) fun d=>bd (dG.f n d.1 i.2.2.1) fun e=>some (e.1,())))
def E(n:Nat):Entry:=⟨[yI,yI],[yI],fun x=>f n x.1 x.2.1⟩
theorem ok(n:Nat):Ok 213 (E n):=fo n (tC (gU.ok n) (tC (dG.ok n) (tC (dW.ok n) (tC (fC.ok n) (tC (aT.ok n) (tC (iL.ok n) (tC (jk.ok n) tN))))))) fun x=>θ
end rC
namespace qy
def f(n:Nat)(c:TI)(d:TI):Option (TI×Int×Unit):=bd (dY.f n c d) fun a=>br (a.1 != 0) (some ((false,(⟨#[]⟩:fg),(⟨#[]⟩:fg),()),a.1,())) (br c.1 (bd (aT.f n) fun b=>some (b.1,0,())) (br d.1 (bd (aT.f n) fun b=>some (b.1,0,())) (bd (rC.f n c d) fun b=>some (b.1,0,()))))
def E(n:Nat):Entry:=⟨[yI,yI],[yI,(.int .i64)],fun x=>f n x.1 x.2.1⟩
theorem ok(n:Nat):Ok 122 (E n):=fo n (tC (rC.ok n) (tC (aT.ok n) (tC (dY.ok n) tN))) fun x=>θ
end qy
namespace lF
def f(n:Nat)(d:TI)(e:TI):fm Bool:=br d.1 (some (d.1,())) (br e.1 (some (d.1,())) (bd (fC.f n e.2.1 d.2.1) fun a=>br a.1 (bd (iD.f n d.2.2.1 e.2.2.1) fun b=>bd (fC.f n e.2.1 b.1) fun c=>some (c.1,())) (some (false,()))))
def E(n:Nat):Entry:=⟨[yI,yI],[.bool],fun x=>f n x.1 x.2.1⟩
theorem ok(n:Nat):Ok 228 (E n):=fo n (tC (iD.ok n) (tC (fC.ok n) tN)) fun x=>θ
end lF
namespace ru
def f(n:Nat)(q:TI)(r:TI):fm TI:=bd (lF.f n q r) fun a=>br a.1 (some (q,())) (bd (lF.f n r q) fun b=>br b.1 (some (r,())) (bd (dW.f n q.2.1 r.2.1) fun c=>bd (iD.f n r.2.2.1 q.2.2.1) fun d=>br (q.2.1.toList==(⟨#[48]⟩:fg).toList) (bd (aT.f n) fun e=>some (e.1,())) (br (r.2.1.toList==(⟨#[48]⟩:fg).toList) (bd (aT.f n) fun e=>some (e.1,())) (bd (fC.f n c.1 d.1) fun e=>br (!e.1) (bd (aT.f n) fun g=>some (g.1,())) (bd (dS.f n q.2.1 r.2.1) fun g=>bd (gY.f n d.1 c.1) fun h=>bd (iL.f n h.1 h.2.1) fun i=>bd (jm.f n g.2.1 i.1) fun j=>bd (vk.f n q.2.1 r.2.1) fun k=>bd (iL.f n k.1 k.2.1) fun l=>bd (jm.f n j.1 q.2.1) fun m=>bd (mW.f n q.2.2.1 m.1) fun o=>bd (dG.f n l.1 o.1) fun p=>some (p.1,()))))))
def E(n:Nat):Entry:=⟨[yI,yI],[yI],fun x=>f n x.1 x.2.1⟩
theorem ok(n:Nat):Ok 133 (E n):=fo n (tC (gY.ok n) (tC (dG.ok n) (tC (dW.ok n) (tC (mW.ok n) (tC (iD.ok n) (tC (jm.ok n) (tC (lF.ok n) (tC (fC.ok n) (tC (aT.ok n) (tC (dS.ok n) (tC (iL.ok n) (tC (vk.ok n) tN)))))))))))) fun x=>θ
end ru
namespace pO
def f(n:Nat)(c:TI)(d:TI):Option (TI×Int×Unit):=bd (dY.f n c d) fun a=>br (a.1 != 0) (some ((false,(⟨#[]⟩:fg),(⟨#[]⟩:fg),()),a.1,())) (br c.1 (bd (aT.f n) fun b=>some (b.1,0,())) (br d.1 (bd (aT.f n) fun b=>some (b.1,0,())) (bd (ru.f n c d) fun b=>some (b.1,0,()))))
def E(n:Nat):Entry:=⟨[yI,yI],[yI,(.int .i64)],fun x=>f n x.1 x.2.1⟩
theorem ok(n:Nat):Ok 74 (E n):=fo n (tC (ru.ok n) (tC (aT.ok n) (tC (dY.ok n) tN))) fun x=>θ
end pO
end
end Go.Q
namespace Go.Q
open Go Go.RowKit
open Go.Rx (br bd sIdx sCat sCut iQuo iRem iShl)
noncomputable section
namespace lM
def f(n:Nat)(a:TI):fm Bool:=bd (nM.f n a.2.1) fun r1=>br r1.1 (bd (nM.f n a.2.2.1) fun r2=>some (r2.1,())) (some (false,()))
def E(n:Nat):Entry:=⟨[yI],[.bool],fun x=>f n x.1⟩
theorem ok(n:Nat):Ok 13 (E n):=fo n (tC (nM.ok n) tN) fun x=>θ
end lM
namespace jU
def f(n:Nat)(a:fg):fm Int:=bd (fD.f n a) fun r1=>br (!r1.1) (some (3,())) (bd (bH.f n a) fun r2=>br (decide (r2.1 > 100)) (some (10,())) (some (0,())))
def E(n:Nat):Entry:=⟨[.str],[(.int .i64)],fun x=>f n x.1⟩
theorem ok(n:Nat):Ok 96 (E n):=fo n (tC (fD.ok n) (tC (bH.ok n) tN)) fun x=>θ
end jU
namespace kF
def f(n:Nat)(g:TI):fm Int:=br g.1 (br (!(g.2.1.toList==(⟨#[]⟩:fg).toList)) (some (3,())) (br (!(g.2.2.1.toList==(⟨#[]⟩:fg).toList)) (some (3,())) (some (0,())))) (bd (jU.f n g.2.1) fun a=>br (a.1 != 0) (some (a.1,())) (bd (jU.f n g.2.2.1) fun b=>br (b.1 != 0) (some (b.1,())) (bd (bD.f n g.2.1) fun c=>br (decide (c.1 < 0)) (some (2,())) (br (!(g.2.1.toList==(⟨#[48]⟩:fg).toList)) (bd (bD.f n g.2.2.1) fun d=>br (decide (d.1 < 0)) (some (2,())) (bd (aK.f n g.2.2.1 g.2.1) fun e=>br (!e.1) (some (2,())) (some (0,())))) (some (0,()))))))
def E(n:Nat):Entry:=⟨[yI],[(.int .i64)],fun x=>f n x.1⟩
theorem ok(n:Nat):Ok 59 (E n):=fo n (tC (aK.ok n) (tC (jU.ok n) (tC (bD.ok n) tN))) fun x=>θ
end kF
namespace aH
def f(n:Nat)  : fm TI:=some ((true,(⟨#[]⟩:fg),(⟨#[]⟩:fg),()),())
def E(n:Nat):Entry:=⟨[],[yI],fun x=>f n⟩
theorem ok(n:Nat):Ok 167 (E n):=fo n tN fun x=>θ
end aH
namespace jG
def f(n:Nat)(d:TI)(e:fg):Option (fg×Bool×Unit):=br (d.2.1.toList==(⟨#[48]⟩:fg).toList) (bd (aK.f n d.2.2.1 e) fun a=>br a.1 (some ((⟨#[]⟩:fg),false,())) (some (d.2.2.1,true,()))) (bd (aU.f n d.2.2.1 e) fun a=>bd (bT.f n a.1 d.2.1) fun b=>bd (dD.f n e b.1) fun c=>some (c.1,true,()))
def E(n:Nat):Entry:=⟨[yI,.str],[.str,.bool],fun x=>f n x.1 x.2.1⟩
theorem ok(n:Nat):Ok 100 (E n):=fo n (tC (aK.ok n) (tC (dD.ok n) (tC (bT.ok n) (tC (aU.ok n) tN)))) fun x=>θ
end jG
namespace dm
def f(n:Nat)  : fm TI:=some ((false,(⟨#[49]⟩:fg),(⟨#[48]⟩:fg),()),())
def E(n:Nat):Entry:=⟨[],[yI],fun x=>f n⟩
theorem ok(n:Nat):Ok 272 (E n):=fo n tN fun x=>θ
end dm
namespace bU
def f(n:Nat)(h:fg)(g:fg):fm TI:=bd (cO.f n h) fun a=>br (!(h.toList==(⟨#[48]⟩:fg).toList)) (bd (bT.f n g a.1) fun b=>bd (bH.f n a.1) fun c=>br (decide (c.1 > 100)) (bd (dm.f n) fun d=>some (d.1,())) (bd (bH.f n b.1) fun d=>br (decide (d.1 > 100)) (bd (dm.f n) fun e=>some (e.1,())) (some ((false,a.1,b.1,()),())))) (bd (bH.f n a.1) fun b=>br (decide (b.1 > 100)) (bd (dm.f n) fun c=>some (c.1,())) (bd (bH.f n g) fun c=>br (decide (c.1 > 100)) (bd (dm.f n) fun d=>some (d.1,())) (some ((false,a.1,g,()),()))))
def E(n:Nat):Entry:=⟨[.str,.str],[yI],fun x=>f n x.1 x.2.1⟩
theorem ok(n:Nat):Ok 183 (E n):=fo n (tC (bH.ok n) (tC (bT.ok n) (tC (dm.ok n) (tC (cO.ok n) tN)))) fun x=>θ
end bU
namespace iQ
def f(n:Nat)(a:TI):fm TI:=br a.1 (some (a,())) (bd (aZ.f n a.2.2.1) fun r1=>bd (bU.f n a.2.1 r1.1) fun r2=>some (r2.1,()))
def E(n:Nat):Entry:=⟨[yI],[yI],fun x=>f n x.1⟩
theorem ok(n:Nat):Ok 108 (E n):=fo n (tC (aZ.ok n) (tC (bU.ok n) tN)) fun x=>θ
end iQ
namespace kE
def f(n:Nat)(e:TI)(g:fg):Option (fg×Bool×Unit):=bd (iQ.f n e) fun a=>bd (aZ.f n g) fun b=>bd (jG.f n a.1 b.1) fun c=>br (!c.2.1) (some ((⟨#[]⟩:fg),false,())) (bd (aZ.f n c.1) fun d=>some (d.1,true,()))
def E(n:Nat):Entry:=⟨[yI,.str],[.str,.bool],fun x=>f n x.1 x.2.1⟩
theorem ok(n:Nat):Ok 101 (E n):=fo n (tC (jG.ok n) (tC (iQ.ok n) (tC (aZ.ok n) tN))) fun x=>θ
end kE
namespace iI
def f(n:Nat)(a:fg):fm TI:=bd (bU.f n (⟨#[48]⟩:fg) a) fun r1=>some (r1.1,())
def E(n:Nat):Entry:=⟨[.str],[yI],fun x=>f n x.1⟩
theorem ok(n:Nat):Ok 172 (E n):=fo n (tC (bU.ok n) tN) fun x=>θ
end iI
namespace eF
def f(n:Nat)(a:fg)(b:fg):fm Bool:=br (a.toList==(⟨#[48]⟩:fg).toList) (some ((b.toList==(⟨#[48]⟩:fg).toList),())) (bd (bT.f n b a) fun r1=>some ((r1.1.toList==(⟨#[48]⟩:fg).toList),()))
def E(n:Nat):Entry:=⟨[.str,.str],[.bool],fun x=>f n x.1 x.2.1⟩
theorem ok(n:Nat):Ok 179 (E n):=fo n (tC (bT.ok n) tN) fun x=>θ
end eF
namespace jT
def f(n:Nat)(a:TI)(b:fg):fm Bool:=br (!a.1) (bd (aU.f n b a.2.2.1) fun r1=>bd (eF.f n a.2.1 r1.1) fun r2=>some (r2.1,())) (some (false,()))
def E(n:Nat):Entry:=⟨[yI,.str],[.bool],fun x=>f n x.1 x.2.1⟩
theorem ok(n:Nat):Ok 177 (E n):=fo n (tC (aU.ok n) (tC (eF.ok n) tN)) fun x=>θ
end jT
namespace nP
def f(n:Nat)(m:TI)(o:TI):fm TI:=br m.1 (bd (aH.f n) fun a=>some (a.1,())) (br o.1 (bd (aH.f n) fun a=>some (a.1,())) (br (m.2.1.toList==(⟨#[48]⟩:fg).toList) (br (!(m.2.1.toList==(⟨#[48]⟩:fg).toList)) (bd (jT.f n m o.2.2.1) fun a=>br a.1 (some (o,())) (bd (aH.f n) fun b=>some (b.1,()))) (bd (jT.f n o m.2.2.1) fun a=>br a.1 (some (m,())) (bd (aH.f n) fun b=>some (b.1,())))) (br (o.2.1.toList==(⟨#[48]⟩:fg).toList) (br (!(m.2.1.toList==(⟨#[48]⟩:fg).toList)) (bd (jT.f n m o.2.2.1) fun a=>br a.1 (some (o,())) (bd (aH.f n) fun b=>some (b.1,()))) (bd (jT.f n o m.2.2.1) fun a=>br a.1 (some (m,())) (bd (aH.f n) fun b=>some (b.1,())))) (bd (bG.f n m.2.1 o.2.1) fun a=>bd (aU.f n o.2.2.1 m.2.2.1) fun b=>bd (eF.f n a.1 b.1) fun c=>br (!c.1) (bd (aH.f n) fun d=>some (d.1,())) (bd (cZ.f n m.2.1 o.2.1) fun d=>bd (aI.f n b.1 a.1) fun e=>bd (aO.f n d.1 e.1) fun g=>bd (aI.f n o.2.1 a.1) fun h=>bd (aO.f n m.2.1 h.1) fun i=>bd (aO.f n m.2.1 g.1) fun j=>bd (dD.f n m.2.2.1 j.1) fun k=>bd (bU.f n i.1 k.1) fun l=>some (l.1,()))))))
def E(n:Nat):Entry:=⟨[yI,yI],[yI],fun x=>f n x.1 x.2.1⟩
theorem ok(n:Nat):Ok 105 (E n):=fo n (tC (aH.ok n) (tC (dD.ok n) (tC (aU.ok n) (tC (jT.ok n) (tC (bG.ok n) (tC (eF.ok n) (tC (cZ.ok n) (tC (aO.ok n) (tC (aI.ok n) (tC (bU.ok n) tN)))))))))) fun x=>θ
end nP
namespace nC
def f(n:Nat)(d:TI)(e:TI):fm TI:=br d.1 (bd (aH.f n) fun a=>some (a.1,())) (br e.1 (bd (aH.f n) fun a=>some (a.1,())) (bd (bG.f n d.2.1 e.2.1) fun a=>bd (dD.f n d.2.2.1 e.2.2.1) fun b=>bd (bU.f n a.1 b.1) fun c=>some (c.1,())))
def E(n:Nat):Entry:=⟨[yI,yI],[yI],fun x=>f n x.1 x.2.1⟩
theorem ok(n:Nat):Ok 185 (E n):=fo n (tC (aH.ok n) (tC (dD.ok n) (tC (bG.ok n) (tC (bU.ok n) tN)))) fun x=>θ
end nC
namespace mD
def f(n:Nat)(d:TI)(e:TI):fm TI:=br d.1 (bd (aH.f n) fun a=>some (a.1,())) (br e.1 (bd (aH.f n) fun a=>some (a.1,())) (bd (bG.f n d.2.1 e.2.1) fun a=>bd (aU.f n d.2.2.1 e.2.2.1) fun b=>bd (bU.f n a.1 b.1) fun c=>some (c.1,())))
def E(n:Nat):Entry:=⟨[yI,yI],[yI],fun x=>f n x.1 x.2.1⟩
theorem ok(n:Nat):Ok 187 (E n):=fo n (tC (aH.ok n) (tC (aU.ok n) (tC (bG.ok n) (tC (bU.ok n) tN)))) fun x=>θ
end mD
namespace mG
def f(n:Nat)(i:TI)(j:TI):fm TI:=br i.1 (bd (aH.f n) fun a=>some (a.1,())) (br j.1 (bd (aH.f n) fun a=>some (a.1,())) (bd (aO.f n i.2.1 j.2.1) fun a=>bd (aO.f n i.2.1 j.2.2.1) fun b=>bd (bG.f n a.1 b.1) fun c=>bd (aO.f n j.2.1 i.2.2.1) fun d=>bd (bG.f n c.1 d.1) fun e=>bd (aO.f n i.2.2.1 j.2.2.1) fun g=>bd (bU.f n e.1 g.1) fun h=>some (h.1,())))
def E(n:Nat):Entry:=⟨[yI,yI],[yI],fun x=>f n x.1 x.2.1⟩
theorem ok(n:Nat):Ok 189 (E n):=fo n (tC (aH.ok n) (tC (bG.ok n) (tC (aO.ok n) (tC (bU.ok n) tN)))) fun x=>θ
end mG
namespace iR
def f(n:Nat)(a:TI):fm Bool:=br (a.2.1.toList==(⟨#[48]⟩:fg).toList) (some ((a.2.2.1.toList==(⟨#[48]⟩:fg).toList),())) (some (false,()))
def E(n:Nat):Entry:=⟨[yI],[.bool],fun x=>f n x.1⟩
theorem ok(n:Nat):Ok 286 (E n):=fo n tN fun x=>θ
end iR
namespace mZ
def f(n:Nat)(g:TI)(h:TI):fm TI:=br g.1 (bd (aH.f n) fun a=>some (a.1,())) (br h.1 (bd (aH.f n) fun a=>some (a.1,())) (bd (iR.f n h) fun a=>br a.1 (bd (aH.f n) fun b=>some (b.1,())) (br (h.2.1.toList==(⟨#[48]⟩:fg).toList) (bd (eF.f n h.2.2.1 g.2.1) fun b=>br b.1 (bd (aI.f n g.2.1 h.2.2.1) fun c=>bd (aI.f n g.2.2.1 h.2.2.1) fun d=>bd (bU.f n c.1 d.1) fun e=>some (e.1,())) (br (!(h.2.1.toList==(⟨#[48]⟩:fg).toList)) (bd (iR.f n g) fun c=>br c.1 (some (g,())) (bd (dm.f n) fun d=>some (d.1,()))) (bd (dm.f n) fun c=>some (c.1,())))) (br (!(h.2.1.toList==(⟨#[48]⟩:fg).toList)) (bd (iR.f n g) fun b=>br b.1 (some (g,())) (bd (dm.f n) fun c=>some (c.1,()))) (bd (dm.f n) fun b=>some (b.1,()))))))
def E(n:Nat):Entry:=⟨[yI,yI],[yI],fun x=>f n x.1 x.2.1⟩
theorem ok(n:Nat):Ok 191 (E n):=fo n (tC (aH.ok n) (tC (eF.ok n) (tC (aI.ok n) (tC (bU.ok n) (tC (dm.ok n) (tC (iR.ok n) tN)))))) fun x=>θ
end mZ
namespace lC
def f(n:Nat)(h:TI)(g:TI):fm TI:=br h.1 (bd (aH.f n) fun a=>some (a.1,())) (br g.1 (bd (aH.f n) fun a=>some (a.1,())) (bd (iR.f n g) fun a=>br a.1 (bd (aH.f n) fun b=>some (b.1,())) (br (g.2.1.toList==(⟨#[48]⟩:fg).toList) (bd (eF.f n g.2.2.1 h.2.1) fun b=>br b.1 (bd (bT.f n h.2.2.1 g.2.2.1) fun c=>bd (iI.f n c.1) fun d=>some (d.1,())) (bd (bG.f n g.2.1 g.2.2.1) fun c=>bd (bG.f n h.2.1 c.1) fun d=>bd (bU.f n d.1 h.2.2.1) fun e=>some (e.1,()))) (bd (bG.f n g.2.1 g.2.2.1) fun b=>bd (bG.f n h.2.1 b.1) fun c=>bd (bU.f n c.1 h.2.2.1) fun d=>some (d.1,())))))
def E(n:Nat):Entry:=⟨[yI,yI],[yI],fun x=>f n x.1 x.2.1⟩
theorem ok(n:Nat):Ok 193 (E n):=fo n (tC (aH.ok n) (tC (bT.ok n) (tC (iI.ok n) (tC (bG.ok n) (tC (eF.ok n) (tC (bU.ok n) (tC (iR.ok n) tN))))))) fun x=>θ
end lC
end
end Go.Q
