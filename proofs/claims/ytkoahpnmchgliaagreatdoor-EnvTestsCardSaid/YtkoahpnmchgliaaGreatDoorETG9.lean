import Derived.Test.YtkoahpnmchgliaaGreatDoorETG8
set_option linter.all false
set_option maxRecDepth 100000
set_option maxHeartbeats 40000000
namespace Go.Q
open Go Go.RowKit
open Go.Rx (br bd sIdx sCat sCut iQuo iRem iShl)
noncomputable section
namespace mD
def f(n:Nat)(a:TI):fo Bool:=bd (oq.f n a.2.1) fun r1=>br r1.1 (bd (oq.f n a.2.2.1) fun r2=>some (r2.1,())) (some (false,()))
def E(n:Nat):Entry:=⟨[yI],[.bool],fun x=>f n x.1⟩
theorem ok(n:Nat):Ok 32 (E n):=fp n (tC (oq.ok n) tN) fun x=>θ
end mD
namespace kK
def f(n:Nat)(a:fi):fo Int:=bd (fO.f n a) fun r1=>br (!r1.1) (some (3,())) (bd (bI.f n a) fun r2=>br (decide (r2.1 > 100)) (some (10,())) (some (0,())))
def E(n:Nat):Entry:=⟨[.str],[(.int .i64)],fun x=>f n x.1⟩
theorem ok(n:Nat):Ok 134 (E n):=fp n (tC (fO.ok n) (tC (bI.ok n) tN)) fun x=>θ
end kK
namespace kV
def f(n:Nat)(g:TI):fo Int:=br g.1 (br (!(g.2.1.toList==(⟨#[]⟩:fi).toList)) (some (3,())) (br (!(g.2.2.1.toList==(⟨#[]⟩:fi).toList)) (some (3,())) (some (0,())))) (bd (kK.f n g.2.1) fun a=>br (a.1 != 0) (some (a.1,())) (bd (kK.f n g.2.2.1) fun b=>br (b.1 != 0) (some (b.1,())) (bd (bF.f n g.2.1) fun c=>br (decide (c.1 < 0)) (some (2,())) (br (!(g.2.1.toList==(⟨#[48]⟩:fi).toList)) (bd (bF.f n g.2.2.1) fun d=>br (decide (d.1 < 0)) (some (2,())) (bd (aO.f n g.2.2.1 g.2.1) fun e=>br (!e.1) (some (2,())) (some (0,())))) (some (0,()))))))
def E(n:Nat):Entry:=⟨[yI],[(.int .i64)],fun x=>f n x.1⟩
theorem ok(n:Nat):Ok 81 (E n):=fp n (tC (aO.ok n) (tC (kK.ok n) (tC (bF.ok n) tN))) fun x=>θ
end kV
namespace aI
def f(n:Nat)  : fo TI:=some ((true,(⟨#[]⟩:fi),(⟨#[]⟩:fi),()),())
def E(n:Nat):Entry:=⟨[],[yI],fun x=>f n⟩
theorem ok(n:Nat):Ok 148 (E n):=fp n tN fun x=>θ
end aI
namespace dB
def f(n:Nat)  : fo TI:=some ((false,(⟨#[49]⟩:fi),(⟨#[48]⟩:fi),()),())
def E(n:Nat):Entry:=⟨[],[yI],fun x=>f n⟩
theorem ok(n:Nat):Ok 257 (E n):=fp n tN fun x=>θ
end dB
namespace bV
def f(n:Nat)(h:fi)(g:fi):fo TI:=bd (dh.f n h) fun a=>br (!(h.toList==(⟨#[48]⟩:fi).toList)) (bd (bU.f n g a.1) fun b=>bd (bI.f n a.1) fun c=>br (decide (c.1 > 100)) (bd (dB.f n) fun d=>some (d.1,())) (bd (bI.f n b.1) fun d=>br (decide (d.1 > 100)) (bd (dB.f n) fun e=>some (e.1,())) (some ((false,a.1,b.1,()),())))) (bd (bI.f n a.1) fun b=>br (decide (b.1 > 100)) (bd (dB.f n) fun c=>some (c.1,())) (bd (bI.f n g) fun c=>br (decide (c.1 > 100)) (bd (dB.f n) fun d=>some (d.1,())) (some ((false,a.1,g,()),()))))
def E(n:Nat):Entry:=⟨[.str,.str],[yI],fun x=>f n x.1 x.2.1⟩
theorem ok(n:Nat):Ok 253 (E n):=fp n (tC (bI.ok n) (tC (bU.ok n) (tC (dB.ok n) (tC (dh.ok n) tN)))) fun x=>θ
end bV
namespace iQ
def f(n:Nat)(a:fi):fo TI:=bd (bV.f n (⟨#[48]⟩:fi) a) fun r1=>some (r1.1,())
def E(n:Nat):Entry:=⟨[.str],[yI],fun x=>f n x.1⟩
theorem ok(n:Nat):Ok 149 (E n):=fp n (tC (bV.ok n) tN) fun x=>θ
end iQ
namespace jS
def f(n:Nat)(d:TI)(e:fi):Option (fi×Bool×Unit):=br (d.2.1.toList==(⟨#[48]⟩:fi).toList) (bd (aO.f n d.2.2.1 e) fun a=>br a.1 (some ((⟨#[]⟩:fi),false,())) (some (d.2.2.1,true,()))) (bd (aT.f n d.2.2.1 e) fun a=>bd (bU.f n a.1 d.2.1) fun b=>bd (cO.f n e b.1) fun c=>some (c.1,true,()))
def E(n:Nat):Entry:=⟨[yI,.str],[.str,.bool],fun x=>f n x.1 x.2.1⟩
theorem ok(n:Nat):Ok 137 (E n):=fp n (tC (aO.ok n) (tC (cO.ok n) (tC (bU.ok n) (tC (aT.ok n) tN)))) fun x=>θ
end jS
namespace jb
def f(n:Nat)(a:TI):fo TI:=br a.1 (some (a,())) (bd (bg.f n a.2.2.1) fun r1=>bd (bV.f n a.2.1 r1.1) fun r2=>some (r2.1,()))
def E(n:Nat):Entry:=⟨[yI],[yI],fun x=>f n x.1⟩
theorem ok(n:Nat):Ok 152 (E n):=fp n (tC (bg.ok n) (tC (bV.ok n) tN)) fun x=>θ
end jb
namespace kU
def f(n:Nat)(e:TI)(g:fi):Option (fi×Bool×Unit):=bd (jb.f n e) fun a=>bd (bg.f n g) fun b=>bd (jS.f n a.1 b.1) fun c=>br (!c.2.1) (some ((⟨#[]⟩:fi),false,())) (bd (bg.f n c.1) fun d=>some (d.1,true,()))
def E(n:Nat):Entry:=⟨[yI,.str],[.str,.bool],fun x=>f n x.1 x.2.1⟩
theorem ok(n:Nat):Ok 138 (E n):=fp n (tC (jS.ok n) (tC (jb.ok n) (tC (bg.ok n) tN))) fun x=>θ
end kU
namespace eX
def f(n:Nat)(a:fi)(b:fi):fo Bool:=br (a.toList==(⟨#[48]⟩:fi).toList) (some ((b.toList==(⟨#[48]⟩:fi).toList),())) (bd (bU.f n b a) fun r1=>some ((r1.1.toList==(⟨#[48]⟩:fi).toList),()))
def E(n:Nat):Entry:=⟨[.str,.str],[.bool],fun x=>f n x.1 x.2.1⟩
theorem ok(n:Nat):Ok 249 (E n):=fp n (tC (bU.ok n) tN) fun x=>θ
end eX
namespace kJ
def f(n:Nat)(a:TI)(b:fi):fo Bool:=br (!a.1) (bd (aT.f n b a.2.2.1) fun r1=>bd (eX.f n a.2.1 r1.1) fun r2=>some (r2.1,())) (some (false,()))
def E(n:Nat):Entry:=⟨[yI,.str],[.bool],fun x=>f n x.1 x.2.1⟩
theorem ok(n:Nat):Ok 247 (E n):=fp n (tC (aT.ok n) (tC (eX.ok n) tN)) fun x=>θ
end kJ
namespace oG
def f(n:Nat)(m:TI)(o:TI):fo TI:=br m.1 (bd (aI.f n) fun a=>some (a.1,())) (br o.1 (bd (aI.f n) fun a=>some (a.1,())) (br (m.2.1.toList==(⟨#[48]⟩:fi).toList) (br (!(m.2.1.toList==(⟨#[48]⟩:fi).toList)) (bd (kJ.f n m o.2.2.1) fun a=>br a.1 (some (o,())) (bd (aI.f n) fun b=>some (b.1,()))) (bd (kJ.f n o m.2.2.1) fun a=>br a.1 (some (m,())) (bd (aI.f n) fun b=>some (b.1,())))) (br (o.2.1.toList==(⟨#[48]⟩:fi).toList) (br (!(m.2.1.toList==(⟨#[48]⟩:fi).toList)) (bd (kJ.f n m o.2.2.1) fun a=>br a.1 (some (o,())) (bd (aI.f n) fun b=>some (b.1,()))) (bd (kJ.f n o m.2.2.1) fun a=>br a.1 (some (m,())) (bd (aI.f n) fun b=>some (b.1,())))) (bd (bH.f n m.2.1 o.2.1) fun a=>bd (aT.f n o.2.2.1 m.2.2.1) fun b=>bd (eX.f n a.1 b.1) fun c=>br (!c.1) (bd (aI.f n) fun d=>some (d.1,())) (bd (di.f n m.2.1 o.2.1) fun d=>bd (aJ.f n b.1 a.1) fun e=>bd (aU.f n d.1 e.1) fun g=>bd (aJ.f n o.2.1 a.1) fun h=>bd (aU.f n m.2.1 h.1) fun i=>bd (aU.f n m.2.1 g.1) fun j=>bd (cO.f n m.2.2.1 j.1) fun k=>bd (bV.f n i.1 k.1) fun l=>some (l.1,()))))))
def E(n:Nat):Entry:=⟨[yI,yI],[yI],fun x=>f n x.1 x.2.1⟩
theorem ok(n:Nat):Ok 142 (E n):=fp n (tC (aI.ok n) (tC (cO.ok n) (tC (aT.ok n) (tC (kJ.ok n) (tC (bH.ok n) (tC (eX.ok n) (tC (di.ok n) (tC (aU.ok n) (tC (aJ.ok n) (tC (bV.ok n) tN)))))))))) fun x=>θ
end oG
namespace nP
def f(n:Nat)(d:TI)(e:TI):fo TI:=br d.1 (bd (aI.f n) fun a=>some (a.1,())) (br e.1 (bd (aI.f n) fun a=>some (a.1,())) (bd (bH.f n d.2.1 e.2.1) fun a=>bd (cO.f n d.2.2.1 e.2.2.1) fun b=>bd (bV.f n a.1 b.1) fun c=>some (c.1,())))
def E(n:Nat):Entry:=⟨[yI,yI],[yI],fun x=>f n x.1 x.2.1⟩
theorem ok(n:Nat):Ok 154 (E n):=fp n (tC (aI.ok n) (tC (cO.ok n) (tC (bH.ok n) (tC (bV.ok n) tN)))) fun x=>θ
end nP
namespace mX
def f(n:Nat)(d:TI)(e:TI):fo TI:=br d.1 (bd (aI.f n) fun a=>some (a.1,())) (br e.1 (bd (aI.f n) fun a=>some (a.1,())) (bd (bH.f n d.2.1 e.2.1) fun a=>bd (aT.f n d.2.2.1 e.2.2.1) fun b=>bd (bV.f n a.1 b.1) fun c=>some (c.1,())))
def E(n:Nat):Entry:=⟨[yI,yI],[yI],fun x=>f n x.1 x.2.1⟩
theorem ok(n:Nat):Ok 156 (E n):=fp n (tC (aI.ok n) (tC (aT.ok n) (tC (bH.ok n) (tC (bV.ok n) tN)))) fun x=>θ
end mX
namespace mY
def f(n:Nat)(i:TI)(j:TI):fo TI:=br i.1 (bd (aI.f n) fun a=>some (a.1,())) (br j.1 (bd (aI.f n) fun a=>some (a.1,())) (bd (aU.f n i.2.1 j.2.1) fun a=>bd (aU.f n i.2.1 j.2.2.1) fun b=>bd (bH.f n a.1 b.1) fun c=>bd (aU.f n j.2.1 i.2.2.1) fun d=>bd (bH.f n c.1 d.1) fun e=>bd (aU.f n i.2.2.1 j.2.2.1) fun g=>bd (bV.f n e.1 g.1) fun h=>some (h.1,())))
def E(n:Nat):Entry:=⟨[yI,yI],[yI],fun x=>f n x.1 x.2.1⟩
theorem ok(n:Nat):Ok 158 (E n):=fp n (tC (aI.ok n) (tC (bH.ok n) (tC (aU.ok n) (tC (bV.ok n) tN)))) fun x=>θ
end mY
namespace jc
def f(n:Nat)(a:TI):fo Bool:=br (a.2.1.toList==(⟨#[48]⟩:fi).toList) (some ((a.2.2.1.toList==(⟨#[48]⟩:fi).toList),())) (some (false,()))
def E(n:Nat):Entry:=⟨[yI],[.bool],fun x=>f n x.1⟩
theorem ok(n:Nat):Ok 265 (E n):=fp n tN fun x=>θ
end jc
namespace nO
def f(n:Nat)(g:TI)(h:TI):fo TI:=br g.1 (bd (aI.f n) fun a=>some (a.1,())) (br h.1 (bd (aI.f n) fun a=>some (a.1,())) (bd (jc.f n h) fun a=>br a.1 (bd (aI.f n) fun b=>some (b.1,())) (br (h.2.1.toList==(⟨#[48]⟩:fi).toList) (bd (eX.f n h.2.2.1 g.2.1) fun b=>br b.1 (bd (aJ.f n g.2.1 h.2.2.1) fun c=>bd (aJ.f n g.2.2.1 h.2.2.1) fun d=>bd (bV.f n c.1 d.1) fun e=>some (e.1,())) (br (!(h.2.1.toList==(⟨#[48]⟩:fi).toList)) (bd (jc.f n g) fun c=>br c.1 (some (g,())) (bd (dB.f n) fun d=>some (d.1,()))) (bd (dB.f n) fun c=>some (c.1,())))) (br (!(h.2.1.toList==(⟨#[48]⟩:fi).toList)) (bd (jc.f n g) fun b=>br b.1 (some (g,())) (bd (dB.f n) fun c=>some (c.1,()))) (bd (dB.f n) fun b=>some (b.1,()))))))
def E(n:Nat):Entry:=⟨[yI,yI],[yI],fun x=>f n x.1 x.2.1⟩
theorem ok(n:Nat):Ok 160 (E n):=fp n (tC (aI.ok n) (tC (eX.ok n) (tC (aJ.ok n) (tC (bV.ok n) (tC (dB.ok n) (tC (jc.ok n) tN)))))) fun x=>θ
end nO
namespace lU
def f(n:Nat)(h:TI)(g:TI):fo TI:=br h.1 (bd (aI.f n) fun a=>some (a.1,())) (br g.1 (bd (aI.f n) fun a=>some (a.1,())) (bd (jc.f n g) fun a=>br a.1 (bd (aI.f n) fun b=>some (b.1,())) (br (g.2.1.toList==(⟨#[48]⟩:fi).toList) (bd (eX.f n g.2.2.1 h.2.1) fun b=>br b.1 (bd (bU.f n h.2.2.1 g.2.2.1) fun c=>bd (iQ.f n c.1) fun d=>some (d.1,())) (bd (bH.f n g.2.1 g.2.2.1) fun c=>bd (bH.f n h.2.1 c.1) fun d=>bd (bV.f n d.1 h.2.2.1) fun e=>some (e.1,()))) (bd (bH.f n g.2.1 g.2.2.1) fun b=>bd (bH.f n h.2.1 b.1) fun c=>bd (bV.f n c.1 h.2.2.1) fun d=>some (d.1,())))))
def E(n:Nat):Entry:=⟨[yI,yI],[yI],fun x=>f n x.1 x.2.1⟩
theorem ok(n:Nat):Ok 162 (E n):=fp n (tC (aI.ok n) (tC (iQ.ok n) (tC (bU.ok n) (tC (bH.ok n) (tC (eX.ok n) (tC (bV.ok n) (tC (jc.ok n) tN))))))) fun x=>θ
end lU
end
end Go.Q
namespace Go.Q
open Go Go.RowKit
open Go.Rx (br bd sIdx sCat sCut iQuo iRem iShl)
noncomputable section
namespace pO
def f(n:Nat)(a:TI)(b:TI):fo Int:=bd (bC.f n a) fun r1=>br (r1.1 != 0) (some (r1.1,())) (bd (gu.f n b) fun r2=>some (r2.1,()))
def E(n:Nat):Entry:=⟨[yI,yI],[(.int .i64)],fun x=>f n x.1 x.2.1⟩
theorem ok(n:Nat):Ok 68 (E n):=fp n (tC (bC.ok n) (tC (gu.ok n) tN)) fun x=>θ
end pO
namespace jq
def f(n:Nat)  : fo TV:=some (((true,(⟨#[]⟩:fi),(⟨#[]⟩:fi),()),(true,(⟨#[]⟩:fi),(⟨#[]⟩:fi),()),()),())
def E(n:Nat):Entry:=⟨[],[yV],fun x=>f n⟩
theorem ok(n:Nat):Ok 79 (E n):=fp n tN fun x=>θ
end jq
namespace pG
def f(n:Nat)(a:fi):fo TV:=some (((false,a,a,()),(false,(⟨#[48]⟩:fi),a,()),()),())
def E(n:Nat):Entry:=⟨[.str],[yV],fun x=>f n x.1⟩
theorem ok(n:Nat):Ok 167 (E n):=fp n tN fun x=>θ
end pG
namespace dV
def f(n:Nat)(a:fi):fo fi:=bd (strings_TrimPrefix.f n a (⟨#[45]⟩:fi)) fun r1=>br (decide ((r1.1.size:Int) > 100)) (some ((⟨#[]⟩:fi),())) (some (a,()))
def E(n:Nat):Entry:=⟨[.str],[.str],fun x=>f n x.1⟩
theorem ok(n:Nat):Ok 166 (E n):=fp n (tC (strings_TrimPrefix.ok n) tN) fun x=>θ
end dV
namespace dR
def f(n:Nat)(g:TI)(h:TI):fo TV:=br g.1 (bd (jq.f n) fun a=>some (a.1,())) (br h.1 (bd (jq.f n) fun a=>some (a.1,())) (br (h.2.1.toList==(⟨#[48]⟩:fi).toList) (bd (qQ.f n g h.2.2.1) fun a=>br (!a.1) (bd (jq.f n) fun b=>some (b.1,())) (bd (pG.f n h.2.2.1) fun b=>some (b.1,()))) (br (!(g.2.1.toList==(⟨#[]⟩:fi).toList)) (bd (oQ.f n h g.2.1) fun a=>br (!(g.2.2.1.toList==(⟨#[]⟩:fi).toList)) (bd (kR.f n h g.2.2.1) fun b=>br (!(a.1.toList==(⟨#[]⟩:fi).toList)) (br (!(b.1.toList==(⟨#[]⟩:fi).toList)) (bd (je.f n a.1 b.1) fun c=>br (decide (c.1 > 0)) (bd (jq.f n) fun d=>some (d.1,())) (br (c.1==0) (bd (pG.f n a.1) fun d=>some (d.1,())) (bd (dV.f n a.1) fun d=>bd (dV.f n b.1) fun e=>some (((false,d.1,e.1,()),h,()),())))) (bd (dV.f n a.1) fun c=>bd (dV.f n b.1) fun d=>some (((false,c.1,d.1,()),h,()),()))) (bd (dV.f n a.1) fun c=>bd (dV.f n b.1) fun d=>some (((false,c.1,d.1,()),h,()),()))) (br (!(a.1.toList==(⟨#[]⟩:fi).toList)) (br (!(g.2.2.1.toList==(⟨#[]⟩:fi).toList)) (bd (je.f n a.1 g.2.2.1) fun b=>br (decide (b.1 > 0)) (bd (jq.f n) fun c=>some (c.1,())) (br (b.1==0) (bd (pG.f n a.1) fun c=>some (c.1,())) (bd (dV.f n a.1) fun c=>bd (dV.f n g.2.2.1) fun d=>some (((false,c.1,d.1,()),h,()),())))) (bd (dV.f n a.1) fun b=>bd (dV.f n g.2.2.1) fun c=>some (((false,b.1,c.1,()),h,()),()))) (bd (dV.f n a.1) fun b=>bd (dV.f n g.2.2.1) fun c=>some (((false,b.1,c.1,()),h,()),())))) (br (!(g.2.2.1.toList==(⟨#[]⟩:fi).toList)) (bd (kR.f n h g.2.2.1) fun a=>br (!(g.2.1.toList==(⟨#[]⟩:fi).toList)) (br (!(a.1.toList==(⟨#[]⟩:fi).toList)) (bd (je.f n g.2.1 a.1) fun b=>br (decide (b.1 > 0)) (bd (jq.f n) fun c=>some (c.1,())) (br (b.1==0) (bd (pG.f n g.2.1) fun c=>some (c.1,())) (bd (dV.f n g.2.1) fun c=>bd (dV.f n a.1) fun d=>some (((false,c.1,d.1,()),h,()),())))) (bd (dV.f n g.2.1) fun b=>bd (dV.f n a.1) fun c=>some (((false,b.1,c.1,()),h,()),()))) (bd (dV.f n g.2.1) fun b=>bd (dV.f n a.1) fun c=>some (((false,b.1,c.1,()),h,()),()))) (br (!(g.2.1.toList==(⟨#[]⟩:fi).toList)) (br (!(g.2.2.1.toList==(⟨#[]⟩:fi).toList)) (bd (je.f n g.2.1 g.2.2.1) fun a=>br (decide (a.1 > 0)) (bd (jq.f n) fun b=>some (b.1,())) (br (a.1==0) (bd (pG.f n g.2.1) fun b=>some (b.1,())) (bd (dV.f n g.2.1) fun b=>bd (dV.f n g.2.2.1) fun c=>some (((false,b.1,c.1,()),h,()),())))) (bd (dV.f n g.2.1) fun a=>bd (dV.f n g.2.2.1) fun b=>some (((false,a.1,b.1,()),h,()),()))) (bd (dV.f n g.2.1) fun a=>bd (dV.f n g.2.2.1) fun b=>some (((false,a.1,b.1,()),h,()),())))))))
def E(n:Nat):Entry:=⟨[yI,yI],[yV],fun x=>f n x.1 x.2.1⟩
theorem ok(n:Nat):Ok 69 (E n):=fp n (tC (jq.ok n) (tC (dV.ok n) (tC (pG.ok n) (tC (qQ.ok n) (tC (oQ.ok n) (tC (kR.ok n) (tC (je.ok n) tN))))))) fun x=>θ
end dR
namespace iT
def f(n:Nat)(d:TV):fo Int:=bd (pO.f n d.1 d.2.1) fun a=>br (a.1 != 0) (some (a.1,())) (bd (dR.f n d.1 d.2.1) fun b=>bd (some (!(((b.1.1.1==d.1.1)&&((b.1.1.2.1==d.1.2.1)&&((b.1.1.2.2.1==d.1.2.2.1)&&true)))&&(((b.1.2.1.1==d.2.1.1)&&((b.1.2.1.2.1==d.2.1.2.1)&&((b.1.2.1.2.2.1==d.2.1.2.2.1)&&true)))&&true)))) fun c=>br c (some (3,())) (some (0,())))
def E(n:Nat):Entry:=⟨[yV],[(.int .i64)],fun x=>f n x.1⟩
theorem ok(n:Nat):Ok 40 (E n):=fp n (tC (pO.ok n) (tC (dR.ok n) tN)) fun x=>θ
end iT
namespace vK
def f(n:Nat)  : fo TV:=some (((false,(⟨#[]⟩:fi),(⟨#[]⟩:fi),()),(false,(⟨#[49]⟩:fi),(⟨#[48]⟩:fi),()),()),())
def E(n:Nat):Entry:=⟨[],[yV],fun x=>f n⟩
theorem ok(n:Nat):Ok 44 (E n):=fp n tN fun x=>θ
end vK
namespace yH
def f(n:Nat)(d:fi):Option (TV×Int×Unit):=bd (dK.f n d) fun a=>br (a.1 != 0) (some (((false,(⟨#[]⟩:fi),(⟨#[]⟩:fi),()),(false,(⟨#[]⟩:fi),(⟨#[]⟩:fi),()),()),a.1,())) (bd (dV.f n d) fun b=>br (b.1.toList==(⟨#[]⟩:fi).toList) (bd (vK.f n) fun c=>some (c.1,0,())) (bd (pG.f n d) fun c=>some (c.1,0,())))
def E(n:Nat):Entry:=⟨[.str],[yV,(.int .i64)],fun x=>f n x.1⟩
theorem ok(n:Nat):Ok 92 (E n):=fp n (tC (vK.ok n) (tC (dK.ok n) (tC (dV.ok n) (tC (pG.ok n) tN)))) fun x=>θ
end yH
namespace uJ
def f(n:Nat)(e:TV):Option (TV×Int×Unit):=bd (iT.f n e) fun a=>br (a.1 != 0) (some (((false,(⟨#[]⟩:fi),(⟨#[]⟩:fi),()),(false,(⟨#[]⟩:fi),(⟨#[]⟩:fi),()),()),a.1,())) (bd (pY.f n e.1) fun b=>bd (qJ.f n e.2.1) fun c=>bd (dR.f n b.1 c.1) fun d=>some (d.1,0,()))
def E(n:Nat):Entry:=⟨[yV],[yV,(.int .i64)],fun x=>f n x.1⟩
theorem ok(n:Nat):Ok 63 (E n):=fp n (tC (iT.ok n) (tC (dR.ok n) (tC (pY.ok n) (tC (qJ.ok n) tN)))) fun x=>θ
end uJ
namespace jd
def f(n:Nat)(a:TV)(b:TV):fo Int:=bd (iT.f n a) fun r1=>br (r1.1 != 0) (some (r1.1,())) (bd (iT.f n b) fun r2=>some (r2.1,()))
def E(n:Nat):Entry:=⟨[yV,yV],[(.int .i64)],fun x=>f n x.1 x.2.1⟩
theorem ok(n:Nat):Ok 77 (E n):=fp n (tC (iT.ok n) tN) fun x=>θ
end jd
namespace qU
def f(n:Nat)(h:Int)(e:TV)(g:TV):Option (TV×Int×Unit):=br (h==3) (bd (jd.f n e g) fun a=>br (a.1 != 0) (some (((false,(⟨#[]⟩:fi),(⟨#[]⟩:fi),()),(false,(⟨#[]⟩:fi),(⟨#[]⟩:fi),()),()),a.1,())) (bd (sQ.f n e.1 g.1) fun b=>br (b.2.1 != 0) (some (((false,(⟨#[]⟩:fi),(⟨#[]⟩:fi),()),(false,(⟨#[]⟩:fi),(⟨#[]⟩:fi),()),()),b.2.1,())) (bd (qG.f n e.2.1 g.2.1) fun c=>br (c.2.1 != 0) (some (((false,(⟨#[]⟩:fi),(⟨#[]⟩:fi),()),(false,(⟨#[]⟩:fi),(⟨#[]⟩:fi),()),()),c.2.1,())) (bd (dR.f n b.1 c.1) fun d=>some (d.1,0,()))))) (br (h==4) (bd (jd.f n e g) fun a=>br (a.1 != 0) (some (((false,(⟨#[]⟩:fi),(⟨#[]⟩:fi),()),(false,(⟨#[]⟩:fi),(⟨#[]⟩:fi),()),()),a.1,())) (bd (sW.f n e.1 g.1) fun b=>br (b.2.1 != 0) (some (((false,(⟨#[]⟩:fi),(⟨#[]⟩:fi),()),(false,(⟨#[]⟩:fi),(⟨#[]⟩:fi),()),()),b.2.1,())) (bd (nJ.f n e.2.1 g.2.1) fun c=>br (c.2.1 != 0) (some (((false,(⟨#[]⟩:fi),(⟨#[]⟩:fi),()),(false,(⟨#[]⟩:fi),(⟨#[]⟩:fi),()),()),c.2.1,())) (bd (dR.f n b.1 c.1) fun d=>some (d.1,0,()))))) (br (h==5) (bd (jd.f n e g) fun a=>br (a.1 != 0) (some (((false,(⟨#[]⟩:fi),(⟨#[]⟩:fi),()),(false,(⟨#[]⟩:fi),(⟨#[]⟩:fi),()),()),a.1,())) (bd (sS.f n e.1 g.1) fun b=>br (b.2.1 != 0) (some (((false,(⟨#[]⟩:fi),(⟨#[]⟩:fi),()),(false,(⟨#[]⟩:fi),(⟨#[]⟩:fi),()),()),b.2.1,())) (bd (qI.f n e.2.1 g.2.1) fun c=>br (c.2.1 != 0) (some (((false,(⟨#[]⟩:fi),(⟨#[]⟩:fi),()),(false,(⟨#[]⟩:fi),(⟨#[]⟩:fi),()),()),c.2.1,())) (bd (dR.f n b.1 c.1) fun d=>some (d.1,0,()))))) (br (h==6) (bd (jd.f n e g) fun a=>br (a.1 != 0) (some (((false,(⟨#[]⟩:fi),(⟨#[]⟩:fi),()),(false,(⟨#[]⟩:fi),(⟨#[]⟩:fi),()),()),a.1,())) (bd (sU.f n e.1 g.1) fun b=>br (b.2.1 != 0) (some (((false,(⟨#[]⟩:fi),(⟨#[]⟩:fi),()),(false,(⟨#[]⟩:fi),(⟨#[]⟩:fi),()),()),b.2.1,())) (bd (qK.f n e.2.1 g.2.1) fun c=>br (c.2.1 != 0) (some (((false,(⟨#[]⟩:fi),(⟨#[]⟩:fi),()),(false,(⟨#[]⟩:fi),(⟨#[]⟩:fi),()),()),c.2.1,())) (bd (dR.f n b.1 c.1) fun d=>some (d.1,0,()))))) (br (h==7) (bd (jd.f n e g) fun a=>br (a.1 != 0) (some (((false,(⟨#[]⟩:fi),(⟨#[]⟩:fi),()),(false,(⟨#[]⟩:fi),(⟨#[]⟩:fi),()),()),a.1,())) (bd (sV.f n e.1 g.1) fun b=>br (b.2.1 != 0) (some (((false,(⟨#[]⟩:fi),(⟨#[]⟩:fi),()),(false,(⟨#[]⟩:fi),(⟨#[]⟩:fi),()),()),b.2.1,())) (bd (qM.f n e.2.1 g.2.1) fun c=>br (c.2.1 != 0) (some (((false,(⟨#[]⟩:fi),(⟨#[]⟩:fi),()),(false,(⟨#[]⟩:fi),(⟨#[]⟩:fi),()),()),c.2.1,())) (bd (dR.f n b.1 c.1) fun d=>some (d.1,0,()))))) (some (((false,(⟨#[]⟩:fi),(⟨#[]⟩:fi),()),(false,(⟨#[]⟩:fi),(⟨#[]⟩:fi),()),()),1,()))))))
def E(n:Nat):Entry:=⟨[(.int .i64),yV,yV],[yV,(.int .i64)],fun x=>f n x.1 x.2.1 x.2.2.1⟩
theorem ok(n:Nat):Ok 64 (E n):=fp n (tC (dR.ok n) (tC (jd.ok n) (tC (sQ.ok n) (tC (qG.ok n) (tC (sW.ok n) (tC (nJ.ok n) (tC (sS.ok n) (tC (qI.ok n) (tC (sU.ok n) (tC (qK.ok n) (tC (sV.ok n) (tC (qM.ok n) tN)))))))))))) fun x=>θ
end qU
namespace nS
def f(n:Nat)(e:TV)(g:TV):Option (TV×Int×Unit):=bd (jd.f n e g) fun a=>br (a.1 != 0) (some (((false,(⟨#[]⟩:fi),(⟨#[]⟩:fi),()),(false,(⟨#[]⟩:fi),(⟨#[]⟩:fi),()),()),a.1,())) (bd (rJ.f n e.1 g.1) fun b=>br (b.2.1 != 0) (some (((false,(⟨#[]⟩:fi),(⟨#[]⟩:fi),()),(false,(⟨#[]⟩:fi),(⟨#[]⟩:fi),()),()),b.2.1,())) (bd (qi.f n e.2.1 g.2.1) fun c=>br (c.2.1 != 0) (some (((false,(⟨#[]⟩:fi),(⟨#[]⟩:fi),()),(false,(⟨#[]⟩:fi),(⟨#[]⟩:fi),()),()),c.2.1,())) (bd (dR.f n b.1 c.1) fun d=>some (d.1,0,()))))
def E(n:Nat):Entry:=⟨[yV,yV],[yV,(.int .i64)],fun x=>f n x.1 x.2.1⟩
theorem ok(n:Nat):Ok 46 (E n):=fp n (tC (dR.ok n) (tC (rJ.ok n) (tC (qi.ok n) (tC (jd.ok n) tN)))) fun x=>θ
end nS
namespace vI
def f(n:Nat)(a:TV):Option (fi×Bool×Int×Unit):=bd (iT.f n a) fun r1=>br (r1.1 != 0) (some ((⟨#[]⟩:fi),false,r1.1,())) (br a.2.1.1 (some ((⟨#[]⟩:fi),false,0,())) (br (!(a.2.1.2.1.toList==(⟨#[48]⟩:fi).toList)) (some ((⟨#[]⟩:fi),false,0,())) (some (a.2.1.2.2.1,true,0,()))))
def E(n:Nat):Entry:=⟨[yV],[.str,.bool,(.int .i64)],fun x=>f n x.1⟩
theorem ok(n:Nat):Ok 203 (E n):=fp n (tC (iT.ok n) tN) fun x=>θ
end vI
namespace xY
def f(n:Nat)(a:TI)(b:TI):Option (TV×Int×Unit):=bd (pO.f n a b) fun r1=>br (r1.1 != 0) (some (((false,(⟨#[]⟩:fi),(⟨#[]⟩:fi),()),(false,(⟨#[]⟩:fi),(⟨#[]⟩:fi),()),()),r1.1,())) (bd (dR.f n a b) fun r2=>some (r2.1,0,()))
def E(n:Nat):Entry:=⟨[yI,yI],[yV,(.int .i64)],fun x=>f n x.1 x.2.1⟩
theorem ok(n:Nat):Ok 296 (E n):=fp n (tC (pO.ok n) (tC (dR.ok n) tN)) fun x=>θ
end xY
end
end Go.Q
namespace Go.Q
open Go Go.RowKit
open Go.Rx (br bd sIdx sCat sCut iQuo iRem iShl)
noncomputable section
namespace ck_c
def c0:fi:=⟨#[]⟩
def c1:EX:=EX.mk 1 c0 0 []
def c2:fi:=⟨#[50]⟩
def c3:EX:=EX.mk 0 c2 0 []
def c4:EX:=EX.mk 5 c0 0 [c1,c3]
def c5:fi:=⟨#[49]⟩
def c6:EX:=EX.mk 0 c5 0 []
def c7:EX:=EX.mk 3 c0 0 [c4,c6]
def c8:fi:=⟨#[48]⟩
def c9:fi:=⟨#[57]⟩
def c10:TV:=((false,c8,c9,()),(false,c5,c8,()),())
def c11:fi:=⟨#[52]⟩
def c12:TV:=((false,c2,c11,()),(false,c5,c8,()),())
def c13:List TV:=[c10,c12]
def c18:fi:=⟨#[49,57]⟩
def c19:TV:=((false,c5,c18,()),(false,c2,c5,()),())
def c20:EX:=EX.mk 1 c0 1 []
def c21:EX:=EX.mk 6 c0 0 [c1,c20]
def c22:TV:=((false,c8,c11,()),(false,c5,c8,()),())
def c23:List TV:=[c22,c12]
def c25:fi:=⟨#[53]⟩
def c37:fi:=⟨#[55]⟩
def c38:EX:=EX.mk 0 c37 0 []
def c42:EX:=EX.mk 0 c8 0 []
def c43:CX:=CX.mk 3 [c1,c42] []
def c45:TV:=((false,c5,c9,()),(false,c5,c8,()),())
def c46:List TV:=[c45,c12]
def c47:CX:=CX.mk 4 [c1,c3] []
def c48:CX:=CX.mk 4 [c38,c1] []
def c49:CX:=CX.mk 8 [] [c47,c48]
def c50:TV:=((false,c8,c5,()),(false,c5,c8,()),())
def c51:List TV:=[c50,c12]
def c52:fi:=⟨#[56]⟩
def c53:TV:=((false,c52,c9,()),(false,c5,c8,()),())
def c54:List TV:=[c53,c12]
def c55:fi:=⟨#[51]⟩
def c56:EX:=EX.mk 0 c55 0 []
def c57:TV:=((false,c55,c55,()),(false,c8,c55,()),())
def c58:EX:=EX.mk 6 c0 0 [c1,c3]
def c59:fi:=⟨#[54]⟩
def c60:TV:=((false,c59,c37,()),(false,c5,c8,()),())
def c61:List TV:=[c60,c12]
def c62:EX:=EX.mk 4 c0 0 [c1,c6]
def c66:TV:=((false,c55,c25,()),(false,c5,c8,()),())
def c69:List TV:=[c66,c12]
end ck_c
end
end Go.Q
namespace Go.Q
open Go Go.RowKit
open Go.Rx (br bd sIdx sCat sCut iQuo iRem iShl)
noncomputable section
namespace um
def f(n:Nat)(h:Int)(i:TV)(j:TV):Option (TV×TV×Int×Unit):=br (decide (h < 2)) (some (((false,(⟨#[]⟩:fi),(⟨#[]⟩:fi),()),(false,(⟨#[]⟩:fi),(⟨#[]⟩:fi),()),()),((false,(⟨#[]⟩:fi),(⟨#[]⟩:fi),()),(false,(⟨#[]⟩:fi),(⟨#[]⟩:fi),()),()),1,())) (br (decide (h > 5)) (some (((false,(⟨#[]⟩:fi),(⟨#[]⟩:fi),()),(false,(⟨#[]⟩:fi),(⟨#[]⟩:fi),()),()),((false,(⟨#[]⟩:fi),(⟨#[]⟩:fi),()),(false,(⟨#[]⟩:fi),(⟨#[]⟩:fi),()),()),1,())) (bd (jd.f n i j) fun a=>br (a.1 != 0) (some (((false,(⟨#[]⟩:fi),(⟨#[]⟩:fi),()),(false,(⟨#[]⟩:fi),(⟨#[]⟩:fi),()),()),((false,(⟨#[]⟩:fi),(⟨#[]⟩:fi),()),(false,(⟨#[]⟩:fi),(⟨#[]⟩:fi),()),()),a.1,())) (br (h==2) (bd (nS.f n i j) fun b=>some (b.1,b.1,b.2.1,())) (bd (qj.f n h i.1 j.1) fun b=>br (b.2.2.1 != 0) (some (((false,(⟨#[]⟩:fi),(⟨#[]⟩:fi),()),(false,(⟨#[]⟩:fi),(⟨#[]⟩:fi),()),()),((false,(⟨#[]⟩:fi),(⟨#[]⟩:fi),()),(false,(⟨#[]⟩:fi),(⟨#[]⟩:fi),()),()),b.2.2.1,())) (bd (dR.f n b.1 i.2.1) fun c=>bd (dR.f n b.2.1 j.2.1) fun d=>br c.1.1.1 (bd (jq.f n) fun e=>bd (jq.f n) fun g=>some (e.1,g.1,0,())) (br d.1.1.1 (bd (jq.f n) fun e=>bd (jq.f n) fun g=>some (e.1,g.1,0,())) (some (c.1,d.1,0,()))))))))
def E(n:Nat):Entry:=⟨[(.int .i64),yV,yV],[yV,yV,(.int .i64)],fun x=>f n x.1 x.2.1 x.2.2.1⟩
theorem ok(n:Nat):Ok 51 (E n):=fp n (tC (nS.ok n) (tC (dR.ok n) (tC (jd.ok n) (tC (qj.ok n) (tC (jq.ok n) tN))))) fun x=>θ
end um
namespace zM
def l:List ((TV×TV×Unit)×(TV×Int×Unit)):=[((ck_c.c50,ck_c.c53,()),(ck_c.c10,0,())),((ck_c.c12,ck_c.c12,()),(ck_c.c12,0,()))]
def f(n:Nat)(a:TV)(b:TV):Option (TV×Int×Unit):=pick [yV,yV] l (a,b,())
def E(n:Nat):Entry:=⟨[yV,yV],[yV,(.int .i64)],fun x=>f n x.1 x.2.1⟩
def tb(n:Nat):List (FuncId×Entry):=[(69,dR.E 1000),(77,jd.E 1000),(110,bC.E 1000),(128,aK.E 1000),(131,af.E 1000),(172,dL.E 1000),(173,dZ.E 1000),(177,iJ.E 1000),(221,eP.E 1000),(278,ak.E 1000)]
abbrev an:FuncId→FA:=annsL []
theorem ok(n:Nat):Ok 109 (E n):=okP (an:=an) (tb:=tb n) (lf:=n) (tC (dR.ok 1000) (tC (jd.ok 1000) (tC (bC.ok 1000) (tC (aK.ok 1000) (tC (af.ok 1000) (tC (dL.ok 1000) (tC (dZ.ok 1000) (tC (iJ.ok 1000) (tC (eP.ok 1000) (tC (ak.ok 1000) tN)))))))))) aoN (l:=l) (fun _=>rfl) (fun _=>rfl) ⟨by as_aux_lemma=>kernel_rfl,by as_aux_lemma=>kernel_rfl,trivial⟩
end zM
end
end Go.Q
