import Derived.Test.YtkoahpnmchgliaaGreatDoorETG6
set_option linter.all false
set_option maxRecDepth 100000
namespace Go.Q
open Go Go.RowKit
open Go.Rx (br bd sIdx sCat sCut iQuo iRem iShl)
noncomputable section
namespace qj
def f(n:Nat)(v:Int)(t:TI)(u:TI):Option (TI×TI×Int×Unit):=br (v==2) (bd (bC.f n t) fun a=>br (a.1 != 0) (br (a.1 != 0) (some ((false,(⟨#[]⟩:fi),(⟨#[]⟩:fi),()),(false,(⟨#[]⟩:fi),(⟨#[]⟩:fi),()),a.1,())) (bd (aK.f n t) fun b=>bd (aK.f n u) fun c=>bd (ah.f n b.1) fun d=>br d.1 (bd (au.f n) fun e=>bd (af.f n e.1) fun g=>bd (au.f n) fun h=>bd (af.f n h.1) fun i=>some (g.1,i.1,0,())) (bd (ah.f n c.1) fun e=>br e.1 (bd (au.f n) fun g=>bd (af.f n g.1) fun h=>bd (au.f n) fun i=>bd (af.f n i.1) fun j=>some (h.1,j.1,0,())) (bd (jP.f n b.1 c.1) fun g=>bd (ah.f n g.1) fun h=>br h.1 (bd (au.f n) fun i=>bd (au.f n) fun j=>bd (af.f n i.1) fun k=>bd (af.f n j.1) fun l=>some (k.1,l.1,0,())) (bd (ah.f n g.2.1) fun i=>br i.1 (bd (au.f n) fun j=>bd (au.f n) fun k=>bd (af.f n j.1) fun l=>bd (af.f n k.1) fun m=>some (l.1,m.1,0,())) (bd (af.f n g.1) fun j=>bd (af.f n g.2.1) fun k=>some (j.1,k.1,0,()))))))) (bd (bC.f n u) fun b=>br (b.1 != 0) (br (b.1 != 0) (some ((false,(⟨#[]⟩:fi),(⟨#[]⟩:fi),()),(false,(⟨#[]⟩:fi),(⟨#[]⟩:fi),()),b.1,())) (bd (aK.f n t) fun c=>bd (aK.f n u) fun d=>bd (ah.f n c.1) fun e=>br e.1 (bd (au.f n) fun g=>bd (af.f n g.1) fun h=>bd (au.f n) fun i=>bd (af.f n i.1) fun j=>some (h.1,j.1,0,())) (bd (ah.f n d.1) fun g=>br g.1 (bd (au.f n) fun h=>bd (af.f n h.1) fun i=>bd (au.f n) fun j=>bd (af.f n j.1) fun k=>some (i.1,k.1,0,())) (bd (jP.f n c.1 d.1) fun h=>bd (ah.f n h.1) fun i=>br i.1 (bd (au.f n) fun j=>bd (au.f n) fun k=>bd (af.f n j.1) fun l=>bd (af.f n k.1) fun m=>some (l.1,m.1,0,())) (bd (ah.f n h.2.1) fun j=>br j.1 (bd (au.f n) fun k=>bd (au.f n) fun l=>bd (af.f n k.1) fun m=>bd (af.f n l.1) fun o=>some (m.1,o.1,0,())) (bd (af.f n h.1) fun k=>bd (af.f n h.2.1) fun l=>some (k.1,l.1,0,()))))))) (bd (aK.f n t) fun c=>bd (aK.f n u) fun d=>bd (ah.f n c.1) fun e=>br e.1 (bd (au.f n) fun g=>bd (af.f n g.1) fun h=>bd (au.f n) fun i=>bd (af.f n i.1) fun j=>some (h.1,j.1,0,())) (bd (ah.f n d.1) fun g=>br g.1 (bd (au.f n) fun h=>bd (af.f n h.1) fun i=>bd (au.f n) fun j=>bd (af.f n j.1) fun k=>some (i.1,k.1,0,())) (bd (jP.f n c.1 d.1) fun h=>bd (ah.f n h.1) fun i=>br i.1 (bd (au.f n) fun j=>bd (au.f n) fun k=>bd (af.f n j.1) fun l=>bd (af.f n k.1) fun m=>some (l.1,m.1,0,())) (bd (ah.f n h.2.1) fun j=>br j.1 (bd (au.f n) fun k=>bd (au.f n) fun l=>bd (af.f n k.1) fun m=>bd (af.f n l.1) fun o=>some (m.1,o.1,0,())) (bd (af.f n h.1) fun k=>bd (af.f n h.2.1) fun l=>some (k.1,l.1,0,())))))))) (br (v==4) (bd (bC.f n t) fun a=>br (a.1 != 0) (br (a.1 != 0) (some ((false,(⟨#[]⟩:fi),(⟨#[]⟩:fi),()),(false,(⟨#[]⟩:fi),(⟨#[]⟩:fi),()),a.1,())) (bd (aK.f n t) fun b=>bd (aK.f n u) fun c=>bd (ah.f n b.1) fun d=>br d.1 (bd (au.f n) fun e=>bd (af.f n e.1) fun g=>bd (au.f n) fun h=>bd (af.f n h.1) fun i=>some (g.1,i.1,0,())) (bd (ah.f n c.1) fun e=>br e.1 (bd (au.f n) fun g=>bd (af.f n g.1) fun h=>bd (au.f n) fun i=>bd (af.f n i.1) fun j=>some (h.1,j.1,0,())) (bd (fH.f n (⟨#[49]⟩:fi)) fun g=>bd (bW.f n c.1.2.1 g.1) fun h=>bd (fE.f n b.1.2.1 h.1) fun i=>bd (bW.f n b.1.1 (⟨#[49]⟩:fi)) fun j=>bd (iO.f n c.1.1 j.1) fun k=>bd (ah.f n (b.1.1,i.1,())) fun l=>br l.1 (bd (au.f n) fun m=>bd (au.f n) fun o=>bd (af.f n m.1) fun p=>bd (af.f n o.1) fun q=>some (p.1,q.1,0,())) (bd (ah.f n (k.1,c.1.2.1,())) fun m=>br m.1 (bd (au.f n) fun o=>bd (au.f n) fun p=>bd (af.f n o.1) fun q=>bd (af.f n p.1) fun r=>some (q.1,r.1,0,())) (bd (af.f n (b.1.1,i.1,())) fun o=>bd (af.f n (k.1,c.1.2.1,())) fun p=>some (o.1,p.1,0,()))))))) (bd (bC.f n u) fun b=>br (b.1 != 0) (br (b.1 != 0) (some ((false,(⟨#[]⟩:fi),(⟨#[]⟩:fi),()),(false,(⟨#[]⟩:fi),(⟨#[]⟩:fi),()),b.1,())) (bd (aK.f n t) fun c=>bd (aK.f n u) fun d=>bd (ah.f n c.1) fun e=>br e.1 (bd (au.f n) fun g=>bd (af.f n g.1) fun h=>bd (au.f n) fun i=>bd (af.f n i.1) fun j=>some (h.1,j.1,0,())) (bd (ah.f n d.1) fun g=>br g.1 (bd (au.f n) fun h=>bd (af.f n h.1) fun i=>bd (au.f n) fun j=>bd (af.f n j.1) fun k=>some (i.1,k.1,0,())) (bd (fH.f n (⟨#[49]⟩:fi)) fun h=>bd (bW.f n d.1.2.1 h.1) fun i=>bd (fE.f n c.1.2.1 i.1) fun j=>bd (bW.f n c.1.1 (⟨#[49]⟩:fi)) fun k=>bd (iO.f n d.1.1 k.1) fun l=>bd (ah.f n (c.1.1,j.1,())) fun m=>br m.1 (bd (au.f n) fun o=>bd (au.f n) fun p=>bd (af.f n o.1) fun q=>bd (af.f n p.1) fun r=>some (q.1,r.1,0,())) (bd (ah.f n (l.1,d.1.2.1,())) fun o=>br o.1 (bd (au.f n) fun p=>bd (au.f n) fun q=>bd (af.f n p.1) fun r=>bd (af.f n q.1) fun s=>some (r.1,s.1,0,())) (bd (af.f n (c.1.1,j.1,())) fun p=>bd (af.f n (l.1,d.1.2.1,())) fun q=>some (p.1,q.1,0,()))))))) (bd (aK.f n t) fun c=>bd (aK.f n u) fun d=>bd (ah.f n c.1) fun e=>br e.1 (bd (au.f n) fun g=>bd (af.f n g.1) fun h=>bd (au.f n) fun i=>bd (af.f n i.1) fun j=>some (h.1,j.1,0,())) (bd (ah.f n d.1) fun g=>br g.1 (bd (au.f n) fun h=>bd (af.f n h.1) fun i=>bd (au.f n) fun j=>bd (af.f n j.1) fun k=>some (i.1,k.1,0,())) (bd (fH.f n (⟨#[49]⟩:fi)) fun h=>bd (bW.f n d.1.2.1 h.1) fun i=>bd (fE.f n c.1.2.1 i.1) fun j=>bd (bW.f n c.1.1 (⟨#[49]⟩:fi)) fun k=>bd (iO.f n d.1.1 k.1) fun l=>bd (ah.f n (c.1.1,j.1,())) fun m=>br m.1 (bd (au.f n) fun o=>bd (au.f n) fun p=>bd (af.f n o.1) fun q=>bd (af.f n p.1) fun r=>some (q.1,r.1,0,())) (bd (ah.f n (l.1,d.1.2.1,())) fun o=>br o.1 (bd (au.f n) fun p=>bd (au.f n) fun q=>bd (af.f n p.1) fun r=>bd (af.f n q.1) fun s=>some (r.1,s.1,0,())) (bd (af.f n (c.1.1,j.1,())) fun p=>bd (af.f n (l.1,d.1.2.1,())) fun q=>some (p.1,q.1,0,())))))))) (br (v==5) (bd (bC.f n t) fun a=>br (a.1 != 0) (br (a.1 != 0) (some ((false,(⟨#[]⟩:fi),(⟨#[]⟩:fi),()),(false,(⟨#[]⟩:fi),(⟨#[]⟩:fi),()),a.1,())) (bd (aK.f n t) fun b=>bd (aK.f n u) fun c=>bd (ah.f n b.1) fun d=>br d.1 (bd (au.f n) fun e=>bd (af.f n e.1) fun g=>bd (au.f n) fun h=>bd (af.f n h.1) fun i=>some (g.1,i.1,0,())) (bd (ah.f n c.1) fun e=>br e.1 (bd (au.f n) fun g=>bd (af.f n g.1) fun h=>bd (au.f n) fun i=>bd (af.f n i.1) fun j=>some (h.1,j.1,0,())) (bd (fH.f n (⟨#[48]⟩:fi)) fun g=>bd (bW.f n c.1.2.1 g.1) fun h=>bd (fE.f n b.1.2.1 h.1) fun i=>bd (bW.f n b.1.1 (⟨#[48]⟩:fi)) fun j=>bd (iO.f n c.1.1 j.1) fun k=>bd (ah.f n (b.1.1,i.1,())) fun l=>br l.1 (bd (au.f n) fun m=>bd (au.f n) fun o=>bd (af.f n m.1) fun p=>bd (af.f n o.1) fun q=>some (p.1,q.1,0,())) (bd (ah.f n (k.1,c.1.2.1,())) fun m=>br m.1 (bd (au.f n) fun o=>bd (au.f n) fun p=>bd (af.f n o.1) fun q=>bd (af.f n p.1) fun r=>some (q.1,r.1,0,())) (bd (af.f n (b.1.1,i.1,())) fun o=>bd (af.f n (k.1,c.1.2.1,())) fun p=>some (o.1,p.1,0,()))))))) (bd (bC.f n u) fun b=>br (b.1 != 0) (br (b.1 != 0) (some ((false,(⟨#[]⟩:fi),(⟨#[]⟩:fi),()),(false,(⟨#[]⟩:fi),(⟨#[]⟩:fi),()),b.1,())) (bd (aK.f n t) fun c=>bd (aK.f n u) fun d=>bd (ah.f n c.1) fun e=>br e.1 (bd (au.f n) fun g=>bd (af.f n g.1) fun h=>bd (au.f n) fun i=>bd (af.f n i.1) fun j=>some (h.1,j.1,0,())) (bd (ah.f n d.1) fun g=>br g.1 (bd (au.f n) fun h=>bd (af.f n h.1) fun i=>bd (au.f n) fun j=>bd (af.f n j.1) fun k=>some (i.1,k.1,0,())) (bd (fH.f n (⟨#[48]⟩:fi)) fun h=>bd (bW.f n d.1.2.1 h.1) fun i=>bd (fE.f n c.1.2.1 i.1) fun j=>bd (bW.f n c.1.1 (⟨#[48]⟩:fi)) fun k=>bd (iO.f n d.1.1 k.1) fun l=>bd (ah.f n (c.1.1,j.1,())) fun m=>br m.1 (bd (au.f n) fun o=>bd (au.f n) fun p=>bd (af.f n o.1) fun q=>bd (af.f n p.1) fun r=>some (q.1,r.1,0,())) (bd (ah.f n (l.1,d.1.2.1,())) fun o=>br o.1 (bd (au.f n) fun p=>bd (au.f n) fun q=>bd (af.f n p.1) fun r=>bd (af.f n q.1) fun s=>some (r.1,s.1,0,())) (bd (af.f n (c.1.1,j.1,())) fun p=>bd (af.f n (l.1,d.1.2.1,())) fun q=>some (p.1,q.1,0,()))))))) (bd (aK.f n t) fun c=>bd (aK.f n u) fun d=>bd (ah.f n c.1) fun e=>br e.1 (bd (au.f n) fun g=>bd (af.f n g.1) fun h=>bd (au.f n) fun i=>bd (af.f n i.1) fun j=>some (h.1,j.1,0,())) (bd (ah.f n d.1) fun g=>br g.1 (bd (au.f n) fun h=>bd (af.f n h.1) fun i=>bd (au.f n) fun j=>bd (af.f n j.1) fun k=>some (i.1,k.1,0,())) (bd (fH.f n (⟨#[48]⟩:fi)) fun h=>bd (bW.f n d.1.2.1 h.1) fun i=>bd (fE.f n c.1.2.1 i.1) fun j=>bd (bW.f n c.1.1 (⟨#[48]⟩:fi)) fun k=>bd (iO.f n d.1.1 k.1) fun l=>bd (ah.f n (c.1.1,j.1,())) fun m=>br m.1 (bd (au.f n) fun o=>bd (au.f n) fun p=>bd (af.f n o.1) fun q=>bd (af.f n p.1) fun r=>some (q.1,r.1,0,())) (bd (ah.f n (l.1,d.1.2.1,())) fun o=>br o.1 (bd (au.f n) fun p=>bd (au.f n) fun q=>bd (af.f n p.1) fun r=>bd (af.f n q.1) fun s=>some (r.1,s.1,0,())) (bd (af.f n (c.1.1,j.1,())) fun p=>bd (af.f n (l.1,d.1.2.1,())) fun q=>some (p.1,q.1,0,())))))))) (br (v==3) (bd (bC.f n t) fun a=>br (a.1 != 0) (br (a.1 != 0) (some ((false,(⟨#[]⟩:fi),(⟨#[]⟩:fi),()),(false,(⟨#[]⟩:fi),(⟨#[]⟩:fi),()),a.1,())) (bd (aK.f n t) fun b=>bd (aK.f n u) fun c=>bd (ah.f n b.1) fun d=>br d.1 (bd (au.f n) fun e=>bd (af.f n e.1) fun g=>bd (au.f n) fun h=>bd (af.f n h.1) fun i=>some (g.1,i.1,0,())) (bd (ah.f n c.1) fun e=>br e.1 (bd (au.f n) fun g=>bd (af.f n g.1) fun h=>bd (au.f n) fun i=>bd (af.f n i.1) fun j=>some (h.1,j.1,0,())) (bd (iW.f n b.1 c.1) fun g=>bd (ah.f n g.1) fun h=>br h.1 (bd (au.f n) fun i=>bd (au.f n) fun j=>bd (af.f n i.1) fun k=>bd (af.f n j.1) fun l=>some (k.1,l.1,0,())) (bd (ah.f n g.2.1) fun i=>br i.1 (bd (au.f n) fun j=>bd (au.f n) fun k=>bd (af.f n j.1) fun l=>bd (af.f n k.1) fun m=>some (l.1,m.1,0,())) (bd (af.f n g.1) fun j=>bd (af.f n g.2.1) fun k=>some (j.1,k.1,0,()))))))) (bd (bC.f n u) fun b=>br (b.1 != 0) (br (b.1 != 0) (some ((false,(⟨#[]⟩:fi),(⟨#[]⟩:fi),()),(false,(⟨#[]⟩:fi),(⟨#[]⟩:fi),()),b.1,())) (bd (aK.f n t) fun c=>bd (aK.f n u) fun d=>bd (ah.f n c.1) fun e=>br e.1 (bd (au.f n) fun g=>bd (af.f n g.1) fun h=>bd (au.f n) fun i=>bd (af.f n i.1) fun j=>some (h.1,j.1,0,())) (bd (ah.f n d.1) fun g=>br g.1 (bd (au.f n) fun h=>bd (af.f n h.1) fun i=>bd (au.f n) fun j=>bd (af.f n j.1) fun k=>some (i.1,k.1,0,())) (bd (iW.f n c.1 d.1) fun h=>bd (ah.f n h.1) fun i=>br i.1 (bd (au.f n) fun j=>bd (au.f n) fun k=>bd (af.f n j.1) fun l=>bd (af.f n k.1) fun m=>some (l.1,m.1,0,())) (bd (ah.f n h.2.1) fun j=>br j.1 (bd (au.f n) fun k=>bd (au.f n) fun l=>bd (af.f n k.1) fun m=>bd (af.f n l.1) fun o=>some (m.1,o.1,0,())) (bd (af.f n h.1) fun k=>bd (af.f n h.2.1) fun l=>some (k.1,l.1,0,()))))))) (bd (aK.f n t) fun c=>bd (aK.f n u) fun d=>bd (ah.f n c.1) fun e=>br e.1 (bd (au.f n) fun g=>bd (af.f n g.1) fun h=>bd (au.f n) fun i=>bd (af.f n i.1) fun j=>some (h.1,j.1,0,())) (bd (ah.f n d.1) fun g=>br g.1 (bd (au.f n) fun h=>bd (af.f n h.1) fun i=>bd (au.f n) fun j=>bd (af.f n j.1) fun k=>some (i.1,k.1,0,())) (bd (iW.f n c.1 d.1) fun h=>bd (ah.f n h.1) fun i=>br i.1 (bd (au.f n) fun j=>bd (au.f n) fun k=>bd (af.f n j.1) fun l=>bd (af.f n k.1) fun m=>some (l.1,m.1,0,())) (bd (ah.f n h.2.1) fun j=>br j.1 (bd (au.f n) fun k=>bd (au.f n) fun l=>bd (af.f n k.1) fun m=>bd (af.f n l.1) fun o=>some (m.1,o.1,0,())) (bd (af.f n h.1) fun k=>bd (af.f n h.2.1) fun l=>some (k.1,l.1,0,())))))))) (some ((false,(⟨#[]⟩:fi),(⟨#[]⟩:fi),()),(false,(⟨#[]⟩:fi),(⟨#[]⟩:fi),()),1,())))))
def E(n:Nat):Entry:=⟨[(.int .i64),yI,yI],[yI,yI,(.int .i64)],fun x=>f n x.1 x.2.1 x.2.2.1⟩
theorem ok(n:Nat):Ok 78 (E n):=fp n (tC (bC.ok n) (tC (aK.ok n) (tC (ah.ok n) (tC (au.ok n) (tC (af.ok n) (tC (iO.ok n) (tC (fE.ok n) (tC (bW.ok n) (tC (fH.ok n) (tC (jP.ok n) (tC (iW.ok n) tN))))))))))) fun x=>θ
end qj
end
end Go.Q
namespace Go.Q
open Go Go.RowKit
open Go.Rx (br bd sIdx sCat sCut iQuo iRem iShl)
noncomputable section
namespace oC
def f(n:Nat)(a:TI)(b:TI):fo Bool:=br (decide ((a.2.1.size:Int)≤450)) (br (decide ((a.2.2.1.size:Int)≤450)) (br (decide ((b.2.1.size:Int)≤450)) (some ((decide ((b.2.2.1.size:Int)≤450)),())) (some (false,()))) (some (false,()))) (some (false,()))
def E(n:Nat):Entry:=⟨[yI,yI],[.bool],fun x=>f n x.1 x.2.1⟩
theorem ok(n:Nat):Ok 31 (E n):=fp n tN fun x=>θ
end oC
namespace jm
def f(n:Nat)(a:fi):fo Int:=br (a.toList==(⟨#[]⟩:fi).toList) (some (0,())) (bd (fF.f n a) fun r1=>some (r1.1,()))
def E(n:Nat):Entry:=⟨[.str],[(.int .i64)],fun x=>f n x.1⟩
theorem ok(n:Nat):Ok 132 (E n):=fp n (tC (fF.ok n) tN) fun x=>θ
end jm
namespace kT
def f(n:Nat)(d:TI):fo Int:=br d.1 (br (!(d.2.1.toList==(⟨#[]⟩:fi).toList)) (some (3,())) (br (!(d.2.2.1.toList==(⟨#[]⟩:fi).toList)) (some (3,())) (bd (jm.f n d.2.1) fun a=>br (a.1 != 0) (some (a.1,())) (bd (jm.f n d.2.2.1) fun b=>br (b.1 != 0) (some (b.1,())) (br (!(d.2.1.toList==(⟨#[]⟩:fi).toList)) (br (!(d.2.2.1.toList==(⟨#[]⟩:fi).toList)) (bd (aO.f n d.2.2.1 d.2.1) fun c=>br c.1 (some (14,())) (some (0,()))) (some (0,()))) (some (0,()))))))) (bd (jm.f n d.2.1) fun a=>br (a.1 != 0) (some (a.1,())) (bd (jm.f n d.2.2.1) fun b=>br (b.1 != 0) (some (b.1,())) (br (!(d.2.1.toList==(⟨#[]⟩:fi).toList)) (br (!(d.2.2.1.toList==(⟨#[]⟩:fi).toList)) (bd (aO.f n d.2.2.1 d.2.1) fun c=>br c.1 (some (14,())) (some (0,()))) (some (0,()))) (some (0,())))))
def E(n:Nat):Entry:=⟨[yI],[(.int .i64)],fun x=>f n x.1⟩
theorem ok(n:Nat):Ok 80 (E n):=fp n (tC (jm.ok n) (tC (aO.ok n) tN)) fun x=>θ
end kT
namespace aA
def f(n:Nat)  : fo TI:=some ((true,(⟨#[]⟩:fi),(⟨#[]⟩:fi),()),())
def E(n:Nat):Entry:=⟨[],[yI],fun x=>f n⟩
theorem ok(n:Nat):Ok 143 (E n):=fp n tN fun x=>θ
end aA
namespace pF
def f(n:Nat)(c:TI)(d:fi):fo Bool:=br (!c.1) (br (c.2.1.toList==(⟨#[]⟩:fi).toList) (br (c.2.2.1.toList==(⟨#[]⟩:fi).toList) (some (true,())) (bd (aO.f n c.2.2.1 d) fun a=>some ((!a.1),()))) (bd (aO.f n d c.2.1) fun a=>br (!a.1) (br (c.2.2.1.toList==(⟨#[]⟩:fi).toList) (some (true,())) (bd (aO.f n c.2.2.1 d) fun b=>some ((!b.1),()))) (some (false,())))) (some (false,()))
def E(n:Nat):Entry:=⟨[yI,.str],[.bool],fun x=>f n x.1 x.2.1⟩
theorem ok(n:Nat):Ok 136 (E n):=fp n (tC (aO.ok n) tN) fun x=>θ
end pF
namespace iF
def f(n:Nat)(a:fi):fo fi:=br (!(a.toList==(⟨#[]⟩:fi).toList)) (bd (bI.f n a) fun r1=>br (decide (r1.1 > 100)) (some ((⟨#[]⟩:fi),())) (some (a,()))) (some (a,()))
def E(n:Nat):Entry:=⟨[.str],[.str],fun x=>f n x.1⟩
theorem ok(n:Nat):Ok 245 (E n):=fp n (tC (bI.ok n) tN) fun x=>θ
end iF
namespace ax
def f(n:Nat)(d:fi)(e:fi):fo TI:=br (!(d.toList==(⟨#[]⟩:fi).toList)) (br (!(e.toList==(⟨#[]⟩:fi).toList)) (bd (aO.f n e d) fun a=>br a.1 (bd (aA.f n) fun b=>some (b.1,())) (bd (iF.f n d) fun b=>bd (iF.f n e) fun c=>some ((false,b.1,c.1,()),()))) (bd (iF.f n d) fun a=>bd (iF.f n e) fun b=>some ((false,a.1,b.1,()),()))) (bd (iF.f n d) fun a=>bd (iF.f n e) fun b=>some ((false,a.1,b.1,()),()))
def E(n:Nat):Entry:=⟨[.str,.str],[yI],fun x=>f n x.1 x.2.1⟩
theorem ok(n:Nat):Ok 139 (E n):=fp n (tC (aO.ok n) (tC (aA.ok n) (tC (iF.ok n) tN))) fun x=>θ
end ax
namespace jR
def f(n:Nat)(a:fi)(b:fi):fo fi:=br (a.toList==(⟨#[]⟩:fi).toList) (some ((⟨#[]⟩:fi),())) (br (b.toList==(⟨#[]⟩:fi).toList) (some ((⟨#[]⟩:fi),())) (bd (aO.f n b a) fun r1=>br r1.1 (some (b,())) (some (a,()))))
def E(n:Nat):Entry:=⟨[.str,.str],[.str],fun x=>f n x.1 x.2.1⟩
theorem ok(n:Nat):Ok 255 (E n):=fp n (tC (aO.ok n) tN) fun x=>θ
end jR
namespace dQ
def f(n:Nat)(a:fi)(b:fi):fo fi:=br (a.toList==(⟨#[]⟩:fi).toList) (some (b,())) (br (b.toList==(⟨#[]⟩:fi).toList) (some (a,())) (bd (jR.f n a b) fun r1=>some (r1.1,())))
def E(n:Nat):Entry:=⟨[.str,.str],[.str],fun x=>f n x.1 x.2.1⟩
theorem ok(n:Nat):Ok 145 (E n):=fp n (tC (jR.ok n) tN) fun x=>θ
end dQ
namespace ja
def f(n:Nat)(a:fi)(b:fi):fo fi:=br (a.toList==(⟨#[]⟩:fi).toList) (some ((⟨#[]⟩:fi),())) (br (b.toList==(⟨#[]⟩:fi).toList) (some ((⟨#[]⟩:fi),())) (bd (aO.f n a b) fun r1=>br r1.1 (some (b,())) (some (a,()))))
def E(n:Nat):Entry:=⟨[.str,.str],[.str],fun x=>f n x.1 x.2.1⟩
theorem ok(n:Nat):Ok 256 (E n):=fp n (tC (aO.ok n) tN) fun x=>θ
end ja
namespace fC
def f(n:Nat)(a:fi)(b:fi):fo fi:=br (a.toList==(⟨#[]⟩:fi).toList) (some (b,())) (br (b.toList==(⟨#[]⟩:fi).toList) (some (a,())) (bd (ja.f n a b) fun r1=>some (r1.1,())))
def E(n:Nat):Entry:=⟨[.str,.str],[.str],fun x=>f n x.1 x.2.1⟩
theorem ok(n:Nat):Ok 147 (E n):=fp n (tC (ja.ok n) tN) fun x=>θ
end fC
namespace gI
def f(n:Nat)(d:TI)(e:TI):fo TI:=br d.1 (bd (aA.f n) fun a=>some (a.1,())) (br e.1 (bd (aA.f n) fun a=>some (a.1,())) (bd (fC.f n d.2.1 e.2.1) fun a=>bd (dQ.f n d.2.2.1 e.2.2.1) fun b=>bd (ax.f n a.1 b.1) fun c=>some (c.1,())))
def E(n:Nat):Entry:=⟨[yI,yI],[yI],fun x=>f n x.1 x.2.1⟩
theorem ok(n:Nat):Ok 141 (E n):=fp n (tC (ax.ok n) (tC (aA.ok n) (tC (dQ.ok n) (tC (fC.ok n) tN)))) fun x=>θ
end gI
namespace oD
def f(n:Nat)(a:TI):fo Bool:=br (!a.1) (br (!(a.2.1.toList==(⟨#[]⟩:fi).toList)) (some ((a.2.1.toList==a.2.2.1.toList),())) (some (false,()))) (some (false,()))
def E(n:Nat):Entry:=⟨[yI],[.bool],fun x=>f n x.1⟩
theorem ok(n:Nat):Ok 254 (E n):=fp n tN fun x=>θ
end oD
namespace jZ
def f(n:Nat)(e:TI)(g:TI):fo TI:=bd (oD.f n g) fun a=>br (!a.1) (some (e,())) (br e.1 (some (e,())) (br (e.2.1.toList==g.2.1.toList) (bd (cO.f n e.2.1 (⟨#[49]⟩:fi)) fun b=>br (e.2.2.1.toList==g.2.1.toList) (bd (aT.f n e.2.2.1 (⟨#[49]⟩:fi)) fun c=>bd (ax.f n b.1 c.1) fun d=>some (d.1,())) (bd (ax.f n b.1 e.2.2.1) fun c=>some (c.1,()))) (br (e.2.2.1.toList==g.2.1.toList) (bd (aT.f n e.2.2.1 (⟨#[49]⟩:fi)) fun b=>bd (ax.f n e.2.1 b.1) fun c=>some (c.1,())) (bd (ax.f n e.2.1 e.2.2.1) fun b=>some (b.1,())))))
def E(n:Nat):Entry:=⟨[yI,yI],[yI],fun x=>f n x.1 x.2.1⟩
theorem ok(n:Nat):Ok 144 (E n):=fp n (tC (ax.ok n) (tC (cO.ok n) (tC (aT.ok n) (tC (oD.ok n) tN)))) fun x=>θ
end jZ
namespace fK
def f(n:Nat)(a:fi)(b:fi):fo fi:=br (a.toList==(⟨#[]⟩:fi).toList) (some ((⟨#[]⟩:fi),())) (br (b.toList==(⟨#[]⟩:fi).toList) (some ((⟨#[]⟩:fi),())) (bd (cO.f n a b) fun r1=>some (r1.1,())))
def E(n:Nat):Entry:=⟨[.str,.str],[.str],fun x=>f n x.1 x.2.1⟩
theorem ok(n:Nat):Ok 146 (E n):=fp n (tC (cO.ok n) tN) fun x=>θ
end fK
namespace lm
def f(n:Nat)(u:Int)(s:TI)(t:TI):Option (TI×TI×Unit):=br s.1 (bd (aA.f n) fun a=>bd (aA.f n) fun b=>some (a.1,b.1,())) (br t.1 (bd (aA.f n) fun a=>bd (aA.f n) fun b=>some (a.1,b.1,())) (bd (gI.f n s t) fun a=>bd (gI.f n s t) fun b=>br (u==3) (bd (jZ.f n s t) fun c=>bd (jZ.f n t s) fun d=>br (u==4) (bd (fK.f n t.2.2.1 (⟨#[45,49]⟩:fi)) fun e=>bd (dQ.f n s.2.2.1 e.1) fun g=>bd (ax.f n s.2.1 g.1) fun h=>bd (fK.f n s.2.1 (⟨#[49]⟩:fi)) fun i=>bd (fC.f n t.2.1 i.1) fun j=>bd (ax.f n j.1 t.2.2.1) fun k=>br (u==5) (bd (dQ.f n s.2.2.1 t.2.2.1) fun l=>bd (ax.f n s.2.1 l.1) fun m=>bd (fC.f n t.2.1 s.2.1) fun o=>bd (ax.f n o.1 t.2.2.1) fun p=>br m.1.1 (bd (aA.f n) fun q=>bd (aA.f n) fun r=>some (q.1,r.1,())) (br p.1.1 (bd (aA.f n) fun q=>bd (aA.f n) fun r=>some (q.1,r.1,())) (some (m.1,p.1,())))) (br h.1.1 (bd (aA.f n) fun l=>bd (aA.f n) fun m=>some (l.1,m.1,())) (br k.1.1 (bd (aA.f n) fun l=>bd (aA.f n) fun m=>some (l.1,m.1,())) (some (h.1,k.1,()))))) (br (u==5) (bd (dQ.f n s.2.2.1 t.2.2.1) fun e=>bd (ax.f n s.2.1 e.1) fun g=>bd (fC.f n t.2.1 s.2.1) fun h=>bd (ax.f n h.1 t.2.2.1) fun i=>br g.1.1 (bd (aA.f n) fun j=>bd (aA.f n) fun k=>some (j.1,k.1,())) (br i.1.1 (bd (aA.f n) fun j=>bd (aA.f n) fun k=>some (j.1,k.1,())) (some (g.1,i.1,())))) (br c.1.1 (bd (aA.f n) fun e=>bd (aA.f n) fun g=>some (e.1,g.1,())) (br d.1.1 (bd (aA.f n) fun e=>bd (aA.f n) fun g=>some (e.1,g.1,())) (some (c.1,d.1,())))))) (br (u==4) (bd (fK.f n t.2.2.1 (⟨#[45,49]⟩:fi)) fun c=>bd (dQ.f n s.2.2.1 c.1) fun d=>bd (ax.f n s.2.1 d.1) fun e=>bd (fK.f n s.2.1 (⟨#[49]⟩:fi)) fun g=>bd (fC.f n t.2.1 g.1) fun h=>bd (ax.f n h.1 t.2.2.1) fun i=>br (u==5) (bd (dQ.f n s.2.2.1 t.2.2.1) fun j=>bd (ax.f n s.2.1 j.1) fun k=>bd (fC.f n t.2.1 s.2.1) fun l=>bd (ax.f n l.1 t.2.2.1) fun m=>br k.1.1 (bd (aA.f n) fun o=>bd (aA.f n) fun p=>some (o.1,p.1,())) (br m.1.1 (bd (aA.f n) fun o=>bd (aA.f n) fun p=>some (o.1,p.1,())) (some (k.1,m.1,())))) (br e.1.1 (bd (aA.f n) fun j=>bd (aA.f n) fun k=>some (j.1,k.1,())) (br i.1.1 (bd (aA.f n) fun j=>bd (aA.f n) fun k=>some (j.1,k.1,())) (some (e.1,i.1,()))))) (br (u==5) (bd (dQ.f n s.2.2.1 t.2.2.1) fun c=>bd (ax.f n s.2.1 c.1) fun d=>bd (fC.f n t.2.1 s.2.1) fun e=>bd (ax.f n e.1 t.2.2.1) fun g=>br d.1.1 (bd (aA.f n) fun h=>bd (aA.f n) fun i=>some (h.1,i.1,())) (br g.1.1 (bd (aA.f n) fun h=>bd (aA.f n) fun i=>some (h.1,i.1,())) (some (d.1,g.1,())))) (br a.1.1 (bd (aA.f n) fun c=>bd (aA.f n) fun d=>some (c.1,d.1,())) (br b.1.1 (bd (aA.f n) fun c=>bd (aA.f n) fun d=>some (c.1,d.1,())) (some (a.1,b.1,()))))))))
def E(n:Nat):Entry:=⟨[(.int .i64),yI,yI],[yI,yI],fun x=>f n x.1 x.2.1 x.2.2.1⟩
theorem ok(n:Nat):Ok 85 (E n):=fp n (tC (ax.ok n) (tC (gI.ok n) (tC (aA.ok n) (tC (jZ.ok n) (tC (dQ.ok n) (tC (fK.ok n) (tC (fC.ok n) tN))))))) fun x=>θ
end lm
namespace jX
def f(n:Nat)(a:fi):fo fi:=br (a.toList==(⟨#[]⟩:fi).toList) (some ((⟨#[]⟩:fi),())) (bd (bg.f n a) fun r1=>some (r1.1,()))
def E(n:Nat):Entry:=⟨[.str],[.str],fun x=>f n x.1⟩
theorem ok(n:Nat):Ok 258 (E n):=fp n (tC (bg.ok n) tN) fun x=>θ
end jX
namespace bG
def f(n:Nat)(d:TI):fo TI:=br d.1 (some (d,())) (bd (jX.f n d.2.2.1) fun a=>bd (jX.f n d.2.1) fun b=>bd (ax.f n a.1 b.1) fun c=>some (c.1,()))
def E(n:Nat):Entry:=⟨[yI],[yI],fun x=>f n x.1⟩
theorem ok(n:Nat):Ok 151 (E n):=fp n (tC (ax.ok n) (tC (jX.ok n) tN)) fun x=>θ
end bG
namespace kF
def f(n:Nat)(d:TI)(e:TI):fo TI:=br d.1 (bd (aA.f n) fun a=>some (a.1,())) (br e.1 (bd (aA.f n) fun a=>some (a.1,())) (bd (fK.f n d.2.1 e.2.1) fun a=>bd (fK.f n d.2.2.1 e.2.2.1) fun b=>bd (ax.f n a.1 b.1) fun c=>some (c.1,())))
def E(n:Nat):Entry:=⟨[yI,yI],[yI],fun x=>f n x.1 x.2.1⟩
theorem ok(n:Nat):Ok 153 (E n):=fp n (tC (ax.ok n) (tC (aA.ok n) (tC (fK.ok n) tN))) fun x=>θ
end kF
namespace mW
def f(n:Nat)(a:TI)(b:TI):fo TI:=bd (bG.f n b) fun r1=>bd (kF.f n a r1.1) fun r2=>some (r2.1,())
def E(n:Nat):Entry:=⟨[yI,yI],[yI],fun x=>f n x.1 x.2.1⟩
theorem ok(n:Nat):Ok 155 (E n):=fp n (tC (bG.ok n) (tC (kF.ok n) tN)) fun x=>θ
end mW
namespace jW
def f(n:Nat)(a:fi):fo TI:=bd (ax.f n a a) fun r1=>some (r1.1,())
def E(n:Nat):Entry:=⟨[.str],[yI],fun x=>f n x.1⟩
theorem ok(n:Nat):Ok 260 (E n):=fp n (tC (ax.ok n) tN) fun x=>θ
end jW
end
end Go.Q
