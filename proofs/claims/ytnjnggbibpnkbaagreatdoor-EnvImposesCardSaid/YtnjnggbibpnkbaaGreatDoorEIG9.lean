import Derived.Test.YtnjnggbibpnkbaaGreatDoorEIG6
import Derived.Test.YtnjnggbibpnkbaaGreatDoorEIG8
set_option linter.all false
set_option maxRecDepth 100000
set_option maxHeartbeats 40000000
namespace Go.Q
open Go Go.RowKit
open Go.Rx (br bd sIdx sCat sCut iQuo iRem iShl)
noncomputable section
namespace oV
def f(n:Nat)(a:TI)(b:TI):fm Int:=bd (bJ.f n a) fun r1=>br (r1.1 != 0) (some (r1.1,())) (bd (fP.f n b) fun r2=>some (r2.1,()))
def E(n:Nat):Entry:=⟨[yI,yI],[(.int .i64)],fun x=>f n x.1 x.2.1⟩
theorem ok(n:Nat):Ok 50 (E n):=fo n (tC (bJ.ok n) (tC (fP.ok n) tN)) fun x=>θ
end oV
namespace kH
def f(n:Nat)  : fm TV:=some (((true,(⟨#[]⟩:fg),(⟨#[]⟩:fg),()),(true,(⟨#[]⟩:fg),(⟨#[]⟩:fg),()),()),())
def E(n:Nat):Entry:=⟨[],[yV],fun x=>f n⟩
theorem ok(n:Nat):Ok 125 (E n):=fo n tN fun x=>θ
end kH
namespace oN
def f(n:Nat)(a:fg):fm TV:=some (((false,a,a,()),(false,(⟨#[48]⟩:fg),a,()),()),())
def E(n:Nat):Entry:=⟨[.str],[yV],fun x=>f n x.1⟩
theorem ok(n:Nat):Ok 142 (E n):=fo n tN fun x=>θ
end oN
namespace dQ
def f(n:Nat)(a:fg):fm fg:=bd (strings_TrimPrefix.f n a (⟨#[45]⟩:fg)) fun r1=>br (decide ((r1.1.size:Int) > 100)) (some ((⟨#[]⟩:fg),())) (some (a,()))
def E(n:Nat):Entry:=⟨[.str],[.str],fun x=>f n x.1⟩
theorem ok(n:Nat):Ok 146 (E n):=fo n (tC (strings_TrimPrefix.ok n) tN) fun x=>θ
end dQ
namespace dU
def f(n:Nat)(g:TI)(h:TI):fm TV:=br g.1 (bd (kH.f n) fun a=>some (a.1,())) (br h.1 (bd (kH.f n) fun a=>some (a.1,())) (br (h.2.1.toList==(⟨#[48]⟩:fg).toList) (bd (qE.f n g h.2.2.1) fun a=>br (!a.1) (bd (kH.f n) fun b=>some (b.1,())) (bd (oN.f n h.2.2.1) fun b=>some (b.1,()))) (br (!(g.2.1.toList==(⟨#[]⟩:fg).toList)) (bd (oD.f n h g.2.1) fun a=>br (!(g.2.2.1.toList==(⟨#[]⟩:fg).toList)) (bd (jZ.f n h g.2.2.1) fun b=>br (!(a.1.toList==(⟨#[]⟩:fg).toList)) (br (!(b.1.toList==(⟨#[]⟩:fg).toList)) (bd (iU.f n a.1 b.1) fun c=>br (decide (c.1 > 0)) (bd (kH.f n) fun d=>some (d.1,())) (br (c.1==0) (bd (oN.f n a.1) fun d=>some (d.1,())) (bd (dQ.f n a.1) fun d=>bd (dQ.f n b.1) fun e=>some (((false,d.1,e.1,()),h,()),())))) (bd (dQ.f n a.1) fun c=>bd (dQ.f n b.1) fun d=>some (((false,c.1,d.1,()),h,()),()))) (bd (dQ.f n a.1) fun c=>bd (dQ.f n b.1) fun d=>some (((false,c.1,d.1,()),h,()),()))) (br (!(a.1.toList==(⟨#[]⟩:fg).toList)) (br (!(g.2.2.1.toList==(⟨#[]⟩:fg).toList)) (bd (iU.f n a.1 g.2.2.1) fun b=>br (decide (b.1 > 0)) (bd (kH.f n) fun c=>some (c.1,())) (br (b.1==0) (bd (oN.f n a.1) fun c=>some (c.1,())) (bd (dQ.f n a.1) fun c=>bd (dQ.f n g.2.2.1) fun d=>some (((false,c.1,d.1,()),h,()),())))) (bd (dQ.f n a.1) fun b=>bd (dQ.f n g.2.2.1) fun c=>some (((false,b.1,c.1,()),h,()),()))) (bd (dQ.f n a.1) fun b=>bd (dQ.f n g.2.2.1) fun c=>some (((false,b.1,c.1,()),h,()),())))) (br (!(g.2.2.1.toList==(⟨#[]⟩:fg).toList)) (bd (jZ.f n h g.2.2.1) fun a=>br (!(g.2.1.toList==(⟨#[]⟩:fg).toList)) (br (!(a.1.toList==(⟨#[]⟩:fg).toList)) (bd (iU.f n g.2.1 a.1) fun b=>br (decide (b.1 > 0)) (bd (kH.f n) fun c=>some (c.1,())) (br (b.1==0) (bd (oN.f n g.2.1) fun c=>some (c.1,())) (bd (dQ.f n g.2.1) fun c=>bd (dQ.f n a.1) fun d=>some (((false,c.1,d.1,()),h,()),())))) (bd (dQ.f n g.2.1) fun b=>bd (dQ.f n a.1) fun c=>some (((false,b.1,c.1,()),h,()),()))) (bd (dQ.f n g.2.1) fun b=>bd (dQ.f n a.1) fun c=>some (((false,b.1,c.1,()),h,()),()))) (br (!(g.2.1.toList==(⟨#[]⟩:fg).toList)) (br (!(g.2.2.1.toList==(⟨#[]⟩:fg).toList)) (bd (iU.f n g.2.1 g.2.2.1) fun a=>br (decide (a.1 > 0)) (bd (kH.f n) fun b=>some (b.1,())) (br (a.1==0) (bd (oN.f n g.2.1) fun b=>some (b.1,())) (bd (dQ.f n g.2.1) fun b=>bd (dQ.f n g.2.2.1) fun c=>some (((false,b.1,c.1,()),h,()),())))) (bd (dQ.f n g.2.1) fun a=>bd (dQ.f n g.2.2.1) fun b=>some (((false,a.1,b.1,()),h,()),()))) (bd (dQ.f n g.2.1) fun a=>bd (dQ.f n g.2.2.1) fun b=>some (((false,a.1,b.1,()),h,()),())))))))
def E(n:Nat):Entry:=⟨[yI,yI],[yV],fun x=>f n x.1 x.2.1⟩
theorem ok(n:Nat):Ok 51 (E n):=fo n (tC (kH.ok n) (tC (qE.ok n) (tC (oN.ok n) (tC (oD.ok n) (tC (jZ.ok n) (tC (iU.ok n) (tC (dQ.ok n) tN))))))) fun x=>θ
end dU
namespace iK
def f(n:Nat)(d:TV):fm Int:=bd (oV.f n d.1 d.2.1) fun a=>br (a.1 != 0) (some (a.1,())) (bd (dU.f n d.1 d.2.1) fun b=>bd (some (!(((b.1.1.1==d.1.1)&&((b.1.1.2.1==d.1.2.1)&&((b.1.1.2.2.1==d.1.2.2.1)&&true)))&&(((b.1.2.1.1==d.2.1.1)&&((b.1.2.1.2.1==d.2.1.2.1)&&((b.1.2.1.2.2.1==d.2.1.2.2.1)&&true)))&&true)))) fun c=>br c (some (3,())) (some (0,())))
def E(n:Nat):Entry:=⟨[yV],[(.int .i64)],fun x=>f n x.1⟩
theorem ok(n:Nat):Ok 27 (E n):=fo n (tC (oV.ok n) (tC (dU.ok n) tN)) fun x=>θ
end iK
namespace uj
def f(n:Nat)(e:TV):Option (TV×Int×Unit):=bd (iK.f n e) fun a=>br (a.1 != 0) (some (((false,(⟨#[]⟩:fg),(⟨#[]⟩:fg),()),(false,(⟨#[]⟩:fg),(⟨#[]⟩:fg),()),()),a.1,())) (bd (pI.f n e.1) fun b=>bd (qw.f n e.2.1) fun c=>bd (dU.f n b.1 c.1) fun d=>some (d.1,0,()))
def E(n:Nat):Entry:=⟨[yV],[yV,(.int .i64)],fun x=>f n x.1⟩
theorem ok(n:Nat):Ok 54 (E n):=fo n (tC (iK.ok n) (tC (dU.ok n) (tC (pI.ok n) (tC (qw.ok n) tN)))) fun x=>θ
end uj
namespace uY
def f(n:Nat)  : fm TV:=some (((false,(⟨#[]⟩:fg),(⟨#[]⟩:fg),()),(false,(⟨#[49]⟩:fg),(⟨#[48]⟩:fg),()),()),())
def E(n:Nat):Entry:=⟨[],[yV],fun x=>f n⟩
theorem ok(n:Nat):Ok 44 (E n):=fo n tN fun x=>θ
end uY
namespace xU
def f(n:Nat)(d:fg):Option (TV×Int×Unit):=bd (dF.f n d) fun a=>br (a.1 != 0) (some (((false,(⟨#[]⟩:fg),(⟨#[]⟩:fg),()),(false,(⟨#[]⟩:fg),(⟨#[]⟩:fg),()),()),a.1,())) (bd (dQ.f n d) fun b=>br (b.1.toList==(⟨#[]⟩:fg).toList) (bd (uY.f n) fun c=>some (c.1,0,())) (bd (oN.f n d) fun c=>some (c.1,0,())))
def E(n:Nat):Entry:=⟨[.str],[yV,(.int .i64)],fun x=>f n x.1⟩
theorem ok(n:Nat):Ok 112 (E n):=fo n (tC (uY.ok n) (tC (dF.ok n) (tC (oN.ok n) (tC (dQ.ok n) tN)))) fun x=>θ
end xU
namespace iT
def f(n:Nat)(a:TV)(b:TV):fm Int:=bd (iK.f n a) fun r1=>br (r1.1 != 0) (some (r1.1,())) (bd (iK.f n b) fun r2=>some (r2.1,()))
def E(n:Nat):Entry:=⟨[yV,yV],[(.int .i64)],fun x=>f n x.1 x.2.1⟩
theorem ok(n:Nat):Ok 123 (E n):=fo n (tC (iK.ok n) tN) fun x=>θ
end iT
namespace qG
def f(n:Nat)(h:Int)(e:TV)(g:TV):Option (TV×Int×Unit):=br (h==3) (bd (iT.f n e g) fun a=>br (a.1 != 0) (some (((false,(⟨#[]⟩:fg),(⟨#[]⟩:fg),()),(false,(⟨#[]⟩:fg),(⟨#[]⟩:fg),()),()),a.1,())) (bd (rZ.f n e.1 g.1) fun b=>br (b.2.1 != 0) (some (((false,(⟨#[]⟩:fg),(⟨#[]⟩:fg),()),(false,(⟨#[]⟩:fg),(⟨#[]⟩:fg),()),()),b.2.1,())) (bd (qj.f n e.2.1 g.2.1) fun c=>br (c.2.1 != 0) (some (((false,(⟨#[]⟩:fg),(⟨#[]⟩:fg),()),(false,(⟨#[]⟩:fg),(⟨#[]⟩:fg),()),()),c.2.1,())) (bd (dU.f n b.1 c.1) fun d=>some (d.1,0,()))))) (br (h==4) (bd (iT.f n e g) fun a=>br (a.1 != 0) (some (((false,(⟨#[]⟩:fg),(⟨#[]⟩:fg),()),(false,(⟨#[]⟩:fg),(⟨#[]⟩:fg),()),()),a.1,())) (bd (sH.f n e.1 g.1) fun b=>br (b.2.1 != 0) (some (((false,(⟨#[]⟩:fg),(⟨#[]⟩:fg),()),(false,(⟨#[]⟩:fg),(⟨#[]⟩:fg),()),()),b.2.1,())) (bd (mV.f n e.2.1 g.2.1) fun c=>br (c.2.1 != 0) (some (((false,(⟨#[]⟩:fg),(⟨#[]⟩:fg),()),(false,(⟨#[]⟩:fg),(⟨#[]⟩:fg),()),()),c.2.1,())) (bd (dU.f n b.1 c.1) fun d=>some (d.1,0,()))))) (br (h==5) (bd (iT.f n e g) fun a=>br (a.1 != 0) (some (((false,(⟨#[]⟩:fg),(⟨#[]⟩:fg),()),(false,(⟨#[]⟩:fg),(⟨#[]⟩:fg),()),()),a.1,())) (bd (sD.f n e.1 g.1) fun b=>br (b.2.1 != 0) (some (((false,(⟨#[]⟩:fg),(⟨#[]⟩:fg),()),(false,(⟨#[]⟩:fg),(⟨#[]⟩:fg),()),()),b.2.1,())) (bd (qm.f n e.2.1 g.2.1) fun c=>br (c.2.1 != 0) (some (((false,(⟨#[]⟩:fg),(⟨#[]⟩:fg),()),(false,(⟨#[]⟩:fg),(⟨#[]⟩:fg),()),()),c.2.1,())) (bd (dU.f n b.1 c.1) fun d=>some (d.1,0,()))))) (br (h==6) (bd (iT.f n e g) fun a=>br (a.1 != 0) (some (((false,(⟨#[]⟩:fg),(⟨#[]⟩:fg),()),(false,(⟨#[]⟩:fg),(⟨#[]⟩:fg),()),()),a.1,())) (bd (sF.f n e.1 g.1) fun b=>br (b.2.1 != 0) (some (((false,(⟨#[]⟩:fg),(⟨#[]⟩:fg),()),(false,(⟨#[]⟩:fg),(⟨#[]⟩:fg),()),()),b.2.1,())) (bd (qx.f n e.2.1 g.2.1) fun c=>br (c.2.1 != 0) (some (((false,(⟨#[]⟩:fg),(⟨#[]⟩:fg),()),(false,(⟨#[]⟩:fg),(⟨#[]⟩:fg),()),()),c.2.1,())) (bd (dU.f n b.1 c.1) fun d=>some (d.1,0,()))))) (br (h==7) (bd (iT.f n e g) fun a=>br (a.1 != 0) (some (((false,(⟨#[]⟩:fg),(⟨#[]⟩:fg),()),(false,(⟨#[]⟩:fg),(⟨#[]⟩:fg),()),()),a.1,())) (bd (sG.f n e.1 g.1) fun b=>br (b.2.1 != 0) (some (((false,(⟨#[]⟩:fg),(⟨#[]⟩:fg),()),(false,(⟨#[]⟩:fg),(⟨#[]⟩:fg),()),()),b.2.1,())) (bd (qy.f n e.2.1 g.2.1) fun c=>br (c.2.1 != 0) (some (((false,(⟨#[]⟩:fg),(⟨#[]⟩:fg),()),(false,(⟨#[]⟩:fg),(⟨#[]⟩:fg),()),()),c.2.1,())) (bd (dU.f n b.1 c.1) fun d=>some (d.1,0,()))))) (some (((false,(⟨#[]⟩:fg),(⟨#[]⟩:fg),()),(false,(⟨#[]⟩:fg),(⟨#[]⟩:fg),()),()),1,()))))))
def E(n:Nat):Entry:=⟨[(.int .i64),yV,yV],[yV,(.int .i64)],fun x=>f n x.1 x.2.1 x.2.2.1⟩
theorem ok(n:Nat):Ok 68 (E n):=fo n (tC (dU.ok n) (tC (rZ.ok n) (tC (qj.ok n) (tC (sH.ok n) (tC (mV.ok n) (tC (sD.ok n) (tC (qm.ok n) (tC (sF.ok n) (tC (qx.ok n) (tC (sG.ok n) (tC (qy.ok n) (tC (iT.ok n) tN)))))))))))) fun x=>θ
end qG
namespace nD
def f(n:Nat)(e:TV)(g:TV):Option (TV×Int×Unit):=bd (iT.f n e g) fun a=>br (a.1 != 0) (some (((false,(⟨#[]⟩:fg),(⟨#[]⟩:fg),()),(false,(⟨#[]⟩:fg),(⟨#[]⟩:fg),()),()),a.1,())) (bd (qY.f n e.1 g.1) fun b=>br (b.2.1 != 0) (some (((false,(⟨#[]⟩:fg),(⟨#[]⟩:fg),()),(false,(⟨#[]⟩:fg),(⟨#[]⟩:fg),()),()),b.2.1,())) (bd (pO.f n e.2.1 g.2.1) fun c=>br (c.2.1 != 0) (some (((false,(⟨#[]⟩:fg),(⟨#[]⟩:fg),()),(false,(⟨#[]⟩:fg),(⟨#[]⟩:fg),()),()),c.2.1,())) (bd (dU.f n b.1 c.1) fun d=>some (d.1,0,()))))
def E(n:Nat):Entry:=⟨[yV,yV],[yV,(.int .i64)],fun x=>f n x.1 x.2.1⟩
theorem ok(n:Nat):Ok 46 (E n):=fo n (tC (dU.ok n) (tC (qY.ok n) (tC (pO.ok n) (tC (iT.ok n) tN)))) fun x=>θ
end nD
namespace uV
def f(n:Nat)(a:TV):Option (fg×Bool×Int×Unit):=bd (iK.f n a) fun r1=>br (r1.1 != 0) (some ((⟨#[]⟩:fg),false,r1.1,())) (br a.2.1.1 (some ((⟨#[]⟩:fg),false,0,())) (br (!(a.2.1.2.1.toList==(⟨#[48]⟩:fg).toList)) (some ((⟨#[]⟩:fg),false,0,())) (some (a.2.1.2.2.1,true,0,()))))
def E(n:Nat):Entry:=⟨[yV],[.str,.bool,(.int .i64)],fun x=>f n x.1⟩
theorem ok(n:Nat):Ok 151 (E n):=fo n (tC (iK.ok n) tN) fun x=>θ
end uV
namespace xB
def f(n:Nat)(a:TI)(b:TI):Option (TV×Int×Unit):=bd (oV.f n a b) fun r1=>br (r1.1 != 0) (some (((false,(⟨#[]⟩:fg),(⟨#[]⟩:fg),()),(false,(⟨#[]⟩:fg),(⟨#[]⟩:fg),()),()),r1.1,())) (bd (dU.f n a b) fun r2=>some (r2.1,0,()))
def E(n:Nat):Entry:=⟨[yI,yI],[yV,(.int .i64)],fun x=>f n x.1 x.2.1⟩
theorem ok(n:Nat):Ok 257 (E n):=fo n (tC (oV.ok n) (tC (dU.ok n) tN)) fun x=>θ
end xB
end
end Go.Q
namespace Go.Q
open Go Go.RowKit
open Go.Rx (br bd sIdx sCat sCut iQuo iRem iShl)
noncomputable section
namespace ck_c
def c0:fg:=⟨#[]⟩
def c1:EX:=EX.mk 1 c0 0 []
def c2:fg:=⟨#[50]⟩
def c3:EX:=EX.mk 0 c2 0 []
def c4:EX:=EX.mk 5 c0 0 [c1,c3]
def c5:fg:=⟨#[49]⟩
def c6:EX:=EX.mk 0 c5 0 []
def c7:EX:=EX.mk 3 c0 0 [c4,c6]
def c8:fg:=⟨#[48]⟩
def c9:fg:=⟨#[57]⟩
def c10:TV:=((false,c8,c9,()),(false,c5,c8,()),())
def c11:fg:=⟨#[52]⟩
def c12:TV:=((false,c2,c11,()),(false,c5,c8,()),())
def c13:List TV:=[c10,c12]
def c14:TV:=((false,c2,c2,()),(false,c8,c2,()),())
def c15:fg:=⟨#[49,56]⟩
def c16:TV:=((false,c8,c15,()),(false,c2,c8,()),())
def c18:fg:=⟨#[49,57]⟩
def c19:TV:=((false,c5,c18,()),(false,c2,c5,()),())
def c20:EX:=EX.mk 1 c0 1 []
def c21:EX:=EX.mk 6 c0 0 [c1,c20]
def c22:TV:=((false,c8,c11,()),(false,c5,c8,()),())
def c23:List TV:=[c22,c12]
def c24:EX:=EX.mk 3 c0 0 [c1,c20]
def c25:fg:=⟨#[53]⟩
def c26:EX:=EX.mk 0 c25 0 []
def c27:fg:=⟨#[49,51]⟩
def c28:TV:=((false,c2,c27,()),(false,c5,c8,()),())
def c29:TV:=((false,c25,c25,()),(false,c8,c25,()),())
def c32:TV:=((false,c8,c2,()),(false,c5,c8,()),())
def c35:List TV:=[c32,c12]
def c36:EX:=EX.mk 5 c0 0 [c3,c1]
def c37:fg:=⟨#[55]⟩
def c38:EX:=EX.mk 0 c37 0 []
def c39:TV:=((false,c37,c37,()),(false,c8,c37,()),())
def c40:TV:=((true,c0,c0,()),(true,c0,c0,()),())
def c41:List TV:=[]
def c42:EX:=EX.mk 0 c8 0 []
def c43:CX:=CX.mk 3 [c1,c42] []
def c44:TV:=((false,c8,c8,()),(false,c8,c8,()),())
def c45:TV:=((false,c5,c9,()),(false,c5,c8,()),())
def c46:List TV:=[c45,c12]
def c47:CX:=CX.mk 4 [c1,c3] []
def c48:CX:=CX.mk 4 [c38,c1] []
def c49:CX:=CX.mk 8 [] [c47,c48]
def c50:TV:=((false,c8,c5,()),(false,c5,c8,()),())
def c51:List TV:=[c50,c12]
def c52:fg:=⟨#[56]⟩
def c53:TV:=((false,c52,c9,()),(false,c5,c8,()),())
def c54:List TV:=[c53,c12]
def c55:fg:=⟨#[51]⟩
def c56:EX:=EX.mk 0 c55 0 []
def c57:TV:=((false,c55,c55,()),(false,c8,c55,()),())
def c62:EX:=EX.mk 4 c0 0 [c1,c6]
def c66:TV:=((false,c55,c25,()),(false,c5,c8,()),())
def c69:List TV:=[c66,c12]
end ck_c
end
end Go.Q
namespace Go.Q
open Go Go.RowKit
open Go.Rx (br bd sIdx sCat sCut iQuo iRem iShl)
noncomputable section
namespace zh
def l:List ((TV×TV×Unit)×(TV×Int×Unit)):=[((ck_c.c50,ck_c.c53,()),(ck_c.c10,0,())),((ck_c.c12,ck_c.c12,()),(ck_c.c12,0,()))]
def f(n:Nat)(a:TV)(b:TV):Option (TV×Int×Unit):=pick [yV,yV] l (a,b,())
def E(n:Nat):Entry:=⟨[yV,yV],[yV,(.int .i64)],fun x=>f n x.1 x.2.1⟩
def tb(n:Nat):List (FuncId×Entry):=[(51,dU.E 1000),(79,bJ.E 1000),(123,iT.E 1000),(147,aV.E 1000),(149,af.E 1000),(198,dG.E 1000),(199,dW.E 1000),(203,iD.E 1000),(234,dY.E 1000),(295,ah.E 1000)]
abbrev an:FuncId→FA:=annsL []
theorem ok(n:Nat):Ok 130 (E n):=okP (an:=an) (tb:=tb n) (lf:=n) (tC (dU.ok 1000) (tC (bJ.ok 1000) (tC (iT.ok 1000) (tC (aV.ok 1000) (tC (af.ok 1000) (tC (dG.ok 1000) (tC (dW.ok 1000) (tC (iD.ok 1000) (tC (dY.ok 1000) (tC (ah.ok 1000) tN)))))))))) aoN (l:=l) (fun _=>rfl) (fun _=>rfl) ⟨by as_aux_lemma=>kernel_rfl,by as_aux_lemma=>kernel_rfl,trivial⟩
end zh
namespace xC
def l:List ((Int×TV×TV×Unit)×(TV×TV×Int×Unit)):=[((4,ck_c.c28,ck_c.c29,()),(ck_c.c12,ck_c.c29,0,())),((2,ck_c.c16,ck_c.c39,()),(ck_c.c40,ck_c.c40,0,())),((4,ck_c.c10,ck_c.c44,()),(ck_c.c40,ck_c.c40,0,())),((4,ck_c.c44,ck_c.c10,()),(ck_c.c44,ck_c.c45,0,())),((4,ck_c.c10,ck_c.c14,()),(ck_c.c50,ck_c.c14,0,())),((4,ck_c.c39,ck_c.c10,()),(ck_c.c39,ck_c.c53,0,()))]
def f(n:Nat)(a:Int)(b:TV)(c:TV):Option (TV×TV×Int×Unit):=pick [(.int .i64),yV,yV] l (a,b,c,())
def E(n:Nat):Entry:=⟨[(.int .i64),yV,yV],[yV,yV,(.int .i64)],fun x=>f n x.1 x.2.1 x.2.2.1⟩
def tb(n:Nat):List (FuncId×Entry):=[(46,nD.E 1000),(51,dU.E 1000),(79,bJ.E 1000),(123,iT.E 1000),(125,kH.E 1000),(132,eX.E 1000),(147,aV.E 1000),(149,af.E 1000),(216,ak.E 1000),(217,aB.E 1000),(226,kW.E 1000),(227,iY.E 1000),(298,jq.E 1000),(300,jS.E 1000),(303,jB.E 1000)]
abbrev an:FuncId→FA:=annsL []
theorem ok(n:Nat):Ok 69 (E n):=okP (an:=an) (tb:=tb n) (lf:=n) (tC (nD.ok 1000) (tC (dU.ok 1000) (tC (bJ.ok 1000) (tC (iT.ok 1000) (tC (kH.ok 1000) (tC (eX.ok 1000) (tC (aV.ok 1000) (tC (af.ok 1000) (tC (ak.ok 1000) (tC (aB.ok 1000) (tC (kW.ok 1000) (tC (iY.ok 1000) (tC (jq.ok 1000) (tC (jS.ok 1000) (tC (jB.ok 1000) tN))))))))))))))) aoN (l:=l) (fun _=>rfl) (fun _=>rfl) ⟨by as_aux_lemma=>kernel_rfl,by as_aux_lemma=>kernel_rfl,by as_aux_lemma=>kernel_rfl,by as_aux_lemma=>kernel_rfl,by as_aux_lemma=>kernel_rfl,by as_aux_lemma=>kernel_rfl,trivial⟩
end xC
end
end Go.Q
namespace Go.Q
open Go Go.RowKit
open Go.Rx (br bd sIdx sCat sCut iQuo iRem iShl)
noncomputable section
namespace jL
def f(n:Nat)(d:TV)(e:TV):fm Bool:=bd (nO.f n d.1 e.1) fun a=>br a.1 (bd (lM.f n d.2.1) fun b=>br b.1 (bd (lM.f n e.2.1) fun c=>some (c.1,())) (some (false,()))) (some (false,()))
def E(n:Nat):Entry:=⟨[yV,yV],[.bool],fun x=>f n x.1 x.2.1⟩
theorem ok(n:Nat):Ok 6 (E n):=fo n (tC (nO.ok n) (tC (lM.ok n) tN)) fun x=>θ
end jL
namespace gq
def f(n:Nat)  : fm TV:=bd (aX.f n) fun r1=>bd (aH.f n) fun r2=>some ((r1.1,r2.1,()),())
def E(n:Nat):Entry:=⟨[],[yV],fun x=>f n⟩
theorem ok(n:Nat):Ok 98 (E n):=fo n (tC (aX.ok n) (tC (aH.ok n) tN)) fun x=>θ
end gq
namespace qi
def f(n:Nat)  : fm TV:=bd (dm.f n) fun r1=>some (((false,(⟨#[]⟩:fg),(⟨#[]⟩:fg),()),r1.1,()),())
def E(n:Nat):Entry:=⟨[],[yV],fun x=>f n⟩
theorem ok(n:Nat):Ok 173 (E n):=fo n (tC (dm.ok n) tN) fun x=>θ
end qi
namespace fU
def f(n:Nat)(a:fg):fm TV:=bd (iI.f n a) fun r1=>br (!(r1.1.2.1.toList==(⟨#[48]⟩:fg).toList)) (bd (qi.f n) fun r2=>some (r2.1,())) (some (((false,a,a,()),r1.1,()),()))
def E(n:Nat):Entry:=⟨[.str],[yV],fun x=>f n x.1⟩
theorem ok(n:Nat):Ok 102 (E n):=fo n (tC (iI.ok n) (tC (qi.ok n) tN)) fun x=>θ
end fU
namespace bV
def f(n:Nat)(e:TI)(g:TI):fm TV:=br e.1 (bd (gq.f n) fun a=>some (a.1,())) (br g.1 (bd (gq.f n) fun a=>some (a.1,())) (br (g.2.1.toList==(⟨#[48]⟩:fg).toList) (bd (oM.f n e g.2.2.1) fun a=>br (!a.1) (bd (gq.f n) fun b=>some (b.1,())) (some (((false,g.2.2.1,g.2.2.1,()),g,()),()))) (br (!(e.2.1.toList==(⟨#[]⟩:fg).toList)) (bd (jG.f n g e.2.1) fun a=>br (!(e.2.2.1.toList==(⟨#[]⟩:fg).toList)) (bd (kE.f n g e.2.2.1) fun b=>br (!(a.1.toList==(⟨#[]⟩:fg).toList)) (br (!(b.1.toList==(⟨#[]⟩:fg).toList)) (bd (aK.f n b.1 a.1) fun c=>br c.1 (bd (gq.f n) fun d=>some (d.1,())) (br (a.1.toList==b.1.toList) (bd (fU.f n a.1) fun d=>some (d.1,())) (bd (au.f n a.1 b.1) fun d=>some ((d.1,g,()),())))) (bd (au.f n a.1 b.1) fun c=>some ((c.1,g,()),()))) (bd (au.f n a.1 b.1) fun c=>some ((c.1,g,()),()))) (br (!(a.1.toList==(⟨#[]⟩:fg).toList)) (br (!(e.2.2.1.toList==(⟨#[]⟩:fg).toList)) (bd (aK.f n e.2.2.1 a.1) fun b=>br b.1 (bd (gq.f n) fun c=>some (c.1,())) (br (a.1.toList==e.2.2.1.toList) (bd (fU.f n a.1) fun c=>some (c.1,())) (bd (au.f n a.1 e.2.2.1) fun c=>some ((c.1,g,()),())))) (bd (au.f n a.1 e.2.2.1) fun b=>some ((b.1,g,()),()))) (bd (au.f n a.1 e.2.2.1) fun b=>some ((b.1,g,()),())))) (br (!(e.2.2.1.toList==(⟨#[]⟩:fg).toList)) (bd (kE.f n g e.2.2.1) fun a=>br (!(e.2.1.toList==(⟨#[]⟩:fg).toList)) (br (!(a.1.toList==(⟨#[]⟩:fg).toList)) (bd (aK.f n a.1 e.2.1) fun b=>br b.1 (bd (gq.f n) fun c=>some (c.1,())) (br (e.2.1.toList==a.1.toList) (bd (fU.f n e.2.1) fun c=>some (c.1,())) (bd (au.f n e.2.1 a.1) fun c=>some ((c.1,g,()),())))) (bd (au.f n e.2.1 a.1) fun b=>some ((b.1,g,()),()))) (bd (au.f n e.2.1 a.1) fun b=>some ((b.1,g,()),()))) (br (!(e.2.1.toList==(⟨#[]⟩:fg).toList)) (br (!(e.2.2.1.toList==(⟨#[]⟩:fg).toList)) (bd (aK.f n e.2.2.1 e.2.1) fun a=>br a.1 (bd (gq.f n) fun b=>some (b.1,())) (br (e.2.1.toList==e.2.2.1.toList) (bd (fU.f n e.2.1) fun b=>some (b.1,())) (bd (au.f n e.2.1 e.2.2.1) fun b=>some ((b.1,g,()),())))) (bd (au.f n e.2.1 e.2.2.1) fun a=>some ((a.1,g,()),()))) (bd (au.f n e.2.1 e.2.2.1) fun a=>some ((a.1,g,()),())))))))
def E(n:Nat):Entry:=⟨[yI,yI],[yV],fun x=>f n x.1 x.2.1⟩
theorem ok(n:Nat):Ok 60 (E n):=fo n (tC (aK.ok n) (tC (gq.ok n) (tC (oM.ok n) (tC (jG.ok n) (tC (kE.ok n) (tC (fU.ok n) (tC (au.ok n) tN))))))) fun x=>θ
end bV
namespace gm
def f(n:Nat)(e:TV):fm Int:=bd (kD.f n e.1) fun a=>br (a.1 != 0) (some (a.1,())) (bd (kF.f n e.2.1) fun b=>br (b.1 != 0) (some (b.1,())) (bd (bV.f n e.1 e.2.1) fun c=>bd (some (!(((c.1.1.1==e.1.1)&&((c.1.1.2.1==e.1.2.1)&&((c.1.1.2.2.1==e.1.2.2.1)&&true)))&&(((c.1.2.1.1==e.2.1.1)&&((c.1.2.1.2.1==e.2.1.2.1)&&((c.1.2.1.2.2.1==e.2.1.2.2.1)&&true)))&&true)))) fun d=>br d (some (3,())) (some (0,()))))
def E(n:Nat):Entry:=⟨[yV],[(.int .i64)],fun x=>f n x.1⟩
theorem ok(n:Nat):Ok 31 (E n):=fo n (tC (kD.ok n) (tC (kF.ok n) (tC (bV.ok n) tN))) fun x=>θ
end gm
namespace dN
def f(n:Nat)(d:TV)(e:TV):fm TV:=bd (jf.f n d.1 e.1) fun a=>bd (nP.f n d.2.1 e.2.1) fun b=>bd (bV.f n a.1 b.1) fun c=>some (c.1,())
def E(n:Nat):Entry:=⟨[yV,yV],[yV],fun x=>f n x.1 x.2.1⟩
theorem ok(n:Nat):Ok 61 (E n):=fo n (tC (bV.ok n) (tC (jf.ok n) (tC (nP.ok n) tN))) fun x=>θ
end dN
namespace gW
def f(n:Nat)(d:TV):fm TV:=bd (bF.f n d.1) fun a=>bd (iQ.f n d.2.1) fun b=>bd (bV.f n a.1 b.1) fun c=>some (c.1,())
def E(n:Nat):Entry:=⟨[yV],[yV],fun x=>f n x.1⟩
theorem ok(n:Nat):Ok 65 (E n):=fo n (tC (bV.ok n) (tC (bF.ok n) (tC (iQ.ok n) tN))) fun x=>θ
end gW
namespace eG
def f(n:Nat)(g:Int)(d:TV)(e:TV):fm TV:=br (g==3) (bd (jQ.f n d.1 e.1) fun a=>bd (nC.f n d.2.1 e.2.1) fun b=>bd (bV.f n a.1 b.1) fun c=>some (c.1,())) (br (g==4) (bd (mg.f n d.1 e.1) fun a=>bd (mD.f n d.2.1 e.2.1) fun b=>bd (bV.f n a.1 b.1) fun c=>some (c.1,())) (br (g==5) (bd (di.f n d.1 e.1) fun a=>bd (mG.f n d.2.1 e.2.1) fun b=>bd (bV.f n a.1 b.1) fun c=>some (c.1,())) (br (g==6) (bd (mY.f n d.1 e.1) fun a=>bd (mZ.f n d.2.1 e.2.1) fun b=>bd (bV.f n a.1 b.1) fun c=>some (c.1,())) (bd (lm.f n d.1 e.1) fun a=>bd (lC.f n d.2.1 e.2.1) fun b=>bd (bV.f n a.1 b.1) fun c=>some (c.1,())))))
def E(n:Nat):Entry:=⟨[(.int .i64),yV,yV],[yV],fun x=>f n x.1 x.2.1 x.2.2.1⟩
theorem ok(n:Nat):Ok 106 (E n):=fo n (tC (bV.ok n) (tC (jQ.ok n) (tC (nC.ok n) (tC (mg.ok n) (tC (mD.ok n) (tC (di.ok n) (tC (mG.ok n) (tC (mY.ok n) (tC (mZ.ok n) (tC (lm.ok n) (tC (lC.ok n) tN))))))))))) fun x=>θ
end eG
end
end Go.Q
