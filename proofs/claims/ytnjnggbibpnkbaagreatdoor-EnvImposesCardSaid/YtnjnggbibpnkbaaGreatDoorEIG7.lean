import Derived.Test.YtnjnggbibpnkbaaGreatDoorEIG5
set_option linter.all false
set_option maxRecDepth 100000
namespace Go.Q
open Go Go.RowKit
open Go.Rx (br bd sIdx sCat sCut iQuo iRem iShl)
noncomputable section
namespace nO
def f(c:Nat)(a:TI)(b:TI):fm Bool:=br (decide ((a.2.1.size:Int)≤450)) (br (decide ((a.2.2.1.size:Int)≤450)) (br (decide ((b.2.1.size:Int)≤450)) (some ((decide ((b.2.2.1.size:Int)≤450)),())) (some (false,()))) (some (false,()))) (some (false,()))
def E(c:Nat):Entry:=⟨[yI,yI],[.bool],fun x=>f c x.1 x.2.1⟩
theorem ok(c:Nat):Ok 12 (E c):=fo c tN fun x=>θ
end nO
namespace jc
def f(c:Nat)(a:fg):fm Int:=br (a.toList==(⟨#[]⟩:fg).toList) (some (0,())) (bd (eY.f c a) fun r1=>some (r1.1,()))
def E(c:Nat):Entry:=⟨[.str],[(.int .i64)],fun x=>f c x.1⟩
theorem ok(c:Nat):Ok 94 (E c):=fo c (tC (eY.ok c) tN) fun x=>θ
end jc
namespace kD
def f(c:Nat)(e:TI):fm Int:=br e.1 (br (!(e.2.1.toList==(⟨#[]⟩:fg).toList)) (some (3,())) (br (!(e.2.2.1.toList==(⟨#[]⟩:fg).toList)) (some (3,())) (bd (jc.f c e.2.1) fun a=>br (a.1 != 0) (some (a.1,())) (bd (jc.f c e.2.2.1) fun b=>br (b.1 != 0) (some (b.1,())) (br (!(e.2.1.toList==(⟨#[]⟩:fg).toList)) (br (!(e.2.2.1.toList==(⟨#[]⟩:fg).toList)) (bd (aK.f c e.2.2.1 e.2.1) fun d=>br d.1 (some (14,())) (some (0,()))) (some (0,()))) (some (0,()))))))) (bd (jc.f c e.2.1) fun a=>br (a.1 != 0) (some (a.1,())) (bd (jc.f c e.2.2.1) fun b=>br (b.1 != 0) (some (b.1,())) (br (!(e.2.1.toList==(⟨#[]⟩:fg).toList)) (br (!(e.2.2.1.toList==(⟨#[]⟩:fg).toList)) (bd (aK.f c e.2.2.1 e.2.1) fun d=>br d.1 (some (14,())) (some (0,()))) (some (0,()))) (some (0,())))))
def E(c:Nat):Entry:=⟨[yI],[(.int .i64)],fun x=>f c x.1⟩
theorem ok(c:Nat):Ok 58 (E c):=fo c (tC (jc.ok c) (tC (aK.ok c) tN)) fun x=>θ
end kD
namespace aX
def f(c:Nat)  : fm TI:=some ((true,(⟨#[]⟩:fg),(⟨#[]⟩:fg),()),())
def E(c:Nat):Entry:=⟨[],[yI],fun x=>f c⟩
theorem ok(c:Nat):Ok 166 (E c):=fo c tN fun x=>θ
end aX
namespace oM
def f(c:Nat)(d:TI)(e:fg):fm Bool:=br (!d.1) (br (d.2.1.toList==(⟨#[]⟩:fg).toList) (br (d.2.2.1.toList==(⟨#[]⟩:fg).toList) (some (true,())) (bd (aK.f c d.2.2.1 e) fun a=>some ((!a.1),()))) (bd (aK.f c e d.2.1) fun a=>br (!a.1) (br (d.2.2.1.toList==(⟨#[]⟩:fg).toList) (some (true,())) (bd (aK.f c d.2.2.1 e) fun b=>some ((!b.1),()))) (some (false,())))) (some (false,()))
def E(c:Nat):Entry:=⟨[yI,.str],[.bool],fun x=>f c x.1 x.2.1⟩
theorem ok(c:Nat):Ok 99 (E c):=fo c (tC (aK.ok c) tN) fun x=>θ
end oM
namespace ig
def f(c:Nat)(a:fg):fm fg:=br (!(a.toList==(⟨#[]⟩:fg).toList)) (bd (bH.f c a) fun r1=>br (decide (r1.1 > 100)) (some ((⟨#[]⟩:fg),())) (some (a,()))) (some (a,()))
def E(c:Nat):Entry:=⟨[.str],[.str],fun x=>f c x.1⟩
theorem ok(c:Nat):Ok 174 (E c):=fo c (tC (bH.ok c) tN) fun x=>θ
end ig
namespace au
def f(c:Nat)(e:fg)(g:fg):fm TI:=br (!(e.toList==(⟨#[]⟩:fg).toList)) (br (!(g.toList==(⟨#[]⟩:fg).toList)) (bd (aK.f c g e) fun a=>br a.1 (bd (aX.f c) fun b=>some (b.1,())) (bd (ig.f c e) fun b=>bd (ig.f c g) fun d=>some ((false,b.1,d.1,()),()))) (bd (ig.f c e) fun a=>bd (ig.f c g) fun b=>some ((false,a.1,b.1,()),()))) (bd (ig.f c e) fun a=>bd (ig.f c g) fun b=>some ((false,a.1,b.1,()),()))
def E(c:Nat):Entry:=⟨[.str,.str],[yI],fun x=>f c x.1 x.2.1⟩
theorem ok(c:Nat):Ok 103 (E c):=fo c (tC (aK.ok c) (tC (aX.ok c) (tC (ig.ok c) tN))) fun x=>θ
end au
namespace iP
def f(c:Nat)(a:fg)(b:fg):fm fg:=br (a.toList==(⟨#[]⟩:fg).toList) (some ((⟨#[]⟩:fg),())) (br (b.toList==(⟨#[]⟩:fg).toList) (some ((⟨#[]⟩:fg),())) (bd (aK.f c a b) fun r1=>br r1.1 (some (b,())) (some (a,()))))
def E(c:Nat):Entry:=⟨[.str,.str],[.str],fun x=>f c x.1 x.2.1⟩
theorem ok(c:Nat):Ok 273 (E c):=fo c (tC (aK.ok c) tN) fun x=>θ
end iP
namespace mr
def f(c:Nat)(a:fg)(b:fg):fm fg:=br (a.toList==(⟨#[]⟩:fg).toList) (some (b,())) (br (b.toList==(⟨#[]⟩:fg).toList) (some (a,())) (bd (iP.f c a b) fun r1=>some (r1.1,())))
def E(c:Nat):Entry:=⟨[.str,.str],[.str],fun x=>f c x.1 x.2.1⟩
theorem ok(c:Nat):Ok 175 (E c):=fo c (tC (iP.ok c) tN) fun x=>θ
end mr
namespace jE
def f(c:Nat)(a:fg)(b:fg):fm fg:=br (a.toList==(⟨#[]⟩:fg).toList) (some ((⟨#[]⟩:fg),())) (br (b.toList==(⟨#[]⟩:fg).toList) (some ((⟨#[]⟩:fg),())) (bd (aK.f c b a) fun r1=>br r1.1 (some (b,())) (some (a,()))))
def E(c:Nat):Entry:=⟨[.str,.str],[.str],fun x=>f c x.1 x.2.1⟩
theorem ok(c:Nat):Ok 274 (E c):=fo c (tC (aK.ok c) tN) fun x=>θ
end jE
namespace jF
def f(c:Nat)(a:fg)(b:fg):fm fg:=br (a.toList==(⟨#[]⟩:fg).toList) (some (b,())) (br (b.toList==(⟨#[]⟩:fg).toList) (some (a,())) (bd (jE.f c a b) fun r1=>some (r1.1,())))
def E(c:Nat):Entry:=⟨[.str,.str],[.str],fun x=>f c x.1 x.2.1⟩
theorem ok(c:Nat):Ok 176 (E c):=fo c (tC (jE.ok c) tN) fun x=>θ
end jF
namespace jf
def f(c:Nat)(e:TI)(g:TI):fm TI:=br e.1 (bd (aX.f c) fun a=>some (a.1,())) (br g.1 (bd (aX.f c) fun a=>some (a.1,())) (bd (mr.f c e.2.1 g.2.1) fun a=>bd (jF.f c e.2.2.1 g.2.2.1) fun b=>bd (au.f c a.1 b.1) fun d=>some (d.1,())))
def E(c:Nat):Entry:=⟨[yI,yI],[yI],fun x=>f c x.1 x.2.1⟩
theorem ok(c:Nat):Ok 104 (E c):=fo c (tC (au.ok c) (tC (aX.ok c) (tC (mr.ok c) (tC (jF.ok c) tN)))) fun x=>θ
end jf
namespace jM
def f(c:Nat)(a:fg):fm fg:=br (a.toList==(⟨#[]⟩:fg).toList) (some ((⟨#[]⟩:fg),())) (bd (aZ.f c a) fun r1=>some (r1.1,()))
def E(c:Nat):Entry:=⟨[.str],[.str],fun x=>f c x.1⟩
theorem ok(c:Nat):Ok 194 (E c):=fo c (tC (aZ.ok c) tN) fun x=>θ
end jM
namespace bF
def f(c:Nat)(e:TI):fm TI:=br e.1 (some (e,())) (bd (jM.f c e.2.2.1) fun a=>bd (jM.f c e.2.1) fun b=>bd (au.f c a.1 b.1) fun d=>some (d.1,()))
def E(c:Nat):Entry:=⟨[yI],[yI],fun x=>f c x.1⟩
theorem ok(c:Nat):Ok 107 (E c):=fo c (tC (au.ok c) (tC (jM.ok c) tN)) fun x=>θ
end bF
namespace jK
def f(c:Nat)(a:fg)(b:fg):fm fg:=br (a.toList==(⟨#[]⟩:fg).toList) (some ((⟨#[]⟩:fg),())) (br (b.toList==(⟨#[]⟩:fg).toList) (some ((⟨#[]⟩:fg),())) (bd (dD.f c a b) fun r1=>some (r1.1,())))
def E(c:Nat):Entry:=⟨[.str,.str],[.str],fun x=>f c x.1 x.2.1⟩
theorem ok(c:Nat):Ok 279 (E c):=fo c (tC (dD.ok c) tN) fun x=>θ
end jK
namespace jQ
def f(c:Nat)(e:TI)(g:TI):fm TI:=br e.1 (bd (aX.f c) fun a=>some (a.1,())) (br g.1 (bd (aX.f c) fun a=>some (a.1,())) (bd (jK.f c e.2.1 g.2.1) fun a=>bd (jK.f c e.2.2.1 g.2.2.1) fun b=>bd (au.f c a.1 b.1) fun d=>some (d.1,())))
def E(c:Nat):Entry:=⟨[yI,yI],[yI],fun x=>f c x.1 x.2.1⟩
theorem ok(c:Nat):Ok 184 (E c):=fo c (tC (au.ok c) (tC (aX.ok c) (tC (jK.ok c) tN))) fun x=>θ
end jQ
namespace mg
def f(c:Nat)(a:TI)(b:TI):fm TI:=bd (bF.f c b) fun r1=>bd (jQ.f c a r1.1) fun r2=>some (r2.1,())
def E(c:Nat):Entry:=⟨[yI,yI],[yI],fun x=>f c x.1 x.2.1⟩
theorem ok(c:Nat):Ok 186 (E c):=fo c (tC (bF.ok c) (tC (jQ.ok c) tN)) fun x=>θ
end mg
namespace jJ
def f(c:Nat)(a:fg):fm TI:=bd (au.f c a a) fun r1=>some (r1.1,())
def E(c:Nat):Entry:=⟨[.str],[yI],fun x=>f c x.1⟩
theorem ok(c:Nat):Ok 281 (E c):=fo c (tC (au.ok c) tN) fun x=>θ
end jJ
namespace fJ
def f(c:Nat)(i:TI):Option ((List TI)×Unit):=bd (au.f c (⟨#[]⟩:fg) (⟨#[45,49]⟩:fg)) fun a=>bd (jf.f c i a.1) fun b=>bd (jJ.f c (⟨#[48]⟩:fg)) fun d=>bd (jf.f c i d.1) fun e=>bd (au.f c (⟨#[49]⟩:fg) (⟨#[]⟩:fg)) fun g=>bd (jf.f c i g.1) fun h=>some ([b.1,e.1,h.1],())
def E(c:Nat):Entry:=⟨[yI],[(.sl yI)],fun x=>f c x.1⟩
theorem ok(c:Nat):Ok 280 (E c):=fo c (tC (au.ok c) (tC (jf.ok c) (tC (jJ.ok c) tN))) fun x=>θ
end fJ
namespace jO
def f(c:Nat)(e:TI)(g:TI):fm TI:=br (!(e.2.2.1.toList==(⟨#[]⟩:fg).toList)) (br (!(g.2.2.1.toList==(⟨#[]⟩:fg).toList)) (bd (aO.f c e.2.2.1 g.2.2.1) fun a=>bd (aO.f c e.2.1 g.2.1) fun b=>bd (au.f c b.1 a.1) fun d=>some (d.1,())) (bd (aO.f c e.2.1 g.2.1) fun a=>bd (au.f c a.1 (⟨#[]⟩:fg)) fun b=>some (b.1,()))) (bd (aO.f c e.2.1 g.2.1) fun a=>bd (au.f c a.1 (⟨#[]⟩:fg)) fun b=>some (b.1,()))
def E(c:Nat):Entry:=⟨[yI,yI],[yI],fun x=>f c x.1 x.2.1⟩
theorem ok(c:Nat):Ok 282 (E c):=fo c (tC (au.ok c) (tC (aO.ok c) tN)) fun x=>θ
end jO
namespace gV
def f(c:Nat)(a:TI)(b:Int):fm TI:=br (b==0) (bd (bF.f c a) fun r1=>some (r1.1,())) (some (a,()))
def E(c:Nat):Entry:=⟨[yI,(.int .i64)],[yI],fun x=>f c x.1 x.2.1⟩
theorem ok(c:Nat):Ok 283 (E c):=fo c (tC (bF.ok c) tN) fun x=>θ
end gV
namespace dP
def f(c:Nat)(e:TI)(g:TI):fm TI:=br e.1 (some (g,())) (br g.1 (some (e,())) (bd (jE.f c e.2.1 g.2.1) fun a=>bd (iP.f c e.2.2.1 g.2.2.1) fun b=>bd (au.f c a.1 b.1) fun d=>some (d.1,())))
def E(c:Nat):Entry:=⟨[yI,yI],[yI],fun x=>f c x.1 x.2.1⟩
theorem ok(c:Nat):Ok 284 (E c):=fo c (tC (au.ok c) (tC (iP.ok c) (tC (jE.ok c) tN))) fun x=>θ
end dP
end
end Go.Q
namespace Go.Q
open Go.IntKind (i64)
open Go Go.RowKit
open Go.Rx (br bd sIdx sCat sCut iQuo iRem iShl)
noncomputable section
namespace di
def anns:FuncId→FA:=annsL [(188,⟨annOf [(0,⟨kx 65 [4,5,6,7,8],[],[0,1]⟩,⟨kx 65 [4,5],[],[0,1]⟩),(1,⟨kx 65 [4,5,6,7,8,9],[],[]⟩,⟨kx 65 [4,5,6,7,8],[],[]⟩)],none,[]⟩)]
def r1{ρ:Type}(c:Nat)(r s:List TI)(q:Int)(t:Bool)(u v:fg)(m:Int)(n:Bool)(o p:fg)(K:Int→Bool→fg→fg→Option ρ)(E0:Bool→fg→fg→Option ρ):Option ρ:=br (decide (m < 3)) (bd (idxL r q) fun a=>br a.1 (
 K (i64.wrap (m+1)) n o p) (bd (idxL s m) fun b=>br b.1 (
 K (i64.wrap (m+1)) n o p) (bd (jJ.f c (⟨#[48]⟩:fg)) fun d=>br (q != 1) (br (m != 1) (bd (idxL r q) fun e=>bd (gV.f c e q) fun g=>bd (idxL s m) fun h=>bd (gV.f c h m) fun i=>bd (jO.f c g.1 i.1) fun j=>br (q != m) (bd (bF.f c j.1) fun k=>bd (dP.f c (n,o,p,()) k.1) fun l =>
 K (i64.wrap (m+1)) l.1.1 l.1.2.1 l.1.2.2.1) (bd (dP.f c (n,o,p,()) j.1) fun k =>
 K (i64.wrap (m+1)) k.1.1 k.1.2.1 k.1.2.2.1)) (bd (dP.f c (n,o,p,()) d.1) fun e =>
 K (i64.wrap (m+1)) e.1.1 e.1.2.1 e.1.2.2.1)) (bd (dP.f c (n,o,p,()) d.1) fun e =>
 K (i64.wrap (m+1)) e.1.1 e.1.2.1 e.1.2.2.1)))) (
 E0 n o p)
def l1(c:Nat)(a b:List TI)(d:Int)(e:Bool)(f g:fg):Nat→Int→Bool→fg→fg→Option ((Bool×fg×fg×Unit)×Unit)
 | 0,_,_,_,_=>none
 | n+1,v3,v7,v8,v9=>r1 c a b d e f g v3 v7 v8 v9 (l1 c a b d e f g n) (fun h i j=>some ((h,i,j,()),()))
def sh1:ShS:=⟨[.a 4,.s (.ptr 2 0),.s (.ptr 3 0),.s (.sl yI),.s (.sl yI),.s (.int .i64),.s (.int .i64),.a 55],[.gone,.gone,.cells [.s .bool,.s .str,.s .str] 28,.cells [.s .bool,.s .str,.s .str] 28]⟩
def S1(p:(List TI)×(List TI)×Int×Int×Bool×fg×fg×Bool×fg×fg×Unit):St:=sh1.b p
def xh0:ShS:=⟨[.a 4,.s (.ptr 2 0),.s (.ptr 3 0),.s (.sl yI),.s (.sl yI),.s (.int .i64),.a 56],[.gone,.gone,.cells [.s .bool,.s .str,.s .str] 28,.cells [.s .bool,.s .str,.s .str] 28]⟩
def o1(a c:List TI)(d:Int)(e:Bool)(f g:fg)(y:(Bool×fg×fg×Unit)×Unit):Alt:=.one (.exit 2) (xh0.b (a,c,d,e,f,g,y.1.1,y.1.2.1,y.1.2.2.1,()))
def r0{ρ:Type}(c:Nat)(g h:List TI)(i:Bool)(j k:fg)(b:Int)(d:Bool)(e f:fg)(K:Int→Bool→fg→fg→Option ρ)(E0:Bool→fg→fg→Option ρ):Option ρ:=br (decide (b < 3)) (bd (l1 c g h b i j k (c+40) 0 d e f) fun a =>
 K (i64.wrap (b+1)) a.1.1 a.1.2.1 a.1.2.2.1) (
 E0 d e f)
def l0(c:Nat)(a b:List TI)(d:Bool)(e f:fg):Nat→Int→Bool→fg→fg→Option ((Bool×fg×fg×Unit)×Unit)
 | 0,_,_,_,_=>none
 | n+1,v2,v6,v7,v8=>r0 c a b d e f v2 v6 v7 v8 (l0 c a b d e f n) (fun g h i=>some ((g,h,i,()),()))
def sh0:ShS:=⟨[.a 4,.s (.ptr 2 0),.s (.ptr 3 0),.s (.sl yI),.s (.sl yI),.s (.int .i64),.a 56],[.gone,.gone,.cells [.s .bool,.s .str,.s .str] 28,.cells [.s .bool,.s .str,.s .str] 28]⟩
def S0(p:(List TI)×(List TI)×Int×Bool×fg×fg×Bool×fg×fg×Unit):St:=sh0.b p
def xh1:ShS:=⟨[.a 4,.s (.ptr 2 0),.s (.ptr 3 0),.a 59],[.gone,.gone,.cells [.s .bool,.s .str,.s .str] 28,.cells [.s .bool,.s .str,.s .str] 28]⟩
def o0(e f:List TI)(a:Bool)(c d:fg)(y:(Bool×fg×fg×Unit)×Unit):Alt:=.one (.exit 0) (xh1.b (a,c,d,y.1.1,y.1.2.1,y.1.2.2.1,()))
def tb(c:Nat):List (FuncId×Entry):=[(107,bF.E c),(166,aX.E c),(280,fJ.E c),(281,jJ.E c),(282,jO.E c),(283,gV.E c),(284,dP.E c)]
def acK(c:Nat):List (Nat×(St→Option LTE)):=[(0,sumE sh0 fun(p:(List TI)×(List TI)×Int×Bool×fg×fg×Bool×fg×fg×Unit)=>⟨(Bool×fg×fg×Unit)×Unit,l0 c p.1 p.2.1 p.2.2.2.1 p.2.2.2.2.1 p.2.2.2.2.2.1 (c+40) p.2.2.1 p.2.2.2.2.2.2.1 p.2.2.2.2.2.2.2.1 p.2.2.2.2.2.2.2.2.1,o0 p.1 p.2.1 p.2.2.2.1 p.2.2.2.2.1 p.2.2.2.2.2.1⟩),
 (1,sumE sh1 fun(p:(List TI)×(List TI)×Int×Int×Bool×fg×fg×Bool×fg×fg×Unit)=>⟨(Bool×fg×fg×Unit)×Unit,l1 c p.1 p.2.1 p.2.2.1 p.2.2.2.2.1 p.2.2.2.2.2.1 p.2.2.2.2.2.2.1 (c+40) p.2.2.2.1 p.2.2.2.2.2.2.2.1 p.2.2.2.2.2.2.2.2.1 p.2.2.2.2.2.2.2.2.2.1,o1 p.1 p.2.1 p.2.2.1 p.2.2.2.2.1 p.2.2.2.2.2.1 p.2.2.2.2.2.2.1⟩)]
def ls(c:Nat):List (Nat×FuncId×Sums):=[(13,188,sumsL (acK c))]
def it1{ρ:Type}(c n:Nat)(a:St)(k:KE ρ):Option ρ:=itG anns (ls c) (tb c) c 13 188 1 4 (sumsL (acK c)) n a k
theorem t1{ρ:Type}(c n:Nat)(a d:List TI)(e i:Int)(f:Bool)(g h:fg)(j:Bool)(l m:fg)(k:KE ρ):it1 c (n+1) (S1 (a,d,e,i,f,g,h,j,l,m,())) k=r1 c a d e f g h i j l m (fun r s t u=>it1 c n (S1 (a,d,e,r,f,g,h,s,t,u,())) k) (fun o p q=>k (.exit 2) (xh0.b (a,d,e,f,g,h,o,p,q,()))):=θ
theorem u1{ρ:Type}(c:Nat)(a b:List TI)(d:Int)(e:Bool)(f g:fg)(k:KE ρ):∀ (n:Nat) (h:Int) (i:Bool) (j l:fg),it1 c n (S1 (a,b,d,h,e,f,g,i,j,l,())) k=bd (l1 c a b d e f g n h i j l) fun y=>altK k (o1 a b d e f g y)
 | 0,_,_,_,_=>by rw[l1,bd_none];rfl
 | n+1,h,i,j,l=>by
  rw[t1];simp only[l1,r1,u1 c a b d e f g k n,bd_br,bd_bd,bd_some',bd_none,br_t,br_f,o1,altK]
def it0{ρ:Type}(c n:Nat)(a:St)(k:KE ρ):Option ρ:=itG anns (ls c) (tb c) c 13 188 0 4 (sumsL (acK c)) n a k
theorem t0{ρ:Type}(c n:Nat)(f g:List TI)(h:Int)(a:Bool)(d e:fg)(i:Bool)(j l:fg)(k:KE ρ):it0 c (n+1) (S0 (f,g,h,a,d,e,i,j,l,())) k=r0 c f g a d e h i j l (fun q r s t=>it0 c n (S0 (f,g,q,a,d,e,r,s,t,())) k) (fun m o p=>k (.exit 0) (xh1.b (a,d,e,m,o,p,()))):=θ
theorem u0{ρ:Type}(c:Nat)(a b:List TI)(d:Bool)(e f:fg)(k:KE ρ):∀ (n:Nat) (g:Int) (h:Bool) (i j:fg),it0 c n (S0 (a,b,g,d,e,f,h,i,j,())) k=bd (l0 c a b d e f n g h i j) fun y=>altK k (o0 a b d e f y)
 | 0,_,_,_,_=>by rw[l0,bd_none];rfl
 | n+1,g,h,i,j=>by
  rw[t0];simp only[l0,r0,u0 c a b d e f k n,bd_br,bd_bd,bd_some',bd_none,br_t,br_f,o0,altK]
theorem sl(c:Nat):SL anns (ls c) (tb c) c (ls c):=slC (laC (fun _=>θ) (fun _ (x:(List TI)×(List TI)×Int×Bool×fg×fg×Bool×fg×fg×Unit) k=>dJ (u0 c x.1 x.2.1 x.2.2.2.1 x.2.2.2.2.1 x.2.2.2.2.2.1 k (c+40) x.2.2.1 x.2.2.2.2.2.2.1 x.2.2.2.2.2.2.2.1 x.2.2.2.2.2.2.2.2.1)) (laC (fun _=>θ) (fun _ (x:(List TI)×(List TI)×Int×Int×Bool×fg×fg×Bool×fg×fg×Unit) k=>dJ (u1 c x.1 x.2.1 x.2.2.1 x.2.2.2.2.1 x.2.2.2.2.2.1 x.2.2.2.2.2.2.1 k (c+40) x.2.2.2.1 x.2.2.2.2.2.2.2.1 x.2.2.2.2.2.2.2.2.1 x.2.2.2.2.2.2.2.2.2.1)) laN)) slN
def f(c:Nat)(g:TI)(h:TI):fm TI:=bd (aX.f c) fun a=>bd (fJ.f c g) fun b=>bd (fJ.f c h) fun d=>bd (l0 c b.1 d.1 false (⟨#[]⟩:fg) (⟨#[]⟩:fg) (c+40) 0 a.1.1 a.1.2.1 a.1.2.2.1) fun e=>some (e.1,())
def E(c:Nat):Entry:=⟨[yI,yI],[yI],fun x=>f c x.1 x.2.1⟩
theorem ok(c:Nat):Ok 188 (E c):=okL (tC (bF.ok c) (tC (aX.ok c) (tC (fJ.ok c) (tC (jJ.ok c) (tC (jO.ok c) (tC (gV.ok c) (tC (dP.ok c) tN))))))) (aoC aoN) (sl c) fun x=>θ
end di
namespace ji
def f(c:Nat)(h:TI)(i:TI):fm TI:=br h.1 (bd (aX.f c) fun a=>some (a.1,())) (br i.1 (bd (aX.f c) fun a=>some (a.1,())) (br (!(h.2.1.toList==(⟨#[]⟩:fg).toList)) (bd (bD.f c h.2.1) fun a=>br (decide (a.1 < 0)) (bd (aI.f c h.2.1 i.2.1) fun b=>br (!(h.2.2.1.toList==(⟨#[]⟩:fg).toList)) (bd (bD.f c h.2.2.1) fun d=>br (decide (d.1≥0)) (bd (aI.f c h.2.2.1 i.2.1) fun e=>bd (au.f c b.1 e.1) fun g=>some (g.1,())) (br (!(i.2.2.1.toList==(⟨#[]⟩:fg).toList)) (bd (aI.f c h.2.2.1 i.2.2.1) fun e=>bd (au.f c b.1 e.1) fun g=>some (g.1,())) (bd (au.f c b.1 (⟨#[45,49]⟩:fg)) fun e=>some (e.1,())))) (bd (au.f c b.1 h.2.2.1) fun d=>some (d.1,()))) (br (!(i.2.2.1.toList==(⟨#[]⟩:fg).toList)) (bd (aI.f c h.2.1 i.2.2.1) fun b=>br (!(h.2.2.1.toList==(⟨#[]⟩:fg).toList)) (bd (bD.f c h.2.2.1) fun d=>br (decide (d.1≥0)) (bd (aI.f c h.2.2.1 i.2.1) fun e=>bd (au.f c b.1 e.1) fun g=>some (g.1,())) (br (!(i.2.2.1.toList==(⟨#[]⟩:fg).toList)) (bd (aI.f c h.2.2.1 i.2.2.1) fun e=>bd (au.f c b.1 e.1) fun g=>some (g.1,())) (bd (au.f c b.1 (⟨#[45,49]⟩:fg)) fun e=>some (e.1,())))) (bd (au.f c b.1 h.2.2.1) fun d=>some (d.1,()))) (br (!(h.2.2.1.toList==(⟨#[]⟩:fg).toList)) (bd (bD.f c h.2.2.1) fun b=>br (decide (b.1≥0)) (bd (aI.f c h.2.2.1 i.2.1) fun d=>bd (au.f c (⟨#[48]⟩:fg) d.1) fun e=>some (e.1,())) (br (!(i.2.2.1.toList==(⟨#[]⟩:fg).toList)) (bd (aI.f c h.2.2.1 i.2.2.1) fun d=>bd (au.f c (⟨#[48]⟩:fg) d.1) fun e=>some (e.1,())) (bd (au.f c (⟨#[48]⟩:fg) (⟨#[45,49]⟩:fg)) fun d=>some (d.1,())))) (bd (au.f c (⟨#[48]⟩:fg) h.2.2.1) fun b=>some (b.1,()))))) (br (!(h.2.2.1.toList==(⟨#[]⟩:fg).toList)) (bd (bD.f c h.2.2.1) fun a=>br (decide (a.1≥0)) (bd (aI.f c h.2.2.1 i.2.1) fun b=>bd (au.f c h.2.1 b.1) fun d=>some (d.1,())) (br (!(i.2.2.1.toList==(⟨#[]⟩:fg).toList)) (bd (aI.f c h.2.2.1 i.2.2.1) fun b=>bd (au.f c h.2.1 b.1) fun d=>some (d.1,())) (bd (au.f c h.2.1 (⟨#[45,49]⟩:fg)) fun b=>some (b.1,())))) (bd (au.f c h.2.1 h.2.2.1) fun a=>some (a.1,())))))
def E(c:Nat):Entry:=⟨[yI,yI],[yI],fun x=>f c x.1 x.2.1⟩
theorem ok(c:Nat):Ok 285 (E c):=fo c (tC (bD.ok c) (tC (au.ok c) (tC (aX.ok c) (tC (aI.ok c) tN)))) fun x=>θ
end ji
namespace mY
def f(c:Nat)(k:TI)(l:TI):fm TI:=bd (fJ.f c l) fun a=>bd (idxL a.1 2) fun b=>bd (ji.f c k b) fun d=>bd (bF.f c k) fun e=>bd (idxL a.1 0) fun g=>bd (bF.f c g) fun h=>bd (ji.f c e.1 h.1) fun i=>bd (dP.f c d.1 i.1) fun j=>some (j.1,())
def E(c:Nat):Entry:=⟨[yI,yI],[yI],fun x=>f c x.1 x.2.1⟩
theorem ok(c:Nat):Ok 190 (E c):=fo c (tC (bF.ok c) (tC (fJ.ok c) (tC (dP.ok c) (tC (ji.ok c) tN)))) fun x=>θ
end mY
namespace lg
def f(c:Nat)(d:TI)(e:TI):fm Bool:=br d.1 (some (d.1,())) (br e.1 (some (d.1,())) (br (e.2.1.toList==(⟨#[]⟩:fg).toList) (br (e.2.2.1.toList==(⟨#[]⟩:fg).toList) (some (true,())) (br (!(d.2.2.1.toList==(⟨#[]⟩:fg).toList)) (bd (aK.f c e.2.2.1 d.2.2.1) fun a=>some ((!a.1),())) (some (false,())))) (br (!(d.2.1.toList==(⟨#[]⟩:fg).toList)) (bd (aK.f c d.2.1 e.2.1) fun a=>br (e.2.2.1.toList==(⟨#[]⟩:fg).toList) (br (!a.1) (some (true,())) (some (false,()))) (br (!(d.2.2.1.toList==(⟨#[]⟩:fg).toList)) (bd (aK.f c e.2.2.1 d.2.2.1) fun b=>br (!a.1) (some ((!b.1),())) (some (false,()))) (br (!a.1) (some (false,())) (some (false,()))))) (br (e.2.2.1.toList==(⟨#[]⟩:fg).toList) (some (false,())) (br (!(d.2.2.1.toList==(⟨#[]⟩:fg).toList)) (bd (aK.f c e.2.2.1 d.2.2.1) fun a=>some (false,())) (some (false,())))))))
def E(c:Nat):Entry:=⟨[yI,yI],[.bool],fun x=>f c x.1 x.2.1⟩
theorem ok(c:Nat):Ok 321 (E c):=fo c (tC (aK.ok c) tN) fun x=>θ
end lg
namespace ja
def f(c:Nat)(j:TI)(k:TI):fm TI:=br j.1 (bd (aX.f c) fun a=>some (a.1,())) (br k.1 (bd (aX.f c) fun a=>some (a.1,())) (br (k.2.1.toList==k.2.2.1.toList) (br (!(j.2.1.toList==(⟨#[]⟩:fg).toList)) (br (!(j.2.2.1.toList==(⟨#[]⟩:fg).toList)) (bd (aI.f c j.2.1 k.2.1) fun a=>bd (aI.f c j.2.2.1 k.2.1) fun b=>br (a.1.toList==b.1.toList) (bd (bT.f c j.2.1 k.2.1) fun d=>bd (bT.f c j.2.2.1 k.2.1) fun e=>bd (au.f c d.1 e.1) fun g=>some (g.1,())) (bd (aU.f c k.2.1 (⟨#[49]⟩:fg)) fun d=>bd (au.f c (⟨#[48]⟩:fg) d.1) fun e=>some (e.1,()))) (bd (aU.f c k.2.1 (⟨#[49]⟩:fg)) fun a=>bd (au.f c (⟨#[48]⟩:fg) a.1) fun b=>some (b.1,()))) (bd (aU.f c k.2.1 (⟨#[49]⟩:fg)) fun a=>bd (au.f c (⟨#[48]⟩:fg) a.1) fun b=>some (b.1,()))) (bd (aU.f c k.2.1 (⟨#[49]⟩:fg)) fun a=>bd (au.f c (⟨#[48]⟩:fg) a.1) fun b=>bd (lg.f c j b.1) fun d=>br d.1 (some (j,())) (bd (jK.f c k.2.2.1 (⟨#[45,49]⟩:fg)) fun e=>br (!(j.2.1.toList==(⟨#[]⟩:fg).toList)) (bd (bD.f c j.2.1) fun g=>br (decide (g.1≥0)) (bd (jF.f c e.1 j.2.2.1) fun h=>bd (au.f c (⟨#[48]⟩:fg) h.1) fun i=>some (i.1,())) (bd (au.f c (⟨#[48]⟩:fg) e.1) fun h=>some (h.1,()))) (bd (au.f c (⟨#[48]⟩:fg) e.1) fun g=>some (g.1,()))))))
def E(c:Nat):Entry:=⟨[yI,yI],[yI],fun x=>f c x.1 x.2.1⟩
theorem ok(c:Nat):Ok 287 (E c):=fo c (tC (bD.ok c) (tC (au.ok c) (tC (aX.ok c) (tC (bT.ok c) (tC (aU.ok c) (tC (jF.ok c) (tC (aI.ok c) (tC (jK.ok c) (tC (lg.ok c) tN))))))))) fun x=>θ
end ja
end
end Go.Q
namespace Go.Q
open Go Go.RowKit
open Go.Rx (br bd sIdx sCat sCut iQuo iRem iShl)
noncomputable section
namespace lm
def f(c:Nat)(l:TI)(m:TI):fm TI:=bd (fJ.f c m) fun a=>bd (idxL a.1 2) fun b=>bd (ja.f c l b) fun d=>bd (bF.f c l) fun e=>bd (idxL a.1 0) fun g=>bd (bF.f c g) fun h=>bd (ja.f c e.1 h.1) fun i=>bd (bF.f c i.1) fun j=>bd (dP.f c d.1 j.1) fun k=>some (k.1,())
def E(c:Nat):Entry:=⟨[yI,yI],[yI],fun x=>f c x.1 x.2.1⟩
theorem ok(c:Nat):Ok 192 (E c):=fo c (tC (bF.ok c) (tC (fJ.ok c) (tC (dP.ok c) (tC (ja.ok c) tN)))) fun x=>θ
end lm
end
end Go.Q
namespace Go.Q
open Go Go.RowKit
open Go.Rx (br bd sIdx sCat sCut iQuo iRem iShl)
noncomputable section
namespace iL
def f(c:Nat)(a:fg)(b:Int):fm fg:=some (a,())
def E(c:Nat):Entry:=⟨[.str,(.int .i64)],[.str],fun x=>f c x.1 x.2.1⟩
theorem ok(c:Nat):Ok 232 (E c):=fo c tN fun x=>θ
end iL
namespace dX
def f(c:Nat)(a:TV)(b:Int):fm TV:=some (a,())
def E(c:Nat):Entry:=⟨[yV,(.int .i64)],[yV],fun x=>f c x.1 x.2.1⟩
theorem ok(c:Nat):Ok 53 (E c):=fo c tN fun x=>θ
end dX
namespace nR
def f(c:Nat)(a:TI)(b:Int):fm TI:=some (a,())
def E(c:Nat):Entry:=⟨[yI,(.int .i64)],[yI],fun x=>f c x.1 x.2.1⟩
theorem ok(c:Nat):Ok 152 (E c):=fo c tN fun x=>θ
end nR
namespace fF
def f(c:Nat)(a:fg)(b:Int):fm fg:=some (a,())
def E(c:Nat):Entry:=⟨[.str,(.int .i64)],[.str],fun x=>f c x.1 x.2.1⟩
theorem ok(c:Nat):Ok 153 (E c):=fo c tN fun x=>θ
end fF
end
end Go.Q
