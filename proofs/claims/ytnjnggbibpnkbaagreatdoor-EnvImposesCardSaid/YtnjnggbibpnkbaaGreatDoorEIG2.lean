import Derived.Test.YtnjnggbibpnkbaaGreatDoorEIG1
set_option linter.all false
set_option maxRecDepth 100000
namespace Go.Q
open Go.IntKind (i64)
open Go Go.RowKit
open Go.Rx (br bd sIdx sCat sCut iQuo iRem iShl)
noncomputable section
namespace ay
def anns:FuncId→FA:=annsL [(311,⟨annOf [(0,⟨kx 101 [0,8,9,10],[⟨.tmp 9,(.int .i64),3⟩],[2]⟩,⟨kx 101 [4,5,8,9,10],[⟨.tmp 9,(.int .i64),3⟩],[2]⟩),(1,⟨kx 101 [8,9,10,11,12,13],[],[]⟩,⟨kx 101 [4,5,8,9,12],[],[]⟩)],none,[]⟩),(313,⟨annOf [(0,⟨kx 63 [1,5,17,18,19],[],[]⟩,⟨kx 63 [4,5],[],[]⟩),(1,⟨kx 63 [1,5,6,7,8,17,18,19,24,25,26],[],[]⟩,⟨kx 63 [1,4,5,6,8,17,18,19],[],[]⟩)],none,[12]⟩),(333,⟨annOf [(0,⟨kx 21 [0],[],[]⟩,⟨kx 21 [0,2],[],[]⟩)],none,[11]⟩),(334,⟨annOf [(0,⟨kx 106 [0,1,5,7,8],[],[]⟩,⟨kx 106 [0,1,4,5,7],[],[]⟩),(1,⟨kx 106 [0,1,5,7,9,78,79],[],[]⟩,⟨kx 106 [4,7],[],[]⟩)],none,[]⟩),(356,⟨annOf [(0,⟨kx 49 [0,1,2,7,11,12],[],[]⟩,⟨kx 49 [6,7],[],[]⟩)],none,[]⟩)]
def r1{ρ:Type}(c:Nat)(m n:Int)(q:fi)(r s p:Int)(o:fi)(l j:Int)(k:fi)(K:Int→Int→fi→Option ρ)(E0:Int→fi→Option ρ):Option ρ:=br (decide (j < p)) (bd (idxB o.length j) fun a=>bd (o[a]?) fun b=>bd (idxB k.length (i64.wrap (m+j))) fun d=>bd (k[d]?) fun e=>bd (iRem (i64.wrap (l+(i64.wrap (e+(i64.wrap (n*b)))))) 1000000000) fun f=>bd (iQuo .i64 (i64.wrap (l+(i64.wrap (e+(i64.wrap (n*b)))))) 1000000000) fun g=>bd (idxB k.length (i64.wrap (m+j))) fun h=>bd (upE k h fun _=>some f) fun i =>
 K g (i64.wrap (j+1)) i) (
 E0 l k)
def l1(c:Nat)(a b:Int)(d:fi)(e f g:Int)(h:fi):Nat→Int→Int→fi→Option ((Int×fi×Unit)×Unit)
 | 0,_,_,_=>none
 | n+1,v2,v7,v9=>r1 c a b d e f g h v2 v7 v9 (l1 c a b d e f g h n) (fun i j=>some ((i,j,()),()))
def sh1:ShS:=⟨[.a 1,.s (.row 0),.a 3,.s (.row 1),.s (.int .i64),.s (.int .i64),.s (.int .i64),.a 8,.s (.sl (.int .i64)),.s (.int .i64),.s (.int .i64),.a 4,.s (.row 0),.s (.int .i64),.s (.int .i64),.a 36],[.row (.int .i64) 3 false,.row (.int .i64) 3 false]⟩
def S1(p:Int×Int×Int×fi×Int×Int×Int×Int×fi×fi×Unit):St:=sh1.b p
def xh0:ShS:=⟨[.a 1,.s (.row 0),.a 3,.s (.row 1),.s (.int .i64),.a 1,.s (.int .i64),.a 8,.s (.sl (.int .i64)),.s (.int .i64),.s (.int .i64),.a 43],[.row (.int .i64) 3 false,.row (.int .i64) 3 false]⟩
def o1(a g:Int)(c:fi)(d e h:Int)(f:fi)(y:(Int×fi×Unit)×Unit):Alt:=.one (.exit 2) (xh0.b (a,y.1.1,c,d,e,f,y.1.2.1,()))
def r0{ρ:Type}(c:Nat)(h:fi)(i:Int)(g:fi)(f:Int)(j:fi)(K:Int→fi→Option ρ)(E0:fi→Option ρ):Option ρ:=br (decide (f < i)) (bd (idxL h f) fun a=>bd (l1 c f a h i f (g.length:Int) g (c+40) 0 0 j) fun b=>bd (idxB b.1.2.1.length (i64.wrap (f+(g.length:Int)))) fun d=>bd (upE b.1.2.1 d fun _=>some b.1.1) fun e =>
 K (i64.wrap (f+1)) e) (
 E0 j)
def l0(c:Nat)(a:fi)(b:Int)(d:fi):Nat→Int→fi→Option ((fi×Unit)×Unit)
 | 0,_,_=>none
 | n+1,v2,v4=>r0 c a b d v2 v4 (l0 c a b d n) (fun e=>some ((e,()),()))
def sh0:ShS:=⟨[.a 1,.s (.row 0),.a 3,.s (.row 1),.a 11,.s (.sl (.int .i64)),.s (.int .i64),.s (.int .i64),.a 43],[.row (.int .i64) 3 false,.row (.int .i64) 3 false]⟩
def S0(p:fi×Int×Int×fi×fi×Unit):St:=sh0.b p
def xh1:ShS:=⟨[.a 5,.s (.row 1),.a 57],[.row (.int .i64) 3 false,.row (.int .i64) 3 false]⟩
def o0(c:fi)(d:Int)(a:fi)(y:(fi×Unit)×Unit):Alt:=.one (.exit 0) (xh1.b (a,y.1.1,()))
def r3{ρ:Type}(c:Nat)(g f:fi)(e:Nat)(K:Nat→Option ρ)(E0:Nat→fi→fi→Option ρ):Option ρ:=br (decide (((e:Nat):Int) > 0)) (bd (idxB e (i64.wrap (((e:Nat):Int)-1))) fun a=>bd (f[(0+a)]?) fun b=>br (b==0) (bd (cutB e none (some (i64.wrap (((e:Nat):Int)-1)))) fun d =>
 K d.2) (
 E0 e g f)) (
 E0 e g f)
def l3(c:Nat)(a b:fi):Nat→Nat→Option ((Nat×fi×fi×Unit)×Unit)
 | 0,_=>none
 | n+1,v0=>r3 c a b v0 (l3 c a b n) (fun d e f=>some ((d,e,f,()),()))
def sh3:ShS:=⟨[.s (.p0 1 1),.a 20],[.row (.int .i64) 3 false,.row (.int .i64) 3 false]⟩
def S3(p:Nat×fi×fi×Unit):St:=sh3.b p
def xh2:ShS:=⟨[.s (.p0 1 1),.a 20],[.row (.int .i64) 3 false,.row (.int .i64) 3 false]⟩
def o3(a c:fi)(y:(Nat×fi×fi×Unit)×Unit):Alt:=.one (.exit 0) (xh2.b (y.1.1,y.1.2.1,y.1.2.2.1,()))
def r2{ρ:Type}(c:Nat)(f e:fi)(g:Nat→fi→fi→Option ρ)(E0:fi→fi→Option ρ):Option ρ:=br (decide ((e.length:Int) > 0)) (bd (idxB e.length (i64.wrap ((e.length:Int)-1))) fun a=>bd (e[a]?) fun b=>br (b==0) (bd (cutB e.length none (some (i64.wrap ((e.length:Int)-1)))) fun d =>
 g d.2 f e) (
 E0 f e)) (
 E0 f e)
def l2(c:Nat)(b d:fi):Nat→Option (Bool×(fi×fi×Unit)×(Nat×fi×fi×Unit)×Unit)
 | 0=>none
 | n+1=>r2 c b d (fun g h i=>bd (l3 c h i n g) fun a=>some (false,([],[],()),((a.1.1,a.1.2.1,a.1.2.2.1,()),()))) (fun e f=>some (true,(e,f,()),((0,[],[],()),())))
def sh2:ShS:=⟨[.s (.row 1),.a 20],[.row (.int .i64) 3 false,.row (.int .i64) 3 false]⟩
def S2(p:fi×fi×Unit):St:=sh2.b p
def xh3:ShS:=⟨[.s (.row 1),.a 20],[.row (.int .i64) 3 false,.row (.int .i64) 3 false]⟩
def o2(a c:fi)(y:Bool×(fi×fi×Unit)×(Nat×fi×fi×Unit)×Unit):Alt:=.two y.1 (.one (.exit 0) (xh3.b (y.2.1.1,y.2.1.2.1,()))) (.one (.exit 0) (xh2.b (y.2.2.1.1,y.2.2.1.2.1,y.2.2.1.2.2.1,())))
def r5{ρ:Type}(c:Nat)(m n:Int)(r:fi)(s t q:Int)(o u p:fi)(l k:Int)(j:fi)(K:Int→Int→fi→Option ρ)(E0:Int→fi→Option ρ):Option ρ:=br (decide (k < q)) (bd (idxB o.length k) fun a=>bd (o[a]?) fun b=>bd (idxB j.length (i64.wrap (m+k))) fun d=>bd (j[d]?) fun e=>bd (iRem (i64.wrap (l+(i64.wrap (e+(i64.wrap (n*b)))))) 1000000000) fun f=>bd (iQuo .i64 (i64.wrap (l+(i64.wrap (e+(i64.wrap (n*b)))))) 1000000000) fun g=>bd (idxB j.length (i64.wrap (m+k))) fun h=>bd (upE j h fun _=>some f) fun i =>
 K g (i64.wrap (k+1)) i) (
 E0 l j)
def l5(c:Nat)(b d:Int)(e:fi)(f g h:Int)(i j a:fi):Nat→Int→Int→fi→Option ((Int×fi×Unit)×Unit)
 | 0,_,_,_=>none
 | n+1,v2,v7,v11=>r5 c b d e f g h i j a v2 v7 v11 (l5 c b d e f g h i j a n) (fun k l=>some ((k,l,()),()))
def sh5:ShS:=⟨[.a 1,.s (.row 0),.a 3,.s (.row 4),.s (.int .i64),.s (.int .i64),.s (.int .i64),.a 8,.s (.sl (.int .i64)),.s (.int .i64),.s (.int .i64),.a 4,.s (.row 0),.s (.int .i64),.s (.int .i64),.a 36],[.row (.int .i64) 3 false,.gone,.row (.int .i64) 3 false,.row (.int .i64) 3 false,.row (.int .i64) 3 false]⟩
def S5(p:Int×Int×Int×fi×Int×Int×Int×Int×fi×fi×fi×fi×Unit):St:=sh5.b p
def xh4:ShS:=⟨[.a 1,.s (.row 0),.a 3,.s (.row 4),.s (.int .i64),.a 1,.s (.int .i64),.a 8,.s (.sl (.int .i64)),.s (.int .i64),.s (.int .i64),.a 43],[.row (.int .i64) 3 false,.gone,.row (.int .i64) 3 false,.row (.int .i64) 3 false,.row (.int .i64) 3 false]⟩
def o5(c i:Int)(d:fi)(e f j:Int)(g h a:fi)(y:(Int×fi×Unit)×Unit):Alt:=.one (.exit 2) (xh4.b (c,y.1.1,d,e,f,g,h,a,y.1.2.1,()))
def r4{ρ:Type}(c:Nat)(h:fi)(i:Int)(g k l:fi)(f:Int)(j:fi)(K:Int→fi→Option ρ)(E0:fi→Option ρ):Option ρ:=br (decide (f < i)) (bd (idxL h f) fun a=>bd (l5 c f a h i f (g.length:Int) g k l (c+40) 0 0 j) fun b=>bd (idxB b.1.2.1.length (i64.wrap (f+(g.length:Int)))) fun d=>bd (upE b.1.2.1 d fun _=>some b.1.1) fun e =>
 K (i64.wrap (f+1)) e) (
 E0 j)
def l4(c:Nat)(a:fi)(b:Int)(d e f:fi):Nat→Int→fi→Option ((fi×Unit)×Unit)
 | 0,_,_=>none
 | n+1,v2,v6=>r4 c a b d e f v2 v6 (l4 c a b d e f n) (fun g=>some ((g,()),()))
def sh4:ShS:=⟨[.a 1,.s (.row 0),.a 3,.s (.row 4),.a 11,.s (.sl (.int .i64)),.s (.int .i64),.s (.int .i64),.a 43],[.row (.int .i64) 3 false,.gone,.row (.int .i64) 3 false,.row (.int .i64) 3 false,.row (.int .i64) 3 false]⟩
def S4(p:fi×Int×Int×fi×fi×fi×fi×Unit):St:=sh4.b p
def xh5:ShS:=⟨[.a 5,.s (.row 4),.a 57],[.row (.int .i64) 3 false,.gone,.row (.int .i64) 3 false,.row (.int .i64) 3 false,.row (.int .i64) 3 false]⟩
def o4(e:fi)(f:Int)(a c d:fi)(y:(fi×Unit)×Unit):Alt:=.one (.exit 0) (xh5.b (a,c,d,y.1.1,()))
def r7{ρ:Type}(c:Nat)(g h i f:fi)(e:Nat)(K:Nat→Option ρ)(E0:Nat→fi→fi→fi→fi→Option ρ):Option ρ:=br (decide (((e:Nat):Int) > 0)) (bd (idxB e (i64.wrap (((e:Nat):Int)-1))) fun a=>bd (f[(0+a)]?) fun b=>br (b==0) (bd (cutB e none (some (i64.wrap (((e:Nat):Int)-1)))) fun d =>
 K d.2) (
 E0 e g h i f)) (
 E0 e g h i f)
def l7(c:Nat)(a b d e:fi):Nat→Nat→Option ((Nat×fi×fi×fi×fi×Unit)×Unit)
 | 0,_=>none
 | n+1,v0=>r7 c a b d e v0 (l7 c a b d e n) (fun f g h i j=>some ((f,g,h,i,j,()),()))
def sh7:ShS:=⟨[.s (.p0 4 1),.a 20],[.row (.int .i64) 3 false,.gone,.row (.int .i64) 3 false,.row (.int .i64) 3 false,.row (.int .i64) 3 false]⟩
def S7(p:Nat×fi×fi×fi×fi×Unit):St:=sh7.b p
def xh6:ShS:=⟨[.s (.p0 4 1),.a 20],[.row (.int .i64) 3 false,.gone,.row (.int .i64) 3 false,.row (.int .i64) 3 false,.row (.int .i64) 3 false]⟩
def o7(a c d e:fi)(y:(Nat×fi×fi×fi×fi×Unit)×Unit):Alt:=.one (.exit 0) (xh6.b (y.1.1,y.1.2.1,y.1.2.2.1,y.1.2.2.2.1,y.1.2.2.2.2.1,()))
def r6{ρ:Type}(c:Nat)(f g h e:fi)(i:Nat→fi→fi→fi→fi→Option ρ)(E0:fi→fi→fi→fi→Option ρ):Option ρ:=br (decide ((e.length:Int) > 0)) (bd (idxB e.length (i64.wrap ((e.length:Int)-1))) fun a=>bd (e[a]?) fun b=>br (b==0) (bd (cutB e.length none (some (i64.wrap ((e.length:Int)-1)))) fun d =>
 i d.2 f g h e) (
 E0 f g h e)) (
 E0 f g h e)
def l6(c:Nat)(b d e f:fi):Nat→Option (Bool×(fi×fi×fi×fi×Unit)×(Nat×fi×fi×fi×fi×Unit)×Unit)
 | 0=>none
 | n+1=>r6 c b d e f (fun k l m o p=>bd (l7 c l m o p n k) fun a=>some (false,([],[],[],[],()),((a.1.1,a.1.2.1,a.1.2.2.1,a.1.2.2.2.1,a.1.2.2.2.2.1,()),()))) (fun g h i j=>some (true,(g,h,i,j,()),((0,[],[],[],[],()),())))
def sh6:ShS:=⟨[.s (.row 4),.a 20],[.row (.int .i64) 3 false,.gone,.row (.int .i64) 3 false,.row (.int .i64) 3 false,.row (.int .i64) 3 false]⟩
def S6(p:fi×fi×fi×fi×Unit):St:=sh6.b p
def xh7:ShS:=⟨[.s (.row 4),.a 20],[.row (.int .i64) 3 false,.gone,.row (.int .i64) 3 false,.row (.int .i64) 3 false,.row (.int .i64) 3 false]⟩
def o6(a c d e:fi)(y:Bool×(fi×fi×fi×fi×Unit)×(Nat×fi×fi×fi×fi×Unit)×Unit):Alt:=.two y.1 (.one (.exit 0) (xh7.b (y.2.1.1,y.2.1.2.1,y.2.1.2.2.1,y.2.1.2.2.2.1,()))) (.one (.exit 0) (xh6.b (y.2.2.1.1,y.2.2.1.2.1,y.2.2.1.2.2.1,y.2.2.1.2.2.2.1,y.2.2.1.2.2.2.2.1,())))
def r8{ρ:Type}(c:Nat)(d e f:fi)(b:fi)(K:fi→Option ρ)(E0:fi→Option ρ):Option ρ:=br (decide ((b.length:Int)≤(d.length:Int))) (bd (apL true 8 b [0]) fun a =>
 K a) (
 E0 b)
def l8(c:Nat)(a b d:fi):Nat→fi→Option ((fi×Unit)×Unit)
 | 0,_=>none
 | n+1,v3=>r8 c a b d v3 (l8 c a b d n) (fun e=>some ((e,()),()))
def sh8:ShS:=⟨[.s (.sl (.int .i64)),.a 7,.s (.row 0),.s (.row 5),.s (.row 4),.a 90],[.row (.int .i64) 3 false,.gone,.gone,.gone,.row (.int .i64) 3 false,.row (.int .i64) 3 false]⟩
def S8(p:fi×fi×fi×fi×Unit):St:=sh8.b p
def xh8:ShS:=⟨[.a 8,.s (.row 0),.s (.row 5),.s (.row 4),.a 90],[.row (.int .i64) 3 false,.gone,.gone,.gone,.row (.int .i64) 3 false,.row (.int .i64) 3 false]⟩
def o8(d a c:fi)(y:(fi×Unit)×Unit):Alt:=.one (.exit 0) (xh8.b (a,c,y.1.1,()))
def r10{ρ:Type}(c:Nat)(l m:Nat)(j:Int)(o i n p:fi)(h k:Int)(K:Int→Int→Option ρ)(E0:Int→Option ρ):Option ρ:=br (decide (k < 1000000000)) (bd (idxB i.length (i64.wrap (j-2))) fun a=>bd (i[a]?) fun b=>bd (idxB m (i64.wrap (j-2))) fun d=>bd (n[(l+d)]?) fun e=>br (decide ((i64.wrap (h*b)) >(i64.wrap ((i64.wrap (k*1000000000))+e)))) (bd (idxB i.length (i64.wrap (j-1))) fun f=>bd (i[f]?) fun g =>
 K (i64.wrap (h-1)) (i64.wrap (k+g))) (
 E0 h)) (
 E0 h)
def l10(c:Nat)(a b:Nat)(d:Int)(e f g h:fi):Nat→Int→Int→Option ((Int×Unit)×Unit)
 | 0,_,_=>none
 | n+1,v3,v4=>r10 c a b d e f g h v3 v4 (l10 c a b d e f g h n) (fun i=>some ((i,()),()))
def sh10:ShS:=⟨[.s (.p1 5 1),.s (.row 4),.a 3,.s (.int .i64),.a 1,.s (.int .i64),.s (.int .i64),.a 97],[.row (.int .i64) 3 false,.gone,.gone,.gone,.row (.int .i64) 3 false,.row (.int .i64) 3 false,.row (.int .i64) 3 false]⟩
def S10(p:Nat×Nat×Int×Int×Int×fi×fi×fi×fi×Unit):St:=sh10.b p
def xh9:ShS:=⟨[.s (.p1 5 1),.s (.row 4),.a 3,.s (.int .i64),.a 1,.s (.int .i64),.a 98],[.row (.int .i64) 3 false,.gone,.gone,.gone,.row (.int .i64) 3 false,.row (.int .i64) 3 false,.row (.int .i64) 3 false]⟩
def o10(a c:Nat)(d:Int)(e f g h:fi)(y:(Int×Unit)×Unit):Alt:=.one (.exit 0) (xh9.b (a,c,d,y.1.1,e,f,g,h,()))
def r11{ρ:Type}(c:Nat)(l m:Nat)(p q:Int)(r o s:fi)(n j:Int)(k:fi)(K:Int→Int→fi→Option ρ)(E0:Int→fi→Option ρ):Option ρ:=br (decide (j < q)) (br (decide (j < (o.length:Int))) (bd (idxB o.length j) fun a=>bd (o[a]?) fun b=>bd (idxB m j) fun d=>bd (k[(l+d)]?) fun e=>bd (iRem (i64.wrap (n+(i64.wrap (p*b)))) 1000000000) fun f=>bd (iQuo .i64 (i64.wrap (n+(i64.wrap (p*b)))) 1000000000) fun g=>br (decide ((i64.wrap (e-f)) < 0)) (bd (idxB m j) fun h=>bd (upE k (l+h) fun _=>some (i64.wrap ((i64.wrap (e-f))+1000000000))) fun i =>
 K (i64.wrap (g+1)) (i64.wrap (j+1)) i) (bd (idxB m j) fun h=>bd (upE k (l+h) fun _=>some (i64.wrap (e-f))) fun i =>
 K g (i64.wrap (j+1)) i)) (bd (idxB m j) fun a=>bd (k[(l+a)]?) fun b=>bd (iRem n 1000000000) fun d=>bd (iQuo .i64 n 1000000000) fun e=>br (decide ((i64.wrap (b-d)) < 0)) (bd (idxB m j) fun f=>bd (upE k (l+f) fun _=>some (i64.wrap ((i64.wrap (b-d))+1000000000))) fun g =>
 K (i64.wrap (e+1)) (i64.wrap (j+1)) g) (bd (idxB m j) fun f=>bd (upE k (l+f) fun _=>some (i64.wrap (b-d))) fun g =>
 K e (i64.wrap (j+1)) g))) (
 E0 n k)
def l11(c:Nat)(a b:Nat)(d e:Int)(f g h:fi):Nat→Int→Int→fi→Option ((Int×fi×Unit)×Unit)
 | 0,_,_,_=>none
 | n+1,v3,v5,v8=>r11 c a b d e f g h v3 v5 v8 (l11 c a b d e f g h n) (fun i j=>some ((i,j,()),()))
def sh11:ShS:=⟨[.s (.p1 5 1),.s (.row 4),.s (.int .i64),.a 4,.s (.int .i64),.a 3,.s (.int .i64),.s (.int .i64),.a 36],[.row (.int .i64) 3 false,.gone,.gone,.gone,.row (.int .i64) 3 false,.row (.int .i64) 3 false,.row (.int .i64) 3 false]⟩
def S11(p:Nat×Nat×Int×Int×Int×Int×fi×fi×fi×fi×Unit):St:=sh11.b p
def xh10:ShS:=⟨[.a 7,.s (.int .i64),.a 41],[.row (.int .i64) 3 false,.gone,.gone,.gone,.row (.int .i64) 3 false,.row (.int .i64) 3 false,.row (.int .i64) 3 false]⟩
def o11(e f:Nat)(g h:Int)(a c d:fi)(y:(Int×fi×Unit)×Unit):Alt:=.one (.exit 0) (xh10.b (y.1.1,a,c,y.1.2.1,d,()))
def r12{ρ:Type}(c:Nat)(m n:Nat)(q s r:Int)(t o p:fi)(k j:Int)(l:fi)(K:Int→Int→fi→Option ρ)(E0:fi→Option ρ):Option ρ:=br (decide (j < r)) (bd (idxB n j) fun a=>bd (l[(m+a)]?) fun b=>br (decide (j < q)) (bd (idxB o.length j) fun d=>bd (o[d]?) fun e=>bd (iRem (i64.wrap ((i64.wrap (k+b))+e)) 1000000000) fun f=>bd (iQuo .i64 (i64.wrap ((i64.wrap (k+b))+e)) 1000000000) fun g=>bd (idxB n j) fun h=>bd (upE l (m+h) fun _=>some f) fun i =>
 K g (i64.wrap (j+1)) i) (bd (iRem (i64.wrap (k+b)) 1000000000) fun d=>bd (iQuo .i64 (i64.wrap (k+b)) 1000000000) fun e=>bd (idxB n j) fun f=>bd (upE l (m+f) fun _=>some d) fun g =>
 K e (i64.wrap (j+1)) g)) (
 E0 l)
def l12(c:Nat)(b d:Nat)(e f g:Int)(h i a:fi):Nat→Int→Int→fi→Option ((fi×Unit)×Unit)
 | 0,_,_,_=>none
 | n+1,v4,v6,v9=>r12 c b d e f g h i a v4 v6 v9 (l12 c b d e f g h i a n) (fun j=>some ((j,()),()))
def sh12:ShS:=⟨[.s (.p1 5 1),.s (.row 4),.a 3,.s (.int .i64),.a 1,.s (.int .i64),.a 1,.s (.int .i64),.a 68,.s (.int .i64),.s (.int .i64),.a 26],[.row (.int .i64) 3 false,.gone,.gone,.gone,.row (.int .i64) 3 false,.row (.int .i64) 3 false,.row (.int .i64) 3 false]⟩
def S12(p:Nat×Nat×Int×Int×Int×Int×Int×fi×fi×fi×fi×Unit):St:=sh12.b p
def xh11:ShS:=⟨[.a 7,.s (.int .i64),.a 98],[.row (.int .i64) 3 false,.gone,.gone,.gone,.row (.int .i64) 3 false,.row (.int .i64) 3 false,.row (.int .i64) 3 false]⟩
def o12(f g:Nat)(h c i:Int)(d e a:fi)(y:(fi×Unit)×Unit):Alt:=.one (.exit 2) (xh11.b (c,d,e,y.1.1,a,()))
def r9{ρ:Type}(c:Nat)(v:Int)(u q:fi)(s:Int)(t r:fi)(K:Int→fi→fi→Option ρ)(E0:fi→fi→Option ρ):Option ρ:=br (decide (s≥0)) (bd (cutB t.length (some s) (some (i64.wrap ((i64.wrap (s+v))+1)))) fun a=>bd (idxB a.2 (q.length:Int)) fun b=>bd (t[((0+a.1)+b)]?) fun d=>bd (idxB a.2 (i64.wrap ((q.length:Int)-1))) fun e=>bd (t[((0+a.1)+e)]?) fun f=>bd (idxB q.length (i64.wrap ((q.length:Int)-1))) fun g=>bd (q[g]?) fun h=>bd (iQuo .i64 (i64.wrap ((i64.wrap (d*1000000000))+f)) h) fun i=>bd (idxB q.length (i64.wrap ((q.length:Int)-1))) fun j=>bd (q[j]?) fun k=>bd (l10 c (0+a.1) a.2 (q.length:Int) u q t r (c+40) (if 999999999 < i then 999999999 else i) (i64.wrap ((i64.wrap ((i64.wrap (d*1000000000))+f))-(i64.wrap ((if 999999999 < i then 999999999 else i)*k))))) fun l=>bd (l11 c (0+a.1) a.2 l.1.1 ((a.2:Nat):Int) u q r (c+40) 0 0 t) fun m=>br (!(m.1.1==0)) (bd (l12 c (0+a.1) a.2 (q.length:Int) (i64.wrap (l.1.1-1)) ((a.2:Nat):Int) u q r (c+40) 0 0 m.1.2.1) fun n=>bd (idxB r.length s) fun o=>bd (upE r o fun _=>some (i64.wrap (l.1.1-1))) fun p =>
 K (i64.wrap (s-1)) n.1.1 p) (bd (idxB r.length s) fun n=>bd (upE r n fun _=>some l.1.1) fun o =>
 K (i64.wrap (s-1)) m.1.2.1 o)) (
 E0 t r)
def l9(c:Nat)(a:Int)(b d:fi):Nat→Int→fi→fi→Option ((fi×fi×Unit)×Unit)
 | 0,_,_,_=>none
 | n+1,v1,v4,v5=>r9 c a b d v1 v4 v5 (l9 c a b d n) (fun e f=>some ((e,f,()),()))
def sh9:ShS:=⟨[.a 8,.s (.row 0),.s (.row 5),.s (.row 4),.s (.int .i64),.s (.row 6),.s (.int .i64),.a 87],[.row (.int .i64) 3 false,.gone,.gone,.gone,.row (.int .i64) 3 false,.row (.int .i64) 3 false,.row (.int .i64) 3 false]⟩
def S9(p:Int×Int×fi×fi×fi×fi×Unit):St:=sh9.b p
def xh12:ShS:=⟨[.a 8,.s (.row 0),.s (.row 5),.a 2,.s (.row 6),.a 88],[.row (.int .i64) 3 false,.gone,.gone,.gone,.row (.int .i64) 3 false,.row (.int .i64) 3 false,.row (.int .i64) 3 false]⟩
def o9(d:Int)(a c:fi)(y:(fi×fi×Unit)×Unit):Alt:=.one (.exit 2) (xh12.b (a,c,y.1.1,y.1.2.1,()))
def r13{ρ:Type}(c:Nat)(d:fi)(e:Nat)(f g:fi)(b:fi)(K:fi→Option ρ)(E0:fi→Option ρ):Option ρ:=br (decide ((b.length:Int)≤(d.length:Int))) (bd (apL true 8 b [0]) fun a =>
 K a) (
 E0 b)
def l13(c:Nat)(a:fi)(b:Nat)(d e:fi):Nat→fi→Option ((fi×Unit)×Unit)
 | 0,_=>none
 | n+1,v4=>r13 c a b d e v4 (l13 c a b d e n) (fun f=>some ((f,()),()))
def sh13:ShS:=⟨[.s (.sl (.int .i64)),.a 7,.s (.row 0),.s (.row 5),.s (.p0 4 1),.a 90],[.row (.int .i64) 3 false,.gone,.gone,.gone,.row (.int .i64) 3 false,.row (.int .i64) 3 false]⟩
def S13(p:fi×Nat×fi×fi×fi×Unit):St:=sh13.b p
def xh13:ShS:=⟨[.a 8,.s (.row 0),.s (.row 5),.s (.p0 4 1),.a 90],[.row (.int .i64) 3 false,.gone,.gone,.gone,.row (.int .i64) 3 false,.row (.int .i64) 3 false]⟩
def o13(e:fi)(a:Nat)(c d:fi)(y:(fi×Unit)×Unit):Alt:=.one (.exit 0) (xh13.b (a,c,d,y.1.1,()))
def r15{ρ:Type}(c:Nat)(m n k:Nat)(i:Int)(p l o q:fi)(h j:Int)(K:Int→Int→Option ρ)(E0:Int→Option ρ):Option ρ:=br (decide (j < 1000000000)) (bd (idxB k (i64.wrap (i-2))) fun a=>bd (l[(0+a)]?) fun b=>bd (idxB n (i64.wrap (i-2))) fun d=>bd (o[(m+d)]?) fun e=>br (decide ((i64.wrap (h*b)) >(i64.wrap ((i64.wrap (j*1000000000))+e)))) (bd (idxB k (i64.wrap (i-1))) fun f=>bd (l[(0+f)]?) fun g =>
 K (i64.wrap (h-1)) (i64.wrap (j+g))) (
 E0 h)) (
 E0 h)
def l15(c:Nat)(a b d:Nat)(e:Int)(f g h i:fi):Nat→Int→Int→Option ((Int×Unit)×Unit)
 | 0,_,_=>none
 | n+1,v4,v5=>r15 c a b d e f g h i v4 v5 (l15 c a b d e f g h i n) (fun j=>some ((j,()),()))
def sh15:ShS:=⟨[.s (.p1 5 1),.s (.p0 4 1),.a 3,.s (.int .i64),.a 1,.s (.int .i64),.s (.int .i64),.a 97],[.row (.int .i64) 3 false,.gone,.gone,.gone,.row (.int .i64) 3 false,.row (.int .i64) 3 false,.row (.int .i64) 3 false]⟩
def S15(p:Nat×Nat×Nat×Int×Int×Int×fi×fi×fi×fi×Unit):St:=sh15.b p
def xh14:ShS:=⟨[.s (.p1 5 1),.s (.p0 4 1),.a 3,.s (.int .i64),.a 1,.s (.int .i64),.a 98],[.row (.int .i64) 3 false,.gone,.gone,.gone,.row (.int .i64) 3 false,.row (.int .i64) 3 false,.row (.int .i64) 3 false]⟩
def o15(a c d:Nat)(e:Int)(f g h i:fi)(y:(Int×Unit)×Unit):Alt:=.one (.exit 0) (xh14.b (a,c,d,e,y.1.1,f,g,h,i,()))
def r16{ρ:Type}(c:Nat)(l m o:Nat)(p r:Int)(t s q:fi)(n j:Int)(k:fi)(K:Int→Int→fi→Option ρ)(E0:Int→fi→Option ρ):Option ρ:=br (decide (j < r)) (br (decide (j < ((o:Nat):Int))) (bd (idxB o j) fun a=>bd (s[(0+a)]?) fun b=>bd (idxB m j) fun d=>bd (k[(l+d)]?) fun e=>bd (iRem (i64.wrap (n+(i64.wrap (p*b)))) 1000000000) fun f=>bd (iQuo .i64 (i64.wrap (n+(i64.wrap (p*b)))) 1000000000) fun g=>br (decide ((i64.wrap (e-f)) < 0)) (bd (idxB m j) fun h=>bd (upE k (l+h) fun _=>some (i64.wrap ((i64.wrap (e-f))+1000000000))) fun i =>
 K (i64.wrap (g+1)) (i64.wrap (j+1)) i) (bd (idxB m j) fun h=>bd (upE k (l+h) fun _=>some (i64.wrap (e-f))) fun i =>
 K g (i64.wrap (j+1)) i)) (bd (idxB m j) fun a=>bd (k[(l+a)]?) fun b=>bd (iRem n 1000000000) fun d=>bd (iQuo .i64 n 1000000000) fun e=>br (decide ((i64.wrap (b-d)) < 0)) (bd (idxB m j) fun f=>bd (upE k (l+f) fun _=>some (i64.wrap ((i64.wrap (b-d))+1000000000))) fun g =>
 K (i64.wrap (e+1)) (i64.wrap (j+1)) g) (bd (idxB m j) fun f=>bd (upE k (l+f) fun _=>some (i64.wrap (b-d))) fun g =>
 K e (i64.wrap (j+1)) g))) (
 E0 n k)
def l16(c:Nat)(b d e:Nat)(f g:Int)(h i a:fi):Nat→Int→Int→fi→Option ((Int×fi×Unit)×Unit)
 | 0,_,_,_=>none
 | n+1,v4,v6,v9=>r16 c b d e f g h i a v4 v6 v9 (l16 c b d e f g h i a n) (fun j k=>some ((j,k,()),()))
def sh16:ShS:=⟨[.s (.p1 5 1),.s (.p0 4 1),.s (.int .i64),.a 4,.s (.int .i64),.a 3,.s (.int .i64),.s (.int .i64),.a 36],[.row (.int .i64) 3 false,.gone,.gone,.gone,.row (.int .i64) 3 false,.row (.int .i64) 3 false,.row (.int .i64) 3 false]⟩
def S16(p:Nat×Nat×Nat×Int×Int×Int×Int×fi×fi×fi×fi×Unit):St:=sh16.b p
def o16(e f g:Nat)(h i:Int)(c d a:fi)(y:(Int×fi×Unit)×Unit):Alt:=.one (.exit 0) (xh10.b (y.1.1,c,d,y.1.2.1,a,()))
def r17{ρ:Type}(c:Nat)(m n p:Nat)(q t r:Int)(u s o:fi)(l k:Int)(j:fi)(K:Int→Int→fi→Option ρ)(E0:fi→Option ρ):Option ρ:=br (decide (k < r)) (bd (idxB n k) fun a=>bd (j[(m+a)]?) fun b=>br (decide (k < q)) (bd (idxB p k) fun d=>bd (s[(0+d)]?) fun e=>bd (iRem (i64.wrap ((i64.wrap (l+b))+e)) 1000000000) fun f=>bd (iQuo .i64 (i64.wrap ((i64.wrap (l+b))+e)) 1000000000) fun g=>bd (idxB n k) fun h=>bd (upE j (m+h) fun _=>some f) fun i =>
 K g (i64.wrap (k+1)) i) (bd (iRem (i64.wrap (l+b)) 1000000000) fun d=>bd (iQuo .i64 (i64.wrap (l+b)) 1000000000) fun e=>bd (idxB n k) fun f=>bd (upE j (m+f) fun _=>some d) fun g =>
 K e (i64.wrap (k+1)) g)) (
 E0 j)
def l17(c:Nat)(b d e:Nat)(f g h:Int)(i j a:fi):Nat→Int→Int→fi→Option ((fi×Unit)×Unit)
 | 0,_,_,_=>none
 | n+1,v5,v7,v10=>r17 c b d e f g h i j a v5 v7 v10 (l17 c b d e f g h i j a n) (fun k=>some ((k,()),()))
def sh17:ShS:=⟨[.s (.p1 5 1),.s (.p0 4 1),.a 3,.s (.int .i64),.a 1,.s (.int .i64),.a 1,.s (.int .i64),.a 68,.s (.int .i64),.s (.int .i64),.a 26],[.row (.int .i64) 3 false,.gone,.gone,.gone,.row (.int .i64) 3 false,.row (.int .i64) 3 false,.row (.int .i64) 3 false]⟩
def S17(p:Nat×Nat×Nat×Int×Int×Int×Int×Int×fi×fi×fi×fi×Unit):St:=sh17.b p
def o17(f g h:Nat)(i c j:Int)(d e a:fi)(y:(fi×Unit)×Unit):Alt:=.one (.exit 2) (xh11.b (c,d,e,y.1.1,a,()))
def r14{ρ:Type}(c:Nat)(q:Nat)(w:Int)(v u:fi)(s:Int)(t r:fi)(K:Int→fi→fi→Option ρ)(E0:fi→fi→Option ρ):Option ρ:=br (decide (s≥0)) (bd (cutB t.length (some s) (some (i64.wrap ((i64.wrap (s+w))+1)))) fun a=>bd (idxB a.2 ((q:Nat):Int)) fun b=>bd (t[((0+a.1)+b)]?) fun d=>bd (idxB a.2 (i64.wrap (((q:Nat):Int)-1))) fun e=>bd (t[((0+a.1)+e)]?) fun f=>bd (idxB q (i64.wrap (((q:Nat):Int)-1))) fun g=>bd (u[(0+g)]?) fun h=>bd (iQuo .i64 (i64.wrap ((i64.wrap (d*1000000000))+f)) h) fun i=>bd (idxB q (i64.wrap (((q:Nat):Int)-1))) fun j=>bd (u[(0+j)]?) fun k=>bd (l15 c (0+a.1) a.2 q ((q:Nat):Int) v u t r (c+40) (if 999999999 < i then 999999999 else i) (i64.wrap ((i64.wrap ((i64.wrap (d*1000000000))+f))-(i64.wrap ((if 999999999 < i then 999999999 else i)*k))))) fun l=>bd (l16 c (0+a.1) a.2 q l.1.1 ((a.2:Nat):Int) v u r (c+40) 0 0 t) fun m=>br (!(m.1.1==0)) (bd (l17 c (0+a.1) a.2 q ((q:Nat):Int) (i64.wrap (l.1.1-1)) ((a.2:Nat):Int) v u r (c+40) 0 0 m.1.2.1) fun n=>bd (idxB r.length s) fun o=>bd (upE r o fun _=>some (i64.wrap (l.1.1-1))) fun p =>
 K (i64.wrap (s-1)) n.1.1 p) (bd (idxB r.length s) fun n=>bd (upE r n fun _=>some l.1.1) fun o =>
 K (i64.wrap (s-1)) m.1.2.1 o)) (
 E0 t r)
def l14(c:Nat)(a:Nat)(b:Int)(d e:fi):Nat→Int→fi→fi→Option ((fi×fi×Unit)×Unit)
 | 0,_,_,_=>none
 | n+1,v2,v5,v6=>r14 c a b d e v2 v5 v6 (l14 c a b d e n) (fun f g=>some ((f,g,()),()))
def sh14:ShS:=⟨[.a 8,.s (.row 0),.s (.row 5),.s (.p0 4 1),.s (.int .i64),.s (.row 6),.s (.int .i64),.a 87],[.row (.int .i64) 3 false,.gone,.gone,.gone,.row (.int .i64) 3 false,.row (.int .i64) 3 false,.row (.int .i64) 3 false]⟩
def S14(p:Nat×Int×Int×fi×fi×fi×fi×Unit):St:=sh14.b p
def o14(d:Nat)(e:Int)(a c:fi)(y:(fi×fi×Unit)×Unit):Alt:=.one (.exit 2) (xh12.b (a,c,y.1.1,y.1.2.1,()))
def tb(c:Nat):List (FuncId×Entry):=[(331,iM.E c),(332,iw.E c),(333,bM.E c)]
def zM(c:Nat):List (Nat×(St→Option LTE)):=[(0,sumE sh0 fun(p:fi×Int×Int×fi×fi×Unit)=>⟨(fi×Unit)×Unit,l0 c p.1 p.2.1 p.2.2.2.1 (c+40) p.2.2.1 p.2.2.2.2.1,o0 p.1 p.2.1 p.2.2.2.1⟩),
 (0,sumE sh4 fun(p:fi×Int×Int×fi×fi×fi×fi×Unit)=>⟨(fi×Unit)×Unit,l4 c p.1 p.2.1 p.2.2.2.1 p.2.2.2.2.1 p.2.2.2.2.2.1 (c+40) p.2.2.1 p.2.2.2.2.2.2.1,o4 p.1 p.2.1 p.2.2.2.1 p.2.2.2.2.1 p.2.2.2.2.2.1⟩),
 (1,sumE sh1 fun(p:Int×Int×Int×fi×Int×Int×Int×Int×fi×fi×Unit)=>⟨(Int×fi×Unit)×Unit,l1 c p.1 p.2.1 p.2.2.2.1 p.2.2.2.2.1 p.2.2.2.2.2.1 p.2.2.2.2.2.2.1 p.2.2.2.2.2.2.2.2.1 (c+40) p.2.2.1 p.2.2.2.2.2.2.2.1 p.2.2.2.2.2.2.2.2.2.1,o1 p.1 p.2.1 p.2.2.2.1 p.2.2.2.2.1 p.2.2.2.2.2.1 p.2.2.2.2.2.2.1 p.2.2.2.2.2.2.2.2.1⟩),
 (1,sumE sh5 fun(p:Int×Int×Int×fi×Int×Int×Int×Int×fi×fi×fi×fi×Unit)=>⟨(Int×fi×Unit)×Unit,l5 c p.1 p.2.1 p.2.2.2.1 p.2.2.2.2.1 p.2.2.2.2.2.1 p.2.2.2.2.2.2.1 p.2.2.2.2.2.2.2.2.1 p.2.2.2.2.2.2.2.2.2.1 p.2.2.2.2.2.2.2.2.2.2.1 (c+40) p.2.2.1 p.2.2.2.2.2.2.2.1 p.2.2.2.2.2.2.2.2.2.2.2.1,o5 p.1 p.2.1 p.2.2.2.1 p.2.2.2.2.1 p.2.2.2.2.2.1 p.2.2.2.2.2.2.1 p.2.2.2.2.2.2.2.2.1 p.2.2.2.2.2.2.2.2.2.1 p.2.2.2.2.2.2.2.2.2.2.1⟩)]
def zL(c:Nat):List (Nat×(St→Option LTE)):=[(0,sumE sh3 fun(p:Nat×fi×fi×Unit)=>⟨(Nat×fi×fi×Unit)×Unit,l3 c p.2.1 p.2.2.1 (c+40) p.1,o3 p.2.1 p.2.2.1⟩),
 (0,sumE sh2 fun(p:fi×fi×Unit)=>⟨Bool×(fi×fi×Unit)×(Nat×fi×fi×Unit)×Unit,l2 c p.1 p.2.1 (c+40),o2 p.1 p.2.1⟩),
 (0,sumE sh7 fun(p:Nat×fi×fi×fi×fi×Unit)=>⟨(Nat×fi×fi×fi×fi×Unit)×Unit,l7 c p.2.1 p.2.2.1 p.2.2.2.1 p.2.2.2.2.1 (c+40) p.1,o7 p.2.1 p.2.2.1 p.2.2.2.1 p.2.2.2.2.1⟩),
 (0,sumE sh6 fun(p:fi×fi×fi×fi×Unit)=>⟨Bool×(fi×fi×fi×fi×Unit)×(Nat×fi×fi×fi×fi×Unit)×Unit,l6 c p.1 p.2.1 p.2.2.1 p.2.2.2.1 (c+40),o6 p.1 p.2.1 p.2.2.1 p.2.2.2.1⟩)]
def zO(c:Nat):List (Nat×(St→Option LTE)):=[(0,sumE sh8 fun(p:fi×fi×fi×fi×Unit)=>⟨(fi×Unit)×Unit,l8 c p.1 p.2.1 p.2.2.1 (c+40) p.2.2.2.1,o8 p.1 p.2.1 p.2.2.1⟩),
 (0,sumE sh13 fun(p:fi×Nat×fi×fi×fi×Unit)=>⟨(fi×Unit)×Unit,l13 c p.1 p.2.1 p.2.2.1 p.2.2.2.1 (c+40) p.2.2.2.2.1,o13 p.1 p.2.1 p.2.2.1 p.2.2.2.1⟩),
 (1,sumE sh9 fun(p:Int×Int×fi×fi×fi×fi×Unit)=>⟨(fi×fi×Unit)×Unit,l9 c p.1 p.2.2.1 p.2.2.2.1 (c+40) p.2.1 p.2.2.2.2.1 p.2.2.2.2.2.1,o9 p.1 p.2.2.1 p.2.2.2.1⟩),
 (1,sumE sh14 fun(p:Nat×Int×Int×fi×fi×fi×fi×Unit)=>⟨(fi×fi×Unit)×Unit,l14 c p.1 p.2.1 p.2.2.2.1 p.2.2.2.2.1 (c+40) p.2.2.1 p.2.2.2.2.2.1 p.2.2.2.2.2.2.1,o14 p.1 p.2.1 p.2.2.2.1 p.2.2.2.2.1⟩)]
def zN(c:Nat):List (Nat×(St→Option LTE)):=[(0,sumE sh10 fun(p:Nat×Nat×Int×Int×Int×fi×fi×fi×fi×Unit)=>⟨(Int×Unit)×Unit,l10 c p.1 p.2.1 p.2.2.1 p.2.2.2.2.2.1 p.2.2.2.2.2.2.1 p.2.2.2.2.2.2.2.1 p.2.2.2.2.2.2.2.2.1 (c+40) p.2.2.2.1 p.2.2.2.2.1,o10 p.1 p.2.1 p.2.2.1 p.2.2.2.2.2.1 p.2.2.2.2.2.2.1 p.2.2.2.2.2.2.2.1 p.2.2.2.2.2.2.2.2.1⟩),
 (0,sumE sh15 fun(p:Nat×Nat×Nat×Int×Int×Int×fi×fi×fi×fi×Unit)=>⟨(Int×Unit)×Unit,l15 c p.1 p.2.1 p.2.2.1 p.2.2.2.1 p.2.2.2.2.2.2.1 p.2.2.2.2.2.2.2.1 p.2.2.2.2.2.2.2.2.1 p.2.2.2.2.2.2.2.2.2.1 (c+40) p.2.2.2.2.1 p.2.2.2.2.2.1,o15 p.1 p.2.1 p.2.2.1 p.2.2.2.1 p.2.2.2.2.2.2.1 p.2.2.2.2.2.2.2.1 p.2.2.2.2.2.2.2.2.1 p.2.2.2.2.2.2.2.2.2.1⟩),
 (1,sumE sh12 fun(p:Nat×Nat×Int×Int×Int×Int×Int×fi×fi×fi×fi×Unit)=>⟨(fi×Unit)×Unit,l12 c p.1 p.2.1 p.2.2.1 p.2.2.2.1 p.2.2.2.2.2.1 p.2.2.2.2.2.2.2.1 p.2.2.2.2.2.2.2.2.1 p.2.2.2.2.2.2.2.2.2.2.1 (c+40) p.2.2.2.2.1 p.2.2.2.2.2.2.1 p.2.2.2.2.2.2.2.2.2.1,o12 p.1 p.2.1 p.2.2.1 p.2.2.2.1 p.2.2.2.2.2.1 p.2.2.2.2.2.2.2.1 p.2.2.2.2.2.2.2.2.1 p.2.2.2.2.2.2.2.2.2.2.1⟩),
 (1,sumE sh17 fun(p:Nat×Nat×Nat×Int×Int×Int×Int×Int×fi×fi×fi×fi×Unit)=>⟨(fi×Unit)×Unit,l17 c p.1 p.2.1 p.2.2.1 p.2.2.2.1 p.2.2.2.2.1 p.2.2.2.2.2.2.1 p.2.2.2.2.2.2.2.2.1 p.2.2.2.2.2.2.2.2.2.1 p.2.2.2.2.2.2.2.2.2.2.2.1 (c+40) p.2.2.2.2.2.1 p.2.2.2.2.2.2.2.1 p.2.2.2.2.2.2.2.2.2.2.1,o17 p.1 p.2.1 p.2.2.1 p.2.2.2.1 p.2.2.2.2.1 p.2.2.2.2.2.2.1 p.2.2.2.2.2.2.2.2.1 p.2.2.2.2.2.2.2.2.2.1 p.2.2.2.2.2.2.2.2.2.2.2.1⟩)]
def acJ(c:Nat):List (Nat×(St→Option LTE)):=[(0,sumE sh11 fun(p:Nat×Nat×Int×Int×Int×Int×fi×fi×fi×fi×Unit)=>⟨(Int×fi×Unit)×Unit,l11 c p.1 p.2.1 p.2.2.1 p.2.2.2.2.1 p.2.2.2.2.2.2.1 p.2.2.2.2.2.2.2.1 p.2.2.2.2.2.2.2.2.2.1 (c+40) p.2.2.2.1 p.2.2.2.2.2.1 p.2.2.2.2.2.2.2.2.1,o11 p.1 p.2.1 p.2.2.1 p.2.2.2.2.1 p.2.2.2.2.2.2.1 p.2.2.2.2.2.2.2.1 p.2.2.2.2.2.2.2.2.2.1⟩),
 (0,sumE sh16 fun(p:Nat×Nat×Nat×Int×Int×Int×Int×fi×fi×fi×fi×Unit)=>⟨(Int×fi×Unit)×Unit,l16 c p.1 p.2.1 p.2.2.1 p.2.2.2.1 p.2.2.2.2.2.1 p.2.2.2.2.2.2.2.1 p.2.2.2.2.2.2.2.2.1 p.2.2.2.2.2.2.2.2.2.2.1 (c+40) p.2.2.2.2.1 p.2.2.2.2.2.2.1 p.2.2.2.2.2.2.2.2.2.1,o16 p.1 p.2.1 p.2.2.1 p.2.2.2.1 p.2.2.2.2.2.1 p.2.2.2.2.2.2.2.1 p.2.2.2.2.2.2.2.2.1 p.2.2.2.2.2.2.2.2.2.2.1⟩)]
def ls(c:Nat):List (Nat×FuncId×Sums):=[(12,313,sumsL (zM c)),(11,333,sumsL (zL c)),(13,311,sumsL (zO c)),(12,334,sumsL (zN c)),(11,356,sumsL (acJ c))]
def it1{ρ:Type}(c n:Nat)(a:St)(k:KE ρ):Option ρ:=itG anns (ls c) (tb c) c 12 313 1 2 (sumsL (zM c)) n a k
theorem t1{ρ:Type}(c n:Nat)(a h j:Int)(d:fi)(e f i l:Int)(g m:fi)(k:KE ρ):it1 c (n+1) (S1 (a,h,j,d,e,f,i,l,g,m,())) k=r1 c a h d e f i g j l m (fun q r s=>it1 c n (S1 (a,h,q,d,e,f,i,r,g,s,())) k) (fun o p=>k (.exit 2) (xh0.b (a,o,d,e,f,g,p,()))):=θ
theorem u1{ρ:Type}(c:Nat)(a b:Int)(d:fi)(e f g:Int)(h:fi)(k:KE ρ):∀ (n:Nat) (i j:Int) (l:fi),it1 c n (S1 (a,b,i,d,e,f,g,j,h,l,())) k=bd (l1 c a b d e f g h n i j l) fun y=>altK k (o1 a b d e f g h y)
 | 0,_,_,_=>by rw[l1,bd_none];rfl
 | n+1,i,j,l=>by
  rw[t1];simp only[l1,r1,u1 c a b d e f g h k n,bd_br,bd_bd,bd_some',bd_none,br_t,br_f,o1,altK]
def it0{ρ:Type}(c n:Nat)(a:St)(k:KE ρ):Option ρ:=itG anns (ls c) (tb c) c 12 313 0 2 (sumsL (zM c)) n a k
theorem t0{ρ:Type}(c n:Nat)(d:fi)(e f:Int)(a g:fi)(k:KE ρ):it0 c (n+1) (S0 (d,e,f,a,g,())) k=r0 c d e a f g (fun i j=>it0 c n (S0 (d,e,i,a,j,())) k) (fun h=>k (.exit 0) (xh1.b (a,h,()))):=θ
theorem u0{ρ:Type}(c:Nat)(a:fi)(b:Int)(d:fi)(k:KE ρ):∀ (n:Nat) (e:Int) (f:fi),it0 c n (S0 (a,b,e,d,f,())) k=bd (l0 c a b d n e f) fun y=>altK k (o0 a b d y)
 | 0,_,_=>by rw[l0,bd_none];rfl
 | n+1,e,f=>by
  rw[t0];simp only[l0,r0,u0 c a b d k n,bd_br,bd_bd,bd_some',bd_none,br_t,br_f,o0,altK]
def it3{ρ:Type}(c n:Nat)(a:St)(k:KE ρ):Option ρ:=itG anns (ls c) (tb c) c 11 333 0 2 (sumsL (zL c)) n a k
theorem t3{ρ:Type}(c n:Nat)(e:Nat)(a d:fi)(k:KE ρ):it3 c (n+1) (S3 (e,a,d,())) k=r3 c a d e (fun i=>it3 c n (S3 (i,a,d,())) k) (fun f g h=>k (.exit 0) (xh2.b (f,g,h,()))):=θ
theorem u3{ρ:Type}(c:Nat)(a b:fi)(k:KE ρ):∀ (n:Nat) (d:Nat),it3 c n (S3 (d,a,b,())) k=bd (l3 c a b n d) fun y=>altK k (o3 a b y)
 | 0,_=>by rw[l3,bd_none];rfl
 | n+1,d=>by
  rw[t3];simp only[l3,r3,u3 c a b k n,bd_br,bd_bd,bd_some',bd_none,br_t,br_f,o3,altK]
def it2{ρ:Type}(c n:Nat)(a:St)(k:KE ρ):Option ρ:=itG anns (ls c) (tb c) c 11 333 0 2 (sumsL (zL c)) n a k
theorem t2{ρ:Type}(c n:Nat)(a d:fi)(k:KE ρ):it2 c (n+1) (S2 (a,d,())) k=r2 c a d (fun g h i=>it3 c n (S3 (g,h,i,())) k) (fun e f=>k (.exit 0) (xh3.b (e,f,()))):=θ
theorem u2{ρ:Type}(c:Nat)(a b:fi)(k:KE ρ):∀ (n:Nat),it2 c n (S2 (a,b,())) k=bd (l2 c a b n) fun y=>altK k (o2 a b y)
 | 0=>by rw[l2,bd_none];rfl
 | n+1=>by
  rw[t2];simp only[l2,r2,u3,bd_br,bd_bd,bd_some',bd_none,br_t,br_f,o2,o3,altK]
def it5{ρ:Type}(c n:Nat)(a:St)(k:KE ρ):Option ρ:=itG anns (ls c) (tb c) c 12 313 1 5 (sumsL (zM c)) n a k
theorem t5{ρ:Type}(c n:Nat)(e l o:Int)(f:fi)(g h m p:Int)(i j a d:fi)(k:KE ρ):it5 c (n+1) (S5 (e,l,o,f,g,h,m,p,i,j,a,d,())) k=r5 c e l f g h m i j a o p d (fun s t u=>it5 c n (S5 (e,l,s,f,g,h,m,t,i,j,a,u,())) k) (fun q r=>k (.exit 2) (xh4.b (e,q,f,g,h,i,j,a,r,()))):=θ
theorem u5{ρ:Type}(c:Nat)(d e:Int)(f:fi)(g h i:Int)(j l a:fi)(k:KE ρ):∀ (n:Nat) (m o:Int) (b:fi),it5 c n (S5 (d,e,m,f,g,h,i,o,j,l,a,b,())) k=bd (l5 c d e f g h i j l a n m o b) fun y=>altK k (o5 d e f g h i j l a y)
 | 0,_,_,_=>by rw[l5,bd_none];rfl
 | n+1,m,o,b=>by
  rw[t5];simp only[l5,r5,u5 c d e f g h i j l a k n,bd_br,bd_bd,bd_some',bd_none,br_t,br_f,o5,altK]
def it4{ρ:Type}(c n:Nat)(a:St)(k:KE ρ):Option ρ:=itG anns (ls c) (tb c) c 12 313 0 5 (sumsL (zM c)) n a k
theorem t4{ρ:Type}(c n:Nat)(f:fi)(g h:Int)(a d e i:fi)(k:KE ρ):it4 c (n+1) (S4 (f,g,h,a,d,e,i,())) k=r4 c f g a d e h i (fun l m=>it4 c n (S4 (f,g,l,a,d,e,m,())) k) (fun j=>k (.exit 0) (xh5.b (a,d,e,j,()))):=θ
theorem u4{ρ:Type}(c:Nat)(a:fi)(b:Int)(d e f:fi)(k:KE ρ):∀ (n:Nat) (g:Int) (h:fi),it4 c n (S4 (a,b,g,d,e,f,h,())) k=bd (l4 c a b d e f n g h) fun y=>altK k (o4 a b d e f y)
 | 0,_,_=>by rw[l4,bd_none];rfl
 | n+1,g,h=>by
  rw[t4];simp only[l4,r4,u4 c a b d e f k n,bd_br,bd_bd,bd_some',bd_none,br_t,br_f,o4,altK]
def it7{ρ:Type}(c n:Nat)(a:St)(k:KE ρ):Option ρ:=itG anns (ls c) (tb c) c 11 333 0 5 (sumsL (zL c)) n a k
theorem t7{ρ:Type}(c n:Nat)(g:Nat)(a d e f:fi)(k:KE ρ):it7 c (n+1) (S7 (g,a,d,e,f,())) k=r7 c a d e f g (fun o=>it7 c n (S7 (o,a,d,e,f,())) k) (fun h i j l m=>k (.exit 0) (xh6.b (h,i,j,l,m,()))):=θ
theorem u7{ρ:Type}(c:Nat)(a b d e:fi)(k:KE ρ):∀ (n:Nat) (f:Nat),it7 c n (S7 (f,a,b,d,e,())) k=bd (l7 c a b d e n f) fun y=>altK k (o7 a b d e y)
 | 0,_=>by rw[l7,bd_none];rfl
 | n+1,f=>by
  rw[t7];simp only[l7,r7,u7 c a b d e k n,bd_br,bd_bd,bd_some',bd_none,br_t,br_f,o7,altK]
def it6{ρ:Type}(c n:Nat)(a:St)(k:KE ρ):Option ρ:=itG anns (ls c) (tb c) c 11 333 0 5 (sumsL (zL c)) n a k
theorem t6{ρ:Type}(c n:Nat)(a d e f:fi)(k:KE ρ):it6 c (n+1) (S6 (a,d,e,f,())) k=r6 c a d e f (fun l m o p q=>it7 c n (S7 (l,m,o,p,q,())) k) (fun g h i j=>k (.exit 0) (xh7.b (g,h,i,j,()))):=θ
theorem u6{ρ:Type}(c:Nat)(a b d e:fi)(k:KE ρ):∀ (n:Nat),it6 c n (S6 (a,b,d,e,())) k=bd (l6 c a b d e n) fun y=>altK k (o6 a b d e y)
 | 0=>by rw[l6,bd_none];rfl
 | n+1=>by
  rw[t6];simp only[l6,r6,u7,bd_br,bd_bd,bd_some',bd_none,br_t,br_f,o6,o7,altK]
def it8{ρ:Type}(c n:Nat)(a:St)(k:KE ρ):Option ρ:=itG anns (ls c) (tb c) c 13 311 0 5 (sumsL (zO c)) n a k
theorem t8{ρ:Type}(c n:Nat)(e a d f:fi)(k:KE ρ):it8 c (n+1) (S8 (e,a,d,f,())) k=r8 c e a d f (fun h=>it8 c n (S8 (e,a,d,h,())) k) (fun g=>k (.exit 0) (xh8.b (a,d,g,()))):=θ
theorem u8{ρ:Type}(c:Nat)(a b d:fi)(k:KE ρ):∀ (n:Nat) (e:fi),it8 c n (S8 (a,b,d,e,())) k=bd (l8 c a b d n e) fun y=>altK k (o8 a b d y)
 | 0,_=>by rw[l8,bd_none];rfl
 | n+1,e=>by
  rw[t8];simp only[l8,r8,u8 c a b d k n,bd_br,bd_bd,bd_some',bd_none,br_t,br_f,o8,altK]
def it10{ρ:Type}(c n:Nat)(a:St)(k:KE ρ):Option ρ:=itG anns (ls c) (tb c) c 12 334 0 7 (sumsL (zN c)) n a k
theorem t10{ρ:Type}(c n:Nat)(a d:Nat)(e j l:Int)(f g h i:fi)(k:KE ρ):it10 c (n+1) (S10 (a,d,e,j,l,f,g,h,i,())) k=r10 c a d e f g h i j l (fun o p=>it10 c n (S10 (a,d,e,o,p,f,g,h,i,())) k) (fun m=>k (.exit 0) (xh9.b (a,d,e,m,f,g,h,i,()))):=θ
theorem u10{ρ:Type}(c:Nat)(a b:Nat)(d:Int)(e f g h:fi)(k:KE ρ):∀ (n:Nat) (i j:Int),it10 c n (S10 (a,b,d,i,j,e,f,g,h,())) k=bd (l10 c a b d e f g h n i j) fun y=>altK k (o10 a b d e f g h y)
 | 0,_,_=>by rw[l10,bd_none];rfl
 | n+1,i,j=>by
  rw[t10];simp only[l10,r10,u10 c a b d e f g h k n,bd_br,bd_bd,bd_some',bd_none,br_t,br_f,o10,altK]
def it11{ρ:Type}(c n:Nat)(a:St)(k:KE ρ):Option ρ:=itG anns (ls c) (tb c) c 11 356 0 7 (sumsL (acJ c)) n a k
theorem t11{ρ:Type}(c n:Nat)(f g:Nat)(h j i l:Int)(a d m e:fi)(k:KE ρ):it11 c (n+1) (S11 (f,g,h,j,i,l,a,d,m,e,())) k=r11 c f g h i a d e j l m (fun q r s=>it11 c n (S11 (f,g,h,q,i,r,a,d,s,e,())) k) (fun o p=>k (.exit 0) (xh10.b (o,a,d,p,e,()))):=θ
theorem u11{ρ:Type}(c:Nat)(a b:Nat)(d e:Int)(f g h:fi)(k:KE ρ):∀ (n:Nat) (i j:Int) (l:fi),it11 c n (S11 (a,b,d,i,e,j,f,g,l,h,())) k=bd (l11 c a b d e f g h n i j l) fun y=>altK k (o11 a b d e f g h y)
 | 0,_,_,_=>by rw[l11,bd_none];rfl
 | n+1,i,j,l=>by
  rw[t11];simp only[l11,r11,u11 c a b d e f g h k n,bd_br,bd_bd,bd_some',bd_none,br_t,br_f,o11,altK]
def it12{ρ:Type}(c n:Nat)(a:St)(k:KE ρ):Option ρ:=itG anns (ls c) (tb c) c 12 334 1 7 (sumsL (zN c)) n a k
theorem t12{ρ:Type}(c n:Nat)(g h:Nat)(i d l j m:Int)(e f o a:fi)(k:KE ρ):it12 c (n+1) (S12 (g,h,i,d,l,j,m,e,f,o,a,())) k=r12 c g h i d j e f a l m o (fun q r s=>it12 c n (S12 (g,h,i,d,q,j,r,e,f,s,a,())) k) (fun p=>k (.exit 2) (xh11.b (d,e,f,p,a,()))):=θ
theorem u12{ρ:Type}(c:Nat)(b d:Nat)(e f g:Int)(h i a:fi)(k:KE ρ):∀ (n:Nat) (j l:Int) (m:fi),it12 c n (S12 (b,d,e,f,j,g,l,h,i,m,a,())) k=bd (l12 c b d e f g h i a n j l m) fun y=>altK k (o12 b d e f g h i a y)
 | 0,_,_,_=>by rw[l12,bd_none];rfl
 | n+1,j,l,m=>by
  rw[t12];simp only[l12,r12,u12 c b d e f g h i a k n,bd_br,bd_bd,bd_some',bd_none,br_t,br_f,o12,altK]
def it9{ρ:Type}(c n:Nat)(a:St)(k:KE ρ):Option ρ:=itG anns (ls c) (tb c) c 13 311 1 7 (sumsL (zO c)) n a k
theorem t9{ρ:Type}(c n:Nat)(e f:Int)(a d g h:fi)(k:KE ρ):it9 c (n+1) (S9 (e,f,a,d,g,h,())) k=r9 c e a d f g h (fun l m o=>it9 c n (S9 (e,l,a,d,m,o,())) k) (fun i j=>k (.exit 2) (xh12.b (a,d,i,j,()))):=θ
theorem u9{ρ:Type}(c:Nat)(a:Int)(b d:fi)(k:KE ρ):∀ (n:Nat) (e:Int) (f g:fi),it9 c n (S9 (a,e,b,d,f,g,())) k=bd (l9 c a b d n e f g) fun y=>altK k (o9 a b d y)
 | 0,_,_,_=>by rw[l9,bd_none];rfl
 | n+1,e,f,g=>by
  rw[t9];simp only[l9,r9,u9 c a b d k n,bd_br,bd_bd,bd_some',bd_none,br_t,br_f,o9,altK]
def it13{ρ:Type}(c n:Nat)(a:St)(k:KE ρ):Option ρ:=itG anns (ls c) (tb c) c 13 311 0 5 (sumsL (zO c)) n a k
theorem t13{ρ:Type}(c n:Nat)(f:fi)(a:Nat)(d e g:fi)(k:KE ρ):it13 c (n+1) (S13 (f,a,d,e,g,())) k=r13 c f a d e g (fun i=>it13 c n (S13 (f,a,d,e,i,())) k) (fun h=>k (.exit 0) (xh13.b (a,d,e,h,()))):=θ
theorem u13{ρ:Type}(c:Nat)(a:fi)(b:Nat)(d e:fi)(k:KE ρ):∀ (n:Nat) (f:fi),it13 c n (S13 (a,b,d,e,f,())) k=bd (l13 c a b d e n f) fun y=>altK k (o13 a b d e y)
 | 0,_=>by rw[l13,bd_none];rfl
 | n+1,f=>by
  rw[t13];simp only[l13,r13,u13 c a b d e k n,bd_br,bd_bd,bd_some',bd_none,br_t,br_f,o13,altK]
def it15{ρ:Type}(c n:Nat)(a:St)(k:KE ρ):Option ρ:=itG anns (ls c) (tb c) c 12 334 0 7 (sumsL (zN c)) n a k
theorem t15{ρ:Type}(c n:Nat)(a d e:Nat)(f l m:Int)(g h i j:fi)(k:KE ρ):it15 c (n+1) (S15 (a,d,e,f,l,m,g,h,i,j,())) k=r15 c a d e f g h i j l m (fun p q=>it15 c n (S15 (a,d,e,f,p,q,g,h,i,j,())) k) (fun o=>k (.exit 0) (xh14.b (a,d,e,f,o,g,h,i,j,()))):=θ
theorem u15{ρ:Type}(c:Nat)(a b d:Nat)(e:Int)(f g h i:fi)(k:KE ρ):∀ (n:Nat) (j l:Int),it15 c n (S15 (a,b,d,e,j,l,f,g,h,i,())) k=bd (l15 c a b d e f g h i n j l) fun y=>altK k (o15 a b d e f g h i y)
 | 0,_,_=>by rw[l15,bd_none];rfl
 | n+1,j,l=>by
  rw[t15];simp only[l15,r15,u15 c a b d e f g h i k n,bd_br,bd_bd,bd_some',bd_none,br_t,br_f,o15,altK]
def it16{ρ:Type}(c n:Nat)(a:St)(k:KE ρ):Option ρ:=itG anns (ls c) (tb c) c 11 356 0 7 (sumsL (acJ c)) n a k
theorem t16{ρ:Type}(c n:Nat)(f g h:Nat)(i l j m:Int)(d e o a:fi)(k:KE ρ):it16 c (n+1) (S16 (f,g,h,i,l,j,m,d,e,o,a,())) k=r16 c f g h i j d e a l m o (fun r s t=>it16 c n (S16 (f,g,h,i,r,j,s,d,e,t,a,())) k) (fun p q=>k (.exit 0) (xh10.b (p,d,e,q,a,()))):=θ
theorem u16{ρ:Type}(c:Nat)(b d e:Nat)(f g:Int)(h i a:fi)(k:KE ρ):∀ (n:Nat) (j l:Int) (m:fi),it16 c n (S16 (b,d,e,f,j,g,l,h,i,m,a,())) k=bd (l16 c b d e f g h i a n j l m) fun y=>altK k (o16 b d e f g h i a y)
 | 0,_,_,_=>by rw[l16,bd_none];rfl
 | n+1,j,l,m=>by
  rw[t16];simp only[l16,r16,u16 c b d e f g h i a k n,bd_br,bd_bd,bd_some',bd_none,br_t,br_f,o16,altK]
def it17{ρ:Type}(c n:Nat)(a:St)(k:KE ρ):Option ρ:=itG anns (ls c) (tb c) c 12 334 1 7 (sumsL (zN c)) n a k
theorem t17{ρ:Type}(c n:Nat)(h i j:Nat)(l e o m p:Int)(f g d a:fi)(k:KE ρ):it17 c (n+1) (S17 (h,i,j,l,e,o,m,p,f,g,d,a,())) k=r17 c h i j l e m f g a o p d (fun r s t=>it17 c n (S17 (h,i,j,l,e,r,m,s,f,g,t,a,())) k) (fun q=>k (.exit 2) (xh11.b (e,f,g,q,a,()))):=θ
theorem u17{ρ:Type}(c:Nat)(d e f:Nat)(g h i:Int)(j l a:fi)(k:KE ρ):∀ (n:Nat) (m o:Int) (b:fi),it17 c n (S17 (d,e,f,g,h,m,i,o,j,l,b,a,())) k=bd (l17 c d e f g h i j l a n m o b) fun y=>altK k (o17 d e f g h i j l a y)
 | 0,_,_,_=>by rw[l17,bd_none];rfl
 | n+1,m,o,b=>by
  rw[t17];simp only[l17,r17,u17 c d e f g h i j l a k n,bd_br,bd_bd,bd_some',bd_none,br_t,br_f,o17,altK]
def it14{ρ:Type}(c n:Nat)(a:St)(k:KE ρ):Option ρ:=itG anns (ls c) (tb c) c 13 311 1 7 (sumsL (zO c)) n a k
theorem t14{ρ:Type}(c n:Nat)(e:Nat)(f g:Int)(a d h i:fi)(k:KE ρ):it14 c (n+1) (S14 (e,f,g,a,d,h,i,())) k=r14 c e f a d g h i (fun m o p=>it14 c n (S14 (e,f,m,a,d,o,p,())) k) (fun j l=>k (.exit 2) (xh12.b (a,d,j,l,()))):=θ
theorem u14{ρ:Type}(c:Nat)(a:Nat)(b:Int)(d e:fi)(k:KE ρ):∀ (n:Nat) (f:Int) (g h:fi),it14 c n (S14 (a,b,f,d,e,g,h,())) k=bd (l14 c a b d e n f g h) fun y=>altK k (o14 a b d e y)
 | 0,_,_,_=>by rw[l14,bd_none];rfl
 | n+1,f,g,h=>by
  rw[t14];simp only[l14,r14,u14 c a b d e k n,bd_br,bd_bd,bd_some',bd_none,br_t,br_f,o14,altK]
theorem sl(c:Nat):SL anns (ls c) (tb c) c (ls c):=slC (laC (fun _=>θ) (fun _ (x:fi×Int×Int×fi×fi×Unit) k=>dJ (u0 c x.1 x.2.1 x.2.2.2.1 k (c+40) x.2.2.1 x.2.2.2.2.1)) (laC (fun _=>θ) (fun _ (x:fi×Int×Int×fi×fi×fi×fi×Unit) k=>dJ (u4 c x.1 x.2.1 x.2.2.2.1 x.2.2.2.2.1 x.2.2.2.2.2.1 k (c+40) x.2.2.1 x.2.2.2.2.2.2.1)) (laC (fun _=>θ) (fun _ (x:Int×Int×Int×fi×Int×Int×Int×Int×fi×fi×Unit) k=>dJ (u1 c x.1 x.2.1 x.2.2.2.1 x.2.2.2.2.1 x.2.2.2.2.2.1 x.2.2.2.2.2.2.1 x.2.2.2.2.2.2.2.2.1 k (c+40) x.2.2.1 x.2.2.2.2.2.2.2.1 x.2.2.2.2.2.2.2.2.2.1)) (laC (fun _=>θ) (fun _ (x:Int×Int×Int×fi×Int×Int×Int×Int×fi×fi×fi×fi×Unit) k=>dJ (u5 c x.1 x.2.1 x.2.2.2.1 x.2.2.2.2.1 x.2.2.2.2.2.1 x.2.2.2.2.2.2.1 x.2.2.2.2.2.2.2.2.1 x.2.2.2.2.2.2.2.2.2.1 x.2.2.2.2.2.2.2.2.2.2.1 k (c+40) x.2.2.1 x.2.2.2.2.2.2.2.1 x.2.2.2.2.2.2.2.2.2.2.2.1)) laN)))) (slC (laC (fun _=>θ) (fun _ (x:Nat×fi×fi×Unit) k=>dJ (u3 c x.2.1 x.2.2.1 k (c+40) x.1)) (laC (fun _=>θ) (fun _ (x:fi×fi×Unit) k=>dJ (u2 c x.1 x.2.1 k (c+40))) (laC (fun _=>θ) (fun _ (x:Nat×fi×fi×fi×fi×Unit) k=>dJ (u7 c x.2.1 x.2.2.1 x.2.2.2.1 x.2.2.2.2.1 k (c+40) x.1)) (laC (fun _=>θ) (fun _ (x:fi×fi×fi×fi×Unit) k=>dJ (u6 c x.1 x.2.1 x.2.2.1 x.2.2.2.1 k (c+40))) laN)))) (slC (laC (fun _=>θ) (fun _ (x:fi×fi×fi×fi×Unit) k=>dJ (u8 c x.1 x.2.1 x.2.2.1 k (c+40) x.2.2.2.1)) (laC (fun _=>θ) (fun _ (x:fi×Nat×fi×fi×fi×Unit) k=>dJ (u13 c x.1 x.2.1 x.2.2.1 x.2.2.2.1 k (c+40) x.2.2.2.2.1)) (laC (fun _=>θ) (fun _ (x:Int×Int×fi×fi×fi×fi×Unit) k=>dJ (u9 c x.1 x.2.2.1 x.2.2.2.1 k (c+40) x.2.1 x.2.2.2.2.1 x.2.2.2.2.2.1)) (laC (fun _=>θ) (fun _ (x:Nat×Int×Int×fi×fi×fi×fi×Unit) k=>dJ (u14 c x.1 x.2.1 x.2.2.2.1 x.2.2.2.2.1 k (c+40) x.2.2.1 x.2.2.2.2.2.1 x.2.2.2.2.2.2.1)) laN)))) (slC (laC (fun _=>θ) (fun _ (x:Nat×Nat×Int×Int×Int×fi×fi×fi×fi×Unit) k=>dJ (u10 c x.1 x.2.1 x.2.2.1 x.2.2.2.2.2.1 x.2.2.2.2.2.2.1 x.2.2.2.2.2.2.2.1 x.2.2.2.2.2.2.2.2.1 k (c+40) x.2.2.2.1 x.2.2.2.2.1)) (laC (fun _=>θ) (fun _ (x:Nat×Nat×Nat×Int×Int×Int×fi×fi×fi×fi×Unit) k=>dJ (u15 c x.1 x.2.1 x.2.2.1 x.2.2.2.1 x.2.2.2.2.2.2.1 x.2.2.2.2.2.2.2.1 x.2.2.2.2.2.2.2.2.1 x.2.2.2.2.2.2.2.2.2.1 k (c+40) x.2.2.2.2.1 x.2.2.2.2.2.1)) (laC (fun _=>θ) (fun _ (x:Nat×Nat×Int×Int×Int×Int×Int×fi×fi×fi×fi×Unit) k=>dJ (u12 c x.1 x.2.1 x.2.2.1 x.2.2.2.1 x.2.2.2.2.2.1 x.2.2.2.2.2.2.2.1 x.2.2.2.2.2.2.2.2.1 x.2.2.2.2.2.2.2.2.2.2.1 k (c+40) x.2.2.2.2.1 x.2.2.2.2.2.2.1 x.2.2.2.2.2.2.2.2.2.1)) (laC (fun _=>θ) (fun _ (x:Nat×Nat×Nat×Int×Int×Int×Int×Int×fi×fi×fi×fi×Unit) k=>dJ (u17 c x.1 x.2.1 x.2.2.1 x.2.2.2.1 x.2.2.2.2.1 x.2.2.2.2.2.2.1 x.2.2.2.2.2.2.2.2.1 x.2.2.2.2.2.2.2.2.2.1 x.2.2.2.2.2.2.2.2.2.2.2.1 k (c+40) x.2.2.2.2.2.1 x.2.2.2.2.2.2.2.1 x.2.2.2.2.2.2.2.2.2.2.1)) laN)))) (slC (laC (fun _=>θ) (fun _ (x:Nat×Nat×Int×Int×Int×Int×fi×fi×fi×fi×Unit) k=>dJ (u11 c x.1 x.2.1 x.2.2.1 x.2.2.2.2.1 x.2.2.2.2.2.2.1 x.2.2.2.2.2.2.2.1 x.2.2.2.2.2.2.2.2.2.1 k (c+40) x.2.2.2.1 x.2.2.2.2.2.1 x.2.2.2.2.2.2.2.2.1)) (laC (fun _=>θ) (fun _ (x:Nat×Nat×Nat×Int×Int×Int×Int×fi×fi×fi×fi×Unit) k=>dJ (u16 c x.1 x.2.1 x.2.2.1 x.2.2.2.1 x.2.2.2.2.2.1 x.2.2.2.2.2.2.2.1 x.2.2.2.2.2.2.2.2.1 x.2.2.2.2.2.2.2.2.2.2.1 k (c+40) x.2.2.2.2.1 x.2.2.2.2.2.2.1 x.2.2.2.2.2.2.2.2.2.1)) laN)) slN))))
def f(c:Nat)(v:fi)(u:fi):Option (fi×fi×Unit):=bd (iM.f c v u) fun a=>br (decide (a.1 < 0)) (some ([],v,())) (br ((u.length:Int)==1) (bd (idxL u 0) fun b=>bd (iw.f c v b) fun d=>bd (bM.f c [d.2.1]) fun e=>some (d.1,e.1,())) (bd (idxL u (i64.wrap ((u.length:Int)-1))) fun b=>bd (iQuo .i64 1000000000 (i64.wrap (b+1))) fun d=>bd (mkL (i64.wrap ((v.length:Int)+1)) (i64.wrap ((v.length:Int)+1)) 8 0) fun e=>bd (l0 c v (v.length:Int) [d] (c+40) 0 e) fun g=>bd (l2 c [d] g.1.1 (c+40)) fun h=>br h.1 (bd (apL true 8 h.2.1.2.1 [0]) fun i=>bd (mkL (i64.wrap ((u.length:Int)+(h.2.1.1.length:Int))) (i64.wrap ((u.length:Int)+(h.2.1.1.length:Int))) 8 0) fun j=>bd (l4 c u (u.length:Int) h.2.1.1 [0] i (c+40) 0 j) fun k=>bd (l6 c h.2.1.1 [0] i k.1.1 (c+40)) fun l=>br l.1 (bd (l8 c v l.2.1.1 l.2.1.2.2.2.1 (c+40) l.2.1.2.2.1) fun m=>bd (mkL (i64.wrap ((m.1.1.length:Int)-(l.2.1.2.2.2.1.length:Int))) (i64.wrap ((m.1.1.length:Int)-(l.2.1.2.2.2.1.length:Int))) 8 0) fun n=>bd (l9 c (l.2.1.2.2.2.1.length:Int) l.2.1.1 l.2.1.2.2.2.1 (c+40) (i64.wrap ((i64.wrap ((m.1.1.length:Int)-(l.2.1.2.2.2.1.length:Int)))-1)) m.1.1 n) fun o=>bd (bM.f c o.1.1) fun p=>bd (idxB l.2.1.1.length 0) fun q=>bd (l.2.1.1[q]?) fun r=>bd (iw.f c p.1 r) fun s=>bd (bM.f c o.1.2.1) fun t=>some (t.1,s.1,())) (bd (l13 c v l.2.2.1.1 l.2.2.1.2.1 l.2.2.1.2.2.2.2.1 (c+40) l.2.2.1.2.2.2.1) fun m=>bd (mkL (i64.wrap ((m.1.1.length:Int)-((l.2.2.1.1:Nat):Int))) (i64.wrap ((m.1.1.length:Int)-((l.2.2.1.1:Nat):Int))) 8 0) fun n=>bd (l14 c l.2.2.1.1 ((l.2.2.1.1:Nat):Int) l.2.2.1.2.1 l.2.2.1.2.2.2.2.1 (c+40) (i64.wrap ((i64.wrap ((m.1.1.length:Int)-((l.2.2.1.1:Nat):Int)))-1)) m.1.1 n) fun o=>bd (bM.f c o.1.1) fun p=>bd (idxB l.2.2.1.2.1.length 0) fun q=>bd (l.2.2.1.2.1[q]?) fun r=>bd (iw.f c p.1 r) fun s=>bd (bM.f c o.1.2.1) fun t=>some (t.1,s.1,()))) (bd (apL ((decide (h.2.2.1.1≤h.2.2.1.2.2.1.length))&&true) 8 (h.2.2.1.2.2.1.take h.2.2.1.1) [0]) fun i=>bd (mkL (i64.wrap ((u.length:Int)+(h.2.2.1.2.1.length:Int))) (i64.wrap ((u.length:Int)+(h.2.2.1.2.1.length:Int))) 8 0) fun j=>bd (l4 c u (u.length:Int) h.2.2.1.2.1 [0] i (c+40) 0 j) fun k=>bd (l6 c h.2.2.1.2.1 [0] i k.1.1 (c+40)) fun l=>br l.1 (bd (l8 c v l.2.1.1 l.2.1.2.2.2.1 (c+40) l.2.1.2.2.1) fun m=>bd (mkL (i64.wrap ((m.1.1.length:Int)-(l.2.1.2.2.2.1.length:Int))) (i64.wrap ((m.1.1.length:Int)-(l.2.1.2.2.2.1.length:Int))) 8 0) fun n=>bd (l9 c (l.2.1.2.2.2.1.length:Int) l.2.1.1 l.2.1.2.2.2.1 (c+40) (i64.wrap ((i64.wrap ((m.1.1.length:Int)-(l.2.1.2.2.2.1.length:Int)))-1)) m.1.1 n) fun o=>bd (bM.f c o.1.1) fun p=>bd (idxB l.2.1.1.length 0) fun q=>bd (l.2.1.1[q]?) fun r=>bd (iw.f c p.1 r) fun s=>bd (bM.f c o.1.2.1) fun t=>some (t.1,s.1,())) (bd (l13 c v l.2.2.1.1 l.2.2.1.2.1 l.2.2.1.2.2.2.2.1 (c+40) l.2.2.1.2.2.2.1) fun m=>bd (mkL (i64.wrap ((m.1.1.length:Int)-((l.2.2.1.1:Nat):Int))) (i64.wrap ((m.1.1.length:Int)-((l.2.2.1.1:Nat):Int))) 8 0) fun n=>bd (l14 c l.2.2.1.1 ((l.2.2.1.1:Nat):Int) l.2.2.1.2.1 l.2.2.1.2.2.2.2.1 (c+40) (i64.wrap ((i64.wrap ((m.1.1.length:Int)-((l.2.2.1.1:Nat):Int)))-1)) m.1.1 n) fun o=>bd (bM.f c o.1.1) fun p=>bd (idxB l.2.2.1.2.1.length 0) fun q=>bd (l.2.2.1.2.1[q]?) fun r=>bd (iw.f c p.1 r) fun s=>bd (bM.f c o.1.2.1) fun t=>some (t.1,s.1,())))))
def E(c:Nat):Entry:=⟨[(.sl (.int .i64)),(.sl (.int .i64))],[(.sl (.int .i64)),(.sl (.int .i64))],fun x=>f c x.1 x.2.1⟩
theorem ok(c:Nat):Ok 311 (E c):=okL (tC (iM.ok c) (tC (iw.ok c) (tC (bM.ok c) tN))) (aoC (aoC (aoC (aoC (aoC aoN))))) (sl c) fun x=>θ
end ay
end
end Go.Q
