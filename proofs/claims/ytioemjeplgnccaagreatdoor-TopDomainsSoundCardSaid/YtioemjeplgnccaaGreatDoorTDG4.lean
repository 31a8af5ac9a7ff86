import Derived.Test.YtioemjeplgnccaaGreatDoorProg
import Derived.KernelRfl
import Derived.Test.YtioemjeplgnccaaGreatDoorTDE3
import Derived.Test.YtioemjeplgnccaaGreatDoorTDG2
import Derived.Test.YtioemjeplgnccaaGreatDoorTDG3
set_option linter.unusedVariables false
set_option linter.unusedSimpArgs false
set_option linter.unusedSectionVars false
set_option maxRecDepth 100000
namespace Go.Q
open Go.IntKind (i64)
open Go Go.RowKit
open Go.Rx (br bd sIdx sCat sCut iQuo iRem iShl)
noncomputable section
namespace ay
def anns:FuncId→FA:=annsL [(160,⟨annOf [(0,⟨kx 63 [1,5,17,18,19],[],[]⟩,⟨kx 63 [4,5],[],[]⟩),(1,⟨kx 63 [1,5,6,7,8,17,18,19,24,25,26],[],[]⟩,⟨kx 63 [1,4,5,6,8,17,18,19],[],[]⟩)],none,[12]⟩),(209,⟨annOf [(0,⟨kx 21 [0],[],[]⟩,⟨kx 21 [0,2],[],[]⟩)],none,[11]⟩),(224,⟨annOf [(0,⟨kx 101 [0,8,9,10],[⟨.tmp 9,(.int .i64),3⟩],[2]⟩,⟨kx 101 [4,5,8,9,10],[⟨.tmp 9,(.int .i64),3⟩],[2]⟩),(1,⟨kx 101 [8,9,10,11,12,13],[],[]⟩,⟨kx 101 [4,5,8,9,12],[],[]⟩)],none,[]⟩),(262,⟨annOf [(0,⟨kx 106 [0,1,5,7,8],[],[]⟩,⟨kx 106 [0,1,4,5,7],[],[]⟩),(1,⟨kx 106 [0,1,5,7,9,78,79],[],[]⟩,⟨kx 106 [4,7],[],[]⟩)],none,[]⟩),(275,⟨annOf [(0,⟨kx 49 [0,1,2,7,11,12],[],[]⟩,⟨kx 49 [6,7],[],[]⟩)],none,[]⟩)]
def r1{ρ:Type}(lf:Nat)(v0 v1:Int)(v3:List Int)(v4 v5 v6:Int)(v8:List Int)(v2 v7:Int)(v9:List Int)(K:Int→Int→(List Int)→Option ρ)(E0:Int→(List Int)→Option ρ):Option ρ :=
 br (decide (v7 < v6)) (
 bd (idxB v8.length v7) fun j9 =>
 bd (v8[j9]?) fun y10 =>
 bd (idxB v9.length (i64.wrap (v0+v7))) fun j11 =>
 bd (v9[j11]?) fun y12 =>
 bd (iRem (i64.wrap (v2+(i64.wrap (y12+(i64.wrap (v1*y10)))))) 1000000000) fun r13 =>
 bd (iQuo .i64 (i64.wrap (v2+(i64.wrap (y12+(i64.wrap (v1*y10)))))) 1000000000) fun r14 =>
 bd (idxB v9.length (i64.wrap (v0+v7))) fun j15 =>
 bd (upE v9 j15 fun _=>some r13) fun q16 =>
 K r14 (i64.wrap (v7+1)) q16) (
 E0 v2 v9)
def l1(lf:Nat)(v0 v1:Int)(v3:List Int)(v4 v5 v6:Int)(v8:List Int):Nat→Int→Int→(List Int)→Option ((Int×(List Int)×Unit)×Unit)
 | 0,_,_,_=>none
 | n+1,v2,v7,v9=>r1 lf v0 v1 v3 v4 v5 v6 v8 v2 v7 v9 (l1 lf v0 v1 v3 v4 v5 v6 v8 n) (fun w0 w1=>some ((w0,w1,()),()))
def sh1:ShS:=⟨[.a 1,.s (.row 0),.a 3,.s (.row 1),.s (.int .i64),.s (.int .i64),.s (.int .i64),.a 8,.s (.sl (.int .i64)),.s (.int .i64),.s (.int .i64),.a 4,.s (.row 0),.s (.int .i64),.s (.int .i64),.a 36],[.row (.int .i64) 3 false,.row (.int .i64) 3 false]⟩
def S1(p:Int×Int×Int×(List Int)×Int×Int×Int×Int×(List Int)×(List Int)×Unit):St:=sh1.b p
def xh0:ShS:=⟨[.a 1,.s (.row 0),.a 3,.s (.row 1),.s (.int .i64),.a 1,.s (.int .i64),.a 8,.s (.sl (.int .i64)),.s (.int .i64),.s (.int .i64),.a 43],[.row (.int .i64) 3 false,.row (.int .i64) 3 false]⟩
def o1(v0 v1:Int)(v3:List Int)(v4 v5 v6:Int)(v8:List Int)(y:(Int×(List Int)×Unit)×Unit):Alt:=.one (.exit 2) (xh0.b (v0,y.1.1,v3,v4,v5,v8,y.1.2.1,()))
def r0{ρ:Type}(lf:Nat)(v0:List Int)(v1:Int)(v3:List Int)(v2:Int)(v4:List Int)(K:Int→(List Int)→Option ρ)(E0:(List Int)→Option ρ):Option ρ :=
 br (decide (v2 < v1)) (
 bd (idxL v0 v2) fun y8 =>
 bd (l1 lf v2 y8 v0 v1 v2 ((v3.length:Nat):Int) v3 (lf+40) 0 0 v4) fun z18 =>
 bd (idxB z18.1.2.1.length (i64.wrap (v2+((v3.length:Nat):Int)))) fun j19 =>
 bd (upE z18.1.2.1 j19 fun _=>some z18.1.1) fun q20 =>
 K (i64.wrap (v2+1)) q20) (
 E0 v4)
def l0(lf:Nat)(v0:List Int)(v1:Int)(v3:List Int):Nat→Int→(List Int)→Option (((List Int)×Unit)×Unit)
 | 0,_,_=>none
 | n+1,v2,v4=>r0 lf v0 v1 v3 v2 v4 (l0 lf v0 v1 v3 n) (fun w0=>some ((w0,()),()))
def sh0:ShS:=⟨[.a 1,.s (.row 0),.a 3,.s (.row 1),.a 11,.s (.sl (.int .i64)),.s (.int .i64),.s (.int .i64),.a 43],[.row (.int .i64) 3 false,.row (.int .i64) 3 false]⟩
def S0(p:(List Int)×Int×Int×(List Int)×(List Int)×Unit):St:=sh0.b p
def xh1:ShS:=⟨[.a 5,.s (.row 1),.a 57],[.row (.int .i64) 3 false,.row (.int .i64) 3 false]⟩
def o0(v0:List Int)(v1:Int)(v3:List Int)(y:((List Int)×Unit)×Unit):Alt:=.one (.exit 0) (xh1.b (v3,y.1.1,()))
def r3{ρ:Type}(lf:Nat)(v1 v2:List Int)(v0:Nat)(K:Nat→Option ρ)(E0:Nat→(List Int)→(List Int)→Option ρ):Option ρ :=
 br (decide (((v0:Nat):Int) > 0)) (
 bd (idxB v0 (i64.wrap (((v0:Nat):Int)-1))) fun j26 =>
 bd (v2[(0+j26)]?) fun y27 =>
 br (y27==0) (
 bd (cutB v0 none (some (i64.wrap (((v0:Nat):Int)-1)))) fun p28 =>
 K p28.2) (
 E0 v0 v1 v2)) (
 E0 v0 v1 v2)
def l3(lf:Nat)(v1 v2:List Int):Nat→Nat→Option ((Nat×(List Int)×(List Int)×Unit)×Unit)
 | 0,_=>none
 | n+1,v0=>r3 lf v1 v2 v0 (l3 lf v1 v2 n) (fun w0 w1 w2=>some ((w0,w1,w2,()),()))
def sh3:ShS:=⟨[.s (.p0 1 1),.a 20],[.row (.int .i64) 3 false,.row (.int .i64) 3 false]⟩
def S3(p:Nat×(List Int)×(List Int)×Unit):St:=sh3.b p
def xh2:ShS:=⟨[.s (.p0 1 1),.a 20],[.row (.int .i64) 3 false,.row (.int .i64) 3 false]⟩
def o3(v1 v2:List Int)(y:(Nat×(List Int)×(List Int)×Unit)×Unit):Alt:=.one (.exit 0) (xh2.b (y.1.1,y.1.2.1,y.1.2.2.1,()))
def r2{ρ:Type}(lf:Nat)(v0 v1:List Int)(K3:Nat→(List Int)→(List Int)→Option ρ)(E0:(List Int)→(List Int)→Option ρ):Option ρ :=
 br (decide (((v1.length:Nat):Int) > 0)) (
 bd (idxB v1.length (i64.wrap (((v1.length:Nat):Int)-1))) fun j23 =>
 bd (v1[j23]?) fun y24 =>
 br (y24==0) (
 bd (cutB v1.length none (some (i64.wrap (((v1.length:Nat):Int)-1)))) fun p25 =>
 K3 p25.2 v0 v1) (
 E0 v0 v1)) (
 E0 v0 v1)
def l2(lf:Nat)(v0 v1:List Int):Nat→Option (Bool×((List Int)×(List Int)×Unit)×(Nat×(List Int)×(List Int)×Unit)×Unit)
 | 0=>none
 | n+1=>r2 lf v0 v1 (fun x0 x1 x2=>bd (l3 lf x1 x2 n x0) fun z29=>some (false,([],[],()),((z29.1.1,z29.1.2.1,z29.1.2.2.1,()),()))) (fun w0 w1=>some (true,(w0,w1,()),((0,[],[],()),())))
def sh2:ShS:=⟨[.s (.row 1),.a 20],[.row (.int .i64) 3 false,.row (.int .i64) 3 false]⟩
def S2(p:(List Int)×(List Int)×Unit):St:=sh2.b p
def xh3:ShS:=⟨[.s (.row 1),.a 20],[.row (.int .i64) 3 false,.row (.int .i64) 3 false]⟩
def o2(v0 v1:List Int)(y:Bool×((List Int)×(List Int)×Unit)×(Nat×(List Int)×(List Int)×Unit)×Unit):Alt:=.two y.1 (.one (.exit 0) (xh3.b (y.2.1.1,y.2.1.2.1,()))) (.one (.exit 0) (xh2.b (y.2.2.1.1,y.2.2.1.2.1,y.2.2.1.2.2.1,())))
def r5{ρ:Type}(lf:Nat)(v0 v1:Int)(v3:List Int)(v4 v5 v6:Int)(v8 v9 v10:List Int)(v2 v7:Int)(v11:List Int)(K:Int→Int→(List Int)→Option ρ)(E0:Int→(List Int)→Option ρ):Option ρ :=
 br (decide (v7 < v6)) (
 bd (idxB v8.length v7) fun j34 =>
 bd (v8[j34]?) fun y35 =>
 bd (idxB v11.length (i64.wrap (v0+v7))) fun j36 =>
 bd (v11[j36]?) fun y37 =>
 bd (iRem (i64.wrap (v2+(i64.wrap (y37+(i64.wrap (v1*y35)))))) 1000000000) fun r38 =>
 bd (iQuo .i64 (i64.wrap (v2+(i64.wrap (y37+(i64.wrap (v1*y35)))))) 1000000000) fun r39 =>
 bd (idxB v11.length (i64.wrap (v0+v7))) fun j40 =>
 bd (upE v11 j40 fun _=>some r38) fun q41 =>
 K r39 (i64.wrap (v7+1)) q41) (
 E0 v2 v11)
def l5(lf:Nat)(v0 v1:Int)(v3:List Int)(v4 v5 v6:Int)(v8 v9 v10:List Int):Nat→Int→Int→(List Int)→Option ((Int×(List Int)×Unit)×Unit)
 | 0,_,_,_=>none
 | n+1,v2,v7,v11=>r5 lf v0 v1 v3 v4 v5 v6 v8 v9 v10 v2 v7 v11 (l5 lf v0 v1 v3 v4 v5 v6 v8 v9 v10 n) (fun w0 w1=>some ((w0,w1,()),()))
def sh5:ShS:=⟨[.a 1,.s (.row 0),.a 3,.s (.row 4),.s (.int .i64),.s (.int .i64),.s (.int .i64),.a 8,.s (.sl (.int .i64)),.s (.int .i64),.s (.int .i64),.a 4,.s (.row 0),.s (.int .i64),.s (.int .i64),.a 36],[.row (.int .i64) 3 false,.gone,.row (.int .i64) 3 false,.row (.int .i64) 3 false,.row (.int .i64) 3 false]⟩
def S5(p:Int×Int×Int×(List Int)×Int×Int×Int×Int×(List Int)×(List Int)×(List Int)×(List Int)×Unit):St:=sh5.b p
def xh4:ShS:=⟨[.a 1,.s (.row 0),.a 3,.s (.row 4),.s (.int .i64),.a 1,.s (.int .i64),.a 8,.s (.sl (.int .i64)),.s (.int .i64),.s (.int .i64),.a 43],[.row (.int .i64) 3 false,.gone,.row (.int .i64) 3 false,.row (.int .i64) 3 false,.row (.int .i64) 3 false]⟩
def o5(v0 v1:Int)(v3:List Int)(v4 v5 v6:Int)(v8 v9 v10:List Int)(y:(Int×(List Int)×Unit)×Unit):Alt:=.one (.exit 2) (xh4.b (v0,y.1.1,v3,v4,v5,v8,v9,v10,y.1.2.1,()))
def r4{ρ:Type}(lf:Nat)(v0:List Int)(v1:Int)(v3 v4 v5:List Int)(v2:Int)(v6:List Int)(K:Int→(List Int)→Option ρ)(E0:(List Int)→Option ρ):Option ρ :=
 br (decide (v2 < v1)) (
 bd (idxL v0 v2) fun y33 =>
 bd (l5 lf v2 y33 v0 v1 v2 ((v3.length:Nat):Int) v3 v4 v5 (lf+40) 0 0 v6) fun z43 =>
 bd (idxB z43.1.2.1.length (i64.wrap (v2+((v3.length:Nat):Int)))) fun j44 =>
 bd (upE z43.1.2.1 j44 fun _=>some z43.1.1) fun q45 =>
 K (i64.wrap (v2+1)) q45) (
 E0 v6)
def l4(lf:Nat)(v0:List Int)(v1:Int)(v3 v4 v5:List Int):Nat→Int→(List Int)→Option (((List Int)×Unit)×Unit)
 | 0,_,_=>none
 | n+1,v2,v6=>r4 lf v0 v1 v3 v4 v5 v2 v6 (l4 lf v0 v1 v3 v4 v5 n) (fun w0=>some ((w0,()),()))
def sh4:ShS:=⟨[.a 1,.s (.row 0),.a 3,.s (.row 4),.a 11,.s (.sl (.int .i64)),.s (.int .i64),.s (.int .i64),.a 43],[.row (.int .i64) 3 false,.gone,.row (.int .i64) 3 false,.row (.int .i64) 3 false,.row (.int .i64) 3 false]⟩
def S4(p:(List Int)×Int×Int×(List Int)×(List Int)×(List Int)×(List Int)×Unit):St:=sh4.b p
def xh5:ShS:=⟨[.a 5,.s (.row 4),.a 57],[.row (.int .i64) 3 false,.gone,.row (.int .i64) 3 false,.row (.int .i64) 3 false,.row (.int .i64) 3 false]⟩
def o4(v0:List Int)(v1:Int)(v3 v4 v5:List Int)(y:((List Int)×Unit)×Unit):Alt:=.one (.exit 0) (xh5.b (v3,v4,v5,y.1.1,()))
def r7{ρ:Type}(lf:Nat)(v1 v2 v3 v4:List Int)(v0:Nat)(K:Nat→Option ρ)(E0:Nat→(List Int)→(List Int)→(List Int)→(List Int)→Option ρ):Option ρ :=
 br (decide (((v0:Nat):Int) > 0)) (
 bd (idxB v0 (i64.wrap (((v0:Nat):Int)-1))) fun j51 =>
 bd (v4[(0+j51)]?) fun y52 =>
 br (y52==0) (
 bd (cutB v0 none (some (i64.wrap (((v0:Nat):Int)-1)))) fun p53 =>
 K p53.2) (
 E0 v0 v1 v2 v3 v4)) (
 E0 v0 v1 v2 v3 v4)
def l7(lf:Nat)(v1 v2 v3 v4:List Int):Nat→Nat→Option ((Nat×(List Int)×(List Int)×(List Int)×(List Int)×Unit)×Unit)
 | 0,_=>none
 | n+1,v0=>r7 lf v1 v2 v3 v4 v0 (l7 lf v1 v2 v3 v4 n) (fun w0 w1 w2 w3 w4=>some ((w0,w1,w2,w3,w4,()),()))
def sh7:ShS:=⟨[.s (.p0 4 1),.a 20],[.row (.int .i64) 3 false,.gone,.row (.int .i64) 3 false,.row (.int .i64) 3 false,.row (.int .i64) 3 false]⟩
def S7(p:Nat×(List Int)×(List Int)×(List Int)×(List Int)×Unit):St:=sh7.b p
def xh6:ShS:=⟨[.s (.p0 4 1),.a 20],[.row (.int .i64) 3 false,.gone,.row (.int .i64) 3 false,.row (.int .i64) 3 false,.row (.int .i64) 3 false]⟩
def o7(v1 v2 v3 v4:List Int)(y:(Nat×(List Int)×(List Int)×(List Int)×(List Int)×Unit)×Unit):Alt:=.one (.exit 0) (xh6.b (y.1.1,y.1.2.1,y.1.2.2.1,y.1.2.2.2.1,y.1.2.2.2.2.1,()))
def r6{ρ:Type}(lf:Nat)(v0 v1 v2 v3:List Int)(K7:Nat→(List Int)→(List Int)→(List Int)→(List Int)→Option ρ)(E0:(List Int)→(List Int)→(List Int)→(List Int)→Option ρ):Option ρ :=
 br (decide (((v3.length:Nat):Int) > 0)) (
 bd (idxB v3.length (i64.wrap (((v3.length:Nat):Int)-1))) fun j48 =>
 bd (v3[j48]?) fun y49 =>
 br (y49==0) (
 bd (cutB v3.length none (some (i64.wrap (((v3.length:Nat):Int)-1)))) fun p50 =>
 K7 p50.2 v0 v1 v2 v3) (
 E0 v0 v1 v2 v3)) (
 E0 v0 v1 v2 v3)
def l6(lf:Nat)(v0 v1 v2 v3:List Int):Nat→Option (Bool×((List Int)×(List Int)×(List Int)×(List Int)×Unit)×(Nat×(List Int)×(List Int)×(List Int)×(List Int)×Unit)×Unit)
 | 0=>none
 | n+1=>r6 lf v0 v1 v2 v3 (fun x0 x1 x2 x3 x4=>bd (l7 lf x1 x2 x3 x4 n x0) fun z54=>some (false,([],[],[],[],()),((z54.1.1,z54.1.2.1,z54.1.2.2.1,z54.1.2.2.2.1,z54.1.2.2.2.2.1,()),()))) (fun w0 w1 w2 w3=>some (true,(w0,w1,w2,w3,()),((0,[],[],[],[],()),())))
def sh6:ShS:=⟨[.s (.row 4),.a 20],[.row (.int .i64) 3 false,.gone,.row (.int .i64) 3 false,.row (.int .i64) 3 false,.row (.int .i64) 3 false]⟩
def S6(p:(List Int)×(List Int)×(List Int)×(List Int)×Unit):St:=sh6.b p
def xh7:ShS:=⟨[.s (.row 4),.a 20],[.row (.int .i64) 3 false,.gone,.row (.int .i64) 3 false,.row (.int .i64) 3 false,.row (.int .i64) 3 false]⟩
def o6(v0 v1 v2 v3:List Int)(y:Bool×((List Int)×(List Int)×(List Int)×(List Int)×Unit)×(Nat×(List Int)×(List Int)×(List Int)×(List Int)×Unit)×Unit):Alt:=.two y.1 (.one (.exit 0) (xh7.b (y.2.1.1,y.2.1.2.1,y.2.1.2.2.1,y.2.1.2.2.2.1,()))) (.one (.exit 0) (xh6.b (y.2.2.1.1,y.2.2.1.2.1,y.2.2.1.2.2.1,y.2.2.1.2.2.2.1,y.2.2.1.2.2.2.2.1,())))
def r8{ρ:Type}(lf:Nat)(v0 v1 v2:List Int)(v3:List Int)(K:(List Int)→Option ρ)(E0:(List Int)→Option ρ):Option ρ :=
 br (decide (((v3.length:Nat):Int)≤((v0.length:Nat):Int))) (
 bd (apL true 8 v3 [0]) fun q56 =>
 K q56) (
 E0 v3)
def l8(lf:Nat)(v0 v1 v2:List Int):Nat→(List Int)→Option (((List Int)×Unit)×Unit)
 | 0,_=>none
 | n+1,v3=>r8 lf v0 v1 v2 v3 (l8 lf v0 v1 v2 n) (fun w0=>some ((w0,()),()))
def sh8:ShS:=⟨[.s (.sl (.int .i64)),.a 7,.s (.row 0),.s (.row 5),.s (.row 4),.a 90],[.row (.int .i64) 3 false,.gone,.gone,.gone,.row (.int .i64) 3 false,.row (.int .i64) 3 false]⟩
def S8(p:(List Int)×(List Int)×(List Int)×(List Int)×Unit):St:=sh8.b p
def xh8:ShS:=⟨[.a 8,.s (.row 0),.s (.row 5),.s (.row 4),.a 90],[.row (.int .i64) 3 false,.gone,.gone,.gone,.row (.int .i64) 3 false,.row (.int .i64) 3 false]⟩
def o8(v0 v1 v2:List Int)(y:((List Int)×Unit)×Unit):Alt:=.one (.exit 0) (xh8.b (v1,v2,y.1.1,()))
def r10{ρ:Type}(lf:Nat)(v0 v1:Nat)(v2:Int)(v5 v6 v7 v8:List Int)(v3 v4:Int)(K:Int→Int→Option ρ)(E0:Int→Option ρ):Option ρ :=
 br (decide (v4 < 1000000000)) (
 bd (idxB v6.length (i64.wrap (v2-2))) fun j69 =>
 bd (v6[j69]?) fun y70 =>
 bd (idxB v1 (i64.wrap (v2-2))) fun j71 =>
 bd (v7[(v0+j71)]?) fun y72 =>
 br (decide ((i64.wrap (v3*y70)) >(i64.wrap ((i64.wrap (v4*1000000000))+y72)))) (
 bd (idxB v6.length (i64.wrap (v2-1))) fun j73 =>
 bd (v6[j73]?) fun y74 =>
 K (i64.wrap (v3-1)) (i64.wrap (v4+y74))) (
 E0 v3)) (
 E0 v3)
def l10(lf:Nat)(v0 v1:Nat)(v2:Int)(v5 v6 v7 v8:List Int):Nat→Int→Int→Option ((Int×Unit)×Unit)
 | 0,_,_=>none
 | n+1,v3,v4=>r10 lf v0 v1 v2 v5 v6 v7 v8 v3 v4 (l10 lf v0 v1 v2 v5 v6 v7 v8 n) (fun w0=>some ((w0,()),()))
def sh10:ShS:=⟨[.s (.p1 5 1),.s (.row 4),.a 3,.s (.int .i64),.a 1,.s (.int .i64),.s (.int .i64),.a 97],[.row (.int .i64) 3 false,.gone,.gone,.gone,.row (.int .i64) 3 false,.row (.int .i64) 3 false,.row (.int .i64) 3 false]⟩
def S10(p:Nat×Nat×Int×Int×Int×(List Int)×(List Int)×(List Int)×(List Int)×Unit):St:=sh10.b p
def xh9:ShS:=⟨[.s (.p1 5 1),.s (.row 4),.a 3,.s (.int .i64),.a 1,.s (.int .i64),.a 98],[.row (.int .i64) 3 false,.gone,.gone,.gone,.row (.int .i64) 3 false,.row (.int .i64) 3 false,.row (.int .i64) 3 false]⟩
def o10(v0 v1:Nat)(v2:Int)(v5 v6 v7 v8:List Int)(y:(Int×Unit)×Unit):Alt:=.one (.exit 0) (xh9.b (v0,v1,v2,y.1.1,v5,v6,v7,v8,()))
def r11{ρ:Type}(lf:Nat)(v0 v1:Nat)(v2 v4:Int)(v6 v7 v9:List Int)(v3 v5:Int)(v8:List Int)(K:Int→Int→(List Int)→Option ρ)(E0:Int→(List Int)→Option ρ):Option ρ :=
 br (decide (v5 < v4)) (
 br (decide (v5 < ((v7.length:Nat):Int))) (
 bd (idxB v7.length v5) fun j76 =>
 bd (v7[j76]?) fun y77 =>
 bd (idxB v1 v5) fun j78 =>
 bd (v8[(v0+j78)]?) fun y79 =>
 bd (iRem (i64.wrap (v3+(i64.wrap (v2*y77)))) 1000000000) fun r80 =>
 bd (iQuo .i64 (i64.wrap (v3+(i64.wrap (v2*y77)))) 1000000000) fun r81 =>
 br (decide ((i64.wrap (y79-r80)) < 0)) (
 bd (idxB v1 v5) fun j82 =>
 bd (upE v8 (v0+j82) fun _=>some (i64.wrap ((i64.wrap (y79-r80))+1000000000))) fun q83 =>
 K (i64.wrap (r81+1)) (i64.wrap (v5+1)) q83) (
 bd (idxB v1 v5) fun j85 =>
 bd (upE v8 (v0+j85) fun _=>some (i64.wrap (y79-r80))) fun q86 =>
 K r81 (i64.wrap (v5+1)) q86)) (
 bd (idxB v1 v5) fun j88 =>
 bd (v8[(v0+j88)]?) fun y89 =>
 bd (iRem v3 1000000000) fun r90 =>
 bd (iQuo .i64 v3 1000000000) fun r91 =>
 br (decide ((i64.wrap (y89-r90)) < 0)) (
 bd (idxB v1 v5) fun j92 =>
 bd (upE v8 (v0+j92) fun _=>some (i64.wrap ((i64.wrap (y89-r90))+1000000000))) fun q93 =>
 K (i64.wrap (r91+1)) (i64.wrap (v5+1)) q93) (
 bd (idxB v1 v5) fun j95 =>
 bd (upE v8 (v0+j95) fun _=>some (i64.wrap (y89-r90))) fun q96 =>
 K r91 (i64.wrap (v5+1)) q96))) (
 E0 v3 v8)
def l11(lf:Nat)(v0 v1:Nat)(v2 v4:Int)(v6 v7 v9:List Int):Nat→Int→Int→(List Int)→Option ((Int×(List Int)×Unit)×Unit)
 | 0,_,_,_=>none
 | n+1,v3,v5,v8=>r11 lf v0 v1 v2 v4 v6 v7 v9 v3 v5 v8 (l11 lf v0 v1 v2 v4 v6 v7 v9 n) (fun w0 w1=>some ((w0,w1,()),()))
def sh11:ShS:=⟨[.s (.p1 5 1),.s (.row 4),.s (.int .i64),.a 4,.s (.int .i64),.a 3,.s (.int .i64),.s (.int .i64),.a 36],[.row (.int .i64) 3 false,.gone,.gone,.gone,.row (.int .i64) 3 false,.row (.int .i64) 3 false,.row (.int .i64) 3 false]⟩
def S11(p:Nat×Nat×Int×Int×Int×Int×(List Int)×(List Int)×(List Int)×(List Int)×Unit):St:=sh11.b p
def xh10:ShS:=⟨[.a 7,.s (.int .i64),.a 41],[.row (.int .i64) 3 false,.gone,.gone,.gone,.row (.int .i64) 3 false,.row (.int .i64) 3 false,.row (.int .i64) 3 false]⟩
def o11(v0 v1:Nat)(v2 v4:Int)(v6 v7 v9:List Int)(y:(Int×(List Int)×Unit)×Unit):Alt:=.one (.exit 0) (xh10.b (y.1.1,v6,v7,y.1.2.1,v9,()))
def r12{ρ:Type}(lf:Nat)(v0 v1:Nat)(v2 v3 v5:Int)(v7 v8 v10:List Int)(v4 v6:Int)(v9:List Int)(K:Int→Int→(List Int)→Option ρ)(E0:(List Int)→Option ρ):Option ρ :=
 br (decide (v6 < v5)) (
 bd (idxB v1 v6) fun j99 =>
 bd (v9[(v0+j99)]?) fun y100 =>
 br (decide (v6 < v2)) (
 bd (idxB v8.length v6) fun j101 =>
 bd (v8[j101]?) fun y102 =>
 bd (iRem (i64.wrap ((i64.wrap (v4+y100))+y102)) 1000000000) fun r103 =>
 bd (iQuo .i64 (i64.wrap ((i64.wrap (v4+y100))+y102)) 1000000000) fun r104 =>
 bd (idxB v1 v6) fun j105 =>
 bd (upE v9 (v0+j105) fun _=>some r103) fun q106 =>
 K r104 (i64.wrap (v6+1)) q106) (
 bd (iRem (i64.wrap (v4+y100)) 1000000000) fun r108 =>
 bd (iQuo .i64 (i64.wrap (v4+y100)) 1000000000) fun r109 =>
 bd (idxB v1 v6) fun j110 =>
 bd (upE v9 (v0+j110) fun _=>some r108) fun q111 =>
 K r109 (i64.wrap (v6+1)) q111)) (
 E0 v9)
def l12(lf:Nat)(v0 v1:Nat)(v2 v3 v5:Int)(v7 v8 v10:List Int):Nat→Int→Int→(List Int)→Option (((List Int)×Unit)×Unit)
 | 0,_,_,_=>none
 | n+1,v4,v6,v9=>r12 lf v0 v1 v2 v3 v5 v7 v8 v10 v4 v6 v9 (l12 lf v0 v1 v2 v3 v5 v7 v8 v10 n) (fun w0=>some ((w0,()),()))
def sh12:ShS:=⟨[.s (.p1 5 1),.s (.row 4),.a 3,.s (.int .i64),.a 1,.s (.int .i64),.a 1,.s (.int .i64),.a 68,.s (.int .i64),.s (.int .i64),.a 26],[.row (.int .i64) 3 false,.gone,.gone,.gone,.row (.int .i64) 3 false,.row (.int .i64) 3 false,.row (.int .i64) 3 false]⟩
def S12(p:Nat×Nat×Int×Int×Int×Int×Int×(List Int)×(List Int)×(List Int)×(List Int)×Unit):St:=sh12.b p
def xh11:ShS:=⟨[.a 7,.s (.int .i64),.a 98],[.row (.int .i64) 3 false,.gone,.gone,.gone,.row (.int .i64) 3 false,.row (.int .i64) 3 false,.row (.int .i64) 3 false]⟩
def o12(v0 v1:Nat)(v2 v3 v5:Int)(v7 v8 v10:List Int)(y:((List Int)×Unit)×Unit):Alt:=.one (.exit 2) (xh11.b (v3,v7,v8,y.1.1,v10,()))
def r9{ρ:Type}(lf:Nat)(v0:Int)(v2 v3:List Int)(v1:Int)(v4 v5:List Int)(K:Int→(List Int)→(List Int)→Option ρ)(E0:(List Int)→(List Int)→Option ρ):Option ρ :=
 br (decide (v1≥0)) (
 bd (cutB v4.length (some v1) (some (i64.wrap ((i64.wrap (v1+v0))+1)))) fun p59 =>
 bd (idxB p59.2 ((v3.length:Nat):Int)) fun j60 =>
 bd (v4[((0+p59.1)+j60)]?) fun y61 =>
 bd (idxB p59.2 (i64.wrap (((v3.length:Nat):Int)-1))) fun j62 =>
 bd (v4[((0+p59.1)+j62)]?) fun y63 =>
 bd (idxB v3.length (i64.wrap (((v3.length:Nat):Int)-1))) fun j64 =>
 bd (v3[j64]?) fun y65 =>
 bd (iQuo .i64 (i64.wrap ((i64.wrap (y61*1000000000))+y63)) y65) fun r66 =>
 bd (idxB v3.length (i64.wrap (((v3.length:Nat):Int)-1))) fun j67 =>
 bd (v3[j67]?) fun y68 =>
 bd (l10 lf (0+p59.1) p59.2 ((v3.length:Nat):Int) v2 v3 v4 v5 (lf+40) (if 999999999 < r66 then 999999999 else r66) (i64.wrap ((i64.wrap ((i64.wrap (y61*1000000000))+y63))-(i64.wrap ((if 999999999 < r66 then 999999999 else r66)*y68))))) fun z75 =>
 bd (l11 lf (0+p59.1) p59.2 z75.1.1 ((p59.2:Nat):Int) v2 v3 v5 (lf+40) 0 0 v4) fun z98 =>
 br (!(z98.1.1==0)) (
 bd (l12 lf (0+p59.1) p59.2 ((v3.length:Nat):Int) (i64.wrap (z75.1.1-1)) ((p59.2:Nat):Int) v2 v3 v5 (lf+40) 0 0 z98.1.2.1) fun z113 =>
 bd (idxB v5.length v1) fun j114 =>
 bd (upE v5 j114 fun _=>some (i64.wrap (z75.1.1-1))) fun q115 =>
 K (i64.wrap (v1-1)) z113.1.1 q115) (
 bd (idxB v5.length v1) fun j117 =>
 bd (upE v5 j117 fun _=>some z75.1.1) fun q118 =>
 K (i64.wrap (v1-1)) z98.1.2.1 q118)) (
 E0 v4 v5)
def l9(lf:Nat)(v0:Int)(v2 v3:List Int):Nat→Int→(List Int)→(List Int)→Option (((List Int)×(List Int)×Unit)×Unit)
 | 0,_,_,_=>none
 | n+1,v1,v4,v5=>r9 lf v0 v2 v3 v1 v4 v5 (l9 lf v0 v2 v3 n) (fun w0 w1=>some ((w0,w1,()),()))
def sh9:ShS:=⟨[.a 8,.s (.row 0),.s (.row 5),.s (.row 4),.s (.int .i64),.s (.row 6),.s (.int .i64),.a 87],[.row (.int .i64) 3 false,.gone,.gone,.gone,.row (.int .i64) 3 false,.row (.int .i64) 3 false,.row (.int .i64) 3 false]⟩
def S9(p:Int×Int×(List Int)×(List Int)×(List Int)×(List Int)×Unit):St:=sh9.b p
def xh12:ShS:=⟨[.a 8,.s (.row 0),.s (.row 5),.a 2,.s (.row 6),.a 88],[.row (.int .i64) 3 false,.gone,.gone,.gone,.row (.int .i64) 3 false,.row (.int .i64) 3 false,.row (.int .i64) 3 false]⟩
def o9(v0:Int)(v2 v3:List Int)(y:((List Int)×(List Int)×Unit)×Unit):Alt:=.one (.exit 2) (xh12.b (v2,v3,y.1.1,y.1.2.1,()))
def r13{ρ:Type}(lf:Nat)(v0:List Int)(v1:Nat)(v2 v3:List Int)(v4:List Int)(K:(List Int)→Option ρ)(E0:(List Int)→Option ρ):Option ρ :=
 br (decide (((v4.length:Nat):Int)≤((v0.length:Nat):Int))) (
 bd (apL true 8 v4 [0]) fun q126 =>
 K q126) (
 E0 v4)
def l13(lf:Nat)(v0:List Int)(v1:Nat)(v2 v3:List Int):Nat→(List Int)→Option (((List Int)×Unit)×Unit)
 | 0,_=>none
 | n+1,v4=>r13 lf v0 v1 v2 v3 v4 (l13 lf v0 v1 v2 v3 n) (fun w0=>some ((w0,()),()))
def sh13:ShS:=⟨[.s (.sl (.int .i64)),.a 7,.s (.row 0),.s (.row 5),.s (.p0 4 1),.a 90],[.row (.int .i64) 3 false,.gone,.gone,.gone,.row (.int .i64) 3 false,.row (.int .i64) 3 false]⟩
def S13(p:(List Int)×Nat×(List Int)×(List Int)×(List Int)×Unit):St:=sh13.b p
def xh13:ShS:=⟨[.a 8,.s (.row 0),.s (.row 5),.s (.p0 4 1),.a 90],[.row (.int .i64) 3 false,.gone,.gone,.gone,.row (.int .i64) 3 false,.row (.int .i64) 3 false]⟩
def o13(v0:List Int)(v1:Nat)(v2 v3:List Int)(y:((List Int)×Unit)×Unit):Alt:=.one (.exit 0) (xh13.b (v1,v2,v3,y.1.1,()))
def r15{ρ:Type}(lf:Nat)(v0 v1 v2:Nat)(v3:Int)(v6 v7 v8 v9:List Int)(v4 v5:Int)(K:Int→Int→Option ρ)(E0:Int→Option ρ):Option ρ :=
 br (decide (v5 < 1000000000)) (
 bd (idxB v2 (i64.wrap (v3-2))) fun j139 =>
 bd (v7[(0+j139)]?) fun y140 =>
 bd (idxB v1 (i64.wrap (v3-2))) fun j141 =>
 bd (v8[(v0+j141)]?) fun y142 =>
 br (decide ((i64.wrap (v4*y140)) >(i64.wrap ((i64.wrap (v5*1000000000))+y142)))) (
 bd (idxB v2 (i64.wrap (v3-1))) fun j143 =>
 bd (v7[(0+j143)]?) fun y144 =>
 K (i64.wrap (v4-1)) (i64.wrap (v5+y144))) (
 E0 v4)) (
 E0 v4)
def l15(lf:Nat)(v0 v1 v2:Nat)(v3:Int)(v6 v7 v8 v9:List Int):Nat→Int→Int→Option ((Int×Unit)×Unit)
 | 0,_,_=>none
 | n+1,v4,v5=>r15 lf v0 v1 v2 v3 v6 v7 v8 v9 v4 v5 (l15 lf v0 v1 v2 v3 v6 v7 v8 v9 n) (fun w0=>some ((w0,()),()))
def sh15:ShS:=⟨[.s (.p1 5 1),.s (.p0 4 1),.a 3,.s (.int .i64),.a 1,.s (.int .i64),.s (.int .i64),.a 97],[.row (.int .i64) 3 false,.gone,.gone,.gone,.row (.int .i64) 3 false,.row (.int .i64) 3 false,.row (.int .i64) 3 false]⟩
def S15(p:Nat×Nat×Nat×Int×Int×Int×(List Int)×(List Int)×(List Int)×(List Int)×Unit):St:=sh15.b p
def xh14:ShS:=⟨[.s (.p1 5 1),.s (.p0 4 1),.a 3,.s (.int .i64),.a 1,.s (.int .i64),.a 98],[.row (.int .i64) 3 false,.gone,.gone,.gone,.row (.int .i64) 3 false,.row (.int .i64) 3 false,.row (.int .i64) 3 false]⟩
def o15(v0 v1 v2:Nat)(v3:Int)(v6 v7 v8 v9:List Int)(y:(Int×Unit)×Unit):Alt:=.one (.exit 0) (xh14.b (v0,v1,v2,v3,y.1.1,v6,v7,v8,v9,()))
def r16{ρ:Type}(lf:Nat)(v0 v1 v2:Nat)(v3 v5:Int)(v7 v8 v10:List Int)(v4 v6:Int)(v9:List Int)(K:Int→Int→(List Int)→Option ρ)(E0:Int→(List Int)→Option ρ):Option ρ :=
 br (decide (v6 < v5)) (
 br (decide (v6 < ((v2:Nat):Int))) (
 bd (idxB v2 v6) fun j146 =>
 bd (v8[(0+j146)]?) fun y147 =>
 bd (idxB v1 v6) fun j148 =>
 bd (v9[(v0+j148)]?) fun y149 =>
 bd (iRem (i64.wrap (v4+(i64.wrap (v3*y147)))) 1000000000) fun r150 =>
 bd (iQuo .i64 (i64.wrap (v4+(i64.wrap (v3*y147)))) 1000000000) fun r151 =>
 br (decide ((i64.wrap (y149-r150)) < 0)) (
 bd (idxB v1 v6) fun j152 =>
 bd (upE v9 (v0+j152) fun _=>some (i64.wrap ((i64.wrap (y149-r150))+1000000000))) fun q153 =>
 K (i64.wrap (r151+1)) (i64.wrap (v6+1)) q153) (
 bd (idxB v1 v6) fun j155 =>
 bd (upE v9 (v0+j155) fun _=>some (i64.wrap (y149-r150))) fun q156 =>
 K r151 (i64.wrap (v6+1)) q156)) (
 bd (idxB v1 v6) fun j158 =>
 bd (v9[(v0+j158)]?) fun y159 =>
 bd (iRem v4 1000000000) fun r160 =>
 bd (iQuo .i64 v4 1000000000) fun r161 =>
 br (decide ((i64.wrap (y159-r160)) < 0)) (
 bd (idxB v1 v6) fun j162 =>
 bd (upE v9 (v0+j162) fun _=>some (i64.wrap ((i64.wrap (y159-r160))+1000000000))) fun q163 =>
 K (i64.wrap (r161+1)) (i64.wrap (v6+1)) q163) (
 bd (idxB v1 v6) fun j165 =>
 bd (upE v9 (v0+j165) fun _=>some (i64.wrap (y159-r160))) fun q166 =>
 K r161 (i64.wrap (v6+1)) q166))) (
 E0 v4 v9)
def l16(lf:Nat)(v0 v1 v2:Nat)(v3 v5:Int)(v7 v8 v10:List Int):Nat→Int→Int→(List Int)→Option ((Int×(List Int)×Unit)×Unit)
 | 0,_,_,_=>none
 | n+1,v4,v6,v9=>r16 lf v0 v1 v2 v3 v5 v7 v8 v10 v4 v6 v9 (l16 lf v0 v1 v2 v3 v5 v7 v8 v10 n) (fun w0 w1=>some ((w0,w1,()),()))
def sh16:ShS:=⟨[.s (.p1 5 1),.s (.p0 4 1),.s (.int .i64),.a 4,.s (.int .i64),.a 3,.s (.int .i64),.s (.int .i64),.a 36],[.row (.int .i64) 3 false,.gone,.gone,.gone,.row (.int .i64) 3 false,.row (.int .i64) 3 false,.row (.int .i64) 3 false]⟩
def S16(p:Nat×Nat×Nat×Int×Int×Int×Int×(List Int)×(List Int)×(List Int)×(List Int)×Unit):St:=sh16.b p
def o16(v0 v1 v2:Nat)(v3 v5:Int)(v7 v8 v10:List Int)(y:(Int×(List Int)×Unit)×Unit):Alt:=.one (.exit 0) (xh10.b (y.1.1,v7,v8,y.1.2.1,v10,()))
def r17{ρ:Type}(lf:Nat)(v0 v1 v2:Nat)(v3 v4 v6:Int)(v8 v9 v11:List Int)(v5 v7:Int)(v10:List Int)(K:Int→Int→(List Int)→Option ρ)(E0:(List Int)→Option ρ):Option ρ :=
 br (decide (v7 < v6)) (
 bd (idxB v1 v7) fun j169 =>
 bd (v10[(v0+j169)]?) fun y170 =>
 br (decide (v7 < v3)) (
 bd (idxB v2 v7) fun j171 =>
 bd (v9[(0+j171)]?) fun y172 =>
 bd (iRem (i64.wrap ((i64.wrap (v5+y170))+y172)) 1000000000) fun r173 =>
 bd (iQuo .i64 (i64.wrap ((i64.wrap (v5+y170))+y172)) 1000000000) fun r174 =>
 bd (idxB v1 v7) fun j175 =>
 bd (upE v10 (v0+j175) fun _=>some r173) fun q176 =>
 K r174 (i64.wrap (v7+1)) q176) (
 bd (iRem (i64.wrap (v5+y170)) 1000000000) fun r178 =>
 bd (iQuo .i64 (i64.wrap (v5+y170)) 1000000000) fun r179 =>
 bd (idxB v1 v7) fun j180 =>
 bd (upE v10 (v0+j180) fun _=>some r178) fun q181 =>
 K r179 (i64.wrap (v7+1)) q181)) (
 E0 v10)
def l17(lf:Nat)(v0 v1 v2:Nat)(v3 v4 v6:Int)(v8 v9 v11:List Int):Nat→Int→Int→(List Int)→Option (((List Int)×Unit)×Unit)
 | 0,_,_,_=>none
 | n+1,v5,v7,v10=>r17 lf v0 v1 v2 v3 v4 v6 v8 v9 v11 v5 v7 v10 (l17 lf v0 v1 v2 v3 v4 v6 v8 v9 v11 n) (fun w0=>some ((w0,()),()))
def sh17:ShS:=⟨[.s (.p1 5 1),.s (.p0 4 1),.a 3,.s (.int .i64),.a 1,.s (.int .i64),.a 1,.s (.int .i64),.a 68,.s (.int .i64),.s (.int .i64),.a 26],[.row (.int .i64) 3 false,.gone,.gone,.gone,.row (.int .i64) 3 false,.row (.int .i64) 3 false,.row (.int .i64) 3 false]⟩
def S17(p:Nat×Nat×Nat×Int×Int×Int×Int×Int×(List Int)×(List Int)×(List Int)×(List Int)×Unit):St:=sh17.b p
def o17(v0 v1 v2:Nat)(v3 v4 v6:Int)(v8 v9 v11:List Int)(y:((List Int)×Unit)×Unit):Alt:=.one (.exit 2) (xh11.b (v4,v8,v9,y.1.1,v11,()))
def r14{ρ:Type}(lf:Nat)(v0:Nat)(v1:Int)(v3 v4:List Int)(v2:Int)(v5 v6:List Int)(K:Int→(List Int)→(List Int)→Option ρ)(E0:(List Int)→(List Int)→Option ρ):Option ρ :=
 br (decide (v2≥0)) (
 bd (cutB v5.length (some v2) (some (i64.wrap ((i64.wrap (v2+v1))+1)))) fun p129 =>
 bd (idxB p129.2 ((v0:Nat):Int)) fun j130 =>
 bd (v5[((0+p129.1)+j130)]?) fun y131 =>
 bd (idxB p129.2 (i64.wrap (((v0:Nat):Int)-1))) fun j132 =>
 bd (v5[((0+p129.1)+j132)]?) fun y133 =>
 bd (idxB v0 (i64.wrap (((v0:Nat):Int)-1))) fun j134 =>
 bd (v4[(0+j134)]?) fun y135 =>
 bd (iQuo .i64 (i64.wrap ((i64.wrap (y131*1000000000))+y133)) y135) fun r136 =>
 bd (idxB v0 (i64.wrap (((v0:Nat):Int)-1))) fun j137 =>
 bd (v4[(0+j137)]?) fun y138 =>
 bd (l15 lf (0+p129.1) p129.2 v0 ((v0:Nat):Int) v3 v4 v5 v6 (lf+40) (if 999999999 < r136 then 999999999 else r136) (i64.wrap ((i64.wrap ((i64.wrap (y131*1000000000))+y133))-(i64.wrap ((if 999999999 < r136 then 999999999 else r136)*y138))))) fun z145 =>
 bd (l16 lf (0+p129.1) p129.2 v0 z145.1.1 ((p129.2:Nat):Int) v3 v4 v6 (lf+40) 0 0 v5) fun z168 =>
 br (!(z168.1.1==0)) (
 bd (l17 lf (0+p129.1) p129.2 v0 ((v0:Nat):Int) (i64.wrap (z145.1.1-1)) ((p129.2:Nat):Int) v3 v4 v6 (lf+40) 0 0 z168.1.2.1) fun z183 =>
 bd (idxB v6.length v2) fun j184 =>
 bd (upE v6 j184 fun _=>some (i64.wrap (z145.1.1-1))) fun q185 =>
 K (i64.wrap (v2-1)) z183.1.1 q185) (
 bd (idxB v6.length v2) fun j187 =>
 bd (upE v6 j187 fun _=>some z145.1.1) fun q188 =>
 K (i64.wrap (v2-1)) z168.1.2.1 q188)) (
 E0 v5 v6)
def l14(lf:Nat)(v0:Nat)(v1:Int)(v3 v4:List Int):Nat→Int→(List Int)→(List Int)→Option (((List Int)×(List Int)×Unit)×Unit)
 | 0,_,_,_=>none
 | n+1,v2,v5,v6=>r14 lf v0 v1 v3 v4 v2 v5 v6 (l14 lf v0 v1 v3 v4 n) (fun w0 w1=>some ((w0,w1,()),()))
def sh14:ShS:=⟨[.a 8,.s (.row 0),.s (.row 5),.s (.p0 4 1),.s (.int .i64),.s (.row 6),.s (.int .i64),.a 87],[.row (.int .i64) 3 false,.gone,.gone,.gone,.row (.int .i64) 3 false,.row (.int .i64) 3 false,.row (.int .i64) 3 false]⟩
def S14(p:Nat×Int×Int×(List Int)×(List Int)×(List Int)×(List Int)×Unit):St:=sh14.b p
def o14(v0:Nat)(v1:Int)(v3 v4:List Int)(y:((List Int)×(List Int)×Unit)×Unit):Alt:=.one (.exit 2) (xh12.b (v3,v4,y.1.1,y.1.2.1,()))
def tb(lf:Nat):List (FuncId×Entry):=[(209,bg.E lf),(221,eF.E lf),(261,dX.E lf)]
def uh(lf:Nat):List (Nat×(St→Option LTE)):=[(0,sumE sh0 fun(p:(List Int)×Int×Int×(List Int)×(List Int)×Unit)=>⟨((List Int)×Unit)×Unit,l0 lf p.1 p.2.1 p.2.2.2.1 (lf+40) p.2.2.1 p.2.2.2.2.1,o0 p.1 p.2.1 p.2.2.2.1⟩),
 (0,sumE sh4 fun(p:(List Int)×Int×Int×(List Int)×(List Int)×(List Int)×(List Int)×Unit)=>⟨((List Int)×Unit)×Unit,l4 lf p.1 p.2.1 p.2.2.2.1 p.2.2.2.2.1 p.2.2.2.2.2.1 (lf+40) p.2.2.1 p.2.2.2.2.2.2.1,o4 p.1 p.2.1 p.2.2.2.1 p.2.2.2.2.1 p.2.2.2.2.2.1⟩),
 (1,sumE sh1 fun(p:Int×Int×Int×(List Int)×Int×Int×Int×Int×(List Int)×(List Int)×Unit)=>⟨(Int×(List Int)×Unit)×Unit,l1 lf p.1 p.2.1 p.2.2.2.1 p.2.2.2.2.1 p.2.2.2.2.2.1 p.2.2.2.2.2.2.1 p.2.2.2.2.2.2.2.2.1 (lf+40) p.2.2.1 p.2.2.2.2.2.2.2.1 p.2.2.2.2.2.2.2.2.2.1,o1 p.1 p.2.1 p.2.2.2.1 p.2.2.2.2.1 p.2.2.2.2.2.1 p.2.2.2.2.2.2.1 p.2.2.2.2.2.2.2.2.1⟩),
 (1,sumE sh5 fun(p:Int×Int×Int×(List Int)×Int×Int×Int×Int×(List Int)×(List Int)×(List Int)×(List Int)×Unit)=>⟨(Int×(List Int)×Unit)×Unit,l5 lf p.1 p.2.1 p.2.2.2.1 p.2.2.2.2.1 p.2.2.2.2.2.1 p.2.2.2.2.2.2.1 p.2.2.2.2.2.2.2.2.1 p.2.2.2.2.2.2.2.2.2.1 p.2.2.2.2.2.2.2.2.2.2.1 (lf+40) p.2.2.1 p.2.2.2.2.2.2.2.1 p.2.2.2.2.2.2.2.2.2.2.2.1,o5 p.1 p.2.1 p.2.2.2.1 p.2.2.2.2.1 p.2.2.2.2.2.1 p.2.2.2.2.2.2.1 p.2.2.2.2.2.2.2.2.1 p.2.2.2.2.2.2.2.2.2.1 p.2.2.2.2.2.2.2.2.2.2.1⟩)]
def ug(lf:Nat):List (Nat×(St→Option LTE)):=[(0,sumE sh3 fun(p:Nat×(List Int)×(List Int)×Unit)=>⟨(Nat×(List Int)×(List Int)×Unit)×Unit,l3 lf p.2.1 p.2.2.1 (lf+40) p.1,o3 p.2.1 p.2.2.1⟩),
 (0,sumE sh2 fun(p:(List Int)×(List Int)×Unit)=>⟨Bool×((List Int)×(List Int)×Unit)×(Nat×(List Int)×(List Int)×Unit)×Unit,l2 lf p.1 p.2.1 (lf+40),o2 p.1 p.2.1⟩),
 (0,sumE sh7 fun(p:Nat×(List Int)×(List Int)×(List Int)×(List Int)×Unit)=>⟨(Nat×(List Int)×(List Int)×(List Int)×(List Int)×Unit)×Unit,l7 lf p.2.1 p.2.2.1 p.2.2.2.1 p.2.2.2.2.1 (lf+40) p.1,o7 p.2.1 p.2.2.1 p.2.2.2.1 p.2.2.2.2.1⟩),
 (0,sumE sh6 fun(p:(List Int)×(List Int)×(List Int)×(List Int)×Unit)=>⟨Bool×((List Int)×(List Int)×(List Int)×(List Int)×Unit)×(Nat×(List Int)×(List Int)×(List Int)×(List Int)×Unit)×Unit,l6 lf p.1 p.2.1 p.2.2.1 p.2.2.2.1 (lf+40),o6 p.1 p.2.1 p.2.2.1 p.2.2.2.1⟩)]
def um(lf:Nat):List (Nat×(St→Option LTE)):=[(0,sumE sh8 fun(p:(List Int)×(List Int)×(List Int)×(List Int)×Unit)=>⟨((List Int)×Unit)×Unit,l8 lf p.1 p.2.1 p.2.2.1 (lf+40) p.2.2.2.1,o8 p.1 p.2.1 p.2.2.1⟩),
 (0,sumE sh13 fun(p:(List Int)×Nat×(List Int)×(List Int)×(List Int)×Unit)=>⟨((List Int)×Unit)×Unit,l13 lf p.1 p.2.1 p.2.2.1 p.2.2.2.1 (lf+40) p.2.2.2.2.1,o13 p.1 p.2.1 p.2.2.1 p.2.2.2.1⟩),
 (1,sumE sh9 fun(p:Int×Int×(List Int)×(List Int)×(List Int)×(List Int)×Unit)=>⟨((List Int)×(List Int)×Unit)×Unit,l9 lf p.1 p.2.2.1 p.2.2.2.1 (lf+40) p.2.1 p.2.2.2.2.1 p.2.2.2.2.2.1,o9 p.1 p.2.2.1 p.2.2.2.1⟩),
 (1,sumE sh14 fun(p:Nat×Int×Int×(List Int)×(List Int)×(List Int)×(List Int)×Unit)=>⟨((List Int)×(List Int)×Unit)×Unit,l14 lf p.1 p.2.1 p.2.2.2.1 p.2.2.2.2.1 (lf+40) p.2.2.1 p.2.2.2.2.2.1 p.2.2.2.2.2.2.1,o14 p.1 p.2.1 p.2.2.2.1 p.2.2.2.2.1⟩)]
def uj(lf:Nat):List (Nat×(St→Option LTE)):=[(0,sumE sh10 fun(p:Nat×Nat×Int×Int×Int×(List Int)×(List Int)×(List Int)×(List Int)×Unit)=>⟨(Int×Unit)×Unit,l10 lf p.1 p.2.1 p.2.2.1 p.2.2.2.2.2.1 p.2.2.2.2.2.2.1 p.2.2.2.2.2.2.2.1 p.2.2.2.2.2.2.2.2.1 (lf+40) p.2.2.2.1 p.2.2.2.2.1,o10 p.1 p.2.1 p.2.2.1 p.2.2.2.2.2.1 p.2.2.2.2.2.2.1 p.2.2.2.2.2.2.2.1 p.2.2.2.2.2.2.2.2.1⟩),
 (0,sumE sh15 fun(p:Nat×Nat×Nat×Int×Int×Int×(List Int)×(List Int)×(List Int)×(List Int)×Unit)=>⟨(Int×Unit)×Unit,l15 lf p.1 p.2.1 p.2.2.1 p.2.2.2.1 p.2.2.2.2.2.2.1 p.2.2.2.2.2.2.2.1 p.2.2.2.2.2.2.2.2.1 p.2.2.2.2.2.2.2.2.2.1 (lf+40) p.2.2.2.2.1 p.2.2.2.2.2.1,o15 p.1 p.2.1 p.2.2.1 p.2.2.2.1 p.2.2.2.2.2.2.1 p.2.2.2.2.2.2.2.1 p.2.2.2.2.2.2.2.2.1 p.2.2.2.2.2.2.2.2.2.1⟩),
 (1,sumE sh12 fun(p:Nat×Nat×Int×Int×Int×Int×Int×(List Int)×(List Int)×(List Int)×(List Int)×Unit)=>⟨((List Int)×Unit)×Unit,l12 lf p.1 p.2.1 p.2.2.1 p.2.2.2.1 p.2.2.2.2.2.1 p.2.2.2.2.2.2.2.1 p.2.2.2.2.2.2.2.2.1 p.2.2.2.2.2.2.2.2.2.2.1 (lf+40) p.2.2.2.2.1 p.2.2.2.2.2.2.1 p.2.2.2.2.2.2.2.2.2.1,o12 p.1 p.2.1 p.2.2.1 p.2.2.2.1 p.2.2.2.2.2.1 p.2.2.2.2.2.2.2.1 p.2.2.2.2.2.2.2.2.1 p.2.2.2.2.2.2.2.2.2.2.1⟩),
 (1,sumE sh17 fun(p:Nat×Nat×Nat×Int×Int×Int×Int×Int×(List Int)×(List Int)×(List Int)×(List Int)×Unit)=>⟨((List Int)×Unit)×Unit,l17 lf p.1 p.2.1 p.2.2.1 p.2.2.2.1 p.2.2.2.2.1 p.2.2.2.2.2.2.1 p.2.2.2.2.2.2.2.2.1 p.2.2.2.2.2.2.2.2.2.1 p.2.2.2.2.2.2.2.2.2.2.2.1 (lf+40) p.2.2.2.2.2.1 p.2.2.2.2.2.2.2.1 p.2.2.2.2.2.2.2.2.2.2.1,o17 p.1 p.2.1 p.2.2.1 p.2.2.2.1 p.2.2.2.2.1 p.2.2.2.2.2.2.1 p.2.2.2.2.2.2.2.2.1 p.2.2.2.2.2.2.2.2.2.1 p.2.2.2.2.2.2.2.2.2.2.2.1⟩)]
def yT(lf:Nat):List (Nat×(St→Option LTE)):=[(0,sumE sh11 fun(p:Nat×Nat×Int×Int×Int×Int×(List Int)×(List Int)×(List Int)×(List Int)×Unit)=>⟨(Int×(List Int)×Unit)×Unit,l11 lf p.1 p.2.1 p.2.2.1 p.2.2.2.2.1 p.2.2.2.2.2.2.1 p.2.2.2.2.2.2.2.1 p.2.2.2.2.2.2.2.2.2.1 (lf+40) p.2.2.2.1 p.2.2.2.2.2.1 p.2.2.2.2.2.2.2.2.1,o11 p.1 p.2.1 p.2.2.1 p.2.2.2.2.1 p.2.2.2.2.2.2.1 p.2.2.2.2.2.2.2.1 p.2.2.2.2.2.2.2.2.2.1⟩),
 (0,sumE sh16 fun(p:Nat×Nat×Nat×Int×Int×Int×Int×(List Int)×(List Int)×(List Int)×(List Int)×Unit)=>⟨(Int×(List Int)×Unit)×Unit,l16 lf p.1 p.2.1 p.2.2.1 p.2.2.2.1 p.2.2.2.2.2.1 p.2.2.2.2.2.2.2.1 p.2.2.2.2.2.2.2.2.1 p.2.2.2.2.2.2.2.2.2.2.1 (lf+40) p.2.2.2.2.1 p.2.2.2.2.2.2.1 p.2.2.2.2.2.2.2.2.2.1,o16 p.1 p.2.1 p.2.2.1 p.2.2.2.1 p.2.2.2.2.2.1 p.2.2.2.2.2.2.2.1 p.2.2.2.2.2.2.2.2.1 p.2.2.2.2.2.2.2.2.2.2.1⟩)]
def ls(lf:Nat):List (Nat×FuncId×Sums):=[(12,160,sumsL (uh lf)),(11,209,sumsL (ug lf)),(13,224,sumsL (um lf)),(12,262,sumsL (uj lf)),(11,275,sumsL (yT lf))]
def it1{ρ:Type}(lf n:Nat)(st:St)(k:KE ρ):Option ρ:=itG anns (ls lf) (tb lf) lf 12 160 1 2 (sumsL (uh lf)) n st k
theorem t1{ρ:Type}(lf n:Nat)(v0 v1 v2:Int)(v3:List Int)(v4 v5 v6 v7:Int)(v8 v9:List Int)(k:KE ρ):it1 lf (n+1) (S1 (v0,v1,v2,v3,v4,v5,v6,v7,v8,v9,())) k=r1 lf v0 v1 v3 v4 v5 v6 v8 v2 v7 v9 (fun x0 x1 x2=>it1 lf n (S1 (v0,v1,x0,v3,v4,v5,v6,x1,v8,x2,())) k) (fun w0 w1=>k (.exit 2) (xh0.b (v0,w0,v3,v4,v5,v8,w1,()))):=by kernel_rfl
theorem u1{ρ:Type}(lf:Nat)(v0 v1:Int)(v3:List Int)(v4 v5 v6:Int)(v8:List Int)(k:KE ρ):∀ (n:Nat) (v2 v7:Int) (v9:List Int),it1 lf n (S1 (v0,v1,v2,v3,v4,v5,v6,v7,v8,v9,())) k=bd (l1 lf v0 v1 v3 v4 v5 v6 v8 n v2 v7 v9) fun y=>altK k (o1 v0 v1 v3 v4 v5 v6 v8 y)
 | 0,_,_,_=>by rw[l1,bd_none];rfl
 | n+1,v2,v7,v9=>by
  rw[t1];simp only[l1,r1,u1 lf v0 v1 v3 v4 v5 v6 v8 k n,bd_br,bd_bd,bd_some',bd_none,br_t,br_f,o1,altK]
def it0{ρ:Type}(lf n:Nat)(st:St)(k:KE ρ):Option ρ:=itG anns (ls lf) (tb lf) lf 12 160 0 2 (sumsL (uh lf)) n st k
theorem t0{ρ:Type}(lf n:Nat)(v0:List Int)(v1 v2:Int)(v3 v4:List Int)(k:KE ρ):it0 lf (n+1) (S0 (v0,v1,v2,v3,v4,())) k=r0 lf v0 v1 v3 v2 v4 (fun x0 x1=>it0 lf n (S0 (v0,v1,x0,v3,x1,())) k) (fun w0=>k (.exit 0) (xh1.b (v3,w0,()))):=by kernel_rfl
theorem u0{ρ:Type}(lf:Nat)(v0:List Int)(v1:Int)(v3:List Int)(k:KE ρ):∀ (n:Nat) (v2:Int) (v4:List Int),it0 lf n (S0 (v0,v1,v2,v3,v4,())) k=bd (l0 lf v0 v1 v3 n v2 v4) fun y=>altK k (o0 v0 v1 v3 y)
 | 0,_,_=>by rw[l0,bd_none];rfl
 | n+1,v2,v4=>by
  rw[t0];simp only[l0,r0,u0 lf v0 v1 v3 k n,bd_br,bd_bd,bd_some',bd_none,br_t,br_f,o0,altK]
def it3{ρ:Type}(lf n:Nat)(st:St)(k:KE ρ):Option ρ:=itG anns (ls lf) (tb lf) lf 11 209 0 2 (sumsL (ug lf)) n st k
theorem t3{ρ:Type}(lf n:Nat)(v0:Nat)(v1 v2:List Int)(k:KE ρ):it3 lf (n+1) (S3 (v0,v1,v2,())) k=r3 lf v1 v2 v0 (fun x0=>it3 lf n (S3 (x0,v1,v2,())) k) (fun w0 w1 w2=>k (.exit 0) (xh2.b (w0,w1,w2,()))):=by kernel_rfl
theorem u3{ρ:Type}(lf:Nat)(v1 v2:List Int)(k:KE ρ):∀ (n:Nat) (v0:Nat),it3 lf n (S3 (v0,v1,v2,())) k=bd (l3 lf v1 v2 n v0) fun y=>altK k (o3 v1 v2 y)
 | 0,_=>by rw[l3,bd_none];rfl
 | n+1,v0=>by
  rw[t3];simp only[l3,r3,u3 lf v1 v2 k n,bd_br,bd_bd,bd_some',bd_none,br_t,br_f,o3,altK]
def it2{ρ:Type}(lf n:Nat)(st:St)(k:KE ρ):Option ρ:=itG anns (ls lf) (tb lf) lf 11 209 0 2 (sumsL (ug lf)) n st k
theorem t2{ρ:Type}(lf n:Nat)(v0 v1:List Int)(k:KE ρ):it2 lf (n+1) (S2 (v0,v1,())) k=r2 lf v0 v1 (fun x0 x1 x2=>it3 lf n (S3 (x0,x1,x2,())) k) (fun w0 w1=>k (.exit 0) (xh3.b (w0,w1,()))):=by kernel_rfl
theorem u2{ρ:Type}(lf:Nat)(v0 v1:List Int)(k:KE ρ):∀ (n:Nat),it2 lf n (S2 (v0,v1,())) k=bd (l2 lf v0 v1 n) fun y=>altK k (o2 v0 v1 y)
 | 0=>by rw[l2,bd_none];rfl
 | n+1=>by
  rw[t2];simp only[l2,r2,u3,bd_br,bd_bd,bd_some',bd_none,br_t,br_f,o2,o3,altK]
def it5{ρ:Type}(lf n:Nat)(st:St)(k:KE ρ):Option ρ:=itG anns (ls lf) (tb lf) lf 12 160 1 5 (sumsL (uh lf)) n st k
theorem t5{ρ:Type}(lf n:Nat)(v0 v1 v2:Int)(v3:List Int)(v4 v5 v6 v7:Int)(v8 v9 v10 v11:List Int)(k:KE ρ):it5 lf (n+1) (S5 (v0,v1,v2,v3,v4,v5,v6,v7,v8,v9,v10,v11,())) k=r5 lf v0 v1 v3 v4 v5 v6 v8 v9 v10 v2 v7 v11 (fun x0 x1 x2=>it5 lf n (S5 (v0,v1,x0,v3,v4,v5,v6,x1,v8,v9,v10,x2,())) k) (fun w0 w1=>k (.exit 2) (xh4.b (v0,w0,v3,v4,v5,v8,v9,v10,w1,()))):=by kernel_rfl
theorem u5{ρ:Type}(lf:Nat)(v0 v1:Int)(v3:List Int)(v4 v5 v6:Int)(v8 v9 v10:List Int)(k:KE ρ):∀ (n:Nat) (v2 v7:Int) (v11:List Int),it5 lf n (S5 (v0,v1,v2,v3,v4,v5,v6,v7,v8,v9,v10,v11,())) k=bd (l5 lf v0 v1 v3 v4 v5 v6 v8 v9 v10 n v2 v7 v11) fun y=>altK k (o5 v0 v1 v3 v4 v5 v6 v8 v9 v10 y)
 | 0,_,_,_=>by rw[l5,bd_none];rfl
 | n+1,v2,v7,v11=>by
  rw[t5];simp only[l5,r5,u5 lf v0 v1 v3 v4 v5 v6 v8 v9 v10 k n,bd_br,bd_bd,bd_some',bd_none,br_t,br_f,o5,altK]
def it4{ρ:Type}(lf n:Nat)(st:St)(k:KE ρ):Option ρ:=itG anns (ls lf) (tb lf) lf 12 160 0 5 (sumsL (uh lf)) n st k
theorem t4{ρ:Type}(lf n:Nat)(v0:List Int)(v1 v2:Int)(v3 v4 v5 v6:List Int)(k:KE ρ):it4 lf (n+1) (S4 (v0,v1,v2,v3,v4,v5,v6,())) k=r4 lf v0 v1 v3 v4 v5 v2 v6 (fun x0 x1=>it4 lf n (S4 (v0,v1,x0,v3,v4,v5,x1,())) k) (fun w0=>k (.exit 0) (xh5.b (v3,v4,v5,w0,()))):=by kernel_rfl
theorem u4{ρ:Type}(lf:Nat)(v0:List Int)(v1:Int)(v3 v4 v5:List Int)(k:KE ρ):∀ (n:Nat) (v2:Int) (v6:List Int),it4 lf n (S4 (v0,v1,v2,v3,v4,v5,v6,())) k=bd (l4 lf v0 v1 v3 v4 v5 n v2 v6) fun y=>altK k (o4 v0 v1 v3 v4 v5 y)
 | 0,_,_=>by rw[l4,bd_none];rfl
 | n+1,v2,v6=>by
  rw[t4];simp only[l4,r4,u4 lf v0 v1 v3 v4 v5 k n,bd_br,bd_bd,bd_some',bd_none,br_t,br_f,o4,altK]
def it7{ρ:Type}(lf n:Nat)(st:St)(k:KE ρ):Option ρ:=itG anns (ls lf) (tb lf) lf 11 209 0 5 (sumsL (ug lf)) n st k
theorem t7{ρ:Type}(lf n:Nat)(v0:Nat)(v1 v2 v3 v4:List Int)(k:KE ρ):it7 lf (n+1) (S7 (v0,v1,v2,v3,v4,())) k=r7 lf v1 v2 v3 v4 v0 (fun x0=>it7 lf n (S7 (x0,v1,v2,v3,v4,())) k) (fun w0 w1 w2 w3 w4=>k (.exit 0) (xh6.b (w0,w1,w2,w3,w4,()))):=by kernel_rfl
theorem u7{ρ:Type}(lf:Nat)(v1 v2 v3 v4:List Int)(k:KE ρ):∀ (n:Nat) (v0:Nat),it7 lf n (S7 (v0,v1,v2,v3,v4,())) k=bd (l7 lf v1 v2 v3 v4 n v0) fun y=>altK k (o7 v1 v2 v3 v4 y)
 | 0,_=>by rw[l7,bd_none];rfl
 | n+1,v0=>by
  rw[t7];simp only[l7,r7,u7 lf v1 v2 v3 v4 k n,bd_br,bd_bd,bd_some',bd_none,br_t,br_f,o7,altK]
def it6{ρ:Type}(lf n:Nat)(st:St)(k:KE ρ):Option ρ:=itG anns (ls lf) (tb lf) lf 11 209 0 5 (sumsL (ug lf)) n st k
theorem t6{ρ:Type}(lf n:Nat)(v0 v1 v2 v3:List Int)(k:KE ρ):it6 lf (n+1) (S6 (v0,v1,v2,v3,())) k=r6 lf v0 v1 v2 v3 (fun x0 x1 x2 x3 x4=>it7 lf n (S7 (x0,x1,x2,x3,x4,())) k) (fun w0 w1 w2 w3=>k (.exit 0) (xh7.b (w0,w1,w2,w3,()))):=by kernel_rfl
theorem u6{ρ:Type}(lf:Nat)(v0 v1 v2 v3:List Int)(k:KE ρ):∀ (n:Nat),it6 lf n (S6 (v0,v1,v2,v3,())) k=bd (l6 lf v0 v1 v2 v3 n) fun y=>altK k (o6 v0 v1 v2 v3 y)
 | 0=>by rw[l6,bd_none];rfl
 | n+1=>by
  rw[t6];simp only[l6,r6,u7,bd_br,bd_bd,bd_some',bd_none,br_t,br_f,o6,o7,altK]
def it8{ρ:Type}(lf n:Nat)(st:St)(k:KE ρ):Option ρ:=itG anns (ls lf) (tb lf) lf 13 224 0 5 (sumsL (um lf)) n st k
theorem t8{ρ:Type}(lf n:Nat)(v0 v1 v2 v3:List Int)(k:KE ρ):it8 lf (n+1) (S8 (v0,v1,v2,v3,())) k=r8 lf v0 v1 v2 v3 (fun x0=>it8 lf n (S8 (v0,v1,v2,x0,())) k) (fun w0=>k (.exit 0) (xh8.b (v1,v2,w0,()))):=by kernel_rfl
theorem u8{ρ:Type}(lf:Nat)(v0 v1 v2:List Int)(k:KE ρ):∀ (n:Nat) (v3:List Int),it8 lf n (S8 (v0,v1,v2,v3,())) k=bd (l8 lf v0 v1 v2 n v3) fun y=>altK k (o8 v0 v1 v2 y)
 | 0,_=>by rw[l8,bd_none];rfl
 | n+1,v3=>by
  rw[t8];simp only[l8,r8,u8 lf v0 v1 v2 k n,bd_br,bd_bd,bd_some',bd_none,br_t,br_f,o8,altK]
def it10{ρ:Type}(lf n:Nat)(st:St)(k:KE ρ):Option ρ:=itG anns (ls lf) (tb lf) lf 12 262 0 7 (sumsL (uj lf)) n st k
theorem t10{ρ:Type}(lf n:Nat)(v0 v1:Nat)(v2 v3 v4:Int)(v5 v6 v7 v8:List Int)(k:KE ρ):it10 lf (n+1) (S10 (v0,v1,v2,v3,v4,v5,v6,v7,v8,())) k=r10 lf v0 v1 v2 v5 v6 v7 v8 v3 v4 (fun x0 x1=>it10 lf n (S10 (v0,v1,v2,x0,x1,v5,v6,v7,v8,())) k) (fun w0=>k (.exit 0) (xh9.b (v0,v1,v2,w0,v5,v6,v7,v8,()))):=by kernel_rfl
theorem u10{ρ:Type}(lf:Nat)(v0 v1:Nat)(v2:Int)(v5 v6 v7 v8:List Int)(k:KE ρ):∀ (n:Nat) (v3 v4:Int),it10 lf n (S10 (v0,v1,v2,v3,v4,v5,v6,v7,v8,())) k=bd (l10 lf v0 v1 v2 v5 v6 v7 v8 n v3 v4) fun y=>altK k (o10 v0 v1 v2 v5 v6 v7 v8 y)
 | 0,_,_=>by rw[l10,bd_none];rfl
 | n+1,v3,v4=>by
  rw[t10];simp only[l10,r10,u10 lf v0 v1 v2 v5 v6 v7 v8 k n,bd_br,bd_bd,bd_some',bd_none,br_t,br_f,o10,altK]
def it11{ρ:Type}(lf n:Nat)(st:St)(k:KE ρ):Option ρ:=itG anns (ls lf) (tb lf) lf 11 275 0 7 (sumsL (yT lf)) n st k
theorem t11{ρ:Type}(lf n:Nat)(v0 v1:Nat)(v2 v3 v4 v5:Int)(v6 v7 v8 v9:List Int)(k:KE ρ):it11 lf (n+1) (S11 (v0,v1,v2,v3,v4,v5,v6,v7,v8,v9,())) k=r11 lf v0 v1 v2 v4 v6 v7 v9 v3 v5 v8 (fun x0 x1 x2=>it11 lf n (S11 (v0,v1,v2,x0,v4,x1,v6,v7,x2,v9,())) k) (fun w0 w1=>k (.exit 0) (xh10.b (w0,v6,v7,w1,v9,()))):=by kernel_rfl
theorem u11{ρ:Type}(lf:Nat)(v0 v1:Nat)(v2 v4:Int)(v6 v7 v9:List Int)(k:KE ρ):∀ (n:Nat) (v3 v5:Int) (v8:List Int),it11 lf n (S11 (v0,v1,v2,v3,v4,v5,v6,v7,v8,v9,())) k=bd (l11 lf v0 v1 v2 v4 v6 v7 v9 n v3 v5 v8) fun y=>altK k (o11 v0 v1 v2 v4 v6 v7 v9 y)
 | 0,_,_,_=>by rw[l11,bd_none];rfl
 | n+1,v3,v5,v8=>by
  rw[t11];simp only[l11,r11,u11 lf v0 v1 v2 v4 v6 v7 v9 k n,bd_br,bd_bd,bd_some',bd_none,br_t,br_f,o11,altK]
def it12{ρ:Type}(lf n:Nat)(st:St)(k:KE ρ):Option ρ:=itG anns (ls lf) (tb lf) lf 12 262 1 7 (sumsL (uj lf)) n st k
theorem t12{ρ:Type}(lf n:Nat)(v0 v1:Nat)(v2 v3 v4 v5 v6:Int)(v7 v8 v9 v10:List Int)(k:KE ρ):it12 lf (n+1) (S12 (v0,v1,v2,v3,v4,v5,v6,v7,v8,v9,v10,())) k=r12 lf v0 v1 v2 v3 v5 v7 v8 v10 v4 v6 v9 (fun x0 x1 x2=>it12 lf n (S12 (v0,v1,v2,v3,x0,v5,x1,v7,v8,x2,v10,())) k) (fun w0=>k (.exit 2) (xh11.b (v3,v7,v8,w0,v10,()))):=by kernel_rfl
theorem u12{ρ:Type}(lf:Nat)(v0 v1:Nat)(v2 v3 v5:Int)(v7 v8 v10:List Int)(k:KE ρ):∀ (n:Nat) (v4 v6:Int) (v9:List Int),it12 lf n (S12 (v0,v1,v2,v3,v4,v5,v6,v7,v8,v9,v10,())) k=bd (l12 lf v0 v1 v2 v3 v5 v7 v8 v10 n v4 v6 v9) fun y=>altK k (o12 v0 v1 v2 v3 v5 v7 v8 v10 y)
 | 0,_,_,_=>by rw[l12,bd_none];rfl
 | n+1,v4,v6,v9=>by
  rw[t12];simp only[l12,r12,u12 lf v0 v1 v2 v3 v5 v7 v8 v10 k n,bd_br,bd_bd,bd_some',bd_none,br_t,br_f,o12,altK]
def it9{ρ:Type}(lf n:Nat)(st:St)(k:KE ρ):Option ρ:=itG anns (ls lf) (tb lf) lf 13 224 1 7 (sumsL (um lf)) n st k
theorem t9{ρ:Type}(lf n:Nat)(v0 v1:Int)(v2 v3 v4 v5:List Int)(k:KE ρ):it9 lf (n+1) (S9 (v0,v1,v2,v3,v4,v5,())) k=r9 lf v0 v2 v3 v1 v4 v5 (fun x0 x1 x2=>it9 lf n (S9 (v0,x0,v2,v3,x1,x2,())) k) (fun w0 w1=>k (.exit 2) (xh12.b (v2,v3,w0,w1,()))):=by kernel_rfl
theorem u9{ρ:Type}(lf:Nat)(v0:Int)(v2 v3:List Int)(k:KE ρ):∀ (n:Nat) (v1:Int) (v4 v5:List Int),it9 lf n (S9 (v0,v1,v2,v3,v4,v5,())) k=bd (l9 lf v0 v2 v3 n v1 v4 v5) fun y=>altK k (o9 v0 v2 v3 y)
 | 0,_,_,_=>by rw[l9,bd_none];rfl
 | n+1,v1,v4,v5=>by
  rw[t9];simp only[l9,r9,u9 lf v0 v2 v3 k n,bd_br,bd_bd,bd_some',bd_none,br_t,br_f,o9,altK]
def it13{ρ:Type}(lf n:Nat)(st:St)(k:KE ρ):Option ρ:=itG anns (ls lf) (tb lf) lf 13 224 0 5 (sumsL (um lf)) n st k
theorem t13{ρ:Type}(lf n:Nat)(v0:List Int)(v1:Nat)(v2 v3 v4:List Int)(k:KE ρ):it13 lf (n+1) (S13 (v0,v1,v2,v3,v4,())) k=r13 lf v0 v1 v2 v3 v4 (fun x0=>it13 lf n (S13 (v0,v1,v2,v3,x0,())) k) (fun w0=>k (.exit 0) (xh13.b (v1,v2,v3,w0,()))):=by kernel_rfl
theorem u13{ρ:Type}(lf:Nat)(v0:List Int)(v1:Nat)(v2 v3:List Int)(k:KE ρ):∀ (n:Nat) (v4:List Int),it13 lf n (S13 (v0,v1,v2,v3,v4,())) k=bd (l13 lf v0 v1 v2 v3 n v4) fun y=>altK k (o13 v0 v1 v2 v3 y)
 | 0,_=>by rw[l13,bd_none];rfl
 | n+1,v4=>by
  rw[t13];simp only[l13,r13,u13 lf v0 v1 v2 v3 k n,bd_br,bd_bd,bd_some',bd_none,br_t,br_f,o13,altK]
def it15{ρ:Type}(lf n:Nat)(st:St)(k:KE ρ):Option ρ:=itG anns (ls lf) (tb lf) lf 12 262 0 7 (sumsL (uj lf)) n st k
theorem t15{ρ:Type}(lf n:Nat)(v0 v1 v2:Nat)(v3 v4 v5:Int)(v6 v7 v8 v9:List Int)(k:KE ρ):it15 lf (n+1) (S15 (v0,v1,v2,v3,v4,v5,v6,v7,v8,v9,())) k=r15 lf v0 v1 v2 v3 v6 v7 v8 v9 v4 v5 (fun x0 x1=>it15 lf n (S15 (v0,v1,v2,v3,x0,x1,v6,v7,v8,v9,())) k) (fun w0=>k (.exit 0) (xh14.b (v0,v1,v2,v3,w0,v6,v7,v8,v9,()))):=by kernel_rfl
theorem u15{ρ:Type}(lf:Nat)(v0 v1 v2:Nat)(v3:Int)(v6 v7 v8 v9:List Int)(k:KE ρ):∀ (n:Nat) (v4 v5:Int),it15 lf n (S15 (v0,v1,v2,v3,v4,v5,v6,v7,v8,v9,())) k=bd (l15 lf v0 v1 v2 v3 v6 v7 v8 v9 n v4 v5) fun y=>altK k (o15 v0 v1 v2 v3 v6 v7 v8 v9 y)
 | 0,_,_=>by rw[l15,bd_none];rfl
 | n+1,v4,v5=>by
  rw[t15];simp only[l15,r15,u15 lf v0 v1 v2 v3 v6 v7 v8 v9 k n,bd_br,bd_bd,bd_some',bd_none,br_t,br_f,o15,altK]
def it16{ρ:Type}(lf n:Nat)(st:St)(k:KE ρ):Option ρ:=itG anns (ls lf) (tb lf) lf 11 275 0 7 (sumsL (yT lf)) n st k
theorem t16{ρ:Type}(lf n:Nat)(v0 v1 v2:Nat)(v3 v4 v5 v6:Int)(v7 v8 v9 v10:List Int)(k:KE ρ):it16 lf (n+1) (S16 (v0,v1,v2,v3,v4,v5,v6,v7,v8,v9,v10,())) k=r16 lf v0 v1 v2 v3 v5 v7 v8 v10 v4 v6 v9 (fun x0 x1 x2=>it16 lf n (S16 (v0,v1,v2,v3,x0,v5,x1,v7,v8,x2,v10,())) k) (fun w0 w1=>k (.exit 0) (xh10.b (w0,v7,v8,w1,v10,()))):=by kernel_rfl
theorem u16{ρ:Type}(lf:Nat)(v0 v1 v2:Nat)(v3 v5:Int)(v7 v8 v10:List Int)(k:KE ρ):∀ (n:Nat) (v4 v6:Int) (v9:List Int),it16 lf n (S16 (v0,v1,v2,v3,v4,v5,v6,v7,v8,v9,v10,())) k=bd (l16 lf v0 v1 v2 v3 v5 v7 v8 v10 n v4 v6 v9) fun y=>altK k (o16 v0 v1 v2 v3 v5 v7 v8 v10 y)
 | 0,_,_,_=>by rw[l16,bd_none];rfl
 | n+1,v4,v6,v9=>by
  rw[t16];simp only[l16,r16,u16 lf v0 v1 v2 v3 v5 v7 v8 v10 k n,bd_br,bd_bd,bd_some',bd_none,br_t,br_f,o16,altK]
def it17{ρ:Type}(lf n:Nat)(st:St)(k:KE ρ):Option ρ:=itG anns (ls lf) (tb lf) lf 12 262 1 7 (sumsL (uj lf)) n st k
theorem t17{ρ:Type}(lf n:Nat)(v0 v1 v2:Nat)(v3 v4 v5 v6 v7:Int)(v8 v9 v10 v11:List Int)(k:KE ρ):it17 lf (n+1) (S17 (v0,v1,v2,v3,v4,v5,v6,v7,v8,v9,v10,v11,())) k=r17 lf v0 v1 v2 v3 v4 v6 v8 v9 v11 v5 v7 v10 (fun x0 x1 x2=>it17 lf n (S17 (v0,v1,v2,v3,v4,x0,v6,x1,v8,v9,x2,v11,())) k) (fun w0=>k (.exit 2) (xh11.b (v4,v8,v9,w0,v11,()))):=by kernel_rfl
theorem u17{ρ:Type}(lf:Nat)(v0 v1 v2:Nat)(v3 v4 v6:Int)(v8 v9 v11:List Int)(k:KE ρ):∀ (n:Nat) (v5 v7:Int) (v10:List Int),it17 lf n (S17 (v0,v1,v2,v3,v4,v5,v6,v7,v8,v9,v10,v11,())) k=bd (l17 lf v0 v1 v2 v3 v4 v6 v8 v9 v11 n v5 v7 v10) fun y=>altK k (o17 v0 v1 v2 v3 v4 v6 v8 v9 v11 y)
 | 0,_,_,_=>by rw[l17,bd_none];rfl
 | n+1,v5,v7,v10=>by
  rw[t17];simp only[l17,r17,u17 lf v0 v1 v2 v3 v4 v6 v8 v9 v11 k n,bd_br,bd_bd,bd_some',bd_none,br_t,br_f,o17,altK]
def it14{ρ:Type}(lf n:Nat)(st:St)(k:KE ρ):Option ρ:=itG anns (ls lf) (tb lf) lf 13 224 1 7 (sumsL (um lf)) n st k
theorem t14{ρ:Type}(lf n:Nat)(v0:Nat)(v1 v2:Int)(v3 v4 v5 v6:List Int)(k:KE ρ):it14 lf (n+1) (S14 (v0,v1,v2,v3,v4,v5,v6,())) k=r14 lf v0 v1 v3 v4 v2 v5 v6 (fun x0 x1 x2=>it14 lf n (S14 (v0,v1,x0,v3,v4,x1,x2,())) k) (fun w0 w1=>k (.exit 2) (xh12.b (v3,v4,w0,w1,()))):=by kernel_rfl
theorem u14{ρ:Type}(lf:Nat)(v0:Nat)(v1:Int)(v3 v4:List Int)(k:KE ρ):∀ (n:Nat) (v2:Int) (v5 v6:List Int),it14 lf n (S14 (v0,v1,v2,v3,v4,v5,v6,())) k=bd (l14 lf v0 v1 v3 v4 n v2 v5 v6) fun y=>altK k (o14 v0 v1 v3 v4 y)
 | 0,_,_,_=>by rw[l14,bd_none];rfl
 | n+1,v2,v5,v6=>by
  rw[t14];simp only[l14,r14,u14 lf v0 v1 v3 v4 k n,bd_br,bd_bd,bd_some',bd_none,br_t,br_f,o14,altK]
theorem sl(lf:Nat):SL anns (ls lf) (tb lf) lf (ls lf):=slC (laC (fun _=>by kernel_rfl) (fun _ (x:(List Int)×Int×Int×(List Int)×(List Int)×Unit) k=>dK (u0 lf x.1 x.2.1 x.2.2.2.1 k (lf+40) x.2.2.1 x.2.2.2.2.1)) (laC (fun _=>by kernel_rfl) (fun _ (x:(List Int)×Int×Int×(List Int)×(List Int)×(List Int)×(List Int)×Unit) k=>dK (u4 lf x.1 x.2.1 x.2.2.2.1 x.2.2.2.2.1 x.2.2.2.2.2.1 k (lf+40) x.2.2.1 x.2.2.2.2.2.2.1)) (laC (fun _=>by kernel_rfl) (fun _ (x:Int×Int×Int×(List Int)×Int×Int×Int×Int×(List Int)×(List Int)×Unit) k=>dK (u1 lf x.1 x.2.1 x.2.2.2.1 x.2.2.2.2.1 x.2.2.2.2.2.1 x.2.2.2.2.2.2.1 x.2.2.2.2.2.2.2.2.1 k (lf+40) x.2.2.1 x.2.2.2.2.2.2.2.1 x.2.2.2.2.2.2.2.2.2.1)) (laC (fun _=>by kernel_rfl) (fun _ (x:Int×Int×Int×(List Int)×Int×Int×Int×Int×(List Int)×(List Int)×(List Int)×(List Int)×Unit) k=>dK (u5 lf x.1 x.2.1 x.2.2.2.1 x.2.2.2.2.1 x.2.2.2.2.2.1 x.2.2.2.2.2.2.1 x.2.2.2.2.2.2.2.2.1 x.2.2.2.2.2.2.2.2.2.1 x.2.2.2.2.2.2.2.2.2.2.1 k (lf+40) x.2.2.1 x.2.2.2.2.2.2.2.1 x.2.2.2.2.2.2.2.2.2.2.2.1)) laN)))) (slC (laC (fun _=>by kernel_rfl) (fun _ (x:Nat×(List Int)×(List Int)×Unit) k=>dK (u3 lf x.2.1 x.2.2.1 k (lf+40) x.1)) (laC (fun _=>by kernel_rfl) (fun _ (x:(List Int)×(List Int)×Unit) k=>dK (u2 lf x.1 x.2.1 k (lf+40))) (laC (fun _=>by kernel_rfl) (fun _ (x:Nat×(List Int)×(List Int)×(List Int)×(List Int)×Unit) k=>dK (u7 lf x.2.1 x.2.2.1 x.2.2.2.1 x.2.2.2.2.1 k (lf+40) x.1)) (laC (fun _=>by kernel_rfl) (fun _ (x:(List Int)×(List Int)×(List Int)×(List Int)×Unit) k=>dK (u6 lf x.1 x.2.1 x.2.2.1 x.2.2.2.1 k (lf+40))) laN)))) (slC (laC (fun _=>by kernel_rfl) (fun _ (x:(List Int)×(List Int)×(List Int)×(List Int)×Unit) k=>dK (u8 lf x.1 x.2.1 x.2.2.1 k (lf+40) x.2.2.2.1)) (laC (fun _=>by kernel_rfl) (fun _ (x:(List Int)×Nat×(List Int)×(List Int)×(List Int)×Unit) k=>dK (u13 lf x.1 x.2.1 x.2.2.1 x.2.2.2.1 k (lf+40) x.2.2.2.2.1)) (laC (fun _=>by kernel_rfl) (fun _ (x:Int×Int×(List Int)×(List Int)×(List Int)×(List Int)×Unit) k=>dK (u9 lf x.1 x.2.2.1 x.2.2.2.1 k (lf+40) x.2.1 x.2.2.2.2.1 x.2.2.2.2.2.1)) (laC (fun _=>by kernel_rfl) (fun _ (x:Nat×Int×Int×(List Int)×(List Int)×(List Int)×(List Int)×Unit) k=>dK (u14 lf x.1 x.2.1 x.2.2.2.1 x.2.2.2.2.1 k (lf+40) x.2.2.1 x.2.2.2.2.2.1 x.2.2.2.2.2.2.1)) laN)))) (slC (laC (fun _=>by kernel_rfl) (fun _ (x:Nat×Nat×Int×Int×Int×(List Int)×(List Int)×(List Int)×(List Int)×Unit) k=>dK (u10 lf x.1 x.2.1 x.2.2.1 x.2.2.2.2.2.1 x.2.2.2.2.2.2.1 x.2.2.2.2.2.2.2.1 x.2.2.2.2.2.2.2.2.1 k (lf+40) x.2.2.2.1 x.2.2.2.2.1)) (laC (fun _=>by kernel_rfl) (fun _ (x:Nat×Nat×Nat×Int×Int×Int×(List Int)×(List Int)×(List Int)×(List Int)×Unit) k=>dK (u15 lf x.1 x.2.1 x.2.2.1 x.2.2.2.1 x.2.2.2.2.2.2.1 x.2.2.2.2.2.2.2.1 x.2.2.2.2.2.2.2.2.1 x.2.2.2.2.2.2.2.2.2.1 k (lf+40) x.2.2.2.2.1 x.2.2.2.2.2.1)) (laC (fun _=>by kernel_rfl) (fun _ (x:Nat×Nat×Int×Int×Int×Int×Int×(List Int)×(List Int)×(List Int)×(List Int)×Unit) k=>dK (u12 lf x.1 x.2.1 x.2.2.1 x.2.2.2.1 x.2.2.2.2.2.1 x.2.2.2.2.2.2.2.1 x.2.2.2.2.2.2.2.2.1 x.2.2.2.2.2.2.2.2.2.2.1 k (lf+40) x.2.2.2.2.1 x.2.2.2.2.2.2.1 x.2.2.2.2.2.2.2.2.2.1)) (laC (fun _=>by kernel_rfl) (fun _ (x:Nat×Nat×Nat×Int×Int×Int×Int×Int×(List Int)×(List Int)×(List Int)×(List Int)×Unit) k=>dK (u17 lf x.1 x.2.1 x.2.2.1 x.2.2.2.1 x.2.2.2.2.1 x.2.2.2.2.2.2.1 x.2.2.2.2.2.2.2.2.1 x.2.2.2.2.2.2.2.2.2.1 x.2.2.2.2.2.2.2.2.2.2.2.1 k (lf+40) x.2.2.2.2.2.1 x.2.2.2.2.2.2.2.1 x.2.2.2.2.2.2.2.2.2.2.1)) laN)))) (slC (laC (fun _=>by kernel_rfl) (fun _ (x:Nat×Nat×Int×Int×Int×Int×(List Int)×(List Int)×(List Int)×(List Int)×Unit) k=>dK (u11 lf x.1 x.2.1 x.2.2.1 x.2.2.2.2.1 x.2.2.2.2.2.2.1 x.2.2.2.2.2.2.2.1 x.2.2.2.2.2.2.2.2.2.1 k (lf+40) x.2.2.2.1 x.2.2.2.2.2.1 x.2.2.2.2.2.2.2.2.1)) (laC (fun _=>by kernel_rfl) (fun _ (x:Nat×Nat×Nat×Int×Int×Int×Int×(List Int)×(List Int)×(List Int)×(List Int)×Unit) k=>dK (u16 lf x.1 x.2.1 x.2.2.1 x.2.2.2.1 x.2.2.2.2.2.1 x.2.2.2.2.2.2.2.1 x.2.2.2.2.2.2.2.2.1 x.2.2.2.2.2.2.2.2.2.2.1 k (lf+40) x.2.2.2.2.1 x.2.2.2.2.2.2.1 x.2.2.2.2.2.2.2.2.2.1)) laN)) slN))))
def f(lf:Nat)(a0:List Int)(a1:List Int):Option ((List Int)×(List Int)×Unit) :=
 bd (eF.f lf a0 a1) fun r1 =>
 br (decide (r1.1 < 0)) (
 some ([],a0,())) (
 br (((a1.length:Nat):Int)==1) (
 bd (idxL a1 0) fun y2 =>
 bd (dX.f lf a0 y2) fun r3 =>
 bd (bg.f lf [r3.2.1]) fun r4 =>
 some (r3.1,r4.1,())) (
 bd (idxL a1 (i64.wrap (((a1.length:Nat):Int)-1))) fun y5 =>
 bd (iQuo .i64 1000000000 (i64.wrap (y5+1))) fun r6 =>
 bd (mkL (i64.wrap (((a0.length:Nat):Int)+1)) (i64.wrap (((a0.length:Nat):Int)+1)) 8 0) fun q7 =>
 bd (l0 lf a0 ((a0.length:Nat):Int) [r6] (lf+40) 0 q7) fun z22 =>
 bd (l2 lf [r6] z22.1.1 (lf+40)) fun z30 =>
 br z30.1 (
 bd (apL true 8 z30.2.1.2.1 [0]) fun q31 =>
 bd (mkL (i64.wrap (((a1.length:Nat):Int)+((z30.2.1.1.length:Nat):Int))) (i64.wrap (((a1.length:Nat):Int)+((z30.2.1.1.length:Nat):Int))) 8 0) fun q32 =>
 bd (l4 lf a1 ((a1.length:Nat):Int) z30.2.1.1 [0] q31 (lf+40) 0 q32) fun z47 =>
 bd (l6 lf z30.2.1.1 [0] q31 z47.1.1 (lf+40)) fun z55 =>
 br z55.1 (
 bd (l8 lf a0 z55.2.1.1 z55.2.1.2.2.2.1 (lf+40) z55.2.1.2.2.1) fun z57 =>
 bd (mkL (i64.wrap (((z57.1.1.length:Nat):Int)-((z55.2.1.2.2.2.1.length:Nat):Int))) (i64.wrap (((z57.1.1.length:Nat):Int)-((z55.2.1.2.2.2.1.length:Nat):Int))) 8 0) fun q58 =>
 bd (l9 lf ((z55.2.1.2.2.2.1.length:Nat):Int) z55.2.1.1 z55.2.1.2.2.2.1 (lf+40) (i64.wrap ((i64.wrap (((z57.1.1.length:Nat):Int)-((z55.2.1.2.2.2.1.length:Nat):Int)))-1)) z57.1.1 q58) fun z120 =>
 bd (bg.f lf z120.1.1) fun r121 =>
 bd (idxB z55.2.1.1.length 0) fun j122 =>
 bd (z55.2.1.1[j122]?) fun y123 =>
 bd (dX.f lf r121.1 y123) fun r124 =>
 bd (bg.f lf z120.1.2.1) fun r125 =>
 some (r125.1,r124.1,())) (
 bd (l13 lf a0 z55.2.2.1.1 z55.2.2.1.2.1 z55.2.2.1.2.2.2.2.1 (lf+40) z55.2.2.1.2.2.2.1) fun z127 =>
 bd (mkL (i64.wrap (((z127.1.1.length:Nat):Int)-((z55.2.2.1.1:Nat):Int))) (i64.wrap (((z127.1.1.length:Nat):Int)-((z55.2.2.1.1:Nat):Int))) 8 0) fun q128 =>
 bd (l14 lf z55.2.2.1.1 ((z55.2.2.1.1:Nat):Int) z55.2.2.1.2.1 z55.2.2.1.2.2.2.2.1 (lf+40) (i64.wrap ((i64.wrap (((z127.1.1.length:Nat):Int)-((z55.2.2.1.1:Nat):Int)))-1)) z127.1.1 q128) fun z190 =>
 bd (bg.f lf z190.1.1) fun r191 =>
 bd (idxB z55.2.2.1.2.1.length 0) fun j192 =>
 bd (z55.2.2.1.2.1[j192]?) fun y193 =>
 bd (dX.f lf r191.1 y193) fun r194 =>
 bd (bg.f lf z190.1.2.1) fun r195 =>
 some (r195.1,r194.1,()))) (
 bd (apL ((decide (z30.2.2.1.1≤z30.2.2.1.2.2.1.length))&&true) 8 (z30.2.2.1.2.2.1.take z30.2.2.1.1) [0]) fun q196 =>
 bd (mkL (i64.wrap (((a1.length:Nat):Int)+((z30.2.2.1.2.1.length:Nat):Int))) (i64.wrap (((a1.length:Nat):Int)+((z30.2.2.1.2.1.length:Nat):Int))) 8 0) fun q197 =>
 bd (l4 lf a1 ((a1.length:Nat):Int) z30.2.2.1.2.1 [0] q196 (lf+40) 0 q197) fun z198 =>
 bd (l6 lf z30.2.2.1.2.1 [0] q196 z198.1.1 (lf+40)) fun z199 =>
 br z199.1 (
 bd (l8 lf a0 z199.2.1.1 z199.2.1.2.2.2.1 (lf+40) z199.2.1.2.2.1) fun z200 =>
 bd (mkL (i64.wrap (((z200.1.1.length:Nat):Int)-((z199.2.1.2.2.2.1.length:Nat):Int))) (i64.wrap (((z200.1.1.length:Nat):Int)-((z199.2.1.2.2.2.1.length:Nat):Int))) 8 0) fun q201 =>
 bd (l9 lf ((z199.2.1.2.2.2.1.length:Nat):Int) z199.2.1.1 z199.2.1.2.2.2.1 (lf+40) (i64.wrap ((i64.wrap (((z200.1.1.length:Nat):Int)-((z199.2.1.2.2.2.1.length:Nat):Int)))-1)) z200.1.1 q201) fun z202 =>
 bd (bg.f lf z202.1.1) fun r203 =>
 bd (idxB z199.2.1.1.length 0) fun j204 =>
 bd (z199.2.1.1[j204]?) fun y205 =>
 bd (dX.f lf r203.1 y205) fun r206 =>
 bd (bg.f lf z202.1.2.1) fun r207 =>
 some (r207.1,r206.1,())) (
 bd (l13 lf a0 z199.2.2.1.1 z199.2.2.1.2.1 z199.2.2.1.2.2.2.2.1 (lf+40) z199.2.2.1.2.2.2.1) fun z208 =>
 bd (mkL (i64.wrap (((z208.1.1.length:Nat):Int)-((z199.2.2.1.1:Nat):Int))) (i64.wrap (((z208.1.1.length:Nat):Int)-((z199.2.2.1.1:Nat):Int))) 8 0) fun q209 =>
 bd (l14 lf z199.2.2.1.1 ((z199.2.2.1.1:Nat):Int) z199.2.2.1.2.1 z199.2.2.1.2.2.2.2.1 (lf+40) (i64.wrap ((i64.wrap (((z208.1.1.length:Nat):Int)-((z199.2.2.1.1:Nat):Int)))-1)) z208.1.1 q209) fun z210 =>
 bd (bg.f lf z210.1.1) fun r211 =>
 bd (idxB z199.2.2.1.2.1.length 0) fun j212 =>
 bd (z199.2.2.1.2.1[j212]?) fun y213 =>
 bd (dX.f lf r211.1 y213) fun r214 =>
 bd (bg.f lf z210.1.2.1) fun r215 =>
 some (r215.1,r214.1,())))))
def E(lf:Nat):Entry:=⟨[(.sl (.int .i64)),(.sl (.int .i64))],[(.sl (.int .i64)),(.sl (.int .i64))],fun x=>f lf x.1 x.2.1⟩
theorem ok(lf:Nat):Ok 224 (E lf):=okL (tC (bg.ok lf) (tC (eF.ok lf) (tC (dX.ok lf) tN))) (aoC (aoC (aoC (aoC (aoC aoN))))) (sl lf) fun x=>by kernel_rfl
end ay
end
end Go.Q
