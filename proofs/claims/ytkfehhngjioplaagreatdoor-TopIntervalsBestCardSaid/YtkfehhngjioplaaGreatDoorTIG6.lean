import Derived.Test.YtkfehhngjioplaaGreatDoorProg
import Derived.KernelRfl
import Derived.Test.YtkfehhngjioplaaGreatDoorTIE3
import Derived.Test.YtkfehhngjioplaaGreatDoorTIG3
import Derived.Test.YtkfehhngjioplaaGreatDoorTIG4
import Derived.Test.YtkfehhngjioplaaGreatDoorTIG5
set_option linter.unusedVariables false
set_option linter.unusedSimpArgs false
set_option linter.unusedSectionVars false
set_option maxRecDepth 100000
namespace Go.Q
open Go.IntKind (i64)
open Go Go.RowKit
open Go.Rx (br bd sIdx sCat sCut iQuo iRem)
noncomputable section
namespace surveyortop_TopIntervalsBest
def anns(lf:Nat):FuncId→FA:=annsL [(4,⟨annOf [(0,⟨kx 176 [5,6,7,8,9,10,11,32,33,34],[⟨.tmp 7,(.int .i64),3⟩,⟨.tmp 8,(.int .i64),3⟩,⟨.tmp 9,(.int .i64),3⟩,⟨.tmp 10,(.int .i64),3⟩,⟨.tmp 11,(.int .i64),3⟩],[0,1]⟩,⟨kx 176 [4,5,6,7,8,9,10,11],[⟨.tmp 7,(.int .i64),3⟩,⟨.tmp 8,(.int .i64),3⟩,⟨.tmp 9,(.int .i64),3⟩,⟨.tmp 10,(.int .i64),3⟩,⟨.tmp 11,(.int .i64),3⟩],[0,1]⟩),(1,⟨kx 176 [5,6,7,8,9,10,11,13,32,33,34,43,44,45],[⟨.tmp 7,(.int .i64),3⟩,⟨.tmp 8,(.int .i64),3⟩,⟨.tmp 9,(.int .i64),3⟩,⟨.tmp 10,(.int .i64),3⟩],[]⟩,⟨kx 176 [4,5,6,7,8,9,10,11,32,33,34],[⟨.tmp 7,(.int .i64),3⟩,⟨.tmp 8,(.int .i64),3⟩,⟨.tmp 9,(.int .i64),3⟩,⟨.tmp 10,(.int .i64),3⟩],[]⟩)],none,[]⟩),(19,⟨annOf [],some (surveyortop_playList.spk lf),[]⟩)]
def r1{ρ:Type}(lf:Nat)(v0 v1 v2 v3:Int)(v5 v6 v7 v8:List Int)(v4:Int)(v9 v10 v11 v12:List Int)(K:Int→(List Int)→(List Int)→(List Int)→(List Int)→Option ρ)(E0:(List Int)→(List Int)→(List Int)→(List Int)→Option ρ):Option ρ :=
 br (decide (v4 < v3)) (
 bd (idxB v6.length v4) fun j6 =>
 bd (v6[j6]?) fun y7 =>
 bd (apL true 8 v12 [(i64.wrap (v0+y7))]) fun q8 =>
 bd (apL true 8 v11 [(i64.wrap (v0-y7))]) fun q9 =>
 bd (apL true 8 v10 [(i64.wrap (v0*y7))]) fun q10 =>
 br (y7 != 0) (
 bd (surveyortop_playDown.f lf v0 y7) fun r11 =>
 bd (apL true 8 v9 [r11.1]) fun q12 =>
 K (i64.wrap (v4+1)) q12 q10 q9 q8) (
 K (i64.wrap (v4+1)) v9 q10 q9 q8)) (
 E0 v9 v10 v11 v12)
def l1(lf:Nat)(v0 v1 v2 v3:Int)(v5 v6 v7 v8:List Int):Nat→Int→(List Int)→(List Int)→(List Int)→(List Int)→Option (((List Int)×(List Int)×(List Int)×(List Int)×Unit)×Unit)
 | 0,_,_,_,_,_=>none
 | n+1,v4,v9,v10,v11,v12=>r1 lf v0 v1 v2 v3 v5 v6 v7 v8 v4 v9 v10 v11 v12 (l1 lf v0 v1 v2 v3 v5 v6 v7 v8 n) (fun w0 w1 w2 w3=>some ((w0,w1,w2,w3,()),()))
def sh1:ShS:=⟨[.a 5,.s (.row 2),.s (.row 3),.s (.row 14),.s (.row 13),.s (.row 12),.s (.row 11),.s (.row 10),.a 1,.s (.int .i64),.a 18,.s (.row 2),.s (.int .i64),.s (.int .i64),.a 8,.s (.row 3),.s (.int .i64),.s (.int .i64),.a 130],[.gone,.gone,.row (.int .i64) 3 false,.row (.int .i64) 3 false,.gone,.gone,.gone,.gone,.gone,.row (.int .i64) 3 false,.row (.int .i64) 3 false,.row (.int .i64) 3 false,.row (.int .i64) 3 false,.row (.int .i64) 3 false,.row (.int .i64) 3 false]⟩
def S1(p:Int×Int×Int×Int×Int×(List Int)×(List Int)×(List Int)×(List Int)×(List Int)×(List Int)×(List Int)×(List Int)×Unit):St:=sh1.b p
def xh0:ShS:=⟨[.a 5,.s (.row 2),.s (.row 3),.s (.row 14),.s (.row 13),.s (.row 12),.s (.row 11),.s (.row 10),.a 20,.s (.row 2),.s (.int .i64),.s (.int .i64),.a 141],[.gone,.gone,.row (.int .i64) 3 false,.row (.int .i64) 3 false,.gone,.gone,.gone,.gone,.gone,.row (.int .i64) 3 false,.row (.int .i64) 3 false,.row (.int .i64) 3 false,.row (.int .i64) 3 false,.row (.int .i64) 3 false,.row (.int .i64) 3 false]⟩
def o1(v0 v1 v2 v3:Int)(v5 v6 v7 v8:List Int)(y:((List Int)×(List Int)×(List Int)×(List Int)×Unit)×Unit):Alt:=.one (.exit 2) (xh0.b (v1,v2,v5,v6,v7,v8,y.1.1,y.1.2.1,y.1.2.2.1,y.1.2.2.2.1,()))
def r0{ρ:Type}(lf:Nat)(v0:Int)(v2 v3:List Int)(v1:Int)(v4 v5 v6 v7 v8:List Int)(K:Int→(List Int)→(List Int)→(List Int)→(List Int)→(List Int)→Option ρ)(E0:(List Int)→(List Int)→(List Int)→(List Int)→(List Int)→Option ρ):Option ρ :=
 br (decide (v1 < v0)) (
 bd (idxB v2.length v1) fun j3 =>
 bd (v2[j3]?) fun y4 =>
 bd (apL true 8 v4 [(i64.wrap (0-y4))]) fun q5 =>
 bd (l1 lf y4 v0 v1 ((v3.length:Nat):Int) v2 v3 [(i64.wrap (0-y4))] q5 (lf+40) 0 v5 v6 v7 v8) fun z13 =>
 K (i64.wrap (v1+1)) q5 z13.1.1 z13.1.2.1 z13.1.2.2.1 z13.1.2.2.2.1) (
 E0 v4 v5 v6 v7 v8)
def l0(lf:Nat)(v0:Int)(v2 v3:List Int):Nat→Int→(List Int)→(List Int)→(List Int)→(List Int)→(List Int)→Option (((List Int)×(List Int)×(List Int)×(List Int)×(List Int)×Unit)×Unit)
 | 0,_,_,_,_,_,_=>none
 | n+1,v1,v4,v5,v6,v7,v8=>r0 lf v0 v2 v3 v1 v4 v5 v6 v7 v8 (l0 lf v0 v2 v3 n) (fun w0 w1 w2 w3 w4=>some ((w0,w1,w2,w3,w4,()),()))
def sh0:ShS:=⟨[.a 5,.s (.row 2),.s (.row 3),.s (.row 8),.s (.row 7),.s (.row 6),.s (.row 5),.s (.row 4),.a 20,.s (.row 2),.s (.int .i64),.s (.int .i64),.a 141],[.gone,.gone,.row (.int .i64) 3 false,.row (.int .i64) 3 false,.row (.int .i64) 3 false,.row (.int .i64) 3 false,.row (.int .i64) 3 false,.row (.int .i64) 3 false,.row (.int .i64) 3 false]⟩
def S0(p:Int×Int×(List Int)×(List Int)×(List Int)×(List Int)×(List Int)×(List Int)×(List Int)×Unit):St:=sh0.b p
def xh1:ShS:=⟨[.a 5,.s (.row 2),.s (.row 3),.s (.row 8),.s (.row 7),.s (.row 6),.s (.row 5),.s (.row 4),.a 164],[.gone,.gone,.row (.int .i64) 3 false,.row (.int .i64) 3 false,.row (.int .i64) 3 false,.row (.int .i64) 3 false,.row (.int .i64) 3 false,.row (.int .i64) 3 false,.row (.int .i64) 3 false]⟩
def o0(v0:Int)(v2 v3:List Int)(y:((List Int)×(List Int)×(List Int)×(List Int)×(List Int)×Unit)×Unit):Alt:=.one (.exit 0) (xh1.b (v2,v3,y.1.1,y.1.2.1,y.1.2.2.1,y.1.2.2.2.1,y.1.2.2.2.2.1,()))
def tb(lf:Nat):List (FuncId×Entry):=[(20,surveyortop_playDown.E lf),(21,interval_Add.E lf),(22,surveyortop_playSpan.E lf),(23,interval_Sub.E lf),(24,interval_Mul.E lf),(25,interval_Quo.E lf),(26,interval_Neg.E lf),(27,interval_Join.E lf),(28,surveyortop_playValues.E lf)]
def s13_4(lf:Nat):List (Nat×(St→Option LTE)):=[(0,sumE sh0 fun(p:Int×Int×(List Int)×(List Int)×(List Int)×(List Int)×(List Int)×(List Int)×(List Int)×Unit)=>⟨((List Int)×(List Int)×(List Int)×(List Int)×(List Int)×Unit)×Unit,l0 lf p.1 p.2.2.1 p.2.2.2.1 (lf+40) p.2.1 p.2.2.2.2.1 p.2.2.2.2.2.1 p.2.2.2.2.2.2.1 p.2.2.2.2.2.2.2.1 p.2.2.2.2.2.2.2.2.1,o0 p.1 p.2.2.1 p.2.2.2.1⟩),
 (1,sumE sh1 fun(p:Int×Int×Int×Int×Int×(List Int)×(List Int)×(List Int)×(List Int)×(List Int)×(List Int)×(List Int)×(List Int)×Unit)=>⟨((List Int)×(List Int)×(List Int)×(List Int)×Unit)×Unit,l1 lf p.1 p.2.1 p.2.2.1 p.2.2.2.1 p.2.2.2.2.2.1 p.2.2.2.2.2.2.1 p.2.2.2.2.2.2.2.1 p.2.2.2.2.2.2.2.2.1 (lf+40) p.2.2.2.2.1 p.2.2.2.2.2.2.2.2.2.1 p.2.2.2.2.2.2.2.2.2.2.1 p.2.2.2.2.2.2.2.2.2.2.2.1 p.2.2.2.2.2.2.2.2.2.2.2.2.1,o1 p.1 p.2.1 p.2.2.1 p.2.2.2.1 p.2.2.2.2.2.1 p.2.2.2.2.2.2.1 p.2.2.2.2.2.2.2.1 p.2.2.2.2.2.2.2.2.1⟩)]
def ls(lf:Nat):List (Nat×FuncId×Sums):=[(13,4,sumsL (s13_4 lf))]
def it1{ρ:Type}(lf n:Nat)(st:St)(k:KE ρ):Option ρ:=itG (anns lf) (ls lf) (tb lf) lf 13 4 1 11 (sumsL (s13_4 lf)) n st k
theorem t1{ρ:Type}(lf n:Nat)(v0 v1 v2 v3 v4:Int)(v5 v6 v7 v8 v9 v10 v11 v12:List Int)(k:KE ρ):it1 lf (n+1) (S1 (v0,v1,v2,v3,v4,v5,v6,v7,v8,v9,v10,v11,v12,())) k=r1 lf v0 v1 v2 v3 v5 v6 v7 v8 v4 v9 v10 v11 v12 (fun x0 x1 x2 x3 x4=>it1 lf n (S1 (v0,v1,v2,v3,x0,v5,v6,v7,v8,x1,x2,x3,x4,())) k) (fun w0 w1 w2 w3=>k (.exit 2) (xh0.b (v1,v2,v5,v6,v7,v8,w0,w1,w2,w3,()))):=by kernel_rfl
theorem u1{ρ:Type}(lf:Nat)(v0 v1 v2 v3:Int)(v5 v6 v7 v8:List Int)(k:KE ρ):∀ (n:Nat) (v4:Int) (v9 v10 v11 v12:List Int),it1 lf n (S1 (v0,v1,v2,v3,v4,v5,v6,v7,v8,v9,v10,v11,v12,())) k=bd (l1 lf v0 v1 v2 v3 v5 v6 v7 v8 n v4 v9 v10 v11 v12) fun y=>altK k (o1 v0 v1 v2 v3 v5 v6 v7 v8 y)
 | 0,_,_,_,_,_=>by rw[l1,bd_none];rfl
 | n+1,v4,v9,v10,v11,v12=>by
  rw[t1];simp only[l1,r1,u1 lf v0 v1 v2 v3 v5 v6 v7 v8 k n,bd_br,bd_bd,bd_some',bd_none,br_t,br_f,o1,altK]
def it0{ρ:Type}(lf n:Nat)(st:St)(k:KE ρ):Option ρ:=itG (anns lf) (ls lf) (tb lf) lf 13 4 0 4 (sumsL (s13_4 lf)) n st k
theorem t0{ρ:Type}(lf n:Nat)(v0 v1:Int)(v2 v3 v4 v5 v6 v7 v8:List Int)(k:KE ρ):it0 lf (n+1) (S0 (v0,v1,v2,v3,v4,v5,v6,v7,v8,())) k=r0 lf v0 v2 v3 v1 v4 v5 v6 v7 v8 (fun x0 x1 x2 x3 x4 x5=>it0 lf n (S0 (v0,x0,v2,v3,x1,x2,x3,x4,x5,())) k) (fun w0 w1 w2 w3 w4=>k (.exit 0) (xh1.b (v2,v3,w0,w1,w2,w3,w4,()))):=by kernel_rfl
theorem u0{ρ:Type}(lf:Nat)(v0:Int)(v2 v3:List Int)(k:KE ρ):∀ (n:Nat) (v1:Int) (v4 v5 v6 v7 v8:List Int),it0 lf n (S0 (v0,v1,v2,v3,v4,v5,v6,v7,v8,())) k=bd (l0 lf v0 v2 v3 n v1 v4 v5 v6 v7 v8) fun y=>altK k (o0 v0 v2 v3 y)
 | 0,_,_,_,_,_,_=>by rw[l0,bd_none];rfl
 | n+1,v1,v4,v5,v6,v7,v8=>by
  rw[t0];simp only[l0,r0,u0 lf v0 v2 v3 k n,bd_br,bd_bd,bd_some',bd_none,br_t,br_f,o0,altK]
theorem sl(lf:Nat):SL (anns lf) (ls lf) (tb lf) lf (ls lf):=slC (laC (fun _=>by kernel_rfl) (fun _ (x:Int×Int×(List Int)×(List Int)×(List Int)×(List Int)×(List Int)×(List Int)×(List Int)×Unit) k=>leq_of (u0 lf x.1 x.2.2.1 x.2.2.2.1 k (lf+40) x.2.1 x.2.2.2.2.1 x.2.2.2.2.2.1 x.2.2.2.2.2.2.1 x.2.2.2.2.2.2.2.1 x.2.2.2.2.2.2.2.2.1)) (laC (fun _=>by kernel_rfl) (fun _ (x:Int×Int×Int×Int×Int×(List Int)×(List Int)×(List Int)×(List Int)×(List Int)×(List Int)×(List Int)×(List Int)×Unit) k=>leq_of (u1 lf x.1 x.2.1 x.2.2.1 x.2.2.2.1 x.2.2.2.2.2.1 x.2.2.2.2.2.2.1 x.2.2.2.2.2.2.2.1 x.2.2.2.2.2.2.2.2.1 k (lf+40) x.2.2.2.2.1 x.2.2.2.2.2.2.2.2.2.1 x.2.2.2.2.2.2.2.2.2.2.1 x.2.2.2.2.2.2.2.2.2.2.2.1 x.2.2.2.2.2.2.2.2.2.2.2.2.1)) laN)) slN
def f(lf:Nat)(a0:Int×(Int×Unit))(a1:Int×(Int×Unit)):Option (Bool×Unit) :=
 bd (surveyortop_playList.f lf a0) fun r1 =>
 bd (surveyortop_playList.f lf a1) fun r2 =>
 bd (l0 lf ((r1.1.length:Nat):Int) r1.1 r2.1 (lf+40) 0 [] [] [] [] []) fun z14 =>
 bd (surveyortop_playSpan.f lf r1.1) fun r15 =>
 bd (surveyortop_playSpan.f lf r2.1) fun r16 =>
 bd (interval_Add.f lf r15.1 r16.1) fun r17 =>
 bd (surveyortop_playSpan.f lf r1.1) fun r18 =>
 bd (surveyortop_playSpan.f lf r2.1) fun r19 =>
 bd (interval_Sub.f lf r18.1 r19.1) fun r20 =>
 bd (surveyortop_playSpan.f lf r1.1) fun r21 =>
 bd (surveyortop_playSpan.f lf r2.1) fun r22 =>
 bd (interval_Mul.f lf r21.1 r22.1) fun r23 =>
 bd (surveyortop_playSpan.f lf r1.1) fun r24 =>
 bd (surveyortop_playSpan.f lf r2.1) fun r25 =>
 bd (interval_Quo.f lf r24.1 r25.1) fun r26 =>
 bd (surveyortop_playSpan.f lf r1.1) fun r27 =>
 bd (interval_Neg.f lf r27.1) fun r28 =>
 bd (surveyortop_playSpan.f lf r1.1) fun r29 =>
 bd (surveyortop_playSpan.f lf r2.1) fun r30 =>
 bd (interval_Join.f lf r29.1 r30.1) fun r31 =>
 br ((i64.wrap ((i64.wrap ((i64.wrap ((i64.wrap ((i64.wrap (r17.2.1+r20.2.1))+r23.2.1))+r26.2.1))+r28.2.1))+r31.2.1))==0) (
 bd (surveyortop_playSpan.f lf z14.1.2.2.2.2.1) fun r32 =>
 bd (some ((r17.1.1==r32.1.1)&&((r17.1.2.1==r32.1.2.1)&&((r17.1.2.2.1==r32.1.2.2.1)&&true)))) fun r33 =>
 br r33 (
 bd (surveyortop_playSpan.f lf z14.1.2.2.2.1) fun r34 =>
 bd (some ((r20.1.1==r34.1.1)&&((r20.1.2.1==r34.1.2.1)&&((r20.1.2.2.1==r34.1.2.2.1)&&true)))) fun r35 =>
 br r35 (
 bd (surveyortop_playSpan.f lf z14.1.2.2.1) fun r36 =>
 bd (some ((r23.1.1==r36.1.1)&&((r23.1.2.1==r36.1.2.1)&&((r23.1.2.2.1==r36.1.2.2.1)&&true)))) fun r37 =>
 br r37 (
 bd (surveyortop_playSpan.f lf z14.1.2.1) fun r38 =>
 bd (some ((r26.1.1==r38.1.1)&&((r26.1.2.1==r38.1.2.1)&&((r26.1.2.2.1==r38.1.2.2.1)&&true)))) fun r39 =>
 br r39 (
 bd (surveyortop_playSpan.f lf z14.1.1) fun r40 =>
 bd (some ((r28.1.1==r40.1.1)&&((r28.1.2.1==r40.1.2.1)&&((r28.1.2.2.1==r40.1.2.2.1)&&true)))) fun r41 =>
 br r41 (
 bd (apL true 8 r1.1 r2.1) fun q42 =>
 bd (surveyortop_playSpan.f lf q42) fun r43 =>
 bd (some ((r31.1.1==r43.1.1)&&((r31.1.2.1==r43.1.2.1)&&((r31.1.2.2.1==r43.1.2.2.1)&&true)))) fun r44 =>
 br r44 (
 bd (surveyortop_playValues.f lf) fun r45 =>
 some (r45.1,())) (
 some (false,()))) (
 some (false,()))) (
 some (false,()))) (
 some (false,()))) (
 some (false,()))) (
 some (false,()))) (
 some (false,()))
def E(lf:Nat):Entry:=⟨[(.pair (.int .i8) (.pair (.int .u8) .unit)),(.pair (.int .i8) (.pair (.int .u8) .unit))],[.bool],fun x=>f lf x.1 x.2.1⟩
theorem ok(lf:Nat):Ok 4 (E lf):=okL (tC (surveyortop_playDown.ok lf) (tC (interval_Add.ok lf) (tC (surveyortop_playSpan.ok lf) (tC (interval_Sub.ok lf) (tC (interval_Mul.ok lf) (tC (interval_Quo.ok lf) (tC (interval_Neg.ok lf) (tC (interval_Join.ok lf) (tC (surveyortop_playValues.ok lf) tN))))))))) (aoC (aoP (surveyortop_playList.ok lf) aoN)) (sl lf) fun x=>by kernel_rfl
end surveyortop_TopIntervalsBest
end
end Go.Q
