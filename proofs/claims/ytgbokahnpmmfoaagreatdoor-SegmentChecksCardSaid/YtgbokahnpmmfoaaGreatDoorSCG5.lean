import Derived.Test.YtgbokahnpmmfoaaGreatDoorProg
import Derived.KernelRfl
import Derived.Test.YtgbokahnpmmfoaaGreatDoorSCE3
import Derived.Test.YtgbokahnpmmfoaaGreatDoorSCG1
import Derived.Test.YtgbokahnpmmfoaaGreatDoorSCG3
import Derived.Test.YtgbokahnpmmfoaaGreatDoorSCG4
set_option linter.unusedVariables false
set_option linter.unusedSimpArgs false
set_option linter.unusedSectionVars false
set_option maxRecDepth 100000
namespace Go.Q
open Go.IntKind (i64)
open Go Go.RowKit
open Go.Rx (br bd sIdx sCat sCut iQuo iRem)
noncomputable section
namespace surveyorref01_Product
def f(lf:Nat)(a0:ByteArray)(a1:ByteArray):Option (ByteArray×Unit) :=
 bd (surveyorref01_Digits.f lf a0) fun r1 =>
 bd (surveyorref01_Digits.f lf a1) fun r2 =>
 br (decide ((i64.wrap (r1.1+r2.1))≤18)) (
 bd (surveyorref01_number.f lf a0) fun r3 =>
 bd (surveyorref01_number.f lf a1) fun r4 =>
 bd (surveyorref01_Whole.f lf (i64.wrap (r3.1*r4.1))) fun r5 =>
 some (r5.1,())) (
 bd (surveyorref01_digits.f lf a0) fun r6 =>
 bd (surveyorref01_digits.f lf a1) fun r7 =>
 bd (surveyorref01_times.f lf r6.1 r7.1) fun r8 =>
 bd (surveyorref01_Negative.f lf a0) fun r9 =>
 bd (surveyorref01_Negative.f lf a1) fun r10 =>
 bd (surveyorref01_made.f lf r8.1 (r9.1 != r10.1)) fun r11 =>
 some (r11.1,()))
def E(lf:Nat):Entry:=⟨[.str,.str],[.str],fun x=>f lf x.1 x.2.1⟩
theorem ok(lf:Nat):Ok 221 (E lf):=okT (an:=(annsL [])) (lf:=lf) (tC (surveyorref01_Whole.ok lf) (tC (surveyorref01_Digits.ok lf) (tC (surveyorref01_Negative.ok lf) (tC (surveyorref01_number.ok lf) (tC (surveyorref01_digits.ok lf) (tC (surveyorref01_made.ok lf) (tC (surveyorref01_times.ok lf) tN))))))) aoN fun x=>by kernel_rfl
end surveyorref01_Product
namespace surveyorref01_floor
def f(lf:Nat)(a0:Int)(a1:Int):Option (Int×Unit) :=
 bd (iQuo .i64 a0 a1) fun r1 =>
 bd (iRem a0 a1) fun r2 =>
 br (r2 != 0) (
 br ((decide (a0 < 0)) !=(decide (a1 < 0))) (
 some ((i64.wrap (r1-1)),())) (
 some (r1,()))) (
 some (r1,()))
def E(lf:Nat):Entry:=⟨[(.int .i64),(.int .i64)],[(.int .i64)],fun x=>f lf x.1 x.2.1⟩
theorem ok(lf:Nat):Ok 273 (E lf):=okT (an:=(annsL [])) (lf:=lf) tN aoN fun x=>by kernel_rfl
end surveyorref01_floor
namespace surveyorref01_split
def anns:FuncId→FA:=annsL [(274,⟨annOf [(0,⟨kx 56 [0,1,7,8,9],[],[]⟩,⟨kx 56 [4,5,7,8],[],[]⟩),(1,⟨kx 56 [0,1,7,8,9],[],[]⟩,⟨kx 56 [0,1,4,5,7,8,9],[],[]⟩)],none,[]⟩)]
def r1{ρ:Type}(lf:Nat)(v0 v1:List Int)(v3:Int)(v5 v6:List Int)(v2 v4:List Int)(K:(List Int)→(List Int)→Option ρ)(E0:(List Int)→(List Int)→Option ρ):Option ρ :=
 bd (surveyorref01_order.f lf v2 v1) fun r7 =>
 br (decide (r7.1≥0)) (
 bd (surveyorref01_minus.f lf v2 v1) fun r8 =>
 bd (idxB v4.length v3) fun j9 =>
 bd (v4[j9]?) fun y10 =>
 bd (idxB v4.length v3) fun j11 =>
 bd (upE v4 j11 fun _=>some (i64.wrap (y10+1))) fun q12 =>
 K r8.1 q12) (
 E0 v2 v4)
def l1(lf:Nat)(v0 v1:List Int)(v3:Int)(v5 v6:List Int):Nat→(List Int)→(List Int)→Option (((List Int)×(List Int)×Unit)×Unit)
 | 0,_,_=>none
 | n+1,v2,v4=>r1 lf v0 v1 v3 v5 v6 v2 v4 (l1 lf v0 v1 v3 v5 v6 n) (fun w0 w1=>some ((w0,w1,()),()))
def sh1:ShS:=⟨[.s (.sl (.int .i64)),.s (.sl (.int .i64)),.a 5,.s (.row 0),.s (.sl (.int .i64)),.s (.int .i64),.a 46],[.row (.int .i64) 3 false,.gone,.row (.int .i64) 3 false,.gone,.row (.int .i64) 3 true]⟩
def S1(p:(List Int)×(List Int)×(List Int)×Int×(List Int)×(List Int)×(List Int)×Unit):St:=sh1.b p
def xh0:ShS:=⟨[.s (.sl (.int .i64)),.s (.sl (.int .i64)),.a 5,.s (.row 0),.s (.sl (.int .i64)),.s (.int .i64),.a 46],[.row (.int .i64) 3 false,.gone,.row (.int .i64) 3 false,.gone,.row (.int .i64) 3 true]⟩
def o1(v0 v1:List Int)(v3:Int)(v5 v6:List Int)(y:((List Int)×(List Int)×Unit)×Unit):Alt:=.one (.exit 2) (xh0.b (v0,v1,y.1.1,v3,y.1.2.1,v5,v6,()))
def r2{ρ:Type}(lf:Nat)(v0 v1 v5:List Int)(v2:List Int)(v3:Int)(v4:List Int)(K:(List Int)→Int→(List Int)→Option ρ)(E0:(List Int)→(List Int)→(List Int)→Option ρ):Option ρ :=
 br (decide (v3≥0)) (
 bd (idxL v0 v3) fun y15 =>
 bd (apL true 8 [y15] v2) fun q16 =>
 bd (surveyorref01_cut.f lf q16) fun r17 =>
 bd (l1 lf v0 v1 v3 v5 q16 (lf+40) r17.1 v4) fun z18 =>
 K z18.1.1 (i64.wrap (v3-1)) z18.1.2.1) (
 E0 v2 v4 v5)
def l2(lf:Nat)(v0 v1 v5:List Int):Nat→(List Int)→Int→(List Int)→Option (((List Int)×(List Int)×(List Int)×Unit)×Unit)
 | 0,_,_,_=>none
 | n+1,v2,v3,v4=>r2 lf v0 v1 v5 v2 v3 v4 (l2 lf v0 v1 v5 n) (fun w0 w1 w2=>some ((w0,w1,w2,()),()))
def sh2:ShS:=⟨[.s (.sl (.int .i64)),.s (.sl (.int .i64)),.a 5,.s (.row 0),.s (.sl (.int .i64)),.s (.int .i64),.a 46],[.row (.int .i64) 3 false,.gone,.row (.int .i64) 3 false]⟩
def S2(p:(List Int)×(List Int)×(List Int)×Int×(List Int)×(List Int)×Unit):St:=sh2.b p
def xh1:ShS:=⟨[.a 7,.s (.row 0),.s (.sl (.int .i64)),.a 47],[.row (.int .i64) 3 false,.gone,.row (.int .i64) 3 false]⟩
def o2(v0 v1 v5:List Int)(y:((List Int)×(List Int)×(List Int)×Unit)×Unit):Alt:=.one (.exit 0) (xh1.b (y.1.1,y.1.2.1,y.1.2.2.1,()))
def r0{ρ:Type}(lf:Nat)(v0 v1:List Int)(v2:Int)(v3 v4:List Int)(K2:(List Int)→(List Int)→(List Int)→Int→(List Int)→(List Int)→Option ρ)(E0:(List Int)→(List Int)→Option ρ):Option ρ :=
 br (decide (v2≥0)) (
 bd (idxL v0 v2) fun y4 =>
 bd (apL true 8 [y4] v4) fun q5 =>
 bd (surveyorref01_cut.f lf q5) fun r6 =>
 bd (l1 lf v0 v1 v2 v4 q5 (lf+40) r6.1 v3) fun z14 =>
 K2 v0 v1 z14.1.1 (i64.wrap (v2-1)) z14.1.2.1 v4) (
 E0 v3 v4)
def l0(lf:Nat)(v0 v1:List Int)(v2:Int)(v3 v4:List Int):Nat→Option (Bool×((List Int)×(List Int)×Unit)×((List Int)×(List Int)×(List Int)×Unit)×Unit)
 | 0=>none
 | n+1=>r0 lf v0 v1 v2 v3 v4 (fun x0 x1 x2 x3 x4 x5=>bd (l2 lf x0 x1 x5 n x2 x3 x4) fun z19=>some (false,([],[],()),((z19.1.1,z19.1.2.1,z19.1.2.2.1,()),()))) (fun w0 w1=>some (true,(w0,w1,()),(([],[],[],()),())))
def sh0:ShS:=⟨[.s (.sl (.int .i64)),.s (.sl (.int .i64)),.a 5,.s (.row 0),.s (.row 2),.s (.int .i64),.a 46],[.row (.int .i64) 3 false,.gone,.row (.int .i64) 3 false]⟩
def S0(p:(List Int)×(List Int)×Int×(List Int)×(List Int)×Unit):St:=sh0.b p
def xh2:ShS:=⟨[.a 7,.s (.row 0),.s (.row 2),.a 47],[.row (.int .i64) 3 false,.gone,.row (.int .i64) 3 false]⟩
def o0(v0 v1:List Int)(v2:Int)(v3 v4:List Int)(y:Bool×((List Int)×(List Int)×Unit)×((List Int)×(List Int)×(List Int)×Unit)×Unit):Alt:=.two y.1 (.one (.exit 0) (xh2.b (y.2.1.1,y.2.1.2.1,()))) (.one (.exit 0) (xh1.b (y.2.2.1.1,y.2.2.1.2.1,y.2.2.1.2.2.1,())))
def tb(lf:Nat):List (FuncId×Entry):=[(218,surveyorref01_order.E lf),(219,surveyorref01_cut.E lf),(220,surveyorref01_minus.E lf)]
def s13_274(lf:Nat):List (Nat×(St→Option LTE)):=[(0,sumE sh2 fun(p:(List Int)×(List Int)×(List Int)×Int×(List Int)×(List Int)×Unit)=>⟨((List Int)×(List Int)×(List Int)×Unit)×Unit,l2 lf p.1 p.2.1 p.2.2.2.2.2.1 (lf+40) p.2.2.1 p.2.2.2.1 p.2.2.2.2.1,o2 p.1 p.2.1 p.2.2.2.2.2.1⟩),
 (0,sumE sh0 fun(p:(List Int)×(List Int)×Int×(List Int)×(List Int)×Unit)=>⟨Bool×((List Int)×(List Int)×Unit)×((List Int)×(List Int)×(List Int)×Unit)×Unit,l0 lf p.1 p.2.1 p.2.2.1 p.2.2.2.1 p.2.2.2.2.1 (lf+40),o0 p.1 p.2.1 p.2.2.1 p.2.2.2.1 p.2.2.2.2.1⟩),
 (1,sumE sh1 fun(p:(List Int)×(List Int)×(List Int)×Int×(List Int)×(List Int)×(List Int)×Unit)=>⟨((List Int)×(List Int)×Unit)×Unit,l1 lf p.1 p.2.1 p.2.2.2.1 p.2.2.2.2.2.1 p.2.2.2.2.2.2.1 (lf+40) p.2.2.1 p.2.2.2.2.1,o1 p.1 p.2.1 p.2.2.2.1 p.2.2.2.2.2.1 p.2.2.2.2.2.2.1⟩)]
def ls(lf:Nat):List (Nat×FuncId×Sums):=[(13,274,sumsL (s13_274 lf))]
def it1{ρ:Type}(lf n:Nat)(st:St)(k:KE ρ):Option ρ:=itG anns (ls lf) (tb lf) lf 13 274 1 5 (sumsL (s13_274 lf)) n st k
theorem t1{ρ:Type}(lf n:Nat)(v0 v1 v2:List Int)(v3:Int)(v4 v5 v6:List Int)(k:KE ρ):it1 lf (n+1) (S1 (v0,v1,v2,v3,v4,v5,v6,())) k=r1 lf v0 v1 v3 v5 v6 v2 v4 (fun x0 x1=>it1 lf n (S1 (v0,v1,x0,v3,x1,v5,v6,())) k) (fun w0 w1=>k (.exit 2) (xh0.b (v0,v1,w0,v3,w1,v5,v6,()))):=by kernel_rfl
theorem u1{ρ:Type}(lf:Nat)(v0 v1:List Int)(v3:Int)(v5 v6:List Int)(k:KE ρ):∀ (n:Nat) (v2 v4:List Int),it1 lf n (S1 (v0,v1,v2,v3,v4,v5,v6,())) k=bd (l1 lf v0 v1 v3 v5 v6 n v2 v4) fun y=>altK k (o1 v0 v1 v3 v5 v6 y)
 | 0,_,_=>by rw[l1,bd_none];rfl
 | n+1,v2,v4=>by
  rw[t1];simp only[l1,r1,u1 lf v0 v1 v3 v5 v6 k n,bd_br,bd_bd,bd_some',bd_none,br_t,br_f,o1,altK]
def it2{ρ:Type}(lf n:Nat)(st:St)(k:KE ρ):Option ρ:=itG anns (ls lf) (tb lf) lf 13 274 0 3 (sumsL (s13_274 lf)) n st k
theorem t2{ρ:Type}(lf n:Nat)(v0 v1 v2:List Int)(v3:Int)(v4 v5:List Int)(k:KE ρ):it2 lf (n+1) (S2 (v0,v1,v2,v3,v4,v5,())) k=r2 lf v0 v1 v5 v2 v3 v4 (fun x0 x1 x2=>it2 lf n (S2 (v0,v1,x0,x1,x2,v5,())) k) (fun w0 w1 w2=>k (.exit 0) (xh1.b (w0,w1,w2,()))):=by kernel_rfl
theorem u2{ρ:Type}(lf:Nat)(v0 v1 v5:List Int)(k:KE ρ):∀ (n:Nat) (v2:List Int) (v3:Int) (v4:List Int),it2 lf n (S2 (v0,v1,v2,v3,v4,v5,())) k=bd (l2 lf v0 v1 v5 n v2 v3 v4) fun y=>altK k (o2 v0 v1 v5 y)
 | 0,_,_,_=>by rw[l2,bd_none];rfl
 | n+1,v2,v3,v4=>by
  rw[t2];simp only[l2,r2,u2 lf v0 v1 v5 k n,bd_br,bd_bd,bd_some',bd_none,br_t,br_f,o2,altK]
def it0{ρ:Type}(lf n:Nat)(st:St)(k:KE ρ):Option ρ:=itG anns (ls lf) (tb lf) lf 13 274 0 3 (sumsL (s13_274 lf)) n st k
theorem t0{ρ:Type}(lf n:Nat)(v0 v1:List Int)(v2:Int)(v3 v4:List Int)(k:KE ρ):it0 lf (n+1) (S0 (v0,v1,v2,v3,v4,())) k=r0 lf v0 v1 v2 v3 v4 (fun x0 x1 x2 x3 x4 x5=>it2 lf n (S2 (x0,x1,x2,x3,x4,x5,())) k) (fun w0 w1=>k (.exit 0) (xh2.b (w0,w1,()))):=by kernel_rfl
theorem u0{ρ:Type}(lf:Nat)(v0 v1:List Int)(v2:Int)(v3 v4:List Int)(k:KE ρ):∀ (n:Nat),it0 lf n (S0 (v0,v1,v2,v3,v4,())) k=bd (l0 lf v0 v1 v2 v3 v4 n) fun y=>altK k (o0 v0 v1 v2 v3 v4 y)
 | 0=>by rw[l0,bd_none];rfl
 | n+1=>by
  rw[t0];simp only[l0,r0,u2,bd_br,bd_bd,bd_some',bd_none,br_t,br_f,o0,o2,altK]
theorem sl(lf:Nat):SL anns (ls lf) (tb lf) lf (ls lf):=slC (laC (fun _=>by kernel_rfl) (fun _ (x:(List Int)×(List Int)×(List Int)×Int×(List Int)×(List Int)×Unit) k=>leq_of (u2 lf x.1 x.2.1 x.2.2.2.2.2.1 k (lf+40) x.2.2.1 x.2.2.2.1 x.2.2.2.2.1)) (laC (fun _=>by kernel_rfl) (fun _ (x:(List Int)×(List Int)×Int×(List Int)×(List Int)×Unit) k=>leq_of (u0 lf x.1 x.2.1 x.2.2.1 x.2.2.2.1 x.2.2.2.2.1 k (lf+40))) (laC (fun _=>by kernel_rfl) (fun _ (x:(List Int)×(List Int)×(List Int)×Int×(List Int)×(List Int)×(List Int)×Unit) k=>leq_of (u1 lf x.1 x.2.1 x.2.2.2.1 x.2.2.2.2.2.1 x.2.2.2.2.2.2.1 k (lf+40) x.2.2.1 x.2.2.2.2.1)) laN))) slN
def f(lf:Nat)(a0:List Int)(a1:List Int):Option ((List Int)×(List Int)×Unit) :=
 bd (mkL (if(i64.wrap ((i64.wrap (((a0.length:Nat):Int)-((a1.length:Nat):Int)))+1)) > 0 then(i64.wrap ((i64.wrap (((a0.length:Nat):Int)-((a1.length:Nat):Int)))+1))else 0) (if(i64.wrap ((i64.wrap (((a0.length:Nat):Int)-((a1.length:Nat):Int)))+1)) > 0 then(i64.wrap ((i64.wrap (((a0.length:Nat):Int)-((a1.length:Nat):Int)))+1))else 0) 8 0) fun q1 =>
 bd (cutL a0 (some (if(i64.wrap ((i64.wrap (((a0.length:Nat):Int)-((a1.length:Nat):Int)))+1)) > 0 then(i64.wrap ((i64.wrap (((a0.length:Nat):Int)-((a1.length:Nat):Int)))+1))else 0)) none) fun q2 =>
 bd (apL true 8 [] q2) fun q3 =>
 bd (l0 lf a0 a1 (i64.wrap ((if(i64.wrap ((i64.wrap (((a0.length:Nat):Int)-((a1.length:Nat):Int)))+1)) > 0 then(i64.wrap ((i64.wrap (((a0.length:Nat):Int)-((a1.length:Nat):Int)))+1))else 0)-1)) q1 q3 (lf+40)) fun z20 =>
 br z20.1 (
 bd (surveyorref01_cut.f lf z20.2.1.1) fun r21 =>
 some (r21.1,z20.2.1.2.1,())) (
 bd (surveyorref01_cut.f lf z20.2.2.1.2.1) fun r22 =>
 some (r22.1,z20.2.2.1.1,()))
def E(lf:Nat):Entry:=⟨[(.sl (.int .i64)),(.sl (.int .i64))],[(.sl (.int .i64)),(.sl (.int .i64))],fun x=>f lf x.1 x.2.1⟩
theorem ok(lf:Nat):Ok 274 (E lf):=okL (tC (surveyorref01_order.ok lf) (tC (surveyorref01_cut.ok lf) (tC (surveyorref01_minus.ok lf) tN))) (aoC aoN) (sl lf) fun x=>by kernel_rfl
end surveyorref01_split
namespace surveyorref01_Floor
def f(lf:Nat)(a0:ByteArray)(a1:ByteArray):Option (ByteArray×Unit) :=
 bd (surveyorref01_short.f lf a0 17) fun r1 =>
 br r1.1 (
 bd (surveyorref01_short.f lf a1 17) fun r2 =>
 br r2.1 (
 bd (surveyorref01_number.f lf a0) fun r3 =>
 bd (surveyorref01_number.f lf a1) fun r4 =>
 bd (surveyorref01_floor.f lf r3.1 r4.1) fun r5 =>
 bd (surveyorref01_Whole.f lf r5.1) fun r6 =>
 some (r6.1,())) (
 bd (surveyorref01_digits.f lf a0) fun r7 =>
 bd (surveyorref01_cut.f lf r7.1) fun r8 =>
 bd (surveyorref01_digits.f lf a1) fun r9 =>
 bd (surveyorref01_cut.f lf r9.1) fun r10 =>
 bd (surveyorref01_split.f lf r8.1 r10.1) fun r11 =>
 bd (surveyorref01_Negative.f lf a0) fun r12 =>
 bd (surveyorref01_Negative.f lf a1) fun r13 =>
 bd (surveyorref01_made.f lf r11.1 (r12.1 != r13.1)) fun r14 =>
 bd (surveyorref01_Negative.f lf a0) fun r15 =>
 bd (surveyorref01_Negative.f lf a1) fun r16 =>
 br (r15.1 != r16.1) (
 br (decide (((r11.2.1.length:Nat):Int) > 0)) (
 bd (surveyorref01_Diff.f lf r14.1 (⟨#[49]⟩:ByteArray)) fun r17 =>
 some (r17.1,())) (
 some (r14.1,()))) (
 some (r14.1,())))) (
 bd (surveyorref01_digits.f lf a0) fun r18 =>
 bd (surveyorref01_cut.f lf r18.1) fun r19 =>
 bd (surveyorref01_digits.f lf a1) fun r20 =>
 bd (surveyorref01_cut.f lf r20.1) fun r21 =>
 bd (surveyorref01_split.f lf r19.1 r21.1) fun r22 =>
 bd (surveyorref01_Negative.f lf a0) fun r23 =>
 bd (surveyorref01_Negative.f lf a1) fun r24 =>
 bd (surveyorref01_made.f lf r22.1 (r23.1 != r24.1)) fun r25 =>
 bd (surveyorref01_Negative.f lf a0) fun r26 =>
 bd (surveyorref01_Negative.f lf a1) fun r27 =>
 br (r26.1 != r27.1) (
 br (decide (((r22.2.1.length:Nat):Int) > 0)) (
 bd (surveyorref01_Diff.f lf r25.1 (⟨#[49]⟩:ByteArray)) fun r28 =>
 some (r28.1,())) (
 some (r25.1,()))) (
 some (r25.1,())))
def E(lf:Nat):Entry:=⟨[.str,.str],[.str],fun x=>f lf x.1 x.2.1⟩
theorem ok(lf:Nat):Ok 222 (E lf):=okT (an:=(annsL [])) (lf:=lf) (tC (surveyorref01_Whole.ok lf) (tC (surveyorref01_Negative.ok lf) (tC (surveyorref01_Diff.ok lf) (tC (surveyorref01_short.ok lf) (tC (surveyorref01_number.ok lf) (tC (surveyorref01_digits.ok lf) (tC (surveyorref01_made.ok lf) (tC (surveyorref01_cut.ok lf) (tC (surveyorref01_floor.ok lf) (tC (surveyorref01_split.ok lf) tN)))))))))) aoN fun x=>by kernel_rfl
end surveyorref01_Floor
namespace surveyorref01_Rest
def f(lf:Nat)(a0:ByteArray)(a1:ByteArray):Option (ByteArray×Unit) :=
 bd (surveyorref01_Floor.f lf a0 a1) fun r1 =>
 bd (surveyorref01_Product.f lf a1 r1.1) fun r2 =>
 bd (surveyorref01_Diff.f lf a0 r2.1) fun r3 =>
 some (r3.1,())
def E(lf:Nat):Entry:=⟨[.str,.str],[.str],fun x=>f lf x.1 x.2.1⟩
theorem ok(lf:Nat):Ok 162 (E lf):=okT (an:=(annsL [])) (lf:=lf) (tC (surveyorref01_Diff.ok lf) (tC (surveyorref01_Product.ok lf) (tC (surveyorref01_Floor.ok lf) tN))) aoN fun x=>by kernel_rfl
end surveyorref01_Rest
namespace surveyorref01_Magnitude
def f(lf:Nat)(a0:ByteArray):Option (ByteArray×Unit) :=
 bd (surveyorref01_Negative.f lf a0) fun r1 =>
 br r1.1 (
 bd (sCut a0 (some 1) none) fun r2 =>
 some (r2,())) (
 some (a0,()))
def E(lf:Nat):Entry:=⟨[.str],[.str],fun x=>f lf x.1⟩
theorem ok(lf:Nat):Ok 183 (E lf):=okT (an:=(annsL [])) (lf:=lf) (tC (surveyorref01_Negative.ok lf) tN) aoN fun x=>by kernel_rfl
end surveyorref01_Magnitude
namespace surveyorref01_Sign
def f(lf:Nat)(a0:ByteArray):Option (Int×Unit) :=
 br (a0.toList==(⟨#[48]⟩:ByteArray).toList) (
 some (0,())) (
 bd (surveyorref01_Negative.f lf a0) fun r1 =>
 br r1.1 (
 some ((-1),())) (
 some (1,())))
def E(lf:Nat):Entry:=⟨[.str],[(.int .i64)],fun x=>f lf x.1⟩
theorem ok(lf:Nat):Ok 148 (E lf):=okT (an:=(annsL [])) (lf:=lf) (tC (surveyorref01_Negative.ok lf) tN) aoN fun x=>by kernel_rfl
end surveyorref01_Sign
namespace surveyorref01_Order
def f(lf:Nat)(a0:ByteArray)(a1:ByteArray):Option (Int×Unit) :=
 bd (surveyorref01_Sign.f lf a0) fun r1 =>
 bd (surveyorref01_Sign.f lf a1) fun r2 =>
 br (r1.1 != r2.1) (
 br (decide (r1.1 < r2.1)) (
 some ((-1),())) (
 some (1,()))) (
 bd (surveyorref01_digits.f lf a0) fun r3 =>
 bd (surveyorref01_cut.f lf r3.1) fun r4 =>
 bd (surveyorref01_digits.f lf a1) fun r5 =>
 bd (surveyorref01_cut.f lf r5.1) fun r6 =>
 bd (surveyorref01_order.f lf r4.1 r6.1) fun r7 =>
 some ((i64.wrap (r1.1*r7.1)),()))
def E(lf:Nat):Entry:=⟨[.str,.str],[(.int .i64)],fun x=>f lf x.1 x.2.1⟩
theorem ok(lf:Nat):Ok 165 (E lf):=okT (an:=(annsL [])) (lf:=lf) (tC (surveyorref01_Sign.ok lf) (tC (surveyorref01_digits.ok lf) (tC (surveyorref01_order.ok lf) (tC (surveyorref01_cut.ok lf) tN)))) aoN fun x=>by kernel_rfl
end surveyorref01_Order
namespace surveyorref01_Less
def f(lf:Nat)(a0:ByteArray)(a1:ByteArray):Option (Bool×Unit) :=
 bd (surveyorref01_Order.f lf a0 a1) fun r1 =>
 some ((decide (r1.1 < 0)),())
def E(lf:Nat):Entry:=⟨[.str,.str],[.bool],fun x=>f lf x.1 x.2.1⟩
theorem ok(lf:Nat):Ok 116 (E lf):=okT (an:=(annsL [])) (lf:=lf) (tC (surveyorref01_Order.ok lf) tN) aoN fun x=>by kernel_rfl
end surveyorref01_Less
end
end Go.Q
namespace Go.Q
open Go Go.RowKit
open Go.Rx (br bd sIdx sCat sCut iQuo iRem)
noncomputable section
namespace surveyorref21_Few
def f(lf:Nat)(a0:TI)(a1:TI):Option (Bool×Unit) :=
 br (decide (((a0.2.1.size:Nat):Int)≤450)) (
 br (decide (((a0.2.2.1.size:Nat):Int)≤450)) (
 br (decide (((a1.2.1.size:Nat):Int)≤450)) (
 some ((decide (((a1.2.2.1.size:Nat):Int)≤450)),())) (
 some (false,()))) (
 some (false,()))) (
 some (false,()))
def E(lf:Nat):Entry:=⟨[yI,yI],[.bool],fun x=>f lf x.1 x.2.1⟩
theorem ok(lf:Nat):Ok 55 (E lf):=okT (an:=(annsL [])) (lf:=lf) tN aoN fun x=>by kernel_rfl
end surveyorref21_Few
namespace surveyorref21_None
def f(lf:Nat)  : Option (TI×Unit) :=
 some ((true,(⟨#[]⟩:ByteArray),(⟨#[]⟩:ByteArray),()),())
def E(lf:Nat):Entry:=⟨[],[yI],fun x=>f lf⟩
theorem ok(lf:Nat):Ok 73 (E lf):=okT (an:=(annsL [])) (lf:=lf) tN aoN fun x=>by kernel_rfl
end surveyorref21_None
namespace surveyorref21_In
def f(lf:Nat)(a0:TI)(a1:ByteArray):Option (Bool×Unit) :=
 br (!a0.1) (
 br (a0.2.1.toList==(⟨#[]⟩:ByteArray).toList) (
 br (a0.2.2.1.toList==(⟨#[]⟩:ByteArray).toList) (
 some (true,())) (
 bd (surveyorref01_Less.f lf a0.2.2.1 a1) fun r1 =>
 some ((!r1.1),()))) (
 bd (surveyorref01_Less.f lf a1 a0.2.1) fun r2 =>
 br (!r2.1) (
 br (a0.2.2.1.toList==(⟨#[]⟩:ByteArray).toList) (
 some (true,())) (
 bd (surveyorref01_Less.f lf a0.2.2.1 a1) fun r3 =>
 some ((!r3.1),()))) (
 some (false,())))) (
 some (false,()))
def E(lf:Nat):Entry:=⟨[yI,.str],[.bool],fun x=>f lf x.1 x.2.1⟩
theorem ok(lf:Nat):Ok 96 (E lf):=okT (an:=(annsL [])) (lf:=lf) (tC (surveyorref01_Less.ok lf) tN) aoN fun x=>by kernel_rfl
end surveyorref21_In
namespace surveyorref21_clip
def f(lf:Nat)(a0:ByteArray):Option (ByteArray×Unit) :=
 br (!(a0.toList==(⟨#[]⟩:ByteArray).toList)) (
 bd (surveyorref01_Digits.f lf a0) fun r1 =>
 br (decide (r1.1 > 100)) (
 some ((⟨#[]⟩:ByteArray),())) (
 some (a0,()))) (
 some (a0,()))
def E(lf:Nat):Entry:=⟨[.str],[.str],fun x=>f lf x.1⟩
theorem ok(lf:Nat):Ok 160 (E lf):=okT (an:=(annsL [])) (lf:=lf) (tC (surveyorref01_Digits.ok lf) tN) aoN fun x=>by kernel_rfl
end surveyorref21_clip
namespace surveyorref21_Range
def f(lf:Nat)(a0:ByteArray)(a1:ByteArray):Option (TI×Unit) :=
 br (!(a0.toList==(⟨#[]⟩:ByteArray).toList)) (
 br (!(a1.toList==(⟨#[]⟩:ByteArray).toList)) (
 bd (surveyorref01_Less.f lf a1 a0) fun r1 =>
 br r1.1 (
 bd (surveyorref21_None.f lf) fun r2 =>
 some (r2.1,())) (
 bd (surveyorref21_clip.f lf a0) fun r3 =>
 bd (surveyorref21_clip.f lf a1) fun r4 =>
 some ((false,r3.1,r4.1,()),()))) (
 bd (surveyorref21_clip.f lf a0) fun r5 =>
 bd (surveyorref21_clip.f lf a1) fun r6 =>
 some ((false,r5.1,r6.1,()),()))) (
 bd (surveyorref21_clip.f lf a0) fun r7 =>
 bd (surveyorref21_clip.f lf a1) fun r8 =>
 some ((false,r7.1,r8.1,()),()))
def E(lf:Nat):Entry:=⟨[.str,.str],[yI],fun x=>f lf x.1 x.2.1⟩
theorem ok(lf:Nat):Ok 113 (E lf):=okT (an:=(annsL [])) (lf:=lf) (tC (surveyorref21_None.ok lf) (tC (surveyorref01_Less.ok lf) (tC (surveyorref21_clip.ok lf) tN))) aoN fun x=>by kernel_rfl
end surveyorref21_Range
namespace surveyorref21_bound
def f(lf:Nat)(a0:ByteArray):Option (Int×Unit) :=
 br (a0.toList==(⟨#[]⟩:ByteArray).toList) (
 some (0,())) (
 bd (surveyorref06_Number.f lf a0) fun r1 =>
 some (r1.1,()))
def E(lf:Nat):Entry:=⟨[.str],[(.int .i64)],fun x=>f lf x.1⟩
theorem ok(lf:Nat):Ok 146 (E lf):=okT (an:=(annsL [])) (lf:=lf) (tC (surveyorref06_Number.ok lf) tN) aoN fun x=>by kernel_rfl
end surveyorref21_bound
namespace surveyorref21_Check
def f(lf:Nat)(a0:TI):Option (Int×Unit) :=
 br a0.1 (
 br (!(a0.2.1.toList==(⟨#[]⟩:ByteArray).toList)) (
 some (3,())) (
 br (!(a0.2.2.1.toList==(⟨#[]⟩:ByteArray).toList)) (
 some (3,())) (
 bd (surveyorref21_bound.f lf a0.2.1) fun r1 =>
 br (r1.1 != 0) (
 some (r1.1,())) (
 bd (surveyorref21_bound.f lf a0.2.2.1) fun r2 =>
 br (r2.1 != 0) (
 some (r2.1,())) (
 br (!(a0.2.1.toList==(⟨#[]⟩:ByteArray).toList)) (
 br (!(a0.2.2.1.toList==(⟨#[]⟩:ByteArray).toList)) (
 bd (surveyorref01_Less.f lf a0.2.2.1 a0.2.1) fun r3 =>
 br r3.1 (
 some (14,())) (
 some (0,()))) (
 some (0,()))) (
 some (0,()))))))) (
 bd (surveyorref21_bound.f lf a0.2.1) fun r4 =>
 br (r4.1 != 0) (
 some (r4.1,())) (
 bd (surveyorref21_bound.f lf a0.2.2.1) fun r5 =>
 br (r5.1 != 0) (
 some (r5.1,())) (
 br (!(a0.2.1.toList==(⟨#[]⟩:ByteArray).toList)) (
 br (!(a0.2.2.1.toList==(⟨#[]⟩:ByteArray).toList)) (
 bd (surveyorref01_Less.f lf a0.2.2.1 a0.2.1) fun r6 =>
 br r6.1 (
 some (14,())) (
 some (0,()))) (
 some (0,()))) (
 some (0,())))))
def E(lf:Nat):Entry:=⟨[yI],[(.int .i64)],fun x=>f lf x.1⟩
theorem ok(lf:Nat):Ok 98 (E lf):=okT (an:=(annsL [])) (lf:=lf) (tC (surveyorref01_Less.ok lf) (tC (surveyorref21_bound.ok lf) tN)) aoN fun x=>by kernel_rfl
end surveyorref21_Check
end
end Go.Q
namespace Go.Q
open Go Go.RowKit
open Go.Rx (br bd sIdx sCat sCut iQuo iRem)
noncomputable section
namespace api_Int
def f(lf:Nat)(a0:ByteArray)(a1:Int):Option (ByteArray×Unit) :=
 some (a0,())
def E(lf:Nat):Entry:=⟨[.str,(.int .i64)],[.str],fun x=>f lf x.1 x.2.1⟩
theorem ok(lf:Nat):Ok 192 (E lf):=okT (an:=(annsL [])) (lf:=lf) tN aoN fun x=>by kernel_rfl
end api_Int
namespace api_Value
def f(lf:Nat)(a0:TV)(a1:Int):Option (TV×Unit) :=
 some (a0,())
def E(lf:Nat):Entry:=⟨[yV,(.int .i64)],[yV],fun x=>f lf x.1 x.2.1⟩
theorem ok(lf:Nat):Ok 63 (E lf):=okT (an:=(annsL [])) (lf:=lf) tN aoN fun x=>by kernel_rfl
end api_Value
end
end Go.Q
namespace Go.Q
open Go Go.RowKit
open Go.Rx (br bd sIdx sCat sCut iQuo iRem)
noncomputable section
namespace congruence_long
def f(lf:Nat)(a0:ByteArray):Option (Bool×Unit) :=
 bd (strings_TrimPrefix.f lf a0 (⟨#[45]⟩:ByteArray)) fun r1 =>
 some ((decide (((r1.1.size:Nat):Int) > 100)),())
def E(lf:Nat):Entry:=⟨[.str],[.bool],fun x=>f lf x.1⟩
theorem ok(lf:Nat):Ok 227 (E lf):=okT (an:=(annsL [])) (lf:=lf) (tC (strings_TrimPrefix.ok lf) tN) aoN fun x=>by kernel_rfl
end congruence_long
namespace congruence_number
def f(lf:Nat)(a0:ByteArray):Option (Int×Unit) :=
 bd (bigint_Check.f lf a0) fun r1 =>
 br (r1.1==10) (
 some (10,())) (
 br (r1.1==0) (
 bd (congruence_long.f lf a0) fun r2 =>
 br r2.1 (
 some (10,())) (
 br (r1.1 != 0) (
 some (r1.1,())) (
 some (0,())))) (
 br (r1.1 != 0) (
 some (r1.1,())) (
 some (0,()))))
def E(lf:Nat):Entry:=⟨[.str],[(.int .i64)],fun x=>f lf x.1⟩
theorem ok(lf:Nat):Ok 255 (E lf):=okT (an:=(annsL [])) (lf:=lf) (tC (bigint_Check.ok lf) (tC (congruence_long.ok lf) tN)) aoN fun x=>by kernel_rfl
end congruence_number
namespace congruence_sure_int
def f(lf:Nat)(a0:Int)(a1:Int):Option (Int×Unit) :=
 some (a0,())
def E(lf:Nat):Entry:=⟨[(.int .i64),(.int .i64)],[(.int .i64)],fun x=>f lf x.1 x.2.1⟩
theorem ok(lf:Nat):Ok 294 (E lf):=okT (an:=(annsL [])) (lf:=lf) tN aoN fun x=>by kernel_rfl
end congruence_sure_int
namespace congruence_less
def f(lf:Nat)(a0:ByteArray)(a1:ByteArray):Option (Bool×Unit) :=
 bd (bigint_Compare.f lf a0 a1) fun r1 =>
 bd (congruence_sure_int.f lf r1.1 r1.2.1) fun r2 =>
 some ((decide (r2.1 < 0)),())
def E(lf:Nat):Entry:=⟨[.str,.str],[.bool],fun x=>f lf x.1 x.2.1⟩
theorem ok(lf:Nat):Ok 256 (E lf):=okT (an:=(annsL [])) (lf:=lf) (tC (bigint_Compare.ok lf) (tC (congruence_sure_int.ok lf) tN)) aoN fun x=>by kernel_rfl
end congruence_less
namespace congruence_Check
def f(lf:Nat)(a0:TI):Option (Int×Unit) :=
 br a0.1 (
 br (!(a0.2.1.toList==(⟨#[]⟩:ByteArray).toList)) (
 some (3,())) (
 br (!(a0.2.2.1.toList==(⟨#[]⟩:ByteArray).toList)) (
 some (3,())) (
 some (0,())))) (
 bd (congruence_number.f lf a0.2.1) fun r1 =>
 br (r1.1 != 0) (
 some (r1.1,())) (
 bd (congruence_number.f lf a0.2.2.1) fun r2 =>
 br (r2.1 != 0) (
 some (r2.1,())) (
 bd (congruence_less.f lf a0.2.1 (⟨#[48]⟩:ByteArray)) fun r3 =>
 br r3.1 (
 some (2,())) (
 br (!(a0.2.1.toList==(⟨#[48]⟩:ByteArray).toList)) (
 bd (congruence_less.f lf a0.2.2.1 (⟨#[48]⟩:ByteArray)) fun r4 =>
 br r4.1 (
 some (2,())) (
 bd (congruence_less.f lf a0.2.2.1 a0.2.1) fun r5 =>
 br (!r5.1) (
 some (2,())) (
 some (0,())))) (
 some (0,()))))))
def E(lf:Nat):Entry:=⟨[yI],[(.int .i64)],fun x=>f lf x.1⟩
theorem ok(lf:Nat):Ok 191 (E lf):=okT (an:=(annsL [])) (lf:=lf) (tC (congruence_number.ok lf) (tC (congruence_less.ok lf) tN)) aoN fun x=>by kernel_rfl
end congruence_Check
namespace congruence_sub
def f(lf:Nat)(a0:ByteArray)(a1:ByteArray):Option (ByteArray×Unit) :=
 bd (bigint_Sub.f lf a0 a1) fun r1 =>
 bd (api_Int.f lf r1.1 r1.2.1) fun r2 =>
 some (r2.1,())
def E(lf:Nat):Entry:=⟨[.str,.str],[.str],fun x=>f lf x.1 x.2.1⟩
theorem ok(lf:Nat):Ok 172 (E lf):=okT (an:=(annsL [])) (lf:=lf) (tC (api_Int.ok lf) (tC (bigint_Sub.ok lf) tN)) aoN fun x=>by kernel_rfl
end congruence_sub
namespace congruence_modulo
def f(lf:Nat)(a0:ByteArray)(a1:ByteArray)(a2:ByteArray):Option (ByteArray×Int×Unit) :=
 bd (bigint_Rem.f lf a0 a2) fun r1 =>
 br (r1.2.1 != 0) (
 some ((⟨#[]⟩:ByteArray),r1.2.1,())) (
 bd (bigint_Rem.f lf a1 a2) fun r2 =>
 br (r2.2.1 != 0) (
 some ((⟨#[]⟩:ByteArray),r2.2.1,())) (
 bd (congruence_sub.f lf r1.1 r2.1) fun r3 =>
 bd (bigint_Rem.f lf r3.1 a2) fun r4 =>
 some (r4.1,r4.2.1,())))
def E(lf:Nat):Entry:=⟨[.str,.str,.str],[.str,(.int .i64)],fun x=>f lf x.1 x.2.1 x.2.2.1⟩
theorem ok(lf:Nat):Ok 302 (E lf):=okT (an:=(annsL [])) (lf:=lf) (tC (congruence_sub.ok lf) (tC (bigint_Rem.ok lf) tN)) aoN fun x=>by kernel_rfl
end congruence_modulo
namespace congruence_Least
def f(lf:Nat)(a0:TI)(a1:ByteArray):Option (ByteArray×Int×Unit) :=
 bd (congruence_Check.f lf a0) fun r1 =>
 br (r1.1 != 0) (
 some ((⟨#[]⟩:ByteArray),r1.1,())) (
 bd (bigint_Check.f lf a1) fun r2 =>
 br (r2.1 != 0) (
 some ((⟨#[]⟩:ByteArray),r2.1,())) (
 br a0.1 (
 some ((⟨#[]⟩:ByteArray),16,())) (
 br (!(a0.2.1.toList==(⟨#[48]⟩:ByteArray).toList)) (
 bd (congruence_modulo.f lf a0.2.2.1 a1 a0.2.1) fun r3 =>
 br (r3.2.1 != 0) (
 some ((⟨#[]⟩:ByteArray),r3.2.1,())) (
 bd (bigint_Add.f lf a1 r3.1) fun r4 =>
 some (r4.1,r4.2.1,()))) (
 bd (congruence_less.f lf a0.2.2.1 a1) fun r5 =>
 br r5.1 (
 some ((⟨#[]⟩:ByteArray),6,())) (
 some (a0.2.2.1,0,()))))))
def E(lf:Nat):Entry:=⟨[yI,.str],[.str,(.int .i64)],fun x=>f lf x.1 x.2.1⟩
theorem ok(lf:Nat):Ok 266 (E lf):=okT (an:=(annsL [])) (lf:=lf) (tC (bigint_Check.ok lf) (tC (congruence_Check.ok lf) (tC (congruence_less.ok lf) (tC (bigint_Add.ok lf) (tC (congruence_modulo.ok lf) tN))))) aoN fun x=>by kernel_rfl
end congruence_Least
namespace congruence_Greatest
def f(lf:Nat)(a0:TI)(a1:ByteArray):Option (ByteArray×Int×Unit) :=
 bd (congruence_Check.f lf a0) fun r1 =>
 br (r1.1 != 0) (
 some ((⟨#[]⟩:ByteArray),r1.1,())) (
 bd (bigint_Check.f lf a1) fun r2 =>
 br (r2.1 != 0) (
 some ((⟨#[]⟩:ByteArray),r2.1,())) (
 br a0.1 (
 some ((⟨#[]⟩:ByteArray),16,())) (
 br (!(a0.2.1.toList==(⟨#[48]⟩:ByteArray).toList)) (
 bd (congruence_modulo.f lf a1 a0.2.2.1 a0.2.1) fun r3 =>
 br (r3.2.1 != 0) (
 some ((⟨#[]⟩:ByteArray),r3.2.1,())) (
 bd (bigint_Sub.f lf a1 r3.1) fun r4 =>
 some (r4.1,r4.2.1,()))) (
 bd (congruence_less.f lf a1 a0.2.2.1) fun r5 =>
 br r5.1 (
 some ((⟨#[]⟩:ByteArray),6,())) (
 some (a0.2.2.1,0,()))))))
def E(lf:Nat):Entry:=⟨[yI,.str],[.str,(.int .i64)],fun x=>f lf x.1 x.2.1⟩
theorem ok(lf:Nat):Ok 267 (E lf):=okT (an:=(annsL [])) (lf:=lf) (tC (bigint_Check.ok lf) (tC (congruence_Check.ok lf) (tC (bigint_Sub.ok lf) (tC (congruence_less.ok lf) (tC (congruence_modulo.ok lf) tN))))) aoN fun x=>by kernel_rfl
end congruence_Greatest
namespace congruence_Top
def f(lf:Nat)  : Option (TI×Unit) :=
 some ((false,(⟨#[49]⟩:ByteArray),(⟨#[48]⟩:ByteArray),()),())
def E(lf:Nat):Entry:=⟨[],[yI],fun x=>f lf⟩
theorem ok(lf:Nat):Ok 228 (E lf):=okT (an:=(annsL [])) (lf:=lf) tN aoN fun x=>by kernel_rfl
end congruence_Top
namespace congruence_class
def f(lf:Nat)(a0:ByteArray)(a1:ByteArray):Option (TI×Unit) :=
 bd (bigint_Abs.f lf a0) fun r1 =>
 bd (api_Int.f lf r1.1 r1.2.1) fun r2 =>
 br (!(r2.1.toList==(⟨#[48]⟩:ByteArray).toList)) (
 bd (bigint_Rem.f lf a1 r2.1) fun r3 =>
 bd (api_Int.f lf r3.1 r3.2.1) fun r4 =>
 bd (congruence_long.f lf r2.1) fun r5 =>
 br r5.1 (
 bd (congruence_Top.f lf) fun r6 =>
 some (r6.1,())) (
 bd (congruence_long.f lf r4.1) fun r7 =>
 br r7.1 (
 bd (congruence_Top.f lf) fun r8 =>
 some (r8.1,())) (
 some ((false,r2.1,r4.1,()),())))) (
 bd (congruence_long.f lf r2.1) fun r9 =>
 br r9.1 (
 bd (congruence_Top.f lf) fun r10 =>
 some (r10.1,())) (
 bd (congruence_long.f lf a1) fun r11 =>
 br r11.1 (
 bd (congruence_Top.f lf) fun r12 =>
 some (r12.1,())) (
 some ((false,r2.1,a1,()),()))))
def E(lf:Nat):Entry:=⟨[.str,.str],[yI],fun x=>f lf x.1 x.2.1⟩
theorem ok(lf:Nat):Ok 170 (E lf):=okT (an:=(annsL [])) (lf:=lf) (tC (api_Int.ok lf) (tC (bigint_Rem.ok lf) (tC (bigint_Abs.ok lf) (tC (congruence_long.ok lf) (tC (congruence_Top.ok lf) tN))))) aoN fun x=>by kernel_rfl
end congruence_class
namespace congruence_gcd
def f(lf:Nat)(a0:ByteArray)(a1:ByteArray):Option (ByteArray×Unit) :=
 bd (bigint_Gcd.f lf a0 a1) fun r1 =>
 bd (api_Int.f lf r1.1 r1.2.1) fun r2 =>
 some (r2.1,())
def E(lf:Nat):Entry:=⟨[.str,.str],[.str],fun x=>f lf x.1 x.2.1⟩
theorem ok(lf:Nat):Ok 171 (E lf):=okT (an:=(annsL [])) (lf:=lf) (tC (api_Int.ok lf) (tC (bigint_Gcd.ok lf) tN)) aoN fun x=>by kernel_rfl
end congruence_gcd
namespace congruence_divides
def f(lf:Nat)(a0:ByteArray)(a1:ByteArray):Option (Bool×Unit) :=
 br (a0.toList==(⟨#[48]⟩:ByteArray).toList) (
 some ((a1.toList==(⟨#[48]⟩:ByteArray).toList),())) (
 bd (bigint_Rem.f lf a1 a0) fun r1 =>
 bd (api_Int.f lf r1.1 r1.2.1) fun r2 =>
 some ((r2.1.toList==(⟨#[48]⟩:ByteArray).toList),()))
def E(lf:Nat):Entry:=⟨[.str,.str],[.bool],fun x=>f lf x.1 x.2.1⟩
theorem ok(lf:Nat):Ok 234 (E lf):=okT (an:=(annsL [])) (lf:=lf) (tC (api_Int.ok lf) (tC (bigint_Rem.ok lf) tN)) aoN fun x=>by kernel_rfl
end congruence_divides
namespace congruence_inside
def f(lf:Nat)(a0:TI)(a1:TI):Option (Bool×Unit) :=
 br a0.1 (
 some (a0.1,())) (
 br a1.1 (
 some (a0.1,())) (
 bd (congruence_divides.f lf a1.2.1 a0.2.1) fun r1 =>
 br r1.1 (
 bd (congruence_sub.f lf a0.2.2.1 a1.2.2.1) fun r2 =>
 bd (congruence_divides.f lf a1.2.1 r2.1) fun r3 =>
 some (r3.1,())) (
 some (false,()))))
def E(lf:Nat):Entry:=⟨[yI,yI],[.bool],fun x=>f lf x.1 x.2.1⟩
theorem ok(lf:Nat):Ok 200 (E lf):=okT (an:=(annsL [])) (lf:=lf) (tC (congruence_sub.ok lf) (tC (congruence_divides.ok lf) tN)) aoN fun x=>by kernel_rfl
end congruence_inside
namespace congruence_none
def f(lf:Nat)  : Option (TI×Unit) :=
 some ((true,(⟨#[]⟩:ByteArray),(⟨#[]⟩:ByteArray),()),())
def E(lf:Nat):Entry:=⟨[],[yI],fun x=>f lf⟩
theorem ok(lf:Nat):Ok 235 (E lf):=okT (an:=(annsL [])) (lf:=lf) tN aoN fun x=>by kernel_rfl
end congruence_none
namespace congruence_mul
def f(lf:Nat)(a0:ByteArray)(a1:ByteArray):Option (ByteArray×Unit) :=
 bd (bigint_Mul.f lf a0 a1) fun r1 =>
 bd (api_Int.f lf r1.1 r1.2.1) fun r2 =>
 some (r2.1,())
def E(lf:Nat):Entry:=⟨[.str,.str],[.str],fun x=>f lf x.1 x.2.1⟩
theorem ok(lf:Nat):Ok 237 (E lf):=okT (an:=(annsL [])) (lf:=lf) (tC (api_Int.ok lf) (tC (bigint_Mul.ok lf) tN)) aoN fun x=>by kernel_rfl
end congruence_mul
namespace congruence_add
def f(lf:Nat)(a0:ByteArray)(a1:ByteArray):Option (ByteArray×Unit) :=
 bd (bigint_Add.f lf a0 a1) fun r1 =>
 bd (api_Int.f lf r1.1 r1.2.1) fun r2 =>
 some (r2.1,())
def E(lf:Nat):Entry:=⟨[.str,.str],[.str],fun x=>f lf x.1 x.2.1⟩
theorem ok(lf:Nat):Ok 240 (E lf):=okT (an:=(annsL [])) (lf:=lf) (tC (api_Int.ok lf) (tC (bigint_Add.ok lf) tN)) aoN fun x=>by kernel_rfl
end congruence_add
namespace congruence_meet
def f(lf:Nat)(a0:TI)(a1:TI):Option (TI×Unit) :=
 bd (congruence_inside.f lf a0 a1) fun r1 =>
 br r1.1 (
 some (a0,())) (
 bd (congruence_inside.f lf a1 a0) fun r2 =>
 br r2.1 (
 some (a1,())) (
 bd (congruence_gcd.f lf a0.2.1 a1.2.1) fun r3 =>
 bd (congruence_sub.f lf a1.2.2.1 a0.2.2.1) fun r4 =>
 br (a0.2.1.toList==(⟨#[48]⟩:ByteArray).toList) (
 bd (congruence_none.f lf) fun r5 =>
 some (r5.1,())) (
 br (a1.2.1.toList==(⟨#[48]⟩:ByteArray).toList) (
 bd (congruence_none.f lf) fun r6 =>
 some (r6.1,())) (
 bd (congruence_divides.f lf r3.1 r4.1) fun r7 =>
 br (!r7.1) (
 bd (congruence_none.f lf) fun r8 =>
 some (r8.1,())) (
 bd (bigint_Bezout.f lf a0.2.1 a1.2.1) fun r9 =>
 bd (bigint_Quo.f lf r4.1 r3.1) fun r10 =>
 bd (api_Int.f lf r10.1 r10.2.1) fun r11 =>
 bd (congruence_mul.f lf r9.2.1 r11.1) fun r12 =>
 bd (bigint_Lcm.f lf a0.2.1 a1.2.1) fun r13 =>
 bd (api_Int.f lf r13.1 r13.2.1) fun r14 =>
 bd (congruence_mul.f lf r12.1 a0.2.1) fun r15 =>
 bd (congruence_add.f lf a0.2.2.1 r15.1) fun r16 =>
 bd (congruence_class.f lf r14.1 r16.1) fun r17 =>
 some (r17.1,()))))))
def E(lf:Nat):Entry:=⟨[yI,yI],[yI],fun x=>f lf x.1 x.2.1⟩
theorem ok(lf:Nat):Ok 176 (E lf):=okT (an:=(annsL [])) (lf:=lf) (tC (congruence_class.ok lf) (tC (congruence_gcd.ok lf) (tC (congruence_sub.ok lf) (tC (api_Int.ok lf) (tC (congruence_inside.ok lf) (tC (congruence_divides.ok lf) (tC (congruence_none.ok lf) (tC (bigint_Bezout.ok lf) (tC (congruence_mul.ok lf) (tC (bigint_Quo.ok lf) (tC (bigint_Lcm.ok lf) (tC (congruence_add.ok lf) tN)))))))))))) aoN fun x=>by kernel_rfl
end congruence_meet
namespace congruence_both
def f(lf:Nat)(a0:TI)(a1:TI):Option (Int×Unit) :=
 bd (congruence_Check.f lf a0) fun r1 =>
 br (r1.1 != 0) (
 some (r1.1,())) (
 bd (congruence_Check.f lf a1) fun r2 =>
 some (r2.1,()))
def E(lf:Nat):Entry:=⟨[yI,yI],[(.int .i64)],fun x=>f lf x.1 x.2.1⟩
theorem ok(lf:Nat):Ok 169 (E lf):=okT (an:=(annsL [])) (lf:=lf) (tC (congruence_Check.ok lf) tN) aoN fun x=>by kernel_rfl
end congruence_both
namespace congruence_Meet
def f(lf:Nat)(a0:TI)(a1:TI):Option (TI×Int×Unit) :=
 bd (congruence_both.f lf a0 a1) fun r1 =>
 br (r1.1 != 0) (
 some ((false,(⟨#[]⟩:ByteArray),(⟨#[]⟩:ByteArray),()),r1.1,())) (
 br a0.1 (
 bd (congruence_none.f lf) fun r2 =>
 some (r2.1,0,())) (
 br a1.1 (
 bd (congruence_none.f lf) fun r3 =>
 some (r3.1,0,())) (
 bd (congruence_meet.f lf a0 a1) fun r4 =>
 some (r4.1,0,()))))
def E(lf:Nat):Entry:=⟨[yI,yI],[yI,(.int .i64)],fun x=>f lf x.1 x.2.1⟩
theorem ok(lf:Nat):Ok 128 (E lf):=okT (an:=(annsL [])) (lf:=lf) (tC (congruence_both.ok lf) (tC (congruence_meet.ok lf) (tC (congruence_none.ok lf) tN))) aoN fun x=>by kernel_rfl
end congruence_Meet
namespace congruence_Holds
def f(lf:Nat)(a0:TI)(a1:ByteArray):Option (Bool×Int×Unit) :=
 bd (congruence_Check.f lf a0) fun r1 =>
 br (r1.1 != 0) (
 some (false,r1.1,())) (
 bd (bigint_Check.f lf a1) fun r2 =>
 br (r2.1 != 0) (
 some (false,r2.1,())) (
 br a0.1 (
 some (false,0,())) (
 br (a0.2.1.toList==(⟨#[48]⟩:ByteArray).toList) (
 some ((a1.toList==a0.2.2.1.toList),0,())) (
 bd (bigint_Rem.f lf a1 a0.2.1) fun r3 =>
 bd (api_Int.f lf r3.1 r3.2.1) fun r4 =>
 some ((r4.1.toList==a0.2.2.1.toList),0,())))))
def E(lf:Nat):Entry:=⟨[yI,.str],[.bool,(.int .i64)],fun x=>f lf x.1 x.2.1⟩
theorem ok(lf:Nat):Ok 136 (E lf):=okT (an:=(annsL [])) (lf:=lf) (tC (bigint_Check.ok lf) (tC (congruence_Check.ok lf) (tC (api_Int.ok lf) (tC (bigint_Rem.ok lf) tN)))) aoN fun x=>by kernel_rfl
end congruence_Holds
namespace congruence_Join
def f(lf:Nat)(a0:TI)(a1:TI):Option (TI×Int×Unit) :=
 bd (congruence_both.f lf a0 a1) fun r1 =>
 br (r1.1 != 0) (
 some ((false,(⟨#[]⟩:ByteArray),(⟨#[]⟩:ByteArray),()),r1.1,())) (
 br a0.1 (
 some (a1,0,())) (
 br a1.1 (
 some (a0,0,())) (
 bd (congruence_gcd.f lf a0.2.1 a1.2.1) fun r2 =>
 bd (congruence_sub.f lf a0.2.2.1 a1.2.2.1) fun r3 =>
 bd (congruence_gcd.f lf r2.1 r3.1) fun r4 =>
 bd (congruence_class.f lf r4.1 a0.2.2.1) fun r5 =>
 some (r5.1,0,()))))
def E(lf:Nat):Entry:=⟨[yI,yI],[yI,(.int .i64)],fun x=>f lf x.1 x.2.1⟩
theorem ok(lf:Nat):Ok 123 (E lf):=okT (an:=(annsL [])) (lf:=lf) (tC (congruence_both.ok lf) (tC (congruence_class.ok lf) (tC (congruence_gcd.ok lf) (tC (congruence_sub.ok lf) tN)))) aoN fun x=>by kernel_rfl
end congruence_Join
end
end Go.Q
namespace Go.Q
open Go Go.RowKit
open Go.Rx (br bd sIdx sCat sCut iQuo iRem)
noncomputable section
namespace surveyorref22_Few
def f(lf:Nat)(a0:TI):Option (Bool×Unit) :=
 bd (surveyorref01_Few.f lf a0.2.1) fun r1 =>
 br r1.1 (
 bd (surveyorref01_Few.f lf a0.2.2.1) fun r2 =>
 some (r2.1,())) (
 some (false,()))
def E(lf:Nat):Entry:=⟨[yI],[.bool],fun x=>f lf x.1⟩
theorem ok(lf:Nat):Ok 56 (E lf):=okT (an:=(annsL [])) (lf:=lf) (tC (surveyorref01_Few.ok lf) tN) aoN fun x=>by kernel_rfl
end surveyorref22_Few
namespace surveyorref22_Empty
def f(lf:Nat)  : Option (TI×Unit) :=
 some ((true,(⟨#[]⟩:ByteArray),(⟨#[]⟩:ByteArray),()),())
def E(lf:Nat):Entry:=⟨[],[yI],fun x=>f lf⟩
theorem ok(lf:Nat):Ok 74 (E lf):=okT (an:=(annsL [])) (lf:=lf) tN aoN fun x=>by kernel_rfl
end surveyorref22_Empty
namespace surveyorref22_Top
def f(lf:Nat)  : Option (TI×Unit) :=
 some ((false,(⟨#[49]⟩:ByteArray),(⟨#[48]⟩:ByteArray),()),())
def E(lf:Nat):Entry:=⟨[],[yI],fun x=>f lf⟩
theorem ok(lf:Nat):Ok 117 (E lf):=okT (an:=(annsL [])) (lf:=lf) tN aoN fun x=>by kernel_rfl
end surveyorref22_Top
namespace surveyorref22_Class
def f(lf:Nat)(a0:ByteArray)(a1:ByteArray):Option (TI×Unit) :=
 bd (surveyorref01_Magnitude.f lf a0) fun r1 =>
 br (!(a0.toList==(⟨#[48]⟩:ByteArray).toList)) (
 bd (surveyorref01_Rest.f lf a1 r1.1) fun r2 =>
 bd (surveyorref01_Digits.f lf r1.1) fun r3 =>
 br (decide (r3.1 > 100)) (
 bd (surveyorref22_Top.f lf) fun r4 =>
 some (r4.1,())) (
 bd (surveyorref01_Digits.f lf r2.1) fun r5 =>
 br (decide (r5.1 > 100)) (
 bd (surveyorref22_Top.f lf) fun r6 =>
 some (r6.1,())) (
 some ((false,r1.1,r2.1,()),())))) (
 bd (surveyorref01_Digits.f lf r1.1) fun r7 =>
 br (decide (r7.1 > 100)) (
 bd (surveyorref22_Top.f lf) fun r8 =>
 some (r8.1,())) (
 bd (surveyorref01_Digits.f lf a1) fun r9 =>
 br (decide (r9.1 > 100)) (
 bd (surveyorref22_Top.f lf) fun r10 =>
 some (r10.1,())) (
 some ((false,r1.1,a1,()),()))))
def E(lf:Nat):Entry:=⟨[.str,.str],[yI],fun x=>f lf x.1 x.2.1⟩
theorem ok(lf:Nat):Ok 131 (E lf):=okT (an:=(annsL [])) (lf:=lf) (tC (surveyorref01_Digits.ok lf) (tC (surveyorref22_Top.ok lf) (tC (surveyorref01_Rest.ok lf) (tC (surveyorref01_Magnitude.ok lf) tN)))) aoN fun x=>by kernel_rfl
end surveyorref22_Class
namespace surveyorref22_Single
def f(lf:Nat)(a0:ByteArray):Option (TI×Unit) :=
 bd (surveyorref22_Class.f lf (⟨#[48]⟩:ByteArray) a0) fun r1 =>
 some (r1.1,())
def E(lf:Nat):Entry:=⟨[.str],[yI],fun x=>f lf x.1⟩
theorem ok(lf:Nat):Ok 80 (E lf):=okT (an:=(annsL [])) (lf:=lf) (tC (surveyorref22_Class.ok lf) tN) aoN fun x=>by kernel_rfl
end surveyorref22_Single
namespace surveyorref22_Above
def f(lf:Nat)(a0:TI)(a1:ByteArray):Option (ByteArray×Bool×Unit) :=
 br (a0.2.1.toList==(⟨#[48]⟩:ByteArray).toList) (
 bd (surveyorref01_Less.f lf a0.2.2.1 a1) fun r1 =>
 br r1.1 (
 some ((⟨#[]⟩:ByteArray),false,())) (
 some (a0.2.2.1,true,()))) (
 bd (surveyorref01_Diff.f lf a0.2.2.1 a1) fun r2 =>
 bd (surveyorref01_Rest.f lf r2.1 a0.2.1) fun r3 =>
 bd (surveyorref01_Sum.f lf a1 r3.1) fun r4 =>
 some (r4.1,true,()))
def E(lf:Nat):Entry:=⟨[yI,.str],[.str,.bool],fun x=>f lf x.1 x.2.1⟩
theorem ok(lf:Nat):Ok 114 (E lf):=okT (an:=(annsL [])) (lf:=lf) (tC (surveyorref01_Less.ok lf) (tC (surveyorref01_Diff.ok lf) (tC (surveyorref01_Sum.ok lf) (tC (surveyorref01_Rest.ok lf) tN)))) aoN fun x=>by kernel_rfl
end surveyorref22_Above
namespace surveyorref22_Negative
def f(lf:Nat)(a0:TI):Option (TI×Unit) :=
 br a0.1 (
 some (a0,())) (
 bd (surveyorref01_Negated.f lf a0.2.2.1) fun r1 =>
 bd (surveyorref22_Class.f lf a0.2.1 r1.1) fun r2 =>
 some (r2.1,()))
def E(lf:Nat):Entry:=⟨[yI],[yI],fun x=>f lf x.1⟩
theorem ok(lf:Nat):Ok 163 (E lf):=okT (an:=(annsL [])) (lf:=lf) (tC (surveyorref22_Class.ok lf) (tC (surveyorref01_Negated.ok lf) tN)) aoN fun x=>by kernel_rfl
end surveyorref22_Negative
namespace surveyorref22_Below
def f(lf:Nat)(a0:TI)(a1:ByteArray):Option (ByteArray×Bool×Unit) :=
 bd (surveyorref22_Negative.f lf a0) fun r1 =>
 bd (surveyorref01_Negated.f lf a1) fun r2 =>
 bd (surveyorref22_Above.f lf r1.1 r2.1) fun r3 =>
 br (!r3.2.1) (
 some ((⟨#[]⟩:ByteArray),false,())) (
 bd (surveyorref01_Negated.f lf r3.1) fun r4 =>
 some (r4.1,true,()))
def E(lf:Nat):Entry:=⟨[yI,.str],[.str,.bool],fun x=>f lf x.1 x.2.1⟩
theorem ok(lf:Nat):Ok 115 (E lf):=okT (an:=(annsL [])) (lf:=lf) (tC (surveyorref22_Above.ok lf) (tC (surveyorref22_Negative.ok lf) (tC (surveyorref01_Negated.ok lf) tN))) aoN fun x=>by kernel_rfl
end surveyorref22_Below
namespace surveyorref22_number
def f(lf:Nat)(a0:ByteArray):Option (Int×Unit) :=
 bd (surveyorref01_Form.f lf a0) fun r1 =>
 br (!r1.1) (
 some (3,())) (
 bd (surveyorref01_Digits.f lf a0) fun r2 =>
 br (decide (r2.1 > 100)) (
 some (10,())) (
 some (0,())))
def E(lf:Nat):Entry:=⟨[.str],[(.int .i64)],fun x=>f lf x.1⟩
theorem ok(lf:Nat):Ok 147 (E lf):=okT (an:=(annsL [])) (lf:=lf) (tC (surveyorref01_Form.ok lf) (tC (surveyorref01_Digits.ok lf) tN)) aoN fun x=>by kernel_rfl
end surveyorref22_number
namespace surveyorref22_Check
def f(lf:Nat)(a0:TI):Option (Int×Unit) :=
 br a0.1 (
 br (!(a0.2.1.toList==(⟨#[]⟩:ByteArray).toList)) (
 some (3,())) (
 br (!(a0.2.2.1.toList==(⟨#[]⟩:ByteArray).toList)) (
 some (3,())) (
 some (0,())))) (
 bd (surveyorref22_number.f lf a0.2.1) fun r1 =>
 br (r1.1 != 0) (
 some (r1.1,())) (
 bd (surveyorref22_number.f lf a0.2.2.1) fun r2 =>
 br (r2.1 != 0) (
 some (r2.1,())) (
 bd (surveyorref01_Sign.f lf a0.2.1) fun r3 =>
 br (decide (r3.1 < 0)) (
 some (2,())) (
 br (!(a0.2.1.toList==(⟨#[48]⟩:ByteArray).toList)) (
 bd (surveyorref01_Sign.f lf a0.2.2.1) fun r4 =>
 br (decide (r4.1 < 0)) (
 some (2,())) (
 bd (surveyorref01_Less.f lf a0.2.2.1 a0.2.1) fun r5 =>
 br (!r5.1) (
 some (2,())) (
 some (0,())))) (
 some (0,()))))))
def E(lf:Nat):Entry:=⟨[yI],[(.int .i64)],fun x=>f lf x.1⟩
theorem ok(lf:Nat):Ok 99 (E lf):=okT (an:=(annsL [])) (lf:=lf) (tC (surveyorref01_Less.ok lf) (tC (surveyorref22_number.ok lf) (tC (surveyorref01_Sign.ok lf) tN))) aoN fun x=>by kernel_rfl
end surveyorref22_Check
end
end Go.Q
