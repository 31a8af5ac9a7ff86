import Derived.Test.YtioemjeplgnccaaGreatDoorProg
import Derived.KernelRfl
import Derived.Test.YtioemjeplgnccaaGreatDoorTDE3
import Derived.Test.YtioemjeplgnccaaGreatDoorTDG1
set_option linter.unusedVariables false
set_option linter.unusedSimpArgs false
set_option linter.unusedSectionVars false
set_option maxRecDepth 100000
namespace Go.Q
open Go.IntKind (i64)
open Go Go.RowKit
open Go.Rx (br bd sIdx sCat sCut iQuo iRem iShl)
noncomputable section
namespace bW
def anns:FuncId→FA:=annsL [(240,⟨annOf [(0,⟨kx 63 [0,1,5,6],[],[]⟩,⟨kx 63 [4,5],[],[]⟩),(1,⟨kx 63 [0,1,5,6,7,8],[],[]⟩,⟨kx 63 [0,1,4,5,6,7],[],[]⟩)],none,[]⟩)]
def r1{ρ:Type}(lf:Nat)(v0 v1:List Int)(v2:Int)(v3 v4:Int)(v5:List Int)(K:Int→Int→(List Int)→Option ρ)(E0:Int→(List Int)→Option ρ):Option ρ :=
 br (decide (v4 < ((v1.length:Nat):Int))) (
 bd (idxB v5.length (i64.wrap (v2+v4))) fun j2 =>
 bd (v5[j2]?) fun y3 =>
 bd (idxL v0 v2) fun y4 =>
 bd (idxL v1 v4) fun y5 =>
 bd (iRem (i64.wrap (v3+(i64.wrap (y3+(i64.wrap (y4*y5)))))) 10) fun r6 =>
 bd (idxB v5.length (i64.wrap (v2+v4))) fun j7 =>
 bd (upE v5 j7 fun _=>some r6) fun q8 =>
 bd (iQuo .i64 (i64.wrap (v3+(i64.wrap (y3+(i64.wrap (y4*y5)))))) 10) fun r10 =>
 K r10 (i64.wrap (v4+1)) q8) (
 E0 v3 v5)
def l1(lf:Nat)(v0 v1:List Int)(v2:Int):Nat→Int→Int→(List Int)→Option ((Int×(List Int)×Unit)×Unit)
 | 0,_,_,_=>none
 | n+1,v3,v4,v5=>r1 lf v0 v1 v2 v3 v4 v5 (l1 lf v0 v1 v2 n) (fun w0 w1=>some ((w0,w1,()),()))
def sh1:ShS:=⟨[.s (.sl (.int .i64)),.s (.sl (.int .i64)),.a 3,.s (.row 0),.s (.int .i64),.s (.int .i64),.s (.int .i64),.a 54],[.row (.int .i64) 3 false]⟩
def S1(p:(List Int)×(List Int)×Int×Int×Int×(List Int)×Unit):St:=sh1.b p
def xh0:ShS:=⟨[.s (.sl (.int .i64)),.s (.sl (.int .i64)),.a 3,.s (.row 0),.s (.int .i64),.s (.int .i64),.a 55],[.row (.int .i64) 3 false]⟩
def o1(v0 v1:List Int)(v2:Int)(y:(Int×(List Int)×Unit)×Unit):Alt:=.one (.exit 2) (xh0.b (v0,v1,v2,y.1.1,y.1.2.1,()))
def r0{ρ:Type}(lf:Nat)(v0 v1:List Int)(v2:Int)(v3:List Int)(K:Int→(List Int)→Option ρ)(E0:(List Int)→Option ρ):Option ρ :=
 br (decide (v2 < ((v0.length:Nat):Int))) (
 bd (l1 lf v0 v1 v2 (lf+40) 0 0 v3) fun z11 =>
 bd (idxB z11.1.2.1.length (i64.wrap (v2+((v1.length:Nat):Int)))) fun j12 =>
 bd (upE z11.1.2.1 j12 fun _=>some z11.1.1) fun q13 =>
 K (i64.wrap (v2+1)) q13) (
 E0 v3)
def l0(lf:Nat)(v0 v1:List Int):Nat→Int→(List Int)→Option (((List Int)×Unit)×Unit)
 | 0,_,_=>none
 | n+1,v2,v3=>r0 lf v0 v1 v2 v3 (l0 lf v0 v1 n) (fun w0=>some ((w0,()),()))
def sh0:ShS:=⟨[.s (.sl (.int .i64)),.s (.sl (.int .i64)),.a 3,.s (.row 0),.s (.int .i64),.a 56],[.row (.int .i64) 3 false]⟩
def S0(p:(List Int)×(List Int)×Int×(List Int)×Unit):St:=sh0.b p
def xh1:ShS:=⟨[.a 5,.s (.row 0),.a 57],[.row (.int .i64) 3 false]⟩
def o0(v0 v1:List Int)(y:((List Int)×Unit)×Unit):Alt:=.one (.exit 0) (xh1.b (y.1.1,()))
def tb(lf:Nat):List (FuncId×Entry):=[(192,aH.E lf)]
def yZ(lf:Nat):List (Nat×(St→Option LTE)):=[(0,sumE sh0 fun(p:(List Int)×(List Int)×Int×(List Int)×Unit)=>⟨((List Int)×Unit)×Unit,l0 lf p.1 p.2.1 (lf+40) p.2.2.1 p.2.2.2.1,o0 p.1 p.2.1⟩),
 (1,sumE sh1 fun(p:(List Int)×(List Int)×Int×Int×Int×(List Int)×Unit)=>⟨(Int×(List Int)×Unit)×Unit,l1 lf p.1 p.2.1 p.2.2.1 (lf+40) p.2.2.2.1 p.2.2.2.2.1 p.2.2.2.2.2.1,o1 p.1 p.2.1 p.2.2.1⟩)]
def ls(lf:Nat):List (Nat×FuncId×Sums):=[(13,240,sumsL (yZ lf))]
def it1{ρ:Type}(lf n:Nat)(st:St)(k:KE ρ):Option ρ:=itG anns (ls lf) (tb lf) lf 13 240 1 1 (sumsL (yZ lf)) n st k
theorem t1{ρ:Type}(lf n:Nat)(v0 v1:List Int)(v2 v3 v4:Int)(v5:List Int)(k:KE ρ):it1 lf (n+1) (S1 (v0,v1,v2,v3,v4,v5,())) k=r1 lf v0 v1 v2 v3 v4 v5 (fun x0 x1 x2=>it1 lf n (S1 (v0,v1,v2,x0,x1,x2,())) k) (fun w0 w1=>k (.exit 2) (xh0.b (v0,v1,v2,w0,w1,()))):=by kernel_rfl
theorem u1{ρ:Type}(lf:Nat)(v0 v1:List Int)(v2:Int)(k:KE ρ):∀ (n:Nat) (v3 v4:Int) (v5:List Int),it1 lf n (S1 (v0,v1,v2,v3,v4,v5,())) k=bd (l1 lf v0 v1 v2 n v3 v4 v5) fun y=>altK k (o1 v0 v1 v2 y)
 | 0,_,_,_=>by rw[l1,bd_none];rfl
 | n+1,v3,v4,v5=>by
  rw[t1];simp only[l1,r1,u1 lf v0 v1 v2 k n,bd_br,bd_bd,bd_some',bd_none,br_t,br_f,o1,altK]
def it0{ρ:Type}(lf n:Nat)(st:St)(k:KE ρ):Option ρ:=itG anns (ls lf) (tb lf) lf 13 240 0 1 (sumsL (yZ lf)) n st k
theorem t0{ρ:Type}(lf n:Nat)(v0 v1:List Int)(v2:Int)(v3:List Int)(k:KE ρ):it0 lf (n+1) (S0 (v0,v1,v2,v3,())) k=r0 lf v0 v1 v2 v3 (fun x0 x1=>it0 lf n (S0 (v0,v1,x0,x1,())) k) (fun w0=>k (.exit 0) (xh1.b (w0,()))):=by kernel_rfl
theorem u0{ρ:Type}(lf:Nat)(v0 v1:List Int)(k:KE ρ):∀ (n:Nat) (v2:Int) (v3:List Int),it0 lf n (S0 (v0,v1,v2,v3,())) k=bd (l0 lf v0 v1 n v2 v3) fun y=>altK k (o0 v0 v1 y)
 | 0,_,_=>by rw[l0,bd_none];rfl
 | n+1,v2,v3=>by
  rw[t0];simp only[l0,r0,u0 lf v0 v1 k n,bd_br,bd_bd,bd_some',bd_none,br_t,br_f,o0,altK]
theorem sl(lf:Nat):SL anns (ls lf) (tb lf) lf (ls lf):=slC (laC (fun _=>by kernel_rfl) (fun _ (x:(List Int)×(List Int)×Int×(List Int)×Unit) k=>dK (u0 lf x.1 x.2.1 k (lf+40) x.2.2.1 x.2.2.2.1)) (laC (fun _=>by kernel_rfl) (fun _ (x:(List Int)×(List Int)×Int×Int×Int×(List Int)×Unit) k=>dK (u1 lf x.1 x.2.1 x.2.2.1 k (lf+40) x.2.2.2.1 x.2.2.2.2.1 x.2.2.2.2.2.1)) laN)) slN
def f(lf:Nat)(a0:List Int)(a1:List Int):Option ((List Int)×Unit) :=
 bd (mkL (i64.wrap (((a0.length:Nat):Int)+((a1.length:Nat):Int))) (i64.wrap (((a0.length:Nat):Int)+((a1.length:Nat):Int))) 8 0) fun q1 =>
 bd (l0 lf a0 a1 (lf+40) 0 q1) fun z15 =>
 bd (aH.f lf z15.1.1) fun r16 =>
 some (r16.1,())
def E(lf:Nat):Entry:=⟨[(.sl (.int .i64)),(.sl (.int .i64))],[(.sl (.int .i64))],fun x=>f lf x.1 x.2.1⟩
theorem ok(lf:Nat):Ok 240 (E lf):=okL (tC (aH.ok lf) tN) (aoC aoN) (sl lf) fun x=>by kernel_rfl
end bW
namespace iY
def f(lf:Nat)(a0:ByteArray)(a1:ByteArray):Option (ByteArray×Unit) :=
 bd (aF.f lf a0) fun r1 =>
 bd (aF.f lf a1) fun r2 =>
 br (decide ((i64.wrap (r1.1+r2.1))≤18)) (
 bd (bn.f lf a0) fun r3 =>
 bd (bn.f lf a1) fun r4 =>
 bd (bU.f lf (i64.wrap (r3.1*r4.1))) fun r5 =>
 some (r5.1,())) (
 bd (aQ.f lf a0) fun r6 =>
 bd (aQ.f lf a1) fun r7 =>
 bd (bW.f lf r6.1 r7.1) fun r8 =>
 bd (aA.f lf a0) fun r9 =>
 bd (aA.f lf a1) fun r10 =>
 bd (aU.f lf r8.1 (r9.1 != r10.1)) fun r11 =>
 some (r11.1,()))
def E(lf:Nat):Entry:=⟨[.str,.str],[.str],fun x=>f lf x.1 x.2.1⟩
theorem ok(lf:Nat):Ok 200 (E lf):=okT (an:=(annsL [])) (lf:=lf) (tC (aF.ok lf) (tC (aA.ok lf) (tC (aQ.ok lf) (tC (bU.ok lf) (tC (bn.ok lf) (tC (aU.ok lf) (tC (bW.ok lf) tN))))))) aoN fun x=>by kernel_rfl
end iY
namespace jF
def f(lf:Nat)(a0:Int)(a1:Int):Option (Int×Unit) :=
 bd (iQuo .i64 a0 a1) fun r1 =>
 bd (iRem a0 a1) fun r2 =>
 br (r2 != 0) (
 br ((decide (a0 < 0)) !=(decide (a1 < 0))) (
 some ((i64.wrap (r1-1)),())) (
 some (r1,()))) (
 some (r1,()))
def E(lf:Nat):Entry:=⟨[(.int .i64),(.int .i64)],[(.int .i64)],fun x=>f lf x.1 x.2.1⟩
theorem ok(lf:Nat):Ok 241 (E lf):=okT (an:=(annsL [])) (lf:=lf) tN aoN fun x=>by kernel_rfl
end jF
namespace bf
def anns:FuncId→FA:=annsL [(242,⟨annOf [(0,⟨kx 56 [0,1,7,8,9],[],[]⟩,⟨kx 56 [4,5,7,8],[],[]⟩),(1,⟨kx 56 [0,1,7,8,9],[],[]⟩,⟨kx 56 [0,1,4,5,7,8,9],[],[]⟩)],none,[]⟩)]
def r1{ρ:Type}(lf:Nat)(v0 v1:List Int)(v3:Int)(v5 v6:List Int)(v2 v4:List Int)(K:(List Int)→(List Int)→Option ρ)(E0:(List Int)→(List Int)→Option ρ):Option ρ :=
 bd (bP.f lf v2 v1) fun r7 =>
 br (decide (r7.1≥0)) (
 bd (bI.f lf v2 v1) fun r8 =>
 bd (idxB v4.length v3) fun j9 =>
 bd (v4[j9]?) fun y10 =>
 bd (idxB v4.length v3) fun j11 =>
 bd (upE v4 j11 fun _=>some (i64.wrap (y10+1))) fun q12 =>
 K r8.1 q12) (
 E0 v2 v4)
def l1(lf:Nat)(v0 v1:List Int)(v3:Int)(v5 v6:List Int):Nat→(List Int)→(List Int)→Option (((List Int)×(List Int)×Unit)×Unit)
 | 0,_,_=>none
 | n+1,v2,v4=>r1 lf v0 v1 v3 v5 v6 v2 v4 (l1 lf v0 v1 v3 v5 v6 n) (fun w0 w1=>some ((w0,w1,()),()))
def sh1:ShS:=⟨[.s (.sl (.int .i64)),.s (.sl (.int .i64)),.a 5,.s (.row 0),.s (.sl (.int .i64)),.s (.int .i64),.a 46],[.row (.int .i64) 3 false,.gone,.row (.int .i64) 3 false,.gone,.row (.int .i64) 3 true]⟩
def S1(p:(List Int)×(List Int)×(List Int)×Int×(List Int)×(List Int)×(List Int)×Unit):St:=sh1.b p
def xh0:ShS:=⟨[.s (.sl (.int .i64)),.s (.sl (.int .i64)),.a 5,.s (.row 0),.s (.sl (.int .i64)),.s (.int .i64),.a 46],[.row (.int .i64) 3 false,.gone,.row (.int .i64) 3 false,.gone,.row (.int .i64) 3 true]⟩
def o1(v0 v1:List Int)(v3:Int)(v5 v6:List Int)(y:((List Int)×(List Int)×Unit)×Unit):Alt:=.one (.exit 2) (xh0.b (v0,v1,y.1.1,v3,y.1.2.1,v5,v6,()))
def r2{ρ:Type}(lf:Nat)(v0 v1 v5:List Int)(v2:List Int)(v3:Int)(v4:List Int)(K:(List Int)→Int→(List Int)→Option ρ)(E0:(List Int)→(List Int)→(List Int)→Option ρ):Option ρ :=
 br (decide (v3≥0)) (
 bd (idxL v0 v3) fun y15 =>
 bd (apL true 8 [y15] v2) fun q16 =>
 bd (aH.f lf q16) fun r17 =>
 bd (l1 lf v0 v1 v3 v5 q16 (lf+40) r17.1 v4) fun z18 =>
 K z18.1.1 (i64.wrap (v3-1)) z18.1.2.1) (
 E0 v2 v4 v5)
def l2(lf:Nat)(v0 v1 v5:List Int):Nat→(List Int)→Int→(List Int)→Option (((List Int)×(List Int)×(List Int)×Unit)×Unit)
 | 0,_,_,_=>none
 | n+1,v2,v3,v4=>r2 lf v0 v1 v5 v2 v3 v4 (l2 lf v0 v1 v5 n) (fun w0 w1 w2=>some ((w0,w1,w2,()),()))
def sh2:ShS:=⟨[.s (.sl (.int .i64)),.s (.sl (.int .i64)),.a 5,.s (.row 0),.s (.sl (.int .i64)),.s (.int .i64),.a 46],[.row (.int .i64) 3 false,.gone,.row (.int .i64) 3 false]⟩
def S2(p:(List Int)×(List Int)×(List Int)×Int×(List Int)×(List Int)×Unit):St:=sh2.b p
def xh1:ShS:=⟨[.a 7,.s (.row 0),.s (.sl (.int .i64)),.a 47],[.row (.int .i64) 3 false,.gone,.row (.int .i64) 3 false]⟩
def o2(v0 v1 v5:List Int)(y:((List Int)×(List Int)×(List Int)×Unit)×Unit):Alt:=.one (.exit 0) (xh1.b (y.1.1,y.1.2.1,y.1.2.2.1,()))
def r0{ρ:Type}(lf:Nat)(v0 v1:List Int)(v2:Int)(v3 v4:List Int)(K2:(List Int)→(List Int)→(List Int)→Int→(List Int)→(List Int)→Option ρ)(E0:(List Int)→(List Int)→Option ρ):Option ρ :=
 br (decide (v2≥0)) (
 bd (idxL v0 v2) fun y4 =>
 bd (apL true 8 [y4] v4) fun q5 =>
 bd (aH.f lf q5) fun r6 =>
 bd (l1 lf v0 v1 v2 v4 q5 (lf+40) r6.1 v3) fun z14 =>
 K2 v0 v1 z14.1.1 (i64.wrap (v2-1)) z14.1.2.1 v4) (
 E0 v3 v4)
def l0(lf:Nat)(v0 v1:List Int)(v2:Int)(v3 v4:List Int):Nat→Option (Bool×((List Int)×(List Int)×Unit)×((List Int)×(List Int)×(List Int)×Unit)×Unit)
 | 0=>none
 | n+1=>r0 lf v0 v1 v2 v3 v4 (fun x0 x1 x2 x3 x4 x5=>bd (l2 lf x0 x1 x5 n x2 x3 x4) fun z19=>some (false,([],[],()),((z19.1.1,z19.1.2.1,z19.1.2.2.1,()),()))) (fun w0 w1=>some (true,(w0,w1,()),(([],[],[],()),())))
def sh0:ShS:=⟨[.s (.sl (.int .i64)),.s (.sl (.int .i64)),.a 5,.s (.row 0),.s (.row 2),.s (.int .i64),.a 46],[.row (.int .i64) 3 false,.gone,.row (.int .i64) 3 false]⟩
def S0(p:(List Int)×(List Int)×Int×(List Int)×(List Int)×Unit):St:=sh0.b p
def xh2:ShS:=⟨[.a 7,.s (.row 0),.s (.row 2),.a 47],[.row (.int .i64) 3 false,.gone,.row (.int .i64) 3 false]⟩
def o0(v0 v1:List Int)(v2:Int)(v3 v4:List Int)(y:Bool×((List Int)×(List Int)×Unit)×((List Int)×(List Int)×(List Int)×Unit)×Unit):Alt:=.two y.1 (.one (.exit 0) (xh2.b (y.2.1.1,y.2.1.2.1,()))) (.one (.exit 0) (xh1.b (y.2.2.1.1,y.2.2.1.2.1,y.2.2.1.2.2.1,())))
def tb(lf:Nat):List (FuncId×Entry):=[(191,bP.E lf),(192,aH.E lf),(199,bI.E lf)]
def vH(lf:Nat):List (Nat×(St→Option LTE)):=[(0,sumE sh2 fun(p:(List Int)×(List Int)×(List Int)×Int×(List Int)×(List Int)×Unit)=>⟨((List Int)×(List Int)×(List Int)×Unit)×Unit,l2 lf p.1 p.2.1 p.2.2.2.2.2.1 (lf+40) p.2.2.1 p.2.2.2.1 p.2.2.2.2.1,o2 p.1 p.2.1 p.2.2.2.2.2.1⟩),
 (0,sumE sh0 fun(p:(List Int)×(List Int)×Int×(List Int)×(List Int)×Unit)=>⟨Bool×((List Int)×(List Int)×Unit)×((List Int)×(List Int)×(List Int)×Unit)×Unit,l0 lf p.1 p.2.1 p.2.2.1 p.2.2.2.1 p.2.2.2.2.1 (lf+40),o0 p.1 p.2.1 p.2.2.1 p.2.2.2.1 p.2.2.2.2.1⟩),
 (1,sumE sh1 fun(p:(List Int)×(List Int)×(List Int)×Int×(List Int)×(List Int)×(List Int)×Unit)=>⟨((List Int)×(List Int)×Unit)×Unit,l1 lf p.1 p.2.1 p.2.2.2.1 p.2.2.2.2.2.1 p.2.2.2.2.2.2.1 (lf+40) p.2.2.1 p.2.2.2.2.1,o1 p.1 p.2.1 p.2.2.2.1 p.2.2.2.2.2.1 p.2.2.2.2.2.2.1⟩)]
def ls(lf:Nat):List (Nat×FuncId×Sums):=[(13,242,sumsL (vH lf))]
def it1{ρ:Type}(lf n:Nat)(st:St)(k:KE ρ):Option ρ:=itG anns (ls lf) (tb lf) lf 13 242 1 5 (sumsL (vH lf)) n st k
theorem t1{ρ:Type}(lf n:Nat)(v0 v1 v2:List Int)(v3:Int)(v4 v5 v6:List Int)(k:KE ρ):it1 lf (n+1) (S1 (v0,v1,v2,v3,v4,v5,v6,())) k=r1 lf v0 v1 v3 v5 v6 v2 v4 (fun x0 x1=>it1 lf n (S1 (v0,v1,x0,v3,x1,v5,v6,())) k) (fun w0 w1=>k (.exit 2) (xh0.b (v0,v1,w0,v3,w1,v5,v6,()))):=by kernel_rfl
theorem u1{ρ:Type}(lf:Nat)(v0 v1:List Int)(v3:Int)(v5 v6:List Int)(k:KE ρ):∀ (n:Nat) (v2 v4:List Int),it1 lf n (S1 (v0,v1,v2,v3,v4,v5,v6,())) k=bd (l1 lf v0 v1 v3 v5 v6 n v2 v4) fun y=>altK k (o1 v0 v1 v3 v5 v6 y)
 | 0,_,_=>by rw[l1,bd_none];rfl
 | n+1,v2,v4=>by
  rw[t1];simp only[l1,r1,u1 lf v0 v1 v3 v5 v6 k n,bd_br,bd_bd,bd_some',bd_none,br_t,br_f,o1,altK]
def it2{ρ:Type}(lf n:Nat)(st:St)(k:KE ρ):Option ρ:=itG anns (ls lf) (tb lf) lf 13 242 0 3 (sumsL (vH lf)) n st k
theorem t2{ρ:Type}(lf n:Nat)(v0 v1 v2:List Int)(v3:Int)(v4 v5:List Int)(k:KE ρ):it2 lf (n+1) (S2 (v0,v1,v2,v3,v4,v5,())) k=r2 lf v0 v1 v5 v2 v3 v4 (fun x0 x1 x2=>it2 lf n (S2 (v0,v1,x0,x1,x2,v5,())) k) (fun w0 w1 w2=>k (.exit 0) (xh1.b (w0,w1,w2,()))):=by kernel_rfl
theorem u2{ρ:Type}(lf:Nat)(v0 v1 v5:List Int)(k:KE ρ):∀ (n:Nat) (v2:List Int) (v3:Int) (v4:List Int),it2 lf n (S2 (v0,v1,v2,v3,v4,v5,())) k=bd (l2 lf v0 v1 v5 n v2 v3 v4) fun y=>altK k (o2 v0 v1 v5 y)
 | 0,_,_,_=>by rw[l2,bd_none];rfl
 | n+1,v2,v3,v4=>by
  rw[t2];simp only[l2,r2,u2 lf v0 v1 v5 k n,bd_br,bd_bd,bd_some',bd_none,br_t,br_f,o2,altK]
def it0{ρ:Type}(lf n:Nat)(st:St)(k:KE ρ):Option ρ:=itG anns (ls lf) (tb lf) lf 13 242 0 3 (sumsL (vH lf)) n st k
theorem t0{ρ:Type}(lf n:Nat)(v0 v1:List Int)(v2:Int)(v3 v4:List Int)(k:KE ρ):it0 lf (n+1) (S0 (v0,v1,v2,v3,v4,())) k=r0 lf v0 v1 v2 v3 v4 (fun x0 x1 x2 x3 x4 x5=>it2 lf n (S2 (x0,x1,x2,x3,x4,x5,())) k) (fun w0 w1=>k (.exit 0) (xh2.b (w0,w1,()))):=by kernel_rfl
theorem u0{ρ:Type}(lf:Nat)(v0 v1:List Int)(v2:Int)(v3 v4:List Int)(k:KE ρ):∀ (n:Nat),it0 lf n (S0 (v0,v1,v2,v3,v4,())) k=bd (l0 lf v0 v1 v2 v3 v4 n) fun y=>altK k (o0 v0 v1 v2 v3 v4 y)
 | 0=>by rw[l0,bd_none];rfl
 | n+1=>by
  rw[t0];simp only[l0,r0,u2,bd_br,bd_bd,bd_some',bd_none,br_t,br_f,o0,o2,altK]
theorem sl(lf:Nat):SL anns (ls lf) (tb lf) lf (ls lf):=slC (laC (fun _=>by kernel_rfl) (fun _ (x:(List Int)×(List Int)×(List Int)×Int×(List Int)×(List Int)×Unit) k=>dK (u2 lf x.1 x.2.1 x.2.2.2.2.2.1 k (lf+40) x.2.2.1 x.2.2.2.1 x.2.2.2.2.1)) (laC (fun _=>by kernel_rfl) (fun _ (x:(List Int)×(List Int)×Int×(List Int)×(List Int)×Unit) k=>dK (u0 lf x.1 x.2.1 x.2.2.1 x.2.2.2.1 x.2.2.2.2.1 k (lf+40))) (laC (fun _=>by kernel_rfl) (fun _ (x:(List Int)×(List Int)×(List Int)×Int×(List Int)×(List Int)×(List Int)×Unit) k=>dK (u1 lf x.1 x.2.1 x.2.2.2.1 x.2.2.2.2.2.1 x.2.2.2.2.2.2.1 k (lf+40) x.2.2.1 x.2.2.2.2.1)) laN))) slN
def f(lf:Nat)(a0:List Int)(a1:List Int):Option ((List Int)×(List Int)×Unit) :=
 bd (mkL (if(i64.wrap ((i64.wrap (((a0.length:Nat):Int)-((a1.length:Nat):Int)))+1)) > 0 then(i64.wrap ((i64.wrap (((a0.length:Nat):Int)-((a1.length:Nat):Int)))+1))else 0) (if(i64.wrap ((i64.wrap (((a0.length:Nat):Int)-((a1.length:Nat):Int)))+1)) > 0 then(i64.wrap ((i64.wrap (((a0.length:Nat):Int)-((a1.length:Nat):Int)))+1))else 0) 8 0) fun q1 =>
 bd (cutL a0 (some (if(i64.wrap ((i64.wrap (((a0.length:Nat):Int)-((a1.length:Nat):Int)))+1)) > 0 then(i64.wrap ((i64.wrap (((a0.length:Nat):Int)-((a1.length:Nat):Int)))+1))else 0)) none) fun q2 =>
 bd (apL true 8 [] q2) fun q3 =>
 bd (l0 lf a0 a1 (i64.wrap ((if(i64.wrap ((i64.wrap (((a0.length:Nat):Int)-((a1.length:Nat):Int)))+1)) > 0 then(i64.wrap ((i64.wrap (((a0.length:Nat):Int)-((a1.length:Nat):Int)))+1))else 0)-1)) q1 q3 (lf+40)) fun z20 =>
 br z20.1 (
 bd (aH.f lf z20.2.1.1) fun r21 =>
 some (r21.1,z20.2.1.2.1,())) (
 bd (aH.f lf z20.2.2.1.2.1) fun r22 =>
 some (r22.1,z20.2.2.1.1,()))
def E(lf:Nat):Entry:=⟨[(.sl (.int .i64)),(.sl (.int .i64))],[(.sl (.int .i64)),(.sl (.int .i64))],fun x=>f lf x.1 x.2.1⟩
theorem ok(lf:Nat):Ok 242 (E lf):=okL (tC (bP.ok lf) (tC (aH.ok lf) (tC (bI.ok lf) tN))) (aoC aoN) (sl lf) fun x=>by kernel_rfl
end bf
end
end Go.Q
namespace Go.Q
open Go Go.RowKit
open Go.Rx (br bd sIdx sCat sCut iQuo iRem iShl)
noncomputable section
namespace jD
def f(lf:Nat)(a0:ByteArray)(a1:ByteArray):Option (ByteArray×Unit) :=
 bd (dY.f lf a0 17) fun r1 =>
 br r1.1 (
 bd (dY.f lf a1 17) fun r2 =>
 br r2.1 (
 bd (bn.f lf a0) fun r3 =>
 bd (bn.f lf a1) fun r4 =>
 bd (jF.f lf r3.1 r4.1) fun r5 =>
 bd (bU.f lf r5.1) fun r6 =>
 some (r6.1,())) (
 bd (aQ.f lf a0) fun r7 =>
 bd (aH.f lf r7.1) fun r8 =>
 bd (aQ.f lf a1) fun r9 =>
 bd (aH.f lf r9.1) fun r10 =>
 bd (bf.f lf r8.1 r10.1) fun r11 =>
 bd (aA.f lf a0) fun r12 =>
 bd (aA.f lf a1) fun r13 =>
 bd (aU.f lf r11.1 (r12.1 != r13.1)) fun r14 =>
 bd (aA.f lf a0) fun r15 =>
 bd (aA.f lf a1) fun r16 =>
 br (r15.1 != r16.1) (
 br (decide (((r11.2.1.length:Nat):Int) > 0)) (
 bd (cZ.f lf r14.1 (⟨#[49]⟩:ByteArray)) fun r17 =>
 some (r17.1,())) (
 some (r14.1,()))) (
 some (r14.1,())))) (
 bd (aQ.f lf a0) fun r18 =>
 bd (aH.f lf r18.1) fun r19 =>
 bd (aQ.f lf a1) fun r20 =>
 bd (aH.f lf r20.1) fun r21 =>
 bd (bf.f lf r19.1 r21.1) fun r22 =>
 bd (aA.f lf a0) fun r23 =>
 bd (aA.f lf a1) fun r24 =>
 bd (aU.f lf r22.1 (r23.1 != r24.1)) fun r25 =>
 bd (aA.f lf a0) fun r26 =>
 bd (aA.f lf a1) fun r27 =>
 br (r26.1 != r27.1) (
 br (decide (((r22.2.1.length:Nat):Int) > 0)) (
 bd (cZ.f lf r25.1 (⟨#[49]⟩:ByteArray)) fun r28 =>
 some (r28.1,())) (
 some (r25.1,()))) (
 some (r25.1,())))
def E(lf:Nat):Entry:=⟨[.str,.str],[.str],fun x=>f lf x.1 x.2.1⟩
theorem ok(lf:Nat):Ok 201 (E lf):=okT (an:=(annsL [])) (lf:=lf) (tC (cZ.ok lf) (tC (aA.ok lf) (tC (aH.ok lf) (tC (aQ.ok lf) (tC (dY.ok lf) (tC (bU.ok lf) (tC (bn.ok lf) (tC (aU.ok lf) (tC (jF.ok lf) (tC (bf.ok lf) tN)))))))))) aoN fun x=>by kernel_rfl
end jD
namespace eH
def f(lf:Nat)(a0:ByteArray)(a1:ByteArray):Option (ByteArray×Unit) :=
 bd (jD.f lf a0 a1) fun r1 =>
 bd (iY.f lf a1 r1.1) fun r2 =>
 bd (cZ.f lf a0 r2.1) fun r3 =>
 some (r3.1,())
def E(lf:Nat):Entry:=⟨[.str,.str],[.str],fun x=>f lf x.1 x.2.1⟩
theorem ok(lf:Nat):Ok 144 (E lf):=okT (an:=(annsL [])) (lf:=lf) (tC (cZ.ok lf) (tC (iY.ok lf) (tC (jD.ok lf) tN))) aoN fun x=>by kernel_rfl
end eH
namespace ig
def f(lf:Nat)(a0:ByteArray):Option (ByteArray×Unit) :=
 bd (aA.f lf a0) fun r1 =>
 br r1.1 (
 bd (sCut a0 (some 1) none) fun r2 =>
 some (r2,())) (
 some (a0,()))
def E(lf:Nat):Entry:=⟨[.str],[.str],fun x=>f lf x.1⟩
theorem ok(lf:Nat):Ok 243 (E lf):=okT (an:=(annsL [])) (lf:=lf) (tC (aA.ok lf) tN) aoN fun x=>by kernel_rfl
end ig
end
end Go.Q
namespace Go.Q
open Go Go.RowKit
open Go.Rx (br bd sIdx sCat sCut iQuo iRem iShl)
noncomputable section
namespace stringslite_HasPrefix
def f(lf:Nat)(a0:ByteArray)(a1:ByteArray):Option (Bool×Unit) :=
 br (decide (((a0.size:Nat):Int)≥((a1.size:Nat):Int))) (
 bd (sCut a0 none (some ((a1.size:Nat):Int))) fun r1 =>
 some ((r1.toList==a1.toList),())) (
 some (false,()))
def E(lf:Nat):Entry:=⟨[.str,.str],[.bool],fun x=>f lf x.1 x.2.1⟩
theorem ok(lf:Nat):Ok 250 (E lf):=okT (an:=(annsL [])) (lf:=lf) tN aoN fun x=>by kernel_rfl
end stringslite_HasPrefix
namespace stringslite_CutPrefix
def f(lf:Nat)(a0:ByteArray)(a1:ByteArray):Option (ByteArray×Bool×Unit) :=
 bd (stringslite_HasPrefix.f lf a0 a1) fun r1 =>
 br (!r1.1) (
 some (a0,false,())) (
 bd (sCut a0 (some ((a1.size:Nat):Int)) none) fun r2 =>
 some (r2,true,()))
def E(lf:Nat):Entry:=⟨[.str,.str],[.str,.bool],fun x=>f lf x.1 x.2.1⟩
theorem ok(lf:Nat):Ok 231 (E lf):=okT (an:=(annsL [])) (lf:=lf) (tC (stringslite_HasPrefix.ok lf) tN) aoN fun x=>by kernel_rfl
end stringslite_CutPrefix
namespace stringslite_TrimPrefix
def f(lf:Nat)(a0:ByteArray)(a1:ByteArray):Option (ByteArray×Unit) :=
 bd (stringslite_HasPrefix.f lf a0 a1) fun r1 =>
 br r1.1 (
 bd (sCut a0 (some ((a1.size:Nat):Int)) none) fun r2 =>
 some (r2,())) (
 some (a0,()))
def E(lf:Nat):Entry:=⟨[.str,.str],[.str],fun x=>f lf x.1 x.2.1⟩
theorem ok(lf:Nat):Ok 207 (E lf):=okT (an:=(annsL [])) (lf:=lf) (tC (stringslite_HasPrefix.ok lf) tN) aoN fun x=>by kernel_rfl
end stringslite_TrimPrefix
end
end Go.Q
namespace Go.Q
open Go Go.RowKit
open Go.Rx (br bd sIdx sCat sCut iQuo iRem iShl)
noncomputable section
namespace strings_CutPrefix
def f(lf:Nat)(a0:ByteArray)(a1:ByteArray):Option (ByteArray×Bool×Unit) :=
 bd (stringslite_CutPrefix.f lf a0 a1) fun r1 =>
 some (r1.1,r1.2.1,())
def E(lf:Nat):Entry:=⟨[.str,.str],[.str,.bool],fun x=>f lf x.1 x.2.1⟩
theorem ok(lf:Nat):Ok 187 (E lf):=okT (an:=(annsL [])) (lf:=lf) (tC (stringslite_CutPrefix.ok lf) tN) aoN fun x=>by kernel_rfl
end strings_CutPrefix
namespace strings_TrimPrefix
def f(lf:Nat)(a0:ByteArray)(a1:ByteArray):Option (ByteArray×Unit) :=
 bd (stringslite_TrimPrefix.f lf a0 a1) fun r1 =>
 some (r1.1,())
def E(lf:Nat):Entry:=⟨[.str,.str],[.str],fun x=>f lf x.1 x.2.1⟩
theorem ok(lf:Nat):Ok 153 (E lf):=okT (an:=(annsL [])) (lf:=lf) (tC (stringslite_TrimPrefix.ok lf) tN) aoN fun x=>by kernel_rfl
end strings_TrimPrefix
end
end Go.Q
namespace Go.Q
open Go.IntKind (i64)
open Go Go.RowKit
open Go.Rx (br bd sIdx sCat sCut iQuo iRem iShl)
noncomputable section
namespace kP
def f(lf:Nat)(a0:ByteArray):Option (Bool×Unit) :=
 bd (strings_CutPrefix.f lf a0 (⟨#[45]⟩:ByteArray)) fun r1 =>
 br (r1.1.toList==(⟨#[48]⟩:ByteArray).toList) (
 some ((!r1.2.1),())) (
 br (!(r1.1.toList==(⟨#[]⟩:ByteArray).toList)) (
 bd (sIdx r1.1 0) fun r2 =>
 br (((r2.toNat:Nat):Int) != 48) (
 bd (B.Trim.f lf r1.1 (⟨#[48,49,50,51,52,53,54,55,56,57]⟩:ByteArray)) fun r3 =>
 some ((r3.1.toList==(⟨#[]⟩:ByteArray).toList),())) (
 some (false,()))) (
 some (false,())))
def E(lf:Nat):Entry:=⟨[.str],[.bool],fun x=>f lf x.1⟩
theorem ok(lf:Nat):Ok 131 (E lf):=okT (an:=(annsL [])) (lf:=lf) (tC (strings_CutPrefix.ok lf) (tC (B.Trim.ok lf) tN)) aoN fun x=>by kernel_rfl
end kP
namespace mO
def f(lf:Nat)(a0:ByteArray):Option (Int×Unit) :=
 bd (strings_TrimPrefix.f lf a0 (⟨#[45]⟩:ByteArray)) fun r1 =>
 some (((r1.1.size:Nat):Int),())
def E(lf:Nat):Entry:=⟨[.str],[(.int .i64)],fun x=>f lf x.1⟩
theorem ok(lf:Nat):Ok 132 (E lf):=okT (an:=(annsL [])) (lf:=lf) (tC (strings_TrimPrefix.ok lf) tN) aoN fun x=>by kernel_rfl
end mO
namespace bY
def f(lf:Nat)(a0:ByteArray):Option (Int×Unit) :=
 bd (kP.f lf a0) fun r1 =>
 br (!r1.1) (
 some (3,())) (
 bd (mO.f lf a0) fun r2 =>
 br (decide (r2.1 > 4096)) (
 some (10,())) (
 some (0,())))
def E(lf:Nat):Entry:=⟨[.str],[(.int .i64)],fun x=>f lf x.1⟩
theorem ok(lf:Nat):Ok 64 (E lf):=okT (an:=(annsL [])) (lf:=lf) (tC (kP.ok lf) (tC (mO.ok lf) tN)) aoN fun x=>by kernel_rfl
end bY
namespace bg
def anns:FuncId→FA:=annsL [(209,⟨annOf [(0,⟨kx 21 [0],[],[]⟩,⟨kx 21 [0,2],[],[]⟩)],none,[]⟩)]
def r0{ρ:Type}(lf:Nat)(v0:List Int)(K:(List Int)→Option ρ)(E0:(List Int)→Option ρ):Option ρ :=
 br (decide (((v0.length:Nat):Int) > 0)) (
 bd (idxL v0 (i64.wrap (((v0.length:Nat):Int)-1))) fun y1 =>
 br (y1==0) (
 bd (cutL v0 none (some (i64.wrap (((v0.length:Nat):Int)-1)))) fun q2 =>
 K q2) (
 E0 v0)) (
 E0 v0)
def l0(lf:Nat):Nat→(List Int)→Option (((List Int)×Unit)×Unit)
 | 0,_=>none
 | n+1,v0=>r0 lf v0 (l0 lf n) (fun w0=>some ((w0,()),()))
def sh0:ShS:=⟨[.s (.sl (.int .i64)),.a 20],[]⟩
def S0(p:(List Int)×Unit):St:=sh0.b p
def xh0:ShS:=⟨[.s (.sl (.int .i64)),.a 20],[]⟩
def o0(y:((List Int)×Unit)×Unit):Alt:=.one (.exit 0) (xh0.b (y.1.1,()))
def tb(lf:Nat):List (FuncId×Entry):=[]
def abr(lf:Nat):List (Nat×(St→Option LTE)):=[(0,sumE sh0 fun(p:(List Int)×Unit)=>⟨((List Int)×Unit)×Unit,l0 lf (lf+40) p.1,o0⟩)]
def ls(lf:Nat):List (Nat×FuncId×Sums):=[(13,209,sumsL (abr lf))]
def it0{ρ:Type}(lf n:Nat)(st:St)(k:KE ρ):Option ρ:=itG anns (ls lf) (tb lf) lf 13 209 0 0 (sumsL (abr lf)) n st k
theorem t0{ρ:Type}(lf n:Nat)(v0:List Int)(k:KE ρ):it0 lf (n+1) (S0 (v0,())) k=r0 lf v0 (fun x0=>it0 lf n (S0 (x0,())) k) (fun w0=>k (.exit 0) (xh0.b (w0,()))):=by kernel_rfl
theorem u0{ρ:Type}(lf:Nat)(k:KE ρ):∀ (n:Nat) (v0:List Int),it0 lf n (S0 (v0,())) k=bd (l0 lf n v0) fun y=>altK k (o0 y)
 | 0,_=>by rw[l0,bd_none];rfl
 | n+1,v0=>by
  rw[t0];simp only[l0,r0,u0 lf k n,bd_br,bd_bd,bd_some',bd_none,br_t,br_f,o0,altK]
theorem sl(lf:Nat):SL anns (ls lf) (tb lf) lf (ls lf):=slC (laC (fun _=>by kernel_rfl) (fun _ (x:(List Int)×Unit) k=>dK (u0 lf k (lf+40) x.1)) laN) slN
def f(lf:Nat)(a0:List Int):Option ((List Int)×Unit) :=
 bd (l0 lf (lf+40) a0) fun z3 =>
 some (z3.1.1,())
def E(lf:Nat):Entry:=⟨[(.sl (.int .i64))],[(.sl (.int .i64))],fun x=>f lf x.1⟩
theorem ok(lf:Nat):Ok 209 (E lf):=okL tN (aoC aoN) (sl lf) fun x=>by kernel_rfl
end bg
namespace gY
def anns:FuncId→FA:=annsL [(251,⟨annOf [(0,⟨kx 13 [2],[],[]⟩,⟨[],[],[]⟩)],none,[]⟩),(252,⟨annOf [(0,⟨kx 26 [0,1,3],[⟨.ref 2 0,(.int .i64),3⟩],[]⟩,⟨kx 26 [],[⟨.ref 2 0,(.int .i64),3⟩],[]⟩)],none,[]⟩)]
def r0{ρ:Type}(lf:Nat)(v1:Bool)(v2:ByteArray)(v0:Int)(v3:List Int)(K:Int→(List Int)→Option ρ)(E0:(List Int)→Option ρ):Option ρ :=
 br (decide (v0 > 0)) (
 bd (sCut v2 (some (if(i64.wrap (v0-9)) > 0 then(i64.wrap (v0-9))else 0)) (some v0)) fun r2 =>
 bd (B.Atoi.f lf r2) fun r3 =>
 bd (apL true 8 v3 [r3.1]) fun q4 =>
 K (i64.wrap (v0-9)) q4) (
 E0 v3)
def l0(lf:Nat)(v1:Bool)(v2:ByteArray):Nat→Int→(List Int)→Option (((List Int)×Unit)×Unit)
 | 0,_,_=>none
 | n+1,v0,v3=>r0 lf v1 v2 v0 v3 (l0 lf v1 v2 n) (fun w0=>some ((w0,()),()))
def sh0:ShS:=⟨[.s (.yld 3),.s (.ptr 1 0),.a 1,.s (.int .i64),.a 22],[.cells [.s .bool,.s .nil] 126,.cells [.s .str] 9,.cells [.s (.row 4)] 124,.rnd [.a 2,.s (.ptr 2 0),.a 10] 251 0 .ready none,.row (.int .i64) 3 false]⟩
def S0(p:Int×Bool×ByteArray×(List Int)×Unit):St:=sh0.b p
def xh0:ShS:=⟨[.a 26],[.cells [.s .bool,.s .nil] 126,.cells [.s .str] 9,.cells [.s (.row 4)] 124,.rnd [.a 2,.s (.ptr 2 0),.a 10] 251 0 .ready none,.row (.int .i64) 3 false]⟩
def o0(v1:Bool)(v2:ByteArray)(y:((List Int)×Unit)×Unit):Alt:=.one (.exit 0) (xh0.b (v1,v2,y.1.1,()))
def tb(lf:Nat):List (FuncId×Entry):=[(187,strings_CutPrefix.E lf),(209,bg.E lf),(253,B.Atoi.E lf)]
def abf(lf:Nat):List (Nat×(St→Option LTE)):=[(0,sumE sh0 fun(p:Int×Bool×ByteArray×(List Int)×Unit)=>⟨((List Int)×Unit)×Unit,l0 lf p.2.1 p.2.2.1 (lf+40) p.1 p.2.2.2.1,o0 p.2.1 p.2.2.1⟩)]
def ls(lf:Nat):List (Nat×FuncId×Sums):=[(10,252,sumsL (abf lf))]
def it0{ρ:Type}(lf n:Nat)(st:St)(k:KE ρ):Option ρ:=itG anns (ls lf) (tb lf) lf 10 252 0 4 (sumsL (abf lf)) n st k
theorem t0{ρ:Type}(lf n:Nat)(v0:Int)(v1:Bool)(v2:ByteArray)(v3:List Int)(k:KE ρ):it0 lf (n+1) (S0 (v0,v1,v2,v3,())) k=r0 lf v1 v2 v0 v3 (fun x0 x1=>it0 lf n (S0 (x0,v1,v2,x1,())) k) (fun w0=>k (.exit 0) (xh0.b (v1,v2,w0,()))):=by kernel_rfl
theorem u0{ρ:Type}(lf:Nat)(v1:Bool)(v2:ByteArray)(k:KE ρ):∀ (n:Nat) (v0:Int) (v3:List Int),it0 lf n (S0 (v0,v1,v2,v3,())) k=bd (l0 lf v1 v2 n v0 v3) fun y=>altK k (o0 v1 v2 y)
 | 0,_,_=>by rw[l0,bd_none];rfl
 | n+1,v0,v3=>by
  rw[t0];simp only[l0,r0,u0 lf v1 v2 k n,bd_br,bd_bd,bd_some',bd_none,br_t,br_f,o0,altK]
theorem sl(lf:Nat):SL anns (ls lf) (tb lf) lf (ls lf):=slC (laC (fun _=>by kernel_rfl) (fun _ (x:Int×Bool×ByteArray×(List Int)×Unit) k=>dK (u0 lf x.2.1 x.2.2.1 k (lf+40) x.1 x.2.2.2.1)) laN) slN
def f(lf:Nat)(a0:ByteArray):Option (TB×Unit) :=
 bd (strings_CutPrefix.f lf a0 (⟨#[45]⟩:ByteArray)) fun r1 =>
 bd (l0 lf false r1.1 (lf+40) ((r1.1.size:Nat):Int) []) fun z5 =>
 bd (bg.f lf z5.1.1) fun r6 =>
 some ((r1.2.1,r6.1,()),())
def E(lf:Nat):Entry:=⟨[.str],[yB],fun x=>f lf x.1⟩
theorem ok(lf:Nat):Ok 156 (E lf):=okL (tC (strings_CutPrefix.ok lf) (tC (bg.ok lf) (tC (B.Atoi.ok lf) tN))) (aoC (aoC aoN)) (sl lf) fun x=>by kernel_rfl
end gY
namespace fO
def f(lf:Nat)(a0:ByteArray)(a1:ByteArray):Option (TB×TB×Int×Unit) :=
 bd (bY.f lf a0) fun r1 =>
 br (r1.1 != 0) (
 some ((false,[],()),(false,[],()),r1.1,())) (
 bd (bY.f lf a1) fun r2 =>
 br (r2.1 != 0) (
 some ((false,[],()),(false,[],()),r2.1,())) (
 bd (gY.f lf a0) fun r3 =>
 bd (gY.f lf a1) fun r4 =>
 some (r3.1,r4.1,0,())))
def E(lf:Nat):Entry:=⟨[.str,.str],[yB,yB,(.int .i64)],fun x=>f lf x.1 x.2.1⟩
theorem ok(lf:Nat):Ok 93 (E lf):=okT (an:=(annsL [])) (lf:=lf) (tC (bY.ok lf) (tC (gY.ok lf) tN)) aoN fun x=>by kernel_rfl
end fO
namespace jT
def f(lf:Nat)(a0:TB):Option (Int×Unit) :=
 br (((a0.2.1.length:Nat):Int)==0) (
 some (0,())) (
 bd (idxL a0.2.1 (i64.wrap (((a0.2.1.length:Nat):Int)-1))) fun y1 =>
 bd (B.Itoa.f lf y1) fun r2 =>
 some ((i64.wrap ((i64.wrap ((i64.wrap (((a0.2.1.length:Nat):Int)-1))*9))+((r2.1.size:Nat):Int))),()))
def E(lf:Nat):Entry:=⟨[yB],[(.int .i64)],fun x=>f lf x.1⟩
theorem ok(lf:Nat):Ok 157 (E lf):=okT (an:=(annsL [])) (lf:=lf) (tC (B.Itoa.ok lf) tN) aoN fun x=>by kernel_rfl
end jT
end
end Go.Q
namespace Go.Q
open Go.IntKind (i64)
open Go Go.RowKit
open Go.Rx (br bd sIdx sCat sCut iQuo iRem iShl)
noncomputable section
namespace aZ
def anns:FuncId→FA:=annsL [(158,⟨annOf [(0,⟨kx 35 [1,3],[],[]⟩,⟨[],[],[]⟩)],none,[]⟩),(217,⟨annOf [],some (.bString 205 5),[]⟩),(255,⟨annOf [],some (.copyCheck 205),[]⟩),(256,⟨annOf [(0,⟨kx 19 [0,1,3],[⟨.ref 1 1,(.int .u8),5⟩],[]⟩,⟨kx 19 [],[⟨.ref 1 1,(.int .u8),5⟩],[]⟩)],none,[]⟩)]
def r0{ρ:Type}(lf:Nat)(v1:Bool)(v2 v3 v4:List Int)(v0:Int)(v5:List Int)(K:Int→(List Int)→Option ρ)(E0:(List Int)→Option ρ):Option ρ :=
 br (decide (v0≥0)) (
 bd (idxL v4 v0) fun y2 =>
 bd (B.Itoa.f lf y2) fun r3 =>
 br (decide (v0 < (i64.wrap (((v2.length:Nat):Int)-1)))) (
 bd (B.Repeat.f lf (⟨#[48]⟩:ByteArray) (i64.wrap (9-((r3.1.size:Nat):Int)))) fun r4 =>
 bd (apL true 1 v5 (sBytes r4.1)) fun q5 =>
 bd (apL true 1 q5 (sBytes r3.1)) fun q6 =>
 K (i64.wrap (v0-1)) q6) (
 bd (apL true 1 v5 (sBytes r3.1)) fun q7 =>
 K (i64.wrap (v0-1)) q7)) (
 E0 v5)
def l0(lf:Nat)(v1:Bool)(v2 v3 v4:List Int):Nat→Int→(List Int)→Option (((List Int)×Unit)×Unit)
 | 0,_,_=>none
 | n+1,v0,v5=>r0 lf v1 v2 v3 v4 v0 v5 (l0 lf v1 v2 v3 v4 n) (fun w0=>some ((w0,()),()))
def sh0:ShS:=⟨[.s (.yld 5),.s (.ptr 4 0),.a 1,.s (.int .i64),.a 15],[.cells [.s .bool,.s (.sl (.int .i64))] 126,.cells [.s (.ptr 1 0),.s (.row 6)] 205,.row (.int .u8) 5 false,.gone,.cells [.s (.sl (.int .i64))] 124,.rnd [.a 1,.s (.ptr 0 0),.a 1,.s (.ptr 1 0),.a 31] 158 0 .ready none,.row (.int .u8) 5 false]⟩
def S0(p:Int×Bool×(List Int)×(List Int)×(List Int)×(List Int)×Unit):St:=sh0.b p
def xh0:ShS:=⟨[.a 19],[.cells [.s .bool,.s (.sl (.int .i64))] 126,.cells [.s (.ptr 1 0),.s (.row 6)] 205,.row (.int .u8) 5 false,.gone,.cells [.s (.sl (.int .i64))] 124,.rnd [.a 1,.s (.ptr 0 0),.a 1,.s (.ptr 1 0),.a 31] 158 0 .ready none,.row (.int .u8) 5 false]⟩
def o0(v1:Bool)(v2 v3 v4:List Int)(y:((List Int)×Unit)×Unit):Alt:=.one (.exit 0) (xh0.b (v1,v2,v3,v4,y.1.1,()))
def r2{ρ:Type}(lf:Nat)(v1:Bool)(v2 v3:List Int)(v0:Int)(v4:List Int)(K:Int→(List Int)→Option ρ)(E0:Bool→(List Int)→(List Int)→(List Int)→Option ρ):Option ρ :=
 br (decide (v0≥0)) (
 bd (idxL v3 v0) fun y16 =>
 bd (B.Itoa.f lf y16) fun r17 =>
 br (decide (v0 < (i64.wrap (((v2.length:Nat):Int)-1)))) (
 bd (B.Repeat.f lf (⟨#[48]⟩:ByteArray) (i64.wrap (9-((r17.1.size:Nat):Int)))) fun r18 =>
 bd (apL true 1 v4 (sBytes r18.1)) fun q19 =>
 bd (apL true 1 q19 (sBytes r17.1)) fun q20 =>
 K (i64.wrap (v0-1)) q20) (
 bd (apL true 1 v4 (sBytes r17.1)) fun q21 =>
 K (i64.wrap (v0-1)) q21)) (
 E0 v1 v2 v3 v4)
def l2(lf:Nat)(v1:Bool)(v2 v3:List Int):Nat→Int→(List Int)→Option ((Bool×(List Int)×(List Int)×(List Int)×Unit)×Unit)
 | 0,_,_=>none
 | n+1,v0,v4=>r2 lf v1 v2 v3 v0 v4 (l2 lf v1 v2 v3 n) (fun w0 w1 w2 w3=>some ((w0,w1,w2,w3,()),()))
def sh2:ShS:=⟨[.s (.yld 3),.s (.ptr 2 0),.a 1,.s (.int .i64),.a 15],[.cells [.s .bool,.s (.sl (.int .i64))] 126,.cells [.s (.ptr 1 0),.s (.row 4)] 205,.cells [.s (.sl (.int .i64))] 124,.rnd [.a 1,.s (.ptr 0 0),.a 1,.s (.ptr 1 0),.a 31] 158 0 .ready none,.row (.int .u8) 5 false]⟩
def S2(p:Int×Bool×(List Int)×(List Int)×(List Int)×Unit):St:=sh2.b p
def xh1:ShS:=⟨[.a 19],[.cells [.s .bool,.s (.sl (.int .i64))] 126,.cells [.s (.ptr 1 0),.s (.row 4)] 205,.cells [.s (.sl (.int .i64))] 124,.rnd [.a 1,.s (.ptr 0 0),.a 1,.s (.ptr 1 0),.a 31] 158 0 .ready none,.row (.int .u8) 5 false]⟩
def o2(v1:Bool)(v2 v3:List Int)(y:(Bool×(List Int)×(List Int)×(List Int)×Unit)×Unit):Alt:=.one (.exit 0) (xh1.b (y.1.1,y.1.2.1,y.1.2.2.1,y.1.2.2.2.1,()))
def r1{ρ:Type}(lf:Nat)(v0:Int)(v1:Bool)(v2 v3 v4:List Int)(K2:Int→Bool→(List Int)→(List Int)→(List Int)→Option ρ)(E0:Bool→(List Int)→(List Int)→(List Int)→Option ρ):Option ρ :=
 br (decide (v0≥0)) (
 bd (idxL v3 v0) fun y10 =>
 bd (B.Itoa.f lf y10) fun r11 =>
 br (decide (v0 < (i64.wrap (((v2.length:Nat):Int)-1)))) (
 bd (B.Repeat.f lf (⟨#[48]⟩:ByteArray) (i64.wrap (9-((r11.1.size:Nat):Int)))) fun r12 =>
 bd (apL true 1 v4 (sBytes r12.1)) fun q13 =>
 bd (apL true 1 q13 (sBytes r11.1)) fun q14 =>
 K2 (i64.wrap (v0-1)) v1 v2 v3 q14) (
 bd (apL true 1 v4 (sBytes r11.1)) fun q15 =>
 K2 (i64.wrap (v0-1)) v1 v2 v3 q15)) (
 E0 v1 v2 v3 v4)
def l1(lf:Nat)(v0:Int)(v1:Bool)(v2 v3 v4:List Int):Nat→Option (Bool×(Bool×(List Int)×(List Int)×(List Int)×Unit)×(Bool×(List Int)×(List Int)×(List Int)×Unit)×Unit)
 | 0=>none
 | n+1=>r1 lf v0 v1 v2 v3 v4 (fun x0 x1 x2 x3 x4=>bd (l2 lf x1 x2 x3 n x0 x4) fun z22=>some (false,(false,[],[],[],()),((z22.1.1,z22.1.2.1,z22.1.2.2.1,z22.1.2.2.2.1,()),()))) (fun w0 w1 w2 w3=>some (true,(w0,w1,w2,w3,()),((false,[],[],[],()),())))
def sh1:ShS:=⟨[.s (.yld 3),.s (.ptr 2 0),.a 1,.s (.int .i64),.a 15],[.cells [.s .bool,.s (.sl (.int .i64))] 126,.cells [.s .nilp,.s (.row 4)] 205,.cells [.s (.sl (.int .i64))] 124,.rnd [.a 1,.s (.ptr 0 0),.a 1,.s (.ptr 1 0),.a 31] 158 0 .ready none,.row (.int .u8) 5 false]⟩
def S1(p:Int×Bool×(List Int)×(List Int)×(List Int)×Unit):St:=sh1.b p
def xh2:ShS:=⟨[.a 19],[.cells [.s .bool,.s (.sl (.int .i64))] 126,.cells [.s .nilp,.s (.row 4)] 205,.cells [.s (.sl (.int .i64))] 124,.rnd [.a 1,.s (.ptr 0 0),.a 1,.s (.ptr 1 0),.a 31] 158 0 .ready none,.row (.int .u8) 5 false]⟩
def o1(v0:Int)(v1:Bool)(v2 v3 v4:List Int)(y:Bool×(Bool×(List Int)×(List Int)×(List Int)×Unit)×(Bool×(List Int)×(List Int)×(List Int)×Unit)×Unit):Alt:=.two y.1 (.one (.exit 0) (xh2.b (y.2.1.1,y.2.1.2.1,y.2.1.2.2.1,y.2.1.2.2.2.1,()))) (.one (.exit 0) (xh1.b (y.2.2.1.1,y.2.2.1.2.1,y.2.2.1.2.2.1,y.2.2.1.2.2.2.1,())))
def tb(lf:Nat):List (FuncId×Entry):=[(212,B.Itoa.E lf),(216,B.Repeat.E lf)]
def oh(lf:Nat):List (Nat×(St→Option LTE)):=[(0,sumE sh0 fun(p:Int×Bool×(List Int)×(List Int)×(List Int)×(List Int)×Unit)=>⟨((List Int)×Unit)×Unit,l0 lf p.2.1 p.2.2.1 p.2.2.2.1 p.2.2.2.2.1 (lf+40) p.1 p.2.2.2.2.2.1,o0 p.2.1 p.2.2.1 p.2.2.2.1 p.2.2.2.2.1⟩),
 (0,sumE sh2 fun(p:Int×Bool×(List Int)×(List Int)×(List Int)×Unit)=>⟨(Bool×(List Int)×(List Int)×(List Int)×Unit)×Unit,l2 lf p.2.1 p.2.2.1 p.2.2.2.1 (lf+40) p.1 p.2.2.2.2.1,o2 p.2.1 p.2.2.1 p.2.2.2.1⟩),
 (0,sumE sh1 fun(p:Int×Bool×(List Int)×(List Int)×(List Int)×Unit)=>⟨Bool×(Bool×(List Int)×(List Int)×(List Int)×Unit)×(Bool×(List Int)×(List Int)×(List Int)×Unit)×Unit,l1 lf p.1 p.2.1 p.2.2.1 p.2.2.2.1 p.2.2.2.2.1 (lf+40),o1 p.1 p.2.1 p.2.2.1 p.2.2.2.1 p.2.2.2.2.1⟩)]
def ls(lf:Nat):List (Nat×FuncId×Sums):=[(12,256,sumsL (oh lf))]
def it0{ρ:Type}(lf n:Nat)(st:St)(k:KE ρ):Option ρ:=itG anns (ls lf) (tb lf) lf 12 256 0 6 (sumsL (oh lf)) n st k
theorem t0{ρ:Type}(lf n:Nat)(v0:Int)(v1:Bool)(v2 v3 v4 v5:List Int)(k:KE ρ):it0 lf (n+1) (S0 (v0,v1,v2,v3,v4,v5,())) k=r0 lf v1 v2 v3 v4 v0 v5 (fun x0 x1=>it0 lf n (S0 (x0,v1,v2,v3,v4,x1,())) k) (fun w0=>k (.exit 0) (xh0.b (v1,v2,v3,v4,w0,()))):=by kernel_rfl
theorem u0{ρ:Type}(lf:Nat)(v1:Bool)(v2 v3 v4:List Int)(k:KE ρ):∀ (n:Nat) (v0:Int) (v5:List Int),it0 lf n (S0 (v0,v1,v2,v3,v4,v5,())) k=bd (l0 lf v1 v2 v3 v4 n v0 v5) fun y=>altK k (o0 v1 v2 v3 v4 y)
 | 0,_,_=>by rw[l0,bd_none];rfl
 | n+1,v0,v5=>by
  rw[t0];simp only[l0,r0,u0 lf v1 v2 v3 v4 k n,bd_br,bd_bd,bd_some',bd_none,br_t,br_f,o0,altK]
def it2{ρ:Type}(lf n:Nat)(st:St)(k:KE ρ):Option ρ:=itG anns (ls lf) (tb lf) lf 12 256 0 4 (sumsL (oh lf)) n st k
theorem t2{ρ:Type}(lf n:Nat)(v0:Int)(v1:Bool)(v2 v3 v4:List Int)(k:KE ρ):it2 lf (n+1) (S2 (v0,v1,v2,v3,v4,())) k=r2 lf v1 v2 v3 v0 v4 (fun x0 x1=>it2 lf n (S2 (x0,v1,v2,v3,x1,())) k) (fun w0 w1 w2 w3=>k (.exit 0) (xh1.b (w0,w1,w2,w3,()))):=by kernel_rfl
theorem u2{ρ:Type}(lf:Nat)(v1:Bool)(v2 v3:List Int)(k:KE ρ):∀ (n:Nat) (v0:Int) (v4:List Int),it2 lf n (S2 (v0,v1,v2,v3,v4,())) k=bd (l2 lf v1 v2 v3 n v0 v4) fun y=>altK k (o2 v1 v2 v3 y)
 | 0,_,_=>by rw[l2,bd_none];rfl
 | n+1,v0,v4=>by
  rw[t2];simp only[l2,r2,u2 lf v1 v2 v3 k n,bd_br,bd_bd,bd_some',bd_none,br_t,br_f,o2,altK]
def it1{ρ:Type}(lf n:Nat)(st:St)(k:KE ρ):Option ρ:=itG anns (ls lf) (tb lf) lf 12 256 0 4 (sumsL (oh lf)) n st k
theorem t1{ρ:Type}(lf n:Nat)(v0:Int)(v1:Bool)(v2 v3 v4:List Int)(k:KE ρ):it1 lf (n+1) (S1 (v0,v1,v2,v3,v4,())) k=r1 lf v0 v1 v2 v3 v4 (fun x0 x1 x2 x3 x4=>it2 lf n (S2 (x0,x1,x2,x3,x4,())) k) (fun w0 w1 w2 w3=>k (.exit 0) (xh2.b (w0,w1,w2,w3,()))):=by kernel_rfl
theorem u1{ρ:Type}(lf:Nat)(v0:Int)(v1:Bool)(v2 v3 v4:List Int)(k:KE ρ):∀ (n:Nat),it1 lf n (S1 (v0,v1,v2,v3,v4,())) k=bd (l1 lf v0 v1 v2 v3 v4 n) fun y=>altK k (o1 v0 v1 v2 v3 v4 y)
 | 0=>by rw[l1,bd_none];rfl
 | n+1=>by
  rw[t1];simp only[l1,r1,u2,bd_br,bd_bd,bd_some',bd_none,br_t,br_f,o1,o2,altK]
theorem sl(lf:Nat):SL anns (ls lf) (tb lf) lf (ls lf):=slC (laC (fun _=>by kernel_rfl) (fun _ (x:Int×Bool×(List Int)×(List Int)×(List Int)×(List Int)×Unit) k=>dK (u0 lf x.2.1 x.2.2.1 x.2.2.2.1 x.2.2.2.2.1 k (lf+40) x.1 x.2.2.2.2.2.1)) (laC (fun _=>by kernel_rfl) (fun _ (x:Int×Bool×(List Int)×(List Int)×(List Int)×Unit) k=>dK (u2 lf x.2.1 x.2.2.1 x.2.2.2.1 k (lf+40) x.1 x.2.2.2.2.1)) (laC (fun _=>by kernel_rfl) (fun _ (x:Int×Bool×(List Int)×(List Int)×(List Int)×Unit) k=>dK (u1 lf x.1 x.2.1 x.2.2.1 x.2.2.2.1 x.2.2.2.2.1 k (lf+40))) laN))) slN
def f(lf:Nat)(a0:TB):Option (ByteArray×Unit) :=
 br (((a0.2.1.length:Nat):Int)==0) (
 some ((⟨#[48]⟩:ByteArray),())) (
 br a0.1 (
 bd (apL true 1 [] [45]) fun q1 =>
 bd (l0 lf a0.1 a0.2.1 [45] a0.2.1 (lf+40) (i64.wrap (((a0.2.1.length:Nat):Int)-1)) q1) fun z8 =>
 bd (if 0 < z8.1.1.length then some (bytesS z8.1.1)else none) fun s9 =>
 some (s9,())) (
 bd (l1 lf (i64.wrap (((a0.2.1.length:Nat):Int)-1)) a0.1 a0.2.1 a0.2.1 [] (lf+40)) fun z23 =>
 br z23.1 (
 bd (if 0 < z23.2.1.2.2.2.1.length then some (bytesS z23.2.1.2.2.2.1)else none) fun s24 =>
 some (s24,())) (
 bd (if 0 < z23.2.2.1.2.2.2.1.length then some (bytesS z23.2.2.1.2.2.2.1)else none) fun s25 =>
 some (s25,()))))
def E(lf:Nat):Entry:=⟨[yB],[.str],fun x=>f lf x.1⟩
theorem ok(lf:Nat):Ok 158 (E lf):=okL (tC (B.Itoa.ok lf) (tC (B.Repeat.ok lf) tN)) (aoC (aoP aai (aoP yu (aoC aoN)))) (sl lf) fun x=>by kernel_rfl
end aZ
namespace iD
def f(lf:Nat)(a0:TB):Option (ByteArray×Int×Unit) :=
 bd (jT.f lf a0) fun r1 =>
 br (decide (r1.1 > 4096)) (
 some ((⟨#[]⟩:ByteArray),10,())) (
 bd (aZ.f lf a0) fun r2 =>
 some (r2.1,0,()))
def E(lf:Nat):Entry:=⟨[yB],[.str,(.int .i64)],fun x=>f lf x.1⟩
theorem ok(lf:Nat):Ok 94 (E lf):=okT (an:=(annsL [])) (lf:=lf) (tC (jT.ok lf) (tC (aZ.ok lf) tN)) aoN fun x=>by kernel_rfl
end iD
namespace gu
def anns:FuncId→FA:=annsL [(218,⟨annOf [(0,⟨kx 54 [0,1,5,6,20,21],[],[]⟩,⟨kx 54 [4,5],[],[]⟩)],none,[]⟩)]
def r0{ρ:Type}(lf:Nat)(v0 v1:List Int)(v3:Int)(v2 v4:Int)(v5:List Int)(K:Int→Int→(List Int)→Option ρ)(E0:(List Int)→Option ρ):Option ρ :=
 br (decide (v4 < v3)) (
 br (decide (v4 < ((v0.length:Nat):Int))) (
 bd (idxL v0 v4) fun y2 =>
 br (decide (v4 < ((v1.length:Nat):Int))) (
 bd (idxL v1 v4) fun y3 =>
 bd (iRem (i64.wrap ((i64.wrap (v2+y2))+y3)) 1000000000) fun r4 =>
 bd (iQuo .i64 (i64.wrap ((i64.wrap (v2+y2))+y3)) 1000000000) fun r5 =>
 bd (idxB v5.length v4) fun j6 =>
 bd (upE v5 j6 fun _=>some r4) fun q7 =>
 K r5 (i64.wrap (v4+1)) q7) (
 bd (iRem (i64.wrap (v2+y2)) 1000000000) fun r9 =>
 bd (iQuo .i64 (i64.wrap (v2+y2)) 1000000000) fun r10 =>
 bd (idxB v5.length v4) fun j11 =>
 bd (upE v5 j11 fun _=>some r9) fun q12 =>
 K r10 (i64.wrap (v4+1)) q12)) (
 br (decide (v4 < ((v1.length:Nat):Int))) (
 bd (idxL v1 v4) fun y14 =>
 bd (iRem (i64.wrap (v2+y14)) 1000000000) fun r15 =>
 bd (iQuo .i64 (i64.wrap (v2+y14)) 1000000000) fun r16 =>
 bd (idxB v5.length v4) fun j17 =>
 bd (upE v5 j17 fun _=>some r15) fun q18 =>
 K r16 (i64.wrap (v4+1)) q18) (
 bd (iRem v2 1000000000) fun r20 =>
 bd (iQuo .i64 v2 1000000000) fun r21 =>
 bd (idxB v5.length v4) fun j22 =>
 bd (upE v5 j22 fun _=>some r20) fun q23 =>
 K r21 (i64.wrap (v4+1)) q23))) (
 E0 v5)
def l0(lf:Nat)(v0 v1:List Int)(v3:Int):Nat→Int→Int→(List Int)→Option (((List Int)×Unit)×Unit)
 | 0,_,_,_=>none
 | n+1,v2,v4,v5=>r0 lf v0 v1 v3 v2 v4 v5 (l0 lf v0 v1 v3 n) (fun w0=>some ((w0,()),()))
def sh0:ShS:=⟨[.s (.sl (.int .i64)),.s (.sl (.int .i64)),.a 3,.s (.row 0),.s (.int .i64),.a 13,.s (.int .i64),.s (.int .i64),.a 32],[.row (.int .i64) 3 false]⟩
def S0(p:(List Int)×(List Int)×Int×Int×Int×(List Int)×Unit):St:=sh0.b p
def xh0:ShS:=⟨[.a 5,.s (.row 0),.a 48],[.row (.int .i64) 3 false]⟩
def o0(v0 v1:List Int)(v3:Int)(y:((List Int)×Unit)×Unit):Alt:=.one (.exit 0) (xh0.b (y.1.1,()))
def tb(lf:Nat):List (FuncId×Entry):=[(209,bg.E lf)]
def abt(lf:Nat):List (Nat×(St→Option LTE)):=[(0,sumE sh0 fun(p:(List Int)×(List Int)×Int×Int×Int×(List Int)×Unit)=>⟨((List Int)×Unit)×Unit,l0 lf p.1 p.2.1 p.2.2.2.1 (lf+40) p.2.2.1 p.2.2.2.2.1 p.2.2.2.2.2.1,o0 p.1 p.2.1 p.2.2.2.1⟩)]
def ls(lf:Nat):List (Nat×FuncId×Sums):=[(13,218,sumsL (abt lf))]
def it0{ρ:Type}(lf n:Nat)(st:St)(k:KE ρ):Option ρ:=itG anns (ls lf) (tb lf) lf 13 218 0 1 (sumsL (abt lf)) n st k
theorem t0{ρ:Type}(lf n:Nat)(v0 v1:List Int)(v2 v3 v4:Int)(v5:List Int)(k:KE ρ):it0 lf (n+1) (S0 (v0,v1,v2,v3,v4,v5,())) k=r0 lf v0 v1 v3 v2 v4 v5 (fun x0 x1 x2=>it0 lf n (S0 (v0,v1,x0,v3,x1,x2,())) k) (fun w0=>k (.exit 0) (xh0.b (w0,()))):=by kernel_rfl
theorem u0{ρ:Type}(lf:Nat)(v0 v1:List Int)(v3:Int)(k:KE ρ):∀ (n:Nat) (v2 v4:Int) (v5:List Int),it0 lf n (S0 (v0,v1,v2,v3,v4,v5,())) k=bd (l0 lf v0 v1 v3 n v2 v4 v5) fun y=>altK k (o0 v0 v1 v3 y)
 | 0,_,_,_=>by rw[l0,bd_none];rfl
 | n+1,v2,v4,v5=>by
  rw[t0];simp only[l0,r0,u0 lf v0 v1 v3 k n,bd_br,bd_bd,bd_some',bd_none,br_t,br_f,o0,altK]
theorem sl(lf:Nat):SL anns (ls lf) (tb lf) lf (ls lf):=slC (laC (fun _=>by kernel_rfl) (fun _ (x:(List Int)×(List Int)×Int×Int×Int×(List Int)×Unit) k=>dK (u0 lf x.1 x.2.1 x.2.2.2.1 k (lf+40) x.2.2.1 x.2.2.2.2.1 x.2.2.2.2.2.1)) laN) slN
def f(lf:Nat)(a0:List Int)(a1:List Int):Option ((List Int)×Unit) :=
 br (decide (((a0.length:Nat):Int) < ((a1.length:Nat):Int))) (
 bd (mkL (i64.wrap (((a1.length:Nat):Int)+1)) (i64.wrap (((a1.length:Nat):Int)+1)) 8 0) fun q1 =>
 bd (l0 lf a1 a0 ((q1.length:Nat):Int) (lf+40) 0 0 q1) fun z25 =>
 bd (bg.f lf z25.1.1) fun r26 =>
 some (r26.1,())) (
 bd (mkL (i64.wrap (((a0.length:Nat):Int)+1)) (i64.wrap (((a0.length:Nat):Int)+1)) 8 0) fun q27 =>
 bd (l0 lf a0 a1 ((q27.length:Nat):Int) (lf+40) 0 0 q27) fun z28 =>
 bd (bg.f lf z28.1.1) fun r29 =>
 some (r29.1,()))
def E(lf:Nat):Entry:=⟨[(.sl (.int .i64)),(.sl (.int .i64))],[(.sl (.int .i64))],fun x=>f lf x.1 x.2.1⟩
theorem ok(lf:Nat):Ok 218 (E lf):=okL (tC (bg.ok lf) tN) (aoC aoN) (sl lf) fun x=>by kernel_rfl
end gu
namespace kJ
def f(lf:Nat)(a0:TB)(a1:TB):Option (Bool×Unit) :=
 some (a0.1,())
def E(lf:Nat):Entry:=⟨[yB,yB],[.bool],fun x=>f lf x.1 x.2.1⟩
theorem ok(lf:Nat):Ok 219 (E lf):=okT (an:=(annsL [])) (lf:=lf) tN aoN fun x=>by kernel_rfl
end kJ
end
end Go.Q
