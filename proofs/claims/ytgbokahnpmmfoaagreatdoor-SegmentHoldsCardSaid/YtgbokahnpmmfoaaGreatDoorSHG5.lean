import Derived.Test.YtgbokahnpmmfoaaGreatDoorProg
import Derived.KernelRfl
import Derived.Test.YtgbokahnpmmfoaaGreatDoorSHE3
import Derived.Test.YtgbokahnpmmfoaaGreatDoorSHG1
import Derived.Test.YtgbokahnpmmfoaaGreatDoorSHG3
import Derived.Test.YtgbokahnpmmfoaaGreatDoorSHG4
set_option linter.unusedVariables false
set_option linter.unusedSimpArgs false
set_option linter.unusedSectionVars false
set_option maxRecDepth 100000
namespace Go.Q
open Go.IntKind (i64)
open Go Go.RowKit
open Go.Rx (br bd sIdx sCat sCut iQuo iRem)
noncomputable section
namespace iy
def f(lf:Nat)(a0:ByteArray)(a1:ByteArray):Option (ByteArray×Unit) :=
 bd (aG.f lf a0) fun r1 =>
 bd (aG.f lf a1) fun r2 =>
 br (decide ((i64.wrap (r1.1+r2.1))≤18)) (
 bd (aJ.f lf a0) fun r3 =>
 bd (aJ.f lf a1) fun r4 =>
 bd (aB.f lf (i64.wrap (r3.1*r4.1))) fun r5 =>
 some (r5.1,())) (
 bd (ay.f lf a0) fun r6 =>
 bd (ay.f lf a1) fun r7 =>
 bd (aU.f lf r6.1 r7.1) fun r8 =>
 bd (ah.f lf a0) fun r9 =>
 bd (ah.f lf a1) fun r10 =>
 bd (aA.f lf r8.1 (r9.1 != r10.1)) fun r11 =>
 some (r11.1,()))
def E(lf:Nat):Entry:=⟨[.str,.str],[.str],fun x=>f lf x.1 x.2.1⟩
theorem ok(lf:Nat):Ok 221 (E lf):=okT (an:=(annsL [])) (lf:=lf) (tC (aB.ok lf) (tC (aG.ok lf) (tC (ah.ok lf) (tC (aJ.ok lf) (tC (ay.ok lf) (tC (aA.ok lf) (tC (aU.ok lf) tN))))))) aoN fun x=>by kernel_rfl
end iy
namespace ji
def f(lf:Nat)(a0:Int)(a1:Int):Option (Int×Unit) :=
 bd (iQuo .i64 a0 a1) fun r1 =>
 bd (iRem a0 a1) fun r2 =>
 br (r2 != 0) (
 br ((decide (a0 < 0)) !=(decide (a1 < 0))) (
 some ((i64.wrap (r1-1)),())) (
 some (r1,()))) (
 some (r1,()))
def E(lf:Nat):Entry:=⟨[(.int .i64),(.int .i64)],[(.int .i64)],fun x=>f lf x.1 x.2.1⟩
theorem ok(lf:Nat):Ok 273 (E lf):=okT (an:=(annsL [])) (lf:=lf) tN aoN fun x=>by kernel_rfl
end ji
namespace aH
def anns:FuncId→FA:=annsL [(274,⟨annOf [(0,⟨kx 56 [0,1,7,8,9],[],[]⟩,⟨kx 56 [4,5,7,8],[],[]⟩),(1,⟨kx 56 [0,1,7,8,9],[],[]⟩,⟨kx 56 [0,1,4,5,7,8,9],[],[]⟩)],none,[]⟩)]
def r1{ρ:Type}(lf:Nat)(v0 v1:List Int)(v3:Int)(v5 v6:List Int)(v2 v4:List Int)(K:(List Int)→(List Int)→Option ρ)(E0:(List Int)→(List Int)→Option ρ):Option ρ :=
 bd (aO.f lf v2 v1) fun r7 =>
 br (decide (r7.1≥0)) (
 bd (aK.f lf v2 v1) fun r8 =>
 bd (idxB v4.length v3) fun j9 =>
 bd (v4[j9]?) fun y10 =>
 bd (idxB v4.length v3) fun j11 =>
 bd (upE v4 j11 fun _=>some (i64.wrap (y10+1))) fun q12 =>
 K r8.1 q12) (
 E0 v2 v4)
def l1(lf:Nat)(v0 v1:List Int)(v3:Int)(v5 v6:List Int):Nat→(List Int)→(List Int)→Option (((List Int)×(List Int)×Unit)×Unit)
 | 0,_,_=>none
 | n+1,v2,v4=>r1 lf v0 v1 v3 v5 v6 v2 v4 (l1 lf v0 v1 v3 v5 v6 n) (fun w0 w1=>some ((w0,w1,()),()))
def sh1:ShS:=⟨[.s (.sl (.int .i64)),.s (.sl (.int .i64)),.a 5,.s (.row 0),.s (.sl (.int .i64)),.s (.int .i64),.a 46],[.row (.int .i64) 3 false,.gone,.row (.int .i64) 3 false,.gone,.row (.int .i64) 3 true]⟩
def S1(p:(List Int)×(List Int)×(List Int)×Int×(List Int)×(List Int)×(List Int)×Unit):St:=sh1.b p
def xh0:ShS:=⟨[.s (.sl (.int .i64)),.s (.sl (.int .i64)),.a 5,.s (.row 0),.s (.sl (.int .i64)),.s (.int .i64),.a 46],[.row (.int .i64) 3 false,.gone,.row (.int .i64) 3 false,.gone,.row (.int .i64) 3 true]⟩
def o1(v0 v1:List Int)(v3:Int)(v5 v6:List Int)(y:((List Int)×(List Int)×Unit)×Unit):Alt:=.one (.exit 2) (xh0.b (v0,v1,y.1.1,v3,y.1.2.1,v5,v6,()))
def r2{ρ:Type}(lf:Nat)(v0 v1 v5:List Int)(v2:List Int)(v3:Int)(v4:List Int)(K:(List Int)→Int→(List Int)→Option ρ)(E0:(List Int)→(List Int)→(List Int)→Option ρ):Option ρ :=
 br (decide (v3≥0)) (
 bd (idxL v0 v3) fun y15 =>
 bd (apL true 8 [y15] v2) fun q16 =>
 bd (ax.f lf q16) fun r17 =>
 bd (l1 lf v0 v1 v3 v5 q16 (lf+40) r17.1 v4) fun z18 =>
 K z18.1.1 (i64.wrap (v3-1)) z18.1.2.1) (
 E0 v2 v4 v5)
def l2(lf:Nat)(v0 v1 v5:List Int):Nat→(List Int)→Int→(List Int)→Option (((List Int)×(List Int)×(List Int)×Unit)×Unit)
 | 0,_,_,_=>none
 | n+1,v2,v3,v4=>r2 lf v0 v1 v5 v2 v3 v4 (l2 lf v0 v1 v5 n) (fun w0 w1 w2=>some ((w0,w1,w2,()),()))
def sh2:ShS:=⟨[.s (.sl (.int .i64)),.s (.sl (.int .i64)),.a 5,.s (.row 0),.s (.sl (.int .i64)),.s (.int .i64),.a 46],[.row (.int .i64) 3 false,.gone,.row (.int .i64) 3 false]⟩
def S2(p:(List Int)×(List Int)×(List Int)×Int×(List Int)×(List Int)×Unit):St:=sh2.b p
def xh1:ShS:=⟨[.a 7,.s (.row 0),.s (.sl (.int .i64)),.a 47],[.row (.int .i64) 3 false,.gone,.row (.int .i64) 3 false]⟩
def o2(v0 v1 v5:List Int)(y:((List Int)×(List Int)×(List Int)×Unit)×Unit):Alt:=.one (.exit 0) (xh1.b (y.1.1,y.1.2.1,y.1.2.2.1,()))
def r0{ρ:Type}(lf:Nat)(v0 v1:List Int)(v2:Int)(v3 v4:List Int)(K2:(List Int)→(List Int)→(List Int)→Int→(List Int)→(List Int)→Option ρ)(E0:(List Int)→(List Int)→Option ρ):Option ρ :=
 br (decide (v2≥0)) (
 bd (idxL v0 v2) fun y4 =>
 bd (apL true 8 [y4] v4) fun q5 =>
 bd (ax.f lf q5) fun r6 =>
 bd (l1 lf v0 v1 v2 v4 q5 (lf+40) r6.1 v3) fun z14 =>
 K2 v0 v1 z14.1.1 (i64.wrap (v2-1)) z14.1.2.1 v4) (
 E0 v3 v4)
def l0(lf:Nat)(v0 v1:List Int)(v2:Int)(v3 v4:List Int):Nat→Option (Bool×((List Int)×(List Int)×Unit)×((List Int)×(List Int)×(List Int)×Unit)×Unit)
 | 0=>none
 | n+1=>r0 lf v0 v1 v2 v3 v4 (fun x0 x1 x2 x3 x4 x5=>bd (l2 lf x0 x1 x5 n x2 x3 x4) fun z19=>some (false,([],[],()),((z19.1.1,z19.1.2.1,z19.1.2.2.1,()),()))) (fun w0 w1=>some (true,(w0,w1,()),(([],[],[],()),())))
def sh0:ShS:=⟨[.s (.sl (.int .i64)),.s (.sl (.int .i64)),.a 5,.s (.row 0),.s (.row 2),.s (.int .i64),.a 46],[.row (.int .i64) 3 false,.gone,.row (.int .i64) 3 false]⟩
def S0(p:(List Int)×(List Int)×Int×(List Int)×(List Int)×Unit):St:=sh0.b p
def xh2:ShS:=⟨[.a 7,.s (.row 0),.s (.row 2),.a 47],[.row (.int .i64) 3 false,.gone,.row (.int .i64) 3 false]⟩
def o0(v0 v1:List Int)(v2:Int)(v3 v4:List Int)(y:Bool×((List Int)×(List Int)×Unit)×((List Int)×(List Int)×(List Int)×Unit)×Unit):Alt:=.two y.1 (.one (.exit 0) (xh2.b (y.2.1.1,y.2.1.2.1,()))) (.one (.exit 0) (xh1.b (y.2.2.1.1,y.2.2.1.2.1,y.2.2.1.2.2.1,())))
def tb(lf:Nat):List (FuncId×Entry):=[(218,aO.E lf),(219,ax.E lf),(220,aK.E lf)]
def yc(lf:Nat):List (Nat×(St→Option LTE)):=[(0,sumE sh2 fun(p:(List Int)×(List Int)×(List Int)×Int×(List Int)×(List Int)×Unit)=>⟨((List Int)×(List Int)×(List Int)×Unit)×Unit,l2 lf p.1 p.2.1 p.2.2.2.2.2.1 (lf+40) p.2.2.1 p.2.2.2.1 p.2.2.2.2.1,o2 p.1 p.2.1 p.2.2.2.2.2.1⟩),
 (0,sumE sh0 fun(p:(List Int)×(List Int)×Int×(List Int)×(List Int)×Unit)=>⟨Bool×((List Int)×(List Int)×Unit)×((List Int)×(List Int)×(List Int)×Unit)×Unit,l0 lf p.1 p.2.1 p.2.2.1 p.2.2.2.1 p.2.2.2.2.1 (lf+40),o0 p.1 p.2.1 p.2.2.1 p.2.2.2.1 p.2.2.2.2.1⟩),
 (1,sumE sh1 fun(p:(List Int)×(List Int)×(List Int)×Int×(List Int)×(List Int)×(List Int)×Unit)=>⟨((List Int)×(List Int)×Unit)×Unit,l1 lf p.1 p.2.1 p.2.2.2.1 p.2.2.2.2.2.1 p.2.2.2.2.2.2.1 (lf+40) p.2.2.1 p.2.2.2.2.1,o1 p.1 p.2.1 p.2.2.2.1 p.2.2.2.2.2.1 p.2.2.2.2.2.2.1⟩)]
def ls(lf:Nat):List (Nat×FuncId×Sums):=[(13,274,sumsL (yc lf))]
def it1{ρ:Type}(lf n:Nat)(st:St)(k:KE ρ):Option ρ:=itG anns (ls lf) (tb lf) lf 13 274 1 5 (sumsL (yc lf)) n st k
theorem t1{ρ:Type}(lf n:Nat)(v0 v1 v2:List Int)(v3:Int)(v4 v5 v6:List Int)(k:KE ρ):it1 lf (n+1) (S1 (v0,v1,v2,v3,v4,v5,v6,())) k=r1 lf v0 v1 v3 v5 v6 v2 v4 (fun x0 x1=>it1 lf n (S1 (v0,v1,x0,v3,x1,v5,v6,())) k) (fun w0 w1=>k (.exit 2) (xh0.b (v0,v1,w0,v3,w1,v5,v6,()))):=by kernel_rfl
theorem u1{ρ:Type}(lf:Nat)(v0 v1:List Int)(v3:Int)(v5 v6:List Int)(k:KE ρ):∀ (n:Nat) (v2 v4:List Int),it1 lf n (S1 (v0,v1,v2,v3,v4,v5,v6,())) k=bd (l1 lf v0 v1 v3 v5 v6 n v2 v4) fun y=>altK k (o1 v0 v1 v3 v5 v6 y)
 | 0,_,_=>by rw[l1,au];rfl
 | n+1,v2,v4=>by
  rw[t1];simp only[l1,r1,u1 lf v0 v1 v3 v5 v6 k n,bG,bF,aF,au,br_t,br_f,o1,altK]
def it2{ρ:Type}(lf n:Nat)(st:St)(k:KE ρ):Option ρ:=itG anns (ls lf) (tb lf) lf 13 274 0 3 (sumsL (yc lf)) n st k
theorem t2{ρ:Type}(lf n:Nat)(v0 v1 v2:List Int)(v3:Int)(v4 v5:List Int)(k:KE ρ):it2 lf (n+1) (S2 (v0,v1,v2,v3,v4,v5,())) k=r2 lf v0 v1 v5 v2 v3 v4 (fun x0 x1 x2=>it2 lf n (S2 (v0,v1,x0,x1,x2,v5,())) k) (fun w0 w1 w2=>k (.exit 0) (xh1.b (w0,w1,w2,()))):=by kernel_rfl
theorem u2{ρ:Type}(lf:Nat)(v0 v1 v5:List Int)(k:KE ρ):∀ (n:Nat) (v2:List Int) (v3:Int) (v4:List Int),it2 lf n (S2 (v0,v1,v2,v3,v4,v5,())) k=bd (l2 lf v0 v1 v5 n v2 v3 v4) fun y=>altK k (o2 v0 v1 v5 y)
 | 0,_,_,_=>by rw[l2,au];rfl
 | n+1,v2,v3,v4=>by
  rw[t2];simp only[l2,r2,u2 lf v0 v1 v5 k n,bG,bF,aF,au,br_t,br_f,o2,altK]
def it0{ρ:Type}(lf n:Nat)(st:St)(k:KE ρ):Option ρ:=itG anns (ls lf) (tb lf) lf 13 274 0 3 (sumsL (yc lf)) n st k
theorem t0{ρ:Type}(lf n:Nat)(v0 v1:List Int)(v2:Int)(v3 v4:List Int)(k:KE ρ):it0 lf (n+1) (S0 (v0,v1,v2,v3,v4,())) k=r0 lf v0 v1 v2 v3 v4 (fun x0 x1 x2 x3 x4 x5=>it2 lf n (S2 (x0,x1,x2,x3,x4,x5,())) k) (fun w0 w1=>k (.exit 0) (xh2.b (w0,w1,()))):=by kernel_rfl
theorem u0{ρ:Type}(lf:Nat)(v0 v1:List Int)(v2:Int)(v3 v4:List Int)(k:KE ρ):∀ (n:Nat),it0 lf n (S0 (v0,v1,v2,v3,v4,())) k=bd (l0 lf v0 v1 v2 v3 v4 n) fun y=>altK k (o0 v0 v1 v2 v3 v4 y)
 | 0=>by rw[l0,au];rfl
 | n+1=>by
  rw[t0];simp only[l0,r0,u2,bG,bF,aF,au,br_t,br_f,o0,o2,altK]
theorem sl(lf:Nat):SL anns (ls lf) (tb lf) lf (ls lf):=slC (laC (fun _=>by kernel_rfl) (fun _ (x:(List Int)×(List Int)×(List Int)×Int×(List Int)×(List Int)×Unit) k=>aS (u2 lf x.1 x.2.1 x.2.2.2.2.2.1 k (lf+40) x.2.2.1 x.2.2.2.1 x.2.2.2.2.1)) (laC (fun _=>by kernel_rfl) (fun _ (x:(List Int)×(List Int)×Int×(List Int)×(List Int)×Unit) k=>aS (u0 lf x.1 x.2.1 x.2.2.1 x.2.2.2.1 x.2.2.2.2.1 k (lf+40))) (laC (fun _=>by kernel_rfl) (fun _ (x:(List Int)×(List Int)×(List Int)×Int×(List Int)×(List Int)×(List Int)×Unit) k=>aS (u1 lf x.1 x.2.1 x.2.2.2.1 x.2.2.2.2.2.1 x.2.2.2.2.2.2.1 k (lf+40) x.2.2.1 x.2.2.2.2.1)) laN))) slN
def f(lf:Nat)(a0:List Int)(a1:List Int):Option ((List Int)×(List Int)×Unit) :=
 bd (mkL (if(i64.wrap ((i64.wrap (((a0.length:Nat):Int)-((a1.length:Nat):Int)))+1)) > 0 then(i64.wrap ((i64.wrap (((a0.length:Nat):Int)-((a1.length:Nat):Int)))+1))else 0) (if(i64.wrap ((i64.wrap (((a0.length:Nat):Int)-((a1.length:Nat):Int)))+1)) > 0 then(i64.wrap ((i64.wrap (((a0.length:Nat):Int)-((a1.length:Nat):Int)))+1))else 0) 8 0) fun q1 =>
 bd (cutL a0 (some (if(i64.wrap ((i64.wrap (((a0.length:Nat):Int)-((a1.length:Nat):Int)))+1)) > 0 then(i64.wrap ((i64.wrap (((a0.length:Nat):Int)-((a1.length:Nat):Int)))+1))else 0)) none) fun q2 =>
 bd (apL true 8 [] q2) fun q3 =>
 bd (l0 lf a0 a1 (i64.wrap ((if(i64.wrap ((i64.wrap (((a0.length:Nat):Int)-((a1.length:Nat):Int)))+1)) > 0 then(i64.wrap ((i64.wrap (((a0.length:Nat):Int)-((a1.length:Nat):Int)))+1))else 0)-1)) q1 q3 (lf+40)) fun z20 =>
 br z20.1 (
 bd (ax.f lf z20.2.1.1) fun r21 =>
 some (r21.1,z20.2.1.2.1,())) (
 bd (ax.f lf z20.2.2.1.2.1) fun r22 =>
 some (r22.1,z20.2.2.1.1,()))
def E(lf:Nat):Entry:=⟨[(.sl (.int .i64)),(.sl (.int .i64))],[(.sl (.int .i64)),(.sl (.int .i64))],fun x=>f lf x.1 x.2.1⟩
theorem ok(lf:Nat):Ok 274 (E lf):=okL (tC (aO.ok lf) (tC (ax.ok lf) (tC (aK.ok lf) tN))) (aoC aoN) (sl lf) fun x=>by kernel_rfl
end aH
namespace jg
def f(lf:Nat)(a0:ByteArray)(a1:ByteArray):Option (ByteArray×Unit) :=
 bd (dH.f lf a0 17) fun r1 =>
 br r1.1 (
 bd (dH.f lf a1 17) fun r2 =>
 br r2.1 (
 bd (aJ.f lf a0) fun r3 =>
 bd (aJ.f lf a1) fun r4 =>
 bd (ji.f lf r3.1 r4.1) fun r5 =>
 bd (aB.f lf r5.1) fun r6 =>
 some (r6.1,())) (
 bd (ay.f lf a0) fun r7 =>
 bd (ax.f lf r7.1) fun r8 =>
 bd (ay.f lf a1) fun r9 =>
 bd (ax.f lf r9.1) fun r10 =>
 bd (aH.f lf r8.1 r10.1) fun r11 =>
 bd (ah.f lf a0) fun r12 =>
 bd (ah.f lf a1) fun r13 =>
 bd (aA.f lf r11.1 (r12.1 != r13.1)) fun r14 =>
 bd (ah.f lf a0) fun r15 =>
 bd (ah.f lf a1) fun r16 =>
 br (r15.1 != r16.1) (
 br (decide (((r11.2.1.length:Nat):Int) > 0)) (
 bd (bn.f lf r14.1 (⟨#[49]⟩:ByteArray)) fun r17 =>
 some (r17.1,())) (
 some (r14.1,()))) (
 some (r14.1,())))) (
 bd (ay.f lf a0) fun r18 =>
 bd (ax.f lf r18.1) fun r19 =>
 bd (ay.f lf a1) fun r20 =>
 bd (ax.f lf r20.1) fun r21 =>
 bd (aH.f lf r19.1 r21.1) fun r22 =>
 bd (ah.f lf a0) fun r23 =>
 bd (ah.f lf a1) fun r24 =>
 bd (aA.f lf r22.1 (r23.1 != r24.1)) fun r25 =>
 bd (ah.f lf a0) fun r26 =>
 bd (ah.f lf a1) fun r27 =>
 br (r26.1 != r27.1) (
 br (decide (((r22.2.1.length:Nat):Int) > 0)) (
 bd (bn.f lf r25.1 (⟨#[49]⟩:ByteArray)) fun r28 =>
 some (r28.1,())) (
 some (r25.1,()))) (
 some (r25.1,())))
def E(lf:Nat):Entry:=⟨[.str,.str],[.str],fun x=>f lf x.1 x.2.1⟩
theorem ok(lf:Nat):Ok 222 (E lf):=okT (an:=(annsL [])) (lf:=lf) (tC (aB.ok lf) (tC (ah.ok lf) (tC (bn.ok lf) (tC (dH.ok lf) (tC (aJ.ok lf) (tC (ay.ok lf) (tC (aA.ok lf) (tC (ax.ok lf) (tC (ji.ok lf) (tC (aH.ok lf) tN)))))))))) aoN fun x=>by kernel_rfl
end jg
namespace dU
def f(lf:Nat)(a0:ByteArray)(a1:ByteArray):Option (ByteArray×Unit) :=
 bd (jg.f lf a0 a1) fun r1 =>
 bd (iy.f lf a1 r1.1) fun r2 =>
 bd (bn.f lf a0 r2.1) fun r3 =>
 some (r3.1,())
def E(lf:Nat):Entry:=⟨[.str,.str],[.str],fun x=>f lf x.1 x.2.1⟩
theorem ok(lf:Nat):Ok 162 (E lf):=okT (an:=(annsL [])) (lf:=lf) (tC (bn.ok lf) (tC (iy.ok lf) (tC (jg.ok lf) tN))) aoN fun x=>by kernel_rfl
end dU
namespace fU
def f(lf:Nat)(a0:ByteArray):Option (ByteArray×Unit) :=
 bd (ah.f lf a0) fun r1 =>
 br r1.1 (
 bd (sCut a0 (some 1) none) fun r2 =>
 some (r2,())) (
 some (a0,()))
def E(lf:Nat):Entry:=⟨[.str],[.str],fun x=>f lf x.1⟩
theorem ok(lf:Nat):Ok 183 (E lf):=okT (an:=(annsL [])) (lf:=lf) (tC (ah.ok lf) tN) aoN fun x=>by kernel_rfl
end fU
namespace dV
def f(lf:Nat)(a0:ByteArray):Option (Int×Unit) :=
 br (a0.toList==(⟨#[48]⟩:ByteArray).toList) (
 some (0,())) (
 bd (ah.f lf a0) fun r1 =>
 br r1.1 (
 some ((-1),())) (
 some (1,())))
def E(lf:Nat):Entry:=⟨[.str],[(.int .i64)],fun x=>f lf x.1⟩
theorem ok(lf:Nat):Ok 148 (E lf):=okT (an:=(annsL [])) (lf:=lf) (tC (ah.ok lf) tN) aoN fun x=>by kernel_rfl
end dV
namespace jh
def f(lf:Nat)(a0:ByteArray)(a1:ByteArray):Option (Int×Unit) :=
 bd (dV.f lf a0) fun r1 =>
 bd (dV.f lf a1) fun r2 =>
 br (r1.1 != r2.1) (
 br (decide (r1.1 < r2.1)) (
 some ((-1),())) (
 some (1,()))) (
 bd (ay.f lf a0) fun r3 =>
 bd (ax.f lf r3.1) fun r4 =>
 bd (ay.f lf a1) fun r5 =>
 bd (ax.f lf r5.1) fun r6 =>
 bd (aO.f lf r4.1 r6.1) fun r7 =>
 some ((i64.wrap (r1.1*r7.1)),()))
def E(lf:Nat):Entry:=⟨[.str,.str],[(.int .i64)],fun x=>f lf x.1 x.2.1⟩
theorem ok(lf:Nat):Ok 165 (E lf):=okT (an:=(annsL [])) (lf:=lf) (tC (dV.ok lf) (tC (ay.ok lf) (tC (aO.ok lf) (tC (ax.ok lf) tN)))) aoN fun x=>by kernel_rfl
end jh
namespace aC
def f(lf:Nat)(a0:ByteArray)(a1:ByteArray):Option (Bool×Unit) :=
 bd (jh.f lf a0 a1) fun r1 =>
 some ((decide (r1.1 < 0)),())
def E(lf:Nat):Entry:=⟨[.str,.str],[.bool],fun x=>f lf x.1 x.2.1⟩
theorem ok(lf:Nat):Ok 116 (E lf):=okT (an:=(annsL [])) (lf:=lf) (tC (jh.ok lf) tN) aoN fun x=>by kernel_rfl
end aC
end
end Go.Q
namespace Go.Q
open Go Go.RowKit
open Go.Rx (br bd sIdx sCat sCut iQuo iRem)
noncomputable section
namespace jK
def f(lf:Nat)(a0:TI)(a1:TI):Option (Bool×Unit) :=
 br (decide (((a0.2.1.size:Nat):Int)≤450)) (
 br (decide (((a0.2.2.1.size:Nat):Int)≤450)) (
 br (decide (((a1.2.1.size:Nat):Int)≤450)) (
 some ((decide (((a1.2.2.1.size:Nat):Int)≤450)),())) (
 some (false,()))) (
 some (false,()))) (
 some (false,()))
def E(lf:Nat):Entry:=⟨[yI,yI],[.bool],fun x=>f lf x.1 x.2.1⟩
theorem ok(lf:Nat):Ok 55 (E lf):=okT (an:=(annsL [])) (lf:=lf) tN aoN fun x=>by kernel_rfl
end jK
namespace fP
def f(lf:Nat)  : Option (TI×Unit) :=
 some ((true,(⟨#[]⟩:ByteArray),(⟨#[]⟩:ByteArray),()),())
def E(lf:Nat):Entry:=⟨[],[yI],fun x=>f lf⟩
theorem ok(lf:Nat):Ok 73 (E lf):=okT (an:=(annsL [])) (lf:=lf) tN aoN fun x=>by kernel_rfl
end fP
namespace iH
def f(lf:Nat)(a0:TI)(a1:ByteArray):Option (Bool×Unit) :=
 br (!a0.1) (
 br (a0.2.1.toList==(⟨#[]⟩:ByteArray).toList) (
 br (a0.2.2.1.toList==(⟨#[]⟩:ByteArray).toList) (
 some (true,())) (
 bd (aC.f lf a0.2.2.1 a1) fun r1 =>
 some ((!r1.1),()))) (
 bd (aC.f lf a1 a0.2.1) fun r2 =>
 br (!r2.1) (
 br (a0.2.2.1.toList==(⟨#[]⟩:ByteArray).toList) (
 some (true,())) (
 bd (aC.f lf a0.2.2.1 a1) fun r3 =>
 some ((!r3.1),()))) (
 some (false,())))) (
 some (false,()))
def E(lf:Nat):Entry:=⟨[yI,.str],[.bool],fun x=>f lf x.1 x.2.1⟩
theorem ok(lf:Nat):Ok 96 (E lf):=okT (an:=(annsL [])) (lf:=lf) (tC (aC.ok lf) tN) aoN fun x=>by kernel_rfl
end iH
namespace dA
def f(lf:Nat)(a0:ByteArray):Option (ByteArray×Unit) :=
 br (!(a0.toList==(⟨#[]⟩:ByteArray).toList)) (
 bd (aG.f lf a0) fun r1 =>
 br (decide (r1.1 > 100)) (
 some ((⟨#[]⟩:ByteArray),())) (
 some (a0,()))) (
 some (a0,()))
def E(lf:Nat):Entry:=⟨[.str],[.str],fun x=>f lf x.1⟩
theorem ok(lf:Nat):Ok 160 (E lf):=okT (an:=(annsL [])) (lf:=lf) (tC (aG.ok lf) tN) aoN fun x=>by kernel_rfl
end dA
namespace aN
def f(lf:Nat)(a0:ByteArray)(a1:ByteArray):Option (TI×Unit) :=
 br (!(a0.toList==(⟨#[]⟩:ByteArray).toList)) (
 br (!(a1.toList==(⟨#[]⟩:ByteArray).toList)) (
 bd (aC.f lf a1 a0) fun r1 =>
 br r1.1 (
 bd (fP.f lf) fun r2 =>
 some (r2.1,())) (
 bd (dA.f lf a0) fun r3 =>
 bd (dA.f lf a1) fun r4 =>
 some ((false,r3.1,r4.1,()),()))) (
 bd (dA.f lf a0) fun r5 =>
 bd (dA.f lf a1) fun r6 =>
 some ((false,r5.1,r6.1,()),()))) (
 bd (dA.f lf a0) fun r7 =>
 bd (dA.f lf a1) fun r8 =>
 some ((false,r7.1,r8.1,()),()))
def E(lf:Nat):Entry:=⟨[.str,.str],[yI],fun x=>f lf x.1 x.2.1⟩
theorem ok(lf:Nat):Ok 113 (E lf):=okT (an:=(annsL [])) (lf:=lf) (tC (fP.ok lf) (tC (aC.ok lf) (tC (dA.ok lf) tN))) aoN fun x=>by kernel_rfl
end aN
namespace eG
def f(lf:Nat)(a0:ByteArray):Option (Int×Unit) :=
 br (a0.toList==(⟨#[]⟩:ByteArray).toList) (
 some (0,())) (
 bd (iT.f lf a0) fun r1 =>
 some (r1.1,()))
def E(lf:Nat):Entry:=⟨[.str],[(.int .i64)],fun x=>f lf x.1⟩
theorem ok(lf:Nat):Ok 146 (E lf):=okT (an:=(annsL [])) (lf:=lf) (tC (iT.ok lf) tN) aoN fun x=>by kernel_rfl
end eG
namespace gZ
def f(lf:Nat)(a0:TI):Option (Int×Unit) :=
 br a0.1 (
 br (!(a0.2.1.toList==(⟨#[]⟩:ByteArray).toList)) (
 some (3,())) (
 br (!(a0.2.2.1.toList==(⟨#[]⟩:ByteArray).toList)) (
 some (3,())) (
 bd (eG.f lf a0.2.1) fun r1 =>
 br (r1.1 != 0) (
 some (r1.1,())) (
 bd (eG.f lf a0.2.2.1) fun r2 =>
 br (r2.1 != 0) (
 some (r2.1,())) (
 br (!(a0.2.1.toList==(⟨#[]⟩:ByteArray).toList)) (
 br (!(a0.2.2.1.toList==(⟨#[]⟩:ByteArray).toList)) (
 bd (aC.f lf a0.2.2.1 a0.2.1) fun r3 =>
 br r3.1 (
 some (14,())) (
 some (0,()))) (
 some (0,()))) (
 some (0,()))))))) (
 bd (eG.f lf a0.2.1) fun r4 =>
 br (r4.1 != 0) (
 some (r4.1,())) (
 bd (eG.f lf a0.2.2.1) fun r5 =>
 br (r5.1 != 0) (
 some (r5.1,())) (
 br (!(a0.2.1.toList==(⟨#[]⟩:ByteArray).toList)) (
 br (!(a0.2.2.1.toList==(⟨#[]⟩:ByteArray).toList)) (
 bd (aC.f lf a0.2.2.1 a0.2.1) fun r6 =>
 br r6.1 (
 some (14,())) (
 some (0,()))) (
 some (0,()))) (
 some (0,())))))
def E(lf:Nat):Entry:=⟨[yI],[(.int .i64)],fun x=>f lf x.1⟩
theorem ok(lf:Nat):Ok 98 (E lf):=okT (an:=(annsL [])) (lf:=lf) (tC (aC.ok lf) (tC (eG.ok lf) tN)) aoN fun x=>by kernel_rfl
end gZ
namespace jE
def f(lf:Nat)(a0:TI):Option (ByteArray×Unit) :=
 br a0.1 (
 some ((⟨#[101,109,112,116,121]⟩:ByteArray),())) (
 br (a0.2.1.toList==(⟨#[]⟩:ByteArray).toList) (
 br (a0.2.2.1.toList==(⟨#[]⟩:ByteArray).toList) (
 bd (sCat (⟨#[91]⟩:ByteArray) (⟨#[45,105,110,102]⟩:ByteArray)) fun r1 =>
 bd (sCat r1 (⟨#[44,32]⟩:ByteArray)) fun r2 =>
 bd (sCat r2 (⟨#[43,105,110,102]⟩:ByteArray)) fun r3 =>
 bd (sCat r3 (⟨#[93]⟩:ByteArray)) fun r4 =>
 some (r4,())) (
 bd (sCat (⟨#[91]⟩:ByteArray) (⟨#[45,105,110,102]⟩:ByteArray)) fun r5 =>
 bd (sCat r5 (⟨#[44,32]⟩:ByteArray)) fun r6 =>
 bd (sCat r6 a0.2.2.1) fun r7 =>
 bd (sCat r7 (⟨#[93]⟩:ByteArray)) fun r8 =>
 some (r8,()))) (
 br (a0.2.2.1.toList==(⟨#[]⟩:ByteArray).toList) (
 bd (sCat (⟨#[91]⟩:ByteArray) a0.2.1) fun r9 =>
 bd (sCat r9 (⟨#[44,32]⟩:ByteArray)) fun r10 =>
 bd (sCat r10 (⟨#[43,105,110,102]⟩:ByteArray)) fun r11 =>
 bd (sCat r11 (⟨#[93]⟩:ByteArray)) fun r12 =>
 some (r12,())) (
 bd (sCat (⟨#[91]⟩:ByteArray) a0.2.1) fun r13 =>
 bd (sCat r13 (⟨#[44,32]⟩:ByteArray)) fun r14 =>
 bd (sCat r14 a0.2.2.1) fun r15 =>
 bd (sCat r15 (⟨#[93]⟩:ByteArray)) fun r16 =>
 some (r16,()))))
def E(lf:Nat):Entry:=⟨[yI],[.str],fun x=>f lf x.1⟩
theorem ok(lf:Nat):Ok 197 (E lf):=okT (an:=(annsL [])) (lf:=lf) tN aoN fun x=>by kernel_rfl
end jE
end
end Go.Q
namespace Go.Q
open Go Go.RowKit
open Go.Rx (br bd sIdx sCat sCut iQuo iRem)
noncomputable section
namespace iK
def f(lf:Nat)(a0:ByteArray)(a1:Int):Option (ByteArray×Unit) :=
 some (a0,())
def E(lf:Nat):Entry:=⟨[.str,(.int .i64)],[.str],fun x=>f lf x.1 x.2.1⟩
theorem ok(lf:Nat):Ok 192 (E lf):=okT (an:=(annsL [])) (lf:=lf) tN aoN fun x=>by kernel_rfl
end iK
namespace iD
def f(lf:Nat)(a0:TV)(a1:Int):Option (TV×Unit) :=
 some (a0,())
def E(lf:Nat):Entry:=⟨[yV,(.int .i64)],[yV],fun x=>f lf x.1 x.2.1⟩
theorem ok(lf:Nat):Ok 63 (E lf):=okT (an:=(annsL [])) (lf:=lf) tN aoN fun x=>by kernel_rfl
end iD
end
end Go.Q
namespace Go.Q
open Go Go.RowKit
open Go.Rx (br bd sIdx sCat sCut iQuo iRem)
noncomputable section
namespace eY
def f(lf:Nat)(a0:ByteArray):Option (Bool×Unit) :=
 bd (strings_TrimPrefix.f lf a0 (⟨#[45]⟩:ByteArray)) fun r1 =>
 some ((decide (((r1.1.size:Nat):Int) > 100)),())
def E(lf:Nat):Entry:=⟨[.str],[.bool],fun x=>f lf x.1⟩
theorem ok(lf:Nat):Ok 227 (E lf):=okT (an:=(annsL [])) (lf:=lf) (tC (strings_TrimPrefix.ok lf) tN) aoN fun x=>by kernel_rfl
end eY
namespace iV
def f(lf:Nat)(a0:ByteArray):Option (Int×Unit) :=
 bd (aW.f lf a0) fun r1 =>
 br (r1.1==10) (
 some (10,())) (
 br (r1.1==0) (
 bd (eY.f lf a0) fun r2 =>
 br r2.1 (
 some (10,())) (
 br (r1.1 != 0) (
 some (r1.1,())) (
 some (0,())))) (
 br (r1.1 != 0) (
 some (r1.1,())) (
 some (0,()))))
def E(lf:Nat):Entry:=⟨[.str],[(.int .i64)],fun x=>f lf x.1⟩
theorem ok(lf:Nat):Ok 255 (E lf):=okT (an:=(annsL [])) (lf:=lf) (tC (aW.ok lf) (tC (eY.ok lf) tN)) aoN fun x=>by kernel_rfl
end iV
namespace jR
def f(lf:Nat)(a0:Int)(a1:Int):Option (Int×Unit) :=
 some (a0,())
def E(lf:Nat):Entry:=⟨[(.int .i64),(.int .i64)],[(.int .i64)],fun x=>f lf x.1 x.2.1⟩
theorem ok(lf:Nat):Ok 294 (E lf):=okT (an:=(annsL [])) (lf:=lf) tN aoN fun x=>by kernel_rfl
end jR
namespace dY
def f(lf:Nat)(a0:ByteArray)(a1:ByteArray):Option (Bool×Unit) :=
 bd (dX.f lf a0 a1) fun r1 =>
 bd (jR.f lf r1.1 r1.2.1) fun r2 =>
 some ((decide (r2.1 < 0)),())
def E(lf:Nat):Entry:=⟨[.str,.str],[.bool],fun x=>f lf x.1 x.2.1⟩
theorem ok(lf:Nat):Ok 256 (E lf):=okT (an:=(annsL [])) (lf:=lf) (tC (dX.ok lf) (tC (jR.ok lf) tN)) aoN fun x=>by kernel_rfl
end dY
namespace bC
def f(lf:Nat)(a0:TI):Option (Int×Unit) :=
 br a0.1 (
 br (!(a0.2.1.toList==(⟨#[]⟩:ByteArray).toList)) (
 some (3,())) (
 br (!(a0.2.2.1.toList==(⟨#[]⟩:ByteArray).toList)) (
 some (3,())) (
 some (0,())))) (
 bd (iV.f lf a0.2.1) fun r1 =>
 br (r1.1 != 0) (
 some (r1.1,())) (
 bd (iV.f lf a0.2.2.1) fun r2 =>
 br (r2.1 != 0) (
 some (r2.1,())) (
 bd (dY.f lf a0.2.1 (⟨#[48]⟩:ByteArray)) fun r3 =>
 br r3.1 (
 some (2,())) (
 br (!(a0.2.1.toList==(⟨#[48]⟩:ByteArray).toList)) (
 bd (dY.f lf a0.2.2.1 (⟨#[48]⟩:ByteArray)) fun r4 =>
 br r4.1 (
 some (2,())) (
 bd (dY.f lf a0.2.2.1 a0.2.1) fun r5 =>
 br (!r5.1) (
 some (2,())) (
 some (0,())))) (
 some (0,()))))))
def E(lf:Nat):Entry:=⟨[yI],[(.int .i64)],fun x=>f lf x.1⟩
theorem ok(lf:Nat):Ok 191 (E lf):=okT (an:=(annsL [])) (lf:=lf) (tC (iV.ok lf) (tC (dY.ok lf) tN)) aoN fun x=>by kernel_rfl
end bC
namespace eX
def f(lf:Nat)(a0:ByteArray)(a1:ByteArray):Option (ByteArray×Unit) :=
 bd (lX.f lf a0 a1) fun r1 =>
 bd (iK.f lf r1.1 r1.2.1) fun r2 =>
 some (r2.1,())
def E(lf:Nat):Entry:=⟨[.str,.str],[.str],fun x=>f lf x.1 x.2.1⟩
theorem ok(lf:Nat):Ok 172 (E lf):=okT (an:=(annsL [])) (lf:=lf) (tC (iK.ok lf) (tC (lX.ok lf) tN)) aoN fun x=>by kernel_rfl
end eX
namespace gu
def f(lf:Nat)(a0:ByteArray)(a1:ByteArray)(a2:ByteArray):Option (ByteArray×Int×Unit) :=
 bd (gq.f lf a0 a2) fun r1 =>
 br (r1.2.1 != 0) (
 some ((⟨#[]⟩:ByteArray),r1.2.1,())) (
 bd (gq.f lf a1 a2) fun r2 =>
 br (r2.2.1 != 0) (
 some ((⟨#[]⟩:ByteArray),r2.2.1,())) (
 bd (eX.f lf r1.1 r2.1) fun r3 =>
 bd (gq.f lf r3.1 a2) fun r4 =>
 some (r4.1,r4.2.1,())))
def E(lf:Nat):Entry:=⟨[.str,.str,.str],[.str,(.int .i64)],fun x=>f lf x.1 x.2.1 x.2.2.1⟩
theorem ok(lf:Nat):Ok 302 (E lf):=okT (an:=(annsL [])) (lf:=lf) (tC (eX.ok lf) (tC (gq.ok lf) tN)) aoN fun x=>by kernel_rfl
end gu
namespace jX
def f(lf:Nat)(a0:TI)(a1:ByteArray):Option (ByteArray×Int×Unit) :=
 bd (bC.f lf a0) fun r1 =>
 br (r1.1 != 0) (
 some ((⟨#[]⟩:ByteArray),r1.1,())) (
 bd (aW.f lf a1) fun r2 =>
 br (r2.1 != 0) (
 some ((⟨#[]⟩:ByteArray),r2.1,())) (
 br a0.1 (
 some ((⟨#[]⟩:ByteArray),16,())) (
 br (!(a0.2.1.toList==(⟨#[48]⟩:ByteArray).toList)) (
 bd (gu.f lf a0.2.2.1 a1 a0.2.1) fun r3 =>
 br (r3.2.1 != 0) (
 some ((⟨#[]⟩:ByteArray),r3.2.1,())) (
 bd (kW.f lf a1 r3.1) fun r4 =>
 some (r4.1,r4.2.1,()))) (
 bd (dY.f lf a0.2.2.1 a1) fun r5 =>
 br r5.1 (
 some ((⟨#[]⟩:ByteArray),6,())) (
 some (a0.2.2.1,0,()))))))
def E(lf:Nat):Entry:=⟨[yI,.str],[.str,(.int .i64)],fun x=>f lf x.1 x.2.1⟩
theorem ok(lf:Nat):Ok 266 (E lf):=okT (an:=(annsL [])) (lf:=lf) (tC (aW.ok lf) (tC (bC.ok lf) (tC (dY.ok lf) (tC (kW.ok lf) (tC (gu.ok lf) tN))))) aoN fun x=>by kernel_rfl
end jX
namespace gU
def f(lf:Nat)(a0:TI)(a1:ByteArray):Option (ByteArray×Int×Unit) :=
 bd (bC.f lf a0) fun r1 =>
 br (r1.1 != 0) (
 some ((⟨#[]⟩:ByteArray),r1.1,())) (
 bd (aW.f lf a1) fun r2 =>
 br (r2.1 != 0) (
 some ((⟨#[]⟩:ByteArray),r2.1,())) (
 br a0.1 (
 some ((⟨#[]⟩:ByteArray),16,())) (
 br (!(a0.2.1.toList==(⟨#[48]⟩:ByteArray).toList)) (
 bd (gu.f lf a1 a0.2.2.1 a0.2.1) fun r3 =>
 br (r3.2.1 != 0) (
 some ((⟨#[]⟩:ByteArray),r3.2.1,())) (
 bd (lX.f lf a1 r3.1) fun r4 =>
 some (r4.1,r4.2.1,()))) (
 bd (dY.f lf a1 a0.2.2.1) fun r5 =>
 br r5.1 (
 some ((⟨#[]⟩:ByteArray),6,())) (
 some (a0.2.2.1,0,()))))))
def E(lf:Nat):Entry:=⟨[yI,.str],[.str,(.int .i64)],fun x=>f lf x.1 x.2.1⟩
theorem ok(lf:Nat):Ok 267 (E lf):=okT (an:=(annsL [])) (lf:=lf) (tC (aW.ok lf) (tC (bC.ok lf) (tC (lX.ok lf) (tC (dY.ok lf) (tC (gu.ok lf) tN))))) aoN fun x=>by kernel_rfl
end gU
namespace jY
def f(lf:Nat)  : Option (TI×Unit) :=
 some ((false,(⟨#[49]⟩:ByteArray),(⟨#[48]⟩:ByteArray),()),())
def E(lf:Nat):Entry:=⟨[],[yI],fun x=>f lf⟩
theorem ok(lf:Nat):Ok 228 (E lf):=okT (an:=(annsL [])) (lf:=lf) tN aoN fun x=>by kernel_rfl
end jY
namespace jZ
def f(lf:Nat)(a0:ByteArray)(a1:ByteArray):Option (TI×Unit) :=
 bd (uo.f lf a0) fun r1 =>
 bd (iK.f lf r1.1 r1.2.1) fun r2 =>
 br (!(r2.1.toList==(⟨#[48]⟩:ByteArray).toList)) (
 bd (gq.f lf a1 r2.1) fun r3 =>
 bd (iK.f lf r3.1 r3.2.1) fun r4 =>
 bd (eY.f lf r2.1) fun r5 =>
 br r5.1 (
 bd (jY.f lf) fun r6 =>
 some (r6.1,())) (
 bd (eY.f lf r4.1) fun r7 =>
 br r7.1 (
 bd (jY.f lf) fun r8 =>
 some (r8.1,())) (
 some ((false,r2.1,r4.1,()),())))) (
 bd (eY.f lf r2.1) fun r9 =>
 br r9.1 (
 bd (jY.f lf) fun r10 =>
 some (r10.1,())) (
 bd (eY.f lf a1) fun r11 =>
 br r11.1 (
 bd (jY.f lf) fun r12 =>
 some (r12.1,())) (
 some ((false,r2.1,a1,()),()))))
def E(lf:Nat):Entry:=⟨[.str,.str],[yI],fun x=>f lf x.1 x.2.1⟩
theorem ok(lf:Nat):Ok 170 (E lf):=okT (an:=(annsL [])) (lf:=lf) (tC (iK.ok lf) (tC (gq.ok lf) (tC (uo.ok lf) (tC (eY.ok lf) (tC (jY.ok lf) tN))))) aoN fun x=>by kernel_rfl
end jZ
namespace kz
def f(lf:Nat)(a0:ByteArray)(a1:ByteArray):Option (ByteArray×Unit) :=
 bd (uq.f lf a0 a1) fun r1 =>
 bd (iK.f lf r1.1 r1.2.1) fun r2 =>
 some (r2.1,())
def E(lf:Nat):Entry:=⟨[.str,.str],[.str],fun x=>f lf x.1 x.2.1⟩
theorem ok(lf:Nat):Ok 171 (E lf):=okT (an:=(annsL [])) (lf:=lf) (tC (iK.ok lf) (tC (uq.ok lf) tN)) aoN fun x=>by kernel_rfl
end kz
namespace iF
def f(lf:Nat)(a0:ByteArray)(a1:ByteArray):Option (Bool×Unit) :=
 br (a0.toList==(⟨#[48]⟩:ByteArray).toList) (
 some ((a1.toList==(⟨#[48]⟩:ByteArray).toList),())) (
 bd (gq.f lf a1 a0) fun r1 =>
 bd (iK.f lf r1.1 r1.2.1) fun r2 =>
 some ((r2.1.toList==(⟨#[48]⟩:ByteArray).toList),()))
def E(lf:Nat):Entry:=⟨[.str,.str],[.bool],fun x=>f lf x.1 x.2.1⟩
theorem ok(lf:Nat):Ok 234 (E lf):=okT (an:=(annsL [])) (lf:=lf) (tC (iK.ok lf) (tC (gq.ok lf) tN)) aoN fun x=>by kernel_rfl
end iF
namespace kV
def f(lf:Nat)(a0:TI)(a1:TI):Option (Bool×Unit) :=
 br a0.1 (
 some (a0.1,())) (
 br a1.1 (
 some (a0.1,())) (
 bd (iF.f lf a1.2.1 a0.2.1) fun r1 =>
 br r1.1 (
 bd (eX.f lf a0.2.2.1 a1.2.2.1) fun r2 =>
 bd (iF.f lf a1.2.1 r2.1) fun r3 =>
 some (r3.1,())) (
 some (false,()))))
def E(lf:Nat):Entry:=⟨[yI,yI],[.bool],fun x=>f lf x.1 x.2.1⟩
theorem ok(lf:Nat):Ok 200 (E lf):=okT (an:=(annsL [])) (lf:=lf) (tC (eX.ok lf) (tC (iF.ok lf) tN)) aoN fun x=>by kernel_rfl
end kV
namespace iw
def f(lf:Nat)  : Option (TI×Unit) :=
 some ((true,(⟨#[]⟩:ByteArray),(⟨#[]⟩:ByteArray),()),())
def E(lf:Nat):Entry:=⟨[],[yI],fun x=>f lf⟩
theorem ok(lf:Nat):Ok 235 (E lf):=okT (an:=(annsL [])) (lf:=lf) tN aoN fun x=>by kernel_rfl
end iw
namespace mP
def f(lf:Nat)(a0:ByteArray)(a1:ByteArray):Option (ByteArray×Unit) :=
 bd (uy.f lf a0 a1) fun r1 =>
 bd (iK.f lf r1.1 r1.2.1) fun r2 =>
 some (r2.1,())
def E(lf:Nat):Entry:=⟨[.str,.str],[.str],fun x=>f lf x.1 x.2.1⟩
theorem ok(lf:Nat):Ok 237 (E lf):=okT (an:=(annsL [])) (lf:=lf) (tC (iK.ok lf) (tC (uy.ok lf) tN)) aoN fun x=>by kernel_rfl
end mP
namespace oU
def f(lf:Nat)(a0:ByteArray)(a1:ByteArray):Option (ByteArray×Unit) :=
 bd (kW.f lf a0 a1) fun r1 =>
 bd (iK.f lf r1.1 r1.2.1) fun r2 =>
 some (r2.1,())
def E(lf:Nat):Entry:=⟨[.str,.str],[.str],fun x=>f lf x.1 x.2.1⟩
theorem ok(lf:Nat):Ok 240 (E lf):=okT (an:=(annsL [])) (lf:=lf) (tC (iK.ok lf) (tC (kW.ok lf) tN)) aoN fun x=>by kernel_rfl
end oU
namespace ou
def f(lf:Nat)(a0:TI)(a1:TI):Option (TI×Unit) :=
 bd (kV.f lf a0 a1) fun r1 =>
 br r1.1 (
 some (a0,())) (
 bd (kV.f lf a1 a0) fun r2 =>
 br r2.1 (
 some (a1,())) (
 bd (kz.f lf a0.2.1 a1.2.1) fun r3 =>
 bd (eX.f lf a1.2.2.1 a0.2.2.1) fun r4 =>
 br (a0.2.1.toList==(⟨#[48]⟩:ByteArray).toList) (
 bd (iw.f lf) fun r5 =>
 some (r5.1,())) (
 br (a1.2.1.toList==(⟨#[48]⟩:ByteArray).toList) (
 bd (iw.f lf) fun r6 =>
 some (r6.1,())) (
 bd (iF.f lf r3.1 r4.1) fun r7 =>
 br (!r7.1) (
 bd (iw.f lf) fun r8 =>
 some (r8.1,())) (
 bd (pW.f lf a0.2.1 a1.2.1) fun r9 =>
 bd (uz.f lf r4.1 r3.1) fun r10 =>
 bd (iK.f lf r10.1 r10.2.1) fun r11 =>
 bd (mP.f lf r9.2.1 r11.1) fun r12 =>
 bd (uw.f lf a0.2.1 a1.2.1) fun r13 =>
 bd (iK.f lf r13.1 r13.2.1) fun r14 =>
 bd (mP.f lf r12.1 a0.2.1) fun r15 =>
 bd (oU.f lf a0.2.2.1 r15.1) fun r16 =>
 bd (jZ.f lf r14.1 r16.1) fun r17 =>
 some (r17.1,()))))))
def E(lf:Nat):Entry:=⟨[yI,yI],[yI],fun x=>f lf x.1 x.2.1⟩
theorem ok(lf:Nat):Ok 176 (E lf):=okT (an:=(annsL [])) (lf:=lf) (tC (jZ.ok lf) (tC (kz.ok lf) (tC (eX.ok lf) (tC (iK.ok lf) (tC (kV.ok lf) (tC (iF.ok lf) (tC (iw.ok lf) (tC (pW.ok lf) (tC (mP.ok lf) (tC (uz.ok lf) (tC (uw.ok lf) (tC (oU.ok lf) tN)))))))))))) aoN fun x=>by kernel_rfl
end ou
namespace kN
def f(lf:Nat)(a0:TI)(a1:TI):Option (Int×Unit) :=
 bd (bC.f lf a0) fun r1 =>
 br (r1.1 != 0) (
 some (r1.1,())) (
 bd (bC.f lf a1) fun r2 =>
 some (r2.1,()))
def E(lf:Nat):Entry:=⟨[yI,yI],[(.int .i64)],fun x=>f lf x.1 x.2.1⟩
theorem ok(lf:Nat):Ok 169 (E lf):=okT (an:=(annsL [])) (lf:=lf) (tC (bC.ok lf) tN) aoN fun x=>by kernel_rfl
end kN
namespace oq
def f(lf:Nat)(a0:TI)(a1:TI):Option (TI×Int×Unit) :=
 bd (kN.f lf a0 a1) fun r1 =>
 br (r1.1 != 0) (
 some ((false,(⟨#[]⟩:ByteArray),(⟨#[]⟩:ByteArray),()),r1.1,())) (
 br a0.1 (
 bd (iw.f lf) fun r2 =>
 some (r2.1,0,())) (
 br a1.1 (
 bd (iw.f lf) fun r3 =>
 some (r3.1,0,())) (
 bd (ou.f lf a0 a1) fun r4 =>
 some (r4.1,0,()))))
def E(lf:Nat):Entry:=⟨[yI,yI],[yI,(.int .i64)],fun x=>f lf x.1 x.2.1⟩
theorem ok(lf:Nat):Ok 128 (E lf):=okT (an:=(annsL [])) (lf:=lf) (tC (kN.ok lf) (tC (ou.ok lf) (tC (iw.ok lf) tN))) aoN fun x=>by kernel_rfl
end oq
namespace jW
def f(lf:Nat)(a0:TI)(a1:ByteArray):Option (Bool×Int×Unit) :=
 bd (bC.f lf a0) fun r1 =>
 br (r1.1 != 0) (
 some (false,r1.1,())) (
 bd (aW.f lf a1) fun r2 =>
 br (r2.1 != 0) (
 some (false,r2.1,())) (
 br a0.1 (
 some (false,0,())) (
 br (a0.2.1.toList==(⟨#[48]⟩:ByteArray).toList) (
 some ((a1.toList==a0.2.2.1.toList),0,())) (
 bd (gq.f lf a1 a0.2.1) fun r3 =>
 bd (iK.f lf r3.1 r3.2.1) fun r4 =>
 some ((r4.1.toList==a0.2.2.1.toList),0,())))))
def E(lf:Nat):Entry:=⟨[yI,.str],[.bool,(.int .i64)],fun x=>f lf x.1 x.2.1⟩
theorem ok(lf:Nat):Ok 136 (E lf):=okT (an:=(annsL [])) (lf:=lf) (tC (aW.ok lf) (tC (bC.ok lf) (tC (iK.ok lf) (tC (gq.ok lf) tN)))) aoN fun x=>by kernel_rfl
end jW
namespace oh
def f(lf:Nat)(a0:TI)(a1:TI):Option (TI×Int×Unit) :=
 bd (kN.f lf a0 a1) fun r1 =>
 br (r1.1 != 0) (
 some ((false,(⟨#[]⟩:ByteArray),(⟨#[]⟩:ByteArray),()),r1.1,())) (
 br a0.1 (
 some (a1,0,())) (
 br a1.1 (
 some (a0,0,())) (
 bd (kz.f lf a0.2.1 a1.2.1) fun r2 =>
 bd (eX.f lf a0.2.2.1 a1.2.2.1) fun r3 =>
 bd (kz.f lf r2.1 r3.1) fun r4 =>
 bd (jZ.f lf r4.1 a0.2.2.1) fun r5 =>
 some (r5.1,0,()))))
def E(lf:Nat):Entry:=⟨[yI,yI],[yI,(.int .i64)],fun x=>f lf x.1 x.2.1⟩
theorem ok(lf:Nat):Ok 123 (E lf):=okT (an:=(annsL [])) (lf:=lf) (tC (kN.ok lf) (tC (jZ.ok lf) (tC (kz.ok lf) (tC (eX.ok lf) tN)))) aoN fun x=>by kernel_rfl
end oh
end
end Go.Q
namespace Go.Q
open Go Go.RowKit
open Go.Rx (br bd sIdx sCat sCut iQuo iRem)
noncomputable section
namespace ja
def f(lf:Nat)(a0:TI):Option (Bool×Unit) :=
 bd (fG.f lf a0.2.1) fun r1 =>
 br r1.1 (
 bd (fG.f lf a0.2.2.1) fun r2 =>
 some (r2.1,())) (
 some (false,()))
def E(lf:Nat):Entry:=⟨[yI],[.bool],fun x=>f lf x.1⟩
theorem ok(lf:Nat):Ok 56 (E lf):=okT (an:=(annsL [])) (lf:=lf) (tC (fG.ok lf) tN) aoN fun x=>by kernel_rfl
end ja
namespace jT
def f(lf:Nat)  : Option (TI×Unit) :=
 some ((true,(⟨#[]⟩:ByteArray),(⟨#[]⟩:ByteArray),()),())
def E(lf:Nat):Entry:=⟨[],[yI],fun x=>f lf⟩
theorem ok(lf:Nat):Ok 74 (E lf):=okT (an:=(annsL [])) (lf:=lf) tN aoN fun x=>by kernel_rfl
end jT
namespace eP
def f(lf:Nat)  : Option (TI×Unit) :=
 some ((false,(⟨#[49]⟩:ByteArray),(⟨#[48]⟩:ByteArray),()),())
def E(lf:Nat):Entry:=⟨[],[yI],fun x=>f lf⟩
theorem ok(lf:Nat):Ok 117 (E lf):=okT (an:=(annsL [])) (lf:=lf) tN aoN fun x=>by kernel_rfl
end eP
namespace fD
def f(lf:Nat)(a0:ByteArray)(a1:ByteArray):Option (TI×Unit) :=
 bd (fU.f lf a0) fun r1 =>
 br (!(a0.toList==(⟨#[48]⟩:ByteArray).toList)) (
 bd (dU.f lf a1 r1.1) fun r2 =>
 bd (aG.f lf r1.1) fun r3 =>
 br (decide (r3.1 > 100)) (
 bd (eP.f lf) fun r4 =>
 some (r4.1,())) (
 bd (aG.f lf r2.1) fun r5 =>
 br (decide (r5.1 > 100)) (
 bd (eP.f lf) fun r6 =>
 some (r6.1,())) (
 some ((false,r1.1,r2.1,()),())))) (
 bd (aG.f lf r1.1) fun r7 =>
 br (decide (r7.1 > 100)) (
 bd (eP.f lf) fun r8 =>
 some (r8.1,())) (
 bd (aG.f lf a1) fun r9 =>
 br (decide (r9.1 > 100)) (
 bd (eP.f lf) fun r10 =>
 some (r10.1,())) (
 some ((false,r1.1,a1,()),()))))
def E(lf:Nat):Entry:=⟨[.str,.str],[yI],fun x=>f lf x.1 x.2.1⟩
theorem ok(lf:Nat):Ok 131 (E lf):=okT (an:=(annsL [])) (lf:=lf) (tC (aG.ok lf) (tC (eP.ok lf) (tC (dU.ok lf) (tC (fU.ok lf) tN)))) aoN fun x=>by kernel_rfl
end fD
namespace jL
def f(lf:Nat)(a0:ByteArray):Option (TI×Unit) :=
 bd (fD.f lf (⟨#[48]⟩:ByteArray) a0) fun r1 =>
 some (r1.1,())
def E(lf:Nat):Entry:=⟨[.str],[yI],fun x=>f lf x.1⟩
theorem ok(lf:Nat):Ok 80 (E lf):=okT (an:=(annsL [])) (lf:=lf) (tC (fD.ok lf) tN) aoN fun x=>by kernel_rfl
end jL
namespace fC
def f(lf:Nat)(a0:TI)(a1:ByteArray):Option (ByteArray×Bool×Unit) :=
 br (a0.2.1.toList==(⟨#[48]⟩:ByteArray).toList) (
 bd (aC.f lf a0.2.2.1 a1) fun r1 =>
 br r1.1 (
 some ((⟨#[]⟩:ByteArray),false,())) (
 some (a0.2.2.1,true,()))) (
 bd (bn.f lf a0.2.2.1 a1) fun r2 =>
 bd (dU.f lf r2.1 a0.2.1) fun r3 =>
 bd (fH.f lf a1 r3.1) fun r4 =>
 some (r4.1,true,()))
def E(lf:Nat):Entry:=⟨[yI,.str],[.str,.bool],fun x=>f lf x.1 x.2.1⟩
theorem ok(lf:Nat):Ok 114 (E lf):=okT (an:=(annsL [])) (lf:=lf) (tC (aC.ok lf) (tC (bn.ok lf) (tC (fH.ok lf) (tC (dU.ok lf) tN)))) aoN fun x=>by kernel_rfl
end fC
namespace gG
def f(lf:Nat)(a0:TI):Option (TI×Unit) :=
 br a0.1 (
 some (a0,())) (
 bd (aZ.f lf a0.2.2.1) fun r1 =>
 bd (fD.f lf a0.2.1 r1.1) fun r2 =>
 some (r2.1,()))
def E(lf:Nat):Entry:=⟨[yI],[yI],fun x=>f lf x.1⟩
theorem ok(lf:Nat):Ok 163 (E lf):=okT (an:=(annsL [])) (lf:=lf) (tC (fD.ok lf) (tC (aZ.ok lf) tN)) aoN fun x=>by kernel_rfl
end gG
namespace ig
def f(lf:Nat)(a0:TI)(a1:ByteArray):Option (ByteArray×Bool×Unit) :=
 bd (gG.f lf a0) fun r1 =>
 bd (aZ.f lf a1) fun r2 =>
 bd (fC.f lf r1.1 r2.1) fun r3 =>
 br (!r3.2.1) (
 some ((⟨#[]⟩:ByteArray),false,())) (
 bd (aZ.f lf r3.1) fun r4 =>
 some (r4.1,true,()))
def E(lf:Nat):Entry:=⟨[yI,.str],[.str,.bool],fun x=>f lf x.1 x.2.1⟩
theorem ok(lf:Nat):Ok 115 (E lf):=okT (an:=(annsL [])) (lf:=lf) (tC (fC.ok lf) (tC (gG.ok lf) (tC (aZ.ok lf) tN))) aoN fun x=>by kernel_rfl
end ig
namespace fV
def f(lf:Nat)(a0:ByteArray):Option (Int×Unit) :=
 bd (bJ.f lf a0) fun r1 =>
 br (!r1.1) (
 some (3,())) (
 bd (aG.f lf a0) fun r2 =>
 br (decide (r2.1 > 100)) (
 some (10,())) (
 some (0,())))
def E(lf:Nat):Entry:=⟨[.str],[(.int .i64)],fun x=>f lf x.1⟩
theorem ok(lf:Nat):Ok 147 (E lf):=okT (an:=(annsL [])) (lf:=lf) (tC (bJ.ok lf) (tC (aG.ok lf) tN)) aoN fun x=>by kernel_rfl
end fV
namespace iq
def f(lf:Nat)(a0:TI):Option (Int×Unit) :=
 br a0.1 (
 br (!(a0.2.1.toList==(⟨#[]⟩:ByteArray).toList)) (
 some (3,())) (
 br (!(a0.2.2.1.toList==(⟨#[]⟩:ByteArray).toList)) (
 some (3,())) (
 some (0,())))) (
 bd (fV.f lf a0.2.1) fun r1 =>
 br (r1.1 != 0) (
 some (r1.1,())) (
 bd (fV.f lf a0.2.2.1) fun r2 =>
 br (r2.1 != 0) (
 some (r2.1,())) (
 bd (dV.f lf a0.2.1) fun r3 =>
 br (decide (r3.1 < 0)) (
 some (2,())) (
 br (!(a0.2.1.toList==(⟨#[48]⟩:ByteArray).toList)) (
 bd (dV.f lf a0.2.2.1) fun r4 =>
 br (decide (r4.1 < 0)) (
 some (2,())) (
 bd (aC.f lf a0.2.2.1 a0.2.1) fun r5 =>
 br (!r5.1) (
 some (2,())) (
 some (0,())))) (
 some (0,()))))))
def E(lf:Nat):Entry:=⟨[yI],[(.int .i64)],fun x=>f lf x.1⟩
theorem ok(lf:Nat):Ok 99 (E lf):=okT (an:=(annsL [])) (lf:=lf) (tC (aC.ok lf) (tC (fV.ok lf) (tC (dV.ok lf) tN))) aoN fun x=>by kernel_rfl
end iq
namespace iC
def f(lf:Nat)(a0:ByteArray)(a1:ByteArray):Option (Bool×Unit) :=
 br (a0.toList==(⟨#[48]⟩:ByteArray).toList) (
 some ((a1.toList==(⟨#[48]⟩:ByteArray).toList),())) (
 bd (dU.f lf a1 a0) fun r1 =>
 some ((r1.1.toList==(⟨#[48]⟩:ByteArray).toList),()))
def E(lf:Nat):Entry:=⟨[.str,.str],[.bool],fun x=>f lf x.1 x.2.1⟩
theorem ok(lf:Nat):Ok 144 (E lf):=okT (an:=(annsL [])) (lf:=lf) (tC (dU.ok lf) tN) aoN fun x=>by kernel_rfl
end iC
namespace kE
def f(lf:Nat)(a0:TI)(a1:ByteArray):Option (Bool×Unit) :=
 br (!a0.1) (
 bd (bn.f lf a1 a0.2.2.1) fun r1 =>
 bd (iC.f lf a0.2.1 r1.1) fun r2 =>
 some (r2.1,())) (
 some (false,()))
def E(lf:Nat):Entry:=⟨[yI,.str],[.bool],fun x=>f lf x.1 x.2.1⟩
theorem ok(lf:Nat):Ok 97 (E lf):=okT (an:=(annsL [])) (lf:=lf) (tC (iC.ok lf) (tC (bn.ok lf) tN)) aoN fun x=>by kernel_rfl
end kE
end
end Go.Q
