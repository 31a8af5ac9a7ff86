import Derived.Test.YtgbokahnpmmfoaaGreatDoorProg
import Derived.KernelRfl
import Derived.Test.YtgbokahnpmmfoaaGreatDoorSLE3
import Derived.Test.YtgbokahnpmmfoaaGreatDoorSLG4
set_option linter.unusedVariables false
set_option linter.unusedSimpArgs false
set_option linter.unusedSectionVars false
set_option maxRecDepth 100000
namespace Go.Q
open Go.IntKind (i64)
open Go Go.RowKit
open Go.Rx (br bd sIdx sCat sCut iQuo iRem)
noncomputable section
namespace aY
def f(lf:Nat)(a0:ByteArray)(a1:ByteArray):Option (ByteArray×Unit) :=
 bd (aG.f lf a0) fun r1 =>
 bd (aG.f lf a1) fun r2 =>
 br (decide ((i64.wrap (r1.1+r2.1))≤18)) (
 bd (aN.f lf a0) fun r3 =>
 bd (aN.f lf a1) fun r4 =>
 bd (aB.f lf (i64.wrap (r3.1*r4.1))) fun r5 =>
 some (r5.1,())) (
 bd (aA.f lf a0) fun r6 =>
 bd (aA.f lf a1) fun r7 =>
 bd (bG.f lf r6.1 r7.1) fun r8 =>
 bd (ah.f lf a0) fun r9 =>
 bd (ah.f lf a1) fun r10 =>
 bd (aC.f lf r8.1 (r9.1 != r10.1)) fun r11 =>
 some (r11.1,()))
def E(lf:Nat):Entry:=⟨[.str,.str],[.str],fun x=>f lf x.1 x.2.1⟩
theorem ok(lf:Nat):Ok 221 (E lf):=okT (an:=(annsL [])) (lf:=lf) (tC (aB.ok lf) (tC (aG.ok lf) (tC (ah.ok lf) (tC (aN.ok lf) (tC (aA.ok lf) (tC (aC.ok lf) (tC (bG.ok lf) tN))))))) aoN fun x=>by kernel_rfl
end aY
namespace jR
def f(lf:Nat)(a0:Int)(a1:Int):Option (Int×Unit) :=
 bd (iQuo .i64 a0 a1) fun r1 =>
 bd (iRem a0 a1) fun r2 =>
 br (r2 != 0) (
 br ((decide (a0 < 0)) !=(decide (a1 < 0))) (
 some ((i64.wrap (r1-1)),())) (
 some (r1,()))) (
 some (r1,()))
def E(lf:Nat):Entry:=⟨[(.int .i64),(.int .i64)],[(.int .i64)],fun x=>f lf x.1 x.2.1⟩
theorem ok(lf:Nat):Ok 273 (E lf):=okT (an:=(annsL [])) (lf:=lf) tN aoN fun x=>by kernel_rfl
end jR
namespace aH
def anns:FuncId→FA:=annsL [(274,⟨annOf [(0,⟨kx 56 [0,1,7,8,9],[],[]⟩,⟨kx 56 [4,5,7,8],[],[]⟩),(1,⟨kx 56 [0,1,7,8,9],[],[]⟩,⟨kx 56 [0,1,4,5,7,8,9],[],[]⟩)],none,[]⟩)]
def r1{ρ:Type}(lf:Nat)(v0 v1:List Int)(v3:Int)(v5 v6:List Int)(v2 v4:List Int)(K:(List Int)→(List Int)→Option ρ)(E0:(List Int)→(List Int)→Option ρ):Option ρ :=
 bd (aW.f lf v2 v1) fun r7 =>
 br (decide (r7.1≥0)) (
 bd (aQ.f lf v2 v1) fun r8 =>
 bd (idxB v4.length v3) fun j9 =>
 bd (v4[j9]?) fun y10 =>
 bd (idxB v4.length v3) fun j11 =>
 bd (upE v4 j11 fun _=>some (i64.wrap (y10+1))) fun q12 =>
 K r8.1 q12) (
 E0 v2 v4)
def l1(lf:Nat)(v0 v1:List Int)(v3:Int)(v5 v6:List Int):Nat→(List Int)→(List Int)→Option (((List Int)×(List Int)×Unit)×Unit)
 | 0,_,_=>none
 | n+1,v2,v4=>r1 lf v0 v1 v3 v5 v6 v2 v4 (l1 lf v0 v1 v3 v5 v6 n) (fun w0 w1=>some ((w0,w1,()),()))
def sh1:ShS:=⟨[.s (.sl (.int .i64)),.s (.sl (.int .i64)),.a 5,.s (.row 0),.s (.sl (.int .i64)),.s (.int .i64),.a 46],[.row (.int .i64) 3 false,.gone,.row (.int .i64) 3 false,.gone,.row (.int .i64) 3 true]⟩
def S1(p:(List Int)×(List Int)×(List Int)×Int×(List Int)×(List Int)×(List Int)×Unit):St:=sh1.b p
def xh0:ShS:=⟨[.s (.sl (.int .i64)),.s (.sl (.int .i64)),.a 5,.s (.row 0),.s (.sl (.int .i64)),.s (.int .i64),.a 46],[.row (.int .i64) 3 false,.gone,.row (.int .i64) 3 false,.gone,.row (.int .i64) 3 true]⟩
def o1(v0 v1:List Int)(v3:Int)(v5 v6:List Int)(y:((List Int)×(List Int)×Unit)×Unit):Alt:=.one (.exit 2) (xh0.b (v0,v1,y.1.1,v3,y.1.2.1,v5,v6,()))
def r2{ρ:Type}(lf:Nat)(v0 v1 v5:List Int)(v2:List Int)(v3:Int)(v4:List Int)(K:(List Int)→Int→(List Int)→Option ρ)(E0:(List Int)→(List Int)→(List Int)→Option ρ):Option ρ :=
 br (decide (v3≥0)) (
 bd (idxL v0 v3) fun y15 =>
 bd (apL true 8 [y15] v2) fun q16 =>
 bd (ax.f lf q16) fun r17 =>
 bd (l1 lf v0 v1 v3 v5 q16 (lf+40) r17.1 v4) fun z18 =>
 K z18.1.1 (i64.wrap (v3-1)) z18.1.2.1) (
 E0 v2 v4 v5)
def l2(lf:Nat)(v0 v1 v5:List Int):Nat→(List Int)→Int→(List Int)→Option (((List Int)×(List Int)×(List Int)×Unit)×Unit)
 | 0,_,_,_=>none
 | n+1,v2,v3,v4=>r2 lf v0 v1 v5 v2 v3 v4 (l2 lf v0 v1 v5 n) (fun w0 w1 w2=>some ((w0,w1,w2,()),()))
def sh2:ShS:=⟨[.s (.sl (.int .i64)),.s (.sl (.int .i64)),.a 5,.s (.row 0),.s (.sl (.int .i64)),.s (.int .i64),.a 46],[.row (.int .i64) 3 false,.gone,.row (.int .i64) 3 false]⟩
def S2(p:(List Int)×(List Int)×(List Int)×Int×(List Int)×(List Int)×Unit):St:=sh2.b p
def xh1:ShS:=⟨[.a 7,.s (.row 0),.s (.sl (.int .i64)),.a 47],[.row (.int .i64) 3 false,.gone,.row (.int .i64) 3 false]⟩
def o2(v0 v1 v5:List Int)(y:((List Int)×(List Int)×(List Int)×Unit)×Unit):Alt:=.one (.exit 0) (xh1.b (y.1.1,y.1.2.1,y.1.2.2.1,()))
def r0{ρ:Type}(lf:Nat)(v0 v1:List Int)(v2:Int)(v3 v4:List Int)(K2:(List Int)→(List Int)→(List Int)→Int→(List Int)→(List Int)→Option ρ)(E0:(List Int)→(List Int)→Option ρ):Option ρ :=
 br (decide (v2≥0)) (
 bd (idxL v0 v2) fun y4 =>
 bd (apL true 8 [y4] v4) fun q5 =>
 bd (ax.f lf q5) fun r6 =>
 bd (l1 lf v0 v1 v2 v4 q5 (lf+40) r6.1 v3) fun z14 =>
 K2 v0 v1 z14.1.1 (i64.wrap (v2-1)) z14.1.2.1 v4) (
 E0 v3 v4)
def l0(lf:Nat)(v0 v1:List Int)(v2:Int)(v3 v4:List Int):Nat→Option (Bool×((List Int)×(List Int)×Unit)×((List Int)×(List Int)×(List Int)×Unit)×Unit)
 | 0=>none
 | n+1=>r0 lf v0 v1 v2 v3 v4 (fun x0 x1 x2 x3 x4 x5=>bd (l2 lf x0 x1 x5 n x2 x3 x4) fun z19=>some (false,([],[],()),((z19.1.1,z19.1.2.1,z19.1.2.2.1,()),()))) (fun w0 w1=>some (true,(w0,w1,()),(([],[],[],()),())))
def sh0:ShS:=⟨[.s (.sl (.int .i64)),.s (.sl (.int .i64)),.a 5,.s (.row 0),.s (.row 2),.s (.int .i64),.a 46],[.row (.int .i64) 3 false,.gone,.row (.int .i64) 3 false]⟩
def S0(p:(List Int)×(List Int)×Int×(List Int)×(List Int)×Unit):St:=sh0.b p
def xh2:ShS:=⟨[.a 7,.s (.row 0),.s (.row 2),.a 47],[.row (.int .i64) 3 false,.gone,.row (.int .i64) 3 false]⟩
def o0(v0 v1:List Int)(v2:Int)(v3 v4:List Int)(y:Bool×((List Int)×(List Int)×Unit)×((List Int)×(List Int)×(List Int)×Unit)×Unit):Alt:=.two y.1 (.one (.exit 0) (xh2.b (y.2.1.1,y.2.1.2.1,()))) (.one (.exit 0) (xh1.b (y.2.2.1.1,y.2.2.1.2.1,y.2.2.1.2.2.1,())))
def tb(lf:Nat):List (FuncId×Entry):=[(218,aW.E lf),(219,ax.E lf),(220,aQ.E lf)]
def zX(lf:Nat):List (Nat×(St→Option LTE)):=[(0,sumE sh2 fun(p:(List Int)×(List Int)×(List Int)×Int×(List Int)×(List Int)×Unit)=>⟨((List Int)×(List Int)×(List Int)×Unit)×Unit,l2 lf p.1 p.2.1 p.2.2.2.2.2.1 (lf+40) p.2.2.1 p.2.2.2.1 p.2.2.2.2.1,o2 p.1 p.2.1 p.2.2.2.2.2.1⟩),
 (0,sumE sh0 fun(p:(List Int)×(List Int)×Int×(List Int)×(List Int)×Unit)=>⟨Bool×((List Int)×(List Int)×Unit)×((List Int)×(List Int)×(List Int)×Unit)×Unit,l0 lf p.1 p.2.1 p.2.2.1 p.2.2.2.1 p.2.2.2.2.1 (lf+40),o0 p.1 p.2.1 p.2.2.1 p.2.2.2.1 p.2.2.2.2.1⟩),
 (1,sumE sh1 fun(p:(List Int)×(List Int)×(List Int)×Int×(List Int)×(List Int)×(List Int)×Unit)=>⟨((List Int)×(List Int)×Unit)×Unit,l1 lf p.1 p.2.1 p.2.2.2.1 p.2.2.2.2.2.1 p.2.2.2.2.2.2.1 (lf+40) p.2.2.1 p.2.2.2.2.1,o1 p.1 p.2.1 p.2.2.2.1 p.2.2.2.2.2.1 p.2.2.2.2.2.2.1⟩)]
def ls(lf:Nat):List (Nat×FuncId×Sums):=[(13,274,sumsL (zX lf))]
def it1{ρ:Type}(lf n:Nat)(st:St)(k:KE ρ):Option ρ:=itG anns (ls lf) (tb lf) lf 13 274 1 5 (sumsL (zX lf)) n st k
theorem t1{ρ:Type}(lf n:Nat)(v0 v1 v2:List Int)(v3:Int)(v4 v5 v6:List Int)(k:KE ρ):it1 lf (n+1) (S1 (v0,v1,v2,v3,v4,v5,v6,())) k=r1 lf v0 v1 v3 v5 v6 v2 v4 (fun x0 x1=>it1 lf n (S1 (v0,v1,x0,v3,x1,v5,v6,())) k) (fun w0 w1=>k (.exit 2) (xh0.b (v0,v1,w0,v3,w1,v5,v6,()))):=by kernel_rfl
theorem u1{ρ:Type}(lf:Nat)(v0 v1:List Int)(v3:Int)(v5 v6:List Int)(k:KE ρ):∀ (n:Nat) (v2 v4:List Int),it1 lf n (S1 (v0,v1,v2,v3,v4,v5,v6,())) k=bd (l1 lf v0 v1 v3 v5 v6 n v2 v4) fun y=>altK k (o1 v0 v1 v3 v5 v6 y)
 | 0,_,_=>by rw[l1,au];rfl
 | n+1,v2,v4=>by
  rw[t1];simp only[l1,r1,u1 lf v0 v1 v3 v5 v6 k n,dA,dw,aF,au,br_t,br_f,o1,altK]
def it2{ρ:Type}(lf n:Nat)(st:St)(k:KE ρ):Option ρ:=itG anns (ls lf) (tb lf) lf 13 274 0 3 (sumsL (zX lf)) n st k
theorem t2{ρ:Type}(lf n:Nat)(v0 v1 v2:List Int)(v3:Int)(v4 v5:List Int)(k:KE ρ):it2 lf (n+1) (S2 (v0,v1,v2,v3,v4,v5,())) k=r2 lf v0 v1 v5 v2 v3 v4 (fun x0 x1 x2=>it2 lf n (S2 (v0,v1,x0,x1,x2,v5,())) k) (fun w0 w1 w2=>k (.exit 0) (xh1.b (w0,w1,w2,()))):=by kernel_rfl
theorem u2{ρ:Type}(lf:Nat)(v0 v1 v5:List Int)(k:KE ρ):∀ (n:Nat) (v2:List Int) (v3:Int) (v4:List Int),it2 lf n (S2 (v0,v1,v2,v3,v4,v5,())) k=bd (l2 lf v0 v1 v5 n v2 v3 v4) fun y=>altK k (o2 v0 v1 v5 y)
 | 0,_,_,_=>by rw[l2,au];rfl
 | n+1,v2,v3,v4=>by
  rw[t2];simp only[l2,r2,u2 lf v0 v1 v5 k n,dA,dw,aF,au,br_t,br_f,o2,altK]
def it0{ρ:Type}(lf n:Nat)(st:St)(k:KE ρ):Option ρ:=itG anns (ls lf) (tb lf) lf 13 274 0 3 (sumsL (zX lf)) n st k
theorem t0{ρ:Type}(lf n:Nat)(v0 v1:List Int)(v2:Int)(v3 v4:List Int)(k:KE ρ):it0 lf (n+1) (S0 (v0,v1,v2,v3,v4,())) k=r0 lf v0 v1 v2 v3 v4 (fun x0 x1 x2 x3 x4 x5=>it2 lf n (S2 (x0,x1,x2,x3,x4,x5,())) k) (fun w0 w1=>k (.exit 0) (xh2.b (w0,w1,()))):=by kernel_rfl
theorem u0{ρ:Type}(lf:Nat)(v0 v1:List Int)(v2:Int)(v3 v4:List Int)(k:KE ρ):∀ (n:Nat),it0 lf n (S0 (v0,v1,v2,v3,v4,())) k=bd (l0 lf v0 v1 v2 v3 v4 n) fun y=>altK k (o0 v0 v1 v2 v3 v4 y)
 | 0=>by rw[l0,au];rfl
 | n+1=>by
  rw[t0];simp only[l0,r0,u2,dA,dw,aF,au,br_t,br_f,o0,o2,altK]
theorem sl(lf:Nat):SL anns (ls lf) (tb lf) lf (ls lf):=slC (laC (fun _=>by kernel_rfl) (fun _ (x:(List Int)×(List Int)×(List Int)×Int×(List Int)×(List Int)×Unit) k=>bg (u2 lf x.1 x.2.1 x.2.2.2.2.2.1 k (lf+40) x.2.2.1 x.2.2.2.1 x.2.2.2.2.1)) (laC (fun _=>by kernel_rfl) (fun _ (x:(List Int)×(List Int)×Int×(List Int)×(List Int)×Unit) k=>bg (u0 lf x.1 x.2.1 x.2.2.1 x.2.2.2.1 x.2.2.2.2.1 k (lf+40))) (laC (fun _=>by kernel_rfl) (fun _ (x:(List Int)×(List Int)×(List Int)×Int×(List Int)×(List Int)×(List Int)×Unit) k=>bg (u1 lf x.1 x.2.1 x.2.2.2.1 x.2.2.2.2.2.1 x.2.2.2.2.2.2.1 k (lf+40) x.2.2.1 x.2.2.2.2.1)) laN))) slN
def f(lf:Nat)(a0:List Int)(a1:List Int):Option ((List Int)×(List Int)×Unit) :=
 bd (mkL (if(i64.wrap ((i64.wrap (((a0.length:Nat):Int)-((a1.length:Nat):Int)))+1)) > 0 then(i64.wrap ((i64.wrap (((a0.length:Nat):Int)-((a1.length:Nat):Int)))+1))else 0) (if(i64.wrap ((i64.wrap (((a0.length:Nat):Int)-((a1.length:Nat):Int)))+1)) > 0 then(i64.wrap ((i64.wrap (((a0.length:Nat):Int)-((a1.length:Nat):Int)))+1))else 0) 8 0) fun q1 =>
 bd (cutL a0 (some (if(i64.wrap ((i64.wrap (((a0.length:Nat):Int)-((a1.length:Nat):Int)))+1)) > 0 then(i64.wrap ((i64.wrap (((a0.length:Nat):Int)-((a1.length:Nat):Int)))+1))else 0)) none) fun q2 =>
 bd (apL true 8 [] q2) fun q3 =>
 bd (l0 lf a0 a1 (i64.wrap ((if(i64.wrap ((i64.wrap (((a0.length:Nat):Int)-((a1.length:Nat):Int)))+1)) > 0 then(i64.wrap ((i64.wrap (((a0.length:Nat):Int)-((a1.length:Nat):Int)))+1))else 0)-1)) q1 q3 (lf+40)) fun z20 =>
 br z20.1 (
 bd (ax.f lf z20.2.1.1) fun r21 =>
 some (r21.1,z20.2.1.2.1,())) (
 bd (ax.f lf z20.2.2.1.2.1) fun r22 =>
 some (r22.1,z20.2.2.1.1,()))
def E(lf:Nat):Entry:=⟨[(.sl (.int .i64)),(.sl (.int .i64))],[(.sl (.int .i64)),(.sl (.int .i64))],fun x=>f lf x.1 x.2.1⟩
theorem ok(lf:Nat):Ok 274 (E lf):=okL (tC (aW.ok lf) (tC (ax.ok lf) (tC (aQ.ok lf) tN))) (aoC aoN) (sl lf) fun x=>by kernel_rfl
end aH
namespace dh
def f(lf:Nat)(a0:ByteArray)(a1:ByteArray):Option (ByteArray×Unit) :=
 bd (fA.f lf a0 17) fun r1 =>
 br r1.1 (
 bd (fA.f lf a1 17) fun r2 =>
 br r2.1 (
 bd (aN.f lf a0) fun r3 =>
 bd (aN.f lf a1) fun r4 =>
 bd (jR.f lf r3.1 r4.1) fun r5 =>
 bd (aB.f lf r5.1) fun r6 =>
 some (r6.1,())) (
 bd (aA.f lf a0) fun r7 =>
 bd (ax.f lf r7.1) fun r8 =>
 bd (aA.f lf a1) fun r9 =>
 bd (ax.f lf r9.1) fun r10 =>
 bd (aH.f lf r8.1 r10.1) fun r11 =>
 bd (ah.f lf a0) fun r12 =>
 bd (ah.f lf a1) fun r13 =>
 bd (aC.f lf r11.1 (r12.1 != r13.1)) fun r14 =>
 bd (ah.f lf a0) fun r15 =>
 bd (ah.f lf a1) fun r16 =>
 br (r15.1 != r16.1) (
 br (decide (((r11.2.1.length:Nat):Int) > 0)) (
 bd (aJ.f lf r14.1 (⟨#[49]⟩:ByteArray)) fun r17 =>
 some (r17.1,())) (
 some (r14.1,()))) (
 some (r14.1,())))) (
 bd (aA.f lf a0) fun r18 =>
 bd (ax.f lf r18.1) fun r19 =>
 bd (aA.f lf a1) fun r20 =>
 bd (ax.f lf r20.1) fun r21 =>
 bd (aH.f lf r19.1 r21.1) fun r22 =>
 bd (ah.f lf a0) fun r23 =>
 bd (ah.f lf a1) fun r24 =>
 bd (aC.f lf r22.1 (r23.1 != r24.1)) fun r25 =>
 bd (ah.f lf a0) fun r26 =>
 bd (ah.f lf a1) fun r27 =>
 br (r26.1 != r27.1) (
 br (decide (((r22.2.1.length:Nat):Int) > 0)) (
 bd (aJ.f lf r25.1 (⟨#[49]⟩:ByteArray)) fun r28 =>
 some (r28.1,())) (
 some (r25.1,()))) (
 some (r25.1,())))
def E(lf:Nat):Entry:=⟨[.str,.str],[.str],fun x=>f lf x.1 x.2.1⟩
theorem ok(lf:Nat):Ok 222 (E lf):=okT (an:=(annsL [])) (lf:=lf) (tC (aB.ok lf) (tC (ah.ok lf) (tC (aJ.ok lf) (tC (fA.ok lf) (tC (aN.ok lf) (tC (aA.ok lf) (tC (aC.ok lf) (tC (ax.ok lf) (tC (jR.ok lf) (tC (aH.ok lf) tN)))))))))) aoN fun x=>by kernel_rfl
end dh
namespace bF
def f(lf:Nat)(a0:ByteArray)(a1:ByteArray):Option (ByteArray×Unit) :=
 bd (dh.f lf a0 a1) fun r1 =>
 bd (aY.f lf a1 r1.1) fun r2 =>
 bd (aJ.f lf a0 r2.1) fun r3 =>
 some (r3.1,())
def E(lf:Nat):Entry:=⟨[.str,.str],[.str],fun x=>f lf x.1 x.2.1⟩
theorem ok(lf:Nat):Ok 162 (E lf):=okT (an:=(annsL [])) (lf:=lf) (tC (aJ.ok lf) (tC (aY.ok lf) (tC (dh.ok lf) tN))) aoN fun x=>by kernel_rfl
end bF
namespace aT
def f(lf:Nat)(a0:ByteArray):Option (ByteArray×Unit) :=
 bd (ah.f lf a0) fun r1 =>
 br r1.1 (
 bd (sCut a0 (some 1) none) fun r2 =>
 some (r2,())) (
 some (a0,()))
def E(lf:Nat):Entry:=⟨[.str],[.str],fun x=>f lf x.1⟩
theorem ok(lf:Nat):Ok 183 (E lf):=okT (an:=(annsL [])) (lf:=lf) (tC (ah.ok lf) tN) aoN fun x=>by kernel_rfl
end aT
namespace dF
def f(lf:Nat)(a0:ByteArray):Option (Int×Unit) :=
 br (a0.toList==(⟨#[48]⟩:ByteArray).toList) (
 some (0,())) (
 bd (ah.f lf a0) fun r1 =>
 br r1.1 (
 some ((-1),())) (
 some (1,())))
def E(lf:Nat):Entry:=⟨[.str],[(.int .i64)],fun x=>f lf x.1⟩
theorem ok(lf:Nat):Ok 148 (E lf):=okT (an:=(annsL [])) (lf:=lf) (tC (ah.ok lf) tN) aoN fun x=>by kernel_rfl
end dF
namespace jQ
def f(lf:Nat)(a0:ByteArray)(a1:ByteArray):Option (Int×Unit) :=
 bd (dF.f lf a0) fun r1 =>
 bd (dF.f lf a1) fun r2 =>
 br (r1.1 != r2.1) (
 br (decide (r1.1 < r2.1)) (
 some ((-1),())) (
 some (1,()))) (
 bd (aA.f lf a0) fun r3 =>
 bd (ax.f lf r3.1) fun r4 =>
 bd (aA.f lf a1) fun r5 =>
 bd (ax.f lf r5.1) fun r6 =>
 bd (aW.f lf r4.1 r6.1) fun r7 =>
 some ((i64.wrap (r1.1*r7.1)),()))
def E(lf:Nat):Entry:=⟨[.str,.str],[(.int .i64)],fun x=>f lf x.1 x.2.1⟩
theorem ok(lf:Nat):Ok 165 (E lf):=okT (an:=(annsL [])) (lf:=lf) (tC (dF.ok lf) (tC (aA.ok lf) (tC (aW.ok lf) (tC (ax.ok lf) tN)))) aoN fun x=>by kernel_rfl
end jQ
namespace ay
def f(lf:Nat)(a0:ByteArray)(a1:ByteArray):Option (Bool×Unit) :=
 bd (jQ.f lf a0 a1) fun r1 =>
 some ((decide (r1.1 < 0)),())
def E(lf:Nat):Entry:=⟨[.str,.str],[.bool],fun x=>f lf x.1 x.2.1⟩
theorem ok(lf:Nat):Ok 116 (E lf):=okT (an:=(annsL [])) (lf:=lf) (tC (jQ.ok lf) tN) aoN fun x=>by kernel_rfl
end ay
end
end Go.Q
namespace Go.Q
open Go.IntKind (i64)
open Go Go.RowKit
open Go.Rx (br bd sIdx sCat sCut iQuo iRem)
noncomputable section
namespace dD
def anns:FuncId→FA:=annsL [(94,⟨annOf [(0,⟨kx 42 [0,4],[],[]⟩,⟨kx 42 [2],[],[]⟩)],none,[]⟩)]
def r0{ρ:Type}(lf:Nat)(v0:ByteArray)(v1:Int)(K:Int→Option ρ)(E0:Option ρ)(E1:Option ρ):Option ρ :=
 br (decide (v1 < ((v0.size:Nat):Int))) (
 bd (sIdx v0 v1) fun r3 =>
 br (decide (((r3.toNat:Nat):Int) < 48)) (
 E0) (
 bd (sIdx v0 v1) fun r4 =>
 br (decide (((r4.toNat:Nat):Int) > 57)) (
 E0) (
 K (i64.wrap (v1+1))))) (
 E1)
def l0(lf:Nat)(v0:ByteArray):Nat→Int→Option (Bool×(Unit)×(Unit)×Unit)
 | 0,_=>none
 | n+1,v1=>r0 lf v0 v1 (l0 lf v0 n) (some (true,(()),((()),()))) (some (false,(()),((()),())))
def sh0:ShS:=⟨[.s .str,.a 3,.s (.int .i64),.a 37],[]⟩
def S0(p:ByteArray×Int×Unit):St:=sh0.b p
def xh0:ShS:=⟨[.a 2,.s .bool,.a 39],[]⟩
def xh1:ShS:=⟨[.a 42],[]⟩
def o0(v0:ByteArray)(y:Bool×(Unit)×(Unit)×Unit):Alt:=.two y.1 (.one .ret (xh0.b (false,()))) (.one (.exit 0) (xh1.b (())))
def tb(lf:Nat):List (FuncId×Entry):=[]
def aiu(lf:Nat):List (Nat×(St→Option LTE)):=[(0,sumE sh0 fun(p:ByteArray×Int×Unit)=>⟨Bool×(Unit)×(Unit)×Unit,l0 lf p.1 (lf+40) p.2.1,o0 p.1⟩)]
def ls(lf:Nat):List (Nat×FuncId×Sums):=[(13,94,sumsL (aiu lf))]
def it0{ρ:Type}(lf n:Nat)(st:St)(k:KE ρ):Option ρ:=itG anns (ls lf) (tb lf) lf 13 94 0 0 (sumsL (aiu lf)) n st k
theorem t0{ρ:Type}(lf n:Nat)(v0:ByteArray)(v1:Int)(k:KE ρ):it0 lf (n+1) (S0 (v0,v1,())) k=r0 lf v0 v1 (fun x0=>it0 lf n (S0 (v0,x0,())) k) (k .ret (xh0.b (false,()))) (k (.exit 0) (xh1.b (()))):=by kernel_rfl
theorem u0{ρ:Type}(lf:Nat)(v0:ByteArray)(k:KE ρ):∀ (n:Nat) (v1:Int),it0 lf n (S0 (v0,v1,())) k=bd (l0 lf v0 n v1) fun y=>altK k (o0 v0 y)
 | 0,_=>by rw[l0,au];rfl
 | n+1,v1=>by
  rw[t0];simp only[l0,r0,u0 lf v0 k n,dA,dw,aF,au,br_t,br_f,o0,altK]
theorem sl(lf:Nat):SL anns (ls lf) (tb lf) lf (ls lf):=slC (laC (fun _=>by kernel_rfl) (fun _ (x:ByteArray×Int×Unit) k=>bg (u0 lf x.1 k (lf+40) x.2.1)) laN) slN
def f(lf:Nat)(a0:ByteArray):Option (Bool×Unit) :=
 br (a0.toList==(⟨#[48]⟩:ByteArray).toList) (
 some (true,())) (
 br (decide (((a0.size:Nat):Int) > 0)) (
 bd (sIdx a0 0) fun r1 =>
 br (((r1.toNat:Nat):Int)==45) (
 br (1==((a0.size:Nat):Int)) (
 some (false,())) (
 bd (sIdx a0 1) fun r2 =>
 br (((r2.toNat:Nat):Int)==48) (
 some (false,())) (
 bd (l0 lf a0 (lf+40) 1) fun z5 =>
 br z5.1 (
 some (false,())) (
 some (true,()))))) (
 br (0==((a0.size:Nat):Int)) (
 some (false,())) (
 bd (sIdx a0 0) fun r6 =>
 br (((r6.toNat:Nat):Int)==48) (
 some (false,())) (
 bd (l0 lf a0 (lf+40) 0) fun z7 =>
 br z7.1 (
 some (false,())) (
 some (true,())))))) (
 br (0==((a0.size:Nat):Int)) (
 some (false,())) (
 bd (sIdx a0 0) fun r8 =>
 br (((r8.toNat:Nat):Int)==48) (
 some (false,())) (
 bd (l0 lf a0 (lf+40) 0) fun z9 =>
 br z9.1 (
 some (false,())) (
 some (true,()))))))
def E(lf:Nat):Entry:=⟨[.str],[.bool],fun x=>f lf x.1⟩
theorem ok(lf:Nat):Ok 94 (E lf):=okL tN (aoC aoN) (sl lf) fun x=>by kernel_rfl
end dD
namespace jP
def f(lf:Nat)(a0:ByteArray):Option (Int×Unit) :=
 bd (dD.f lf a0) fun r1 =>
 br (!r1.1) (
 some (3,())) (
 bd (aG.f lf a0) fun r2 =>
 br (decide (r2.1 > 4096)) (
 some (10,())) (
 some (0,())))
def E(lf:Nat):Entry:=⟨[.str],[(.int .i64)],fun x=>f lf x.1⟩
theorem ok(lf:Nat):Ok 40 (E lf):=okT (an:=(annsL [])) (lf:=lf) (tC (dD.ok lf) (tC (aG.ok lf) tN)) aoN fun x=>by kernel_rfl
end jP
namespace bT
def anns:FuncId→FA:=annsL [(233,⟨annOf [(0,⟨kx 18 [5,6],[],[]⟩,⟨kx 18 [4,5],[],[]⟩)],none,[]⟩)]
def r0{ρ:Type}(lf:Nat)(v0 v1:ByteArray)(K:ByteArray→ByteArray→Option ρ)(E0:ByteArray→Option ρ):Option ρ :=
 br (!(v1.toList==(⟨#[48]⟩:ByteArray).toList)) (
 bd (bF.f lf v0 v1) fun r3 =>
 K v1 r3.1) (
 E0 v0)
def l0(lf:Nat):Nat→ByteArray→ByteArray→Option ((ByteArray×Unit)×Unit)
 | 0,_,_=>none
 | n+1,v0,v1=>r0 lf v0 v1 (l0 lf n) (fun w0=>some ((w0,()),()))
def sh0:ShS:=⟨[.a 5,.s .str,.s .str,.a 11],[]⟩
def S0(p:ByteArray×ByteArray×Unit):St:=sh0.b p
def xh0:ShS:=⟨[.a 5,.s .str,.a 12],[]⟩
def o0(y:(ByteArray×Unit)×Unit):Alt:=.one (.exit 0) (xh0.b (y.1.1,()))
def tb(lf:Nat):List (FuncId×Entry):=[(162,bF.E lf),(183,aT.E lf)]
def afZ(lf:Nat):List (Nat×(St→Option LTE)):=[(0,sumE sh0 fun(p:ByteArray×ByteArray×Unit)=>⟨(ByteArray×Unit)×Unit,l0 lf (lf+40) p.1 p.2.1,o0⟩)]
def ls(lf:Nat):List (Nat×FuncId×Sums):=[(13,233,sumsL (afZ lf))]
def it0{ρ:Type}(lf n:Nat)(st:St)(k:KE ρ):Option ρ:=itG anns (ls lf) (tb lf) lf 13 233 0 0 (sumsL (afZ lf)) n st k
theorem t0{ρ:Type}(lf n:Nat)(v0 v1:ByteArray)(k:KE ρ):it0 lf (n+1) (S0 (v0,v1,())) k=r0 lf v0 v1 (fun x0 x1=>it0 lf n (S0 (x0,x1,())) k) (fun w0=>k (.exit 0) (xh0.b (w0,()))):=by kernel_rfl
theorem u0{ρ:Type}(lf:Nat)(k:KE ρ):∀ (n:Nat) (v0 v1:ByteArray),it0 lf n (S0 (v0,v1,())) k=bd (l0 lf n v0 v1) fun y=>altK k (o0 y)
 | 0,_,_=>by rw[l0,au];rfl
 | n+1,v0,v1=>by
  rw[t0];simp only[l0,r0,u0 lf k n,dA,dw,aF,au,br_t,br_f,o0,altK]
theorem sl(lf:Nat):SL anns (ls lf) (tb lf) lf (ls lf):=slC (laC (fun _=>by kernel_rfl) (fun _ (x:ByteArray×ByteArray×Unit) k=>bg (u0 lf k (lf+40) x.1 x.2.1)) laN) slN
def f(lf:Nat)(a0:ByteArray)(a1:ByteArray):Option (ByteArray×Unit) :=
 bd (aT.f lf a0) fun r1 =>
 bd (aT.f lf a1) fun r2 =>
 bd (l0 lf (lf+40) r1.1 r2.1) fun z4 =>
 some (z4.1.1,())
def E(lf:Nat):Entry:=⟨[.str,.str],[.str],fun x=>f lf x.1 x.2.1⟩
theorem ok(lf:Nat):Ok 233 (E lf):=okL (tC (bF.ok lf) (tC (aT.ok lf) tN)) (aoC aoN) (sl lf) fun x=>by kernel_rfl
end bT
namespace aU
def anns:FuncId→FA:=annsL [(243,⟨annOf [(0,⟨kx 53 [0,1,6,7,8,9],[],[]⟩,⟨kx 53 [0,1,4,5,6,8],[],[]⟩)],none,[]⟩)]
def r0{ρ:Type}(lf:Nat)(v0 v1:ByteArray)(v2 v3 v4 v5:ByteArray)(K:ByteArray→ByteArray→ByteArray→ByteArray→Option ρ)(E0:ByteArray→ByteArray→Option ρ):Option ρ :=
 br (!(v3.toList==(⟨#[48]⟩:ByteArray).toList)) (
 bd (dh.f lf v2 v3) fun r6 =>
 bd (aY.f lf r6.1 v3) fun r7 =>
 bd (aJ.f lf v2 r7.1) fun r8 =>
 bd (aY.f lf r6.1 v5) fun r9 =>
 bd (aJ.f lf v4 r9.1) fun r10 =>
 K v3 r8.1 v5 r10.1) (
 E0 v2 v4)
def l0(lf:Nat)(v0 v1:ByteArray):Nat→ByteArray→ByteArray→ByteArray→ByteArray→Option ((ByteArray×ByteArray×Unit)×Unit)
 | 0,_,_,_,_=>none
 | n+1,v2,v3,v4,v5=>r0 lf v0 v1 v2 v3 v4 v5 (l0 lf v0 v1 n) (fun w0 w1=>some ((w0,w1,()),()))
def sh0:ShS:=⟨[.s .str,.s .str,.a 4,.s .str,.s .str,.s .str,.s .str,.a 43],[]⟩
def S0(p:ByteArray×ByteArray×ByteArray×ByteArray×ByteArray×ByteArray×Unit):St:=sh0.b p
def xh0:ShS:=⟨[.s .str,.s .str,.a 4,.s .str,.a 1,.s .str,.a 44],[]⟩
def o0(v0 v1:ByteArray)(y:(ByteArray×ByteArray×Unit)×Unit):Alt:=.one (.exit 0) (xh0.b (v0,v1,y.1.1,y.1.2.1,()))
def tb(lf:Nat):List (FuncId×Entry):=[(29,aB.E lf),(145,aJ.E lf),(148,dF.E lf),(162,bF.E lf),(183,aT.E lf),(221,aY.E lf),(222,dh.E lf)]
def af0(lf:Nat):List (Nat×(St→Option LTE)):=[(0,sumE sh0 fun(p:ByteArray×ByteArray×ByteArray×ByteArray×ByteArray×ByteArray×Unit)=>⟨(ByteArray×ByteArray×Unit)×Unit,l0 lf p.1 p.2.1 (lf+40) p.2.2.1 p.2.2.2.1 p.2.2.2.2.1 p.2.2.2.2.2.1,o0 p.1 p.2.1⟩)]
def ls(lf:Nat):List (Nat×FuncId×Sums):=[(13,243,sumsL (af0 lf))]
def it0{ρ:Type}(lf n:Nat)(st:St)(k:KE ρ):Option ρ:=itG anns (ls lf) (tb lf) lf 13 243 0 0 (sumsL (af0 lf)) n st k
theorem t0{ρ:Type}(lf n:Nat)(v0 v1 v2 v3 v4 v5:ByteArray)(k:KE ρ):it0 lf (n+1) (S0 (v0,v1,v2,v3,v4,v5,())) k=r0 lf v0 v1 v2 v3 v4 v5 (fun x0 x1 x2 x3=>it0 lf n (S0 (v0,v1,x0,x1,x2,x3,())) k) (fun w0 w1=>k (.exit 0) (xh0.b (v0,v1,w0,w1,()))):=by kernel_rfl
theorem u0{ρ:Type}(lf:Nat)(v0 v1:ByteArray)(k:KE ρ):∀ (n:Nat) (v2 v3 v4 v5:ByteArray),it0 lf n (S0 (v0,v1,v2,v3,v4,v5,())) k=bd (l0 lf v0 v1 n v2 v3 v4 v5) fun y=>altK k (o0 v0 v1 y)
 | 0,_,_,_,_=>by rw[l0,au];rfl
 | n+1,v2,v3,v4,v5=>by
  rw[t0];simp only[l0,r0,u0 lf v0 v1 k n,dA,dw,aF,au,br_t,br_f,o0,altK]
theorem sl(lf:Nat):SL anns (ls lf) (tb lf) lf (ls lf):=slC (laC (fun _=>by kernel_rfl) (fun _ (x:ByteArray×ByteArray×ByteArray×ByteArray×ByteArray×ByteArray×Unit) k=>bg (u0 lf x.1 x.2.1 k (lf+40) x.2.2.1 x.2.2.2.1 x.2.2.2.2.1 x.2.2.2.2.2.1)) laN) slN
def f(lf:Nat)(a0:ByteArray)(a1:ByteArray):Option (ByteArray×ByteArray×Unit) :=
 br (a1.toList==(⟨#[48]⟩:ByteArray).toList) (
 bd (dF.f lf a0) fun r1 =>
 bd (aB.f lf r1.1) fun r2 =>
 some (r2.1,(⟨#[48]⟩:ByteArray),())) (
 bd (aT.f lf a1) fun r3 =>
 bd (aT.f lf a1) fun r4 =>
 bd (bF.f lf a0 r4.1) fun r5 =>
 bd (l0 lf a0 a1 (lf+40) r3.1 r5.1 (⟨#[48]⟩:ByteArray) (⟨#[49]⟩:ByteArray)) fun z11 =>
 bd (aT.f lf a1) fun r12 =>
 bd (dh.f lf r12.1 z11.1.1) fun r13 =>
 bd (bF.f lf z11.1.2.1 r13.1) fun r14 =>
 bd (aY.f lf a0 r14.1) fun r15 =>
 bd (aJ.f lf z11.1.1 r15.1) fun r16 =>
 bd (dh.f lf r16.1 a1) fun r17 =>
 some (r14.1,r17.1,()))
def E(lf:Nat):Entry:=⟨[.str,.str],[.str,.str],fun x=>f lf x.1 x.2.1⟩
theorem ok(lf:Nat):Ok 243 (E lf):=okL (tC (aB.ok lf) (tC (aJ.ok lf) (tC (dF.ok lf) (tC (bF.ok lf) (tC (aT.ok lf) (tC (aY.ok lf) (tC (dh.ok lf) tN))))))) (aoC aoN) (sl lf) fun x=>by kernel_rfl
end aU
end
end Go.Q
namespace Go.Q
open Go Go.RowKit
open Go.Rx (br bd sIdx sCat sCut iQuo iRem)
noncomputable section
namespace jr
def f(lf:Nat)(a0:ByteArray):Option (Int×Unit) :=
 bd (jP.f lf a0) fun r1 =>
 br (r1.1 != 0) (
 some (r1.1,())) (
 bd (aG.f lf a0) fun r2 =>
 br (decide (r2.1 > 100)) (
 some (10,())) (
 some (0,())))
def E(lf:Nat):Entry:=⟨[.str],[(.int .i64)],fun x=>f lf x.1⟩
theorem ok(lf:Nat):Ok 156 (E lf):=okT (an:=(annsL [])) (lf:=lf) (tC (jP.ok lf) (tC (aG.ok lf) tN)) aoN fun x=>by kernel_rfl
end jr
end
end Go.Q
namespace Go.Q
open Go Go.RowKit
open Go.Rx (br bd sIdx sCat sCut iQuo iRem)
noncomputable section
namespace kS
def f(lf:Nat)(a0:TI)(a1:TI):Option (Bool×Unit) :=
 br (decide (((a0.2.1.size:Nat):Int)≤450)) (
 br (decide (((a0.2.2.1.size:Nat):Int)≤450)) (
 br (decide (((a1.2.1.size:Nat):Int)≤450)) (
 some ((decide (((a1.2.2.1.size:Nat):Int)≤450)),())) (
 some (false,()))) (
 some (false,()))) (
 some (false,()))
def E(lf:Nat):Entry:=⟨[yI,yI],[.bool],fun x=>f lf x.1 x.2.1⟩
theorem ok(lf:Nat):Ok 55 (E lf):=okT (an:=(annsL [])) (lf:=lf) tN aoN fun x=>by kernel_rfl
end kS
namespace dH
def f(lf:Nat)  : Option (TI×Unit) :=
 some ((true,(⟨#[]⟩:ByteArray),(⟨#[]⟩:ByteArray),()),())
def E(lf:Nat):Entry:=⟨[],[yI],fun x=>f lf⟩
theorem ok(lf:Nat):Ok 73 (E lf):=okT (an:=(annsL [])) (lf:=lf) tN aoN fun x=>by kernel_rfl
end dH
namespace je
def f(lf:Nat)(a0:TI)(a1:ByteArray):Option (Bool×Unit) :=
 br (!a0.1) (
 br (a0.2.1.toList==(⟨#[]⟩:ByteArray).toList) (
 br (a0.2.2.1.toList==(⟨#[]⟩:ByteArray).toList) (
 some (true,())) (
 bd (ay.f lf a0.2.2.1 a1) fun r1 =>
 some ((!r1.1),()))) (
 bd (ay.f lf a1 a0.2.1) fun r2 =>
 br (!r2.1) (
 br (a0.2.2.1.toList==(⟨#[]⟩:ByteArray).toList) (
 some (true,())) (
 bd (ay.f lf a0.2.2.1 a1) fun r3 =>
 some ((!r3.1),()))) (
 some (false,())))) (
 some (false,()))
def E(lf:Nat):Entry:=⟨[yI,.str],[.bool],fun x=>f lf x.1 x.2.1⟩
theorem ok(lf:Nat):Ok 96 (E lf):=okT (an:=(annsL [])) (lf:=lf) (tC (ay.ok lf) tN) aoN fun x=>by kernel_rfl
end je
namespace eP
def f(lf:Nat)(a0:ByteArray):Option (ByteArray×Unit) :=
 br (!(a0.toList==(⟨#[]⟩:ByteArray).toList)) (
 bd (aG.f lf a0) fun r1 =>
 br (decide (r1.1 > 100)) (
 some ((⟨#[]⟩:ByteArray),())) (
 some (a0,()))) (
 some (a0,()))
def E(lf:Nat):Entry:=⟨[.str],[.str],fun x=>f lf x.1⟩
theorem ok(lf:Nat):Ok 160 (E lf):=okT (an:=(annsL [])) (lf:=lf) (tC (aG.ok lf) tN) aoN fun x=>by kernel_rfl
end eP
namespace aI
def f(lf:Nat)(a0:ByteArray)(a1:ByteArray):Option (TI×Unit) :=
 br (!(a0.toList==(⟨#[]⟩:ByteArray).toList)) (
 br (!(a1.toList==(⟨#[]⟩:ByteArray).toList)) (
 bd (ay.f lf a1 a0) fun r1 =>
 br r1.1 (
 bd (dH.f lf) fun r2 =>
 some (r2.1,())) (
 bd (eP.f lf a0) fun r3 =>
 bd (eP.f lf a1) fun r4 =>
 some ((false,r3.1,r4.1,()),()))) (
 bd (eP.f lf a0) fun r5 =>
 bd (eP.f lf a1) fun r6 =>
 some ((false,r5.1,r6.1,()),()))) (
 bd (eP.f lf a0) fun r7 =>
 bd (eP.f lf a1) fun r8 =>
 some ((false,r7.1,r8.1,()),()))
def E(lf:Nat):Entry:=⟨[.str,.str],[yI],fun x=>f lf x.1 x.2.1⟩
theorem ok(lf:Nat):Ok 113 (E lf):=okT (an:=(annsL [])) (lf:=lf) (tC (dH.ok lf) (tC (ay.ok lf) (tC (eP.ok lf) tN))) aoN fun x=>by kernel_rfl
end aI
namespace gB
def f(lf:Nat)(a0:ByteArray):Option (Int×Unit) :=
 br (a0.toList==(⟨#[]⟩:ByteArray).toList) (
 some (0,())) (
 bd (jr.f lf a0) fun r1 =>
 some (r1.1,()))
def E(lf:Nat):Entry:=⟨[.str],[(.int .i64)],fun x=>f lf x.1⟩
theorem ok(lf:Nat):Ok 146 (E lf):=okT (an:=(annsL [])) (lf:=lf) (tC (jr.ok lf) tN) aoN fun x=>by kernel_rfl
end gB
namespace iZ
def f(lf:Nat)(a0:TI):Option (Int×Unit) :=
 br a0.1 (
 br (!(a0.2.1.toList==(⟨#[]⟩:ByteArray).toList)) (
 some (3,())) (
 br (!(a0.2.2.1.toList==(⟨#[]⟩:ByteArray).toList)) (
 some (3,())) (
 bd (gB.f lf a0.2.1) fun r1 =>
 br (r1.1 != 0) (
 some (r1.1,())) (
 bd (gB.f lf a0.2.2.1) fun r2 =>
 br (r2.1 != 0) (
 some (r2.1,())) (
 br (!(a0.2.1.toList==(⟨#[]⟩:ByteArray).toList)) (
 br (!(a0.2.2.1.toList==(⟨#[]⟩:ByteArray).toList)) (
 bd (ay.f lf a0.2.2.1 a0.2.1) fun r3 =>
 br r3.1 (
 some (14,())) (
 some (0,()))) (
 some (0,()))) (
 some (0,()))))))) (
 bd (gB.f lf a0.2.1) fun r4 =>
 br (r4.1 != 0) (
 some (r4.1,())) (
 bd (gB.f lf a0.2.2.1) fun r5 =>
 br (r5.1 != 0) (
 some (r5.1,())) (
 br (!(a0.2.1.toList==(⟨#[]⟩:ByteArray).toList)) (
 br (!(a0.2.2.1.toList==(⟨#[]⟩:ByteArray).toList)) (
 bd (ay.f lf a0.2.2.1 a0.2.1) fun r6 =>
 br r6.1 (
 some (14,())) (
 some (0,()))) (
 some (0,()))) (
 some (0,())))))
def E(lf:Nat):Entry:=⟨[yI],[(.int .i64)],fun x=>f lf x.1⟩
theorem ok(lf:Nat):Ok 98 (E lf):=okT (an:=(annsL [])) (lf:=lf) (tC (ay.ok lf) (tC (gB.ok lf) tN)) aoN fun x=>by kernel_rfl
end iZ
namespace ig
def f(lf:Nat)(a0:ByteArray)(a1:ByteArray):Option (ByteArray×Unit) :=
 br (a0.toList==(⟨#[]⟩:ByteArray).toList) (
 some ((⟨#[]⟩:ByteArray),())) (
 br (a1.toList==(⟨#[]⟩:ByteArray).toList) (
 some ((⟨#[]⟩:ByteArray),())) (
 bd (ay.f lf a1 a0) fun r1 =>
 br r1.1 (
 some (a1,())) (
 some (a0,()))))
def E(lf:Nat):Entry:=⟨[.str,.str],[.str],fun x=>f lf x.1 x.2.1⟩
theorem ok(lf:Nat):Ok 231 (E lf):=okT (an:=(annsL [])) (lf:=lf) (tC (ay.ok lf) tN) aoN fun x=>by kernel_rfl
end ig
namespace fO
def f(lf:Nat)(a0:ByteArray)(a1:ByteArray):Option (ByteArray×Unit) :=
 br (a0.toList==(⟨#[]⟩:ByteArray).toList) (
 some ((⟨#[]⟩:ByteArray),())) (
 br (a1.toList==(⟨#[]⟩:ByteArray).toList) (
 some ((⟨#[]⟩:ByteArray),())) (
 bd (ay.f lf a0 a1) fun r1 =>
 br r1.1 (
 some (a1,())) (
 some (a0,()))))
def E(lf:Nat):Entry:=⟨[.str,.str],[.str],fun x=>f lf x.1 x.2.1⟩
theorem ok(lf:Nat):Ok 232 (E lf):=okT (an:=(annsL [])) (lf:=lf) (tC (ay.ok lf) tN) aoN fun x=>by kernel_rfl
end fO
namespace jv
def f(lf:Nat)(a0:TI)(a1:TI):Option (TI×Unit) :=
 br a0.1 (
 some (a1,())) (
 br a1.1 (
 some (a0,())) (
 bd (ig.f lf a0.2.1 a1.2.1) fun r1 =>
 bd (fO.f lf a0.2.2.1 a1.2.2.1) fun r2 =>
 bd (aI.f lf r1.1 r2.1) fun r3 =>
 some (r3.1,())))
def E(lf:Nat):Entry:=⟨[yI,yI],[yI],fun x=>f lf x.1 x.2.1⟩
theorem ok(lf:Nat):Ok 173 (E lf):=okT (an:=(annsL [])) (lf:=lf) (tC (aI.ok lf) (tC (ig.ok lf) (tC (fO.ok lf) tN))) aoN fun x=>by kernel_rfl
end jv
namespace jS
def f(lf:Nat)(a0:ByteArray)(a1:ByteArray):Option (ByteArray×Unit) :=
 br (a0.toList==(⟨#[]⟩:ByteArray).toList) (
 some (a1,())) (
 br (a1.toList==(⟨#[]⟩:ByteArray).toList) (
 some (a0,())) (
 bd (fO.f lf a0 a1) fun r1 =>
 some (r1.1,())))
def E(lf:Nat):Entry:=⟨[.str,.str],[.str],fun x=>f lf x.1 x.2.1⟩
theorem ok(lf:Nat):Ok 241 (E lf):=okT (an:=(annsL [])) (lf:=lf) (tC (fO.ok lf) tN) aoN fun x=>by kernel_rfl
end jS
namespace jT
def f(lf:Nat)(a0:ByteArray)(a1:ByteArray):Option (ByteArray×Unit) :=
 br (a0.toList==(⟨#[]⟩:ByteArray).toList) (
 some (a1,())) (
 br (a1.toList==(⟨#[]⟩:ByteArray).toList) (
 some (a0,())) (
 bd (ig.f lf a0 a1) fun r1 =>
 some (r1.1,())))
def E(lf:Nat):Entry:=⟨[.str,.str],[.str],fun x=>f lf x.1 x.2.1⟩
theorem ok(lf:Nat):Ok 242 (E lf):=okT (an:=(annsL [])) (lf:=lf) (tC (ig.ok lf) tN) aoN fun x=>by kernel_rfl
end jT
namespace kT
def f(lf:Nat)(a0:TI)(a1:TI):Option (TI×Unit) :=
 br a0.1 (
 bd (dH.f lf) fun r1 =>
 some (r1.1,())) (
 br a1.1 (
 bd (dH.f lf) fun r2 =>
 some (r2.1,())) (
 bd (jS.f lf a0.2.1 a1.2.1) fun r3 =>
 bd (jT.f lf a0.2.2.1 a1.2.2.1) fun r4 =>
 bd (aI.f lf r3.1 r4.1) fun r5 =>
 some (r5.1,())))
def E(lf:Nat):Entry:=⟨[yI,yI],[yI],fun x=>f lf x.1 x.2.1⟩
theorem ok(lf:Nat):Ok 181 (E lf):=okT (an:=(annsL [])) (lf:=lf) (tC (dH.ok lf) (tC (aI.ok lf) (tC (jS.ok lf) (tC (jT.ok lf) tN)))) aoN fun x=>by kernel_rfl
end kT
end
end Go.Q
namespace Go.Q
open Go Go.RowKit
open Go.Rx (br bd sIdx sCat sCut iQuo iRem)
noncomputable section
namespace gZ
def f(lf:Nat)(a0:ByteArray)(a1:Int):Option (ByteArray×Unit) :=
 some (a0,())
def E(lf:Nat):Entry:=⟨[.str,(.int .i64)],[.str],fun x=>f lf x.1 x.2.1⟩
theorem ok(lf:Nat):Ok 192 (E lf):=okT (an:=(annsL [])) (lf:=lf) tN aoN fun x=>by kernel_rfl
end gZ
namespace dY
def f(lf:Nat)(a0:TV)(a1:Int):Option (TV×Unit) :=
 some (a0,())
def E(lf:Nat):Entry:=⟨[yV,(.int .i64)],[yV],fun x=>f lf x.1 x.2.1⟩
theorem ok(lf:Nat):Ok 63 (E lf):=okT (an:=(annsL [])) (lf:=lf) tN aoN fun x=>by kernel_rfl
end dY
end
end Go.Q
