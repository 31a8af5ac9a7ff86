import Derived.Test.YtcgfigjpbicogaaGreatDoorProg
import Derived.KernelRfl
import Derived.Test.YtcgfigjpbicogaaGreatDoorSWE3
import Derived.Test.YtcgfigjpbicogaaGreatDoorSWG10
import Derived.Test.YtcgfigjpbicogaaGreatDoorSWG7
import Derived.Test.YtcgfigjpbicogaaGreatDoorSWG9
set_option linter.unusedVariables false
set_option linter.unusedSimpArgs false
set_option linter.unusedSectionVars false
set_option maxRecDepth 100000
namespace Go.Q
open Go.IntKind (i64)
open Go Go.RowKit
open Go.Rx (br bd sIdx sCat sCut iQuo iRem)
noncomputable section
namespace fA
def anns(lf:Nat):FuncId→FA:=annsL [(24,⟨annOf [(0,⟨kx 52 [7,8,9,10,12,13],[],[]⟩,⟨[],[],[]⟩)],none,[]⟩),(55,⟨annOf [],some (bM.spk lf),[]⟩),(99,⟨annOf [(0,⟨kx 27 [0,6,7,8],[⟨.ref 7 0,yV,47⟩],[]⟩,⟨kx 27 [],[⟨.ref 7 0,yV,47⟩],[]⟩),(1,⟨kx 27 [0,4,5,6,7,8],[⟨.ref 7 0,yV,47⟩],[]⟩,⟨kx 27 [0,6,7,8],[⟨.ref 7 0,yV,47⟩],[]⟩)],none,[]⟩)]
def r1{ρ:Type}(lf:Nat)(v1:List (Int×(Int×(TV×Unit))))(v2 v3:Int)(v4:List ByteArray)(v5:Bool)(v6:Int)(v7:List TV)(v8:List (Int×(Int×(TV×Unit))))(v9 v10:Int)(v11:Bool)(v12 v13:ByteArray)(v14:Bool)(v15 v16:ByteArray)(v0:Int)(v17:List TV)(K:Int→(List TV)→Option ρ)(E0:Int→(List TV)→Option ρ)(E1:(List TV)→Option ρ):Option ρ :=
 br (decide (v0 < v10)) (
 bd (idxB v7.length v0) fun j4 =>
 bd (v7[j4]?) fun y5 =>
 bd (gI.f lf ((v11,v12,v13,()),(v14,v15,v16,()),()) y5 v4) fun r6 =>
 br (r6.2.1 != 0) (
 E0 r6.2.1 v17) (
 bd (bW.f lf r6.1) fun r7 =>
 br r7.1 (
 E0 0 v17) (
 bd (apL true 80 v17 [r6.1]) fun q8 =>
 K (i64.wrap (v0+1)) q8))) (
 E1 v17)
def l1(lf:Nat)(v1:List (Int×(Int×(TV×Unit))))(v2 v3:Int)(v4:List ByteArray)(v5:Bool)(v6:Int)(v7:List TV)(v8:List (Int×(Int×(TV×Unit))))(v9 v10:Int)(v11:Bool)(v12 v13:ByteArray)(v14:Bool)(v15 v16:ByteArray):Nat→Int→(List TV)→Option (Bool×(Int×(List TV)×Unit)×((List TV)×Unit)×Unit)
 | 0,_,_=>none
 | n+1,v0,v17=>r1 lf v1 v2 v3 v4 v5 v6 v7 v8 v9 v10 v11 v12 v13 v14 v15 v16 v0 v17 (l1 lf v1 v2 v3 v4 v5 v6 v7 v8 v9 v10 v11 v12 v13 v14 v15 v16 n) (fun w0 w1=>some (true,(w0,w1,()),(([],()),()))) (fun w0=>some (false,(0,[],()),((w0,()),())))
def sh1:ShS:=⟨[.s (.yld 9),.a 3,.s (.ptr 11 0),.s (.int .i64),.s (.sl (.pair (.int .i64) (.pair (.int .i64) (.pair yV .unit)))),.s (.int .i64),.s (.int .i64),.a 18],[.cells [.s (.sl .str)] 23,.cells [.s (.fn 25 [] [.ptr 0 0])] 65,.cells [.s .nil] 22,.cells [.s .bool] 4,.cells [.s (.int .i64)] 29,.row yV 47 false,.cells [.s (.row 5)] 54,.cells [.s (.row 12)] 54,.cells [.s (.sl (.pair (.int .i64) (.pair (.int .i64) (.pair yV .unit))))] 22,.rnd [.a 7,.s (.ptr 1 0),.s (.ptr 2 0),.s (.ptr 3 0),.s (.ptr 4 0),.a 1,.s (.ptr 6 0),.s (.ptr 7 0),.a 38] 24 0 .ready none,.gone,.cells [.s (.int .i64),.s (.int .i64),.s .bool,.s .str,.s .str,.s .bool,.s .str,.s .str] 49,.row yV 47 false]⟩
def S1(p:Int×(List (Int×(Int×(TV×Unit))))×Int×Int×(List ByteArray)×Bool×Int×(List TV)×(List (Int×(Int×(TV×Unit))))×Int×Int×Bool×ByteArray×ByteArray×Bool×ByteArray×ByteArray×(List TV)×Unit):St:=sh1.b p
def xh0:ShS:=⟨[.s (.yld 9),.a 5,.s (.sl (.pair (.int .i64) (.pair (.int .i64) (.pair yV .unit)))),.s (.int .i64),.s (.int .i64),.a 18],[.cells [.s (.sl .str)] 23,.cells [.s (.fn 25 [] [.ptr 0 0])] 65,.cells [.s .nil] 22,.cells [.s .bool] 4,.cells [.s (.int .i64)] 29,.row yV 47 false,.cells [.s (.row 5)] 54,.cells [.s (.row 12)] 54,.cells [.s (.sl (.pair (.int .i64) (.pair (.int .i64) (.pair yV .unit))))] 22,.rnd [.a 7,.s (.ptr 1 0),.s (.ptr 2 0),.s (.ptr 3 0),.s (.ptr 4 0),.a 1,.s (.ptr 6 0),.s (.ptr 7 0),.a 38] 24 0 .done (some .ret),.gone,.cells [.s (.int .i64),.s (.int .i64),.s .bool,.s .str,.s .str,.s .bool,.s .str,.s .str] 49,.row yV 47 false]⟩
def xh1:ShS:=⟨[.s (.yld 9),.a 5,.s (.sl (.pair (.int .i64) (.pair (.int .i64) (.pair yV .unit)))),.s (.int .i64),.s (.int .i64),.a 18],[.cells [.s (.sl .str)] 23,.cells [.s (.fn 25 [] [.ptr 0 0])] 65,.cells [.s .nil] 22,.cells [.s .bool] 4,.cells [.s (.int .i64)] 29,.row yV 47 false,.cells [.s (.row 5)] 54,.cells [.s (.row 12)] 54,.cells [.s (.sl (.pair (.int .i64) (.pair (.int .i64) (.pair yV .unit))))] 22,.rnd [.a 7,.s (.ptr 1 0),.s (.ptr 2 0),.s (.ptr 3 0),.s (.ptr 4 0),.a 1,.s (.ptr 6 0),.s (.ptr 7 0),.a 38] 24 0 .ready none,.gone,.cells [.s (.int .i64),.s (.int .i64),.s .bool,.s .str,.s .str,.s .bool,.s .str,.s .str] 49,.row yV 47 false]⟩
def o1(v1:List (Int×(Int×(TV×Unit))))(v2 v3:Int)(v4:List ByteArray)(v5:Bool)(v6:Int)(v7:List TV)(v8:List (Int×(Int×(TV×Unit))))(v9 v10:Int)(v11:Bool)(v12 v13:ByteArray)(v14:Bool)(v15 v16:ByteArray)(y:Bool×(Int×(List TV)×Unit)×((List TV)×Unit)×Unit):Alt:=.two y.1 (.one .ret (xh0.b (v1,v2,v3,v4,false,y.2.1.1,v7,v8,v9,v10,v11,v12,v13,v14,v15,v16,y.2.1.2.1,()))) (.one (.exit 2) (xh1.b (v1,v2,v3,v4,v5,v6,v7,v8,v9,v10,v11,v12,v13,v14,v15,v16,y.2.2.1.1,())))
def r0{ρ:Type}(lf:Nat)(v0:List (Int×(Int×(TV×Unit))))(v1:Int)(v3:List ByteArray)(v4:Bool)(v5:Int)(v6:List TV)(v7:List (Int×(Int×(TV×Unit))))(v2:Int)(v8:List TV)(K:Int→(List TV)→Option ρ)(E0:Int→(List TV)→Option ρ)(E1:(List TV)→Option ρ):Option ρ :=
 br (decide (v2 < v1)) (
 bd (idxL v0 v2) fun y3 =>
 bd (l1 lf v0 v1 v2 v3 v4 v5 v6 v7 y3.1 y3.2.1 y3.2.2.1.1.1 y3.2.2.1.1.2.1 y3.2.2.1.1.2.2.1 y3.2.2.1.2.1.1 y3.2.2.1.2.1.2.1 y3.2.2.1.2.1.2.2.1 (lf+40) y3.1 v8) fun z9 =>
 br z9.1 (
 E0 z9.2.1.1 z9.2.1.2.1) (
 K (i64.wrap (v2+1)) z9.2.2.1.1)) (
 E1 v8)
def l0(lf:Nat)(v0:List (Int×(Int×(TV×Unit))))(v1:Int)(v3:List ByteArray)(v4:Bool)(v5:Int)(v6:List TV)(v7:List (Int×(Int×(TV×Unit)))):Nat→Int→(List TV)→Option (Bool×(Int×(List TV)×Unit)×((List TV)×Unit)×Unit)
 | 0,_,_=>none
 | n+1,v2,v8=>r0 lf v0 v1 v3 v4 v5 v6 v7 v2 v8 (l0 lf v0 v1 v3 v4 v5 v6 v7 n) (fun w0 w1=>some (true,(w0,w1,()),(([],()),()))) (fun w0=>some (false,(0,[],()),((w0,()),())))
def sh0:ShS:=⟨[.s (.yld 9),.a 5,.s (.sl (.pair (.int .i64) (.pair (.int .i64) (.pair yV .unit)))),.s (.int .i64),.s (.int .i64),.a 18],[.cells [.s (.sl .str)] 23,.cells [.s (.fn 25 [] [.ptr 0 0])] 65,.cells [.s .nil] 22,.cells [.s .bool] 4,.cells [.s (.int .i64)] 29,.row yV 47 false,.cells [.s (.row 5)] 54,.cells [.s (.row 10)] 54,.cells [.s (.sl (.pair (.int .i64) (.pair (.int .i64) (.pair yV .unit))))] 22,.rnd [.a 7,.s (.ptr 1 0),.s (.ptr 2 0),.s (.ptr 3 0),.s (.ptr 4 0),.a 1,.s (.ptr 6 0),.s (.ptr 7 0),.a 38] 24 0 .ready none,.row yV 47 false]⟩
def S0(p:(List (Int×(Int×(TV×Unit))))×Int×Int×(List ByteArray)×Bool×Int×(List TV)×(List (Int×(Int×(TV×Unit))))×(List TV)×Unit):St:=sh0.b p
def xh2:ShS:=⟨[.a 27],[.cells [.s (.sl .str)] 23,.cells [.s (.fn 25 [] [.ptr 0 0])] 65,.cells [.s .nil] 22,.cells [.s .bool] 4,.cells [.s (.int .i64)] 29,.row yV 47 false,.cells [.s (.row 5)] 54,.cells [.s (.row 10)] 54,.cells [.s (.sl (.pair (.int .i64) (.pair (.int .i64) (.pair yV .unit))))] 22,.rnd [.a 7,.s (.ptr 1 0),.s (.ptr 2 0),.s (.ptr 3 0),.s (.ptr 4 0),.a 1,.s (.ptr 6 0),.s (.ptr 7 0),.a 38] 24 0 .done (some .ret),.row yV 47 false]⟩
def xh3:ShS:=⟨[.a 27],[.cells [.s (.sl .str)] 23,.cells [.s (.fn 25 [] [.ptr 0 0])] 65,.cells [.s .nil] 22,.cells [.s .bool] 4,.cells [.s (.int .i64)] 29,.row yV 47 false,.cells [.s (.row 5)] 54,.cells [.s (.row 10)] 54,.cells [.s (.sl (.pair (.int .i64) (.pair (.int .i64) (.pair yV .unit))))] 22,.rnd [.a 7,.s (.ptr 1 0),.s (.ptr 2 0),.s (.ptr 3 0),.s (.ptr 4 0),.a 1,.s (.ptr 6 0),.s (.ptr 7 0),.a 38] 24 0 .ready none,.row yV 47 false]⟩
def o0(v0:List (Int×(Int×(TV×Unit))))(v1:Int)(v3:List ByteArray)(v4:Bool)(v5:Int)(v6:List TV)(v7:List (Int×(Int×(TV×Unit))))(y:Bool×(Int×(List TV)×Unit)×((List TV)×Unit)×Unit):Alt:=.two y.1 (.one .ret (xh2.b (v3,false,y.2.1.1,v6,v7,y.2.1.2.1,()))) (.one (.exit 0) (xh3.b (v3,v4,v5,v6,v7,y.2.2.1.1,())))
def tb(lf:Nat):List (FuncId×Entry):=[(26,gI.E lf),(38,dN.E lf),(56,bW.E lf),(60,jh.E lf)]
def nR(lf:Nat):List (Nat×(St→Option LTE)):=[(0,sumE sh0 fun(p:(List (Int×(Int×(TV×Unit))))×Int×Int×(List ByteArray)×Bool×Int×(List TV)×(List (Int×(Int×(TV×Unit))))×(List TV)×Unit)=>⟨Bool×(Int×(List TV)×Unit)×((List TV)×Unit)×Unit,l0 lf p.1 p.2.1 p.2.2.2.1 p.2.2.2.2.1 p.2.2.2.2.2.1 p.2.2.2.2.2.2.1 p.2.2.2.2.2.2.2.1 (lf+40) p.2.2.1 (e8 p).1,o0 p.1 p.2.1 p.2.2.2.1 p.2.2.2.2.1 p.2.2.2.2.2.1 p.2.2.2.2.2.2.1 p.2.2.2.2.2.2.2.1⟩),
 (1,sumE sh1 fun(p:Int×(List (Int×(Int×(TV×Unit))))×Int×Int×(List ByteArray)×Bool×Int×(List TV)×(List (Int×(Int×(TV×Unit))))×Int×Int×Bool×ByteArray×ByteArray×Bool×ByteArray×ByteArray×(List TV)×Unit)=>⟨Bool×(Int×(List TV)×Unit)×((List TV)×Unit)×Unit,l1 lf p.2.1 p.2.2.1 p.2.2.2.1 p.2.2.2.2.1 p.2.2.2.2.2.1 p.2.2.2.2.2.2.1 p.2.2.2.2.2.2.2.1 (e8 p).1 (e8 p).2.1 (e8 p).2.2.1 (e8 p).2.2.2.1 (e8 p).2.2.2.2.1 (e8 p).2.2.2.2.2.1 (e8 p).2.2.2.2.2.2.1 (e8 p).2.2.2.2.2.2.2.1 (e8 (e8 p)).1 (lf+40) p.1 (e8 (e8 p)).2.1,o1 p.2.1 p.2.2.1 p.2.2.2.1 p.2.2.2.2.1 p.2.2.2.2.2.1 p.2.2.2.2.2.2.1 p.2.2.2.2.2.2.2.1 (e8 p).1 (e8 p).2.1 (e8 p).2.2.1 (e8 p).2.2.2.1 (e8 p).2.2.2.2.1 (e8 p).2.2.2.2.2.1 (e8 p).2.2.2.2.2.2.1 (e8 p).2.2.2.2.2.2.2.1 (e8 (e8 p)).1⟩)]
def ls(lf:Nat):List (Nat×FuncId×Sums):=[(11,99,sumsL (nR lf))]
def it1{ρ:Type}(lf n:Nat)(st:St)(k:KE ρ):Option ρ:=itG (anns lf) (ls lf) (tb lf) lf 11 99 1 12 (sumsL (nR lf)) n st k
theorem t1{ρ:Type}(lf n:Nat)(v0:Int)(v1:List (Int×(Int×(TV×Unit))))(v2 v3:Int)(v4:List ByteArray)(v5:Bool)(v6:Int)(v7:List TV)(v8:List (Int×(Int×(TV×Unit))))(v9 v10:Int)(v11:Bool)(v12 v13:ByteArray)(v14:Bool)(v15 v16:ByteArray)(v17:List TV)(k:KE ρ):it1 lf (n+1) (S1 (v0,v1,v2,v3,v4,v5,v6,v7,v8,v9,v10,v11,v12,v13,v14,v15,v16,v17,())) k=r1 lf v1 v2 v3 v4 v5 v6 v7 v8 v9 v10 v11 v12 v13 v14 v15 v16 v0 v17 (fun x0 x1=>it1 lf n (S1 (x0,v1,v2,v3,v4,v5,v6,v7,v8,v9,v10,v11,v12,v13,v14,v15,v16,x1,())) k) (fun w0 w1=>k .ret (xh0.b (v1,v2,v3,v4,false,w0,v7,v8,v9,v10,v11,v12,v13,v14,v15,v16,w1,()))) (fun w0=>k (.exit 2) (xh1.b (v1,v2,v3,v4,v5,v6,v7,v8,v9,v10,v11,v12,v13,v14,v15,v16,w0,()))):=by kernel_rfl
theorem u1{ρ:Type}(lf:Nat)(v1:List (Int×(Int×(TV×Unit))))(v2 v3:Int)(v4:List ByteArray)(v5:Bool)(v6:Int)(v7:List TV)(v8:List (Int×(Int×(TV×Unit))))(v9 v10:Int)(v11:Bool)(v12 v13:ByteArray)(v14:Bool)(v15 v16:ByteArray)(k:KE ρ):∀ (n:Nat) (v0:Int) (v17:List TV),it1 lf n (S1 (v0,v1,v2,v3,v4,v5,v6,v7,v8,v9,v10,v11,v12,v13,v14,v15,v16,v17,())) k=bd (l1 lf v1 v2 v3 v4 v5 v6 v7 v8 v9 v10 v11 v12 v13 v14 v15 v16 n v0 v17) fun y=>altK k (o1 v1 v2 v3 v4 v5 v6 v7 v8 v9 v10 v11 v12 v13 v14 v15 v16 y)
 | 0,_,_=>by rw[l1,bd_none];rfl
 | n+1,v0,v17=>by
  rw[t1];simp only[l1,r1,u1 lf v1 v2 v3 v4 v5 v6 v7 v8 v9 v10 v11 v12 v13 v14 v15 v16 k n,bd_br,bd_bd,bd_some',bd_none,br_t,br_f,o1,altK]
def it0{ρ:Type}(lf n:Nat)(st:St)(k:KE ρ):Option ρ:=itG (anns lf) (ls lf) (tb lf) lf 11 99 0 10 (sumsL (nR lf)) n st k
theorem t0{ρ:Type}(lf n:Nat)(v0:List (Int×(Int×(TV×Unit))))(v1 v2:Int)(v3:List ByteArray)(v4:Bool)(v5:Int)(v6:List TV)(v7:List (Int×(Int×(TV×Unit))))(v8:List TV)(k:KE ρ):it0 lf (n+1) (S0 (v0,v1,v2,v3,v4,v5,v6,v7,v8,())) k=r0 lf v0 v1 v3 v4 v5 v6 v7 v2 v8 (fun x0 x1=>it0 lf n (S0 (v0,v1,x0,v3,v4,v5,v6,v7,x1,())) k) (fun w0 w1=>k .ret (xh2.b (v3,false,w0,v6,v7,w1,()))) (fun w0=>k (.exit 0) (xh3.b (v3,v4,v5,v6,v7,w0,()))):=by kernel_rfl
theorem u0{ρ:Type}(lf:Nat)(v0:List (Int×(Int×(TV×Unit))))(v1:Int)(v3:List ByteArray)(v4:Bool)(v5:Int)(v6:List TV)(v7:List (Int×(Int×(TV×Unit))))(k:KE ρ):∀ (n:Nat) (v2:Int) (v8:List TV),it0 lf n (S0 (v0,v1,v2,v3,v4,v5,v6,v7,v8,())) k=bd (l0 lf v0 v1 v3 v4 v5 v6 v7 n v2 v8) fun y=>altK k (o0 v0 v1 v3 v4 v5 v6 v7 y)
 | 0,_,_=>by rw[l0,bd_none];rfl
 | n+1,v2,v8=>by
  rw[t0];simp only[l0,r0,u0 lf v0 v1 v3 v4 v5 v6 v7 k n,bd_br,bd_bd,bd_some',bd_none,br_t,br_f,o0,altK]
theorem sl(lf:Nat):SL (anns lf) (ls lf) (tb lf) lf (ls lf):=slC (laC (fun _=>by kernel_rfl) (fun _ (x:(List (Int×(Int×(TV×Unit))))×Int×Int×(List ByteArray)×Bool×Int×(List TV)×(List (Int×(Int×(TV×Unit))))×(List TV)×Unit) k=>aS (u0 lf x.1 x.2.1 x.2.2.2.1 x.2.2.2.2.1 x.2.2.2.2.2.1 x.2.2.2.2.2.2.1 x.2.2.2.2.2.2.2.1 k (lf+40) x.2.2.1 (e8 x).1)) (laC (fun _=>by kernel_rfl) (fun _ (x:Int×(List (Int×(Int×(TV×Unit))))×Int×Int×(List ByteArray)×Bool×Int×(List TV)×(List (Int×(Int×(TV×Unit))))×Int×Int×Bool×ByteArray×ByteArray×Bool×ByteArray×ByteArray×(List TV)×Unit) k=>aS (u1 lf x.2.1 x.2.2.1 x.2.2.2.1 x.2.2.2.2.1 x.2.2.2.2.2.1 x.2.2.2.2.2.2.1 x.2.2.2.2.2.2.2.1 (e8 x).1 (e8 x).2.1 (e8 x).2.2.1 (e8 x).2.2.2.1 (e8 x).2.2.2.2.1 (e8 x).2.2.2.2.2.1 (e8 x).2.2.2.2.2.2.1 (e8 x).2.2.2.2.2.2.2.1 (e8 (e8 x)).1 k (lf+40) x.1 (e8 (e8 x)).2.1)) laN)) slN
def f(lf:Nat)(a0:List (Int×(Int×(TV×Unit))))(a1:List (Int×(Int×(TV×Unit))))(a2:Int)(a3:List ByteArray):Option ((List (Int×(Int×(TV×Unit))))×Int×Unit) :=
 bd (jh.f lf a0 a1 a2) fun r1 =>
 br (r1.1 != 0) (
 some ([],r1.1,())) (
 bd (bM.f lf a1) fun r2 =>
 bd (l0 lf a0 ((a0.length:Nat):Int) a3 false 0 r2.1 a0 (lf+40) 0 []) fun z10 =>
 br z10.1 (
 some ([],z10.2.1.1,())) (
 bd (dN.f lf z10.2.2.1.1) fun r11 =>
 some (r11.1,0,())))
def E(lf:Nat):Entry:=⟨[(.sl (.pair (.int .i64) (.pair (.int .i64) (.pair yV .unit)))),(.sl (.pair (.int .i64) (.pair (.int .i64) (.pair yV .unit)))),(.int .i64),(.sl .str)],[(.sl (.pair (.int .i64) (.pair (.int .i64) (.pair yV .unit)))),(.int .i64)],fun x=>f lf x.1 x.2.1 x.2.2.1 x.2.2.2.1⟩
theorem ok(lf:Nat):Ok 7 (E lf):=okL (tC (gI.ok lf) (tC (dN.ok lf) (tC (bW.ok lf) (tC (jh.ok lf) tN)))) (aoC (aoP (bM.ok lf) (aoC aoN))) (sl lf) fun x=>by kernel_rfl
end fA
end
end Go.Q
namespace Go.Q
open Go.IntKind (i64)
open Go Go.RowKit
open Go.Rx (br bd sIdx sCat sCut iQuo iRem)
noncomputable section
namespace dX
def anns(lf:Nat):FuncId→FA:=annsL [(24,⟨annOf [(0,⟨kx 52 [7,8,9,10,12,13],[],[]⟩,⟨[],[],[]⟩)],none,[]⟩),(55,⟨annOf [],some (bM.spk lf),[]⟩),(99,⟨annOf [(0,⟨kx 27 [0,6,7,8],[⟨.ref 6 0,yV,47⟩],[]⟩,⟨kx 27 [],[⟨.ref 6 0,yV,47⟩],[]⟩),(1,⟨kx 27 [0,4,5,6,7,8],[⟨.ref 6 0,yV,47⟩],[]⟩,⟨kx 27 [0,6,7,8],[⟨.ref 6 0,yV,47⟩],[]⟩)],none,[]⟩)]
def r1{ρ:Type}(lf:Nat)(v1:List (Int×(Int×(TV×Unit))))(v2 v3:Int)(v4:Bool)(v5:Int)(v6:List TV)(v7:List (Int×(Int×(TV×Unit))))(v8 v9:Int)(v10:Bool)(v11 v12:ByteArray)(v13:Bool)(v14 v15:ByteArray)(v0:Int)(v16:List TV)(K:Int→(List TV)→Option ρ)(E0:Int→(List TV)→Option ρ)(E1:(List TV)→Option ρ):Option ρ :=
 br (decide (v0 < v9)) (
 bd (idxB v6.length v0) fun j4 =>
 bd (v6[j4]?) fun y5 =>
 bd (iI.f lf ((v10,v11,v12,()),(v13,v14,v15,()),()) y5) fun r6 =>
 br (r6.2.1 != 0) (
 E0 r6.2.1 v16) (
 bd (bW.f lf r6.1) fun r7 =>
 br r7.1 (
 E0 0 v16) (
 bd (apL true 80 v16 [r6.1]) fun q8 =>
 K (i64.wrap (v0+1)) q8))) (
 E1 v16)
def l1(lf:Nat)(v1:List (Int×(Int×(TV×Unit))))(v2 v3:Int)(v4:Bool)(v5:Int)(v6:List TV)(v7:List (Int×(Int×(TV×Unit))))(v8 v9:Int)(v10:Bool)(v11 v12:ByteArray)(v13:Bool)(v14 v15:ByteArray):Nat→Int→(List TV)→Option (Bool×(Int×(List TV)×Unit)×((List TV)×Unit)×Unit)
 | 0,_,_=>none
 | n+1,v0,v16=>r1 lf v1 v2 v3 v4 v5 v6 v7 v8 v9 v10 v11 v12 v13 v14 v15 v0 v16 (l1 lf v1 v2 v3 v4 v5 v6 v7 v8 v9 v10 v11 v12 v13 v14 v15 n) (fun w0 w1=>some (true,(w0,w1,()),(([],()),()))) (fun w0=>some (false,(0,[],()),((w0,()),())))
def sh1:ShS:=⟨[.s (.yld 8),.a 3,.s (.ptr 10 0),.s (.int .i64),.s (.sl (.pair (.int .i64) (.pair (.int .i64) (.pair yV .unit)))),.s (.int .i64),.s (.int .i64),.a 18],[.cells [.s (.fn 30 [] [])] 65,.cells [.s .nil] 22,.cells [.s .bool] 4,.cells [.s (.int .i64)] 29,.row yV 47 false,.cells [.s (.row 4)] 54,.cells [.s (.row 11)] 54,.cells [.s (.sl (.pair (.int .i64) (.pair (.int .i64) (.pair yV .unit))))] 22,.rnd [.a 7,.s (.ptr 0 0),.s (.ptr 1 0),.s (.ptr 2 0),.s (.ptr 3 0),.a 1,.s (.ptr 5 0),.s (.ptr 6 0),.a 38] 24 0 .ready none,.gone,.cells [.s (.int .i64),.s (.int .i64),.s .bool,.s .str,.s .str,.s .bool,.s .str,.s .str] 49,.row yV 47 false]⟩
def S1(p:Int×(List (Int×(Int×(TV×Unit))))×Int×Int×Bool×Int×(List TV)×(List (Int×(Int×(TV×Unit))))×Int×Int×Bool×ByteArray×ByteArray×Bool×ByteArray×ByteArray×(List TV)×Unit):St:=sh1.b p
def xh0:ShS:=⟨[.s (.yld 8),.a 5,.s (.sl (.pair (.int .i64) (.pair (.int .i64) (.pair yV .unit)))),.s (.int .i64),.s (.int .i64),.a 18],[.cells [.s (.fn 30 [] [])] 65,.cells [.s .nil] 22,.cells [.s .bool] 4,.cells [.s (.int .i64)] 29,.row yV 47 false,.cells [.s (.row 4)] 54,.cells [.s (.row 11)] 54,.cells [.s (.sl (.pair (.int .i64) (.pair (.int .i64) (.pair yV .unit))))] 22,.rnd [.a 7,.s (.ptr 0 0),.s (.ptr 1 0),.s (.ptr 2 0),.s (.ptr 3 0),.a 1,.s (.ptr 5 0),.s (.ptr 6 0),.a 38] 24 0 .done (some .ret),.gone,.cells [.s (.int .i64),.s (.int .i64),.s .bool,.s .str,.s .str,.s .bool,.s .str,.s .str] 49,.row yV 47 false]⟩
def xh1:ShS:=⟨[.s (.yld 8),.a 5,.s (.sl (.pair (.int .i64) (.pair (.int .i64) (.pair yV .unit)))),.s (.int .i64),.s (.int .i64),.a 18],[.cells [.s (.fn 30 [] [])] 65,.cells [.s .nil] 22,.cells [.s .bool] 4,.cells [.s (.int .i64)] 29,.row yV 47 false,.cells [.s (.row 4)] 54,.cells [.s (.row 11)] 54,.cells [.s (.sl (.pair (.int .i64) (.pair (.int .i64) (.pair yV .unit))))] 22,.rnd [.a 7,.s (.ptr 0 0),.s (.ptr 1 0),.s (.ptr 2 0),.s (.ptr 3 0),.a 1,.s (.ptr 5 0),.s (.ptr 6 0),.a 38] 24 0 .ready none,.gone,.cells [.s (.int .i64),.s (.int .i64),.s .bool,.s .str,.s .str,.s .bool,.s .str,.s .str] 49,.row yV 47 false]⟩
def o1(v1:List (Int×(Int×(TV×Unit))))(v2 v3:Int)(v4:Bool)(v5:Int)(v6:List TV)(v7:List (Int×(Int×(TV×Unit))))(v8 v9:Int)(v10:Bool)(v11 v12:ByteArray)(v13:Bool)(v14 v15:ByteArray)(y:Bool×(Int×(List TV)×Unit)×((List TV)×Unit)×Unit):Alt:=.two y.1 (.one .ret (xh0.b (v1,v2,v3,false,y.2.1.1,v6,v7,v8,v9,v10,v11,v12,v13,v14,v15,y.2.1.2.1,()))) (.one (.exit 2) (xh1.b (v1,v2,v3,v4,v5,v6,v7,v8,v9,v10,v11,v12,v13,v14,v15,y.2.2.1.1,())))
def r0{ρ:Type}(lf:Nat)(v0:List (Int×(Int×(TV×Unit))))(v1:Int)(v3:Bool)(v4:Int)(v5:List TV)(v6:List (Int×(Int×(TV×Unit))))(v2:Int)(v7:List TV)(K:Int→(List TV)→Option ρ)(E0:Int→(List TV)→Option ρ)(E1:(List TV)→Option ρ):Option ρ :=
 br (decide (v2 < v1)) (
 bd (idxL v0 v2) fun y3 =>
 bd (l1 lf v0 v1 v2 v3 v4 v5 v6 y3.1 y3.2.1 y3.2.2.1.1.1 y3.2.2.1.1.2.1 y3.2.2.1.1.2.2.1 y3.2.2.1.2.1.1 y3.2.2.1.2.1.2.1 y3.2.2.1.2.1.2.2.1 (lf+40) y3.1 v7) fun z9 =>
 br z9.1 (
 E0 z9.2.1.1 z9.2.1.2.1) (
 K (i64.wrap (v2+1)) z9.2.2.1.1)) (
 E1 v7)
def l0(lf:Nat)(v0:List (Int×(Int×(TV×Unit))))(v1:Int)(v3:Bool)(v4:Int)(v5:List TV)(v6:List (Int×(Int×(TV×Unit)))):Nat→Int→(List TV)→Option (Bool×(Int×(List TV)×Unit)×((List TV)×Unit)×Unit)
 | 0,_,_=>none
 | n+1,v2,v7=>r0 lf v0 v1 v3 v4 v5 v6 v2 v7 (l0 lf v0 v1 v3 v4 v5 v6 n) (fun w0 w1=>some (true,(w0,w1,()),(([],()),()))) (fun w0=>some (false,(0,[],()),((w0,()),())))
def sh0:ShS:=⟨[.s (.yld 8),.a 5,.s (.sl (.pair (.int .i64) (.pair (.int .i64) (.pair yV .unit)))),.s (.int .i64),.s (.int .i64),.a 18],[.cells [.s (.fn 30 [] [])] 65,.cells [.s .nil] 22,.cells [.s .bool] 4,.cells [.s (.int .i64)] 29,.row yV 47 false,.cells [.s (.row 4)] 54,.cells [.s (.row 9)] 54,.cells [.s (.sl (.pair (.int .i64) (.pair (.int .i64) (.pair yV .unit))))] 22,.rnd [.a 7,.s (.ptr 0 0),.s (.ptr 1 0),.s (.ptr 2 0),.s (.ptr 3 0),.a 1,.s (.ptr 5 0),.s (.ptr 6 0),.a 38] 24 0 .ready none,.row yV 47 false]⟩
def S0(p:(List (Int×(Int×(TV×Unit))))×Int×Int×Bool×Int×(List TV)×(List (Int×(Int×(TV×Unit))))×(List TV)×Unit):St:=sh0.b p
def xh2:ShS:=⟨[.a 27],[.cells [.s (.fn 30 [] [])] 65,.cells [.s .nil] 22,.cells [.s .bool] 4,.cells [.s (.int .i64)] 29,.row yV 47 false,.cells [.s (.row 4)] 54,.cells [.s (.row 9)] 54,.cells [.s (.sl (.pair (.int .i64) (.pair (.int .i64) (.pair yV .unit))))] 22,.rnd [.a 7,.s (.ptr 0 0),.s (.ptr 1 0),.s (.ptr 2 0),.s (.ptr 3 0),.a 1,.s (.ptr 5 0),.s (.ptr 6 0),.a 38] 24 0 .done (some .ret),.row yV 47 false]⟩
def xh3:ShS:=⟨[.a 27],[.cells [.s (.fn 30 [] [])] 65,.cells [.s .nil] 22,.cells [.s .bool] 4,.cells [.s (.int .i64)] 29,.row yV 47 false,.cells [.s (.row 4)] 54,.cells [.s (.row 9)] 54,.cells [.s (.sl (.pair (.int .i64) (.pair (.int .i64) (.pair yV .unit))))] 22,.rnd [.a 7,.s (.ptr 0 0),.s (.ptr 1 0),.s (.ptr 2 0),.s (.ptr 3 0),.a 1,.s (.ptr 5 0),.s (.ptr 6 0),.a 38] 24 0 .ready none,.row yV 47 false]⟩
def o0(v0:List (Int×(Int×(TV×Unit))))(v1:Int)(v3:Bool)(v4:Int)(v5:List TV)(v6:List (Int×(Int×(TV×Unit))))(y:Bool×(Int×(List TV)×Unit)×((List TV)×Unit)×Unit):Alt:=.two y.1 (.one .ret (xh2.b (false,y.2.1.1,v5,v6,y.2.1.2.1,()))) (.one (.exit 0) (xh3.b (v3,v4,v5,v6,y.2.2.1.1,())))
def tb(lf:Nat):List (FuncId×Entry):=[(30,iI.E lf),(38,dN.E lf),(56,bW.E lf),(60,jh.E lf)]
def nR(lf:Nat):List (Nat×(St→Option LTE)):=[(0,sumE sh0 fun(p:(List (Int×(Int×(TV×Unit))))×Int×Int×Bool×Int×(List TV)×(List (Int×(Int×(TV×Unit))))×(List TV)×Unit)=>⟨Bool×(Int×(List TV)×Unit)×((List TV)×Unit)×Unit,l0 lf p.1 p.2.1 p.2.2.2.1 p.2.2.2.2.1 p.2.2.2.2.2.1 p.2.2.2.2.2.2.1 (lf+40) p.2.2.1 p.2.2.2.2.2.2.2.1,o0 p.1 p.2.1 p.2.2.2.1 p.2.2.2.2.1 p.2.2.2.2.2.1 p.2.2.2.2.2.2.1⟩),
 (1,sumE sh1 fun(p:Int×(List (Int×(Int×(TV×Unit))))×Int×Int×Bool×Int×(List TV)×(List (Int×(Int×(TV×Unit))))×Int×Int×Bool×ByteArray×ByteArray×Bool×ByteArray×ByteArray×(List TV)×Unit)=>⟨Bool×(Int×(List TV)×Unit)×((List TV)×Unit)×Unit,l1 lf p.2.1 p.2.2.1 p.2.2.2.1 p.2.2.2.2.1 p.2.2.2.2.2.1 p.2.2.2.2.2.2.1 p.2.2.2.2.2.2.2.1 (e8 p).1 (e8 p).2.1 (e8 p).2.2.1 (e8 p).2.2.2.1 (e8 p).2.2.2.2.1 (e8 p).2.2.2.2.2.1 (e8 p).2.2.2.2.2.2.1 (e8 p).2.2.2.2.2.2.2.1 (lf+40) p.1 (e8 (e8 p)).1,o1 p.2.1 p.2.2.1 p.2.2.2.1 p.2.2.2.2.1 p.2.2.2.2.2.1 p.2.2.2.2.2.2.1 p.2.2.2.2.2.2.2.1 (e8 p).1 (e8 p).2.1 (e8 p).2.2.1 (e8 p).2.2.2.1 (e8 p).2.2.2.2.1 (e8 p).2.2.2.2.2.1 (e8 p).2.2.2.2.2.2.1 (e8 p).2.2.2.2.2.2.2.1⟩)]
def ls(lf:Nat):List (Nat×FuncId×Sums):=[(11,99,sumsL (nR lf))]
def it1{ρ:Type}(lf n:Nat)(st:St)(k:KE ρ):Option ρ:=itG (anns lf) (ls lf) (tb lf) lf 11 99 1 11 (sumsL (nR lf)) n st k
theorem t1{ρ:Type}(lf n:Nat)(v0:Int)(v1:List (Int×(Int×(TV×Unit))))(v2 v3:Int)(v4:Bool)(v5:Int)(v6:List TV)(v7:List (Int×(Int×(TV×Unit))))(v8 v9:Int)(v10:Bool)(v11 v12:ByteArray)(v13:Bool)(v14 v15:ByteArray)(v16:List TV)(k:KE ρ):it1 lf (n+1) (S1 (v0,v1,v2,v3,v4,v5,v6,v7,v8,v9,v10,v11,v12,v13,v14,v15,v16,())) k=r1 lf v1 v2 v3 v4 v5 v6 v7 v8 v9 v10 v11 v12 v13 v14 v15 v0 v16 (fun x0 x1=>it1 lf n (S1 (x0,v1,v2,v3,v4,v5,v6,v7,v8,v9,v10,v11,v12,v13,v14,v15,x1,())) k) (fun w0 w1=>k .ret (xh0.b (v1,v2,v3,false,w0,v6,v7,v8,v9,v10,v11,v12,v13,v14,v15,w1,()))) (fun w0=>k (.exit 2) (xh1.b (v1,v2,v3,v4,v5,v6,v7,v8,v9,v10,v11,v12,v13,v14,v15,w0,()))):=by kernel_rfl
theorem u1{ρ:Type}(lf:Nat)(v1:List (Int×(Int×(TV×Unit))))(v2 v3:Int)(v4:Bool)(v5:Int)(v6:List TV)(v7:List (Int×(Int×(TV×Unit))))(v8 v9:Int)(v10:Bool)(v11 v12:ByteArray)(v13:Bool)(v14 v15:ByteArray)(k:KE ρ):∀ (n:Nat) (v0:Int) (v16:List TV),it1 lf n (S1 (v0,v1,v2,v3,v4,v5,v6,v7,v8,v9,v10,v11,v12,v13,v14,v15,v16,())) k=bd (l1 lf v1 v2 v3 v4 v5 v6 v7 v8 v9 v10 v11 v12 v13 v14 v15 n v0 v16) fun y=>altK k (o1 v1 v2 v3 v4 v5 v6 v7 v8 v9 v10 v11 v12 v13 v14 v15 y)
 | 0,_,_=>by rw[l1,bd_none];rfl
 | n+1,v0,v16=>by
  rw[t1];simp only[l1,r1,u1 lf v1 v2 v3 v4 v5 v6 v7 v8 v9 v10 v11 v12 v13 v14 v15 k n,bd_br,bd_bd,bd_some',bd_none,br_t,br_f,o1,altK]
def it0{ρ:Type}(lf n:Nat)(st:St)(k:KE ρ):Option ρ:=itG (anns lf) (ls lf) (tb lf) lf 11 99 0 9 (sumsL (nR lf)) n st k
theorem t0{ρ:Type}(lf n:Nat)(v0:List (Int×(Int×(TV×Unit))))(v1 v2:Int)(v3:Bool)(v4:Int)(v5:List TV)(v6:List (Int×(Int×(TV×Unit))))(v7:List TV)(k:KE ρ):it0 lf (n+1) (S0 (v0,v1,v2,v3,v4,v5,v6,v7,())) k=r0 lf v0 v1 v3 v4 v5 v6 v2 v7 (fun x0 x1=>it0 lf n (S0 (v0,v1,x0,v3,v4,v5,v6,x1,())) k) (fun w0 w1=>k .ret (xh2.b (false,w0,v5,v6,w1,()))) (fun w0=>k (.exit 0) (xh3.b (v3,v4,v5,v6,w0,()))):=by kernel_rfl
theorem u0{ρ:Type}(lf:Nat)(v0:List (Int×(Int×(TV×Unit))))(v1:Int)(v3:Bool)(v4:Int)(v5:List TV)(v6:List (Int×(Int×(TV×Unit))))(k:KE ρ):∀ (n:Nat) (v2:Int) (v7:List TV),it0 lf n (S0 (v0,v1,v2,v3,v4,v5,v6,v7,())) k=bd (l0 lf v0 v1 v3 v4 v5 v6 n v2 v7) fun y=>altK k (o0 v0 v1 v3 v4 v5 v6 y)
 | 0,_,_=>by rw[l0,bd_none];rfl
 | n+1,v2,v7=>by
  rw[t0];simp only[l0,r0,u0 lf v0 v1 v3 v4 v5 v6 k n,bd_br,bd_bd,bd_some',bd_none,br_t,br_f,o0,altK]
theorem sl(lf:Nat):SL (anns lf) (ls lf) (tb lf) lf (ls lf):=slC (laC (fun _=>by kernel_rfl) (fun _ (x:(List (Int×(Int×(TV×Unit))))×Int×Int×Bool×Int×(List TV)×(List (Int×(Int×(TV×Unit))))×(List TV)×Unit) k=>aS (u0 lf x.1 x.2.1 x.2.2.2.1 x.2.2.2.2.1 x.2.2.2.2.2.1 x.2.2.2.2.2.2.1 k (lf+40) x.2.2.1 x.2.2.2.2.2.2.2.1)) (laC (fun _=>by kernel_rfl) (fun _ (x:Int×(List (Int×(Int×(TV×Unit))))×Int×Int×Bool×Int×(List TV)×(List (Int×(Int×(TV×Unit))))×Int×Int×Bool×ByteArray×ByteArray×Bool×ByteArray×ByteArray×(List TV)×Unit) k=>aS (u1 lf x.2.1 x.2.2.1 x.2.2.2.1 x.2.2.2.2.1 x.2.2.2.2.2.1 x.2.2.2.2.2.2.1 x.2.2.2.2.2.2.2.1 (e8 x).1 (e8 x).2.1 (e8 x).2.2.1 (e8 x).2.2.2.1 (e8 x).2.2.2.2.1 (e8 x).2.2.2.2.2.1 (e8 x).2.2.2.2.2.2.1 (e8 x).2.2.2.2.2.2.2.1 k (lf+40) x.1 (e8 (e8 x)).1)) laN)) slN
def f(lf:Nat)(a0:List (Int×(Int×(TV×Unit))))(a1:List (Int×(Int×(TV×Unit))))(a2:Int):Option ((List (Int×(Int×(TV×Unit))))×Bool×Int×Unit) :=
 bd (jh.f lf a0 a1 a2) fun r1 =>
 br (r1.1 != 0) (
 some ([],false,r1.1,())) (
 bd (bM.f lf a1) fun r2 =>
 bd (l0 lf a0 ((a0.length:Nat):Int) false 0 r2.1 a0 (lf+40) 0 []) fun z10 =>
 br z10.1 (
 some ([],false,z10.2.1.1,())) (
 bd (dN.f lf z10.2.2.1.1) fun r11 =>
 some (r11.1,true,0,())))
def E(lf:Nat):Entry:=⟨[(.sl (.pair (.int .i64) (.pair (.int .i64) (.pair yV .unit)))),(.sl (.pair (.int .i64) (.pair (.int .i64) (.pair yV .unit)))),(.int .i64)],[(.sl (.pair (.int .i64) (.pair (.int .i64) (.pair yV .unit)))),.bool,(.int .i64)],fun x=>f lf x.1 x.2.1 x.2.2.1⟩
theorem ok(lf:Nat):Ok 9 (E lf):=okL (tC (iI.ok lf) (tC (dN.ok lf) (tC (bW.ok lf) (tC (jh.ok lf) tN)))) (aoC (aoP (bM.ok lf) (aoC aoN))) (sl lf) fun x=>by kernel_rfl
end dX
end
end Go.Q
