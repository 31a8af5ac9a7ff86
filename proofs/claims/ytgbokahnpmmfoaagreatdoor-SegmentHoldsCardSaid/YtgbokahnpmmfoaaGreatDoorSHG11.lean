import Derived.Test.YtgbokahnpmmfoaaGreatDoorProg
import Derived.KernelRfl
import Derived.Test.YtgbokahnpmmfoaaGreatDoorSHE3
import Derived.Test.YtgbokahnpmmfoaaGreatDoorSHG1
import Derived.Test.YtgbokahnpmmfoaaGreatDoorSHG6
import Derived.Test.YtgbokahnpmmfoaaGreatDoorSHG7
set_option linter.unusedVariables false
set_option linter.unusedSimpArgs false
set_option linter.unusedSectionVars false
set_option maxRecDepth 100000
namespace Go.Q
open Go.IntKind (i64)
open Go Go.RowKit
open Go.Rx (br bd sIdx sCat sCut iQuo iRem)
noncomputable section
namespace bI
def anns:FuncId→FA:=annsL [(33,⟨annOf [(0,⟨kx 53 [0,3,4,5,21,22,23],[],[]⟩,⟨kx 53 [0,3,4,5],[],[]⟩),(1,⟨kx 53 [3,4,5],[],[]⟩,⟨[],[],[]⟩)],none,[]⟩),(134,⟨annOf [(0,⟨kx 27 [0,6,7,8],[],[]⟩,⟨kx 27 [],[],[]⟩),(1,⟨kx 27 [0,4,5,6,7,8],[],[]⟩,⟨kx 27 [0,6,7,8],[],[]⟩)],none,[]⟩)]
def r0{ρ:Type}(lf:Nat)(v0:List (Int×(Int×(TV×Unit))))(v1:List ByteArray)(v2:Int)(v4:List ByteArray)(v5:Bool)(v6:Int)(v3:Int)(K:Int→Option ρ)(E0:Int→Option ρ)(E1:Option ρ):Option ρ :=
 br (decide (v3 < v2)) (
 bd (idxL v1 v3) fun y2 =>
 bd (aW.f lf y2) fun r3 =>
 br (r3.1 != 0) (
 E0 r3.1) (
 K (i64.wrap (v3+1)))) (
 E1)
def l0(lf:Nat)(v0:List (Int×(Int×(TV×Unit))))(v1:List ByteArray)(v2:Int)(v4:List ByteArray)(v5:Bool)(v6:Int):Nat→Int→Option (Bool×(Int×Unit)×(Unit)×Unit)
 | 0,_=>none
 | n+1,v3=>r0 lf v0 v1 v2 v4 v5 v6 v3 (l0 lf v0 v1 v2 v4 v5 v6 n) (fun w0=>some (true,(w0,()),((()),()))) (some (false,(0,()),((()),())))
def sh0:ShS:=⟨[.s (.sl (.pair (.int .i64) (.pair (.int .i64) (.pair yV .unit)))),.a 2,.s (.ptr 0 0),.s (.ptr 1 0),.s (.ptr 2 0),.a 15,.s (.sl .str),.s (.int .i64),.s (.int .i64),.a 29],[.cells [.s (.sl .str)] 64,.cells [.s .bool] 4,.cells [.s (.int .i64)] 35]⟩
def S0(p:(List (Int×(Int×(TV×Unit))))×(List ByteArray)×Int×Int×(List ByteArray)×Bool×Int×Unit):St:=sh0.b p
def xh0:ShS:=⟨[.s (.sl (.pair (.int .i64) (.pair (.int .i64) (.pair yV .unit)))),.a 2,.s (.ptr 0 0),.s (.ptr 1 0),.s (.ptr 2 0),.a 47],[.cells [.s (.sl .str)] 64,.cells [.s .bool] 4,.cells [.s (.int .i64)] 35]⟩
def xh1:ShS:=⟨[.s (.sl (.pair (.int .i64) (.pair (.int .i64) (.pair yV .unit)))),.a 2,.s (.ptr 0 0),.s (.ptr 1 0),.s (.ptr 2 0),.a 47],[.cells [.s (.sl .str)] 64,.cells [.s .bool] 4,.cells [.s (.int .i64)] 35]⟩
def o0(v0:List (Int×(Int×(TV×Unit))))(v1:List ByteArray)(v2:Int)(v4:List ByteArray)(v5:Bool)(v6:Int)(y:Bool×(Int×Unit)×(Unit)×Unit):Alt:=.two y.1 (.one .ret (xh0.b (v0,v4,false,y.2.1.1,()))) (.one (.exit 0) (xh1.b (v0,v4,v5,v6,())))
def r2{ρ:Type}(lf:Nat)(v1:List (Int×(Int×(TV×Unit))))(v2 v3:Int)(v4:List ByteArray)(v5:Bool)(v6:Int)(v7:List (Int×(Int×(TV×Unit))))(v8 v9:Int)(v10:Bool)(v11 v12:ByteArray)(v13:Bool)(v14 v15:ByteArray)(v0:Int)(K:Int→Option ρ)(E0:Int→Option ρ)(E1:Option ρ):Option ρ :=
 br (decide (v0 < v9)) (
 bd (idxL v4 v0) fun y6 =>
 bd (dR.f lf ((v10,v11,v12,()),(v13,v14,v15,()),()) y6) fun r7 =>
 br (r7.2.1 != 0) (
 E0 r7.2.1) (
 br (!r7.1) (
 E0 r7.2.1) (
 K (i64.wrap (v0+1))))) (
 E1)
def l2(lf:Nat)(v1:List (Int×(Int×(TV×Unit))))(v2 v3:Int)(v4:List ByteArray)(v5:Bool)(v6:Int)(v7:List (Int×(Int×(TV×Unit))))(v8 v9:Int)(v10:Bool)(v11 v12:ByteArray)(v13:Bool)(v14 v15:ByteArray):Nat→Int→Option (Bool×(Int×Unit)×(Unit)×Unit)
 | 0,_=>none
 | n+1,v0=>r2 lf v1 v2 v3 v4 v5 v6 v7 v8 v9 v10 v11 v12 v13 v14 v15 v0 (l2 lf v1 v2 v3 v4 v5 v6 v7 v8 v9 v10 v11 v12 v13 v14 v15 n) (fun w0=>some (true,(w0,()),((()),()))) (some (false,(0,()),((()),())))
def sh2:ShS:=⟨[.s (.yld 4),.a 3,.s (.ptr 5 0),.s (.int .i64),.s (.sl (.pair (.int .i64) (.pair (.int .i64) (.pair yV .unit)))),.s (.int .i64),.s (.int .i64),.a 18],[.cells [.s (.sl .str)] 64,.cells [.s .bool] 4,.cells [.s (.int .i64)] 35,.cells [.s (.sl (.pair (.int .i64) (.pair (.int .i64) (.pair yV .unit))))] 22,.rnd [.a 3,.s (.ptr 0 0),.s (.ptr 1 0),.s (.ptr 2 0),.a 47] 33 1 .ready none,.cells [.s (.int .i64),.s (.int .i64),.s .bool,.s .str,.s .str,.s .bool,.s .str,.s .str] 98]⟩
def S2(p:Int×(List (Int×(Int×(TV×Unit))))×Int×Int×(List ByteArray)×Bool×Int×(List (Int×(Int×(TV×Unit))))×Int×Int×Bool×ByteArray×ByteArray×Bool×ByteArray×ByteArray×Unit):St:=sh2.b p
def xh2:ShS:=⟨[.s (.yld 4),.a 5,.s (.sl (.pair (.int .i64) (.pair (.int .i64) (.pair yV .unit)))),.s (.int .i64),.s (.int .i64),.a 18],[.cells [.s (.sl .str)] 64,.cells [.s .bool] 4,.cells [.s (.int .i64)] 35,.cells [.s (.sl (.pair (.int .i64) (.pair (.int .i64) (.pair yV .unit))))] 22,.rnd [.a 3,.s (.ptr 0 0),.s (.ptr 1 0),.s (.ptr 2 0),.a 47] 33 1 .done (some .ret),.cells [.s (.int .i64),.s (.int .i64),.s .bool,.s .str,.s .str,.s .bool,.s .str,.s .str] 98]⟩
def xh3:ShS:=⟨[.s (.yld 4),.a 5,.s (.sl (.pair (.int .i64) (.pair (.int .i64) (.pair yV .unit)))),.s (.int .i64),.s (.int .i64),.a 18],[.cells [.s (.sl .str)] 64,.cells [.s .bool] 4,.cells [.s (.int .i64)] 35,.cells [.s (.sl (.pair (.int .i64) (.pair (.int .i64) (.pair yV .unit))))] 22,.rnd [.a 3,.s (.ptr 0 0),.s (.ptr 1 0),.s (.ptr 2 0),.a 47] 33 1 .ready none,.cells [.s (.int .i64),.s (.int .i64),.s .bool,.s .str,.s .str,.s .bool,.s .str,.s .str] 98]⟩
def o2(v1:List (Int×(Int×(TV×Unit))))(v2 v3:Int)(v4:List ByteArray)(v5:Bool)(v6:Int)(v7:List (Int×(Int×(TV×Unit))))(v8 v9:Int)(v10:Bool)(v11 v12:ByteArray)(v13:Bool)(v14 v15:ByteArray)(y:Bool×(Int×Unit)×(Unit)×Unit):Alt:=.two y.1 (.one .ret (xh2.b (v1,v2,v3,v4,false,y.2.1.1,v7,v8,v9,v10,v11,v12,v13,v14,v15,()))) (.one (.exit 2) (xh3.b (v1,v2,v3,v4,v5,v6,v7,v8,v9,v10,v11,v12,v13,v14,v15,())))
def r1{ρ:Type}(lf:Nat)(v0:List (Int×(Int×(TV×Unit))))(v1:Int)(v3:List ByteArray)(v4:Bool)(v5:Int)(v6:List (Int×(Int×(TV×Unit))))(v2:Int)(K:Int→Option ρ)(E0:Int→Option ρ)(E1:Option ρ):Option ρ :=
 br (decide (v2 < v1)) (
 bd (idxL v0 v2) fun y5 =>
 bd (l2 lf v0 v1 v2 v3 v4 v5 v6 y5.1 y5.2.1 y5.2.2.1.1.1 y5.2.2.1.1.2.1 y5.2.2.1.1.2.2.1 y5.2.2.1.2.1.1 y5.2.2.1.2.1.2.1 y5.2.2.1.2.1.2.2.1 (lf+40) y5.1) fun z8 =>
 br z8.1 (
 E0 z8.2.1.1) (
 K (i64.wrap (v2+1)))) (
 E1)
def l1(lf:Nat)(v0:List (Int×(Int×(TV×Unit))))(v1:Int)(v3:List ByteArray)(v4:Bool)(v5:Int)(v6:List (Int×(Int×(TV×Unit)))):Nat→Int→Option (Bool×(Int×Unit)×(Unit)×Unit)
 | 0,_=>none
 | n+1,v2=>r1 lf v0 v1 v3 v4 v5 v6 v2 (l1 lf v0 v1 v3 v4 v5 v6 n) (fun w0=>some (true,(w0,()),((()),()))) (some (false,(0,()),((()),())))
def sh1:ShS:=⟨[.s (.yld 4),.a 5,.s (.sl (.pair (.int .i64) (.pair (.int .i64) (.pair yV .unit)))),.s (.int .i64),.s (.int .i64),.a 18],[.cells [.s (.sl .str)] 64,.cells [.s .bool] 4,.cells [.s (.int .i64)] 35,.cells [.s (.sl (.pair (.int .i64) (.pair (.int .i64) (.pair yV .unit))))] 22,.rnd [.a 3,.s (.ptr 0 0),.s (.ptr 1 0),.s (.ptr 2 0),.a 47] 33 1 .ready none]⟩
def S1(p:(List (Int×(Int×(TV×Unit))))×Int×Int×(List ByteArray)×Bool×Int×(List (Int×(Int×(TV×Unit))))×Unit):St:=sh1.b p
def xh4:ShS:=⟨[.a 27],[.cells [.s (.sl .str)] 64,.cells [.s .bool] 4,.cells [.s (.int .i64)] 35,.cells [.s (.sl (.pair (.int .i64) (.pair (.int .i64) (.pair yV .unit))))] 22,.rnd [.a 3,.s (.ptr 0 0),.s (.ptr 1 0),.s (.ptr 2 0),.a 47] 33 1 .done (some .ret)]⟩
def xh5:ShS:=⟨[.a 27],[.cells [.s (.sl .str)] 64,.cells [.s .bool] 4,.cells [.s (.int .i64)] 35,.cells [.s (.sl (.pair (.int .i64) (.pair (.int .i64) (.pair yV .unit))))] 22,.rnd [.a 3,.s (.ptr 0 0),.s (.ptr 1 0),.s (.ptr 2 0),.a 47] 33 1 .ready none]⟩
def o1(v0:List (Int×(Int×(TV×Unit))))(v1:Int)(v3:List ByteArray)(v4:Bool)(v5:Int)(v6:List (Int×(Int×(TV×Unit))))(y:Bool×(Int×Unit)×(Unit)×Unit):Alt:=.two y.1 (.one .ret (xh4.b (v3,false,y.2.1.1,v6,()))) (.one (.exit 0) (xh5.b (v3,v4,v5,v6,())))
def tb(lf:Nat):List (FuncId×Entry):=[(26,bD.E lf),(84,aW.E lf),(86,dR.E lf)]
def agv(lf:Nat):List (Nat×(St→Option LTE)):=[(0,sumE sh0 fun(p:(List (Int×(Int×(TV×Unit))))×(List ByteArray)×Int×Int×(List ByteArray)×Bool×Int×Unit)=>⟨Bool×(Int×Unit)×(Unit)×Unit,l0 lf p.1 p.2.1 p.2.2.1 p.2.2.2.2.1 p.2.2.2.2.2.1 p.2.2.2.2.2.2.1 (lf+40) p.2.2.2.1,o0 p.1 p.2.1 p.2.2.1 p.2.2.2.2.1 p.2.2.2.2.2.1 p.2.2.2.2.2.2.1⟩)]
def qZ(lf:Nat):List (Nat×(St→Option LTE)):=[(0,sumE sh1 fun(p:(List (Int×(Int×(TV×Unit))))×Int×Int×(List ByteArray)×Bool×Int×(List (Int×(Int×(TV×Unit))))×Unit)=>⟨Bool×(Int×Unit)×(Unit)×Unit,l1 lf p.1 p.2.1 p.2.2.2.1 p.2.2.2.2.1 p.2.2.2.2.2.1 p.2.2.2.2.2.2.1 (lf+40) p.2.2.1,o1 p.1 p.2.1 p.2.2.2.1 p.2.2.2.2.1 p.2.2.2.2.2.1 p.2.2.2.2.2.2.1⟩),
 (1,sumE sh2 fun(p:Int×(List (Int×(Int×(TV×Unit))))×Int×Int×(List ByteArray)×Bool×Int×(List (Int×(Int×(TV×Unit))))×Int×Int×Bool×ByteArray×ByteArray×Bool×ByteArray×ByteArray×Unit)=>⟨Bool×(Int×Unit)×(Unit)×Unit,l2 lf p.2.1 p.2.2.1 p.2.2.2.1 p.2.2.2.2.1 p.2.2.2.2.2.1 p.2.2.2.2.2.2.1 p.2.2.2.2.2.2.2.1 p.2.2.2.2.2.2.2.2.1 p.2.2.2.2.2.2.2.2.2.1 p.2.2.2.2.2.2.2.2.2.2.1 p.2.2.2.2.2.2.2.2.2.2.2.1 p.2.2.2.2.2.2.2.2.2.2.2.2.1 p.2.2.2.2.2.2.2.2.2.2.2.2.2.1 p.2.2.2.2.2.2.2.2.2.2.2.2.2.2.1 p.2.2.2.2.2.2.2.2.2.2.2.2.2.2.2.1 (lf+40) p.1,o2 p.2.1 p.2.2.1 p.2.2.2.1 p.2.2.2.2.1 p.2.2.2.2.2.1 p.2.2.2.2.2.2.1 p.2.2.2.2.2.2.2.1 p.2.2.2.2.2.2.2.2.1 p.2.2.2.2.2.2.2.2.2.1 p.2.2.2.2.2.2.2.2.2.2.1 p.2.2.2.2.2.2.2.2.2.2.2.1 p.2.2.2.2.2.2.2.2.2.2.2.2.1 p.2.2.2.2.2.2.2.2.2.2.2.2.2.1 p.2.2.2.2.2.2.2.2.2.2.2.2.2.2.1 p.2.2.2.2.2.2.2.2.2.2.2.2.2.2.2.1⟩)]
def ls(lf:Nat):List (Nat×FuncId×Sums):=[(13,33,sumsL (agv lf)),(12,134,sumsL (qZ lf))]
def it0{ρ:Type}(lf n:Nat)(st:St)(k:KE ρ):Option ρ:=itG anns (ls lf) (tb lf) lf 13 33 0 3 (sumsL (agv lf)) n st k
theorem t0{ρ:Type}(lf n:Nat)(v0:List (Int×(Int×(TV×Unit))))(v1:List ByteArray)(v2 v3:Int)(v4:List ByteArray)(v5:Bool)(v6:Int)(k:KE ρ):it0 lf (n+1) (S0 (v0,v1,v2,v3,v4,v5,v6,())) k=r0 lf v0 v1 v2 v4 v5 v6 v3 (fun x0=>it0 lf n (S0 (v0,v1,v2,x0,v4,v5,v6,())) k) (fun w0=>k .ret (xh0.b (v0,v4,false,w0,()))) (k (.exit 0) (xh1.b (v0,v4,v5,v6,()))):=by kernel_rfl
theorem u0{ρ:Type}(lf:Nat)(v0:List (Int×(Int×(TV×Unit))))(v1:List ByteArray)(v2:Int)(v4:List ByteArray)(v5:Bool)(v6:Int)(k:KE ρ):∀ (n:Nat) (v3:Int),it0 lf n (S0 (v0,v1,v2,v3,v4,v5,v6,())) k=bd (l0 lf v0 v1 v2 v4 v5 v6 n v3) fun y=>altK k (o0 v0 v1 v2 v4 v5 v6 y)
 | 0,_=>by rw[l0,au];rfl
 | n+1,v3=>by
  rw[t0];simp only[l0,r0,u0 lf v0 v1 v2 v4 v5 v6 k n,bG,bF,aF,au,br_t,br_f,o0,altK]
def it2{ρ:Type}(lf n:Nat)(st:St)(k:KE ρ):Option ρ:=itG anns (ls lf) (tb lf) lf 12 134 1 6 (sumsL (qZ lf)) n st k
theorem t2{ρ:Type}(lf n:Nat)(v0:Int)(v1:List (Int×(Int×(TV×Unit))))(v2 v3:Int)(v4:List ByteArray)(v5:Bool)(v6:Int)(v7:List (Int×(Int×(TV×Unit))))(v8 v9:Int)(v10:Bool)(v11 v12:ByteArray)(v13:Bool)(v14 v15:ByteArray)(k:KE ρ):it2 lf (n+1) (S2 (v0,v1,v2,v3,v4,v5,v6,v7,v8,v9,v10,v11,v12,v13,v14,v15,())) k=r2 lf v1 v2 v3 v4 v5 v6 v7 v8 v9 v10 v11 v12 v13 v14 v15 v0 (fun x0=>it2 lf n (S2 (x0,v1,v2,v3,v4,v5,v6,v7,v8,v9,v10,v11,v12,v13,v14,v15,())) k) (fun w0=>k .ret (xh2.b (v1,v2,v3,v4,false,w0,v7,v8,v9,v10,v11,v12,v13,v14,v15,()))) (k (.exit 2) (xh3.b (v1,v2,v3,v4,v5,v6,v7,v8,v9,v10,v11,v12,v13,v14,v15,()))):=by kernel_rfl
theorem u2{ρ:Type}(lf:Nat)(v1:List (Int×(Int×(TV×Unit))))(v2 v3:Int)(v4:List ByteArray)(v5:Bool)(v6:Int)(v7:List (Int×(Int×(TV×Unit))))(v8 v9:Int)(v10:Bool)(v11 v12:ByteArray)(v13:Bool)(v14 v15:ByteArray)(k:KE ρ):∀ (n:Nat) (v0:Int),it2 lf n (S2 (v0,v1,v2,v3,v4,v5,v6,v7,v8,v9,v10,v11,v12,v13,v14,v15,())) k=bd (l2 lf v1 v2 v3 v4 v5 v6 v7 v8 v9 v10 v11 v12 v13 v14 v15 n v0) fun y=>altK k (o2 v1 v2 v3 v4 v5 v6 v7 v8 v9 v10 v11 v12 v13 v14 v15 y)
 | 0,_=>by rw[l2,au];rfl
 | n+1,v0=>by
  rw[t2];simp only[l2,r2,u2 lf v1 v2 v3 v4 v5 v6 v7 v8 v9 v10 v11 v12 v13 v14 v15 k n,bG,bF,aF,au,br_t,br_f,o2,altK]
def it1{ρ:Type}(lf n:Nat)(st:St)(k:KE ρ):Option ρ:=itG anns (ls lf) (tb lf) lf 12 134 0 5 (sumsL (qZ lf)) n st k
theorem t1{ρ:Type}(lf n:Nat)(v0:List (Int×(Int×(TV×Unit))))(v1 v2:Int)(v3:List ByteArray)(v4:Bool)(v5:Int)(v6:List (Int×(Int×(TV×Unit))))(k:KE ρ):it1 lf (n+1) (S1 (v0,v1,v2,v3,v4,v5,v6,())) k=r1 lf v0 v1 v3 v4 v5 v6 v2 (fun x0=>it1 lf n (S1 (v0,v1,x0,v3,v4,v5,v6,())) k) (fun w0=>k .ret (xh4.b (v3,false,w0,v6,()))) (k (.exit 0) (xh5.b (v3,v4,v5,v6,()))):=by kernel_rfl
theorem u1{ρ:Type}(lf:Nat)(v0:List (Int×(Int×(TV×Unit))))(v1:Int)(v3:List ByteArray)(v4:Bool)(v5:Int)(v6:List (Int×(Int×(TV×Unit))))(k:KE ρ):∀ (n:Nat) (v2:Int),it1 lf n (S1 (v0,v1,v2,v3,v4,v5,v6,())) k=bd (l1 lf v0 v1 v3 v4 v5 v6 n v2) fun y=>altK k (o1 v0 v1 v3 v4 v5 v6 y)
 | 0,_=>by rw[l1,au];rfl
 | n+1,v2=>by
  rw[t1];simp only[l1,r1,u1 lf v0 v1 v3 v4 v5 v6 k n,bG,bF,aF,au,br_t,br_f,o1,altK]
theorem sl(lf:Nat):SL anns (ls lf) (tb lf) lf (ls lf):=slC (laC (fun _=>by kernel_rfl) (fun _ (x:(List (Int×(Int×(TV×Unit))))×(List ByteArray)×Int×Int×(List ByteArray)×Bool×Int×Unit) k=>aS (u0 lf x.1 x.2.1 x.2.2.1 x.2.2.2.2.1 x.2.2.2.2.2.1 x.2.2.2.2.2.2.1 k (lf+40) x.2.2.2.1)) laN) (slC (laC (fun _=>by kernel_rfl) (fun _ (x:(List (Int×(Int×(TV×Unit))))×Int×Int×(List ByteArray)×Bool×Int×(List (Int×(Int×(TV×Unit))))×Unit) k=>aS (u1 lf x.1 x.2.1 x.2.2.2.1 x.2.2.2.2.1 x.2.2.2.2.2.1 x.2.2.2.2.2.2.1 k (lf+40) x.2.2.1)) (laC (fun _=>by kernel_rfl) (fun _ (x:Int×(List (Int×(Int×(TV×Unit))))×Int×Int×(List ByteArray)×Bool×Int×(List (Int×(Int×(TV×Unit))))×Int×Int×Bool×ByteArray×ByteArray×Bool×ByteArray×ByteArray×Unit) k=>aS (u2 lf x.2.1 x.2.2.1 x.2.2.2.1 x.2.2.2.2.1 x.2.2.2.2.2.1 x.2.2.2.2.2.2.1 x.2.2.2.2.2.2.2.1 x.2.2.2.2.2.2.2.2.1 x.2.2.2.2.2.2.2.2.2.1 x.2.2.2.2.2.2.2.2.2.2.1 x.2.2.2.2.2.2.2.2.2.2.2.1 x.2.2.2.2.2.2.2.2.2.2.2.2.1 x.2.2.2.2.2.2.2.2.2.2.2.2.2.1 x.2.2.2.2.2.2.2.2.2.2.2.2.2.2.1 x.2.2.2.2.2.2.2.2.2.2.2.2.2.2.2.1 k (lf+40) x.1)) laN)) slN)
def f(lf:Nat)(a0:List (Int×(Int×(TV×Unit))))(a1:List ByteArray):Option (Bool×Int×Unit) :=
 bd (bD.f lf a0 ((a1.length:Nat):Int)) fun r1 =>
 br (r1.1 != 0) (
 some (false,r1.1,())) (
 bd (l0 lf a0 a1 ((a1.length:Nat):Int) a1 false 0 (lf+40) 0) fun z4 =>
 br z4.1 (
 some (false,z4.2.1.1,())) (
 bd (l1 lf a0 ((a0.length:Nat):Int) a1 false 0 a0 (lf+40) 0) fun z9 =>
 br z9.1 (
 some (false,z9.2.1.1,())) (
 some (true,0,()))))
def E(lf:Nat):Entry:=⟨[(.sl (.pair (.int .i64) (.pair (.int .i64) (.pair yV .unit)))),(.sl .str)],[.bool,(.int .i64)],fun x=>f lf x.1 x.2.1⟩
theorem ok(lf:Nat):Ok 33 (E lf):=okL (tC (bD.ok lf) (tC (aW.ok lf) (tC (dR.ok lf) tN))) (aoC (aoC aoN)) (sl lf) fun x=>by kernel_rfl
end bI
end
end Go.Q
