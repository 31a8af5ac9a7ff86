import Derived.Test.YtgbokahnpmmfoaaGreatDoorProg
import Derived.KernelRfl
import Derived.Test.YtgbokahnpmmfoaaGreatDoorSZE3
import Derived.Test.YtgbokahnpmmfoaaGreatDoorSZG10
import Derived.Test.YtgbokahnpmmfoaaGreatDoorSZG11
import Derived.Test.YtgbokahnpmmfoaaGreatDoorSZG4
import Derived.Test.YtgbokahnpmmfoaaGreatDoorSZG6
import Derived.Test.YtgbokahnpmmfoaaGreatDoorSZG7
import Derived.Test.YtgbokahnpmmfoaaGreatDoorSZG8
import Derived.Test.YtgbokahnpmmfoaaGreatDoorSZG9
set_option linter.unusedVariables false
set_option linter.unusedSimpArgs false
set_option linter.unusedSectionVars false
set_option maxRecDepth 100000
namespace Go.Q
open Go.IntKind (i64)
open Go Go.RowKit
open Go.Rx (br bd sIdx sCat sCut iQuo iRem)
noncomputable section
namespace dK
def f(lf:Nat)(a0:ByteArray):Option (Bool×Unit) :=
 bd (fG.f lf a0) fun r1 =>
 some ((r1.1 != 0),())
def E(lf:Nat):Entry:=⟨[.str],[.bool],fun x=>f lf x.1⟩
theorem ok(lf:Nat):Ok 39 (E lf):=okT (an:=(annsL [])) (lf:=lf) (tC (fG.ok lf) tN) aoN fun x=>by kernel_rfl
end dK
namespace aB
def anns:FuncId→FA:=annsL [(7,⟨annOf [(0,⟨kx 210 [0,2,4,9,11,12,116,117],[],[]⟩,⟨kx 210 [6],[],[]⟩)],none,[]⟩),(93,⟨annOf [(0,⟨kx 19 [0,1,7,8],[],[]⟩,⟨kx 19 [4],[],[]⟩)],none,[]⟩)]
def r0{ρ:Type}(lf:Nat)(v0:List ByteArray)(v1 v3:Int)(v4:Bool)(v5 v6:ByteArray)(v7:Bool)(v8 v9:ByteArray)(v10:Bool)(v11 v12:ByteArray)(v13:Bool)(v14 v15:ByteArray)(v2:Int)(K:Int→Option ρ)(E0:Int→Option ρ)(E1:Option ρ):Option ρ :=
 br (decide (v2 < v1)) (
 bd (idxL v0 v2) fun y16 =>
 bd (dK.f lf y16) fun r17 =>
 br r17.1 (
 E0 v2) (
 K (i64.wrap (v2+1)))) (
 E1)
def l0(lf:Nat)(v0:List ByteArray)(v1 v3:Int)(v4:Bool)(v5 v6:ByteArray)(v7:Bool)(v8 v9:ByteArray)(v10:Bool)(v11 v12:ByteArray)(v13:Bool)(v14 v15:ByteArray):Nat→Int→Option (Bool×(Int×Unit)×(Unit)×Unit)
 | 0,_=>none
 | n+1,v2=>r0 lf v0 v1 v3 v4 v5 v6 v7 v8 v9 v10 v11 v12 v13 v14 v15 v2 (l0 lf v0 v1 v3 v4 v5 v6 v7 v8 v9 v10 v11 v12 v13 v14 v15 n) (fun w0=>some (true,(w0,()),((()),()))) (some (false,(0,()),((()),())))
def sh0:ShS:=⟨[.s (.sl .str),.s (.fn 39 [] []),.a 5,.s (.int .i64),.s (.int .i64),.a 10],[.cells [.s (.int .i64),.s .bool,.s .str,.s .str,.s .bool,.s .str,.s .str,.s .bool,.s .str,.s .str,.s .bool,.s .str,.s .str] 31]⟩
def S0(p:(List ByteArray)×Int×Int×Int×Bool×ByteArray×ByteArray×Bool×ByteArray×ByteArray×Bool×ByteArray×ByteArray×Bool×ByteArray×ByteArray×Unit):St:=sh0.b p
def xh0:ShS:=⟨[.a 4,.s (.int .i64),.a 14],[.cells [.s (.int .i64),.s .bool,.s .str,.s .str,.s .bool,.s .str,.s .str,.s .bool,.s .str,.s .str,.s .bool,.s .str,.s .str] 31]⟩
def xh1:ShS:=⟨[.a 19],[.cells [.s (.int .i64),.s .bool,.s .str,.s .str,.s .bool,.s .str,.s .str,.s .bool,.s .str,.s .str,.s .bool,.s .str,.s .str] 31]⟩
def o0(v0:List ByteArray)(v1 v3:Int)(v4:Bool)(v5 v6:ByteArray)(v7:Bool)(v8 v9:ByteArray)(v10:Bool)(v11 v12:ByteArray)(v13:Bool)(v14 v15:ByteArray)(y:Bool×(Int×Unit)×(Unit)×Unit):Alt:=.two y.1 (.one .ret (xh0.b (y.2.1.1,v3,v4,v5,v6,v7,v8,v9,v10,v11,v12,v13,v14,v15,()))) (.one (.exit 0) (xh1.b (v3,v4,v5,v6,v7,v8,v9,v10,v11,v12,v13,v14,v15,())))
def r1{ρ:Type}(lf:Nat)(v0:List (Int×(Int×(TV×Unit))))(v1:List ByteArray)(v2:List (Int×(Int×(TV×Unit))))(v3:Bool)(v4 v6:Int)(v7:Bool)(v8 v9:ByteArray)(v10:Bool)(v11 v12:ByteArray)(v13:Bool)(v14 v15:ByteArray)(v16:Bool)(v17 v18:ByteArray)(v19:Bool)(v20 v21:ByteArray)(v22:Bool)(v23 v24:ByteArray)(v5:Int)(K:Int→Option ρ)(E0:Option ρ)(E1:Option ρ):Option ρ :=
 br (decide (v5 < v4)) (
 bd (aH.f lf v5) fun r27 =>
 bd (gm.f lf ((v7,v8,v9,()),(v10,v11,v12,()),()) r27.1) fun r28 =>
 br (!r28.1) (
 K (i64.wrap (v5+1))) (
 bd (idxL v1 v5) fun y29 =>
 bd (dm.f lf y29) fun r30 =>
 bd (dV.f lf v0 v6 ((v7,v8,v9,()),(v10,v11,v12,()),()) r30.1) fun r31 =>
 br (r31.2.1 != 0) (
 E0) (
 bd (aU.f lf ((v19,v20,v21,()),(v22,v23,v24,()),())) fun r32 =>
 br (r32.1 != 0) (
 E0) (
 bd (aU.f lf r31.1) fun r33 =>
 br (r33.1 != 0) (
 E0) (
 bd (idxL v1 v5) fun y34 =>
 bd (gm.f lf ((v19,v20,v21,()),(v22,v23,v24,()),()) y34) fun r35 =>
 br (!r35.1) (
 E0) (
 bd (aH.f lf v5) fun r36 =>
 bd (gm.f lf r31.1 r36.1) fun r37 =>
 br (!r37.1) (
 E0) (
 br (v14.toList==(⟨#[]⟩:ByteArray).toList) (
 K (i64.wrap (v5+1))) (
 bd (di.f lf ((v13,v14,v15,()),(v16,v17,v18,()),())) fun r38 =>
 br r38.1 (
 K (i64.wrap (v5+1))) (
 bd (gm.f lf ((v13,v14,v15,()),(v16,v17,v18,()),()) v14) fun r39 =>
 br (!r39.1) (
 K (i64.wrap (v5+1))) (
 bd (nilL v1) fun r40 =>
 bd (apL true 16 [] v1) fun q41 =>
 bd (idxB q41.length v5) fun j42 =>
 bd (upE q41 j42 fun _=>some v14) fun q43 =>
 bd (bD.f lf v2 q43) fun r45 =>
 br (!v3) (
 E0) (
 br (r45.2.1 != 0) (
 E0) (
 br (!r45.1) (
 E0) (
 K (i64.wrap (v5+1))))))))))))))) (
 E1)
def l1(lf:Nat)(v0:List (Int×(Int×(TV×Unit))))(v1:List ByteArray)(v2:List (Int×(Int×(TV×Unit))))(v3:Bool)(v4 v6:Int)(v7:Bool)(v8 v9:ByteArray)(v10:Bool)(v11 v12:ByteArray)(v13:Bool)(v14 v15:ByteArray)(v16:Bool)(v17 v18:ByteArray)(v19:Bool)(v20 v21:ByteArray)(v22:Bool)(v23 v24:ByteArray):Nat→Int→Option (Bool×(Unit)×(Unit)×Unit)
 | 0,_=>none
 | n+1,v5=>r1 lf v0 v1 v2 v3 v4 v6 v7 v8 v9 v10 v11 v12 v13 v14 v15 v16 v17 v18 v19 v20 v21 v22 v23 v24 v5 (l1 lf v0 v1 v2 v3 v4 v6 v7 v8 v9 v10 v11 v12 v13 v14 v15 v16 v17 v18 v19 v20 v21 v22 v23 v24 n) (some (true,(()),((()),()))) (some (false,(()),((()),())))
def sh1:ShS:=⟨[.s (.sl (.pair (.int .i64) (.pair (.int .i64) (.pair yV .unit)))),.a 1,.s (.sl .str),.a 1,.s (.ptr 0 0),.a 4,.s (.ptr 1 0),.a 1,.s (.sl (.pair (.int .i64) (.pair (.int .i64) (.pair yV .unit)))),.s .bool,.a 103,.s (.int .i64),.s (.int .i64),.a 92],[.cells [.s (.int .i64),.s .bool,.s .str,.s .str,.s .bool,.s .str,.s .str,.s .bool,.s .str,.s .str,.s .bool,.s .str,.s .str] 31,.cells [.s .bool,.s .str,.s .str,.s .bool,.s .str,.s .str] 29]⟩
def S1(p:(List (Int×(Int×(TV×Unit))))×(List ByteArray)×(List (Int×(Int×(TV×Unit))))×Bool×Int×Int×Int×Bool×ByteArray×ByteArray×Bool×ByteArray×ByteArray×Bool×ByteArray×ByteArray×Bool×ByteArray×ByteArray×Bool×ByteArray×ByteArray×Bool×ByteArray×ByteArray×Unit):St:=sh1.b p
def xh2:ShS:=⟨[.a 6,.s .bool,.a 203],[.cells [.s (.int .i64),.s .bool,.s .str,.s .str,.s .bool,.s .str,.s .str,.s .bool,.s .str,.s .str,.s .bool,.s .str,.s .str] 31,.cells [.s .bool,.s .str,.s .str,.s .bool,.s .str,.s .str] 29]⟩
def xh3:ShS:=⟨[.a 210],[.cells [.s (.int .i64),.s .bool,.s .str,.s .str,.s .bool,.s .str,.s .str,.s .bool,.s .str,.s .str,.s .bool,.s .str,.s .str] 31,.cells [.s .bool,.s .str,.s .str,.s .bool,.s .str,.s .str] 29]⟩
def o1(v0:List (Int×(Int×(TV×Unit))))(v1:List ByteArray)(v2:List (Int×(Int×(TV×Unit))))(v3:Bool)(v4 v6:Int)(v7:Bool)(v8 v9:ByteArray)(v10:Bool)(v11 v12:ByteArray)(v13:Bool)(v14 v15:ByteArray)(v16:Bool)(v17 v18:ByteArray)(v19:Bool)(v20 v21:ByteArray)(v22:Bool)(v23 v24:ByteArray)(y:Bool×(Unit)×(Unit)×Unit):Alt:=.two y.1 (.one .ret (xh2.b (false,v6,v7,v8,v9,v10,v11,v12,v13,v14,v15,v16,v17,v18,v19,v20,v21,v22,v23,v24,()))) (.one (.exit 0) (xh3.b (v6,v7,v8,v9,v10,v11,v12,v13,v14,v15,v16,v17,v18,v19,v20,v21,v22,v23,v24,())))
def tb(lf:Nat):List (FuncId×Entry):=[(10,dQ.E lf),(11,fK.E lf),(12,aQ.E lf),(13,dO.E lf),(15,bV.E lf),(17,dV.E lf),(27,bC.E lf),(28,dm.E lf),(29,aH.E lf),(31,dP.E lf),(33,bD.E lf),(37,iD.E lf),(39,dK.E lf),(41,gm.E lf),(42,aU.E lf),(43,di.E lf)]
def aau(lf:Nat):List (Nat×(St→Option LTE)):=[(0,sumE sh0 fun(p:(List ByteArray)×Int×Int×Int×Bool×ByteArray×ByteArray×Bool×ByteArray×ByteArray×Bool×ByteArray×ByteArray×Bool×ByteArray×ByteArray×Unit)=>⟨Bool×(Int×Unit)×(Unit)×Unit,l0 lf p.1 p.2.1 p.2.2.2.1 p.2.2.2.2.1 p.2.2.2.2.2.1 p.2.2.2.2.2.2.1 p.2.2.2.2.2.2.2.1 (e8 p).1 (e8 p).2.1 (e8 p).2.2.1 (e8 p).2.2.2.1 (e8 p).2.2.2.2.1 (e8 p).2.2.2.2.2.1 (e8 p).2.2.2.2.2.2.1 (e8 p).2.2.2.2.2.2.2.1 (lf+40) p.2.2.1,o0 p.1 p.2.1 p.2.2.2.1 p.2.2.2.2.1 p.2.2.2.2.2.1 p.2.2.2.2.2.2.1 p.2.2.2.2.2.2.2.1 (e8 p).1 (e8 p).2.1 (e8 p).2.2.1 (e8 p).2.2.2.1 (e8 p).2.2.2.2.1 (e8 p).2.2.2.2.2.1 (e8 p).2.2.2.2.2.2.1 (e8 p).2.2.2.2.2.2.2.1⟩)]
def akq(lf:Nat):List (Nat×(St→Option LTE)):=[(0,sumE sh1 fun(p:(List (Int×(Int×(TV×Unit))))×(List ByteArray)×(List (Int×(Int×(TV×Unit))))×Bool×Int×Int×Int×Bool×ByteArray×ByteArray×Bool×ByteArray×ByteArray×Bool×ByteArray×ByteArray×Bool×ByteArray×ByteArray×Bool×ByteArray×ByteArray×Bool×ByteArray×ByteArray×Unit)=>⟨Bool×(Unit)×(Unit)×Unit,l1 lf p.1 p.2.1 p.2.2.1 p.2.2.2.1 p.2.2.2.2.1 p.2.2.2.2.2.2.1 p.2.2.2.2.2.2.2.1 (e8 p).1 (e8 p).2.1 (e8 p).2.2.1 (e8 p).2.2.2.1 (e8 p).2.2.2.2.1 (e8 p).2.2.2.2.2.1 (e8 p).2.2.2.2.2.2.1 (e8 p).2.2.2.2.2.2.2.1 (e8 (e8 p)).1 (e8 (e8 p)).2.1 (e8 (e8 p)).2.2.1 (e8 (e8 p)).2.2.2.1 (e8 (e8 p)).2.2.2.2.1 (e8 (e8 p)).2.2.2.2.2.1 (e8 (e8 p)).2.2.2.2.2.2.1 (e8 (e8 p)).2.2.2.2.2.2.2.1 (e8 (e8 (e8 p))).1 (lf+40) p.2.2.2.2.2.1,o1 p.1 p.2.1 p.2.2.1 p.2.2.2.1 p.2.2.2.2.1 p.2.2.2.2.2.2.1 p.2.2.2.2.2.2.2.1 (e8 p).1 (e8 p).2.1 (e8 p).2.2.1 (e8 p).2.2.2.1 (e8 p).2.2.2.2.1 (e8 p).2.2.2.2.2.1 (e8 p).2.2.2.2.2.2.1 (e8 p).2.2.2.2.2.2.2.1 (e8 (e8 p)).1 (e8 (e8 p)).2.1 (e8 (e8 p)).2.2.1 (e8 (e8 p)).2.2.2.1 (e8 (e8 p)).2.2.2.2.1 (e8 (e8 p)).2.2.2.2.2.1 (e8 (e8 p)).2.2.2.2.2.2.1 (e8 (e8 p)).2.2.2.2.2.2.2.1 (e8 (e8 (e8 p))).1⟩)]
def ls(lf:Nat):List (Nat×FuncId×Sums):=[(11,93,sumsL (aau lf)),(13,7,sumsL (akq lf))]
def it0{ρ:Type}(lf n:Nat)(st:St)(k:KE ρ):Option ρ:=itG anns (ls lf) (tb lf) lf 11 93 0 1 (sumsL (aau lf)) n st k
theorem t0{ρ:Type}(lf n:Nat)(v0:List ByteArray)(v1 v2 v3:Int)(v4:Bool)(v5 v6:ByteArray)(v7:Bool)(v8 v9:ByteArray)(v10:Bool)(v11 v12:ByteArray)(v13:Bool)(v14 v15:ByteArray)(k:KE ρ):it0 lf (n+1) (S0 (v0,v1,v2,v3,v4,v5,v6,v7,v8,v9,v10,v11,v12,v13,v14,v15,())) k=r0 lf v0 v1 v3 v4 v5 v6 v7 v8 v9 v10 v11 v12 v13 v14 v15 v2 (fun x0=>it0 lf n (S0 (v0,v1,x0,v3,v4,v5,v6,v7,v8,v9,v10,v11,v12,v13,v14,v15,())) k) (fun w0=>k .ret (xh0.b (w0,v3,v4,v5,v6,v7,v8,v9,v10,v11,v12,v13,v14,v15,()))) (k (.exit 0) (xh1.b (v3,v4,v5,v6,v7,v8,v9,v10,v11,v12,v13,v14,v15,()))):=by kernel_rfl
theorem u0{ρ:Type}(lf:Nat)(v0:List ByteArray)(v1 v3:Int)(v4:Bool)(v5 v6:ByteArray)(v7:Bool)(v8 v9:ByteArray)(v10:Bool)(v11 v12:ByteArray)(v13:Bool)(v14 v15:ByteArray)(k:KE ρ):∀ (n:Nat) (v2:Int),it0 lf n (S0 (v0,v1,v2,v3,v4,v5,v6,v7,v8,v9,v10,v11,v12,v13,v14,v15,())) k=bd (l0 lf v0 v1 v3 v4 v5 v6 v7 v8 v9 v10 v11 v12 v13 v14 v15 n v2) fun y=>altK k (o0 v0 v1 v3 v4 v5 v6 v7 v8 v9 v10 v11 v12 v13 v14 v15 y)
 | 0,_=>by rw[l0,au];rfl
 | n+1,v2=>by
  rw[t0];simp only[l0,r0,u0 lf v0 v1 v3 v4 v5 v6 v7 v8 v9 v10 v11 v12 v13 v14 v15 k n,cO,cu,aF,au,br_t,br_f,o0,altK]
def it1{ρ:Type}(lf n:Nat)(st:St)(k:KE ρ):Option ρ:=itG anns (ls lf) (tb lf) lf 13 7 0 2 (sumsL (akq lf)) n st k
theorem t1{ρ:Type}(lf n:Nat)(v0:List (Int×(Int×(TV×Unit))))(v1:List ByteArray)(v2:List (Int×(Int×(TV×Unit))))(v3:Bool)(v4 v5 v6:Int)(v7:Bool)(v8 v9:ByteArray)(v10:Bool)(v11 v12:ByteArray)(v13:Bool)(v14 v15:ByteArray)(v16:Bool)(v17 v18:ByteArray)(v19:Bool)(v20 v21:ByteArray)(v22:Bool)(v23 v24:ByteArray)(k:KE ρ):it1 lf (n+1) (S1 (v0,v1,v2,v3,v4,v5,v6,v7,v8,v9,v10,v11,v12,v13,v14,v15,v16,v17,v18,v19,v20,v21,v22,v23,v24,())) k=r1 lf v0 v1 v2 v3 v4 v6 v7 v8 v9 v10 v11 v12 v13 v14 v15 v16 v17 v18 v19 v20 v21 v22 v23 v24 v5 (fun x0=>it1 lf n (S1 (v0,v1,v2,v3,v4,x0,v6,v7,v8,v9,v10,v11,v12,v13,v14,v15,v16,v17,v18,v19,v20,v21,v22,v23,v24,())) k) (k .ret (xh2.b (false,v6,v7,v8,v9,v10,v11,v12,v13,v14,v15,v16,v17,v18,v19,v20,v21,v22,v23,v24,()))) (k (.exit 0) (xh3.b (v6,v7,v8,v9,v10,v11,v12,v13,v14,v15,v16,v17,v18,v19,v20,v21,v22,v23,v24,()))):=by kernel_rfl
theorem u1{ρ:Type}(lf:Nat)(v0:List (Int×(Int×(TV×Unit))))(v1:List ByteArray)(v2:List (Int×(Int×(TV×Unit))))(v3:Bool)(v4 v6:Int)(v7:Bool)(v8 v9:ByteArray)(v10:Bool)(v11 v12:ByteArray)(v13:Bool)(v14 v15:ByteArray)(v16:Bool)(v17 v18:ByteArray)(v19:Bool)(v20 v21:ByteArray)(v22:Bool)(v23 v24:ByteArray)(k:KE ρ):∀ (n:Nat) (v5:Int),it1 lf n (S1 (v0,v1,v2,v3,v4,v5,v6,v7,v8,v9,v10,v11,v12,v13,v14,v15,v16,v17,v18,v19,v20,v21,v22,v23,v24,())) k=bd (l1 lf v0 v1 v2 v3 v4 v6 v7 v8 v9 v10 v11 v12 v13 v14 v15 v16 v17 v18 v19 v20 v21 v22 v23 v24 n v5) fun y=>altK k (o1 v0 v1 v2 v3 v4 v6 v7 v8 v9 v10 v11 v12 v13 v14 v15 v16 v17 v18 v19 v20 v21 v22 v23 v24 y)
 | 0,_=>by rw[l1,au];rfl
 | n+1,v5=>by
  rw[t1];simp only[l1,r1,u1 lf v0 v1 v2 v3 v4 v6 v7 v8 v9 v10 v11 v12 v13 v14 v15 v16 v17 v18 v19 v20 v21 v22 v23 v24 k n,cO,cu,aF,au,br_t,br_f,o1,altK]
theorem sl(lf:Nat):SL anns (ls lf) (tb lf) lf (ls lf):=slC (laC (fun _=>by kernel_rfl) (fun _ (x:(List ByteArray)×Int×Int×Int×Bool×ByteArray×ByteArray×Bool×ByteArray×ByteArray×Bool×ByteArray×ByteArray×Bool×ByteArray×ByteArray×Unit) k=>aX (u0 lf x.1 x.2.1 x.2.2.2.1 x.2.2.2.2.1 x.2.2.2.2.2.1 x.2.2.2.2.2.2.1 x.2.2.2.2.2.2.2.1 (e8 x).1 (e8 x).2.1 (e8 x).2.2.1 (e8 x).2.2.2.1 (e8 x).2.2.2.2.1 (e8 x).2.2.2.2.2.1 (e8 x).2.2.2.2.2.2.1 (e8 x).2.2.2.2.2.2.2.1 k (lf+40) x.2.2.1)) laN) (slC (laC (fun _=>by kernel_rfl) (fun _ (x:(List (Int×(Int×(TV×Unit))))×(List ByteArray)×(List (Int×(Int×(TV×Unit))))×Bool×Int×Int×Int×Bool×ByteArray×ByteArray×Bool×ByteArray×ByteArray×Bool×ByteArray×ByteArray×Bool×ByteArray×ByteArray×Bool×ByteArray×ByteArray×Bool×ByteArray×ByteArray×Unit) k=>aX (u1 lf x.1 x.2.1 x.2.2.1 x.2.2.2.1 x.2.2.2.2.1 x.2.2.2.2.2.2.1 x.2.2.2.2.2.2.2.1 (e8 x).1 (e8 x).2.1 (e8 x).2.2.1 (e8 x).2.2.2.1 (e8 x).2.2.2.2.1 (e8 x).2.2.2.2.2.1 (e8 x).2.2.2.2.2.2.1 (e8 x).2.2.2.2.2.2.2.1 (e8 (e8 x)).1 (e8 (e8 x)).2.1 (e8 (e8 x)).2.2.1 (e8 (e8 x)).2.2.2.1 (e8 (e8 x)).2.2.2.2.1 (e8 (e8 x)).2.2.2.2.2.1 (e8 (e8 x)).2.2.2.2.2.2.1 (e8 (e8 x)).2.2.2.2.2.2.2.1 (e8 (e8 (e8 x))).1 k (lf+40) x.2.2.2.2.2.1)) laN) slN)
def f(lf:Nat)(a0:List (Int×(Int×(TV×Unit))))(a1:Int×(TV×(TV×Unit)))(a2:List ByteArray):Option (Bool×Unit) :=
 bd (dQ.f lf a0) fun r1 =>
 br (!r1.1) (
 bd (aQ.f lf) fun r2 =>
 some (r2.1,())) (
 bd (dP.f lf a2) fun r3 =>
 br (!r3.1) (
 bd (aQ.f lf) fun r4 =>
 some (r4.1,())) (
 br (((a2.length:Nat):Int) != a1.1) (
 bd (aQ.f lf) fun r5 =>
 some (r5.1,())) (
 bd (bC.f lf a0 a1.1) fun r6 =>
 br (r6.1 != 0) (
 bd (aQ.f lf) fun r7 =>
 some (r7.1,())) (
 bd (fK.f lf a1.2.1 a1.2.2.1) fun r8 =>
 br (!r8.1) (
 bd (aQ.f lf) fun r9 =>
 some (r9.1,())) (
 bd (iD.f lf a1.2.1 a1.2.2.1) fun r10 =>
 br (r10.1 != 0) (
 bd (aQ.f lf) fun r11 =>
 some (r11.1,())) (
 bd (bD.f lf a0 a2) fun r12 =>
 br (r12.2.1 != 0) (
 br (r12.2.1==0) (
 bd (aQ.f lf) fun r13 =>
 some (r13.1,())) (
 bd (bC.f lf a0 ((a2.length:Nat):Int)) fun r14 =>
 br (r14.1 != 0) (
 bd (aQ.f lf) fun r15 =>
 some (r15.1,())) (
 bd (l0 lf a2 ((a2.length:Nat):Int) a1.1 a1.2.1.1.1 a1.2.1.1.2.1 a1.2.1.1.2.2.1 a1.2.1.2.1.1 a1.2.1.2.1.2.1 a1.2.1.2.1.2.2.1 a1.2.2.1.1.1 a1.2.2.1.1.2.1 a1.2.2.1.1.2.2.1 a1.2.2.1.2.1.1 a1.2.2.1.2.1.2.1 a1.2.2.1.2.1.2.2.1 (lf+40) 0) fun z18 =>
 br z18.1 (
 br (decide (z18.2.1.1≥0)) (
 bd (aQ.f lf) fun r19 =>
 some (r19.1,())) (
 some (false,()))) (
 some (false,()))))) (
 br (!r12.1) (
 br (r12.2.1==0) (
 bd (aQ.f lf) fun r20 =>
 some (r20.1,())) (
 bd (bC.f lf a0 ((a2.length:Nat):Int)) fun r21 =>
 br (r21.1 != 0) (
 bd (aQ.f lf) fun r22 =>
 some (r22.1,())) (
 bd (l0 lf a2 ((a2.length:Nat):Int) a1.1 a1.2.1.1.1 a1.2.1.1.2.1 a1.2.1.1.2.2.1 a1.2.1.2.1.1 a1.2.1.2.1.2.1 a1.2.1.2.1.2.2.1 a1.2.2.1.1.1 a1.2.2.1.1.2.1 a1.2.2.1.1.2.2.1 a1.2.2.1.2.1.1 a1.2.2.1.2.1.2.1 a1.2.2.1.2.1.2.2.1 (lf+40) 0) fun z23 =>
 br z23.1 (
 br (decide (z23.2.1.1≥0)) (
 bd (aQ.f lf) fun r24 =>
 some (r24.1,())) (
 some (false,()))) (
 some (false,()))))) (
 bd (dO.f lf a0 a1.1 a1.2.1) fun r25 =>
 bd (bV.f lf a0 a1.1 a1.2.1 a1.2.2.1) fun r26 =>
 br (r25.2.1 != 0) (
 some (false,())) (
 br (r26.2.2.1 != 0) (
 some (false,())) (
 bd (l1 lf a0 a2 r26.1 r26.2.1 ((a2.length:Nat):Int) a1.1 a1.2.1.1.1 a1.2.1.1.2.1 a1.2.1.1.2.2.1 a1.2.1.2.1.1 a1.2.1.2.1.2.1 a1.2.1.2.1.2.2.1 a1.2.2.1.1.1 a1.2.2.1.1.2.1 a1.2.2.1.1.2.2.1 a1.2.2.1.2.1.1 a1.2.2.1.2.1.2.1 a1.2.2.1.2.1.2.2.1 r25.1.1.1 r25.1.1.2.1 r25.1.1.2.2.1 r25.1.2.1.1 r25.1.2.1.2.1 r25.1.2.1.2.2.1 (lf+40) 0) fun z46 =>
 br z46.1 (
 some (false,())) (
 bd (aQ.f lf) fun r47 =>
 some (r47.1,()))))))))))))
def E(lf:Nat):Entry:=⟨[(.sl (.pair (.int .i64) (.pair (.int .i64) (.pair yV .unit)))),(.pair (.int .i64) (.pair yV (.pair yV .unit))),(.sl .str)],[.bool],fun x=>f lf x.1 x.2.1 x.2.2.1⟩
theorem ok(lf:Nat):Ok 7 (E lf):=okL (tC (dQ.ok lf) (tC (fK.ok lf) (tC (aQ.ok lf) (tC (dO.ok lf) (tC (bV.ok lf) (tC (dV.ok lf) (tC (bC.ok lf) (tC (dm.ok lf) (tC (aH.ok lf) (tC (dP.ok lf) (tC (bD.ok lf) (tC (iD.ok lf) (tC (dK.ok lf) (tC (gm.ok lf) (tC (aU.ok lf) (tC (di.ok lf) tN)))))))))))))))) (aoC (aoC aoN)) (sl lf) fun x=>by kernel_rfl
end aB
end
end Go.Q
