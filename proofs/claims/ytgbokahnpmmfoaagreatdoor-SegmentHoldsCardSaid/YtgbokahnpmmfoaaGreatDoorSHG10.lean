import Derived.Test.YtgbokahnpmmfoaaGreatDoorProg
import Derived.KernelRfl
import Derived.Test.YtgbokahnpmmfoaaGreatDoorSHE3
import Derived.Test.YtgbokahnpmmfoaaGreatDoorSHG3
import Derived.Test.YtgbokahnpmmfoaaGreatDoorSHG5
import Derived.Test.YtgbokahnpmmfoaaGreatDoorSHG6
import Derived.Test.YtgbokahnpmmfoaaGreatDoorSHG7
import Derived.Test.YtgbokahnpmmfoaaGreatDoorSHG8
import Derived.Test.YtgbokahnpmmfoaaGreatDoorSHG9
set_option linter.unusedVariables false
set_option linter.unusedSimpArgs false
set_option linter.unusedSectionVars false
set_option maxRecDepth 100000
namespace Go.Q
open Go.IntKind (i64)
open Go Go.RowKit
open Go.Rx (br bd sIdx sCat sCut iQuo iRem)
noncomputable section
namespace rf
def anns:FuncId→FA:=annsL [(17,⟨annOf [(0,⟨kx 46 [7,11],[],[]⟩,⟨[],[],[]⟩)],none,[]⟩),(119,⟨annOf [(0,⟨kx 24 [2,3],[],[]⟩,⟨[],[],[]⟩)],none,[]⟩),(134,⟨annOf [(0,⟨kx 27 [0,6,7,8],[],[]⟩,⟨kx 27 [],[],[]⟩),(1,⟨kx 27 [0,4,5,6,7,8],[],[]⟩,⟨kx 27 [0,6,7,8],[],[]⟩)],none,[]⟩)]
def r1{ρ:Type}(lf:Nat)(v1:List (Int×(Int×(TV×Unit))))(v2 v3:Int)(v4:Bool)(v5 v6:ByteArray)(v7:Bool)(v8 v9:ByteArray)(v10:Bool)(v11 v12:ByteArray)(v13:Bool)(v14 v15:ByteArray)(v16:Bool)(v17 v18:ByteArray)(v19:Bool)(v20 v21:ByteArray)(v22:List TV)(v29:List (Int×(Int×(TV×Unit))))(v30:Bool)(v31 v32:ByteArray)(v33:Bool)(v34 v35:ByteArray)(v36:List (Int×(Int×(TV×Unit))))(v37 v38:Int)(v39:Bool)(v40 v41:ByteArray)(v42:Bool)(v43 v44:ByteArray)(v0:Int)(v23:Bool)(v24 v25:ByteArray)(v26:Bool)(v27 v28:ByteArray)(K:Int→Bool→ByteArray→ByteArray→Bool→ByteArray→ByteArray→Option ρ)(E0:Bool→ByteArray→ByteArray→Bool→ByteArray→ByteArray→Option ρ):Option ρ :=
 br (decide (v0 < v38)) (
 bd (iE.f lf v0) fun r4 =>
 bd (dR.f lf ((v30,v31,v32,()),(v33,v34,v35,()),()) r4.1) fun r5 =>
 bd (dM.f lf r5.1 r5.2.1) fun r6 =>
 br r6.1 (
 bd (nJ.f lf ((v39,v40,v41,()),(v42,v43,v44,()),()) ((v10,v11,v12,()),(v13,v14,v15,()),())) fun r7 =>
 bd (iD.f lf r7.1 r7.2.1) fun r8 =>
 bd (fJ.f lf r8.1) fun r9 =>
 br (!r9.1) (
 bd (jD.f lf v0) fun r10 =>
 bd (jM.f lf ((v23,v24,v25,()),(v26,v27,v28,()),()) r10.1) fun r11 =>
 bd (iD.f lf r11.1 r11.2.1) fun r12 =>
 K (i64.wrap (v0+1)) r12.1.1.1 r12.1.1.2.1 r12.1.1.2.2.1 r12.1.2.1.1 r12.1.2.1.2.1 r12.1.2.1.2.2.1) (
 K (i64.wrap (v0+1)) v23 v24 v25 v26 v27 v28)) (
 K (i64.wrap (v0+1)) v23 v24 v25 v26 v27 v28)) (
 E0 v23 v24 v25 v26 v27 v28)
def l1(lf:Nat)(v1:List (Int×(Int×(TV×Unit))))(v2 v3:Int)(v4:Bool)(v5 v6:ByteArray)(v7:Bool)(v8 v9:ByteArray)(v10:Bool)(v11 v12:ByteArray)(v13:Bool)(v14 v15:ByteArray)(v16:Bool)(v17 v18:ByteArray)(v19:Bool)(v20 v21:ByteArray)(v22:List TV)(v29:List (Int×(Int×(TV×Unit))))(v30:Bool)(v31 v32:ByteArray)(v33:Bool)(v34 v35:ByteArray)(v36:List (Int×(Int×(TV×Unit))))(v37 v38:Int)(v39:Bool)(v40 v41:ByteArray)(v42:Bool)(v43 v44:ByteArray):Nat→Int→Bool→ByteArray→ByteArray→Bool→ByteArray→ByteArray→Option ((Bool×ByteArray×ByteArray×Bool×ByteArray×ByteArray×Unit)×Unit)
 | 0,_,_,_,_,_,_,_=>none
 | n+1,v0,v23,v24,v25,v26,v27,v28=>r1 lf v1 v2 v3 v4 v5 v6 v7 v8 v9 v10 v11 v12 v13 v14 v15 v16 v17 v18 v19 v20 v21 v22 v29 v30 v31 v32 v33 v34 v35 v36 v37 v38 v39 v40 v41 v42 v43 v44 v0 v23 v24 v25 v26 v27 v28 (l1 lf v1 v2 v3 v4 v5 v6 v7 v8 v9 v10 v11 v12 v13 v14 v15 v16 v17 v18 v19 v20 v21 v22 v29 v30 v31 v32 v33 v34 v35 v36 v37 v38 v39 v40 v41 v42 v43 v44 n) (fun w0 w1 w2 w3 w4 w5=>some ((w0,w1,w2,w3,w4,w5,()),()))
def sh1:ShS:=⟨[.s (.yld 10),.a 3,.s (.ptr 11 0),.s (.int .i64),.s (.sl (.pair (.int .i64) (.pair (.int .i64) (.pair yV .unit)))),.s (.int .i64),.s (.int .i64),.a 18],[.cells [.s .bool,.s .str,.s .str,.s .bool,.s .str,.s .str] 29,.cells [.s .bool,.s .str,.s .str,.s .bool,.s .str,.s .str] 29,.cells [.s .bool,.s .str,.s .str,.s .bool,.s .str,.s .str] 29,.row yV 29 false,.cells [.s .bool,.s .str,.s .str,.s .bool,.s .str,.s .str] 29,.cells [.s (.sl (.pair (.int .i64) (.pair (.int .i64) (.pair yV .unit))))] 22,.cells [.s .bool,.s .str,.s .str,.s .bool,.s .str,.s .str] 29,.rnd [.a 7,.s (.ptr 1 0),.a 3,.s (.ptr 4 0),.a 34] 17 0 .ready none,.cells [.s (.yld 7)] 150,.cells [.s (.sl (.pair (.int .i64) (.pair (.int .i64) (.pair yV .unit))))] 22,.rnd [.a 2,.s (.ptr 6 0),.s (.ptr 8 0),.a 20] 119 0 .ready none,.cells [.s (.int .i64),.s (.int .i64),.s .bool,.s .str,.s .str,.s .bool,.s .str,.s .str] 98]⟩
def S1(p:Int×(List (Int×(Int×(TV×Unit))))×Int×Int×Bool×ByteArray×ByteArray×Bool×ByteArray×ByteArray×Bool×ByteArray×ByteArray×Bool×ByteArray×ByteArray×Bool×ByteArray×ByteArray×Bool×ByteArray×ByteArray×(List TV)×Bool×ByteArray×ByteArray×Bool×ByteArray×ByteArray×(List (Int×(Int×(TV×Unit))))×Bool×ByteArray×ByteArray×Bool×ByteArray×ByteArray×(List (Int×(Int×(TV×Unit))))×Int×Int×Bool×ByteArray×ByteArray×Bool×ByteArray×ByteArray×Unit):St:=sh1.b p
def xh0:ShS:=⟨[.s (.yld 10),.a 5,.s (.sl (.pair (.int .i64) (.pair (.int .i64) (.pair yV .unit)))),.s (.int .i64),.s (.int .i64),.a 18],[.cells [.s .bool,.s .str,.s .str,.s .bool,.s .str,.s .str] 29,.cells [.s .bool,.s .str,.s .str,.s .bool,.s .str,.s .str] 29,.cells [.s .bool,.s .str,.s .str,.s .bool,.s .str,.s .str] 29,.row yV 29 false,.cells [.s .bool,.s .str,.s .str,.s .bool,.s .str,.s .str] 29,.cells [.s (.sl (.pair (.int .i64) (.pair (.int .i64) (.pair yV .unit))))] 22,.cells [.s .bool,.s .str,.s .str,.s .bool,.s .str,.s .str] 29,.rnd [.a 7,.s (.ptr 1 0),.a 3,.s (.ptr 4 0),.a 34] 17 0 .ready none,.cells [.s (.yld 7)] 150,.cells [.s (.sl (.pair (.int .i64) (.pair (.int .i64) (.pair yV .unit))))] 22,.rnd [.a 2,.s (.ptr 6 0),.s (.ptr 8 0),.a 20] 119 0 .ready none,.cells [.s (.int .i64),.s (.int .i64),.s .bool,.s .str,.s .str,.s .bool,.s .str,.s .str] 98]⟩
def o1(v1:List (Int×(Int×(TV×Unit))))(v2 v3:Int)(v4:Bool)(v5 v6:ByteArray)(v7:Bool)(v8 v9:ByteArray)(v10:Bool)(v11 v12:ByteArray)(v13:Bool)(v14 v15:ByteArray)(v16:Bool)(v17 v18:ByteArray)(v19:Bool)(v20 v21:ByteArray)(v22:List TV)(v29:List (Int×(Int×(TV×Unit))))(v30:Bool)(v31 v32:ByteArray)(v33:Bool)(v34 v35:ByteArray)(v36:List (Int×(Int×(TV×Unit))))(v37 v38:Int)(v39:Bool)(v40 v41:ByteArray)(v42:Bool)(v43 v44:ByteArray)(y:(Bool×ByteArray×ByteArray×Bool×ByteArray×ByteArray×Unit)×Unit):Alt:=.one (.exit 2) (xh0.b (v1,v2,v3,v4,v5,v6,v7,v8,v9,v10,v11,v12,v13,v14,v15,v16,v17,v18,v19,v20,v21,v22,y.1.1,y.1.2.1,y.1.2.2.1,y.1.2.2.2.1,y.1.2.2.2.2.1,y.1.2.2.2.2.2.1,v29,v30,v31,v32,v33,v34,v35,v36,v37,v38,v39,v40,v41,v42,v43,v44,()))
def r0{ρ:Type}(lf:Nat)(v0:List (Int×(Int×(TV×Unit))))(v1:Int)(v3:Bool)(v4 v5:ByteArray)(v6:Bool)(v7 v8:ByteArray)(v9:Bool)(v10 v11:ByteArray)(v12:Bool)(v13 v14:ByteArray)(v15:Bool)(v16 v17:ByteArray)(v18:Bool)(v19 v20:ByteArray)(v21:List TV)(v28:List (Int×(Int×(TV×Unit))))(v29:Bool)(v30 v31:ByteArray)(v32:Bool)(v33 v34:ByteArray)(v35:List (Int×(Int×(TV×Unit))))(v2:Int)(v22:Bool)(v23 v24:ByteArray)(v25:Bool)(v26 v27:ByteArray)(K:Int→Bool→ByteArray→ByteArray→Bool→ByteArray→ByteArray→Option ρ)(E0:Bool→ByteArray→ByteArray→Bool→ByteArray→ByteArray→Option ρ):Option ρ :=
 br (decide (v2 < v1)) (
 bd (idxL v0 v2) fun y3 =>
 bd (l1 lf v0 v1 v2 v3 v4 v5 v6 v7 v8 v9 v10 v11 v12 v13 v14 v15 v16 v17 v18 v19 v20 v21 v28 v29 v30 v31 v32 v33 v34 v35 y3.1 y3.2.1 y3.2.2.1.1.1 y3.2.2.1.1.2.1 y3.2.2.1.1.2.2.1 y3.2.2.1.2.1.1 y3.2.2.1.2.1.2.1 y3.2.2.1.2.1.2.2.1 (lf+40) y3.1 v22 v23 v24 v25 v26 v27) fun z13 =>
 K (i64.wrap (v2+1)) z13.1.1 z13.1.2.1 z13.1.2.2.1 z13.1.2.2.2.1 z13.1.2.2.2.2.1 z13.1.2.2.2.2.2.1) (
 E0 v22 v23 v24 v25 v26 v27)
def l0(lf:Nat)(v0:List (Int×(Int×(TV×Unit))))(v1:Int)(v3:Bool)(v4 v5:ByteArray)(v6:Bool)(v7 v8:ByteArray)(v9:Bool)(v10 v11:ByteArray)(v12:Bool)(v13 v14:ByteArray)(v15:Bool)(v16 v17:ByteArray)(v18:Bool)(v19 v20:ByteArray)(v21:List TV)(v28:List (Int×(Int×(TV×Unit))))(v29:Bool)(v30 v31:ByteArray)(v32:Bool)(v33 v34:ByteArray)(v35:List (Int×(Int×(TV×Unit)))):Nat→Int→Bool→ByteArray→ByteArray→Bool→ByteArray→ByteArray→Option ((Bool×ByteArray×ByteArray×Bool×ByteArray×ByteArray×Unit)×Unit)
 | 0,_,_,_,_,_,_,_=>none
 | n+1,v2,v22,v23,v24,v25,v26,v27=>r0 lf v0 v1 v3 v4 v5 v6 v7 v8 v9 v10 v11 v12 v13 v14 v15 v16 v17 v18 v19 v20 v21 v28 v29 v30 v31 v32 v33 v34 v35 v2 v22 v23 v24 v25 v26 v27 (l0 lf v0 v1 v3 v4 v5 v6 v7 v8 v9 v10 v11 v12 v13 v14 v15 v16 v17 v18 v19 v20 v21 v28 v29 v30 v31 v32 v33 v34 v35 n) (fun w0 w1 w2 w3 w4 w5=>some ((w0,w1,w2,w3,w4,w5,()),()))
def sh0:ShS:=⟨[.s (.yld 10),.a 5,.s (.sl (.pair (.int .i64) (.pair (.int .i64) (.pair yV .unit)))),.s (.int .i64),.s (.int .i64),.a 18],[.cells [.s .bool,.s .str,.s .str,.s .bool,.s .str,.s .str] 29,.cells [.s .bool,.s .str,.s .str,.s .bool,.s .str,.s .str] 29,.cells [.s .bool,.s .str,.s .str,.s .bool,.s .str,.s .str] 29,.row yV 29 false,.cells [.s .bool,.s .str,.s .str,.s .bool,.s .str,.s .str] 29,.cells [.s (.sl (.pair (.int .i64) (.pair (.int .i64) (.pair yV .unit))))] 22,.cells [.s .bool,.s .str,.s .str,.s .bool,.s .str,.s .str] 29,.rnd [.a 7,.s (.ptr 1 0),.a 3,.s (.ptr 4 0),.a 34] 17 0 .ready none,.cells [.s (.yld 7)] 150,.cells [.s (.sl (.pair (.int .i64) (.pair (.int .i64) (.pair yV .unit))))] 22,.rnd [.a 2,.s (.ptr 6 0),.s (.ptr 8 0),.a 20] 119 0 .ready none]⟩
def S0(p:(List (Int×(Int×(TV×Unit))))×Int×Int×Bool×ByteArray×ByteArray×Bool×ByteArray×ByteArray×Bool×ByteArray×ByteArray×Bool×ByteArray×ByteArray×Bool×ByteArray×ByteArray×Bool×ByteArray×ByteArray×(List TV)×Bool×ByteArray×ByteArray×Bool×ByteArray×ByteArray×(List (Int×(Int×(TV×Unit))))×Bool×ByteArray×ByteArray×Bool×ByteArray×ByteArray×(List (Int×(Int×(TV×Unit))))×Unit):St:=sh0.b p
def xh1:ShS:=⟨[.a 27],[.cells [.s .bool,.s .str,.s .str,.s .bool,.s .str,.s .str] 29,.cells [.s .bool,.s .str,.s .str,.s .bool,.s .str,.s .str] 29,.cells [.s .bool,.s .str,.s .str,.s .bool,.s .str,.s .str] 29,.row yV 29 false,.cells [.s .bool,.s .str,.s .str,.s .bool,.s .str,.s .str] 29,.cells [.s (.sl (.pair (.int .i64) (.pair (.int .i64) (.pair yV .unit))))] 22,.cells [.s .bool,.s .str,.s .str,.s .bool,.s .str,.s .str] 29,.rnd [.a 7,.s (.ptr 1 0),.a 3,.s (.ptr 4 0),.a 34] 17 0 .ready none,.cells [.s (.yld 7)] 150,.cells [.s (.sl (.pair (.int .i64) (.pair (.int .i64) (.pair yV .unit))))] 22,.rnd [.a 2,.s (.ptr 6 0),.s (.ptr 8 0),.a 20] 119 0 .ready none]⟩
def o0(v0:List (Int×(Int×(TV×Unit))))(v1:Int)(v3:Bool)(v4 v5:ByteArray)(v6:Bool)(v7 v8:ByteArray)(v9:Bool)(v10 v11:ByteArray)(v12:Bool)(v13 v14:ByteArray)(v15:Bool)(v16 v17:ByteArray)(v18:Bool)(v19 v20:ByteArray)(v21:List TV)(v28:List (Int×(Int×(TV×Unit))))(v29:Bool)(v30 v31:ByteArray)(v32:Bool)(v33 v34:ByteArray)(v35:List (Int×(Int×(TV×Unit))))(y:(Bool×ByteArray×ByteArray×Bool×ByteArray×ByteArray×Unit)×Unit):Alt:=.one (.exit 0) (xh1.b (v3,v4,v5,v6,v7,v8,v9,v10,v11,v12,v13,v14,v15,v16,v17,v18,v19,v20,v21,y.1.1,y.1.2.1,y.1.2.2.1,y.1.2.2.2.1,y.1.2.2.2.2.1,y.1.2.2.2.2.2.1,v28,v29,v30,v31,v32,v33,v34,v35,()))
def tb(lf:Nat):List (FuncId×Entry):=[(60,gm.E lf),(61,jf.E lf),(63,iD.E lf),(64,jM.E lf),(67,fJ.E lf),(70,nJ.E lf),(71,jD.E lf),(86,dR.E lf),(120,dM.E lf),(121,iE.E lf)]
def mY(lf:Nat):List (Nat×(St→Option LTE)):=[(0,sumE sh0 fun(p:(List (Int×(Int×(TV×Unit))))×Int×Int×Bool×ByteArray×ByteArray×Bool×ByteArray×ByteArray×Bool×ByteArray×ByteArray×Bool×ByteArray×ByteArray×Bool×ByteArray×ByteArray×Bool×ByteArray×ByteArray×(List TV)×Bool×ByteArray×ByteArray×Bool×ByteArray×ByteArray×(List (Int×(Int×(TV×Unit))))×Bool×ByteArray×ByteArray×Bool×ByteArray×ByteArray×(List (Int×(Int×(TV×Unit))))×Unit)=>⟨(Bool×ByteArray×ByteArray×Bool×ByteArray×ByteArray×Unit)×Unit,l0 lf p.1 p.2.1 p.2.2.2.1 p.2.2.2.2.1 p.2.2.2.2.2.1 p.2.2.2.2.2.2.1 p.2.2.2.2.2.2.2.1 p.2.2.2.2.2.2.2.2.1 p.2.2.2.2.2.2.2.2.2.1 p.2.2.2.2.2.2.2.2.2.2.1 p.2.2.2.2.2.2.2.2.2.2.2.1 p.2.2.2.2.2.2.2.2.2.2.2.2.1 p.2.2.2.2.2.2.2.2.2.2.2.2.2.1 p.2.2.2.2.2.2.2.2.2.2.2.2.2.2.1 p.2.2.2.2.2.2.2.2.2.2.2.2.2.2.2.1 p.2.2.2.2.2.2.2.2.2.2.2.2.2.2.2.2.1 p.2.2.2.2.2.2.2.2.2.2.2.2.2.2.2.2.2.1 p.2.2.2.2.2.2.2.2.2.2.2.2.2.2.2.2.2.2.1 p.2.2.2.2.2.2.2.2.2.2.2.2.2.2.2.2.2.2.2.1 p.2.2.2.2.2.2.2.2.2.2.2.2.2.2.2.2.2.2.2.2.1 p.2.2.2.2.2.2.2.2.2.2.2.2.2.2.2.2.2.2.2.2.2.1 p.2.2.2.2.2.2.2.2.2.2.2.2.2.2.2.2.2.2.2.2.2.2.2.2.2.2.2.2.1 p.2.2.2.2.2.2.2.2.2.2.2.2.2.2.2.2.2.2.2.2.2.2.2.2.2.2.2.2.2.1 p.2.2.2.2.2.2.2.2.2.2.2.2.2.2.2.2.2.2.2.2.2.2.2.2.2.2.2.2.2.2.1 p.2.2.2.2.2.2.2.2.2.2.2.2.2.2.2.2.2.2.2.2.2.2.2.2.2.2.2.2.2.2.2.1 p.2.2.2.2.2.2.2.2.2.2.2.2.2.2.2.2.2.2.2.2.2.2.2.2.2.2.2.2.2.2.2.2.1 p.2.2.2.2.2.2.2.2.2.2.2.2.2.2.2.2.2.2.2.2.2.2.2.2.2.2.2.2.2.2.2.2.2.1 p.2.2.2.2.2.2.2.2.2.2.2.2.2.2.2.2.2.2.2.2.2.2.2.2.2.2.2.2.2.2.2.2.2.2.1 p.2.2.2.2.2.2.2.2.2.2.2.2.2.2.2.2.2.2.2.2.2.2.2.2.2.2.2.2.2.2.2.2.2.2.2.1 (lf+40) p.2.2.1 p.2.2.2.2.2.2.2.2.2.2.2.2.2.2.2.2.2.2.2.2.2.2.1 p.2.2.2.2.2.2.2.2.2.2.2.2.2.2.2.2.2.2.2.2.2.2.2.1 p.2.2.2.2.2.2.2.2.2.2.2.2.2.2.2.2.2.2.2.2.2.2.2.2.1 p.2.2.2.2.2.2.2.2.2.2.2.2.2.2.2.2.2.2.2.2.2.2.2.2.2.1 p.2.2.2.2.2.2.2.2.2.2.2.2.2.2.2.2.2.2.2.2.2.2.2.2.2.2.1 p.2.2.2.2.2.2.2.2.2.2.2.2.2.2.2.2.2.2.2.2.2.2.2.2.2.2.2.1,o0 p.1 p.2.1 p.2.2.2.1 p.2.2.2.2.1 p.2.2.2.2.2.1 p.2.2.2.2.2.2.1 p.2.2.2.2.2.2.2.1 p.2.2.2.2.2.2.2.2.1 p.2.2.2.2.2.2.2.2.2.1 p.2.2.2.2.2.2.2.2.2.2.1 p.2.2.2.2.2.2.2.2.2.2.2.1 p.2.2.2.2.2.2.2.2.2.2.2.2.1 p.2.2.2.2.2.2.2.2.2.2.2.2.2.1 p.2.2.2.2.2.2.2.2.2.2.2.2.2.2.1 p.2.2.2.2.2.2.2.2.2.2.2.2.2.2.2.1 p.2.2.2.2.2.2.2.2.2.2.2.2.2.2.2.2.1 p.2.2.2.2.2.2.2.2.2.2.2.2.2.2.2.2.2.1 p.2.2.2.2.2.2.2.2.2.2.2.2.2.2.2.2.2.2.1 p.2.2.2.2.2.2.2.2.2.2.2.2.2.2.2.2.2.2.2.1 p.2.2.2.2.2.2.2.2.2.2.2.2.2.2.2.2.2.2.2.2.1 p.2.2.2.2.2.2.2.2.2.2.2.2.2.2.2.2.2.2.2.2.2.1 p.2.2.2.2.2.2.2.2.2.2.2.2.2.2.2.2.2.2.2.2.2.2.2.2.2.2.2.2.1 p.2.2.2.2.2.2.2.2.2.2.2.2.2.2.2.2.2.2.2.2.2.2.2.2.2.2.2.2.2.1 p.2.2.2.2.2.2.2.2.2.2.2.2.2.2.2.2.2.2.2.2.2.2.2.2.2.2.2.2.2.2.1 p.2.2.2.2.2.2.2.2.2.2.2.2.2.2.2.2.2.2.2.2.2.2.2.2.2.2.2.2.2.2.2.1 p.2.2.2.2.2.2.2.2.2.2.2.2.2.2.2.2.2.2.2.2.2.2.2.2.2.2.2.2.2.2.2.2.1 p.2.2.2.2.2.2.2.2.2.2.2.2.2.2.2.2.2.2.2.2.2.2.2.2.2.2.2.2.2.2.2.2.2.1 p.2.2.2.2.2.2.2.2.2.2.2.2.2.2.2.2.2.2.2.2.2.2.2.2.2.2.2.2.2.2.2.2.2.2.1 p.2.2.2.2.2.2.2.2.2.2.2.2.2.2.2.2.2.2.2.2.2.2.2.2.2.2.2.2.2.2.2.2.2.2.2.1⟩),
 (1,sumE sh1 fun(p:Int×(List (Int×(Int×(TV×Unit))))×Int×Int×Bool×ByteArray×ByteArray×Bool×ByteArray×ByteArray×Bool×ByteArray×ByteArray×Bool×ByteArray×ByteArray×Bool×ByteArray×ByteArray×Bool×ByteArray×ByteArray×(List TV)×Bool×ByteArray×ByteArray×Bool×ByteArray×ByteArray×(List (Int×(Int×(TV×Unit))))×Bool×ByteArray×ByteArray×Bool×ByteArray×ByteArray×(List (Int×(Int×(TV×Unit))))×Int×Int×Bool×ByteArray×ByteArray×Bool×ByteArray×ByteArray×Unit)=>⟨(Bool×ByteArray×ByteArray×Bool×ByteArray×ByteArray×Unit)×Unit,l1 lf p.2.1 p.2.2.1 p.2.2.2.1 p.2.2.2.2.1 p.2.2.2.2.2.1 p.2.2.2.2.2.2.1 p.2.2.2.2.2.2.2.1 p.2.2.2.2.2.2.2.2.1 p.2.2.2.2.2.2.2.2.2.1 p.2.2.2.2.2.2.2.2.2.2.1 p.2.2.2.2.2.2.2.2.2.2.2.1 p.2.2.2.2.2.2.2.2.2.2.2.2.1 p.2.2.2.2.2.2.2.2.2.2.2.2.2.1 p.2.2.2.2.2.2.2.2.2.2.2.2.2.2.1 p.2.2.2.2.2.2.2.2.2.2.2.2.2.2.2.1 p.2.2.2.2.2.2.2.2.2.2.2.2.2.2.2.2.1 p.2.2.2.2.2.2.2.2.2.2.2.2.2.2.2.2.2.1 p.2.2.2.2.2.2.2.2.2.2.2.2.2.2.2.2.2.2.1 p.2.2.2.2.2.2.2.2.2.2.2.2.2.2.2.2.2.2.2.1 p.2.2.2.2.2.2.2.2.2.2.2.2.2.2.2.2.2.2.2.2.1 p.2.2.2.2.2.2.2.2.2.2.2.2.2.2.2.2.2.2.2.2.2.1 p.2.2.2.2.2.2.2.2.2.2.2.2.2.2.2.2.2.2.2.2.2.2.1 p.2.2.2.2.2.2.2.2.2.2.2.2.2.2.2.2.2.2.2.2.2.2.2.2.2.2.2.2.2.1 p.2.2.2.2.2.2.2.2.2.2.2.2.2.2.2.2.2.2.2.2.2.2.2.2.2.2.2.2.2.2.1 p.2.2.2.2.2.2.2.2.2.2.2.2.2.2.2.2.2.2.2.2.2.2.2.2.2.2.2.2.2.2.2.1 p.2.2.2.2.2.2.2.2.2.2.2.2.2.2.2.2.2.2.2.2.2.2.2.2.2.2.2.2.2.2.2.2.1 p.2.2.2.2.2.2.2.2.2.2.2.2.2.2.2.2.2.2.2.2.2.2.2.2.2.2.2.2.2.2.2.2.2.1 p.2.2.2.2.2.2.2.2.2.2.2.2.2.2.2.2.2.2.2.2.2.2.2.2.2.2.2.2.2.2.2.2.2.2.1 p.2.2.2.2.2.2.2.2.2.2.2.2.2.2.2.2.2.2.2.2.2.2.2.2.2.2.2.2.2.2.2.2.2.2.2.1 p.2.2.2.2.2.2.2.2.2.2.2.2.2.2.2.2.2.2.2.2.2.2.2.2.2.2.2.2.2.2.2.2.2.2.2.2.1 p.2.2.2.2.2.2.2.2.2.2.2.2.2.2.2.2.2.2.2.2.2.2.2.2.2.2.2.2.2.2.2.2.2.2.2.2.2.1 p.2.2.2.2.2.2.2.2.2.2.2.2.2.2.2.2.2.2.2.2.2.2.2.2.2.2.2.2.2.2.2.2.2.2.2.2.2.2.1 p.2.2.2.2.2.2.2.2.2.2.2.2.2.2.2.2.2.2.2.2.2.2.2.2.2.2.2.2.2.2.2.2.2.2.2.2.2.2.2.1 p.2.2.2.2.2.2.2.2.2.2.2.2.2.2.2.2.2.2.2.2.2.2.2.2.2.2.2.2.2.2.2.2.2.2.2.2.2.2.2.2.1 p.2.2.2.2.2.2.2.2.2.2.2.2.2.2.2.2.2.2.2.2.2.2.2.2.2.2.2.2.2.2.2.2.2.2.2.2.2.2.2.2.2.1 p.2.2.2.2.2.2.2.2.2.2.2.2.2.2.2.2.2.2.2.2.2.2.2.2.2.2.2.2.2.2.2.2.2.2.2.2.2.2.2.2.2.2.1 p.2.2.2.2.2.2.2.2.2.2.2.2.2.2.2.2.2.2.2.2.2.2.2.2.2.2.2.2.2.2.2.2.2.2.2.2.2.2.2.2.2.2.2.1 p.2.2.2.2.2.2.2.2.2.2.2.2.2.2.2.2.2.2.2.2.2.2.2.2.2.2.2.2.2.2.2.2.2.2.2.2.2.2.2.2.2.2.2.2.1 (lf+40) p.1 p.2.2.2.2.2.2.2.2.2.2.2.2.2.2.2.2.2.2.2.2.2.2.2.1 p.2.2.2.2.2.2.2.2.2.2.2.2.2.2.2.2.2.2.2.2.2.2.2.2.1 p.2.2.2.2.2.2.2.2.2.2.2.2.2.2.2.2.2.2.2.2.2.2.2.2.2.1 p.2.2.2.2.2.2.2.2.2.2.2.2.2.2.2.2.2.2.2.2.2.2.2.2.2.2.1 p.2.2.2.2.2.2.2.2.2.2.2.2.2.2.2.2.2.2.2.2.2.2.2.2.2.2.2.1 p.2.2.2.2.2.2.2.2.2.2.2.2.2.2.2.2.2.2.2.2.2.2.2.2.2.2.2.2.1,o1 p.2.1 p.2.2.1 p.2.2.2.1 p.2.2.2.2.1 p.2.2.2.2.2.1 p.2.2.2.2.2.2.1 p.2.2.2.2.2.2.2.1 p.2.2.2.2.2.2.2.2.1 p.2.2.2.2.2.2.2.2.2.1 p.2.2.2.2.2.2.2.2.2.2.1 p.2.2.2.2.2.2.2.2.2.2.2.1 p.2.2.2.2.2.2.2.2.2.2.2.2.1 p.2.2.2.2.2.2.2.2.2.2.2.2.2.1 p.2.2.2.2.2.2.2.2.2.2.2.2.2.2.1 p.2.2.2.2.2.2.2.2.2.2.2.2.2.2.2.1 p.2.2.2.2.2.2.2.2.2.2.2.2.2.2.2.2.1 p.2.2.2.2.2.2.2.2.2.2.2.2.2.2.2.2.2.1 p.2.2.2.2.2.2.2.2.2.2.2.2.2.2.2.2.2.2.1 p.2.2.2.2.2.2.2.2.2.2.2.2.2.2.2.2.2.2.2.1 p.2.2.2.2.2.2.2.2.2.2.2.2.2.2.2.2.2.2.2.2.1 p.2.2.2.2.2.2.2.2.2.2.2.2.2.2.2.2.2.2.2.2.2.1 p.2.2.2.2.2.2.2.2.2.2.2.2.2.2.2.2.2.2.2.2.2.2.1 p.2.2.2.2.2.2.2.2.2.2.2.2.2.2.2.2.2.2.2.2.2.2.2.2.2.2.2.2.2.1 p.2.2.2.2.2.2.2.2.2.2.2.2.2.2.2.2.2.2.2.2.2.2.2.2.2.2.2.2.2.2.1 p.2.2.2.2.2.2.2.2.2.2.2.2.2.2.2.2.2.2.2.2.2.2.2.2.2.2.2.2.2.2.2.1 p.2.2.2.2.2.2.2.2.2.2.2.2.2.2.2.2.2.2.2.2.2.2.2.2.2.2.2.2.2.2.2.2.1 p.2.2.2.2.2.2.2.2.2.2.2.2.2.2.2.2.2.2.2.2.2.2.2.2.2.2.2.2.2.2.2.2.2.1 p.2.2.2.2.2.2.2.2.2.2.2.2.2.2.2.2.2.2.2.2.2.2.2.2.2.2.2.2.2.2.2.2.2.2.1 p.2.2.2.2.2.2.2.2.2.2.2.2.2.2.2.2.2.2.2.2.2.2.2.2.2.2.2.2.2.2.2.2.2.2.2.1 p.2.2.2.2.2.2.2.2.2.2.2.2.2.2.2.2.2.2.2.2.2.2.2.2.2.2.2.2.2.2.2.2.2.2.2.2.1 p.2.2.2.2.2.2.2.2.2.2.2.2.2.2.2.2.2.2.2.2.2.2.2.2.2.2.2.2.2.2.2.2.2.2.2.2.2.1 p.2.2.2.2.2.2.2.2.2.2.2.2.2.2.2.2.2.2.2.2.2.2.2.2.2.2.2.2.2.2.2.2.2.2.2.2.2.2.1 p.2.2.2.2.2.2.2.2.2.2.2.2.2.2.2.2.2.2.2.2.2.2.2.2.2.2.2.2.2.2.2.2.2.2.2.2.2.2.2.1 p.2.2.2.2.2.2.2.2.2.2.2.2.2.2.2.2.2.2.2.2.2.2.2.2.2.2.2.2.2.2.2.2.2.2.2.2.2.2.2.2.1 p.2.2.2.2.2.2.2.2.2.2.2.2.2.2.2.2.2.2.2.2.2.2.2.2.2.2.2.2.2.2.2.2.2.2.2.2.2.2.2.2.2.1 p.2.2.2.2.2.2.2.2.2.2.2.2.2.2.2.2.2.2.2.2.2.2.2.2.2.2.2.2.2.2.2.2.2.2.2.2.2.2.2.2.2.2.1 p.2.2.2.2.2.2.2.2.2.2.2.2.2.2.2.2.2.2.2.2.2.2.2.2.2.2.2.2.2.2.2.2.2.2.2.2.2.2.2.2.2.2.2.1 p.2.2.2.2.2.2.2.2.2.2.2.2.2.2.2.2.2.2.2.2.2.2.2.2.2.2.2.2.2.2.2.2.2.2.2.2.2.2.2.2.2.2.2.2.1⟩)]
def ls(lf:Nat):List (Nat×FuncId×Sums):=[(11,134,sumsL (mY lf))]
def it1{ρ:Type}(lf n:Nat)(st:St)(k:KE ρ):Option ρ:=itG anns (ls lf) (tb lf) lf 11 134 1 12 (sumsL (mY lf)) n st k
theorem t1{ρ:Type}(lf n:Nat)(v0:Int)(v1:List (Int×(Int×(TV×Unit))))(v2 v3:Int)(v4:Bool)(v5 v6:ByteArray)(v7:Bool)(v8 v9:ByteArray)(v10:Bool)(v11 v12:ByteArray)(v13:Bool)(v14 v15:ByteArray)(v16:Bool)(v17 v18:ByteArray)(v19:Bool)(v20 v21:ByteArray)(v22:List TV)(v23:Bool)(v24 v25:ByteArray)(v26:Bool)(v27 v28:ByteArray)(v29:List (Int×(Int×(TV×Unit))))(v30:Bool)(v31 v32:ByteArray)(v33:Bool)(v34 v35:ByteArray)(v36:List (Int×(Int×(TV×Unit))))(v37 v38:Int)(v39:Bool)(v40 v41:ByteArray)(v42:Bool)(v43 v44:ByteArray)(k:KE ρ):it1 lf (n+1) (S1 (v0,v1,v2,v3,v4,v5,v6,v7,v8,v9,v10,v11,v12,v13,v14,v15,v16,v17,v18,v19,v20,v21,v22,v23,v24,v25,v26,v27,v28,v29,v30,v31,v32,v33,v34,v35,v36,v37,v38,v39,v40,v41,v42,v43,v44,())) k=r1 lf v1 v2 v3 v4 v5 v6 v7 v8 v9 v10 v11 v12 v13 v14 v15 v16 v17 v18 v19 v20 v21 v22 v29 v30 v31 v32 v33 v34 v35 v36 v37 v38 v39 v40 v41 v42 v43 v44 v0 v23 v24 v25 v26 v27 v28 (fun x0 x1 x2 x3 x4 x5 x6=>it1 lf n (S1 (x0,v1,v2,v3,v4,v5,v6,v7,v8,v9,v10,v11,v12,v13,v14,v15,v16,v17,v18,v19,v20,v21,v22,x1,x2,x3,x4,x5,x6,v29,v30,v31,v32,v33,v34,v35,v36,v37,v38,v39,v40,v41,v42,v43,v44,())) k) (fun w0 w1 w2 w3 w4 w5=>k (.exit 2) (xh0.b (v1,v2,v3,v4,v5,v6,v7,v8,v9,v10,v11,v12,v13,v14,v15,v16,v17,v18,v19,v20,v21,v22,w0,w1,w2,w3,w4,w5,v29,v30,v31,v32,v33,v34,v35,v36,v37,v38,v39,v40,v41,v42,v43,v44,()))):=by kernel_rfl
theorem u1{ρ:Type}(lf:Nat)(v1:List (Int×(Int×(TV×Unit))))(v2 v3:Int)(v4:Bool)(v5 v6:ByteArray)(v7:Bool)(v8 v9:ByteArray)(v10:Bool)(v11 v12:ByteArray)(v13:Bool)(v14 v15:ByteArray)(v16:Bool)(v17 v18:ByteArray)(v19:Bool)(v20 v21:ByteArray)(v22:List TV)(v29:List (Int×(Int×(TV×Unit))))(v30:Bool)(v31 v32:ByteArray)(v33:Bool)(v34 v35:ByteArray)(v36:List (Int×(Int×(TV×Unit))))(v37 v38:Int)(v39:Bool)(v40 v41:ByteArray)(v42:Bool)(v43 v44:ByteArray)(k:KE ρ):∀ (n:Nat) (v0:Int) (v23:Bool) (v24 v25:ByteArray) (v26:Bool) (v27 v28:ByteArray),it1 lf n (S1 (v0,v1,v2,v3,v4,v5,v6,v7,v8,v9,v10,v11,v12,v13,v14,v15,v16,v17,v18,v19,v20,v21,v22,v23,v24,v25,v26,v27,v28,v29,v30,v31,v32,v33,v34,v35,v36,v37,v38,v39,v40,v41,v42,v43,v44,())) k=bd (l1 lf v1 v2 v3 v4 v5 v6 v7 v8 v9 v10 v11 v12 v13 v14 v15 v16 v17 v18 v19 v20 v21 v22 v29 v30 v31 v32 v33 v34 v35 v36 v37 v38 v39 v40 v41 v42 v43 v44 n v0 v23 v24 v25 v26 v27 v28) fun y=>altK k (o1 v1 v2 v3 v4 v5 v6 v7 v8 v9 v10 v11 v12 v13 v14 v15 v16 v17 v18 v19 v20 v21 v22 v29 v30 v31 v32 v33 v34 v35 v36 v37 v38 v39 v40 v41 v42 v43 v44 y)
 | 0,_,_,_,_,_,_,_=>by rw[l1,au];rfl
 | n+1,v0,v23,v24,v25,v26,v27,v28=>by
  rw[t1];simp only[l1,r1,u1 lf v1 v2 v3 v4 v5 v6 v7 v8 v9 v10 v11 v12 v13 v14 v15 v16 v17 v18 v19 v20 v21 v22 v29 v30 v31 v32 v33 v34 v35 v36 v37 v38 v39 v40 v41 v42 v43 v44 k n,bG,bF,aF,au,br_t,br_f,o1,altK]
def it0{ρ:Type}(lf n:Nat)(st:St)(k:KE ρ):Option ρ:=itG anns (ls lf) (tb lf) lf 11 134 0 11 (sumsL (mY lf)) n st k
theorem t0{ρ:Type}(lf n:Nat)(v0:List (Int×(Int×(TV×Unit))))(v1 v2:Int)(v3:Bool)(v4 v5:ByteArray)(v6:Bool)(v7 v8:ByteArray)(v9:Bool)(v10 v11:ByteArray)(v12:Bool)(v13 v14:ByteArray)(v15:Bool)(v16 v17:ByteArray)(v18:Bool)(v19 v20:ByteArray)(v21:List TV)(v22:Bool)(v23 v24:ByteArray)(v25:Bool)(v26 v27:ByteArray)(v28:List (Int×(Int×(TV×Unit))))(v29:Bool)(v30 v31:ByteArray)(v32:Bool)(v33 v34:ByteArray)(v35:List (Int×(Int×(TV×Unit))))(k:KE ρ):it0 lf (n+1) (S0 (v0,v1,v2,v3,v4,v5,v6,v7,v8,v9,v10,v11,v12,v13,v14,v15,v16,v17,v18,v19,v20,v21,v22,v23,v24,v25,v26,v27,v28,v29,v30,v31,v32,v33,v34,v35,())) k=r0 lf v0 v1 v3 v4 v5 v6 v7 v8 v9 v10 v11 v12 v13 v14 v15 v16 v17 v18 v19 v20 v21 v28 v29 v30 v31 v32 v33 v34 v35 v2 v22 v23 v24 v25 v26 v27 (fun x0 x1 x2 x3 x4 x5 x6=>it0 lf n (S0 (v0,v1,x0,v3,v4,v5,v6,v7,v8,v9,v10,v11,v12,v13,v14,v15,v16,v17,v18,v19,v20,v21,x1,x2,x3,x4,x5,x6,v28,v29,v30,v31,v32,v33,v34,v35,())) k) (fun w0 w1 w2 w3 w4 w5=>k (.exit 0) (xh1.b (v3,v4,v5,v6,v7,v8,v9,v10,v11,v12,v13,v14,v15,v16,v17,v18,v19,v20,v21,w0,w1,w2,w3,w4,w5,v28,v29,v30,v31,v32,v33,v34,v35,()))):=by kernel_rfl
theorem u0{ρ:Type}(lf:Nat)(v0:List (Int×(Int×(TV×Unit))))(v1:Int)(v3:Bool)(v4 v5:ByteArray)(v6:Bool)(v7 v8:ByteArray)(v9:Bool)(v10 v11:ByteArray)(v12:Bool)(v13 v14:ByteArray)(v15:Bool)(v16 v17:ByteArray)(v18:Bool)(v19 v20:ByteArray)(v21:List TV)(v28:List (Int×(Int×(TV×Unit))))(v29:Bool)(v30 v31:ByteArray)(v32:Bool)(v33 v34:ByteArray)(v35:List (Int×(Int×(TV×Unit))))(k:KE ρ):∀ (n:Nat) (v2:Int) (v22:Bool) (v23 v24:ByteArray) (v25:Bool) (v26 v27:ByteArray),it0 lf n (S0 (v0,v1,v2,v3,v4,v5,v6,v7,v8,v9,v10,v11,v12,v13,v14,v15,v16,v17,v18,v19,v20,v21,v22,v23,v24,v25,v26,v27,v28,v29,v30,v31,v32,v33,v34,v35,())) k=bd (l0 lf v0 v1 v3 v4 v5 v6 v7 v8 v9 v10 v11 v12 v13 v14 v15 v16 v17 v18 v19 v20 v21 v28 v29 v30 v31 v32 v33 v34 v35 n v2 v22 v23 v24 v25 v26 v27) fun y=>altK k (o0 v0 v1 v3 v4 v5 v6 v7 v8 v9 v10 v11 v12 v13 v14 v15 v16 v17 v18 v19 v20 v21 v28 v29 v30 v31 v32 v33 v34 v35 y)
 | 0,_,_,_,_,_,_,_=>by rw[l0,au];rfl
 | n+1,v2,v22,v23,v24,v25,v26,v27=>by
  rw[t0];simp only[l0,r0,u0 lf v0 v1 v3 v4 v5 v6 v7 v8 v9 v10 v11 v12 v13 v14 v15 v16 v17 v18 v19 v20 v21 v28 v29 v30 v31 v32 v33 v34 v35 k n,bG,bF,aF,au,br_t,br_f,o0,altK]
theorem sl(lf:Nat):SL anns (ls lf) (tb lf) lf (ls lf):=slC (laC (fun _=>by kernel_rfl) (fun _ (x:(List (Int×(Int×(TV×Unit))))×Int×Int×Bool×ByteArray×ByteArray×Bool×ByteArray×ByteArray×Bool×ByteArray×ByteArray×Bool×ByteArray×ByteArray×Bool×ByteArray×ByteArray×Bool×ByteArray×ByteArray×(List TV)×Bool×ByteArray×ByteArray×Bool×ByteArray×ByteArray×(List (Int×(Int×(TV×Unit))))×Bool×ByteArray×ByteArray×Bool×ByteArray×ByteArray×(List (Int×(Int×(TV×Unit))))×Unit) k=>aS (u0 lf x.1 x.2.1 x.2.2.2.1 x.2.2.2.2.1 x.2.2.2.2.2.1 x.2.2.2.2.2.2.1 x.2.2.2.2.2.2.2.1 x.2.2.2.2.2.2.2.2.1 x.2.2.2.2.2.2.2.2.2.1 x.2.2.2.2.2.2.2.2.2.2.1 x.2.2.2.2.2.2.2.2.2.2.2.1 x.2.2.2.2.2.2.2.2.2.2.2.2.1 x.2.2.2.2.2.2.2.2.2.2.2.2.2.1 x.2.2.2.2.2.2.2.2.2.2.2.2.2.2.1 x.2.2.2.2.2.2.2.2.2.2.2.2.2.2.2.1 x.2.2.2.2.2.2.2.2.2.2.2.2.2.2.2.2.1 x.2.2.2.2.2.2.2.2.2.2.2.2.2.2.2.2.2.1 x.2.2.2.2.2.2.2.2.2.2.2.2.2.2.2.2.2.2.1 x.2.2.2.2.2.2.2.2.2.2.2.2.2.2.2.2.2.2.2.1 x.2.2.2.2.2.2.2.2.2.2.2.2.2.2.2.2.2.2.2.2.1 x.2.2.2.2.2.2.2.2.2.2.2.2.2.2.2.2.2.2.2.2.2.1 x.2.2.2.2.2.2.2.2.2.2.2.2.2.2.2.2.2.2.2.2.2.2.2.2.2.2.2.2.1 x.2.2.2.2.2.2.2.2.2.2.2.2.2.2.2.2.2.2.2.2.2.2.2.2.2.2.2.2.2.1 x.2.2.2.2.2.2.2.2.2.2.2.2.2.2.2.2.2.2.2.2.2.2.2.2.2.2.2.2.2.2.1 x.2.2.2.2.2.2.2.2.2.2.2.2.2.2.2.2.2.2.2.2.2.2.2.2.2.2.2.2.2.2.2.1 x.2.2.2.2.2.2.2.2.2.2.2.2.2.2.2.2.2.2.2.2.2.2.2.2.2.2.2.2.2.2.2.2.1 x.2.2.2.2.2.2.2.2.2.2.2.2.2.2.2.2.2.2.2.2.2.2.2.2.2.2.2.2.2.2.2.2.2.1 x.2.2.2.2.2.2.2.2.2.2.2.2.2.2.2.2.2.2.2.2.2.2.2.2.2.2.2.2.2.2.2.2.2.2.1 x.2.2.2.2.2.2.2.2.2.2.2.2.2.2.2.2.2.2.2.2.2.2.2.2.2.2.2.2.2.2.2.2.2.2.2.1 k (lf+40) x.2.2.1 x.2.2.2.2.2.2.2.2.2.2.2.2.2.2.2.2.2.2.2.2.2.2.1 x.2.2.2.2.2.2.2.2.2.2.2.2.2.2.2.2.2.2.2.2.2.2.2.1 x.2.2.2.2.2.2.2.2.2.2.2.2.2.2.2.2.2.2.2.2.2.2.2.2.1 x.2.2.2.2.2.2.2.2.2.2.2.2.2.2.2.2.2.2.2.2.2.2.2.2.2.1 x.2.2.2.2.2.2.2.2.2.2.2.2.2.2.2.2.2.2.2.2.2.2.2.2.2.2.1 x.2.2.2.2.2.2.2.2.2.2.2.2.2.2.2.2.2.2.2.2.2.2.2.2.2.2.2.1)) (laC (fun _=>by kernel_rfl) (fun _ (x:Int×(List (Int×(Int×(TV×Unit))))×Int×Int×Bool×ByteArray×ByteArray×Bool×ByteArray×ByteArray×Bool×ByteArray×ByteArray×Bool×ByteArray×ByteArray×Bool×ByteArray×ByteArray×Bool×ByteArray×ByteArray×(List TV)×Bool×ByteArray×ByteArray×Bool×ByteArray×ByteArray×(List (Int×(Int×(TV×Unit))))×Bool×ByteArray×ByteArray×Bool×ByteArray×ByteArray×(List (Int×(Int×(TV×Unit))))×Int×Int×Bool×ByteArray×ByteArray×Bool×ByteArray×ByteArray×Unit) k=>aS (u1 lf x.2.1 x.2.2.1 x.2.2.2.1 x.2.2.2.2.1 x.2.2.2.2.2.1 x.2.2.2.2.2.2.1 x.2.2.2.2.2.2.2.1 x.2.2.2.2.2.2.2.2.1 x.2.2.2.2.2.2.2.2.2.1 x.2.2.2.2.2.2.2.2.2.2.1 x.2.2.2.2.2.2.2.2.2.2.2.1 x.2.2.2.2.2.2.2.2.2.2.2.2.1 x.2.2.2.2.2.2.2.2.2.2.2.2.2.1 x.2.2.2.2.2.2.2.2.2.2.2.2.2.2.1 x.2.2.2.2.2.2.2.2.2.2.2.2.2.2.2.1 x.2.2.2.2.2.2.2.2.2.2.2.2.2.2.2.2.1 x.2.2.2.2.2.2.2.2.2.2.2.2.2.2.2.2.2.1 x.2.2.2.2.2.2.2.2.2.2.2.2.2.2.2.2.2.2.1 x.2.2.2.2.2.2.2.2.2.2.2.2.2.2.2.2.2.2.2.1 x.2.2.2.2.2.2.2.2.2.2.2.2.2.2.2.2.2.2.2.2.1 x.2.2.2.2.2.2.2.2.2.2.2.2.2.2.2.2.2.2.2.2.2.1 x.2.2.2.2.2.2.2.2.2.2.2.2.2.2.2.2.2.2.2.2.2.2.1 x.2.2.2.2.2.2.2.2.2.2.2.2.2.2.2.2.2.2.2.2.2.2.2.2.2.2.2.2.2.1 x.2.2.2.2.2.2.2.2.2.2.2.2.2.2.2.2.2.2.2.2.2.2.2.2.2.2.2.2.2.2.1 x.2.2.2.2.2.2.2.2.2.2.2.2.2.2.2.2.2.2.2.2.2.2.2.2.2.2.2.2.2.2.2.1 x.2.2.2.2.2.2.2.2.2.2.2.2.2.2.2.2.2.2.2.2.2.2.2.2.2.2.2.2.2.2.2.2.1 x.2.2.2.2.2.2.2.2.2.2.2.2.2.2.2.2.2.2.2.2.2.2.2.2.2.2.2.2.2.2.2.2.2.1 x.2.2.2.2.2.2.2.2.2.2.2.2.2.2.2.2.2.2.2.2.2.2.2.2.2.2.2.2.2.2.2.2.2.2.1 x.2.2.2.2.2.2.2.2.2.2.2.2.2.2.2.2.2.2.2.2.2.2.2.2.2.2.2.2.2.2.2.2.2.2.2.1 x.2.2.2.2.2.2.2.2.2.2.2.2.2.2.2.2.2.2.2.2.2.2.2.2.2.2.2.2.2.2.2.2.2.2.2.2.1 x.2.2.2.2.2.2.2.2.2.2.2.2.2.2.2.2.2.2.2.2.2.2.2.2.2.2.2.2.2.2.2.2.2.2.2.2.2.1 x.2.2.2.2.2.2.2.2.2.2.2.2.2.2.2.2.2.2.2.2.2.2.2.2.2.2.2.2.2.2.2.2.2.2.2.2.2.2.1 x.2.2.2.2.2.2.2.2.2.2.2.2.2.2.2.2.2.2.2.2.2.2.2.2.2.2.2.2.2.2.2.2.2.2.2.2.2.2.2.1 x.2.2.2.2.2.2.2.2.2.2.2.2.2.2.2.2.2.2.2.2.2.2.2.2.2.2.2.2.2.2.2.2.2.2.2.2.2.2.2.2.1 x.2.2.2.2.2.2.2.2.2.2.2.2.2.2.2.2.2.2.2.2.2.2.2.2.2.2.2.2.2.2.2.2.2.2.2.2.2.2.2.2.2.1 x.2.2.2.2.2.2.2.2.2.2.2.2.2.2.2.2.2.2.2.2.2.2.2.2.2.2.2.2.2.2.2.2.2.2.2.2.2.2.2.2.2.2.1 x.2.2.2.2.2.2.2.2.2.2.2.2.2.2.2.2.2.2.2.2.2.2.2.2.2.2.2.2.2.2.2.2.2.2.2.2.2.2.2.2.2.2.2.1 x.2.2.2.2.2.2.2.2.2.2.2.2.2.2.2.2.2.2.2.2.2.2.2.2.2.2.2.2.2.2.2.2.2.2.2.2.2.2.2.2.2.2.2.2.1 k (lf+40) x.1 x.2.2.2.2.2.2.2.2.2.2.2.2.2.2.2.2.2.2.2.2.2.2.2.1 x.2.2.2.2.2.2.2.2.2.2.2.2.2.2.2.2.2.2.2.2.2.2.2.2.1 x.2.2.2.2.2.2.2.2.2.2.2.2.2.2.2.2.2.2.2.2.2.2.2.2.2.1 x.2.2.2.2.2.2.2.2.2.2.2.2.2.2.2.2.2.2.2.2.2.2.2.2.2.2.1 x.2.2.2.2.2.2.2.2.2.2.2.2.2.2.2.2.2.2.2.2.2.2.2.2.2.2.2.1 x.2.2.2.2.2.2.2.2.2.2.2.2.2.2.2.2.2.2.2.2.2.2.2.2.2.2.2.2.1)) laN)) slN
def f(lf:Nat)(a0:List (Int×(Int×(TV×Unit))))(a1:Int)(a2:TV)(a3:TV):Option (TV×Int×Unit) :=
 bd (gm.f lf a0 a1 [a2,a3]) fun r1 =>
 br (r1.1 != 0) (
 some (((false,(⟨#[]⟩:ByteArray),(⟨#[]⟩:ByteArray),()),(false,(⟨#[]⟩:ByteArray),(⟨#[]⟩:ByteArray),()),()),r1.1,())) (
 bd (jf.f lf) fun r2 =>
 bd (l0 lf a0 ((a0.length:Nat):Int) a2.1.1 a2.1.2.1 a2.1.2.2.1 a2.2.1.1 a2.2.1.2.1 a2.2.1.2.2.1 a3.1.1 a3.1.2.1 a3.1.2.2.1 a3.2.1.1 a3.2.1.2.1 a3.2.1.2.2.1 false (⟨#[]⟩:ByteArray) (⟨#[]⟩:ByteArray) false (⟨#[]⟩:ByteArray) (⟨#[]⟩:ByteArray) [a2,a3] a0 a2.1.1 a2.1.2.1 a2.1.2.2.1 a2.2.1.1 a2.2.1.2.1 a2.2.1.2.2.1 a0 (lf+40) 0 r2.1.1.1 r2.1.1.2.1 r2.1.1.2.2.1 r2.1.2.1.1 r2.1.2.1.2.1 r2.1.2.1.2.2.1) fun z14 =>
 some (((z14.1.1,z14.1.2.1,z14.1.2.2.1,()),(z14.1.2.2.2.1,z14.1.2.2.2.2.1,z14.1.2.2.2.2.2.1,()),()),0,()))
def E(lf:Nat):Entry:=⟨[(.sl (.pair (.int .i64) (.pair (.int .i64) (.pair yV .unit)))),(.int .i64),yV,yV],[yV,(.int .i64)],fun x=>f lf x.1 x.2.1 x.2.2.1 x.2.2.2.1⟩
theorem ok(lf:Nat):Ok 17 (E lf):=okL (tC (gm.ok lf) (tC (jf.ok lf) (tC (iD.ok lf) (tC (jM.ok lf) (tC (fJ.ok lf) (tC (nJ.ok lf) (tC (jD.ok lf) (tC (dR.ok lf) (tC (dM.ok lf) (tC (iE.ok lf) tN)))))))))) (aoC (aoC (aoC aoN))) (sl lf) fun x=>by kernel_rfl
end rf
end
end Go.Q
namespace Go.Q
open Go.IntKind (i64)
open Go Go.RowKit
open Go.Rx (br bd sIdx sCat sCut iQuo iRem)
noncomputable section
namespace rq
def anns:FuncId→FA:=annsL [(22,⟨annOf [(0,⟨kx 29 [0,15,16,17],[],[]⟩,⟨kx 29 [0,2,3],[],[]⟩)],none,[]⟩)]
def r0{ρ:Type}(lf:Nat)(v0 v1:List TV)(v2:Int)(v3:Int)(K:Int→Option ρ)(E0:Int→Option ρ)(E1:Option ρ):Option ρ :=
 br (decide (v3 < v2)) (
 bd (idxL v1 v3) fun y1 =>
 bd (gB.f lf y1) fun r2 =>
 br (r2.1 != 0) (
 E0 r2.1) (
 K (i64.wrap (v3+1)))) (
 E1)
def l0(lf:Nat)(v0 v1:List TV)(v2:Int):Nat→Int→Option (Bool×(Int×Unit)×(Unit)×Unit)
 | 0,_=>none
 | n+1,v3=>r0 lf v0 v1 v2 v3 (l0 lf v0 v1 v2 n) (fun w0=>some (true,(w0,()),((()),()))) (some (false,(0,()),((()),())))
def sh0:ShS:=⟨[.s (.sl yV),.a 14,.s (.sl yV),.s (.int .i64),.s (.int .i64),.a 11],[]⟩
def S0(p:(List TV)×(List TV)×Int×Int×Unit):St:=sh0.b p
def xh0:ShS:=⟨[.s (.sl yV),.a 1,.s .nil,.s (.int .i64),.a 25],[]⟩
def xh1:ShS:=⟨[.s (.sl yV),.a 28],[]⟩
def o0(v0 v1:List TV)(v2:Int)(y:Bool×(Int×Unit)×(Unit)×Unit):Alt:=.two y.1 (.one .ret (xh0.b (v0,y.2.1.1,()))) (.one (.exit 0) (xh1.b (v0,())))
def tb(lf:Nat):List (FuncId×Entry):=[(68,lg.E lf),(75,gB.E lf)]
def agr(lf:Nat):List (Nat×(St→Option LTE)):=[(0,sumE sh0 fun(p:(List TV)×(List TV)×Int×Int×Unit)=>⟨Bool×(Int×Unit)×(Unit)×Unit,l0 lf p.1 p.2.1 p.2.2.1 (lf+40) p.2.2.2.1,o0 p.1 p.2.1 p.2.2.1⟩)]
def ls(lf:Nat):List (Nat×FuncId×Sums):=[(13,22,sumsL (agr lf))]
def it0{ρ:Type}(lf n:Nat)(st:St)(k:KE ρ):Option ρ:=itG anns (ls lf) (tb lf) lf 13 22 0 0 (sumsL (agr lf)) n st k
theorem t0{ρ:Type}(lf n:Nat)(v0 v1:List TV)(v2 v3:Int)(k:KE ρ):it0 lf (n+1) (S0 (v0,v1,v2,v3,())) k=r0 lf v0 v1 v2 v3 (fun x0=>it0 lf n (S0 (v0,v1,v2,x0,())) k) (fun w0=>k .ret (xh0.b (v0,w0,()))) (k (.exit 0) (xh1.b (v0,()))):=by kernel_rfl
theorem u0{ρ:Type}(lf:Nat)(v0 v1:List TV)(v2:Int)(k:KE ρ):∀ (n:Nat) (v3:Int),it0 lf n (S0 (v0,v1,v2,v3,())) k=bd (l0 lf v0 v1 v2 n v3) fun y=>altK k (o0 v0 v1 v2 y)
 | 0,_=>by rw[l0,au];rfl
 | n+1,v3=>by
  rw[t0];simp only[l0,r0,u0 lf v0 v1 v2 k n,bG,bF,aF,au,br_t,br_f,o0,altK]
theorem sl(lf:Nat):SL anns (ls lf) (tb lf) lf (ls lf):=slC (laC (fun _=>by kernel_rfl) (fun _ (x:(List TV)×(List TV)×Int×Int×Unit) k=>aS (u0 lf x.1 x.2.1 x.2.2.1 k (lf+40) x.2.2.2.1)) laN) slN
def f(lf:Nat)(a0:List TV):Option ((List (Int×(Int×(TV×Unit))))×Int×Unit) :=
 br (decide (((a0.length:Nat):Int) < 1)) (
 some ([],2,())) (
 br (decide (((a0.length:Nat):Int) > 32)) (
 some ([],2,())) (
 bd (l0 lf a0 a0 ((a0.length:Nat):Int) (lf+40) 0) fun z3 =>
 br z3.1 (
 some ([],z3.2.1.1,())) (
 bd (lg.f lf a0) fun r4 =>
 some (r4.1,0,()))))
def E(lf:Nat):Entry:=⟨[(.sl yV)],[(.sl (.pair (.int .i64) (.pair (.int .i64) (.pair yV .unit)))),(.int .i64)],fun x=>f lf x.1⟩
theorem ok(lf:Nat):Ok 22 (E lf):=okL (tC (lg.ok lf) (tC (gB.ok lf) tN)) (aoC aoN) (sl lf) fun x=>by kernel_rfl
end rq
namespace gW
def f(lf:Nat)(a0:ByteArray)(a1:Int):Option (ByteArray×Unit) :=
 some (a0,())
def E(lf:Nat):Entry:=⟨[.str,(.int .i64)],[.str],fun x=>f lf x.1 x.2.1⟩
theorem ok(lf:Nat):Ok 89 (E lf):=okT (an:=(annsL [])) (lf:=lf) tN aoN fun x=>by kernel_rfl
end gW
namespace dw
def anns:FuncId→FA:=annsL [(35,⟨annOf [(0,⟨kx 54 [7,17,18,19],[⟨.tmp 7,.str,9⟩],[]⟩,⟨kx 54 [4,5,7],[⟨.tmp 7,.str,9⟩],[]⟩)],none,[]⟩)]
def r0{ρ:Type}(lf:Nat)(v0:List (Int×(Int×(TV×Unit))))(v1:Int)(v2:Int)(v3:List ByteArray)(K:Int→(List ByteArray)→Option ρ)(E0:(List ByteArray)→Option ρ):Option ρ :=
 br (decide (v2 < v1)) (
 bd (idxL v0 v2) fun y2 =>
 bd (B.Itoa.f lf y2.1) fun r3 =>
 br (decide (y2.2.1 >(i64.wrap (y2.1+1)))) (
 bd (B.Itoa.f lf (i64.wrap (y2.2.1-1))) fun r4 =>
 bd (sCat (⟨#[45]⟩:ByteArray) r4.1) fun r5 =>
 bd (sCat r3.1 r5) fun r6 =>
 bd (sCat r6 (⟨#[58,32]⟩:ByteArray)) fun r7 =>
 bd (jl.f lf y2.2.2.1) fun r8 =>
 bd (gW.f lf r8.1 r8.2.1) fun r9 =>
 bd (sCat r7 r9.1) fun r10 =>
 bd (apL true 16 v3 [r10]) fun q11 =>
 K (i64.wrap (v2+1)) q11) (
 bd (sCat r3.1 (⟨#[58,32]⟩:ByteArray)) fun r12 =>
 bd (jl.f lf y2.2.2.1) fun r13 =>
 bd (gW.f lf r13.1 r13.2.1) fun r14 =>
 bd (sCat r12 r14.1) fun r15 =>
 bd (apL true 16 v3 [r15]) fun q16 =>
 K (i64.wrap (v2+1)) q16)) (
 E0 v3)
def l0(lf:Nat)(v0:List (Int×(Int×(TV×Unit))))(v1:Int):Nat→Int→(List ByteArray)→Option (((List ByteArray)×Unit)×Unit)
 | 0,_,_=>none
 | n+1,v2,v3=>r0 lf v0 v1 v2 v3 (l0 lf v0 v1 n) (fun w0=>some ((w0,()),()))
def sh0:ShS:=⟨[.a 7,.s (.row 0),.a 9,.s (.sl (.pair (.int .i64) (.pair (.int .i64) (.pair yV .unit)))),.s (.int .i64),.s (.int .i64),.a 34],[.row .str 9 false]⟩
def S0(p:(List (Int×(Int×(TV×Unit))))×Int×Int×(List ByteArray)×Unit):St:=sh0.b p
def xh0:ShS:=⟨[.a 7,.s (.row 0),.a 46],[.row .str 9 false]⟩
def o0(v0:List (Int×(Int×(TV×Unit))))(v1:Int)(y:((List ByteArray)×Unit)×Unit):Alt:=.one (.exit 0) (xh0.b (y.1.1,()))
def tb(lf:Nat):List (FuncId×Entry):=[(26,bD.E lf),(88,B.Itoa.E lf),(89,gW.E lf),(90,jl.E lf),(91,B.Join.E lf)]
def agx(lf:Nat):List (Nat×(St→Option LTE)):=[(0,sumE sh0 fun(p:(List (Int×(Int×(TV×Unit))))×Int×Int×(List ByteArray)×Unit)=>⟨((List ByteArray)×Unit)×Unit,l0 lf p.1 p.2.1 (lf+40) p.2.2.1 p.2.2.2.1,o0 p.1 p.2.1⟩)]
def ls(lf:Nat):List (Nat×FuncId×Sums):=[(13,35,sumsL (agx lf))]
def it0{ρ:Type}(lf n:Nat)(st:St)(k:KE ρ):Option ρ:=itG anns (ls lf) (tb lf) lf 13 35 0 0 (sumsL (agx lf)) n st k
theorem t0{ρ:Type}(lf n:Nat)(v0:List (Int×(Int×(TV×Unit))))(v1 v2:Int)(v3:List ByteArray)(k:KE ρ):it0 lf (n+1) (S0 (v0,v1,v2,v3,())) k=r0 lf v0 v1 v2 v3 (fun x0 x1=>it0 lf n (S0 (v0,v1,x0,x1,())) k) (fun w0=>k (.exit 0) (xh0.b (w0,()))):=by kernel_rfl
theorem u0{ρ:Type}(lf:Nat)(v0:List (Int×(Int×(TV×Unit))))(v1:Int)(k:KE ρ):∀ (n:Nat) (v2:Int) (v3:List ByteArray),it0 lf n (S0 (v0,v1,v2,v3,())) k=bd (l0 lf v0 v1 n v2 v3) fun y=>altK k (o0 v0 v1 y)
 | 0,_,_=>by rw[l0,au];rfl
 | n+1,v2,v3=>by
  rw[t0];simp only[l0,r0,u0 lf v0 v1 k n,bG,bF,aF,au,br_t,br_f,o0,altK]
theorem sl(lf:Nat):SL anns (ls lf) (tb lf) lf (ls lf):=slC (laC (fun _=>by kernel_rfl) (fun _ (x:(List (Int×(Int×(TV×Unit))))×Int×Int×(List ByteArray)×Unit) k=>aS (u0 lf x.1 x.2.1 k (lf+40) x.2.2.1 x.2.2.2.1)) laN) slN
def f(lf:Nat)(a0:List (Int×(Int×(TV×Unit))))(a1:Int):Option (ByteArray×Int×Unit) :=
 bd (bD.f lf a0 a1) fun r1 =>
 br (r1.1 != 0) (
 some ((⟨#[]⟩:ByteArray),r1.1,())) (
 bd (l0 lf a0 ((a0.length:Nat):Int) (lf+40) 0 []) fun z17 =>
 bd (B.Join.f lf z17.1.1 (⟨#[59,32]⟩:ByteArray)) fun r18 =>
 some (r18.1,0,()))
def E(lf:Nat):Entry:=⟨[(.sl (.pair (.int .i64) (.pair (.int .i64) (.pair yV .unit)))),(.int .i64)],[.str,(.int .i64)],fun x=>f lf x.1 x.2.1⟩
theorem ok(lf:Nat):Ok 35 (E lf):=okL (tC (bD.ok lf) (tC (B.Itoa.ok lf) (tC (gW.ok lf) (tC (jl.ok lf) (tC (B.Join.ok lf) tN))))) (aoC aoN) (sl lf) fun x=>by kernel_rfl
end dw
namespace pz
def anns(lf:Nat):FuncId→FA:=annsL [(66,⟨annOf [],some (bQ.spk lf),[]⟩)]
def f(lf:Nat)(a0:List (Int×(Int×(TV×Unit))))(a1:Int)(a2:Int):Option (TV×Int×Unit) :=
 bd (bD.f lf a0 a1) fun r1 =>
 br (r1.1 != 0) (
 some (((false,(⟨#[]⟩:ByteArray),(⟨#[]⟩:ByteArray),()),(false,(⟨#[]⟩:ByteArray),(⟨#[]⟩:ByteArray),()),()),r1.1,())) (
 br (decide (a2 < 0)) (
 some (((false,(⟨#[]⟩:ByteArray),(⟨#[]⟩:ByteArray),()),(false,(⟨#[]⟩:ByteArray),(⟨#[]⟩:ByteArray),()),()),6,())) (
 br (decide (a2≥a1)) (
 some (((false,(⟨#[]⟩:ByteArray),(⟨#[]⟩:ByteArray),()),(false,(⟨#[]⟩:ByteArray),(⟨#[]⟩:ByteArray),()),()),6,())) (
 bd (bQ.f lf a0) fun r2 =>
 bd (idxB r2.1.length a2) fun j3 =>
 bd (r2.1[j3]?) fun y4 =>
 some (y4,0,()))))
def E(lf:Nat):Entry:=⟨[(.sl (.pair (.int .i64) (.pair (.int .i64) (.pair yV .unit)))),(.int .i64),(.int .i64)],[yV,(.int .i64)],fun x=>f lf x.1 x.2.1 x.2.2.1⟩
theorem ok(lf:Nat):Ok 30 (E lf):=okT (an:=(anns lf)) (lf:=lf) (tC (bD.ok lf) tN) (aoP (bQ.ok lf) aoN) fun x=>by kernel_rfl
end pz
end
end Go.Q
