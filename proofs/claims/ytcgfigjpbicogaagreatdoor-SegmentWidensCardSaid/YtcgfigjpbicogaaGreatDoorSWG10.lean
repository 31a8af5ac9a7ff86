import Derived.Test.YtcgfigjpbicogaaGreatDoorProg
import Derived.KernelRfl
import Derived.Test.YtcgfigjpbicogaaGreatDoorSWE3
import Derived.Test.YtcgfigjpbicogaaGreatDoorSWG1
import Derived.Test.YtcgfigjpbicogaaGreatDoorSWG3
import Derived.Test.YtcgfigjpbicogaaGreatDoorSWG6
import Derived.Test.YtcgfigjpbicogaaGreatDoorSWG7
import Derived.Test.YtcgfigjpbicogaaGreatDoorSWG9
set_option linter.unusedVariables false
set_option linter.unusedSimpArgs false
set_option linter.unusedSectionVars false
set_option maxRecDepth 100000
namespace Go.Q
open Go.IntKind (i64)
open Go Go.RowKit
open Go.Rx (br bd sIdx sCat sCut iQuo iRem)
noncomputable section
namespace lg
def anns(lf:Nat):FuncId→FA:=annsL [(21,⟨annOf [(0,⟨kx 59 [7,12,13,14],[],[]⟩,⟨[],[],[]⟩)],none,[]⟩),(55,⟨annOf [],some (bM.spk lf),[]⟩),(82,⟨annOf [(0,⟨kx 24 [2,3],[],[]⟩,⟨[],[],[]⟩)],none,[]⟩),(99,⟨annOf [(0,⟨kx 27 [0,6,7,8],[],[]⟩,⟨kx 27 [],[],[]⟩),(1,⟨kx 27 [0,4,5,6,7,8],[],[]⟩,⟨kx 27 [0,6,7,8],[],[]⟩)],none,[]⟩)]
def r1{ρ:Type}(lf:Nat)(v1:List (Int×(Int×(TV×Unit))))(v2 v3:Int)(v4:Bool)(v5 v6:ByteArray)(v7:Bool)(v8 v9:ByteArray)(v10:Bool)(v11 v12:ByteArray)(v13:Bool)(v14 v15:ByteArray)(v16:List TV)(v20:List (Int×(Int×(TV×Unit))))(v21:Bool)(v22 v23:ByteArray)(v24:Bool)(v25 v26:ByteArray)(v27:List (Int×(Int×(TV×Unit))))(v28 v29:Int)(v30:Bool)(v31 v32:ByteArray)(v33:Bool)(v34 v35:ByteArray)(v0:Int)(v17:List TV)(v18 v19:Int)(K:Int→(List TV)→Int→Int→Option ρ)(E0:(List TV)→Int→Int→Option ρ):Option ρ :=
 br (decide (v0 < v29)) (
 bd (jL.f lf v0) fun r4 =>
 bd (oq.f lf ((v21,v22,v23,()),(v24,v25,v26,()),()) r4.1) fun r5 =>
 bd (kL.f lf r5.1 r5.2.1) fun r6 =>
 br r6.1 (
 bd (kS.f lf ((v30,v31,v32,()),(v33,v34,v35,()),()) ((v10,v11,v12,()),(v13,v14,v15,()),())) fun r7 =>
 bd (qg.f lf r7.1 r7.2.1) fun r8 =>
 bd (idxB v17.length v0) fun j9 =>
 bd (upE v17 j9 fun _=>some r8.1) fun q10 =>
 K (i64.wrap (v0+1)) q10 (i64.wrap (v18+1)) v0) (
 K (i64.wrap (v0+1)) v17 v18 v19)) (
 E0 v17 v18 v19)
def l1(lf:Nat)(v1:List (Int×(Int×(TV×Unit))))(v2 v3:Int)(v4:Bool)(v5 v6:ByteArray)(v7:Bool)(v8 v9:ByteArray)(v10:Bool)(v11 v12:ByteArray)(v13:Bool)(v14 v15:ByteArray)(v16:List TV)(v20:List (Int×(Int×(TV×Unit))))(v21:Bool)(v22 v23:ByteArray)(v24:Bool)(v25 v26:ByteArray)(v27:List (Int×(Int×(TV×Unit))))(v28 v29:Int)(v30:Bool)(v31 v32:ByteArray)(v33:Bool)(v34 v35:ByteArray):Nat→Int→(List TV)→Int→Int→Option (((List TV)×Int×Int×Unit)×Unit)
 | 0,_,_,_,_=>none
 | n+1,v0,v17,v18,v19=>r1 lf v1 v2 v3 v4 v5 v6 v7 v8 v9 v10 v11 v12 v13 v14 v15 v16 v20 v21 v22 v23 v24 v25 v26 v27 v28 v29 v30 v31 v32 v33 v34 v35 v0 v17 v18 v19 (l1 lf v1 v2 v3 v4 v5 v6 v7 v8 v9 v10 v11 v12 v13 v14 v15 v16 v20 v21 v22 v23 v24 v25 v26 v27 v28 v29 v30 v31 v32 v33 v34 v35 n) (fun w0 w1 w2=>some ((w0,w1,w2,()),()))
def sh1:ShS:=⟨[.s (.yld 12),.a 3,.s (.ptr 13 0),.s (.int .i64),.s (.sl (.pair (.int .i64) (.pair (.int .i64) (.pair yV .unit)))),.s (.int .i64),.s (.int .i64),.a 18],[.cells [.s .bool,.s .str,.s .str,.s .bool,.s .str,.s .str] 47,.cells [.s .bool,.s .str,.s .str,.s .bool,.s .str,.s .str] 47,.row yV 47 false,.row yV 47 false,.cells [.s (.row 3)] 54,.cells [.s (.int .i64)] 3,.cells [.s (.int .i64)] 3,.cells [.s (.sl (.pair (.int .i64) (.pair (.int .i64) (.pair yV .unit))))] 22,.cells [.s .bool,.s .str,.s .str,.s .bool,.s .str,.s .str] 47,.rnd [.a 7,.s (.ptr 1 0),.a 4,.s (.ptr 4 0),.s (.ptr 5 0),.s (.ptr 6 0),.a 44] 21 0 .ready none,.cells [.s (.yld 9)] 124,.cells [.s (.sl (.pair (.int .i64) (.pair (.int .i64) (.pair yV .unit))))] 22,.rnd [.a 2,.s (.ptr 8 0),.s (.ptr 10 0),.a 20] 82 0 .ready none,.cells [.s (.int .i64),.s (.int .i64),.s .bool,.s .str,.s .str,.s .bool,.s .str,.s .str] 49]⟩
def S1(p:Int×(List (Int×(Int×(TV×Unit))))×Int×Int×Bool×ByteArray×ByteArray×Bool×ByteArray×ByteArray×Bool×ByteArray×ByteArray×Bool×ByteArray×ByteArray×(List TV)×(List TV)×Int×Int×(List (Int×(Int×(TV×Unit))))×Bool×ByteArray×ByteArray×Bool×ByteArray×ByteArray×(List (Int×(Int×(TV×Unit))))×Int×Int×Bool×ByteArray×ByteArray×Bool×ByteArray×ByteArray×Unit):St:=sh1.b p
def xh0:ShS:=⟨[.s (.yld 12),.a 5,.s (.sl (.pair (.int .i64) (.pair (.int .i64) (.pair yV .unit)))),.s (.int .i64),.s (.int .i64),.a 18],[.cells [.s .bool,.s .str,.s .str,.s .bool,.s .str,.s .str] 47,.cells [.s .bool,.s .str,.s .str,.s .bool,.s .str,.s .str] 47,.row yV 47 false,.row yV 47 false,.cells [.s (.row 3)] 54,.cells [.s (.int .i64)] 3,.cells [.s (.int .i64)] 3,.cells [.s (.sl (.pair (.int .i64) (.pair (.int .i64) (.pair yV .unit))))] 22,.cells [.s .bool,.s .str,.s .str,.s .bool,.s .str,.s .str] 47,.rnd [.a 7,.s (.ptr 1 0),.a 4,.s (.ptr 4 0),.s (.ptr 5 0),.s (.ptr 6 0),.a 44] 21 0 .ready none,.cells [.s (.yld 9)] 124,.cells [.s (.sl (.pair (.int .i64) (.pair (.int .i64) (.pair yV .unit))))] 22,.rnd [.a 2,.s (.ptr 8 0),.s (.ptr 10 0),.a 20] 82 0 .ready none,.cells [.s (.int .i64),.s (.int .i64),.s .bool,.s .str,.s .str,.s .bool,.s .str,.s .str] 49]⟩
def o1(v1:List (Int×(Int×(TV×Unit))))(v2 v3:Int)(v4:Bool)(v5 v6:ByteArray)(v7:Bool)(v8 v9:ByteArray)(v10:Bool)(v11 v12:ByteArray)(v13:Bool)(v14 v15:ByteArray)(v16:List TV)(v20:List (Int×(Int×(TV×Unit))))(v21:Bool)(v22 v23:ByteArray)(v24:Bool)(v25 v26:ByteArray)(v27:List (Int×(Int×(TV×Unit))))(v28 v29:Int)(v30:Bool)(v31 v32:ByteArray)(v33:Bool)(v34 v35:ByteArray)(y:((List TV)×Int×Int×Unit)×Unit):Alt:=.one (.exit 2) (xh0.b (v1,v2,v3,v4,v5,v6,v7,v8,v9,v10,v11,v12,v13,v14,v15,v16,y.1.1,y.1.2.1,y.1.2.2.1,v20,v21,v22,v23,v24,v25,v26,v27,v28,v29,v30,v31,v32,v33,v34,v35,()))
def r0{ρ:Type}(lf:Nat)(v0:List (Int×(Int×(TV×Unit))))(v1:Int)(v3:Bool)(v4 v5:ByteArray)(v6:Bool)(v7 v8:ByteArray)(v9:Bool)(v10 v11:ByteArray)(v12:Bool)(v13 v14:ByteArray)(v15:List TV)(v19:List (Int×(Int×(TV×Unit))))(v20:Bool)(v21 v22:ByteArray)(v23:Bool)(v24 v25:ByteArray)(v26:List (Int×(Int×(TV×Unit))))(v2:Int)(v16:List TV)(v17 v18:Int)(K:Int→(List TV)→Int→Int→Option ρ)(E0:(List TV)→Int→Int→Option ρ):Option ρ :=
 br (decide (v2 < v1)) (
 bd (idxL v0 v2) fun y3 =>
 bd (l1 lf v0 v1 v2 v3 v4 v5 v6 v7 v8 v9 v10 v11 v12 v13 v14 v15 v19 v20 v21 v22 v23 v24 v25 v26 y3.1 y3.2.1 y3.2.2.1.1.1 y3.2.2.1.1.2.1 y3.2.2.1.1.2.2.1 y3.2.2.1.2.1.1 y3.2.2.1.2.1.2.1 y3.2.2.1.2.1.2.2.1 (lf+40) y3.1 v16 v17 v18) fun z12 =>
 K (i64.wrap (v2+1)) z12.1.1 z12.1.2.1 z12.1.2.2.1) (
 E0 v16 v17 v18)
def l0(lf:Nat)(v0:List (Int×(Int×(TV×Unit))))(v1:Int)(v3:Bool)(v4 v5:ByteArray)(v6:Bool)(v7 v8:ByteArray)(v9:Bool)(v10 v11:ByteArray)(v12:Bool)(v13 v14:ByteArray)(v15:List TV)(v19:List (Int×(Int×(TV×Unit))))(v20:Bool)(v21 v22:ByteArray)(v23:Bool)(v24 v25:ByteArray)(v26:List (Int×(Int×(TV×Unit)))):Nat→Int→(List TV)→Int→Int→Option (((List TV)×Int×Int×Unit)×Unit)
 | 0,_,_,_,_=>none
 | n+1,v2,v16,v17,v18=>r0 lf v0 v1 v3 v4 v5 v6 v7 v8 v9 v10 v11 v12 v13 v14 v15 v19 v20 v21 v22 v23 v24 v25 v26 v2 v16 v17 v18 (l0 lf v0 v1 v3 v4 v5 v6 v7 v8 v9 v10 v11 v12 v13 v14 v15 v19 v20 v21 v22 v23 v24 v25 v26 n) (fun w0 w1 w2=>some ((w0,w1,w2,()),()))
def sh0:ShS:=⟨[.s (.yld 12),.a 5,.s (.sl (.pair (.int .i64) (.pair (.int .i64) (.pair yV .unit)))),.s (.int .i64),.s (.int .i64),.a 18],[.cells [.s .bool,.s .str,.s .str,.s .bool,.s .str,.s .str] 47,.cells [.s .bool,.s .str,.s .str,.s .bool,.s .str,.s .str] 47,.row yV 47 false,.row yV 47 false,.cells [.s (.row 3)] 54,.cells [.s (.int .i64)] 3,.cells [.s (.int .i64)] 3,.cells [.s (.sl (.pair (.int .i64) (.pair (.int .i64) (.pair yV .unit))))] 22,.cells [.s .bool,.s .str,.s .str,.s .bool,.s .str,.s .str] 47,.rnd [.a 7,.s (.ptr 1 0),.a 4,.s (.ptr 4 0),.s (.ptr 5 0),.s (.ptr 6 0),.a 44] 21 0 .ready none,.cells [.s (.yld 9)] 124,.cells [.s (.sl (.pair (.int .i64) (.pair (.int .i64) (.pair yV .unit))))] 22,.rnd [.a 2,.s (.ptr 8 0),.s (.ptr 10 0),.a 20] 82 0 .ready none]⟩
def S0(p:(List (Int×(Int×(TV×Unit))))×Int×Int×Bool×ByteArray×ByteArray×Bool×ByteArray×ByteArray×Bool×ByteArray×ByteArray×Bool×ByteArray×ByteArray×(List TV)×(List TV)×Int×Int×(List (Int×(Int×(TV×Unit))))×Bool×ByteArray×ByteArray×Bool×ByteArray×ByteArray×(List (Int×(Int×(TV×Unit))))×Unit):St:=sh0.b p
def xh1:ShS:=⟨[.a 27],[.cells [.s .bool,.s .str,.s .str,.s .bool,.s .str,.s .str] 47,.cells [.s .bool,.s .str,.s .str,.s .bool,.s .str,.s .str] 47,.row yV 47 false,.row yV 47 false,.cells [.s (.row 3)] 54,.cells [.s (.int .i64)] 3,.cells [.s (.int .i64)] 3,.cells [.s (.sl (.pair (.int .i64) (.pair (.int .i64) (.pair yV .unit))))] 22,.cells [.s .bool,.s .str,.s .str,.s .bool,.s .str,.s .str] 47,.rnd [.a 7,.s (.ptr 1 0),.a 4,.s (.ptr 4 0),.s (.ptr 5 0),.s (.ptr 6 0),.a 44] 21 0 .ready none,.cells [.s (.yld 9)] 124,.cells [.s (.sl (.pair (.int .i64) (.pair (.int .i64) (.pair yV .unit))))] 22,.rnd [.a 2,.s (.ptr 8 0),.s (.ptr 10 0),.a 20] 82 0 .ready none]⟩
def o0(v0:List (Int×(Int×(TV×Unit))))(v1:Int)(v3:Bool)(v4 v5:ByteArray)(v6:Bool)(v7 v8:ByteArray)(v9:Bool)(v10 v11:ByteArray)(v12:Bool)(v13 v14:ByteArray)(v15:List TV)(v19:List (Int×(Int×(TV×Unit))))(v20:Bool)(v21 v22:ByteArray)(v23:Bool)(v24 v25:ByteArray)(v26:List (Int×(Int×(TV×Unit))))(y:((List TV)×Int×Int×Unit)×Unit):Alt:=.one (.exit 0) (xh1.b (v3,v4,v5,v6,v7,v8,v9,v10,v11,v12,v13,v14,v15,y.1.1,y.1.2.1,y.1.2.2.1,v19,v20,v21,v22,v23,v24,v25,v26,()))
def tb(lf:Nat):List (FuncId×Entry):=[(38,dN.E lf),(44,lZ.E lf),(47,qg.E lf),(48,kS.E lf),(56,bW.E lf),(83,kL.E lf),(84,oq.E lf),(85,jL.E lf)]
def nR(lf:Nat):List (Nat×(St→Option LTE)):=[(0,sumE sh0 fun(p:(List (Int×(Int×(TV×Unit))))×Int×Int×Bool×ByteArray×ByteArray×Bool×ByteArray×ByteArray×Bool×ByteArray×ByteArray×Bool×ByteArray×ByteArray×(List TV)×(List TV)×Int×Int×(List (Int×(Int×(TV×Unit))))×Bool×ByteArray×ByteArray×Bool×ByteArray×ByteArray×(List (Int×(Int×(TV×Unit))))×Unit)=>⟨((List TV)×Int×Int×Unit)×Unit,l0 lf p.1 p.2.1 p.2.2.2.1 p.2.2.2.2.1 p.2.2.2.2.2.1 p.2.2.2.2.2.2.1 p.2.2.2.2.2.2.2.1 (e8 p).1 (e8 p).2.1 (e8 p).2.2.1 (e8 p).2.2.2.1 (e8 p).2.2.2.2.1 (e8 p).2.2.2.2.2.1 (e8 p).2.2.2.2.2.2.1 (e8 p).2.2.2.2.2.2.2.1 (e8 (e8 p)).2.2.2.1 (e8 (e8 p)).2.2.2.2.1 (e8 (e8 p)).2.2.2.2.2.1 (e8 (e8 p)).2.2.2.2.2.2.1 (e8 (e8 p)).2.2.2.2.2.2.2.1 (e8 (e8 (e8 p))).1 (e8 (e8 (e8 p))).2.1 (e8 (e8 (e8 p))).2.2.1 (lf+40) p.2.2.1 (e8 (e8 p)).1 (e8 (e8 p)).2.1 (e8 (e8 p)).2.2.1,o0 p.1 p.2.1 p.2.2.2.1 p.2.2.2.2.1 p.2.2.2.2.2.1 p.2.2.2.2.2.2.1 p.2.2.2.2.2.2.2.1 (e8 p).1 (e8 p).2.1 (e8 p).2.2.1 (e8 p).2.2.2.1 (e8 p).2.2.2.2.1 (e8 p).2.2.2.2.2.1 (e8 p).2.2.2.2.2.2.1 (e8 p).2.2.2.2.2.2.2.1 (e8 (e8 p)).2.2.2.1 (e8 (e8 p)).2.2.2.2.1 (e8 (e8 p)).2.2.2.2.2.1 (e8 (e8 p)).2.2.2.2.2.2.1 (e8 (e8 p)).2.2.2.2.2.2.2.1 (e8 (e8 (e8 p))).1 (e8 (e8 (e8 p))).2.1 (e8 (e8 (e8 p))).2.2.1⟩),
 (1,sumE sh1 fun(p:Int×(List (Int×(Int×(TV×Unit))))×Int×Int×Bool×ByteArray×ByteArray×Bool×ByteArray×ByteArray×Bool×ByteArray×ByteArray×Bool×ByteArray×ByteArray×(List TV)×(List TV)×Int×Int×(List (Int×(Int×(TV×Unit))))×Bool×ByteArray×ByteArray×Bool×ByteArray×ByteArray×(List (Int×(Int×(TV×Unit))))×Int×Int×Bool×ByteArray×ByteArray×Bool×ByteArray×ByteArray×Unit)=>⟨((List TV)×Int×Int×Unit)×Unit,l1 lf p.2.1 p.2.2.1 p.2.2.2.1 p.2.2.2.2.1 p.2.2.2.2.2.1 p.2.2.2.2.2.2.1 p.2.2.2.2.2.2.2.1 (e8 p).1 (e8 p).2.1 (e8 p).2.2.1 (e8 p).2.2.2.1 (e8 p).2.2.2.2.1 (e8 p).2.2.2.2.2.1 (e8 p).2.2.2.2.2.2.1 (e8 p).2.2.2.2.2.2.2.1 (e8 (e8 p)).1 (e8 (e8 p)).2.2.2.2.1 (e8 (e8 p)).2.2.2.2.2.1 (e8 (e8 p)).2.2.2.2.2.2.1 (e8 (e8 p)).2.2.2.2.2.2.2.1 (e8 (e8 (e8 p))).1 (e8 (e8 (e8 p))).2.1 (e8 (e8 (e8 p))).2.2.1 (e8 (e8 (e8 p))).2.2.2.1 (e8 (e8 (e8 p))).2.2.2.2.1 (e8 (e8 (e8 p))).2.2.2.2.2.1 (e8 (e8 (e8 p))).2.2.2.2.2.2.1 (e8 (e8 (e8 p))).2.2.2.2.2.2.2.1 (e8 (e8 (e8 (e8 p)))).1 (e8 (e8 (e8 (e8 p)))).2.1 (e8 (e8 (e8 (e8 p)))).2.2.1 (e8 (e8 (e8 (e8 p)))).2.2.2.1 (lf+40) p.1 (e8 (e8 p)).2.1 (e8 (e8 p)).2.2.1 (e8 (e8 p)).2.2.2.1,o1 p.2.1 p.2.2.1 p.2.2.2.1 p.2.2.2.2.1 p.2.2.2.2.2.1 p.2.2.2.2.2.2.1 p.2.2.2.2.2.2.2.1 (e8 p).1 (e8 p).2.1 (e8 p).2.2.1 (e8 p).2.2.2.1 (e8 p).2.2.2.2.1 (e8 p).2.2.2.2.2.1 (e8 p).2.2.2.2.2.2.1 (e8 p).2.2.2.2.2.2.2.1 (e8 (e8 p)).1 (e8 (e8 p)).2.2.2.2.1 (e8 (e8 p)).2.2.2.2.2.1 (e8 (e8 p)).2.2.2.2.2.2.1 (e8 (e8 p)).2.2.2.2.2.2.2.1 (e8 (e8 (e8 p))).1 (e8 (e8 (e8 p))).2.1 (e8 (e8 (e8 p))).2.2.1 (e8 (e8 (e8 p))).2.2.2.1 (e8 (e8 (e8 p))).2.2.2.2.1 (e8 (e8 (e8 p))).2.2.2.2.2.1 (e8 (e8 (e8 p))).2.2.2.2.2.2.1 (e8 (e8 (e8 p))).2.2.2.2.2.2.2.1 (e8 (e8 (e8 (e8 p)))).1 (e8 (e8 (e8 (e8 p)))).2.1 (e8 (e8 (e8 (e8 p)))).2.2.1 (e8 (e8 (e8 (e8 p)))).2.2.2.1⟩)]
def ls(lf:Nat):List (Nat×FuncId×Sums):=[(11,99,sumsL (nR lf))]
def it1{ρ:Type}(lf n:Nat)(st:St)(k:KE ρ):Option ρ:=itG (anns lf) (ls lf) (tb lf) lf 11 99 1 14 (sumsL (nR lf)) n st k
theorem t1{ρ:Type}(lf n:Nat)(v0:Int)(v1:List (Int×(Int×(TV×Unit))))(v2 v3:Int)(v4:Bool)(v5 v6:ByteArray)(v7:Bool)(v8 v9:ByteArray)(v10:Bool)(v11 v12:ByteArray)(v13:Bool)(v14 v15:ByteArray)(v16 v17:List TV)(v18 v19:Int)(v20:List (Int×(Int×(TV×Unit))))(v21:Bool)(v22 v23:ByteArray)(v24:Bool)(v25 v26:ByteArray)(v27:List (Int×(Int×(TV×Unit))))(v28 v29:Int)(v30:Bool)(v31 v32:ByteArray)(v33:Bool)(v34 v35:ByteArray)(k:KE ρ):it1 lf (n+1) (S1 (v0,v1,v2,v3,v4,v5,v6,v7,v8,v9,v10,v11,v12,v13,v14,v15,v16,v17,v18,v19,v20,v21,v22,v23,v24,v25,v26,v27,v28,v29,v30,v31,v32,v33,v34,v35,())) k=r1 lf v1 v2 v3 v4 v5 v6 v7 v8 v9 v10 v11 v12 v13 v14 v15 v16 v20 v21 v22 v23 v24 v25 v26 v27 v28 v29 v30 v31 v32 v33 v34 v35 v0 v17 v18 v19 (fun x0 x1 x2 x3=>it1 lf n (S1 (x0,v1,v2,v3,v4,v5,v6,v7,v8,v9,v10,v11,v12,v13,v14,v15,v16,x1,x2,x3,v20,v21,v22,v23,v24,v25,v26,v27,v28,v29,v30,v31,v32,v33,v34,v35,())) k) (fun w0 w1 w2=>k (.exit 2) (xh0.b (v1,v2,v3,v4,v5,v6,v7,v8,v9,v10,v11,v12,v13,v14,v15,v16,w0,w1,w2,v20,v21,v22,v23,v24,v25,v26,v27,v28,v29,v30,v31,v32,v33,v34,v35,()))):=by kernel_rfl
theorem u1{ρ:Type}(lf:Nat)(v1:List (Int×(Int×(TV×Unit))))(v2 v3:Int)(v4:Bool)(v5 v6:ByteArray)(v7:Bool)(v8 v9:ByteArray)(v10:Bool)(v11 v12:ByteArray)(v13:Bool)(v14 v15:ByteArray)(v16:List TV)(v20:List (Int×(Int×(TV×Unit))))(v21:Bool)(v22 v23:ByteArray)(v24:Bool)(v25 v26:ByteArray)(v27:List (Int×(Int×(TV×Unit))))(v28 v29:Int)(v30:Bool)(v31 v32:ByteArray)(v33:Bool)(v34 v35:ByteArray)(k:KE ρ):∀ (n:Nat) (v0:Int) (v17:List TV) (v18 v19:Int),it1 lf n (S1 (v0,v1,v2,v3,v4,v5,v6,v7,v8,v9,v10,v11,v12,v13,v14,v15,v16,v17,v18,v19,v20,v21,v22,v23,v24,v25,v26,v27,v28,v29,v30,v31,v32,v33,v34,v35,())) k=bd (l1 lf v1 v2 v3 v4 v5 v6 v7 v8 v9 v10 v11 v12 v13 v14 v15 v16 v20 v21 v22 v23 v24 v25 v26 v27 v28 v29 v30 v31 v32 v33 v34 v35 n v0 v17 v18 v19) fun y=>altK k (o1 v1 v2 v3 v4 v5 v6 v7 v8 v9 v10 v11 v12 v13 v14 v15 v16 v20 v21 v22 v23 v24 v25 v26 v27 v28 v29 v30 v31 v32 v33 v34 v35 y)
 | 0,_,_,_,_=>by rw[l1,bd_none];rfl
 | n+1,v0,v17,v18,v19=>by
  rw[t1];simp only[l1,r1,u1 lf v1 v2 v3 v4 v5 v6 v7 v8 v9 v10 v11 v12 v13 v14 v15 v16 v20 v21 v22 v23 v24 v25 v26 v27 v28 v29 v30 v31 v32 v33 v34 v35 k n,bd_br,bd_bd,bd_some',bd_none,br_t,br_f,o1,altK]
def it0{ρ:Type}(lf n:Nat)(st:St)(k:KE ρ):Option ρ:=itG (anns lf) (ls lf) (tb lf) lf 11 99 0 13 (sumsL (nR lf)) n st k
theorem t0{ρ:Type}(lf n:Nat)(v0:List (Int×(Int×(TV×Unit))))(v1 v2:Int)(v3:Bool)(v4 v5:ByteArray)(v6:Bool)(v7 v8:ByteArray)(v9:Bool)(v10 v11:ByteArray)(v12:Bool)(v13 v14:ByteArray)(v15 v16:List TV)(v17 v18:Int)(v19:List (Int×(Int×(TV×Unit))))(v20:Bool)(v21 v22:ByteArray)(v23:Bool)(v24 v25:ByteArray)(v26:List (Int×(Int×(TV×Unit))))(k:KE ρ):it0 lf (n+1) (S0 (v0,v1,v2,v3,v4,v5,v6,v7,v8,v9,v10,v11,v12,v13,v14,v15,v16,v17,v18,v19,v20,v21,v22,v23,v24,v25,v26,())) k=r0 lf v0 v1 v3 v4 v5 v6 v7 v8 v9 v10 v11 v12 v13 v14 v15 v19 v20 v21 v22 v23 v24 v25 v26 v2 v16 v17 v18 (fun x0 x1 x2 x3=>it0 lf n (S0 (v0,v1,x0,v3,v4,v5,v6,v7,v8,v9,v10,v11,v12,v13,v14,v15,x1,x2,x3,v19,v20,v21,v22,v23,v24,v25,v26,())) k) (fun w0 w1 w2=>k (.exit 0) (xh1.b (v3,v4,v5,v6,v7,v8,v9,v10,v11,v12,v13,v14,v15,w0,w1,w2,v19,v20,v21,v22,v23,v24,v25,v26,()))):=by kernel_rfl
theorem u0{ρ:Type}(lf:Nat)(v0:List (Int×(Int×(TV×Unit))))(v1:Int)(v3:Bool)(v4 v5:ByteArray)(v6:Bool)(v7 v8:ByteArray)(v9:Bool)(v10 v11:ByteArray)(v12:Bool)(v13 v14:ByteArray)(v15:List TV)(v19:List (Int×(Int×(TV×Unit))))(v20:Bool)(v21 v22:ByteArray)(v23:Bool)(v24 v25:ByteArray)(v26:List (Int×(Int×(TV×Unit))))(k:KE ρ):∀ (n:Nat) (v2:Int) (v16:List TV) (v17 v18:Int),it0 lf n (S0 (v0,v1,v2,v3,v4,v5,v6,v7,v8,v9,v10,v11,v12,v13,v14,v15,v16,v17,v18,v19,v20,v21,v22,v23,v24,v25,v26,())) k=bd (l0 lf v0 v1 v3 v4 v5 v6 v7 v8 v9 v10 v11 v12 v13 v14 v15 v19 v20 v21 v22 v23 v24 v25 v26 n v2 v16 v17 v18) fun y=>altK k (o0 v0 v1 v3 v4 v5 v6 v7 v8 v9 v10 v11 v12 v13 v14 v15 v19 v20 v21 v22 v23 v24 v25 v26 y)
 | 0,_,_,_,_=>by rw[l0,bd_none];rfl
 | n+1,v2,v16,v17,v18=>by
  rw[t0];simp only[l0,r0,u0 lf v0 v1 v3 v4 v5 v6 v7 v8 v9 v10 v11 v12 v13 v14 v15 v19 v20 v21 v22 v23 v24 v25 v26 k n,bd_br,bd_bd,bd_some',bd_none,br_t,br_f,o0,altK]
theorem sl(lf:Nat):SL (anns lf) (ls lf) (tb lf) lf (ls lf):=slC (laC (fun _=>by kernel_rfl) (fun _ (x:(List (Int×(Int×(TV×Unit))))×Int×Int×Bool×ByteArray×ByteArray×Bool×ByteArray×ByteArray×Bool×ByteArray×ByteArray×Bool×ByteArray×ByteArray×(List TV)×(List TV)×Int×Int×(List (Int×(Int×(TV×Unit))))×Bool×ByteArray×ByteArray×Bool×ByteArray×ByteArray×(List (Int×(Int×(TV×Unit))))×Unit) k=>aS (u0 lf x.1 x.2.1 x.2.2.2.1 x.2.2.2.2.1 x.2.2.2.2.2.1 x.2.2.2.2.2.2.1 x.2.2.2.2.2.2.2.1 (e8 x).1 (e8 x).2.1 (e8 x).2.2.1 (e8 x).2.2.2.1 (e8 x).2.2.2.2.1 (e8 x).2.2.2.2.2.1 (e8 x).2.2.2.2.2.2.1 (e8 x).2.2.2.2.2.2.2.1 (e8 (e8 x)).2.2.2.1 (e8 (e8 x)).2.2.2.2.1 (e8 (e8 x)).2.2.2.2.2.1 (e8 (e8 x)).2.2.2.2.2.2.1 (e8 (e8 x)).2.2.2.2.2.2.2.1 (e8 (e8 (e8 x))).1 (e8 (e8 (e8 x))).2.1 (e8 (e8 (e8 x))).2.2.1 k (lf+40) x.2.2.1 (e8 (e8 x)).1 (e8 (e8 x)).2.1 (e8 (e8 x)).2.2.1)) (laC (fun _=>by kernel_rfl) (fun _ (x:Int×(List (Int×(Int×(TV×Unit))))×Int×Int×Bool×ByteArray×ByteArray×Bool×ByteArray×ByteArray×Bool×ByteArray×ByteArray×Bool×ByteArray×ByteArray×(List TV)×(List TV)×Int×Int×(List (Int×(Int×(TV×Unit))))×Bool×ByteArray×ByteArray×Bool×ByteArray×ByteArray×(List (Int×(Int×(TV×Unit))))×Int×Int×Bool×ByteArray×ByteArray×Bool×ByteArray×ByteArray×Unit) k=>aS (u1 lf x.2.1 x.2.2.1 x.2.2.2.1 x.2.2.2.2.1 x.2.2.2.2.2.1 x.2.2.2.2.2.2.1 x.2.2.2.2.2.2.2.1 (e8 x).1 (e8 x).2.1 (e8 x).2.2.1 (e8 x).2.2.2.1 (e8 x).2.2.2.2.1 (e8 x).2.2.2.2.2.1 (e8 x).2.2.2.2.2.2.1 (e8 x).2.2.2.2.2.2.2.1 (e8 (e8 x)).1 (e8 (e8 x)).2.2.2.2.1 (e8 (e8 x)).2.2.2.2.2.1 (e8 (e8 x)).2.2.2.2.2.2.1 (e8 (e8 x)).2.2.2.2.2.2.2.1 (e8 (e8 (e8 x))).1 (e8 (e8 (e8 x))).2.1 (e8 (e8 (e8 x))).2.2.1 (e8 (e8 (e8 x))).2.2.2.1 (e8 (e8 (e8 x))).2.2.2.2.1 (e8 (e8 (e8 x))).2.2.2.2.2.1 (e8 (e8 (e8 x))).2.2.2.2.2.2.1 (e8 (e8 (e8 x))).2.2.2.2.2.2.2.1 (e8 (e8 (e8 (e8 x)))).1 (e8 (e8 (e8 (e8 x)))).2.1 (e8 (e8 (e8 (e8 x)))).2.2.1 (e8 (e8 (e8 (e8 x)))).2.2.2.1 k (lf+40) x.1 (e8 (e8 x)).2.1 (e8 (e8 x)).2.2.1 (e8 (e8 x)).2.2.2.1)) laN)) slN
def f(lf:Nat)(a0:List (Int×(Int×(TV×Unit))))(a1:Int)(a2:TV)(a3:TV):Option ((List (Int×(Int×(TV×Unit))))×Bool×Int×Unit) :=
 bd (lZ.f lf a0 a1 [a2,a3]) fun r1 =>
 br (r1.1 != 0) (
 some ([],false,r1.1,())) (
 bd (bM.f lf a0) fun r2 =>
 bd (l0 lf a0 ((a0.length:Nat):Int) a2.1.1 a2.1.2.1 a2.1.2.2.1 a2.2.1.1 a2.2.1.2.1 a2.2.1.2.2.1 a3.1.1 a3.1.2.1 a3.1.2.2.1 a3.2.1.1 a3.2.1.2.1 a3.2.1.2.2.1 [a2,a3] a0 a2.1.1 a2.1.2.1 a2.1.2.2.1 a2.2.1.1 a2.2.1.2.1 a2.2.1.2.2.1 a0 (lf+40) 0 r2.1 0 0) fun z13 =>
 br (z13.1.2.1==0) (
 some ([],false,0,())) (
 bd (bW.f lf a3) fun r14 =>
 br r14.1 (
 some ([],false,0,())) (
 br (z13.1.2.1==1) (
 bd (idxB z13.1.1.length z13.1.2.2.1) fun j15 =>
 bd (upE z13.1.1 j15 fun _=>some a3) fun q16 =>
 bd (dN.f lf q16) fun r18 =>
 some (r18.1,true,0,())) (
 bd (dN.f lf z13.1.1) fun r19 =>
 some (r19.1,true,0,())))))
def E(lf:Nat):Entry:=⟨[(.sl (.pair (.int .i64) (.pair (.int .i64) (.pair yV .unit)))),(.int .i64),yV,yV],[(.sl (.pair (.int .i64) (.pair (.int .i64) (.pair yV .unit)))),.bool,(.int .i64)],fun x=>f lf x.1 x.2.1 x.2.2.1 x.2.2.2.1⟩
theorem ok(lf:Nat):Ok 21 (E lf):=okL (tC (dN.ok lf) (tC (lZ.ok lf) (tC (qg.ok lf) (tC (kS.ok lf) (tC (bW.ok lf) (tC (kL.ok lf) (tC (oq.ok lf) (tC (jL.ok lf) tN)))))))) (aoC (aoP (bM.ok lf) (aoC (aoC aoN)))) (sl lf) fun x=>by kernel_rfl
end lg
end
end Go.Q
namespace Go.Q
open Go Go.RowKit
open Go.Rx (br bd sIdx sCat sCut iQuo iRem)
noncomputable section
namespace pI
def l:List (((List (Int×(Int×(TV×Unit))))×Int×TV×TV×Unit)×(TV×Int×Unit)):=[(([(0,3,((false,(⟨#[48]⟩:ByteArray),(⟨#[48]⟩:ByteArray),()),(false,(⟨#[48]⟩:ByteArray),(⟨#[48]⟩:ByteArray),()),()),()),(3,5,((false,(⟨#[49]⟩:ByteArray),(⟨#[53]⟩:ByteArray),()),(false,(⟨#[49]⟩:ByteArray),(⟨#[48]⟩:ByteArray),()),()),()),(5,6,((false,(⟨#[55]⟩:ByteArray),(⟨#[55]⟩:ByteArray),()),(false,(⟨#[48]⟩:ByteArray),(⟨#[55]⟩:ByteArray),()),()),())],6,((false,(⟨#[]⟩:ByteArray),(⟨#[]⟩:ByteArray),()),(false,(⟨#[49]⟩:ByteArray),(⟨#[48]⟩:ByteArray),()),()),((false,(⟨#[52]⟩:ByteArray),(⟨#[49,48]⟩:ByteArray),()),(false,(⟨#[49]⟩:ByteArray),(⟨#[48]⟩:ByteArray),()),()),()),(((false,(⟨#[51]⟩:ByteArray),(⟨#[53]⟩:ByteArray),()),(false,(⟨#[49]⟩:ByteArray),(⟨#[48]⟩:ByteArray),()),()),0,()))]
def f(lf:Nat)(a0:List (Int×(Int×(TV×Unit))))(a1:Int)(a2:TV)(a3:TV):Option (TV×Int×Unit):=pick [(.sl (.pair (.int .i64) (.pair (.int .i64) (.pair yV .unit)))),(.int .i64),yV,yV] l (a0,a1,a2,a3,())
def E(lf:Nat):Entry:=⟨[(.sl (.pair (.int .i64) (.pair (.int .i64) (.pair yV .unit)))),(.int .i64),yV,yV],[yV,(.int .i64)],fun x=>f lf x.1 x.2.1 x.2.2.1 x.2.2.2.1⟩
def tb(lf:Nat):List (FuncId×Entry):=[(39,bJ.E lf),(48,kS.E lf),(56,bW.E lf),(57,nS.E lf),(76,dB.E lf),(85,jL.E lf),(131,fK.E lf),(149,bH.E lf),(150,bF.E lf),(152,jA.E lf),(158,bg.E lf),(159,fU.E lf),(161,fD.E lf)]
abbrev an:FuncId→FA:=annsL [(22,⟨annOf [(0,⟨kx 46 [7,11],[],[]⟩,⟨[],[],[]⟩)],none,[]⟩),(44,⟨annOf [(0,⟨kx 29 [17,18,19],[],[]⟩,⟨kx 29 [6],[],[]⟩)],none,[]⟩),(82,⟨annOf [(0,⟨kx 24 [2,3],[],[]⟩,⟨[],[],[]⟩)],none,[]⟩)]
theorem t0(lf:Nat):runQ Proofs.Tryz.prog an noLs (lookT (tb lf)) (lf+40) 14 6 22 [(.sl (.pair (.int .i64) (.pair (.int .i64) (.pair yV .unit)))),(.int .i64),yV,yV] [yV,(.int .i64)] ([(0,3,((false,(⟨#[48]⟩:ByteArray),(⟨#[48]⟩:ByteArray),()),(false,(⟨#[48]⟩:ByteArray),(⟨#[48]⟩:ByteArray),()),()),()),(3,5,((false,(⟨#[49]⟩:ByteArray),(⟨#[53]⟩:ByteArray),()),(false,(⟨#[49]⟩:ByteArray),(⟨#[48]⟩:ByteArray),()),()),()),(5,6,((false,(⟨#[55]⟩:ByteArray),(⟨#[55]⟩:ByteArray),()),(false,(⟨#[48]⟩:ByteArray),(⟨#[55]⟩:ByteArray),()),()),())],6,((false,(⟨#[]⟩:ByteArray),(⟨#[]⟩:ByteArray),()),(false,(⟨#[49]⟩:ByteArray),(⟨#[48]⟩:ByteArray),()),()),((false,(⟨#[52]⟩:ByteArray),(⟨#[49,48]⟩:ByteArray),()),(false,(⟨#[49]⟩:ByteArray),(⟨#[48]⟩:ByteArray),()),()),())=some (((false,(⟨#[51]⟩:ByteArray),(⟨#[53]⟩:ByteArray),()),(false,(⟨#[49]⟩:ByteArray),(⟨#[48]⟩:ByteArray),()),()),0,()):=by kernel_rfl
theorem ok(lf:Nat):Ok 22 (E lf):=okP (an:=an) (tb:=tb lf) (lf:=lf) (tC (bJ.ok lf) (tC (kS.ok lf) (tC (bW.ok lf) (tC (nS.ok lf) (tC (dB.ok lf) (tC (jL.ok lf) (tC (fK.ok lf) (tC (bH.ok lf) (tC (bF.ok lf) (tC (jA.ok lf) (tC (bg.ok lf) (tC (fU.ok lf) (tC (fD.ok lf) tN))))))))))))) (aoC (aoC (aoC aoN))) (l:=l) (fun _=>rfl) (fun _=>rfl) ⟨t0 lf,trivial⟩
end pI
namespace jh
def f(lf:Nat)(a0:List (Int×(Int×(TV×Unit))))(a1:List (Int×(Int×(TV×Unit))))(a2:Int):Option (Int×Unit) :=
 bd (bJ.f lf a0 a2) fun r1 =>
 br (r1.1 != 0) (
 some (r1.1,())) (
 bd (bJ.f lf a1 a2) fun r2 =>
 some (r2.1,()))
def E(lf:Nat):Entry:=⟨[(.sl (.pair (.int .i64) (.pair (.int .i64) (.pair yV .unit)))),(.sl (.pair (.int .i64) (.pair (.int .i64) (.pair yV .unit)))),(.int .i64)],[(.int .i64)],fun x=>f lf x.1 x.2.1 x.2.2.1⟩
theorem ok(lf:Nat):Ok 60 (E lf):=okT (an:=(annsL [])) (lf:=lf) (tC (bJ.ok lf) tN) aoN fun x=>by kernel_rfl
end jh
end
end Go.Q
