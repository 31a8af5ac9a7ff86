import Derived.Test.YtgbokahnpmmfoaaGreatDoorProg
import Derived.KernelRfl
import Derived.Test.YtgbokahnpmmfoaaGreatDoorSLE3
import Derived.Test.YtgbokahnpmmfoaaGreatDoorSLG4
import Derived.Test.YtgbokahnpmmfoaaGreatDoorSLG7
set_option linter.unusedVariables false
set_option linter.unusedSimpArgs false
set_option linter.unusedSectionVars false
set_option maxRecDepth 100000
namespace Go.Q
open Go.IntKind (i64)
open Go Go.RowKit
open Go.Rx (br bd sIdx sCat sCut iQuo iRem)
noncomputable section
namespace dO
def anns(lf:Nat):FuncId→FA:=annsL [(65,⟨annOf [(0,⟨kx 31 [0,6,7,8,9],[],[0]⟩,⟨kx 31 [6,7],[],[0]⟩)],none,[]⟩),(83,⟨annOf [],some (aO.spk lf),[]⟩)]
def r0{ρ:Type}(lf:Nat)(v0:List (Int×(Int×(TV×Unit))))(v1:List Int)(v3:Bool)(v4 v5:ByteArray)(v6:Bool)(v7 v8:ByteArray)(v2:Int)(v9:Bool)(v10 v11:ByteArray)(v12:Bool)(v13 v14:ByteArray)(K:Int→Bool→ByteArray→ByteArray→Bool→ByteArray→ByteArray→Option ρ)(E0:Bool→ByteArray→ByteArray→Bool→ByteArray→ByteArray→Option ρ):Option ρ :=
 br (decide (v2 < ((v1.length:Nat):Int))) (
 bd (aO.f lf v0) fun r3 =>
 bd (idxL v1 v2) fun y4 =>
 bd (idxB r3.1.length y4) fun j5 =>
 bd (r3.1[j5]?) fun y6 =>
 bd (di.f lf ((v9,v10,v11,()),(v12,v13,v14,()),()) y6) fun r7 =>
 K (i64.wrap (v2+1)) r7.1.1.1 r7.1.1.2.1 r7.1.1.2.2.1 r7.1.2.1.1 r7.1.2.1.2.1 r7.1.2.1.2.2.1) (
 E0 v9 v10 v11 v12 v13 v14)
def l0(lf:Nat)(v0:List (Int×(Int×(TV×Unit))))(v1:List Int)(v3:Bool)(v4 v5:ByteArray)(v6:Bool)(v7 v8:ByteArray):Nat→Int→Bool→ByteArray→ByteArray→Bool→ByteArray→ByteArray→Option ((Bool×ByteArray×ByteArray×Bool×ByteArray×ByteArray×Unit)×Unit)
 | 0,_,_,_,_,_,_,_=>none
 | n+1,v2,v9,v10,v11,v12,v13,v14=>r0 lf v0 v1 v3 v4 v5 v6 v7 v8 v2 v9 v10 v11 v12 v13 v14 (l0 lf v0 v1 v3 v4 v5 v6 v7 v8 n) (fun w0 w1 w2 w3 w4 w5=>some ((w0,w1,w2,w3,w4,w5,()),()))
def sh0:ShS:=⟨[.s (.sl (.pair (.int .i64) (.pair (.int .i64) (.pair yV .unit)))),.a 5,.s (.ptr 1 0),.s (.ptr 2 0),.s (.sl (.int .i64)),.s (.int .i64),.a 21],[.gone,.cells [.s .bool,.s .str,.s .str,.s .bool,.s .str,.s .str] 29,.cells [.s .bool,.s .str,.s .str,.s .bool,.s .str,.s .str] 29]⟩
def S0(p:(List (Int×(Int×(TV×Unit))))×(List Int)×Int×Bool×ByteArray×ByteArray×Bool×ByteArray×ByteArray×Bool×ByteArray×ByteArray×Bool×ByteArray×ByteArray×Unit):St:=sh0.b p
def xh0:ShS:=⟨[.a 6,.s (.ptr 1 0),.s (.ptr 2 0),.a 23],[.gone,.cells [.s .bool,.s .str,.s .str,.s .bool,.s .str,.s .str] 29,.cells [.s .bool,.s .str,.s .str,.s .bool,.s .str,.s .str] 29]⟩
def o0(v0:List (Int×(Int×(TV×Unit))))(v1:List Int)(v3:Bool)(v4 v5:ByteArray)(v6:Bool)(v7 v8:ByteArray)(y:(Bool×ByteArray×ByteArray×Bool×ByteArray×ByteArray×Unit)×Unit):Alt:=.one (.exit 0) (xh0.b (v3,v4,v5,v6,v7,v8,y.1.1,y.1.2.1,y.1.2.2.1,y.1.2.2.2.1,y.1.2.2.2.2.1,y.1.2.2.2.2.2.1,()))
def tb(lf:Nat):List (FuncId×Entry):=[(21,aX.E lf),(125,aP.E lf),(126,di.E lf)]
def aip(lf:Nat):List (Nat×(St→Option LTE)):=[(0,sumE sh0 fun(p:(List (Int×(Int×(TV×Unit))))×(List Int)×Int×Bool×ByteArray×ByteArray×Bool×ByteArray×ByteArray×Bool×ByteArray×ByteArray×Bool×ByteArray×ByteArray×Unit)=>⟨(Bool×ByteArray×ByteArray×Bool×ByteArray×ByteArray×Unit)×Unit,l0 lf p.1 p.2.1 p.2.2.2.1 p.2.2.2.2.1 p.2.2.2.2.2.1 p.2.2.2.2.2.2.1 p.2.2.2.2.2.2.2.1 (e8 p).1 (lf+40) p.2.2.1 (e8 p).2.1 (e8 p).2.2.1 (e8 p).2.2.2.1 (e8 p).2.2.2.2.1 (e8 p).2.2.2.2.2.1 (e8 p).2.2.2.2.2.2.1,o0 p.1 p.2.1 p.2.2.2.1 p.2.2.2.2.1 p.2.2.2.2.2.1 p.2.2.2.2.2.2.1 p.2.2.2.2.2.2.2.1 (e8 p).1⟩)]
def ls(lf:Nat):List (Nat×FuncId×Sums):=[(13,65,sumsL (aip lf))]
def it0{ρ:Type}(lf n:Nat)(st:St)(k:KE ρ):Option ρ:=itG (anns lf) (ls lf) (tb lf) lf 13 65 0 3 (sumsL (aip lf)) n st k
theorem t0{ρ:Type}(lf n:Nat)(v0:List (Int×(Int×(TV×Unit))))(v1:List Int)(v2:Int)(v3:Bool)(v4 v5:ByteArray)(v6:Bool)(v7 v8:ByteArray)(v9:Bool)(v10 v11:ByteArray)(v12:Bool)(v13 v14:ByteArray)(k:KE ρ):it0 lf (n+1) (S0 (v0,v1,v2,v3,v4,v5,v6,v7,v8,v9,v10,v11,v12,v13,v14,())) k=r0 lf v0 v1 v3 v4 v5 v6 v7 v8 v2 v9 v10 v11 v12 v13 v14 (fun x0 x1 x2 x3 x4 x5 x6=>it0 lf n (S0 (v0,v1,x0,v3,v4,v5,v6,v7,v8,x1,x2,x3,x4,x5,x6,())) k) (fun w0 w1 w2 w3 w4 w5=>k (.exit 0) (xh0.b (v3,v4,v5,v6,v7,v8,w0,w1,w2,w3,w4,w5,()))):=by kernel_rfl
theorem u0{ρ:Type}(lf:Nat)(v0:List (Int×(Int×(TV×Unit))))(v1:List Int)(v3:Bool)(v4 v5:ByteArray)(v6:Bool)(v7 v8:ByteArray)(k:KE ρ):∀ (n:Nat) (v2:Int) (v9:Bool) (v10 v11:ByteArray) (v12:Bool) (v13 v14:ByteArray),it0 lf n (S0 (v0,v1,v2,v3,v4,v5,v6,v7,v8,v9,v10,v11,v12,v13,v14,())) k=bd (l0 lf v0 v1 v3 v4 v5 v6 v7 v8 n v2 v9 v10 v11 v12 v13 v14) fun y=>altK k (o0 v0 v1 v3 v4 v5 v6 v7 v8 y)
 | 0,_,_,_,_,_,_,_=>by rw[l0,au];rfl
 | n+1,v2,v9,v10,v11,v12,v13,v14=>by
  rw[t0];simp only[l0,r0,u0 lf v0 v1 v3 v4 v5 v6 v7 v8 k n,dA,dw,aF,au,br_t,br_f,o0,altK]
theorem sl(lf:Nat):SL (anns lf) (ls lf) (tb lf) lf (ls lf):=slC (laC (fun _=>by kernel_rfl) (fun _ (x:(List (Int×(Int×(TV×Unit))))×(List Int)×Int×Bool×ByteArray×ByteArray×Bool×ByteArray×ByteArray×Bool×ByteArray×ByteArray×Bool×ByteArray×ByteArray×Unit) k=>bg (u0 lf x.1 x.2.1 x.2.2.2.1 x.2.2.2.2.1 x.2.2.2.2.2.1 x.2.2.2.2.2.2.1 x.2.2.2.2.2.2.2.1 (e8 x).1 k (lf+40) x.2.2.1 (e8 x).2.1 (e8 x).2.2.1 (e8 x).2.2.2.1 (e8 x).2.2.2.2.1 (e8 x).2.2.2.2.2.1 (e8 x).2.2.2.2.2.2.1)) laN) slN
def f(lf:Nat)(a0:List (Int×(Int×(TV×Unit))))(a1:Int)(a2:TV):Option (TV×Unit) :=
 bd (aX.f lf) fun r1 =>
 bd (aP.f lf a2 a1) fun r2 =>
 bd (l0 lf a0 r2.1 false (⟨#[]⟩:ByteArray) (⟨#[]⟩:ByteArray) false (⟨#[]⟩:ByteArray) (⟨#[]⟩:ByteArray) (lf+40) 0 r1.1.1.1 r1.1.1.2.1 r1.1.1.2.2.1 r1.1.2.1.1 r1.1.2.1.2.1 r1.1.2.1.2.2.1) fun z8 =>
 some (((z8.1.1,z8.1.2.1,z8.1.2.2.1,()),(z8.1.2.2.2.1,z8.1.2.2.2.2.1,z8.1.2.2.2.2.2.1,()),()),())
def E(lf:Nat):Entry:=⟨[(.sl (.pair (.int .i64) (.pair (.int .i64) (.pair yV .unit)))),(.int .i64),yV],[yV],fun x=>f lf x.1 x.2.1 x.2.2.1⟩
theorem ok(lf:Nat):Ok 65 (E lf):=okL (tC (aX.ok lf) (tC (aP.ok lf) (tC (di.ok lf) tN))) (aoC (aoP (aO.ok lf) aoN)) (sl lf) fun x=>by kernel_rfl
end dO
namespace kL
def f(lf:Nat)(a0:List (Int×(Int×(TV×Unit))))(a1:Int)(a2:TV):Option (TV×Int×Unit) :=
 bd (bI.f lf a0 a1) fun r1 =>
 br (r1.1 != 0) (
 some (((false,(⟨#[]⟩:ByteArray),(⟨#[]⟩:ByteArray),()),(false,(⟨#[]⟩:ByteArray),(⟨#[]⟩:ByteArray),()),()),r1.1,())) (
 bd (bP.f lf a2) fun r2 =>
 br (r2.1 != 0) (
 some (((false,(⟨#[]⟩:ByteArray),(⟨#[]⟩:ByteArray),()),(false,(⟨#[]⟩:ByteArray),(⟨#[]⟩:ByteArray),()),()),r2.1,())) (
 bd (dO.f lf a0 a1 a2) fun r3 =>
 some (r3.1,0,())))
def E(lf:Nat):Entry:=⟨[(.sl (.pair (.int .i64) (.pair (.int .i64) (.pair yV .unit)))),(.int .i64),yV],[yV,(.int .i64)],fun x=>f lf x.1 x.2.1 x.2.2.1⟩
theorem ok(lf:Nat):Ok 14 (E lf):=okT (an:=(annsL [])) (lf:=lf) (tC (bI.ok lf) (tC (bP.ok lf) (tC (dO.ok lf) tN))) aoN fun x=>by kernel_rfl
end kL
namespace eu
def anns:FuncId→FA:=annsL [(77,⟨annOf [(0,⟨kx 48 [0,3,4],[⟨.tmp 3,(.pair (.int .i64) (.pair (.int .i64) (.pair yV .unit))),98⟩],[]⟩,⟨kx 48 [2,3],[⟨.tmp 3,(.pair (.int .i64) (.pair (.int .i64) (.pair yV .unit))),98⟩],[]⟩)],none,[]⟩)]
def r0{ρ:Type}(lf:Nat)(v0:List TV)(v1:Int)(v2:List (Int×(Int×(TV×Unit))))(K:Int→(List (Int×(Int×(TV×Unit))))→Option ρ)(E0:(List (Int×(Int×(TV×Unit))))→Option ρ):Option ρ :=
 br (decide (v1 < ((v0.length:Nat):Int))) (
 br (decide (((v2.length:Nat):Int) > 0)) (
 bd (idxB v2.length (i64.wrap (((v2.length:Nat):Int)-1))) fun j1 =>
 bd (v2[j1]?) fun y2 =>
 bd (idxL v0 v1) fun y3 =>
 bd (some (((y2.2.2.1.1.1==y3.1.1)&&((y2.2.2.1.1.2.1==y3.1.2.1)&&((y2.2.2.1.1.2.2.1==y3.1.2.2.1)&&true)))&&(((y2.2.2.1.2.1.1==y3.2.1.1)&&((y2.2.2.1.2.1.2.1==y3.2.1.2.1)&&((y2.2.2.1.2.1.2.2.1==y3.2.1.2.2.1)&&true)))&&true))) fun r4 =>
 br r4 (
 bd (idxB v2.length (i64.wrap (((v2.length:Nat):Int)-1))) fun j5 =>
 bd (upE v2 j5 fun y7=>some (y7.1,(i64.wrap (v1+1)),y7.2.2.1,())) fun q6 =>
 K (i64.wrap (v1+1)) q6) (
 bd (idxL v0 v1) fun y8 =>
 bd (apL true 96 v2 [(v1,(i64.wrap (v1+1)),y8,())]) fun q9 =>
 K (i64.wrap (v1+1)) q9)) (
 bd (idxL v0 v1) fun y10 =>
 bd (apL true 96 v2 [(v1,(i64.wrap (v1+1)),y10,())]) fun q11 =>
 K (i64.wrap (v1+1)) q11)) (
 E0 v2)
def l0(lf:Nat)(v0:List TV):Nat→Int→(List (Int×(Int×(TV×Unit))))→Option (((List (Int×(Int×(TV×Unit))))×Unit)×Unit)
 | 0,_,_=>none
 | n+1,v1,v2=>r0 lf v0 v1 v2 (l0 lf v0 n) (fun w0=>some ((w0,()),()))
def sh0:ShS:=⟨[.s (.sl yV),.a 2,.s (.row 0),.s (.int .i64),.a 43],[.row (.pair (.int .i64) (.pair (.int .i64) (.pair yV .unit))) 98 false]⟩
def S0(p:(List TV)×Int×(List (Int×(Int×(TV×Unit))))×Unit):St:=sh0.b p
def xh0:ShS:=⟨[.a 3,.s (.row 0),.a 44],[.row (.pair (.int .i64) (.pair (.int .i64) (.pair yV .unit))) 98 false]⟩
def o0(v0:List TV)(y:((List (Int×(Int×(TV×Unit))))×Unit)×Unit):Alt:=.one (.exit 0) (xh0.b (y.1.1,()))
def tb(lf:Nat):List (FuncId×Entry):=[]
def ait(lf:Nat):List (Nat×(St→Option LTE)):=[(0,sumE sh0 fun(p:(List TV)×Int×(List (Int×(Int×(TV×Unit))))×Unit)=>⟨((List (Int×(Int×(TV×Unit))))×Unit)×Unit,l0 lf p.1 (lf+40) p.2.1 p.2.2.1,o0 p.1⟩)]
def ls(lf:Nat):List (Nat×FuncId×Sums):=[(13,77,sumsL (ait lf))]
def it0{ρ:Type}(lf n:Nat)(st:St)(k:KE ρ):Option ρ:=itG anns (ls lf) (tb lf) lf 13 77 0 0 (sumsL (ait lf)) n st k
theorem t0{ρ:Type}(lf n:Nat)(v0:List TV)(v1:Int)(v2:List (Int×(Int×(TV×Unit))))(k:KE ρ):it0 lf (n+1) (S0 (v0,v1,v2,())) k=r0 lf v0 v1 v2 (fun x0 x1=>it0 lf n (S0 (v0,x0,x1,())) k) (fun w0=>k (.exit 0) (xh0.b (w0,()))):=by kernel_rfl
theorem u0{ρ:Type}(lf:Nat)(v0:List TV)(k:KE ρ):∀ (n:Nat) (v1:Int) (v2:List (Int×(Int×(TV×Unit)))),it0 lf n (S0 (v0,v1,v2,())) k=bd (l0 lf v0 n v1 v2) fun y=>altK k (o0 v0 y)
 | 0,_,_=>by rw[l0,au];rfl
 | n+1,v1,v2=>by
  rw[t0];simp only[l0,r0,u0 lf v0 k n,dA,dw,aF,au,br_t,br_f,o0,altK]
theorem sl(lf:Nat):SL anns (ls lf) (tb lf) lf (ls lf):=slC (laC (fun _=>by kernel_rfl) (fun _ (x:(List TV)×Int×(List (Int×(Int×(TV×Unit))))×Unit) k=>bg (u0 lf x.1 k (lf+40) x.2.1 x.2.2.1)) laN) slN
def f(lf:Nat)(a0:List TV):Option ((List (Int×(Int×(TV×Unit))))×Unit) :=
 bd (l0 lf a0 (lf+40) 0 []) fun z12 =>
 some (z12.1.1,())
def E(lf:Nat):Entry:=⟨[(.sl yV)],[(.sl (.pair (.int .i64) (.pair (.int .i64) (.pair yV .unit))))],fun x=>f lf x.1⟩
theorem ok(lf:Nat):Ok 77 (E lf):=okL tN (aoC aoN) (sl lf) fun x=>by kernel_rfl
end eu
end
end Go.Q
namespace Go.Q
open Go.IntKind (i64)
open Go Go.RowKit
open Go.Rx (br bd sIdx sCat sCut iQuo iRem)
noncomputable section
namespace bn
def anns(lf:Nat):FuncId→FA:=annsL [(69,⟨annOf [(0,⟨kx 58 [7,10,11,12],[],[0]⟩,⟨kx 58 [8,9,11],[],[0]⟩)],none,[]⟩),(83,⟨annOf [],some (aO.spk lf),[]⟩)]
def r0{ρ:Type}(lf:Nat)(v0:List Int)(v2:Bool)(v3 v4:ByteArray)(v5:Bool)(v6 v7:ByteArray)(v1:Int)(v8:List TV)(K:Int→(List TV)→Option ρ)(E0:(List TV)→Option ρ):Option ρ :=
 br (decide (v1 < ((v0.length:Nat):Int))) (
 br (((v0.length:Nat):Int)==1) (
 bd (idxL v0 v1) fun y4 =>
 bd (idxB v8.length y4) fun j5 =>
 bd (upE v8 j5 fun _=>some ((v2,v3,v4,()),(v5,v6,v7,()),())) fun q6 =>
 K (i64.wrap (v1+1)) q6) (
 bd (idxL v0 v1) fun y8 =>
 bd (idxL v0 v1) fun y9 =>
 bd (idxB v8.length y9) fun j10 =>
 bd (v8[j10]?) fun y11 =>
 bd (di.f lf y11 ((v2,v3,v4,()),(v5,v6,v7,()),())) fun r12 =>
 bd (idxB v8.length y8) fun j13 =>
 bd (upE v8 j13 fun _=>some r12.1) fun q14 =>
 K (i64.wrap (v1+1)) q14)) (
 E0 v8)
def l0(lf:Nat)(v0:List Int)(v2:Bool)(v3 v4:ByteArray)(v5:Bool)(v6 v7:ByteArray):Nat→Int→(List TV)→Option (((List TV)×Unit)×Unit)
 | 0,_,_=>none
 | n+1,v1,v8=>r0 lf v0 v2 v3 v4 v5 v6 v7 v1 v8 (l0 lf v0 v2 v3 v4 v5 v6 v7 n) (fun w0=>some ((w0,()),()))
def sh0:ShS:=⟨[.a 7,.s (.ptr 1 0),.a 2,.s (.sl (.int .i64)),.s (.row 2),.s (.int .i64),.a 45],[.gone,.cells [.s .bool,.s .str,.s .str,.s .bool,.s .str,.s .str] 29,.row yV 29 false]⟩
def S0(p:(List Int)×Int×Bool×ByteArray×ByteArray×Bool×ByteArray×ByteArray×(List TV)×Unit):St:=sh0.b p
def xh0:ShS:=⟨[.a 11,.s (.row 2),.a 46],[.gone,.cells [.s .bool,.s .str,.s .str,.s .bool,.s .str,.s .str] 29,.row yV 29 false]⟩
def o0(v0:List Int)(v2:Bool)(v3 v4:ByteArray)(v5:Bool)(v6 v7:ByteArray)(y:((List TV)×Unit)×Unit):Alt:=.one (.exit 0) (xh0.b (v2,v3,v4,v5,v6,v7,y.1.1,()))
def tb(lf:Nat):List (FuncId×Entry):=[(43,bJ.E lf),(77,eu.E lf),(125,aP.E lf),(126,di.E lf)]
def air(lf:Nat):List (Nat×(St→Option LTE)):=[(0,sumE sh0 fun(p:(List Int)×Int×Bool×ByteArray×ByteArray×Bool×ByteArray×ByteArray×(List TV)×Unit)=>⟨((List TV)×Unit)×Unit,l0 lf p.1 p.2.2.1 p.2.2.2.1 p.2.2.2.2.1 p.2.2.2.2.2.1 p.2.2.2.2.2.2.1 p.2.2.2.2.2.2.2.1 (lf+40) p.2.1 (e8 p).1,o0 p.1 p.2.2.1 p.2.2.2.1 p.2.2.2.2.1 p.2.2.2.2.2.1 p.2.2.2.2.2.2.1 p.2.2.2.2.2.2.2.1⟩)]
def ls(lf:Nat):List (Nat×FuncId×Sums):=[(13,69,sumsL (air lf))]
def it0{ρ:Type}(lf n:Nat)(st:St)(k:KE ρ):Option ρ:=itG (anns lf) (ls lf) (tb lf) lf 13 69 0 3 (sumsL (air lf)) n st k
theorem t0{ρ:Type}(lf n:Nat)(v0:List Int)(v1:Int)(v2:Bool)(v3 v4:ByteArray)(v5:Bool)(v6 v7:ByteArray)(v8:List TV)(k:KE ρ):it0 lf (n+1) (S0 (v0,v1,v2,v3,v4,v5,v6,v7,v8,())) k=r0 lf v0 v2 v3 v4 v5 v6 v7 v1 v8 (fun x0 x1=>it0 lf n (S0 (v0,x0,v2,v3,v4,v5,v6,v7,x1,())) k) (fun w0=>k (.exit 0) (xh0.b (v2,v3,v4,v5,v6,v7,w0,()))):=by kernel_rfl
theorem u0{ρ:Type}(lf:Nat)(v0:List Int)(v2:Bool)(v3 v4:ByteArray)(v5:Bool)(v6 v7:ByteArray)(k:KE ρ):∀ (n:Nat) (v1:Int) (v8:List TV),it0 lf n (S0 (v0,v1,v2,v3,v4,v5,v6,v7,v8,())) k=bd (l0 lf v0 v2 v3 v4 v5 v6 v7 n v1 v8) fun y=>altK k (o0 v0 v2 v3 v4 v5 v6 v7 y)
 | 0,_,_=>by rw[l0,au];rfl
 | n+1,v1,v8=>by
  rw[t0];simp only[l0,r0,u0 lf v0 v2 v3 v4 v5 v6 v7 k n,dA,dw,aF,au,br_t,br_f,o0,altK]
theorem sl(lf:Nat):SL (anns lf) (ls lf) (tb lf) lf (ls lf):=slC (laC (fun _=>by kernel_rfl) (fun _ (x:(List Int)×Int×Bool×ByteArray×ByteArray×Bool×ByteArray×ByteArray×(List TV)×Unit) k=>bg (u0 lf x.1 x.2.2.1 x.2.2.2.1 x.2.2.2.2.1 x.2.2.2.2.2.1 x.2.2.2.2.2.2.1 x.2.2.2.2.2.2.2.1 k (lf+40) x.2.1 (e8 x).1)) laN) slN
def f(lf:Nat)(a0:List (Int×(Int×(TV×Unit))))(a1:Int)(a2:TV)(a3:TV):Option ((List (Int×(Int×(TV×Unit))))×Bool×Unit) :=
 bd (aP.f lf a2 a1) fun r1 =>
 br (((r1.1.length:Nat):Int)==0) (
 some ([],false,())) (
 bd (bJ.f lf a3) fun r2 =>
 br r2.1 (
 some ([],false,())) (
 bd (aO.f lf a0) fun r3 =>
 bd (l0 lf r1.1 a3.1.1 a3.1.2.1 a3.1.2.2.1 a3.2.1.1 a3.2.1.2.1 a3.2.1.2.2.1 (lf+40) 0 r3.1) fun z16 =>
 bd (eu.f lf z16.1.1) fun r17 =>
 some (r17.1,true,())))
def E(lf:Nat):Entry:=⟨[(.sl (.pair (.int .i64) (.pair (.int .i64) (.pair yV .unit)))),(.int .i64),yV,yV],[(.sl (.pair (.int .i64) (.pair (.int .i64) (.pair yV .unit)))),.bool],fun x=>f lf x.1 x.2.1 x.2.2.1 x.2.2.2.1⟩
theorem ok(lf:Nat):Ok 69 (E lf):=okL (tC (bJ.ok lf) (tC (eu.ok lf) (tC (aP.ok lf) (tC (di.ok lf) tN)))) (aoC (aoP (aO.ok lf) aoN)) (sl lf) fun x=>by kernel_rfl
end bn
namespace jU
def f(lf:Nat)(a0:List (Int×(Int×(TV×Unit))))(a1:Int)(a2:TV)(a3:TV):Option ((List (Int×(Int×(TV×Unit))))×Bool×Int×Unit) :=
 bd (bI.f lf a0 a1) fun r1 =>
 br (r1.1 != 0) (
 some ([],false,r1.1,())) (
 bd (gW.f lf a2 a3) fun r2 =>
 br (r2.1 != 0) (
 some ([],false,r2.1,())) (
 bd (bn.f lf a0 a1 a2 a3) fun r3 =>
 some (r3.1,r3.2.1,0,())))
def E(lf:Nat):Entry:=⟨[(.sl (.pair (.int .i64) (.pair (.int .i64) (.pair yV .unit)))),(.int .i64),yV,yV],[(.sl (.pair (.int .i64) (.pair (.int .i64) (.pair yV .unit)))),.bool,(.int .i64)],fun x=>f lf x.1 x.2.1 x.2.2.1 x.2.2.2.1⟩
theorem ok(lf:Nat):Ok 16 (E lf):=okT (an:=(annsL [])) (lf:=lf) (tC (bI.ok lf) (tC (gW.ok lf) (tC (bn.ok lf) tN))) aoN fun x=>by kernel_rfl
end jU
namespace dW
def anns(lf:Nat):FuncId→FA:=annsL [(72,⟨annOf [(0,⟨kx 43 [0,7,8,9,10,11],[],[0]⟩,⟨kx 43 [8,9],[],[0]⟩)],none,[]⟩),(83,⟨annOf [],some (aO.spk lf),[]⟩)]
def r0{ρ:Type}(lf:Nat)(v0:List (Int×(Int×(TV×Unit))))(v1:List Int)(v3:Bool)(v4 v5:ByteArray)(v6:Bool)(v7 v8:ByteArray)(v9:Bool)(v10 v11:ByteArray)(v12:Bool)(v13 v14:ByteArray)(v2:Int)(v15:Bool)(v16 v17:ByteArray)(v18:Bool)(v19 v20:ByteArray)(K:Int→Bool→ByteArray→ByteArray→Bool→ByteArray→ByteArray→Option ρ)(E0:Bool→ByteArray→ByteArray→Bool→ByteArray→ByteArray→Option ρ):Option ρ :=
 br (decide (v2 < ((v1.length:Nat):Int))) (
 bd (aO.f lf v0) fun r3 =>
 bd (idxL v1 v2) fun y4 =>
 bd (idxB r3.1.length y4) fun j5 =>
 bd (r3.1[j5]?) fun y6 =>
 bd (jI.f lf y6 ((v3,v4,v5,()),(v6,v7,v8,()),())) fun r7 =>
 bd (bJ.f lf r7.1) fun r8 =>
 br (!r8.1) (
 bd (idxL v1 v2) fun y9 =>
 bd (aB.f lf y9) fun r10 =>
 bd (dP.f lf r10.1) fun r11 =>
 bd (di.f lf ((v15,v16,v17,()),(v18,v19,v20,()),()) r11.1) fun r12 =>
 K (i64.wrap (v2+1)) r12.1.1.1 r12.1.1.2.1 r12.1.1.2.2.1 r12.1.2.1.1 r12.1.2.1.2.1 r12.1.2.1.2.2.1) (
 K (i64.wrap (v2+1)) v15 v16 v17 v18 v19 v20)) (
 E0 v15 v16 v17 v18 v19 v20)
def l0(lf:Nat)(v0:List (Int×(Int×(TV×Unit))))(v1:List Int)(v3:Bool)(v4 v5:ByteArray)(v6:Bool)(v7 v8:ByteArray)(v9:Bool)(v10 v11:ByteArray)(v12:Bool)(v13 v14:ByteArray):Nat→Int→Bool→ByteArray→ByteArray→Bool→ByteArray→ByteArray→Option ((Bool×ByteArray×ByteArray×Bool×ByteArray×ByteArray×Unit)×Unit)
 | 0,_,_,_,_,_,_,_=>none
 | n+1,v2,v15,v16,v17,v18,v19,v20=>r0 lf v0 v1 v3 v4 v5 v6 v7 v8 v9 v10 v11 v12 v13 v14 v2 v15 v16 v17 v18 v19 v20 (l0 lf v0 v1 v3 v4 v5 v6 v7 v8 v9 v10 v11 v12 v13 v14 n) (fun w0 w1 w2 w3 w4 w5=>some ((w0,w1,w2,w3,w4,w5,()),()))
def sh0:ShS:=⟨[.s (.sl (.pair (.int .i64) (.pair (.int .i64) (.pair yV .unit)))),.a 6,.s (.ptr 1 0),.s (.ptr 2 0),.s (.ptr 3 0),.s (.sl (.int .i64)),.s (.int .i64),.a 31],[.gone,.cells [.s .bool,.s .str,.s .str,.s .bool,.s .str,.s .str] 29,.cells [.s .bool,.s .str,.s .str,.s .bool,.s .str,.s .str] 29,.cells [.s .bool,.s .str,.s .str,.s .bool,.s .str,.s .str] 29]⟩
def S0(p:(List (Int×(Int×(TV×Unit))))×(List Int)×Int×Bool×ByteArray×ByteArray×Bool×ByteArray×ByteArray×Bool×ByteArray×ByteArray×Bool×ByteArray×ByteArray×Bool×ByteArray×ByteArray×Bool×ByteArray×ByteArray×Unit):St:=sh0.b p
def xh0:ShS:=⟨[.a 8,.s (.ptr 2 0),.s (.ptr 3 0),.a 33],[.gone,.cells [.s .bool,.s .str,.s .str,.s .bool,.s .str,.s .str] 29,.cells [.s .bool,.s .str,.s .str,.s .bool,.s .str,.s .str] 29,.cells [.s .bool,.s .str,.s .str,.s .bool,.s .str,.s .str] 29]⟩
def o0(v0:List (Int×(Int×(TV×Unit))))(v1:List Int)(v3:Bool)(v4 v5:ByteArray)(v6:Bool)(v7 v8:ByteArray)(v9:Bool)(v10 v11:ByteArray)(v12:Bool)(v13 v14:ByteArray)(y:(Bool×ByteArray×ByteArray×Bool×ByteArray×ByteArray×Unit)×Unit):Alt:=.one (.exit 0) (xh0.b (v3,v4,v5,v6,v7,v8,v9,v10,v11,v12,v13,v14,y.1.1,y.1.2.1,y.1.2.2.1,y.1.2.2.2.1,y.1.2.2.2.2.1,y.1.2.2.2.2.2.1,()))
def tb(lf:Nat):List (FuncId×Entry):=[(21,aX.E lf),(28,dP.E lf),(29,aB.E lf),(43,bJ.E lf),(125,aP.E lf),(126,di.E lf),(130,jI.E lf)]
def ais(lf:Nat):List (Nat×(St→Option LTE)):=[(0,sumE sh0 fun(p:(List (Int×(Int×(TV×Unit))))×(List Int)×Int×Bool×ByteArray×ByteArray×Bool×ByteArray×ByteArray×Bool×ByteArray×ByteArray×Bool×ByteArray×ByteArray×Bool×ByteArray×ByteArray×Bool×ByteArray×ByteArray×Unit)=>⟨(Bool×ByteArray×ByteArray×Bool×ByteArray×ByteArray×Unit)×Unit,l0 lf p.1 p.2.1 p.2.2.2.1 p.2.2.2.2.1 p.2.2.2.2.2.1 p.2.2.2.2.2.2.1 p.2.2.2.2.2.2.2.1 (e8 p).1 (e8 p).2.1 (e8 p).2.2.1 (e8 p).2.2.2.1 (e8 p).2.2.2.2.1 (e8 p).2.2.2.2.2.1 (e8 p).2.2.2.2.2.2.1 (lf+40) p.2.2.1 (e8 p).2.2.2.2.2.2.2.1 (e8 (e8 p)).1 (e8 (e8 p)).2.1 (e8 (e8 p)).2.2.1 (e8 (e8 p)).2.2.2.1 (e8 (e8 p)).2.2.2.2.1,o0 p.1 p.2.1 p.2.2.2.1 p.2.2.2.2.1 p.2.2.2.2.2.1 p.2.2.2.2.2.2.1 p.2.2.2.2.2.2.2.1 (e8 p).1 (e8 p).2.1 (e8 p).2.2.1 (e8 p).2.2.2.1 (e8 p).2.2.2.2.1 (e8 p).2.2.2.2.2.1 (e8 p).2.2.2.2.2.2.1⟩)]
def ls(lf:Nat):List (Nat×FuncId×Sums):=[(13,72,sumsL (ais lf))]
def it0{ρ:Type}(lf n:Nat)(st:St)(k:KE ρ):Option ρ:=itG (anns lf) (ls lf) (tb lf) lf 13 72 0 4 (sumsL (ais lf)) n st k
theorem t0{ρ:Type}(lf n:Nat)(v0:List (Int×(Int×(TV×Unit))))(v1:List Int)(v2:Int)(v3:Bool)(v4 v5:ByteArray)(v6:Bool)(v7 v8:ByteArray)(v9:Bool)(v10 v11:ByteArray)(v12:Bool)(v13 v14:ByteArray)(v15:Bool)(v16 v17:ByteArray)(v18:Bool)(v19 v20:ByteArray)(k:KE ρ):it0 lf (n+1) (S0 (v0,v1,v2,v3,v4,v5,v6,v7,v8,v9,v10,v11,v12,v13,v14,v15,v16,v17,v18,v19,v20,())) k=r0 lf v0 v1 v3 v4 v5 v6 v7 v8 v9 v10 v11 v12 v13 v14 v2 v15 v16 v17 v18 v19 v20 (fun x0 x1 x2 x3 x4 x5 x6=>it0 lf n (S0 (v0,v1,x0,v3,v4,v5,v6,v7,v8,v9,v10,v11,v12,v13,v14,x1,x2,x3,x4,x5,x6,())) k) (fun w0 w1 w2 w3 w4 w5=>k (.exit 0) (xh0.b (v3,v4,v5,v6,v7,v8,v9,v10,v11,v12,v13,v14,w0,w1,w2,w3,w4,w5,()))):=by kernel_rfl
theorem u0{ρ:Type}(lf:Nat)(v0:List (Int×(Int×(TV×Unit))))(v1:List Int)(v3:Bool)(v4 v5:ByteArray)(v6:Bool)(v7 v8:ByteArray)(v9:Bool)(v10 v11:ByteArray)(v12:Bool)(v13 v14:ByteArray)(k:KE ρ):∀ (n:Nat) (v2:Int) (v15:Bool) (v16 v17:ByteArray) (v18:Bool) (v19 v20:ByteArray),it0 lf n (S0 (v0,v1,v2,v3,v4,v5,v6,v7,v8,v9,v10,v11,v12,v13,v14,v15,v16,v17,v18,v19,v20,())) k=bd (l0 lf v0 v1 v3 v4 v5 v6 v7 v8 v9 v10 v11 v12 v13 v14 n v2 v15 v16 v17 v18 v19 v20) fun y=>altK k (o0 v0 v1 v3 v4 v5 v6 v7 v8 v9 v10 v11 v12 v13 v14 y)
 | 0,_,_,_,_,_,_,_=>by rw[l0,au];rfl
 | n+1,v2,v15,v16,v17,v18,v19,v20=>by
  rw[t0];simp only[l0,r0,u0 lf v0 v1 v3 v4 v5 v6 v7 v8 v9 v10 v11 v12 v13 v14 k n,dA,dw,aF,au,br_t,br_f,o0,altK]
theorem sl(lf:Nat):SL (anns lf) (ls lf) (tb lf) lf (ls lf):=slC (laC (fun _=>by kernel_rfl) (fun _ (x:(List (Int×(Int×(TV×Unit))))×(List Int)×Int×Bool×ByteArray×ByteArray×Bool×ByteArray×ByteArray×Bool×ByteArray×ByteArray×Bool×ByteArray×ByteArray×Bool×ByteArray×ByteArray×Bool×ByteArray×ByteArray×Unit) k=>bg (u0 lf x.1 x.2.1 x.2.2.2.1 x.2.2.2.2.1 x.2.2.2.2.2.1 x.2.2.2.2.2.2.1 x.2.2.2.2.2.2.2.1 (e8 x).1 (e8 x).2.1 (e8 x).2.2.1 (e8 x).2.2.2.1 (e8 x).2.2.2.2.1 (e8 x).2.2.2.2.2.1 (e8 x).2.2.2.2.2.2.1 k (lf+40) x.2.2.1 (e8 x).2.2.2.2.2.2.2.1 (e8 (e8 x)).1 (e8 (e8 x)).2.1 (e8 (e8 x)).2.2.1 (e8 (e8 x)).2.2.2.1 (e8 (e8 x)).2.2.2.2.1)) laN) slN
def f(lf:Nat)(a0:List (Int×(Int×(TV×Unit))))(a1:Int)(a2:TV)(a3:TV):Option (TV×Unit) :=
 bd (aX.f lf) fun r1 =>
 bd (aP.f lf a2 a1) fun r2 =>
 bd (l0 lf a0 r2.1 a3.1.1 a3.1.2.1 a3.1.2.2.1 a3.2.1.1 a3.2.1.2.1 a3.2.1.2.2.1 false (⟨#[]⟩:ByteArray) (⟨#[]⟩:ByteArray) false (⟨#[]⟩:ByteArray) (⟨#[]⟩:ByteArray) (lf+40) 0 r1.1.1.1 r1.1.1.2.1 r1.1.1.2.2.1 r1.1.2.1.1 r1.1.2.1.2.1 r1.1.2.1.2.2.1) fun z13 =>
 some (((z13.1.1,z13.1.2.1,z13.1.2.2.1,()),(z13.1.2.2.2.1,z13.1.2.2.2.2.1,z13.1.2.2.2.2.2.1,()),()),())
def E(lf:Nat):Entry:=⟨[(.sl (.pair (.int .i64) (.pair (.int .i64) (.pair yV .unit)))),(.int .i64),yV,yV],[yV],fun x=>f lf x.1 x.2.1 x.2.2.1 x.2.2.2.1⟩
theorem ok(lf:Nat):Ok 72 (E lf):=okL (tC (aX.ok lf) (tC (dP.ok lf) (tC (aB.ok lf) (tC (bJ.ok lf) (tC (aP.ok lf) (tC (di.ok lf) (tC (jI.ok lf) tN))))))) (aoC (aoP (aO.ok lf) aoN)) (sl lf) fun x=>by kernel_rfl
end dW
end
end Go.Q
namespace Go.Q
open Go.IntKind (i64)
open Go Go.RowKit
open Go.Rx (br bd sIdx sCat sCut iQuo iRem)
noncomputable section
namespace kK
def f(lf:Nat)(a0:List (Int×(Int×(TV×Unit))))(a1:Int)(a2:TV)(a3:TV):Option (TV×Int×Unit) :=
 bd (bI.f lf a0 a1) fun r1 =>
 br (r1.1 != 0) (
 some (((false,(⟨#[]⟩:ByteArray),(⟨#[]⟩:ByteArray),()),(false,(⟨#[]⟩:ByteArray),(⟨#[]⟩:ByteArray),()),()),r1.1,())) (
 bd (gW.f lf a2 a3) fun r2 =>
 br (r2.1 != 0) (
 some (((false,(⟨#[]⟩:ByteArray),(⟨#[]⟩:ByteArray),()),(false,(⟨#[]⟩:ByteArray),(⟨#[]⟩:ByteArray),()),()),r2.1,())) (
 bd (dW.f lf a0 a1 a2 a3) fun r3 =>
 some (r3.1,0,())))
def E(lf:Nat):Entry:=⟨[(.sl (.pair (.int .i64) (.pair (.int .i64) (.pair yV .unit)))),(.int .i64),yV,yV],[yV,(.int .i64)],fun x=>f lf x.1 x.2.1 x.2.2.1 x.2.2.2.1⟩
theorem ok(lf:Nat):Ok 18 (E lf):=okT (an:=(annsL [])) (lf:=lf) (tC (bI.ok lf) (tC (gW.ok lf) (tC (dW.ok lf) tN))) aoN fun x=>by kernel_rfl
end kK
namespace eU
def anns:FuncId→FA:=annsL [(19,⟨annOf [(0,⟨kx 26 [0,1,5],[],[]⟩,⟨kx 26 [4],[],[]⟩)],none,[]⟩)]
def r0{ρ:Type}(lf:Nat)(v0 v1:List (Int×(Int×(TV×Unit))))(v2:Int)(K:Int→Option ρ)(E0:Option ρ)(E1:Option ρ):Option ρ :=
 br (decide (v2 < ((v0.length:Nat):Int))) (
 bd (idxL v0 v2) fun y1 =>
 bd (idxL v1 v2) fun y2 =>
 bd (some (!((y1.1==y2.1)&&((y1.2.1==y2.2.1)&&((((y1.2.2.1.1.1==y2.2.2.1.1.1)&&((y1.2.2.1.1.2.1==y2.2.2.1.1.2.1)&&((y1.2.2.1.1.2.2.1==y2.2.2.1.1.2.2.1)&&true)))&&(((y1.2.2.1.2.1.1==y2.2.2.1.2.1.1)&&((y1.2.2.1.2.1.2.1==y2.2.2.1.2.1.2.1)&&((y1.2.2.1.2.1.2.2.1==y2.2.2.1.2.1.2.2.1)&&true)))&&true))&&true))))) fun r3 =>
 br r3 (
 E0) (
 K (i64.wrap (v2+1)))) (
 E1)
def l0(lf:Nat)(v0 v1:List (Int×(Int×(TV×Unit)))):Nat→Int→Option (Bool×(Unit)×(Unit)×Unit)
 | 0,_=>none
 | n+1,v2=>r0 lf v0 v1 v2 (l0 lf v0 v1 n) (some (true,(()),((()),()))) (some (false,(()),((()),())))
def sh0:ShS:=⟨[.s (.sl (.pair (.int .i64) (.pair (.int .i64) (.pair yV .unit)))),.s (.sl (.pair (.int .i64) (.pair (.int .i64) (.pair yV .unit)))),.a 3,.s (.int .i64),.a 20],[]⟩
def S0(p:(List (Int×(Int×(TV×Unit))))×(List (Int×(Int×(TV×Unit))))×Int×Unit):St:=sh0.b p
def xh0:ShS:=⟨[.a 4,.s .bool,.a 21],[]⟩
def xh1:ShS:=⟨[.a 26],[]⟩
def o0(v0 v1:List (Int×(Int×(TV×Unit))))(y:Bool×(Unit)×(Unit)×Unit):Alt:=.two y.1 (.one .ret (xh0.b (false,()))) (.one (.exit 0) (xh1.b (())))
def tb(lf:Nat):List (FuncId×Entry):=[]
def aij(lf:Nat):List (Nat×(St→Option LTE)):=[(0,sumE sh0 fun(p:(List (Int×(Int×(TV×Unit))))×(List (Int×(Int×(TV×Unit))))×Int×Unit)=>⟨Bool×(Unit)×(Unit)×Unit,l0 lf p.1 p.2.1 (lf+40) p.2.2.1,o0 p.1 p.2.1⟩)]
def ls(lf:Nat):List (Nat×FuncId×Sums):=[(13,19,sumsL (aij lf))]
def it0{ρ:Type}(lf n:Nat)(st:St)(k:KE ρ):Option ρ:=itG anns (ls lf) (tb lf) lf 13 19 0 0 (sumsL (aij lf)) n st k
theorem t0{ρ:Type}(lf n:Nat)(v0 v1:List (Int×(Int×(TV×Unit))))(v2:Int)(k:KE ρ):it0 lf (n+1) (S0 (v0,v1,v2,())) k=r0 lf v0 v1 v2 (fun x0=>it0 lf n (S0 (v0,v1,x0,())) k) (k .ret (xh0.b (false,()))) (k (.exit 0) (xh1.b (()))):=by kernel_rfl
theorem u0{ρ:Type}(lf:Nat)(v0 v1:List (Int×(Int×(TV×Unit))))(k:KE ρ):∀ (n:Nat) (v2:Int),it0 lf n (S0 (v0,v1,v2,())) k=bd (l0 lf v0 v1 n v2) fun y=>altK k (o0 v0 v1 y)
 | 0,_=>by rw[l0,au];rfl
 | n+1,v2=>by
  rw[t0];simp only[l0,r0,u0 lf v0 v1 k n,dA,dw,aF,au,br_t,br_f,o0,altK]
theorem sl(lf:Nat):SL anns (ls lf) (tb lf) lf (ls lf):=slC (laC (fun _=>by kernel_rfl) (fun _ (x:(List (Int×(Int×(TV×Unit))))×(List (Int×(Int×(TV×Unit))))×Int×Unit) k=>bg (u0 lf x.1 x.2.1 k (lf+40) x.2.2.1)) laN) slN
def f(lf:Nat)(a0:List (Int×(Int×(TV×Unit))))(a1:List (Int×(Int×(TV×Unit)))):Option (Bool×Unit) :=
 br (((a0.length:Nat):Int) !=((a1.length:Nat):Int)) (
 some (false,())) (
 bd (l0 lf a0 a1 (lf+40) 0) fun z4 =>
 br z4.1 (
 some (false,())) (
 some (true,())))
def E(lf:Nat):Entry:=⟨[(.sl (.pair (.int .i64) (.pair (.int .i64) (.pair yV .unit)))),(.sl (.pair (.int .i64) (.pair (.int .i64) (.pair yV .unit))))],[.bool],fun x=>f lf x.1 x.2.1⟩
theorem ok(lf:Nat):Ok 19 (E lf):=okL tN (aoC aoN) (sl lf) fun x=>by kernel_rfl
end eU
end
end Go.Q
