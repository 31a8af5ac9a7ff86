import Derived.Test.YtgbokahnpmmfoaaGreatDoorProg
import Derived.KernelRfl
import Derived.Test.YtgbokahnpmmfoaaGreatDoorSLE3
set_option linter.unusedVariables false
set_option linter.unusedSimpArgs false
set_option linter.unusedSectionVars false
set_option maxRecDepth 100000
namespace Go.Q
open Go.IntKind (i64)
open Go Go.RowKit
open Go.Rx (br bd sIdx sCat sCut iQuo iRem)
noncomputable section
namespace fC
def anns:FuncId→FA:=annsL [(66,⟨annOf [(0,⟨kx 15 [3],[],[]⟩,⟨[],[],[]⟩)],none,[]⟩),(134,⟨annOf [(0,⟨kx 27 [0,6,7,8],[⟨.ref 0 0,yV,29⟩],[]⟩,⟨kx 27 [],[⟨.ref 0 0,yV,29⟩],[]⟩),(1,⟨kx 27 [0,4,5,6,7,8],[⟨.ref 0 0,yV,29⟩],[]⟩,⟨kx 27 [0,6,7,8],[⟨.ref 0 0,yV,29⟩],[]⟩)],none,[]⟩)]
def r1{ρ:Type}(lf:Nat)(v1:List (Int×(Int×(TV×Unit))))(v2 v3:Int)(v4:List (Int×(Int×(TV×Unit))))(v5 v6:Int)(v7:Bool)(v8 v9:ByteArray)(v10:Bool)(v11 v12:ByteArray)(v0:Int)(v13:List TV)(K:Int→(List TV)→Option ρ)(E0:(List TV)→Option ρ):Option ρ :=
 br (decide (v0 < v6)) (
 bd (apL true 80 v13 [((v7,v8,v9,()),(v10,v11,v12,()),())]) fun q2 =>
 K (i64.wrap (v0+1)) q2) (
 E0 v13)
def l1(lf:Nat)(v1:List (Int×(Int×(TV×Unit))))(v2 v3:Int)(v4:List (Int×(Int×(TV×Unit))))(v5 v6:Int)(v7:Bool)(v8 v9:ByteArray)(v10:Bool)(v11 v12:ByteArray):Nat→Int→(List TV)→Option (((List TV)×Unit)×Unit)
 | 0,_,_=>none
 | n+1,v0,v13=>r1 lf v1 v2 v3 v4 v5 v6 v7 v8 v9 v10 v11 v12 v0 v13 (l1 lf v1 v2 v3 v4 v5 v6 v7 v8 v9 v10 v11 v12 n) (fun w0=>some ((w0,()),()))
def sh1:ShS:=⟨[.s (.yld 2),.a 3,.s (.ptr 4 0),.s (.int .i64),.s (.sl (.pair (.int .i64) (.pair (.int .i64) (.pair yV .unit)))),.s (.int .i64),.s (.int .i64),.a 18],[.cells [.s (.row 5)] 48,.cells [.s (.sl (.pair (.int .i64) (.pair (.int .i64) (.pair yV .unit))))] 22,.rnd [.a 3,.s (.ptr 0 0),.a 11] 66 0 .ready none,.gone,.cells [.s (.int .i64),.s (.int .i64),.s .bool,.s .str,.s .str,.s .bool,.s .str,.s .str] 98,.row yV 29 false]⟩
def S1(p:Int×(List (Int×(Int×(TV×Unit))))×Int×Int×(List (Int×(Int×(TV×Unit))))×Int×Int×Bool×ByteArray×ByteArray×Bool×ByteArray×ByteArray×(List TV)×Unit):St:=sh1.b p
def xh0:ShS:=⟨[.s (.yld 2),.a 5,.s (.sl (.pair (.int .i64) (.pair (.int .i64) (.pair yV .unit)))),.s (.int .i64),.s (.int .i64),.a 18],[.cells [.s (.row 5)] 48,.cells [.s (.sl (.pair (.int .i64) (.pair (.int .i64) (.pair yV .unit))))] 22,.rnd [.a 3,.s (.ptr 0 0),.a 11] 66 0 .ready none,.gone,.cells [.s (.int .i64),.s (.int .i64),.s .bool,.s .str,.s .str,.s .bool,.s .str,.s .str] 98,.row yV 29 false]⟩
def o1(v1:List (Int×(Int×(TV×Unit))))(v2 v3:Int)(v4:List (Int×(Int×(TV×Unit))))(v5 v6:Int)(v7:Bool)(v8 v9:ByteArray)(v10:Bool)(v11 v12:ByteArray)(y:((List TV)×Unit)×Unit):Alt:=.one (.exit 2) (xh0.b (v1,v2,v3,v4,v5,v6,v7,v8,v9,v10,v11,v12,y.1.1,()))
def r0{ρ:Type}(lf:Nat)(v0:List (Int×(Int×(TV×Unit))))(v1:Int)(v3:List (Int×(Int×(TV×Unit))))(v2:Int)(v4:List TV)(K:Int→(List TV)→Option ρ)(E0:(List TV)→Option ρ):Option ρ :=
 br (decide (v2 < v1)) (
 bd (idxL v0 v2) fun y1 =>
 bd (l1 lf v0 v1 v2 v3 y1.1 y1.2.1 y1.2.2.1.1.1 y1.2.2.1.1.2.1 y1.2.2.1.1.2.2.1 y1.2.2.1.2.1.1 y1.2.2.1.2.1.2.1 y1.2.2.1.2.1.2.2.1 (lf+40) y1.1 v4) fun z3 =>
 K (i64.wrap (v2+1)) z3.1.1) (
 E0 v4)
def l0(lf:Nat)(v0:List (Int×(Int×(TV×Unit))))(v1:Int)(v3:List (Int×(Int×(TV×Unit)))):Nat→Int→(List TV)→Option (((List TV)×Unit)×Unit)
 | 0,_,_=>none
 | n+1,v2,v4=>r0 lf v0 v1 v3 v2 v4 (l0 lf v0 v1 v3 n) (fun w0=>some ((w0,()),()))
def sh0:ShS:=⟨[.s (.yld 2),.a 5,.s (.sl (.pair (.int .i64) (.pair (.int .i64) (.pair yV .unit)))),.s (.int .i64),.s (.int .i64),.a 18],[.cells [.s (.row 3)] 48,.cells [.s (.sl (.pair (.int .i64) (.pair (.int .i64) (.pair yV .unit))))] 22,.rnd [.a 3,.s (.ptr 0 0),.a 11] 66 0 .ready none,.row yV 29 false]⟩
def S0(p:(List (Int×(Int×(TV×Unit))))×Int×Int×(List (Int×(Int×(TV×Unit))))×(List TV)×Unit):St:=sh0.b p
def xh1:ShS:=⟨[.a 27],[.cells [.s (.row 3)] 48,.cells [.s (.sl (.pair (.int .i64) (.pair (.int .i64) (.pair yV .unit))))] 22,.rnd [.a 3,.s (.ptr 0 0),.a 11] 66 0 .ready none,.row yV 29 false]⟩
def o0(v0:List (Int×(Int×(TV×Unit))))(v1:Int)(v3:List (Int×(Int×(TV×Unit))))(y:((List TV)×Unit)×Unit):Alt:=.one (.exit 0) (xh1.b (v3,y.1.1,()))
def tb(lf:Nat):List (FuncId×Entry):=[]
def acV(lf:Nat):List (Nat×(St→Option LTE)):=[(0,sumE sh0 fun(p:(List (Int×(Int×(TV×Unit))))×Int×Int×(List (Int×(Int×(TV×Unit))))×(List TV)×Unit)=>⟨((List TV)×Unit)×Unit,l0 lf p.1 p.2.1 p.2.2.2.1 (lf+40) p.2.2.1 p.2.2.2.2.1,o0 p.1 p.2.1 p.2.2.2.1⟩),
 (1,sumE sh1 fun(p:Int×(List (Int×(Int×(TV×Unit))))×Int×Int×(List (Int×(Int×(TV×Unit))))×Int×Int×Bool×ByteArray×ByteArray×Bool×ByteArray×ByteArray×(List TV)×Unit)=>⟨((List TV)×Unit)×Unit,l1 lf p.2.1 p.2.2.1 p.2.2.2.1 p.2.2.2.2.1 p.2.2.2.2.2.1 p.2.2.2.2.2.2.1 p.2.2.2.2.2.2.2.1 (e8 p).1 (e8 p).2.1 (e8 p).2.2.1 (e8 p).2.2.2.1 (e8 p).2.2.2.2.1 (lf+40) p.1 (e8 p).2.2.2.2.2.1,o1 p.2.1 p.2.2.1 p.2.2.2.1 p.2.2.2.2.1 p.2.2.2.2.2.1 p.2.2.2.2.2.2.1 p.2.2.2.2.2.2.2.1 (e8 p).1 (e8 p).2.1 (e8 p).2.2.1 (e8 p).2.2.2.1 (e8 p).2.2.2.2.1⟩)]
def ls(lf:Nat):List (Nat×FuncId×Sums):=[(12,134,sumsL (acV lf))]
def it1{ρ:Type}(lf n:Nat)(st:St)(k:KE ρ):Option ρ:=itG anns (ls lf) (tb lf) lf 12 134 1 5 (sumsL (acV lf)) n st k
theorem t1{ρ:Type}(lf n:Nat)(v0:Int)(v1:List (Int×(Int×(TV×Unit))))(v2 v3:Int)(v4:List (Int×(Int×(TV×Unit))))(v5 v6:Int)(v7:Bool)(v8 v9:ByteArray)(v10:Bool)(v11 v12:ByteArray)(v13:List TV)(k:KE ρ):it1 lf (n+1) (S1 (v0,v1,v2,v3,v4,v5,v6,v7,v8,v9,v10,v11,v12,v13,())) k=r1 lf v1 v2 v3 v4 v5 v6 v7 v8 v9 v10 v11 v12 v0 v13 (fun x0 x1=>it1 lf n (S1 (x0,v1,v2,v3,v4,v5,v6,v7,v8,v9,v10,v11,v12,x1,())) k) (fun w0=>k (.exit 2) (xh0.b (v1,v2,v3,v4,v5,v6,v7,v8,v9,v10,v11,v12,w0,()))):=by kernel_rfl
theorem u1{ρ:Type}(lf:Nat)(v1:List (Int×(Int×(TV×Unit))))(v2 v3:Int)(v4:List (Int×(Int×(TV×Unit))))(v5 v6:Int)(v7:Bool)(v8 v9:ByteArray)(v10:Bool)(v11 v12:ByteArray)(k:KE ρ):∀ (n:Nat) (v0:Int) (v13:List TV),it1 lf n (S1 (v0,v1,v2,v3,v4,v5,v6,v7,v8,v9,v10,v11,v12,v13,())) k=bd (l1 lf v1 v2 v3 v4 v5 v6 v7 v8 v9 v10 v11 v12 n v0 v13) fun y=>altK k (o1 v1 v2 v3 v4 v5 v6 v7 v8 v9 v10 v11 v12 y)
 | 0,_,_=>by rw[l1,au];rfl
 | n+1,v0,v13=>by
  rw[t1];simp only[l1,r1,u1 lf v1 v2 v3 v4 v5 v6 v7 v8 v9 v10 v11 v12 k n,dA,dw,aF,au,br_t,br_f,o1,altK]
def it0{ρ:Type}(lf n:Nat)(st:St)(k:KE ρ):Option ρ:=itG anns (ls lf) (tb lf) lf 12 134 0 3 (sumsL (acV lf)) n st k
theorem t0{ρ:Type}(lf n:Nat)(v0:List (Int×(Int×(TV×Unit))))(v1 v2:Int)(v3:List (Int×(Int×(TV×Unit))))(v4:List TV)(k:KE ρ):it0 lf (n+1) (S0 (v0,v1,v2,v3,v4,())) k=r0 lf v0 v1 v3 v2 v4 (fun x0 x1=>it0 lf n (S0 (v0,v1,x0,v3,x1,())) k) (fun w0=>k (.exit 0) (xh1.b (v3,w0,()))):=by kernel_rfl
theorem u0{ρ:Type}(lf:Nat)(v0:List (Int×(Int×(TV×Unit))))(v1:Int)(v3:List (Int×(Int×(TV×Unit))))(k:KE ρ):∀ (n:Nat) (v2:Int) (v4:List TV),it0 lf n (S0 (v0,v1,v2,v3,v4,())) k=bd (l0 lf v0 v1 v3 n v2 v4) fun y=>altK k (o0 v0 v1 v3 y)
 | 0,_,_=>by rw[l0,au];rfl
 | n+1,v2,v4=>by
  rw[t0];simp only[l0,r0,u0 lf v0 v1 v3 k n,dA,dw,aF,au,br_t,br_f,o0,altK]
theorem sl(lf:Nat):SL anns (ls lf) (tb lf) lf (ls lf):=slC (laC (fun _=>by kernel_rfl) (fun _ (x:(List (Int×(Int×(TV×Unit))))×Int×Int×(List (Int×(Int×(TV×Unit))))×(List TV)×Unit) k=>bg (u0 lf x.1 x.2.1 x.2.2.2.1 k (lf+40) x.2.2.1 x.2.2.2.2.1)) (laC (fun _=>by kernel_rfl) (fun _ (x:Int×(List (Int×(Int×(TV×Unit))))×Int×Int×(List (Int×(Int×(TV×Unit))))×Int×Int×Bool×ByteArray×ByteArray×Bool×ByteArray×ByteArray×(List TV)×Unit) k=>bg (u1 lf x.2.1 x.2.2.1 x.2.2.2.1 x.2.2.2.2.1 x.2.2.2.2.2.1 x.2.2.2.2.2.2.1 x.2.2.2.2.2.2.2.1 (e8 x).1 (e8 x).2.1 (e8 x).2.2.1 (e8 x).2.2.2.1 (e8 x).2.2.2.2.1 k (lf+40) x.1 (e8 x).2.2.2.2.2.1)) laN)) slN
def f(lf:Nat)(a0:List (Int×(Int×(TV×Unit)))):Option ((List TV)×Unit) :=
 bd (l0 lf a0 ((a0.length:Nat):Int) a0 (lf+40) 0 []) fun z4 =>
 some (z4.1.1,())
def spk(lf:Nat):Spk:=.fresh [(.sl (.pair (.int .i64) (.pair (.int .i64) (.pair yV .unit))))] yV 29 fun x=>f lf x.1
theorem ok(lf:Nat):SpkOK Proofs.Tryz.prog (spk lf) 66:=okF tN' (aoC (aoC aoN)) (sl lf) rfl fun x=>by kernel_rfl
end fC
end
end Go.Q
namespace Go.Q
open Go.IntKind (i64)
open Go Go.RowKit
open Go.Rx (br bd sIdx sCat sCut iQuo iRem)
noncomputable section
namespace iL
def anns:FuncId→FA:=annsL [(68,⟨annOf [(0,⟨kx 50 [3,8,9,10],[⟨.tmp 3,(.pair (.int .i64) (.pair (.int .i64) (.pair yV .unit))),98⟩],[]⟩,⟨kx 50 [2,3],[⟨.tmp 3,(.pair (.int .i64) (.pair (.int .i64) (.pair yV .unit))),98⟩],[]⟩)],none,[]⟩)]
def r0{ρ:Type}(lf:Nat)(v0:List TV)(v1:Int)(v2:Int)(v3:List (Int×(Int×(TV×Unit))))(K:Int→(List (Int×(Int×(TV×Unit))))→Option ρ)(E0:(List (Int×(Int×(TV×Unit))))→Option ρ):Option ρ :=
 br (decide (v2 < v1)) (
 bd (idxL v0 v2) fun y1 =>
 br (decide (((v3.length:Nat):Int) > 0)) (
 bd (idxB v3.length (i64.wrap (((v3.length:Nat):Int)-1))) fun j2 =>
 bd (v3[j2]?) fun y3 =>
 bd (some (((y3.2.2.1.1.1==y1.1.1)&&((y3.2.2.1.1.2.1==y1.1.2.1)&&((y3.2.2.1.1.2.2.1==y1.1.2.2.1)&&true)))&&(((y3.2.2.1.2.1.1==y1.2.1.1)&&((y3.2.2.1.2.1.2.1==y1.2.1.2.1)&&((y3.2.2.1.2.1.2.2.1==y1.2.1.2.2.1)&&true)))&&true))) fun r4 =>
 br r4 (
 bd (adA v3.length (i64.wrap (((v3.length:Nat):Int)-1)) ((v3.length:Nat):Int) ((v3.length:Nat):Int)) fun p5 =>
 bd (idxB p5.2 0) fun j6 =>
 bd (upE v3 (p5.1+j6) fun y8=>some (y8.1,(i64.wrap (v2+1)),y8.2.2.1,())) fun q7 =>
 K (i64.wrap (v2+1)) q7) (
 bd (apL true 96 v3 [(v2,(i64.wrap (v2+1)),y1,())]) fun q9 =>
 K (i64.wrap (v2+1)) q9)) (
 bd (apL true 96 v3 [(v2,(i64.wrap (v2+1)),y1,())]) fun q10 =>
 K (i64.wrap (v2+1)) q10)) (
 E0 v3)
def l0(lf:Nat)(v0:List TV)(v1:Int):Nat→Int→(List (Int×(Int×(TV×Unit))))→Option (((List (Int×(Int×(TV×Unit))))×Unit)×Unit)
 | 0,_,_=>none
 | n+1,v2,v3=>r0 lf v0 v1 v2 v3 (l0 lf v0 v1 n) (fun w0=>some ((w0,()),()))
def sh0:ShS:=⟨[.a 3,.s (.row 0),.a 4,.s (.sl yV),.s (.int .i64),.s (.int .i64),.a 39],[.row (.pair (.int .i64) (.pair (.int .i64) (.pair yV .unit))) 98 false]⟩
def S0(p:(List TV)×Int×Int×(List (Int×(Int×(TV×Unit))))×Unit):St:=sh0.b p
def xh0:ShS:=⟨[.a 3,.s (.row 0),.a 46],[.row (.pair (.int .i64) (.pair (.int .i64) (.pair yV .unit))) 98 false]⟩
def o0(v0:List TV)(v1:Int)(y:((List (Int×(Int×(TV×Unit))))×Unit)×Unit):Alt:=.one (.exit 0) (xh0.b (y.1.1,()))
def tb(lf:Nat):List (FuncId×Entry):=[]
def aiq(lf:Nat):List (Nat×(St→Option LTE)):=[(0,sumE sh0 fun(p:(List TV)×Int×Int×(List (Int×(Int×(TV×Unit))))×Unit)=>⟨((List (Int×(Int×(TV×Unit))))×Unit)×Unit,l0 lf p.1 p.2.1 (lf+40) p.2.2.1 p.2.2.2.1,o0 p.1 p.2.1⟩)]
def ls(lf:Nat):List (Nat×FuncId×Sums):=[(13,68,sumsL (aiq lf))]
def it0{ρ:Type}(lf n:Nat)(st:St)(k:KE ρ):Option ρ:=itG anns (ls lf) (tb lf) lf 13 68 0 0 (sumsL (aiq lf)) n st k
theorem t0{ρ:Type}(lf n:Nat)(v0:List TV)(v1 v2:Int)(v3:List (Int×(Int×(TV×Unit))))(k:KE ρ):it0 lf (n+1) (S0 (v0,v1,v2,v3,())) k=r0 lf v0 v1 v2 v3 (fun x0 x1=>it0 lf n (S0 (v0,v1,x0,x1,())) k) (fun w0=>k (.exit 0) (xh0.b (w0,()))):=by kernel_rfl
theorem u0{ρ:Type}(lf:Nat)(v0:List TV)(v1:Int)(k:KE ρ):∀ (n:Nat) (v2:Int) (v3:List (Int×(Int×(TV×Unit)))),it0 lf n (S0 (v0,v1,v2,v3,())) k=bd (l0 lf v0 v1 n v2 v3) fun y=>altK k (o0 v0 v1 y)
 | 0,_,_=>by rw[l0,au];rfl
 | n+1,v2,v3=>by
  rw[t0];simp only[l0,r0,u0 lf v0 v1 k n,dA,dw,aF,au,br_t,br_f,o0,altK]
theorem sl(lf:Nat):SL anns (ls lf) (tb lf) lf (ls lf):=slC (laC (fun _=>by kernel_rfl) (fun _ (x:(List TV)×Int×Int×(List (Int×(Int×(TV×Unit))))×Unit) k=>bg (u0 lf x.1 x.2.1 k (lf+40) x.2.2.1 x.2.2.2.1)) laN) slN
def f(lf:Nat)(a0:List TV):Option ((List (Int×(Int×(TV×Unit))))×Unit) :=
 bd (l0 lf a0 ((a0.length:Nat):Int) (lf+40) 0 []) fun z11 =>
 some (z11.1.1,())
def E(lf:Nat):Entry:=⟨[(.sl yV)],[(.sl (.pair (.int .i64) (.pair (.int .i64) (.pair yV .unit))))],fun x=>f lf x.1⟩
theorem ok(lf:Nat):Ok 68 (E lf):=okL tN (aoC aoN) (sl lf) fun x=>by kernel_rfl
end iL
end
end Go.Q
