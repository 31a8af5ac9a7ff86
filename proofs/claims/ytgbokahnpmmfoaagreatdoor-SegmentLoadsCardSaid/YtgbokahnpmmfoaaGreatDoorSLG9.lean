import Derived.Test.YtgbokahnpmmfoaaGreatDoorProg
import Derived.KernelRfl
import Derived.Test.YtgbokahnpmmfoaaGreatDoorSLE3
import Derived.Test.YtgbokahnpmmfoaaGreatDoorSLG3
import Derived.Test.YtgbokahnpmmfoaaGreatDoorSLG5
import Derived.Test.YtgbokahnpmmfoaaGreatDoorSLG6
set_option linter.unusedVariables false
set_option linter.unusedSimpArgs false
set_option linter.unusedSectionVars false
set_option maxRecDepth 100000
namespace Go.Q
open Go.IntKind (i64)
open Go Go.RowKit
open Go.Rx (br bd sIdx sCat sCut iQuo iRem)
noncomputable section
namespace fB
def f(lf:Nat)(a0:TV):Option (Bool×Unit) :=
 some (a0.1.1,())
def E(lf:Nat):Entry:=⟨[yV],[.bool],fun x=>f lf x.1⟩
theorem ok(lf:Nat):Ok 67 (E lf):=okT (an:=(annsL [])) (lf:=lf) tN aoN fun x=>by kernel_rfl
end fB
namespace jh
def f(lf:Nat)(a0:TV):Option (Int×Unit) :=
 bd (dV.f lf a0) fun r1 =>
 br (r1.1 != 0) (
 some (r1.1,())) (
 bd (fB.f lf a0) fun r2 =>
 br r2.1 (
 some (16,())) (
 some (0,())))
def E(lf:Nat):Entry:=⟨[yV],[(.int .i64)],fun x=>f lf x.1⟩
theorem ok(lf:Nat):Ok 75 (E lf):=okT (an:=(annsL [])) (lf:=lf) (tC (fB.ok lf) (tC (dV.ok lf) tN)) aoN fun x=>by kernel_rfl
end jh
namespace dN
def anns:FuncId→FA:=annsL [(26,⟨annOf [(0,⟨kx 69 [0,1,5,20,21,22],[],[]⟩,⟨kx 69 [1,4,5],[],[]⟩)],none,[]⟩)]
def r0{ρ:Type}(lf:Nat)(v0:List (Int×(Int×(TV×Unit))))(v1:Int)(v3:List (Int×(Int×(TV×Unit))))(v4:Int)(v2 v5:Int)(K:Int→Int→Option ρ)(E0:Int→Int→Option ρ)(E1:Int→Option ρ):Option ρ :=
 br (decide (v5 < v4)) (
 bd (idxL v3 v5) fun y1 =>
 br (y1.1 != v2) (
 E0 20 v2) (
 br (decide (y1.1≥y1.2.1)) (
 E0 15 v2) (
 br (decide (y1.2.1 > v1)) (
 E0 15 v2) (
 bd (jh.f lf y1.2.2.1) fun r2 =>
 br (r2.1 != 0) (
 E0 r2.1 v2) (
 br (decide (v5 > 0)) (
 bd (idxL v0 (i64.wrap (v5-1))) fun y3 =>
 bd (some (((y1.2.2.1.1.1==y3.2.2.1.1.1)&&((y1.2.2.1.1.2.1==y3.2.2.1.1.2.1)&&((y1.2.2.1.1.2.2.1==y3.2.2.1.1.2.2.1)&&true)))&&(((y1.2.2.1.2.1.1==y3.2.2.1.2.1.1)&&((y1.2.2.1.2.1.2.1==y3.2.2.1.2.1.2.1)&&((y1.2.2.1.2.1.2.2.1==y3.2.2.1.2.1.2.2.1)&&true)))&&true))) fun r4 =>
 br r4 (
 E0 7 v2) (
 K y1.2.1 (i64.wrap (v5+1)))) (
 K y1.2.1 (i64.wrap (v5+1)))))))) (
 E1 v2)
def l0(lf:Nat)(v0:List (Int×(Int×(TV×Unit))))(v1:Int)(v3:List (Int×(Int×(TV×Unit))))(v4:Int):Nat→Int→Int→Option (Bool×(Int×Int×Unit)×(Int×Unit)×Unit)
 | 0,_,_=>none
 | n+1,v2,v5=>r0 lf v0 v1 v3 v4 v2 v5 (l0 lf v0 v1 v3 v4 n) (fun w0 w1=>some (true,(w0,w1,()),((0,()),()))) (fun w0=>some (false,(0,0,()),((w0,()),())))
def sh0:ShS:=⟨[.s (.sl (.pair (.int .i64) (.pair (.int .i64) (.pair yV .unit)))),.s (.int .i64),.a 3,.s (.int .i64),.a 14,.s (.sl (.pair (.int .i64) (.pair (.int .i64) (.pair yV .unit)))),.s (.int .i64),.s (.int .i64),.a 46],[]⟩
def S0(p:(List (Int×(Int×(TV×Unit))))×Int×Int×(List (Int×(Int×(TV×Unit))))×Int×Int×Unit):St:=sh0.b p
def xh0:ShS:=⟨[.a 1,.s (.int .i64),.a 2,.s (.int .i64),.s (.int .i64),.a 63],[]⟩
def xh1:ShS:=⟨[.a 1,.s (.int .i64),.a 3,.s (.int .i64),.a 63],[]⟩
def o0(v0:List (Int×(Int×(TV×Unit))))(v1:Int)(v3:List (Int×(Int×(TV×Unit))))(v4:Int)(y:Bool×(Int×Int×Unit)×(Int×Unit)×Unit):Alt:=.two y.1 (.one .ret (xh0.b (v1,y.2.1.1,y.2.1.2.1,()))) (.one (.exit 1) (xh1.b (v1,y.2.2.1.1,())))
def tb(lf:Nat):List (FuncId×Entry):=[(75,jh.E lf)]
def aik(lf:Nat):List (Nat×(St→Option LTE)):=[(0,sumE sh0 fun(p:(List (Int×(Int×(TV×Unit))))×Int×Int×(List (Int×(Int×(TV×Unit))))×Int×Int×Unit)=>⟨Bool×(Int×Int×Unit)×(Int×Unit)×Unit,l0 lf p.1 p.2.1 p.2.2.2.1 p.2.2.2.2.1 (lf+40) p.2.2.1 p.2.2.2.2.2.1,o0 p.1 p.2.1 p.2.2.2.1 p.2.2.2.2.1⟩)]
def ls(lf:Nat):List (Nat×FuncId×Sums):=[(13,26,sumsL (aik lf))]
def it0{ρ:Type}(lf n:Nat)(st:St)(k:KE ρ):Option ρ:=itG anns (ls lf) (tb lf) lf 13 26 0 0 (sumsL (aik lf)) n st k
theorem t0{ρ:Type}(lf n:Nat)(v0:List (Int×(Int×(TV×Unit))))(v1 v2:Int)(v3:List (Int×(Int×(TV×Unit))))(v4 v5:Int)(k:KE ρ):it0 lf (n+1) (S0 (v0,v1,v2,v3,v4,v5,())) k=r0 lf v0 v1 v3 v4 v2 v5 (fun x0 x1=>it0 lf n (S0 (v0,v1,x0,v3,v4,x1,())) k) (fun w0 w1=>k .ret (xh0.b (v1,w0,w1,()))) (fun w0=>k (.exit 1) (xh1.b (v1,w0,()))):=by kernel_rfl
theorem u0{ρ:Type}(lf:Nat)(v0:List (Int×(Int×(TV×Unit))))(v1:Int)(v3:List (Int×(Int×(TV×Unit))))(v4:Int)(k:KE ρ):∀ (n:Nat) (v2 v5:Int),it0 lf n (S0 (v0,v1,v2,v3,v4,v5,())) k=bd (l0 lf v0 v1 v3 v4 n v2 v5) fun y=>altK k (o0 v0 v1 v3 v4 y)
 | 0,_,_=>by rw[l0,au];rfl
 | n+1,v2,v5=>by
  rw[t0];simp only[l0,r0,u0 lf v0 v1 v3 v4 k n,dA,dw,aF,au,br_t,br_f,o0,altK]
theorem sl(lf:Nat):SL anns (ls lf) (tb lf) lf (ls lf):=slC (laC (fun _=>by kernel_rfl) (fun _ (x:(List (Int×(Int×(TV×Unit))))×Int×Int×(List (Int×(Int×(TV×Unit))))×Int×Int×Unit) k=>bg (u0 lf x.1 x.2.1 x.2.2.2.1 x.2.2.2.2.1 k (lf+40) x.2.2.1 x.2.2.2.2.2.1)) laN) slN
def f(lf:Nat)(a0:List (Int×(Int×(TV×Unit))))(a1:Int):Option (Int×Unit) :=
 br (decide (a1 < 1)) (
 some (2,())) (
 br (decide (a1 > 32)) (
 some (2,())) (
 br (((a0.length:Nat):Int)==0) (
 some (20,())) (
 bd (l0 lf a0 a1 a0 ((a0.length:Nat):Int) (lf+40) 0 0) fun z5 =>
 br z5.1 (
 some (z5.2.1.1,())) (
 br (z5.2.2.1.1 != a1) (
 some (20,())) (
 some (0,()))))))
def E(lf:Nat):Entry:=⟨[(.sl (.pair (.int .i64) (.pair (.int .i64) (.pair yV .unit)))),(.int .i64)],[(.int .i64)],fun x=>f lf x.1 x.2.1⟩
theorem ok(lf:Nat):Ok 26 (E lf):=okL (tC (jh.ok lf) tN) (aoC aoN) (sl lf) fun x=>by kernel_rfl
end dN
namespace aV
def anns:FuncId→FA:=annsL [(60,⟨annOf [(0,⟨kx 29 [17,18,19],[],[]⟩,⟨kx 29 [6],[],[]⟩)],none,[]⟩)]
def r0{ρ:Type}(lf:Nat)(v0:List TV)(v1:Int)(v2:Int)(K:Int→Option ρ)(E0:Int→Option ρ)(E1:Option ρ):Option ρ :=
 br (decide (v2 < v1)) (
 bd (idxL v0 v2) fun y2 =>
 bd (dV.f lf y2) fun r3 =>
 br (r3.1 != 0) (
 E0 r3.1) (
 K (i64.wrap (v2+1)))) (
 E1)
def l0(lf:Nat)(v0:List TV)(v1:Int):Nat→Int→Option (Bool×(Int×Unit)×(Unit)×Unit)
 | 0,_=>none
 | n+1,v2=>r0 lf v0 v1 v2 (l0 lf v0 v1 n) (fun w0=>some (true,(w0,()),((()),()))) (some (false,(0,()),((()),())))
def sh0:ShS:=⟨[.a 17,.s (.sl yV),.s (.int .i64),.s (.int .i64),.a 9],[]⟩
def S0(p:(List TV)×Int×Int×Unit):St:=sh0.b p
def xh0:ShS:=⟨[.a 6,.s (.int .i64),.a 22],[]⟩
def xh1:ShS:=⟨[.a 29],[]⟩
def o0(v0:List TV)(v1:Int)(y:Bool×(Int×Unit)×(Unit)×Unit):Alt:=.two y.1 (.one .ret (xh0.b (y.2.1.1,()))) (.one (.exit 0) (xh1.b (())))
def tb(lf:Nat):List (FuncId×Entry):=[(26,dN.E lf),(118,dV.E lf)]
def aio(lf:Nat):List (Nat×(St→Option LTE)):=[(0,sumE sh0 fun(p:(List TV)×Int×Int×Unit)=>⟨Bool×(Int×Unit)×(Unit)×Unit,l0 lf p.1 p.2.1 (lf+40) p.2.2.1,o0 p.1 p.2.1⟩)]
def ls(lf:Nat):List (Nat×FuncId×Sums):=[(13,60,sumsL (aio lf))]
def it0{ρ:Type}(lf n:Nat)(st:St)(k:KE ρ):Option ρ:=itG anns (ls lf) (tb lf) lf 13 60 0 0 (sumsL (aio lf)) n st k
theorem t0{ρ:Type}(lf n:Nat)(v0:List TV)(v1 v2:Int)(k:KE ρ):it0 lf (n+1) (S0 (v0,v1,v2,())) k=r0 lf v0 v1 v2 (fun x0=>it0 lf n (S0 (v0,v1,x0,())) k) (fun w0=>k .ret (xh0.b (w0,()))) (k (.exit 0) (xh1.b (()))):=by kernel_rfl
theorem u0{ρ:Type}(lf:Nat)(v0:List TV)(v1:Int)(k:KE ρ):∀ (n:Nat) (v2:Int),it0 lf n (S0 (v0,v1,v2,())) k=bd (l0 lf v0 v1 n v2) fun y=>altK k (o0 v0 v1 y)
 | 0,_=>by rw[l0,au];rfl
 | n+1,v2=>by
  rw[t0];simp only[l0,r0,u0 lf v0 v1 k n,dA,dw,aF,au,br_t,br_f,o0,altK]
theorem sl(lf:Nat):SL anns (ls lf) (tb lf) lf (ls lf):=slC (laC (fun _=>by kernel_rfl) (fun _ (x:(List TV)×Int×Int×Unit) k=>bg (u0 lf x.1 x.2.1 k (lf+40) x.2.2.1)) laN) slN
def f(lf:Nat)(a0:List (Int×(Int×(TV×Unit))))(a1:Int)(a2:List TV):Option (Int×Unit) :=
 bd (dN.f lf a0 a1) fun r1 =>
 br (r1.1 != 0) (
 some (r1.1,())) (
 bd (l0 lf a2 ((a2.length:Nat):Int) (lf+40) 0) fun z4 =>
 br z4.1 (
 some (z4.2.1.1,())) (
 some (0,())))
def E(lf:Nat):Entry:=⟨[(.sl (.pair (.int .i64) (.pair (.int .i64) (.pair yV .unit)))),(.int .i64),(.sl yV)],[(.int .i64)],fun x=>f lf x.1 x.2.1 x.2.2.1⟩
theorem ok(lf:Nat):Ok 60 (E lf):=okL (tC (dN.ok lf) (tC (dV.ok lf) tN)) (aoC aoN) (sl lf) fun x=>by kernel_rfl
end aV
namespace iF
def f(lf:Nat)(a0:Int):Option (TV×Unit) :=
 bd (gJ.f lf a0) fun r1 =>
 bd (ve.f lf r1.1) fun r2 =>
 bd (dY.f lf r2.1 r2.2.1) fun r3 =>
 some (r3.1,())
def E(lf:Nat):Entry:=⟨[(.int .i64)],[yV],fun x=>f lf x.1⟩
theorem ok(lf:Nat):Ok 71 (E lf):=okT (an:=(annsL [])) (lf:=lf) (tC (dY.ok lf) (tC (gJ.ok lf) (tC (ve.ok lf) tN))) aoN fun x=>by kernel_rfl
end iF
namespace iJ
def f(lf:Nat)  : Option (TV×Unit) :=
 bd (iF.f lf 0) fun r1 =>
 bd (iF.f lf 1) fun r2 =>
 bd (lY.f lf r1.1 r2.1) fun r3 =>
 bd (dY.f lf r3.1 r3.2.1) fun r4 =>
 some (r4.1,())
def E(lf:Nat):Entry:=⟨[],[yV],fun x=>f lf⟩
theorem ok(lf:Nat):Ok 61 (E lf):=okT (an:=(annsL [])) (lf:=lf) (tC (dY.ok lf) (tC (lY.ok lf) (tC (iF.ok lf) tN))) aoN fun x=>by kernel_rfl
end iJ
namespace bM
def f(lf:Nat)(a0:Bool)(a1:Int):Option (Bool×Unit) :=
 some (a0,())
def E(lf:Nat):Entry:=⟨[.bool,(.int .i64)],[.bool],fun x=>f lf x.1 x.2.1⟩
theorem ok(lf:Nat):Ok 120 (E lf):=okT (an:=(annsL [])) (lf:=lf) tN aoN fun x=>by kernel_rfl
end bM
end
end Go.Q
namespace Go.Q
open Go.IntKind (i64)
open Go Go.RowKit
open Go.Rx (br bd sIdx sCat sCut iQuo iRem)
noncomputable section
namespace dL
def anns:FuncId→FA:=annsL [(13,⟨annOf [(0,⟨kx 34 [9],[],[]⟩,⟨[],[],[]⟩)],none,[]⟩),(119,⟨annOf [(0,⟨kx 24 [2,3],[],[]⟩,⟨[],[],[]⟩)],none,[]⟩),(134,⟨annOf [(0,⟨kx 27 [0,6,7,8],[],[]⟩,⟨kx 27 [],[],[]⟩),(1,⟨kx 27 [0,4,5,6,7,8],[],[]⟩,⟨kx 27 [0,6,7,8],[],[]⟩)],none,[]⟩)]
def r1{ρ:Type}(lf:Nat)(v1:List (Int×(Int×(TV×Unit))))(v2 v3:Int)(v4:Bool)(v5 v6:ByteArray)(v7:Bool)(v8 v9:ByteArray)(v10:Bool)(v11 v12:ByteArray)(v13:Bool)(v14 v15:ByteArray)(v16:List TV)(v23:List (Int×(Int×(TV×Unit))))(v24:Bool)(v25 v26:ByteArray)(v27:Bool)(v28 v29:ByteArray)(v30:List (Int×(Int×(TV×Unit))))(v31 v32:Int)(v33:Bool)(v34 v35:ByteArray)(v36:Bool)(v37 v38:ByteArray)(v0:Int)(v17:Bool)(v18 v19:ByteArray)(v20:Bool)(v21 v22:ByteArray)(K:Int→Bool→ByteArray→ByteArray→Bool→ByteArray→ByteArray→Option ρ)(E0:Bool→ByteArray→ByteArray→Bool→ByteArray→ByteArray→Option ρ):Option ρ :=
 br (decide (v0 < v32)) (
 bd (gJ.f lf v0) fun r4 =>
 bd (gX.f lf ((v24,v25,v26,()),(v27,v28,v29,()),()) r4.1) fun r5 =>
 bd (bM.f lf r5.1 r5.2.1) fun r6 =>
 br r6.1 (
 bd (iM.f lf ((v17,v18,v19,()),(v20,v21,v22,()),()) ((v33,v34,v35,()),(v36,v37,v38,()),())) fun r7 =>
 bd (dY.f lf r7.1 r7.2.1) fun r8 =>
 K (i64.wrap (v0+1)) r8.1.1.1 r8.1.1.2.1 r8.1.1.2.2.1 r8.1.2.1.1 r8.1.2.1.2.1 r8.1.2.1.2.2.1) (
 K (i64.wrap (v0+1)) v17 v18 v19 v20 v21 v22)) (
 E0 v17 v18 v19 v20 v21 v22)
def l1(lf:Nat)(v1:List (Int×(Int×(TV×Unit))))(v2 v3:Int)(v4:Bool)(v5 v6:ByteArray)(v7:Bool)(v8 v9:ByteArray)(v10:Bool)(v11 v12:ByteArray)(v13:Bool)(v14 v15:ByteArray)(v16:List TV)(v23:List (Int×(Int×(TV×Unit))))(v24:Bool)(v25 v26:ByteArray)(v27:Bool)(v28 v29:ByteArray)(v30:List (Int×(Int×(TV×Unit))))(v31 v32:Int)(v33:Bool)(v34 v35:ByteArray)(v36:Bool)(v37 v38:ByteArray):Nat→Int→Bool→ByteArray→ByteArray→Bool→ByteArray→ByteArray→Option ((Bool×ByteArray×ByteArray×Bool×ByteArray×ByteArray×Unit)×Unit)
 | 0,_,_,_,_,_,_,_=>none
 | n+1,v0,v17,v18,v19,v20,v21,v22=>r1 lf v1 v2 v3 v4 v5 v6 v7 v8 v9 v10 v11 v12 v13 v14 v15 v16 v23 v24 v25 v26 v27 v28 v29 v30 v31 v32 v33 v34 v35 v36 v37 v38 v0 v17 v18 v19 v20 v21 v22 (l1 lf v1 v2 v3 v4 v5 v6 v7 v8 v9 v10 v11 v12 v13 v14 v15 v16 v23 v24 v25 v26 v27 v28 v29 v30 v31 v32 v33 v34 v35 v36 v37 v38 n) (fun w0 w1 w2 w3 w4 w5=>some ((w0,w1,w2,w3,w4,w5,()),()))
def sh1:ShS:=⟨[.s (.yld 9),.a 3,.s (.ptr 10 0),.s (.int .i64),.s (.sl (.pair (.int .i64) (.pair (.int .i64) (.pair yV .unit)))),.s (.int .i64),.s (.int .i64),.a 18],[.cells [.s .bool,.s .str,.s .str,.s .bool,.s .str,.s .str] 29,.cells [.s .bool,.s .str,.s .str,.s .bool,.s .str,.s .str] 29,.row yV 29 false,.cells [.s .bool,.s .str,.s .str,.s .bool,.s .str,.s .str] 29,.cells [.s (.sl (.pair (.int .i64) (.pair (.int .i64) (.pair yV .unit))))] 22,.cells [.s .bool,.s .str,.s .str,.s .bool,.s .str,.s .str] 29,.rnd [.a 9,.s (.ptr 3 0),.a 24] 13 0 .ready none,.cells [.s (.yld 6)] 150,.cells [.s (.sl (.pair (.int .i64) (.pair (.int .i64) (.pair yV .unit))))] 22,.rnd [.a 2,.s (.ptr 5 0),.s (.ptr 7 0),.a 20] 119 0 .ready none,.cells [.s (.int .i64),.s (.int .i64),.s .bool,.s .str,.s .str,.s .bool,.s .str,.s .str] 98]⟩
def S1(p:Int×(List (Int×(Int×(TV×Unit))))×Int×Int×Bool×ByteArray×ByteArray×Bool×ByteArray×ByteArray×Bool×ByteArray×ByteArray×Bool×ByteArray×ByteArray×(List TV)×Bool×ByteArray×ByteArray×Bool×ByteArray×ByteArray×(List (Int×(Int×(TV×Unit))))×Bool×ByteArray×ByteArray×Bool×ByteArray×ByteArray×(List (Int×(Int×(TV×Unit))))×Int×Int×Bool×ByteArray×ByteArray×Bool×ByteArray×ByteArray×Unit):St:=sh1.b p
def xh0:ShS:=⟨[.s (.yld 9),.a 5,.s (.sl (.pair (.int .i64) (.pair (.int .i64) (.pair yV .unit)))),.s (.int .i64),.s (.int .i64),.a 18],[.cells [.s .bool,.s .str,.s .str,.s .bool,.s .str,.s .str] 29,.cells [.s .bool,.s .str,.s .str,.s .bool,.s .str,.s .str] 29,.row yV 29 false,.cells [.s .bool,.s .str,.s .str,.s .bool,.s .str,.s .str] 29,.cells [.s (.sl (.pair (.int .i64) (.pair (.int .i64) (.pair yV .unit))))] 22,.cells [.s .bool,.s .str,.s .str,.s .bool,.s .str,.s .str] 29,.rnd [.a 9,.s (.ptr 3 0),.a 24] 13 0 .ready none,.cells [.s (.yld 6)] 150,.cells [.s (.sl (.pair (.int .i64) (.pair (.int .i64) (.pair yV .unit))))] 22,.rnd [.a 2,.s (.ptr 5 0),.s (.ptr 7 0),.a 20] 119 0 .ready none,.cells [.s (.int .i64),.s (.int .i64),.s .bool,.s .str,.s .str,.s .bool,.s .str,.s .str] 98]⟩
def o1(v1:List (Int×(Int×(TV×Unit))))(v2 v3:Int)(v4:Bool)(v5 v6:ByteArray)(v7:Bool)(v8 v9:ByteArray)(v10:Bool)(v11 v12:ByteArray)(v13:Bool)(v14 v15:ByteArray)(v16:List TV)(v23:List (Int×(Int×(TV×Unit))))(v24:Bool)(v25 v26:ByteArray)(v27:Bool)(v28 v29:ByteArray)(v30:List (Int×(Int×(TV×Unit))))(v31 v32:Int)(v33:Bool)(v34 v35:ByteArray)(v36:Bool)(v37 v38:ByteArray)(y:(Bool×ByteArray×ByteArray×Bool×ByteArray×ByteArray×Unit)×Unit):Alt:=.one (.exit 2) (xh0.b (v1,v2,v3,v4,v5,v6,v7,v8,v9,v10,v11,v12,v13,v14,v15,v16,y.1.1,y.1.2.1,y.1.2.2.1,y.1.2.2.2.1,y.1.2.2.2.2.1,y.1.2.2.2.2.2.1,v23,v24,v25,v26,v27,v28,v29,v30,v31,v32,v33,v34,v35,v36,v37,v38,()))
def r0{ρ:Type}(lf:Nat)(v0:List (Int×(Int×(TV×Unit))))(v1:Int)(v3:Bool)(v4 v5:ByteArray)(v6:Bool)(v7 v8:ByteArray)(v9:Bool)(v10 v11:ByteArray)(v12:Bool)(v13 v14:ByteArray)(v15:List TV)(v22:List (Int×(Int×(TV×Unit))))(v23:Bool)(v24 v25:ByteArray)(v26:Bool)(v27 v28:ByteArray)(v29:List (Int×(Int×(TV×Unit))))(v2:Int)(v16:Bool)(v17 v18:ByteArray)(v19:Bool)(v20 v21:ByteArray)(K:Int→Bool→ByteArray→ByteArray→Bool→ByteArray→ByteArray→Option ρ)(E0:Bool→ByteArray→ByteArray→Bool→ByteArray→ByteArray→Option ρ):Option ρ :=
 br (decide (v2 < v1)) (
 bd (idxL v0 v2) fun y3 =>
 bd (l1 lf v0 v1 v2 v3 v4 v5 v6 v7 v8 v9 v10 v11 v12 v13 v14 v15 v22 v23 v24 v25 v26 v27 v28 v29 y3.1 y3.2.1 y3.2.2.1.1.1 y3.2.2.1.1.2.1 y3.2.2.1.1.2.2.1 y3.2.2.1.2.1.1 y3.2.2.1.2.1.2.1 y3.2.2.1.2.1.2.2.1 (lf+40) y3.1 v16 v17 v18 v19 v20 v21) fun z9 =>
 K (i64.wrap (v2+1)) z9.1.1 z9.1.2.1 z9.1.2.2.1 z9.1.2.2.2.1 z9.1.2.2.2.2.1 z9.1.2.2.2.2.2.1) (
 E0 v16 v17 v18 v19 v20 v21)
def l0(lf:Nat)(v0:List (Int×(Int×(TV×Unit))))(v1:Int)(v3:Bool)(v4 v5:ByteArray)(v6:Bool)(v7 v8:ByteArray)(v9:Bool)(v10 v11:ByteArray)(v12:Bool)(v13 v14:ByteArray)(v15:List TV)(v22:List (Int×(Int×(TV×Unit))))(v23:Bool)(v24 v25:ByteArray)(v26:Bool)(v27 v28:ByteArray)(v29:List (Int×(Int×(TV×Unit)))):Nat→Int→Bool→ByteArray→ByteArray→Bool→ByteArray→ByteArray→Option ((Bool×ByteArray×ByteArray×Bool×ByteArray×ByteArray×Unit)×Unit)
 | 0,_,_,_,_,_,_,_=>none
 | n+1,v2,v16,v17,v18,v19,v20,v21=>r0 lf v0 v1 v3 v4 v5 v6 v7 v8 v9 v10 v11 v12 v13 v14 v15 v22 v23 v24 v25 v26 v27 v28 v29 v2 v16 v17 v18 v19 v20 v21 (l0 lf v0 v1 v3 v4 v5 v6 v7 v8 v9 v10 v11 v12 v13 v14 v15 v22 v23 v24 v25 v26 v27 v28 v29 n) (fun w0 w1 w2 w3 w4 w5=>some ((w0,w1,w2,w3,w4,w5,()),()))
def sh0:ShS:=⟨[.s (.yld 9),.a 5,.s (.sl (.pair (.int .i64) (.pair (.int .i64) (.pair yV .unit)))),.s (.int .i64),.s (.int .i64),.a 18],[.cells [.s .bool,.s .str,.s .str,.s .bool,.s .str,.s .str] 29,.cells [.s .bool,.s .str,.s .str,.s .bool,.s .str,.s .str] 29,.row yV 29 false,.cells [.s .bool,.s .str,.s .str,.s .bool,.s .str,.s .str] 29,.cells [.s (.sl (.pair (.int .i64) (.pair (.int .i64) (.pair yV .unit))))] 22,.cells [.s .bool,.s .str,.s .str,.s .bool,.s .str,.s .str] 29,.rnd [.a 9,.s (.ptr 3 0),.a 24] 13 0 .ready none,.cells [.s (.yld 6)] 150,.cells [.s (.sl (.pair (.int .i64) (.pair (.int .i64) (.pair yV .unit))))] 22,.rnd [.a 2,.s (.ptr 5 0),.s (.ptr 7 0),.a 20] 119 0 .ready none]⟩
def S0(p:(List (Int×(Int×(TV×Unit))))×Int×Int×Bool×ByteArray×ByteArray×Bool×ByteArray×ByteArray×Bool×ByteArray×ByteArray×Bool×ByteArray×ByteArray×(List TV)×Bool×ByteArray×ByteArray×Bool×ByteArray×ByteArray×(List (Int×(Int×(TV×Unit))))×Bool×ByteArray×ByteArray×Bool×ByteArray×ByteArray×(List (Int×(Int×(TV×Unit))))×Unit):St:=sh0.b p
def xh1:ShS:=⟨[.a 27],[.cells [.s .bool,.s .str,.s .str,.s .bool,.s .str,.s .str] 29,.cells [.s .bool,.s .str,.s .str,.s .bool,.s .str,.s .str] 29,.row yV 29 false,.cells [.s .bool,.s .str,.s .str,.s .bool,.s .str,.s .str] 29,.cells [.s (.sl (.pair (.int .i64) (.pair (.int .i64) (.pair yV .unit))))] 22,.cells [.s .bool,.s .str,.s .str,.s .bool,.s .str,.s .str] 29,.rnd [.a 9,.s (.ptr 3 0),.a 24] 13 0 .ready none,.cells [.s (.yld 6)] 150,.cells [.s (.sl (.pair (.int .i64) (.pair (.int .i64) (.pair yV .unit))))] 22,.rnd [.a 2,.s (.ptr 5 0),.s (.ptr 7 0),.a 20] 119 0 .ready none]⟩
def o0(v0:List (Int×(Int×(TV×Unit))))(v1:Int)(v3:Bool)(v4 v5:ByteArray)(v6:Bool)(v7 v8:ByteArray)(v9:Bool)(v10 v11:ByteArray)(v12:Bool)(v13 v14:ByteArray)(v15:List TV)(v22:List (Int×(Int×(TV×Unit))))(v23:Bool)(v24 v25:ByteArray)(v26:Bool)(v27 v28:ByteArray)(v29:List (Int×(Int×(TV×Unit))))(y:(Bool×ByteArray×ByteArray×Bool×ByteArray×ByteArray×Unit)×Unit):Alt:=.one (.exit 0) (xh1.b (v3,v4,v5,v6,v7,v8,v9,v10,v11,v12,v13,v14,v15,y.1.1,y.1.2.1,y.1.2.2.1,y.1.2.2.2.1,y.1.2.2.2.2.1,y.1.2.2.2.2.2.1,v22,v23,v24,v25,v26,v27,v28,v29,()))
def tb(lf:Nat):List (FuncId×Entry):=[(60,aV.E lf),(61,iJ.E lf),(63,dY.E lf),(64,iM.E lf),(86,gX.E lf),(120,bM.E lf),(121,gJ.E lf)]
def oP(lf:Nat):List (Nat×(St→Option LTE)):=[(0,sumE sh0 fun(p:(List (Int×(Int×(TV×Unit))))×Int×Int×Bool×ByteArray×ByteArray×Bool×ByteArray×ByteArray×Bool×ByteArray×ByteArray×Bool×ByteArray×ByteArray×(List TV)×Bool×ByteArray×ByteArray×Bool×ByteArray×ByteArray×(List (Int×(Int×(TV×Unit))))×Bool×ByteArray×ByteArray×Bool×ByteArray×ByteArray×(List (Int×(Int×(TV×Unit))))×Unit)=>⟨(Bool×ByteArray×ByteArray×Bool×ByteArray×ByteArray×Unit)×Unit,l0 lf p.1 p.2.1 p.2.2.2.1 p.2.2.2.2.1 p.2.2.2.2.2.1 p.2.2.2.2.2.2.1 p.2.2.2.2.2.2.2.1 (e8 p).1 (e8 p).2.1 (e8 p).2.2.1 (e8 p).2.2.2.1 (e8 p).2.2.2.2.1 (e8 p).2.2.2.2.2.1 (e8 p).2.2.2.2.2.2.1 (e8 p).2.2.2.2.2.2.2.1 (e8 (e8 p)).2.2.2.2.2.2.1 (e8 (e8 p)).2.2.2.2.2.2.2.1 (e8 (e8 (e8 p))).1 (e8 (e8 (e8 p))).2.1 (e8 (e8 (e8 p))).2.2.1 (e8 (e8 (e8 p))).2.2.2.1 (e8 (e8 (e8 p))).2.2.2.2.1 (e8 (e8 (e8 p))).2.2.2.2.2.1 (lf+40) p.2.2.1 (e8 (e8 p)).1 (e8 (e8 p)).2.1 (e8 (e8 p)).2.2.1 (e8 (e8 p)).2.2.2.1 (e8 (e8 p)).2.2.2.2.1 (e8 (e8 p)).2.2.2.2.2.1,o0 p.1 p.2.1 p.2.2.2.1 p.2.2.2.2.1 p.2.2.2.2.2.1 p.2.2.2.2.2.2.1 p.2.2.2.2.2.2.2.1 (e8 p).1 (e8 p).2.1 (e8 p).2.2.1 (e8 p).2.2.2.1 (e8 p).2.2.2.2.1 (e8 p).2.2.2.2.2.1 (e8 p).2.2.2.2.2.2.1 (e8 p).2.2.2.2.2.2.2.1 (e8 (e8 p)).2.2.2.2.2.2.1 (e8 (e8 p)).2.2.2.2.2.2.2.1 (e8 (e8 (e8 p))).1 (e8 (e8 (e8 p))).2.1 (e8 (e8 (e8 p))).2.2.1 (e8 (e8 (e8 p))).2.2.2.1 (e8 (e8 (e8 p))).2.2.2.2.1 (e8 (e8 (e8 p))).2.2.2.2.2.1⟩),
 (1,sumE sh1 fun(p:Int×(List (Int×(Int×(TV×Unit))))×Int×Int×Bool×ByteArray×ByteArray×Bool×ByteArray×ByteArray×Bool×ByteArray×ByteArray×Bool×ByteArray×ByteArray×(List TV)×Bool×ByteArray×ByteArray×Bool×ByteArray×ByteArray×(List (Int×(Int×(TV×Unit))))×Bool×ByteArray×ByteArray×Bool×ByteArray×ByteArray×(List (Int×(Int×(TV×Unit))))×Int×Int×Bool×ByteArray×ByteArray×Bool×ByteArray×ByteArray×Unit)=>⟨(Bool×ByteArray×ByteArray×Bool×ByteArray×ByteArray×Unit)×Unit,l1 lf p.2.1 p.2.2.1 p.2.2.2.1 p.2.2.2.2.1 p.2.2.2.2.2.1 p.2.2.2.2.2.2.1 p.2.2.2.2.2.2.2.1 (e8 p).1 (e8 p).2.1 (e8 p).2.2.1 (e8 p).2.2.2.1 (e8 p).2.2.2.2.1 (e8 p).2.2.2.2.2.1 (e8 p).2.2.2.2.2.2.1 (e8 p).2.2.2.2.2.2.2.1 (e8 (e8 p)).1 (e8 (e8 p)).2.2.2.2.2.2.2.1 (e8 (e8 (e8 p))).1 (e8 (e8 (e8 p))).2.1 (e8 (e8 (e8 p))).2.2.1 (e8 (e8 (e8 p))).2.2.2.1 (e8 (e8 (e8 p))).2.2.2.2.1 (e8 (e8 (e8 p))).2.2.2.2.2.1 (e8 (e8 (e8 p))).2.2.2.2.2.2.1 (e8 (e8 (e8 p))).2.2.2.2.2.2.2.1 (e8 (e8 (e8 (e8 p)))).1 (e8 (e8 (e8 (e8 p)))).2.1 (e8 (e8 (e8 (e8 p)))).2.2.1 (e8 (e8 (e8 (e8 p)))).2.2.2.1 (e8 (e8 (e8 (e8 p)))).2.2.2.2.1 (e8 (e8 (e8 (e8 p)))).2.2.2.2.2.1 (e8 (e8 (e8 (e8 p)))).2.2.2.2.2.2.1 (lf+40) p.1 (e8 (e8 p)).2.1 (e8 (e8 p)).2.2.1 (e8 (e8 p)).2.2.2.1 (e8 (e8 p)).2.2.2.2.1 (e8 (e8 p)).2.2.2.2.2.1 (e8 (e8 p)).2.2.2.2.2.2.1,o1 p.2.1 p.2.2.1 p.2.2.2.1 p.2.2.2.2.1 p.2.2.2.2.2.1 p.2.2.2.2.2.2.1 p.2.2.2.2.2.2.2.1 (e8 p).1 (e8 p).2.1 (e8 p).2.2.1 (e8 p).2.2.2.1 (e8 p).2.2.2.2.1 (e8 p).2.2.2.2.2.1 (e8 p).2.2.2.2.2.2.1 (e8 p).2.2.2.2.2.2.2.1 (e8 (e8 p)).1 (e8 (e8 p)).2.2.2.2.2.2.2.1 (e8 (e8 (e8 p))).1 (e8 (e8 (e8 p))).2.1 (e8 (e8 (e8 p))).2.2.1 (e8 (e8 (e8 p))).2.2.2.1 (e8 (e8 (e8 p))).2.2.2.2.1 (e8 (e8 (e8 p))).2.2.2.2.2.1 (e8 (e8 (e8 p))).2.2.2.2.2.2.1 (e8 (e8 (e8 p))).2.2.2.2.2.2.2.1 (e8 (e8 (e8 (e8 p)))).1 (e8 (e8 (e8 (e8 p)))).2.1 (e8 (e8 (e8 (e8 p)))).2.2.1 (e8 (e8 (e8 (e8 p)))).2.2.2.1 (e8 (e8 (e8 (e8 p)))).2.2.2.2.1 (e8 (e8 (e8 (e8 p)))).2.2.2.2.2.1 (e8 (e8 (e8 (e8 p)))).2.2.2.2.2.2.1⟩)]
def ls(lf:Nat):List (Nat×FuncId×Sums):=[(11,134,sumsL (oP lf))]
def it1{ρ:Type}(lf n:Nat)(st:St)(k:KE ρ):Option ρ:=itG anns (ls lf) (tb lf) lf 11 134 1 11 (sumsL (oP lf)) n st k
theorem t1{ρ:Type}(lf n:Nat)(v0:Int)(v1:List (Int×(Int×(TV×Unit))))(v2 v3:Int)(v4:Bool)(v5 v6:ByteArray)(v7:Bool)(v8 v9:ByteArray)(v10:Bool)(v11 v12:ByteArray)(v13:Bool)(v14 v15:ByteArray)(v16:List TV)(v17:Bool)(v18 v19:ByteArray)(v20:Bool)(v21 v22:ByteArray)(v23:List (Int×(Int×(TV×Unit))))(v24:Bool)(v25 v26:ByteArray)(v27:Bool)(v28 v29:ByteArray)(v30:List (Int×(Int×(TV×Unit))))(v31 v32:Int)(v33:Bool)(v34 v35:ByteArray)(v36:Bool)(v37 v38:ByteArray)(k:KE ρ):it1 lf (n+1) (S1 (v0,v1,v2,v3,v4,v5,v6,v7,v8,v9,v10,v11,v12,v13,v14,v15,v16,v17,v18,v19,v20,v21,v22,v23,v24,v25,v26,v27,v28,v29,v30,v31,v32,v33,v34,v35,v36,v37,v38,())) k=r1 lf v1 v2 v3 v4 v5 v6 v7 v8 v9 v10 v11 v12 v13 v14 v15 v16 v23 v24 v25 v26 v27 v28 v29 v30 v31 v32 v33 v34 v35 v36 v37 v38 v0 v17 v18 v19 v20 v21 v22 (fun x0 x1 x2 x3 x4 x5 x6=>it1 lf n (S1 (x0,v1,v2,v3,v4,v5,v6,v7,v8,v9,v10,v11,v12,v13,v14,v15,v16,x1,x2,x3,x4,x5,x6,v23,v24,v25,v26,v27,v28,v29,v30,v31,v32,v33,v34,v35,v36,v37,v38,())) k) (fun w0 w1 w2 w3 w4 w5=>k (.exit 2) (xh0.b (v1,v2,v3,v4,v5,v6,v7,v8,v9,v10,v11,v12,v13,v14,v15,v16,w0,w1,w2,w3,w4,w5,v23,v24,v25,v26,v27,v28,v29,v30,v31,v32,v33,v34,v35,v36,v37,v38,()))):=by kernel_rfl
theorem u1{ρ:Type}(lf:Nat)(v1:List (Int×(Int×(TV×Unit))))(v2 v3:Int)(v4:Bool)(v5 v6:ByteArray)(v7:Bool)(v8 v9:ByteArray)(v10:Bool)(v11 v12:ByteArray)(v13:Bool)(v14 v15:ByteArray)(v16:List TV)(v23:List (Int×(Int×(TV×Unit))))(v24:Bool)(v25 v26:ByteArray)(v27:Bool)(v28 v29:ByteArray)(v30:List (Int×(Int×(TV×Unit))))(v31 v32:Int)(v33:Bool)(v34 v35:ByteArray)(v36:Bool)(v37 v38:ByteArray)(k:KE ρ):∀ (n:Nat) (v0:Int) (v17:Bool) (v18 v19:ByteArray) (v20:Bool) (v21 v22:ByteArray),it1 lf n (S1 (v0,v1,v2,v3,v4,v5,v6,v7,v8,v9,v10,v11,v12,v13,v14,v15,v16,v17,v18,v19,v20,v21,v22,v23,v24,v25,v26,v27,v28,v29,v30,v31,v32,v33,v34,v35,v36,v37,v38,())) k=bd (l1 lf v1 v2 v3 v4 v5 v6 v7 v8 v9 v10 v11 v12 v13 v14 v15 v16 v23 v24 v25 v26 v27 v28 v29 v30 v31 v32 v33 v34 v35 v36 v37 v38 n v0 v17 v18 v19 v20 v21 v22) fun y=>altK k (o1 v1 v2 v3 v4 v5 v6 v7 v8 v9 v10 v11 v12 v13 v14 v15 v16 v23 v24 v25 v26 v27 v28 v29 v30 v31 v32 v33 v34 v35 v36 v37 v38 y)
 | 0,_,_,_,_,_,_,_=>by rw[l1,au];rfl
 | n+1,v0,v17,v18,v19,v20,v21,v22=>by
  rw[t1];simp only[l1,r1,u1 lf v1 v2 v3 v4 v5 v6 v7 v8 v9 v10 v11 v12 v13 v14 v15 v16 v23 v24 v25 v26 v27 v28 v29 v30 v31 v32 v33 v34 v35 v36 v37 v38 k n,dA,dw,aF,au,br_t,br_f,o1,altK]
def it0{ρ:Type}(lf n:Nat)(st:St)(k:KE ρ):Option ρ:=itG anns (ls lf) (tb lf) lf 11 134 0 10 (sumsL (oP lf)) n st k
theorem t0{ρ:Type}(lf n:Nat)(v0:List (Int×(Int×(TV×Unit))))(v1 v2:Int)(v3:Bool)(v4 v5:ByteArray)(v6:Bool)(v7 v8:ByteArray)(v9:Bool)(v10 v11:ByteArray)(v12:Bool)(v13 v14:ByteArray)(v15:List TV)(v16:Bool)(v17 v18:ByteArray)(v19:Bool)(v20 v21:ByteArray)(v22:List (Int×(Int×(TV×Unit))))(v23:Bool)(v24 v25:ByteArray)(v26:Bool)(v27 v28:ByteArray)(v29:List (Int×(Int×(TV×Unit))))(k:KE ρ):it0 lf (n+1) (S0 (v0,v1,v2,v3,v4,v5,v6,v7,v8,v9,v10,v11,v12,v13,v14,v15,v16,v17,v18,v19,v20,v21,v22,v23,v24,v25,v26,v27,v28,v29,())) k=r0 lf v0 v1 v3 v4 v5 v6 v7 v8 v9 v10 v11 v12 v13 v14 v15 v22 v23 v24 v25 v26 v27 v28 v29 v2 v16 v17 v18 v19 v20 v21 (fun x0 x1 x2 x3 x4 x5 x6=>it0 lf n (S0 (v0,v1,x0,v3,v4,v5,v6,v7,v8,v9,v10,v11,v12,v13,v14,v15,x1,x2,x3,x4,x5,x6,v22,v23,v24,v25,v26,v27,v28,v29,())) k) (fun w0 w1 w2 w3 w4 w5=>k (.exit 0) (xh1.b (v3,v4,v5,v6,v7,v8,v9,v10,v11,v12,v13,v14,v15,w0,w1,w2,w3,w4,w5,v22,v23,v24,v25,v26,v27,v28,v29,()))):=by kernel_rfl
theorem u0{ρ:Type}(lf:Nat)(v0:List (Int×(Int×(TV×Unit))))(v1:Int)(v3:Bool)(v4 v5:ByteArray)(v6:Bool)(v7 v8:ByteArray)(v9:Bool)(v10 v11:ByteArray)(v12:Bool)(v13 v14:ByteArray)(v15:List TV)(v22:List (Int×(Int×(TV×Unit))))(v23:Bool)(v24 v25:ByteArray)(v26:Bool)(v27 v28:ByteArray)(v29:List (Int×(Int×(TV×Unit))))(k:KE ρ):∀ (n:Nat) (v2:Int) (v16:Bool) (v17 v18:ByteArray) (v19:Bool) (v20 v21:ByteArray),it0 lf n (S0 (v0,v1,v2,v3,v4,v5,v6,v7,v8,v9,v10,v11,v12,v13,v14,v15,v16,v17,v18,v19,v20,v21,v22,v23,v24,v25,v26,v27,v28,v29,())) k=bd (l0 lf v0 v1 v3 v4 v5 v6 v7 v8 v9 v10 v11 v12 v13 v14 v15 v22 v23 v24 v25 v26 v27 v28 v29 n v2 v16 v17 v18 v19 v20 v21) fun y=>altK k (o0 v0 v1 v3 v4 v5 v6 v7 v8 v9 v10 v11 v12 v13 v14 v15 v22 v23 v24 v25 v26 v27 v28 v29 y)
 | 0,_,_,_,_,_,_,_=>by rw[l0,au];rfl
 | n+1,v2,v16,v17,v18,v19,v20,v21=>by
  rw[t0];simp only[l0,r0,u0 lf v0 v1 v3 v4 v5 v6 v7 v8 v9 v10 v11 v12 v13 v14 v15 v22 v23 v24 v25 v26 v27 v28 v29 k n,dA,dw,aF,au,br_t,br_f,o0,altK]
theorem sl(lf:Nat):SL anns (ls lf) (tb lf) lf (ls lf):=slC (laC (fun _=>by kernel_rfl) (fun _ (x:(List (Int×(Int×(TV×Unit))))×Int×Int×Bool×ByteArray×ByteArray×Bool×ByteArray×ByteArray×Bool×ByteArray×ByteArray×Bool×ByteArray×ByteArray×(List TV)×Bool×ByteArray×ByteArray×Bool×ByteArray×ByteArray×(List (Int×(Int×(TV×Unit))))×Bool×ByteArray×ByteArray×Bool×ByteArray×ByteArray×(List (Int×(Int×(TV×Unit))))×Unit) k=>bg (u0 lf x.1 x.2.1 x.2.2.2.1 x.2.2.2.2.1 x.2.2.2.2.2.1 x.2.2.2.2.2.2.1 x.2.2.2.2.2.2.2.1 (e8 x).1 (e8 x).2.1 (e8 x).2.2.1 (e8 x).2.2.2.1 (e8 x).2.2.2.2.1 (e8 x).2.2.2.2.2.1 (e8 x).2.2.2.2.2.2.1 (e8 x).2.2.2.2.2.2.2.1 (e8 (e8 x)).2.2.2.2.2.2.1 (e8 (e8 x)).2.2.2.2.2.2.2.1 (e8 (e8 (e8 x))).1 (e8 (e8 (e8 x))).2.1 (e8 (e8 (e8 x))).2.2.1 (e8 (e8 (e8 x))).2.2.2.1 (e8 (e8 (e8 x))).2.2.2.2.1 (e8 (e8 (e8 x))).2.2.2.2.2.1 k (lf+40) x.2.2.1 (e8 (e8 x)).1 (e8 (e8 x)).2.1 (e8 (e8 x)).2.2.1 (e8 (e8 x)).2.2.2.1 (e8 (e8 x)).2.2.2.2.1 (e8 (e8 x)).2.2.2.2.2.1)) (laC (fun _=>by kernel_rfl) (fun _ (x:Int×(List (Int×(Int×(TV×Unit))))×Int×Int×Bool×ByteArray×ByteArray×Bool×ByteArray×ByteArray×Bool×ByteArray×ByteArray×Bool×ByteArray×ByteArray×(List TV)×Bool×ByteArray×ByteArray×Bool×ByteArray×ByteArray×(List (Int×(Int×(TV×Unit))))×Bool×ByteArray×ByteArray×Bool×ByteArray×ByteArray×(List (Int×(Int×(TV×Unit))))×Int×Int×Bool×ByteArray×ByteArray×Bool×ByteArray×ByteArray×Unit) k=>bg (u1 lf x.2.1 x.2.2.1 x.2.2.2.1 x.2.2.2.2.1 x.2.2.2.2.2.1 x.2.2.2.2.2.2.1 x.2.2.2.2.2.2.2.1 (e8 x).1 (e8 x).2.1 (e8 x).2.2.1 (e8 x).2.2.2.1 (e8 x).2.2.2.2.1 (e8 x).2.2.2.2.2.1 (e8 x).2.2.2.2.2.2.1 (e8 x).2.2.2.2.2.2.2.1 (e8 (e8 x)).1 (e8 (e8 x)).2.2.2.2.2.2.2.1 (e8 (e8 (e8 x))).1 (e8 (e8 (e8 x))).2.1 (e8 (e8 (e8 x))).2.2.1 (e8 (e8 (e8 x))).2.2.2.1 (e8 (e8 (e8 x))).2.2.2.2.1 (e8 (e8 (e8 x))).2.2.2.2.2.1 (e8 (e8 (e8 x))).2.2.2.2.2.2.1 (e8 (e8 (e8 x))).2.2.2.2.2.2.2.1 (e8 (e8 (e8 (e8 x)))).1 (e8 (e8 (e8 (e8 x)))).2.1 (e8 (e8 (e8 (e8 x)))).2.2.1 (e8 (e8 (e8 (e8 x)))).2.2.2.1 (e8 (e8 (e8 (e8 x)))).2.2.2.2.1 (e8 (e8 (e8 (e8 x)))).2.2.2.2.2.1 (e8 (e8 (e8 (e8 x)))).2.2.2.2.2.2.1 k (lf+40) x.1 (e8 (e8 x)).2.1 (e8 (e8 x)).2.2.1 (e8 (e8 x)).2.2.2.1 (e8 (e8 x)).2.2.2.2.1 (e8 (e8 x)).2.2.2.2.2.1 (e8 (e8 x)).2.2.2.2.2.2.1)) laN)) slN
def f(lf:Nat)(a0:List (Int×(Int×(TV×Unit))))(a1:Int)(a2:TV):Option (TV×Int×Unit) :=
 bd (aV.f lf a0 a1 [a2]) fun r1 =>
 br (r1.1 != 0) (
 some (((false,(⟨#[]⟩:ByteArray),(⟨#[]⟩:ByteArray),()),(false,(⟨#[]⟩:ByteArray),(⟨#[]⟩:ByteArray),()),()),r1.1,())) (
 bd (iJ.f lf) fun r2 =>
 bd (l0 lf a0 ((a0.length:Nat):Int) a2.1.1 a2.1.2.1 a2.1.2.2.1 a2.2.1.1 a2.2.1.2.1 a2.2.1.2.2.1 false (⟨#[]⟩:ByteArray) (⟨#[]⟩:ByteArray) false (⟨#[]⟩:ByteArray) (⟨#[]⟩:ByteArray) [a2] a0 a2.1.1 a2.1.2.1 a2.1.2.2.1 a2.2.1.1 a2.2.1.2.1 a2.2.1.2.2.1 a0 (lf+40) 0 r2.1.1.1 r2.1.1.2.1 r2.1.1.2.2.1 r2.1.2.1.1 r2.1.2.1.2.1 r2.1.2.1.2.2.1) fun z10 =>
 some (((z10.1.1,z10.1.2.1,z10.1.2.2.1,()),(z10.1.2.2.2.1,z10.1.2.2.2.2.1,z10.1.2.2.2.2.2.1,()),()),0,()))
def E(lf:Nat):Entry:=⟨[(.sl (.pair (.int .i64) (.pair (.int .i64) (.pair yV .unit)))),(.int .i64),yV],[yV,(.int .i64)],fun x=>f lf x.1 x.2.1 x.2.2.1⟩
theorem ok(lf:Nat):Ok 13 (E lf):=okL (tC (aV.ok lf) (tC (iJ.ok lf) (tC (dY.ok lf) (tC (iM.ok lf) (tC (gX.ok lf) (tC (bM.ok lf) (tC (gJ.ok lf) tN))))))) (aoC (aoC (aoC aoN))) (sl lf) fun x=>by kernel_rfl
end dL
end
end Go.Q
