import Derived.Test.YtoinkkcnihoeoaaGreatDoorProg
import Derived.KernelRfl
import Derived.Test.YtoinkkcnihoeoaaGreatDoorECE3
import Derived.Test.YtoinkkcnihoeoaaGreatDoorECG1
import Derived.Test.YtoinkkcnihoeoaaGreatDoorECG3
import Derived.Test.YtoinkkcnihoeoaaGreatDoorECG5
import Derived.Test.YtoinkkcnihoeoaaGreatDoorECG6
import Derived.Test.YtoinkkcnihoeoaaGreatDoorECG7
set_option maxHeartbeats 40000000
set_option linter.unusedVariables false
set_option linter.unusedSimpArgs false
set_option linter.unusedSectionVars false
set_option maxRecDepth 100000
namespace Go.Q
open Go.IntKind (i64)
open Go Go.RowKit
open Go.Rx (br bd sIdx sCat sCut iQuo iRem)
noncomputable section
namespace gG
def anns:FuncId→FA:=annsL [(49,⟨annOf [(0,⟨kx 24 [9,10,11],[],[]⟩,⟨kx 24 [2],[],[]⟩)],none,[]⟩)]
def r0{ρ:Type}(lf:Nat)(v0:List TV)(v1:Int)(v2:Int)(K:Int→Option ρ)(E0:Int→Option ρ)(E1:Option ρ):Option ρ :=
 br (decide (v2 < v1)) (
 bd (idxL v0 v2) fun y1 =>
 bd (dS.f lf y1) fun r2 =>
 br (r2.1 != 0) (
 E0 r2.1) (
 br y1.1.1 (
 E0 16) (
 K (i64.wrap (v2+1))))) (
 E1)
def l0(lf:Nat)(v0:List TV)(v1:Int):Nat→Int→Option (Bool×(Int×Unit)×(Unit)×Unit)
 | 0,_=>none
 | n+1,v2=>r0 lf v0 v1 v2 (l0 lf v0 v1 n) (fun w0=>some (true,(w0,()),((()),()))) (some (false,(0,()),((()),())))
def sh0:ShS:=⟨[.a 9,.s (.sl yV),.s (.int .i64),.s (.int .i64),.a 12],[]⟩
def S0(p:(List TV)×Int×Int×Unit):St:=sh0.b p
def xh0:ShS:=⟨[.a 2,.s (.int .i64),.a 21],[]⟩
def xh1:ShS:=⟨[.a 24],[]⟩
def o0(v0:List TV)(v1:Int)(y:Bool×(Int×Unit)×(Unit)×Unit):Alt:=.two y.1 (.one .ret (xh0.b (y.2.1.1,()))) (.one (.exit 0) (xh1.b (())))
def tb(lf:Nat):List (FuncId×Entry):=[(59,dS.E lf)]
def aef(lf:Nat):List (Nat×(St→Option LTE)):=[(0,sumE sh0 fun(p:(List TV)×Int×Int×Unit)=>⟨Bool×(Int×Unit)×(Unit)×Unit,l0 lf p.1 p.2.1 (lf+40) p.2.2.1,o0 p.1 p.2.1⟩)]
def ls(lf:Nat):List (Nat×FuncId×Sums):=[(13,49,sumsL (aef lf))]
def it0{ρ:Type}(lf n:Nat)(st:St)(k:KE ρ):Option ρ:=itG anns (ls lf) (tb lf) lf 13 49 0 0 (sumsL (aef lf)) n st k
theorem t0{ρ:Type}(lf n:Nat)(v0:List TV)(v1 v2:Int)(k:KE ρ):it0 lf (n+1) (S0 (v0,v1,v2,())) k=r0 lf v0 v1 v2 (fun x0=>it0 lf n (S0 (v0,v1,x0,())) k) (fun w0=>k .ret (xh0.b (w0,()))) (k (.exit 0) (xh1.b (()))):=by kernel_rfl
theorem u0{ρ:Type}(lf:Nat)(v0:List TV)(v1:Int)(k:KE ρ):∀ (n:Nat) (v2:Int),it0 lf n (S0 (v0,v1,v2,())) k=bd (l0 lf v0 v1 n v2) fun y=>altK k (o0 v0 v1 y)
 | 0,_=>by rw[l0,bd_none];rfl
 | n+1,v2=>by
  rw[t0];simp only[l0,r0,u0 lf v0 v1 k n,bd_br,bd_bd,bd_some',bd_none,br_t,br_f,o0,altK]
theorem sl(lf:Nat):SL anns (ls lf) (tb lf) lf (ls lf):=slC (laC (fun _=>by kernel_rfl) (fun _ (x:(List TV)×Int×Int×Unit) k=>bH (u0 lf x.1 x.2.1 k (lf+40) x.2.2.1)) laN) slN
def f(lf:Nat)(a0:List TV):Option (Int×Unit) :=
 br (decide (((a0.length:Nat):Int) > 32)) (
 some (5,())) (
 bd (l0 lf a0 ((a0.length:Nat):Int) (lf+40) 0) fun z3 =>
 br z3.1 (
 some (z3.2.1.1,())) (
 some (0,())))
def E(lf:Nat):Entry:=⟨[(.sl yV)],[(.int .i64)],fun x=>f lf x.1⟩
theorem ok(lf:Nat):Ok 49 (E lf):=okL (tC (dS.ok lf) tN) (aoC aoN) (sl lf) fun x=>by kernel_rfl
end gG
namespace iL
def f(lf:Nat)(a0:List TV)(a1:List TV):Option (Int×Unit) :=
 bd (gG.f lf a0) fun r1 =>
 br (r1.1 != 0) (
 some (r1.1,())) (
 bd (gG.f lf a1) fun r2 =>
 br (r2.1 != 0) (
 some (r2.1,())) (
 br (((a0.length:Nat):Int) !=((a1.length:Nat):Int)) (
 some (22,())) (
 some (0,()))))
def E(lf:Nat):Entry:=⟨[(.sl yV),(.sl yV)],[(.int .i64)],fun x=>f lf x.1 x.2.1⟩
theorem ok(lf:Nat):Ok 30 (E lf):=okT (an:=(annsL [])) (lf:=lf) (tC (gG.ok lf) tN) aoN fun x=>by kernel_rfl
end iL
namespace nT
def anns:FuncId→FA:=annsL [(6,⟨annOf [(0,⟨kx 41 [0,1,17,18],[],[]⟩,⟨kx 41 [4,5],[],[]⟩)],none,[]⟩)]
def r0{ρ:Type}(lf:Nat)(v0 v1:List TV)(v2:Int)(v3:Int)(K:Int→Option ρ)(E0:Int→Option ρ)(E1:Option ρ):Option ρ :=
 br (decide (v3 < v2)) (
 bd (idxL v0 v3) fun y2 =>
 bd (idxL v1 v3) fun y3 =>
 bd (pK.f lf y2 y3) fun r4 =>
 br (r4.2.1 != 0) (
 E0 r4.2.1) (
 br (!r4.1) (
 E0 r4.2.1) (
 K (i64.wrap (v3+1))))) (
 E1)
def l0(lf:Nat)(v0 v1:List TV)(v2:Int):Nat→Int→Option (Bool×(Int×Unit)×(Unit)×Unit)
 | 0,_=>none
 | n+1,v3=>r0 lf v0 v1 v2 v3 (l0 lf v0 v1 v2 n) (fun w0=>some (true,(w0,()),((()),()))) (some (false,(0,()),((()),())))
def sh0:ShS:=⟨[.s (.sl yV),.s (.sl yV),.a 15,.s (.int .i64),.s (.int .i64),.a 22],[]⟩
def S0(p:(List TV)×(List TV)×Int×Int×Unit):St:=sh0.b p
def xh0:ShS:=⟨[.a 4,.s .bool,.s (.int .i64),.a 35],[]⟩
def xh1:ShS:=⟨[.a 41],[]⟩
def o0(v0 v1:List TV)(v2:Int)(y:Bool×(Int×Unit)×(Unit)×Unit):Alt:=.two y.1 (.one .ret (xh0.b (false,y.2.1.1,()))) (.one (.exit 0) (xh1.b (())))
def tb(lf:Nat):List (FuncId×Entry):=[(30,iL.E lf),(31,pK.E lf)]
def afw(lf:Nat):List (Nat×(St→Option LTE)):=[(0,sumE sh0 fun(p:(List TV)×(List TV)×Int×Int×Unit)=>⟨Bool×(Int×Unit)×(Unit)×Unit,l0 lf p.1 p.2.1 p.2.2.1 (lf+40) p.2.2.2.1,o0 p.1 p.2.1 p.2.2.1⟩)]
def ls(lf:Nat):List (Nat×FuncId×Sums):=[(13,6,sumsL (afw lf))]
def it0{ρ:Type}(lf n:Nat)(st:St)(k:KE ρ):Option ρ:=itG anns (ls lf) (tb lf) lf 13 6 0 0 (sumsL (afw lf)) n st k
theorem t0{ρ:Type}(lf n:Nat)(v0 v1:List TV)(v2 v3:Int)(k:KE ρ):it0 lf (n+1) (S0 (v0,v1,v2,v3,())) k=r0 lf v0 v1 v2 v3 (fun x0=>it0 lf n (S0 (v0,v1,v2,x0,())) k) (fun w0=>k .ret (xh0.b (false,w0,()))) (k (.exit 0) (xh1.b (()))):=by kernel_rfl
theorem u0{ρ:Type}(lf:Nat)(v0 v1:List TV)(v2:Int)(k:KE ρ):∀ (n:Nat) (v3:Int),it0 lf n (S0 (v0,v1,v2,v3,())) k=bd (l0 lf v0 v1 v2 n v3) fun y=>altK k (o0 v0 v1 v2 y)
 | 0,_=>by rw[l0,bd_none];rfl
 | n+1,v3=>by
  rw[t0];simp only[l0,r0,u0 lf v0 v1 v2 k n,bd_br,bd_bd,bd_some',bd_none,br_t,br_f,o0,altK]
theorem sl(lf:Nat):SL anns (ls lf) (tb lf) lf (ls lf):=slC (laC (fun _=>by kernel_rfl) (fun _ (x:(List TV)×(List TV)×Int×Int×Unit) k=>bH (u0 lf x.1 x.2.1 x.2.2.1 k (lf+40) x.2.2.2.1)) laN) slN
def f(lf:Nat)(a0:List TV)(a1:List TV):Option (Bool×Int×Unit) :=
 bd (iL.f lf a0 a1) fun r1 =>
 br (r1.1 != 0) (
 some (false,r1.1,())) (
 bd (l0 lf a0 a1 ((a0.length:Nat):Int) (lf+40) 0) fun z5 =>
 br z5.1 (
 some (false,z5.2.1.1,())) (
 some (true,0,())))
def E(lf:Nat):Entry:=⟨[(.sl yV),(.sl yV)],[.bool,(.int .i64)],fun x=>f lf x.1 x.2.1⟩
theorem ok(lf:Nat):Ok 6 (E lf):=okL (tC (iL.ok lf) (tC (pK.ok lf) tN)) (aoC aoN) (sl lf) fun x=>by kernel_rfl
end nT
namespace kV
def anns:FuncId→FA:=annsL [(34,⟨annOf [(0,⟨kx 38 [0,1,2,8,12,13],[⟨.tmp 8,yV,50⟩],[]⟩,⟨kx 38 [6,7,8],[⟨.tmp 8,yV,50⟩],[]⟩)],none,[]⟩)]
def r0{ρ:Type}(lf:Nat)(v0 v1:List TV)(v2:Int)(v3:Int)(v4:List TV)(K:Int→(List TV)→Option ρ)(E0:(List TV)→Option ρ)(E1:(List TV)→Option ρ):Option ρ :=
 br (decide (v3 < v2)) (
 bd (idxL v0 v3) fun y2 =>
 bd (idxL v1 v3) fun y3 =>
 bd (mM.f lf y2 y3) fun r4 =>
 bd (dU.f lf r4.1 r4.2.1) fun r5 =>
 br r5.1.1.1 (
 E0 v4) (
 bd (apL true 80 v4 [r5.1]) fun q6 =>
 K (i64.wrap (v3+1)) q6)) (
 E1 v4)
def l0(lf:Nat)(v0 v1:List TV)(v2:Int):Nat→Int→(List TV)→Option (Bool×((List TV)×Unit)×((List TV)×Unit)×Unit)
 | 0,_,_=>none
 | n+1,v3,v4=>r0 lf v0 v1 v2 v3 v4 (l0 lf v0 v1 v2 n) (fun w0=>some (true,(w0,()),(([],()),()))) (fun w0=>some (false,([],()),((w0,()),())))
def sh0:ShS:=⟨[.s (.sl yV),.s (.sl yV),.s (.fn 35 [] []),.a 5,.s (.row 0),.a 3,.s (.int .i64),.s (.int .i64),.a 24],[.row yV 50 false]⟩
def S0(p:(List TV)×(List TV)×Int×Int×(List TV)×Unit):St:=sh0.b p
def xh0:ShS:=⟨[.a 6,.s .nil,.s .bool,.s (.row 0),.a 29],[.row yV 50 false]⟩
def xh1:ShS:=⟨[.a 8,.s (.row 0),.a 29],[.row yV 50 false]⟩
def o0(v0 v1:List TV)(v2:Int)(y:Bool×((List TV)×Unit)×((List TV)×Unit)×Unit):Alt:=.two y.1 (.one .ret (xh0.b (false,y.2.1.1,()))) (.one (.exit 0) (xh1.b (y.2.2.1.1,())))
def tb(lf:Nat):List (FuncId×Entry):=[(30,iL.E lf),(35,mM.E lf),(68,dU.E lf)]
def pY(lf:Nat):List (Nat×(St→Option LTE)):=[(0,sumE sh0 fun(p:(List TV)×(List TV)×Int×Int×(List TV)×Unit)=>⟨Bool×((List TV)×Unit)×((List TV)×Unit)×Unit,l0 lf p.1 p.2.1 p.2.2.1 (lf+40) p.2.2.2.1 p.2.2.2.2.1,o0 p.1 p.2.1 p.2.2.1⟩)]
def ls(lf:Nat):List (Nat×FuncId×Sums):=[(12,34,sumsL (pY lf))]
def it0{ρ:Type}(lf n:Nat)(st:St)(k:KE ρ):Option ρ:=itG anns (ls lf) (tb lf) lf 12 34 0 0 (sumsL (pY lf)) n st k
theorem t0{ρ:Type}(lf n:Nat)(v0 v1:List TV)(v2 v3:Int)(v4:List TV)(k:KE ρ):it0 lf (n+1) (S0 (v0,v1,v2,v3,v4,())) k=r0 lf v0 v1 v2 v3 v4 (fun x0 x1=>it0 lf n (S0 (v0,v1,v2,x0,x1,())) k) (fun w0=>k .ret (xh0.b (false,w0,()))) (fun w0=>k (.exit 0) (xh1.b (w0,()))):=by kernel_rfl
theorem u0{ρ:Type}(lf:Nat)(v0 v1:List TV)(v2:Int)(k:KE ρ):∀ (n:Nat) (v3:Int) (v4:List TV),it0 lf n (S0 (v0,v1,v2,v3,v4,())) k=bd (l0 lf v0 v1 v2 n v3 v4) fun y=>altK k (o0 v0 v1 v2 y)
 | 0,_,_=>by rw[l0,bd_none];rfl
 | n+1,v3,v4=>by
  rw[t0];simp only[l0,r0,u0 lf v0 v1 v2 k n,bd_br,bd_bd,bd_some',bd_none,br_t,br_f,o0,altK]
theorem sl(lf:Nat):SL anns (ls lf) (tb lf) lf (ls lf):=slC (laC (fun _=>by kernel_rfl) (fun _ (x:(List TV)×(List TV)×Int×Int×(List TV)×Unit) k=>bH (u0 lf x.1 x.2.1 x.2.2.1 k (lf+40) x.2.2.2.1 x.2.2.2.2.1)) laN) slN
def f(lf:Nat)(a0:List TV)(a1:List TV):Option ((List TV)×Int×Unit) :=
 bd (iL.f lf a0 a1) fun r1 =>
 br (r1.1 != 0) (
 some ([],r1.1,())) (
 bd (l0 lf a0 a1 ((a0.length:Nat):Int) (lf+40) 0 []) fun z7 =>
 br z7.1 (
 some ([],0,())) (
 some (z7.2.2.1.1,0,())))
def E(lf:Nat):Entry:=⟨[(.sl yV),(.sl yV)],[(.sl yV),(.int .i64)],fun x=>f lf x.1 x.2.1⟩
theorem ok(lf:Nat):Ok 8 (E lf):=okL (tC (iL.ok lf) (tC (mM.ok lf) (tC (dU.ok lf) tN))) (aoC aoN) (sl lf) fun x=>by kernel_rfl
end kV
end
end Go.Q
namespace Go.Q
open Go.IntKind (i64)
open Go Go.RowKit
open Go.Rx (br bd sIdx sCat sCut iQuo iRem)
noncomputable section
namespace kW
def anns:FuncId→FA:=annsL [(34,⟨annOf [(0,⟨kx 38 [0,1,2,8,12,13],[⟨.tmp 8,yV,50⟩],[]⟩,⟨kx 38 [6,7,8],[⟨.tmp 8,yV,50⟩],[]⟩)],none,[]⟩)]
def r0{ρ:Type}(lf:Nat)(v0 v1:List TV)(v2:Int)(v3:Int)(v4:List TV)(K:Int→(List TV)→Option ρ)(E0:(List TV)→Option ρ)(E1:(List TV)→Option ρ):Option ρ :=
 br (decide (v3 < v2)) (
 bd (idxL v0 v3) fun y2 =>
 bd (idxL v1 v3) fun y3 =>
 bd (iZ.f lf y2 y3) fun r4 =>
 bd (dU.f lf r4.1 r4.2.1) fun r5 =>
 br r5.1.1.1 (
 E0 v4) (
 bd (apL true 80 v4 [r5.1]) fun q6 =>
 K (i64.wrap (v3+1)) q6)) (
 E1 v4)
def l0(lf:Nat)(v0 v1:List TV)(v2:Int):Nat→Int→(List TV)→Option (Bool×((List TV)×Unit)×((List TV)×Unit)×Unit)
 | 0,_,_=>none
 | n+1,v3,v4=>r0 lf v0 v1 v2 v3 v4 (l0 lf v0 v1 v2 n) (fun w0=>some (true,(w0,()),(([],()),()))) (fun w0=>some (false,([],()),((w0,()),())))
def sh0:ShS:=⟨[.s (.sl yV),.s (.sl yV),.s (.fn 37 [] []),.a 5,.s (.row 0),.a 3,.s (.int .i64),.s (.int .i64),.a 24],[.row yV 50 false]⟩
def S0(p:(List TV)×(List TV)×Int×Int×(List TV)×Unit):St:=sh0.b p
def xh0:ShS:=⟨[.a 6,.s .nil,.s .bool,.s (.row 0),.a 29],[.row yV 50 false]⟩
def xh1:ShS:=⟨[.a 8,.s (.row 0),.a 29],[.row yV 50 false]⟩
def o0(v0 v1:List TV)(v2:Int)(y:Bool×((List TV)×Unit)×((List TV)×Unit)×Unit):Alt:=.two y.1 (.one .ret (xh0.b (false,y.2.1.1,()))) (.one (.exit 0) (xh1.b (y.2.2.1.1,())))
def tb(lf:Nat):List (FuncId×Entry):=[(30,iL.E lf),(37,iZ.E lf),(68,dU.E lf)]
def pY(lf:Nat):List (Nat×(St→Option LTE)):=[(0,sumE sh0 fun(p:(List TV)×(List TV)×Int×Int×(List TV)×Unit)=>⟨Bool×((List TV)×Unit)×((List TV)×Unit)×Unit,l0 lf p.1 p.2.1 p.2.2.1 (lf+40) p.2.2.2.1 p.2.2.2.2.1,o0 p.1 p.2.1 p.2.2.1⟩)]
def ls(lf:Nat):List (Nat×FuncId×Sums):=[(12,34,sumsL (pY lf))]
def it0{ρ:Type}(lf n:Nat)(st:St)(k:KE ρ):Option ρ:=itG anns (ls lf) (tb lf) lf 12 34 0 0 (sumsL (pY lf)) n st k
theorem t0{ρ:Type}(lf n:Nat)(v0 v1:List TV)(v2 v3:Int)(v4:List TV)(k:KE ρ):it0 lf (n+1) (S0 (v0,v1,v2,v3,v4,())) k=r0 lf v0 v1 v2 v3 v4 (fun x0 x1=>it0 lf n (S0 (v0,v1,v2,x0,x1,())) k) (fun w0=>k .ret (xh0.b (false,w0,()))) (fun w0=>k (.exit 0) (xh1.b (w0,()))):=by kernel_rfl
theorem u0{ρ:Type}(lf:Nat)(v0 v1:List TV)(v2:Int)(k:KE ρ):∀ (n:Nat) (v3:Int) (v4:List TV),it0 lf n (S0 (v0,v1,v2,v3,v4,())) k=bd (l0 lf v0 v1 v2 n v3 v4) fun y=>altK k (o0 v0 v1 v2 y)
 | 0,_,_=>by rw[l0,bd_none];rfl
 | n+1,v3,v4=>by
  rw[t0];simp only[l0,r0,u0 lf v0 v1 v2 k n,bd_br,bd_bd,bd_some',bd_none,br_t,br_f,o0,altK]
theorem sl(lf:Nat):SL anns (ls lf) (tb lf) lf (ls lf):=slC (laC (fun _=>by kernel_rfl) (fun _ (x:(List TV)×(List TV)×Int×Int×(List TV)×Unit) k=>bH (u0 lf x.1 x.2.1 x.2.2.1 k (lf+40) x.2.2.2.1 x.2.2.2.2.1)) laN) slN
def f(lf:Nat)(a0:List TV)(a1:List TV):Option ((List TV)×Bool×Int×Unit) :=
 bd (iL.f lf a0 a1) fun r1 =>
 br (r1.1 != 0) (
 some ([],false,r1.1,())) (
 bd (l0 lf a0 a1 ((a0.length:Nat):Int) (lf+40) 0 []) fun z7 =>
 br z7.1 (
 some ([],false,0,())) (
 some (z7.2.2.1.1,true,0,())))
def E(lf:Nat):Entry:=⟨[(.sl yV),(.sl yV)],[(.sl yV),.bool,(.int .i64)],fun x=>f lf x.1 x.2.1⟩
theorem ok(lf:Nat):Ok 11 (E lf):=okL (tC (iL.ok lf) (tC (iZ.ok lf) (tC (dU.ok lf) tN))) (aoC aoN) (sl lf) fun x=>by kernel_rfl
end kW
namespace jU
def anns:FuncId→FA:=annsL [(34,⟨annOf [(0,⟨kx 38 [0,1,2,8,12,13],[⟨.tmp 8,yV,50⟩],[]⟩,⟨kx 38 [6,7,8],[⟨.tmp 8,yV,50⟩],[]⟩)],none,[]⟩)]
def r0{ρ:Type}(lf:Nat)(v0 v1:List TV)(v2:Int)(v4:List ByteArray)(v5:Bool)(v6 v7:ByteArray)(v3:Int)(v8:List TV)(K:Int→(List TV)→Option ρ)(E0:(List TV)→Option ρ)(E1:(List TV)→Option ρ):Option ρ :=
 br (decide (v3 < v2)) (
 bd (idxL v0 v3) fun y5 =>
 bd (idxL v1 v3) fun y6 =>
 bd (nR.f lf y5 y6 v4) fun r7 =>
 bd (dU.f lf r7.1 r7.2.1) fun r8 =>
 br r8.1.1.1 (
 E0 v8) (
 bd (apL true 80 v8 [r8.1]) fun q9 =>
 K (i64.wrap (v3+1)) q9)) (
 E1 v8)
def l0(lf:Nat)(v0 v1:List TV)(v2:Int)(v4:List ByteArray)(v5:Bool)(v6 v7:ByteArray):Nat→Int→(List TV)→Option (Bool×((List TV)×Unit)×((List TV)×Unit)×Unit)
 | 0,_,_=>none
 | n+1,v3,v8=>r0 lf v0 v1 v2 v4 v5 v6 v7 v3 v8 (l0 lf v0 v1 v2 v4 v5 v6 v7 n) (fun w0=>some (true,(w0,()),(([],()),()))) (fun w0=>some (false,([],()),((w0,()),())))
def sh0:ShS:=⟨[.s (.sl yV),.s (.sl yV),.s (.fn 41 [] [.ptr 0 0]),.a 5,.s (.row 2),.a 3,.s (.int .i64),.s (.int .i64),.a 24],[.cells [.s (.sl .str)] 23,.cells [.s .bool,.s .str,.s .str] 46,.row yV 50 false]⟩
def S0(p:(List TV)×(List TV)×Int×Int×(List ByteArray)×Bool×ByteArray×ByteArray×(List TV)×Unit):St:=sh0.b p
def xh0:ShS:=⟨[.a 6,.s .nil,.s .bool,.s (.row 2),.a 29],[.cells [.s (.sl .str)] 23,.cells [.s .bool,.s .str,.s .str] 46,.row yV 50 false]⟩
def xh1:ShS:=⟨[.a 8,.s (.row 2),.a 29],[.cells [.s (.sl .str)] 23,.cells [.s .bool,.s .str,.s .str] 46,.row yV 50 false]⟩
def o0(v0 v1:List TV)(v2:Int)(v4:List ByteArray)(v5:Bool)(v6 v7:ByteArray)(y:Bool×((List TV)×Unit)×((List TV)×Unit)×Unit):Alt:=.two y.1 (.one .ret (xh0.b (false,v4,v5,v6,v7,y.2.1.1,()))) (.one (.exit 0) (xh1.b (v4,v5,v6,v7,y.2.2.1.1,())))
def tb(lf:Nat):List (FuncId×Entry):=[(30,iL.E lf),(39,aU.E lf),(40,mP.E lf),(42,nR.E lf),(68,dU.E lf)]
def pY(lf:Nat):List (Nat×(St→Option LTE)):=[(0,sumE sh0 fun(p:(List TV)×(List TV)×Int×Int×(List ByteArray)×Bool×ByteArray×ByteArray×(List TV)×Unit)=>⟨Bool×((List TV)×Unit)×((List TV)×Unit)×Unit,l0 lf p.1 p.2.1 p.2.2.1 p.2.2.2.2.1 p.2.2.2.2.2.1 p.2.2.2.2.2.2.1 p.2.2.2.2.2.2.2.1 (lf+40) p.2.2.2.1 p.2.2.2.2.2.2.2.2.1,o0 p.1 p.2.1 p.2.2.1 p.2.2.2.2.1 p.2.2.2.2.2.1 p.2.2.2.2.2.2.1 p.2.2.2.2.2.2.2.1⟩)]
def ls(lf:Nat):List (Nat×FuncId×Sums):=[(12,34,sumsL (pY lf))]
def it0{ρ:Type}(lf n:Nat)(st:St)(k:KE ρ):Option ρ:=itG anns (ls lf) (tb lf) lf 12 34 0 2 (sumsL (pY lf)) n st k
theorem t0{ρ:Type}(lf n:Nat)(v0 v1:List TV)(v2 v3:Int)(v4:List ByteArray)(v5:Bool)(v6 v7:ByteArray)(v8:List TV)(k:KE ρ):it0 lf (n+1) (S0 (v0,v1,v2,v3,v4,v5,v6,v7,v8,())) k=r0 lf v0 v1 v2 v4 v5 v6 v7 v3 v8 (fun x0 x1=>it0 lf n (S0 (v0,v1,v2,x0,v4,v5,v6,v7,x1,())) k) (fun w0=>k .ret (xh0.b (false,v4,v5,v6,v7,w0,()))) (fun w0=>k (.exit 0) (xh1.b (v4,v5,v6,v7,w0,()))):=by kernel_rfl
theorem u0{ρ:Type}(lf:Nat)(v0 v1:List TV)(v2:Int)(v4:List ByteArray)(v5:Bool)(v6 v7:ByteArray)(k:KE ρ):∀ (n:Nat) (v3:Int) (v8:List TV),it0 lf n (S0 (v0,v1,v2,v3,v4,v5,v6,v7,v8,())) k=bd (l0 lf v0 v1 v2 v4 v5 v6 v7 n v3 v8) fun y=>altK k (o0 v0 v1 v2 v4 v5 v6 v7 y)
 | 0,_,_=>by rw[l0,bd_none];rfl
 | n+1,v3,v8=>by
  rw[t0];simp only[l0,r0,u0 lf v0 v1 v2 v4 v5 v6 v7 k n,bd_br,bd_bd,bd_some',bd_none,br_t,br_f,o0,altK]
theorem sl(lf:Nat):SL anns (ls lf) (tb lf) lf (ls lf):=slC (laC (fun _=>by kernel_rfl) (fun _ (x:(List TV)×(List TV)×Int×Int×(List ByteArray)×Bool×ByteArray×ByteArray×(List TV)×Unit) k=>bH (u0 lf x.1 x.2.1 x.2.2.1 x.2.2.2.2.1 x.2.2.2.2.2.1 x.2.2.2.2.2.2.1 x.2.2.2.2.2.2.2.1 k (lf+40) x.2.2.2.1 x.2.2.2.2.2.2.2.2.1)) laN) slN
def f(lf:Nat)(a0:List TV)(a1:List TV)(a2:List ByteArray):Option ((List TV)×Int×Unit) :=
 bd (iL.f lf a0 a1) fun r1 =>
 br (r1.1 != 0) (
 some ([],r1.1,())) (
 bd (mP.f lf) fun r2 =>
 bd (mP.f lf) fun r3 =>
 bd (aU.f lf r2.1 r3.1 a2) fun r4 =>
 br (r4.2.1 != 0) (
 some ([],r4.2.1,())) (
 bd (l0 lf a0 a1 ((a0.length:Nat):Int) a2 r4.1.1 r4.1.2.1 r4.1.2.2.1 (lf+40) 0 []) fun z10 =>
 br z10.1 (
 some ([],0,())) (
 some (z10.2.2.1.1,0,()))))
def E(lf:Nat):Entry:=⟨[(.sl yV),(.sl yV),(.sl .str)],[(.sl yV),(.int .i64)],fun x=>f lf x.1 x.2.1 x.2.2.1⟩
theorem ok(lf:Nat):Ok 13 (E lf):=okL (tC (iL.ok lf) (tC (aU.ok lf) (tC (mP.ok lf) (tC (nR.ok lf) (tC (dU.ok lf) tN))))) (aoC aoN) (sl lf) fun x=>by kernel_rfl
end jU
end
end Go.Q
namespace Go.Q
open Go.IntKind (i64)
open Go Go.RowKit
open Go.Rx (br bd sIdx sCat sCut iQuo iRem)
noncomputable section
namespace jk
def anns:FuncId→FA:=annsL [(34,⟨annOf [(0,⟨kx 38 [0,1,2,8,12,13],[⟨.tmp 8,yV,50⟩],[]⟩,⟨kx 38 [6,7,8],[⟨.tmp 8,yV,50⟩],[]⟩)],none,[]⟩)]
def r0{ρ:Type}(lf:Nat)(v0 v1:List TV)(v2:Int)(v3:Int)(v4:List TV)(K:Int→(List TV)→Option ρ)(E0:(List TV)→Option ρ)(E1:(List TV)→Option ρ):Option ρ :=
 br (decide (v3 < v2)) (
 bd (idxL v0 v3) fun y2 =>
 bd (idxL v1 v3) fun y3 =>
 bd (mV.f lf y2 y3) fun r4 =>
 bd (dU.f lf r4.1 r4.2.1) fun r5 =>
 br r5.1.1.1 (
 E0 v4) (
 bd (apL true 80 v4 [r5.1]) fun q6 =>
 K (i64.wrap (v3+1)) q6)) (
 E1 v4)
def l0(lf:Nat)(v0 v1:List TV)(v2:Int):Nat→Int→(List TV)→Option (Bool×((List TV)×Unit)×((List TV)×Unit)×Unit)
 | 0,_,_=>none
 | n+1,v3,v4=>r0 lf v0 v1 v2 v3 v4 (l0 lf v0 v1 v2 n) (fun w0=>some (true,(w0,()),(([],()),()))) (fun w0=>some (false,([],()),((w0,()),())))
def sh0:ShS:=⟨[.s (.sl yV),.s (.sl yV),.s (.fn 45 [] []),.a 5,.s (.row 0),.a 3,.s (.int .i64),.s (.int .i64),.a 24],[.row yV 50 false]⟩
def S0(p:(List TV)×(List TV)×Int×Int×(List TV)×Unit):St:=sh0.b p
def xh0:ShS:=⟨[.a 6,.s .nil,.s .bool,.s (.row 0),.a 29],[.row yV 50 false]⟩
def xh1:ShS:=⟨[.a 8,.s (.row 0),.a 29],[.row yV 50 false]⟩
def o0(v0 v1:List TV)(v2:Int)(y:Bool×((List TV)×Unit)×((List TV)×Unit)×Unit):Alt:=.two y.1 (.one .ret (xh0.b (false,y.2.1.1,()))) (.one (.exit 0) (xh1.b (y.2.2.1.1,())))
def tb(lf:Nat):List (FuncId×Entry):=[(30,iL.E lf),(45,mV.E lf),(68,dU.E lf)]
def pY(lf:Nat):List (Nat×(St→Option LTE)):=[(0,sumE sh0 fun(p:(List TV)×(List TV)×Int×Int×(List TV)×Unit)=>⟨Bool×((List TV)×Unit)×((List TV)×Unit)×Unit,l0 lf p.1 p.2.1 p.2.2.1 (lf+40) p.2.2.2.1 p.2.2.2.2.1,o0 p.1 p.2.1 p.2.2.1⟩)]
def ls(lf:Nat):List (Nat×FuncId×Sums):=[(12,34,sumsL (pY lf))]
def it0{ρ:Type}(lf n:Nat)(st:St)(k:KE ρ):Option ρ:=itG anns (ls lf) (tb lf) lf 12 34 0 0 (sumsL (pY lf)) n st k
theorem t0{ρ:Type}(lf n:Nat)(v0 v1:List TV)(v2 v3:Int)(v4:List TV)(k:KE ρ):it0 lf (n+1) (S0 (v0,v1,v2,v3,v4,())) k=r0 lf v0 v1 v2 v3 v4 (fun x0 x1=>it0 lf n (S0 (v0,v1,v2,x0,x1,())) k) (fun w0=>k .ret (xh0.b (false,w0,()))) (fun w0=>k (.exit 0) (xh1.b (w0,()))):=by kernel_rfl
theorem u0{ρ:Type}(lf:Nat)(v0 v1:List TV)(v2:Int)(k:KE ρ):∀ (n:Nat) (v3:Int) (v4:List TV),it0 lf n (S0 (v0,v1,v2,v3,v4,())) k=bd (l0 lf v0 v1 v2 n v3 v4) fun y=>altK k (o0 v0 v1 v2 y)
 | 0,_,_=>by rw[l0,bd_none];rfl
 | n+1,v3,v4=>by
  rw[t0];simp only[l0,r0,u0 lf v0 v1 v2 k n,bd_br,bd_bd,bd_some',bd_none,br_t,br_f,o0,altK]
theorem sl(lf:Nat):SL anns (ls lf) (tb lf) lf (ls lf):=slC (laC (fun _=>by kernel_rfl) (fun _ (x:(List TV)×(List TV)×Int×Int×(List TV)×Unit) k=>bH (u0 lf x.1 x.2.1 x.2.2.1 k (lf+40) x.2.2.2.1 x.2.2.2.2.1)) laN) slN
def f(lf:Nat)(a0:List TV)(a1:List TV):Option ((List TV)×Bool×Int×Unit) :=
 bd (iL.f lf a0 a1) fun r1 =>
 br (r1.1 != 0) (
 some ([],false,r1.1,())) (
 bd (l0 lf a0 a1 ((a0.length:Nat):Int) (lf+40) 0 []) fun z7 =>
 br z7.1 (
 some ([],false,0,())) (
 some (z7.2.2.1.1,true,0,())))
def E(lf:Nat):Entry:=⟨[(.sl yV),(.sl yV)],[(.sl yV),.bool,(.int .i64)],fun x=>f lf x.1 x.2.1⟩
theorem ok(lf:Nat):Ok 15 (E lf):=okL (tC (iL.ok lf) (tC (mV.ok lf) (tC (dU.ok lf) tN))) (aoC aoN) (sl lf) fun x=>by kernel_rfl
end jk
namespace dA
def l:List (((List TV)×EX×Unit)×(TV×Unit)):=[((ck_c.c13,ck_c.c1,()),(ck_c.c10,())),((ck_c.c13,ck_c.c3,()),(ck_c.c14,())),((ck_c.c13,ck_c.c4,()),(ck_c.c16,())),((ck_c.c13,ck_c.c6,()),(ck_c.c17,())),((ck_c.c13,ck_c.c7,()),(ck_c.c19,())),((ck_c.c13,ck_c.c20,()),(ck_c.c12,())),((ck_c.c13,ck_c.c21,()),(ck_c.c22,())),((ck_c.c13,ck_c.c24,()),(ck_c.c28,())),((ck_c.c13,ck_c.c26,()),(ck_c.c29,())),((ck_c.c35,ck_c.c20,()),(ck_c.c12,())),((ck_c.c35,ck_c.c26,()),(ck_c.c29,())),((ck_c.c13,ck_c.c36,()),(ck_c.c16,())),((ck_c.c13,ck_c.c38,()),(ck_c.c39,())),((ck_c.c13,ck_c.c42,()),(ck_c.c44,())),((ck_c.c51,ck_c.c3,()),(ck_c.c14,())),((ck_c.c13,ck_c.c56,()),(ck_c.c57,())),((ck_c.c13,ck_c.c58,()),(ck_c.c22,())),((ck_c.c61,ck_c.c3,()),(ck_c.c14,())),((ck_c.c13,ck_c.c62,()),(ck_c.c65,())),((ck_c.c69,ck_c.c6,()),(ck_c.c17,()))]
def f(lf:Nat)(a0:List TV)(a1:EX):Option (TV×Unit):=pick [(.sl yV),(.rc false)] l (a0,a1,())
def E(lf:Nat):Entry:=⟨[(.sl yV),(.rc false)],[yV],fun x=>f lf x.1 x.2.1⟩
def tb(lf:Nat):List (FuncId×Entry):=[(59,dS.E lf),(68,dU.E lf),(79,aF.E lf),(80,aA.E lf),(82,ah.E lf),(84,aH.E lf),(85,aT.E lf),(86,bD.E lf),(98,mJ.E lf),(106,dw.E lf),(113,dB.E lf),(114,dN.E lf),(115,dm.E lf),(124,aJ.E lf),(127,dI.E lf),(144,xK.E lf),(181,gV.E lf),(193,bY.E lf)]
abbrev an:FuncId→FA:=annsL []
theorem ok(lf:Nat):Ok 51 (E lf):=okP (an:=an) (tb:=tb lf) (lf:=lf) (tC (dS.ok lf) (tC (dU.ok lf) (tC (aF.ok lf) (tC (aA.ok lf) (tC (ah.ok lf) (tC (aH.ok lf) (tC (aT.ok lf) (tC (bD.ok lf) (tC (mJ.ok lf) (tC (dw.ok lf) (tC (dB.ok lf) (tC (dN.ok lf) (tC (dm.ok lf) (tC (aJ.ok lf) (tC (dI.ok lf) (tC (xK.ok lf) (tC (gV.ok lf) (tC (bY.ok lf) tN)))))))))))))))))) aoN (l:=l) (fun _=>rfl) (fun _=>rfl) ⟨by as_aux_lemma=>kernel_rfl,by as_aux_lemma=>kernel_rfl,by as_aux_lemma=>kernel_rfl,by as_aux_lemma=>kernel_rfl,by as_aux_lemma=>kernel_rfl,by as_aux_lemma=>kernel_rfl,by as_aux_lemma=>kernel_rfl,by as_aux_lemma=>kernel_rfl,by as_aux_lemma=>kernel_rfl,by as_aux_lemma=>kernel_rfl,by as_aux_lemma=>kernel_rfl,by as_aux_lemma=>kernel_rfl,by as_aux_lemma=>kernel_rfl,by as_aux_lemma=>kernel_rfl,by as_aux_lemma=>kernel_rfl,by as_aux_lemma=>kernel_rfl,by as_aux_lemma=>kernel_rfl,by as_aux_lemma=>kernel_rfl,by as_aux_lemma=>kernel_rfl,by as_aux_lemma=>kernel_rfl,trivial⟩
end dA
end
end Go.Q
namespace Go.Q
open Go Go.RowKit
open Go.Rx (br bd sIdx sCat sCut iQuo iRem)
noncomputable section
namespace jl
def l:List ((EX×Int×Unit)×(Int×Unit)):=[((ck_c.c7,2,()),(0,())),((ck_c.c21,2,()),(0,())),((ck_c.c24,2,()),(0,())),((ck_c.c26,2,()),(0,())),((ck_c.c36,2,()),(0,())),((ck_c.c38,2,()),(0,())),((ck_c.c1,2,()),(0,())),((ck_c.c42,2,()),(0,())),((ck_c.c3,2,()),(0,())),((ck_c.c56,2,()),(0,())),((ck_c.c58,2,()),(0,())),((ck_c.c62,2,()),(0,()))]
def f(lf:Nat)(a0:EX)(a1:Int):Option (Int×Unit):=pick [(.rc false),(.int .i64)] l (a0,a1,())
def E(lf:Nat):Entry:=⟨[(.rc false),(.int .i64)],[(.int .i64)],fun x=>f lf x.1 x.2.1⟩
def tb(lf:Nat):List (FuncId×Entry):=[(207,cu.E lf),(257,strings_TrimPrefix.E lf)]
abbrev an:FuncId→FA:=annsL [(50,⟨annOf [(0,⟨kx 37 [3,4],[],[]⟩,⟨[],[],[]⟩)],none,[]⟩),(93,⟨annOf [(0,⟨kx 18 [4,5],[],[]⟩,⟨[],[],[]⟩)],none,[]⟩)]
theorem ok(lf:Nat):Ok 50 (E lf):=okP (an:=an) (tb:=tb lf) (lf:=lf) (tC (cu.ok lf) (tC (strings_TrimPrefix.ok lf) tN)) (aoC (aoC aoN)) (l:=l) (fun _=>rfl) (fun _=>rfl) ⟨by as_aux_lemma=>kernel_rfl,by as_aux_lemma=>kernel_rfl,by as_aux_lemma=>kernel_rfl,by as_aux_lemma=>kernel_rfl,by as_aux_lemma=>kernel_rfl,by as_aux_lemma=>kernel_rfl,by as_aux_lemma=>kernel_rfl,by as_aux_lemma=>kernel_rfl,by as_aux_lemma=>kernel_rfl,by as_aux_lemma=>kernel_rfl,by as_aux_lemma=>kernel_rfl,by as_aux_lemma=>kernel_rfl,trivial⟩
end jl
end
end Go.Q
namespace Go.Q
open Go Go.RowKit
open Go.Rx (br bd sIdx sCat sCut iQuo iRem)
noncomputable section
namespace ru
def l:List ((EX×Unit)×(EX×Unit)):=[((ck_c.c1,()),(ck_c.c1,())),((ck_c.c42,()),(ck_c.c42,())),((ck_c.c3,()),(ck_c.c3,())),((ck_c.c38,()),(ck_c.c38,()))]
def f(lf:Nat)(a0:EX):Option (EX×Unit):=pick [(.rc false)] l (a0,())
def E(lf:Nat):Entry:=⟨[(.rc false)],[(.rc false)],fun x=>f lf x.1⟩
def tb(lf:Nat):List (FuncId×Entry):=[]
abbrev an:FuncId→FA:=annsL [(244,⟨annOf [(0,⟨kx 24 [2,3,9,10,11],[⟨.ref 2 3,(.rc false),54⟩],[0]⟩,⟨kx 24 [2,3],[⟨.ref 2 3,(.rc false),54⟩],[0]⟩)],none,[]⟩)]
theorem ok(lf:Nat):Ok 244 (E lf):=okP (an:=an) (tb:=tb lf) (lf:=lf) tN (aoC aoN) (l:=l) (fun _=>rfl) (fun _=>rfl) ⟨by as_aux_lemma=>kernel_rfl,by as_aux_lemma=>kernel_rfl,by as_aux_lemma=>kernel_rfl,by as_aux_lemma=>kernel_rfl,trivial⟩
end ru
namespace uP
def l:List ((Int×EX×EX×Unit)×(CX×Unit)):=[((3,ck_c.c1,ck_c.c42,()),(ck_c.c43,())),((4,ck_c.c1,ck_c.c3,()),(ck_c.c47,())),((4,ck_c.c38,ck_c.c1,()),(ck_c.c48,()))]
def f(lf:Nat)(a0:Int)(a1:EX)(a2:EX):Option (CX×Unit):=pick [(.int .i64),(.rc false),(.rc false)] l (a0,a1,a2,())
def E(lf:Nat):Entry:=⟨[(.int .i64),(.rc false),(.rc false)],[(.rc true)],fun x=>f lf x.1 x.2.1 x.2.2.1⟩
def tb(lf:Nat):List (FuncId×Entry):=[(244,ru.E lf)]
abbrev an:FuncId→FA:=annsL []
theorem ok(lf:Nat):Ok 162 (E lf):=okP (an:=an) (tb:=tb lf) (lf:=lf) (tC (ru.ok lf) tN) aoN (l:=l) (fun _=>rfl) (fun _=>rfl) ⟨by as_aux_lemma=>kernel_rfl,by as_aux_lemma=>kernel_rfl,by as_aux_lemma=>kernel_rfl,trivial⟩
end uP
namespace qB
def l:List ((CX×Bool×Unit)×(CX×Unit)):=[((ck_c.c43,false,()),(ck_c.c43,())),((ck_c.c49,false,()),(ck_c.c49,()))]
def f(lf:Nat)(a0:CX)(a1:Bool):Option (CX×Unit):=pick [(.rc true),.bool] l (a0,a1,())
def E(lf:Nat):Entry:=⟨[(.rc true),.bool],[(.rc true)],fun x=>f lf x.1 x.2.1⟩
def tb(lf:Nat):List (FuncId×Entry):=[(162,uP.E lf)]
abbrev an:FuncId→FA:=annsL [(102,⟨annOf [(0,⟨kx 82 [1,4,6,34,35,36],[⟨.ref 2 2,(.rc true),65⟩],[0]⟩,⟨kx 82 [4,6],[⟨.ref 2 2,(.rc true),65⟩],[0]⟩)],none,[]⟩)]
theorem ok(lf:Nat):Ok 102 (E lf):=okP (an:=an) (tb:=tb lf) (lf:=lf) (tC (uP.ok lf) tN) (aoC aoN) (l:=l) (fun _=>rfl) (fun _=>rfl) ⟨by as_aux_lemma=>kernel_rfl,by as_aux_lemma=>kernel_rfl,trivial⟩
end qB
namespace qA
def l:List ((CX×Int×Unit)×(CX×Int×Unit)):=[((ck_c.c43,2,()),(ck_c.c43,0,())),((ck_c.c49,2,()),(ck_c.c49,0,()))]
def f(lf:Nat)(a0:CX)(a1:Int):Option (CX×Int×Unit):=pick [(.rc true),(.int .i64)] l (a0,a1,())
def E(lf:Nat):Entry:=⟨[(.rc true),(.int .i64)],[(.rc true),(.int .i64)],fun x=>f lf x.1 x.2.1⟩
def tb(lf:Nat):List (FuncId×Entry):=[(50,jl.E lf),(102,qB.E lf)]
abbrev an:FuncId→FA:=annsL [(93,⟨annOf [(0,⟨kx 18 [4,5],[],[]⟩,⟨[],[],[]⟩)],none,[]⟩),(101,⟨annOf [(0,⟨kx 75 [3,4,7],[],[]⟩,⟨[],[],[]⟩)],none,[]⟩)]
theorem ok(lf:Nat):Ok 56 (E lf):=okP (an:=an) (tb:=tb lf) (lf:=lf) (tC (jl.ok lf) (tC (qB.ok lf) tN)) (aoC (aoC aoN)) (l:=l) (fun _=>rfl) (fun _=>rfl) ⟨by as_aux_lemma=>kernel_rfl,by as_aux_lemma=>kernel_rfl,trivial⟩
end qA
end
end Go.Q
