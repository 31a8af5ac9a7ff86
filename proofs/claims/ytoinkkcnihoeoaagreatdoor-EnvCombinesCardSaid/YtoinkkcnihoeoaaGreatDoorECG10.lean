import Derived.Test.YtoinkkcnihoeoaaGreatDoorProg
import Derived.KernelRfl
import Derived.Test.YtoinkkcnihoeoaaGreatDoorECE3
import Derived.Test.YtoinkkcnihoeoaaGreatDoorECG6
import Derived.Test.YtoinkkcnihoeoaaGreatDoorECG7
import Derived.Test.YtoinkkcnihoeoaaGreatDoorECG9
set_option maxHeartbeats 40000000
set_option linter.unusedVariables false
set_option linter.unusedSimpArgs false
set_option linter.unusedSectionVars false
set_option maxRecDepth 100000
namespace Go.Q
open Go.IntKind (i64)
open Go Go.RowKit
open Go.Rx (br bd sIdx sCat sCut iQuo iRem)
noncomputable section
namespace dR
def anns:FuncId→FA:=annsL [(36,⟨annOf [(0,⟨kx 26 [0,1,5,6],[⟨.tmp 5,yV,50⟩],[]⟩,⟨kx 26 [4,5],[⟨.tmp 5,yV,50⟩],[]⟩)],none,[]⟩)]
def r0{ρ:Type}(lf:Nat)(v0 v1:List TV)(v2:Int)(v3:List TV)(K:Int→(List TV)→Option ρ)(E0:(List TV)→Option ρ):Option ρ :=
 br (decide (v2 < ((v0.length:Nat):Int))) (
 bd (idxL v0 v2) fun y1 =>
 bd (idxL v1 v2) fun y2 =>
 bd (iP.f lf y1 y2) fun r3 =>
 bd (apL true 80 v3 [r3.1]) fun q4 =>
 K (i64.wrap (v2+1)) q4) (
 E0 v3)
def l0(lf:Nat)(v0 v1:List TV):Nat→Int→(List TV)→Option (((List TV)×Unit)×Unit)
 | 0,_,_=>none
 | n+1,v2,v3=>r0 lf v0 v1 v2 v3 (l0 lf v0 v1 n) (fun w0=>some ((w0,()),()))
def sh0:ShS:=⟨[.s (.sl yV),.s (.sl yV),.a 3,.s (.row 0),.s (.int .i64),.a 19],[.row yV 50 false]⟩
def S0(p:(List TV)×(List TV)×Int×(List TV)×Unit):St:=sh0.b p
def xh0:ShS:=⟨[.a 5,.s (.row 0),.a 20],[.row yV 50 false]⟩
def o0(v0 v1:List TV)(y:((List TV)×Unit)×Unit):Alt:=.one (.exit 0) (xh0.b (y.1.1,()))
def tb(lf:Nat):List (FuncId×Entry):=[(72,iP.E lf)]
def aea(lf:Nat):List (Nat×(St→Option LTE)):=[(0,sumE sh0 fun(p:(List TV)×(List TV)×Int×(List TV)×Unit)=>⟨((List TV)×Unit)×Unit,l0 lf p.1 p.2.1 (lf+40) p.2.2.1 p.2.2.2.1,o0 p.1 p.2.1⟩)]
def ls(lf:Nat):List (Nat×FuncId×Sums):=[(13,36,sumsL (aea lf))]
def it0{ρ:Type}(lf n:Nat)(st:St)(k:KE ρ):Option ρ:=itG anns (ls lf) (tb lf) lf 13 36 0 0 (sumsL (aea lf)) n st k
theorem t0{ρ:Type}(lf n:Nat)(v0 v1:List TV)(v2:Int)(v3:List TV)(k:KE ρ):it0 lf (n+1) (S0 (v0,v1,v2,v3,())) k=r0 lf v0 v1 v2 v3 (fun x0 x1=>it0 lf n (S0 (v0,v1,x0,x1,())) k) (fun w0=>k (.exit 0) (xh0.b (w0,()))):=by kernel_rfl
theorem u0{ρ:Type}(lf:Nat)(v0 v1:List TV)(k:KE ρ):∀ (n:Nat) (v2:Int) (v3:List TV),it0 lf n (S0 (v0,v1,v2,v3,())) k=bd (l0 lf v0 v1 n v2 v3) fun y=>altK k (o0 v0 v1 y)
 | 0,_,_=>by rw[l0,bd_none];rfl
 | n+1,v2,v3=>by
  rw[t0];simp only[l0,r0,u0 lf v0 v1 k n,bd_br,bd_bd,bd_some',bd_none,br_t,br_f,o0,altK]
theorem sl(lf:Nat):SL anns (ls lf) (tb lf) lf (ls lf):=slC (laC (fun _=>by kernel_rfl) (fun _ (x:(List TV)×(List TV)×Int×(List TV)×Unit) k=>bH (u0 lf x.1 x.2.1 k (lf+40) x.2.2.1 x.2.2.2.1)) laN) slN
def f(lf:Nat)(a0:List TV)(a1:List TV):Option ((List TV)×Unit) :=
 bd (l0 lf a0 a1 (lf+40) 0 []) fun z5 =>
 some (z5.1.1,())
def E(lf:Nat):Entry:=⟨[(.sl yV),(.sl yV)],[(.sl yV)],fun x=>f lf x.1 x.2.1⟩
theorem ok(lf:Nat):Ok 36 (E lf):=okL (tC (iP.ok lf) tN) (aoC aoN) (sl lf) fun x=>by kernel_rfl
end dR
namespace jo
def f(lf:Nat)(a0:List TV)(a1:List TV):Option ((List TV)×Int×Unit) :=
 bd (dD.f lf a0 a1) fun r1 =>
 br (r1.1 != 0) (
 some ([],r1.1,())) (
 bd (dR.f lf a0 a1) fun r2 =>
 some (r2.1,0,()))
def E(lf:Nat):Entry:=⟨[(.sl yV),(.sl yV)],[(.sl yV),(.int .i64)],fun x=>f lf x.1 x.2.1⟩
theorem ok(lf:Nat):Ok 9 (E lf):=okT (an:=(annsL [])) (lf:=lf) (tC (dD.ok lf) (tC (dR.ok lf) tN)) aoN fun x=>by kernel_rfl
end jo
namespace aO
def anns:FuncId→FA:=annsL [(10,⟨annOf [(0,⟨kx 26 [0,1,5],[],[]⟩,⟨kx 26 [4],[],[]⟩)],none,[]⟩)]
def r0{ρ:Type}(lf:Nat)(v0 v1:List TV)(v2:Int)(K:Int→Option ρ)(E0:Option ρ)(E1:Option ρ):Option ρ :=
 br (decide (v2 < ((v0.length:Nat):Int))) (
 bd (idxL v0 v2) fun y1 =>
 bd (idxL v1 v2) fun y2 =>
 bd (some (!(((y1.1.1==y2.1.1)&&((y1.1.2.1==y2.1.2.1)&&((y1.1.2.2.1==y2.1.2.2.1)&&true)))&&(((y1.2.1.1==y2.2.1.1)&&((y1.2.1.2.1==y2.2.1.2.1)&&((y1.2.1.2.2.1==y2.2.1.2.2.1)&&true)))&&true)))) fun r3 =>
 br r3 (
 E0) (
 K (i64.wrap (v2+1)))) (
 E1)
def l0(lf:Nat)(v0 v1:List TV):Nat→Int→Option (Bool×(Unit)×(Unit)×Unit)
 | 0,_=>none
 | n+1,v2=>r0 lf v0 v1 v2 (l0 lf v0 v1 n) (some (true,(()),((()),()))) (some (false,(()),((()),())))
def sh0:ShS:=⟨[.s (.sl yV),.s (.sl yV),.a 3,.s (.int .i64),.a 20],[]⟩
def S0(p:(List TV)×(List TV)×Int×Unit):St:=sh0.b p
def xh0:ShS:=⟨[.a 4,.s .bool,.a 21],[]⟩
def xh1:ShS:=⟨[.a 26],[]⟩
def o0(v0 v1:List TV)(y:Bool×(Unit)×(Unit)×Unit):Alt:=.two y.1 (.one .ret (xh0.b (false,()))) (.one (.exit 0) (xh1.b (())))
def tb(lf:Nat):List (FuncId×Entry):=[]
def ad8(lf:Nat):List (Nat×(St→Option LTE)):=[(0,sumE sh0 fun(p:(List TV)×(List TV)×Int×Unit)=>⟨Bool×(Unit)×(Unit)×Unit,l0 lf p.1 p.2.1 (lf+40) p.2.2.1,o0 p.1 p.2.1⟩)]
def ls(lf:Nat):List (Nat×FuncId×Sums):=[(13,10,sumsL (ad8 lf))]
def it0{ρ:Type}(lf n:Nat)(st:St)(k:KE ρ):Option ρ:=itG anns (ls lf) (tb lf) lf 13 10 0 0 (sumsL (ad8 lf)) n st k
theorem t0{ρ:Type}(lf n:Nat)(v0 v1:List TV)(v2:Int)(k:KE ρ):it0 lf (n+1) (S0 (v0,v1,v2,())) k=r0 lf v0 v1 v2 (fun x0=>it0 lf n (S0 (v0,v1,x0,())) k) (k .ret (xh0.b (false,()))) (k (.exit 0) (xh1.b (()))):=by kernel_rfl
theorem u0{ρ:Type}(lf:Nat)(v0 v1:List TV)(k:KE ρ):∀ (n:Nat) (v2:Int),it0 lf n (S0 (v0,v1,v2,())) k=bd (l0 lf v0 v1 n v2) fun y=>altK k (o0 v0 v1 y)
 | 0,_=>by rw[l0,bd_none];rfl
 | n+1,v2=>by
  rw[t0];simp only[l0,r0,u0 lf v0 v1 k n,bd_br,bd_bd,bd_some',bd_none,br_t,br_f,o0,altK]
theorem sl(lf:Nat):SL anns (ls lf) (tb lf) lf (ls lf):=slC (laC (fun _=>by kernel_rfl) (fun _ (x:(List TV)×(List TV)×Int×Unit) k=>bH (u0 lf x.1 x.2.1 k (lf+40) x.2.2.1)) laN) slN
def f(lf:Nat)(a0:List TV)(a1:List TV):Option (Bool×Unit) :=
 br (((a0.length:Nat):Int) !=((a1.length:Nat):Int)) (
 some (false,())) (
 bd (l0 lf a0 a1 (lf+40) 0) fun z4 =>
 br z4.1 (
 some (false,())) (
 some (true,())))
def E(lf:Nat):Entry:=⟨[(.sl yV),(.sl yV)],[.bool],fun x=>f lf x.1 x.2.1⟩
theorem ok(lf:Nat):Ok 10 (E lf):=okL tN (aoC aoN) (sl lf) fun x=>by kernel_rfl
end aO
namespace bU
def anns:FuncId→FA:=annsL [(76,⟨annOf [(0,⟨kx 17 [0,4],[],[]⟩,⟨kx 17 [0,2,3],[],[]⟩)],none,[]⟩)]
def r0{ρ:Type}(lf:Nat)(v0:List TV)(v1:Int)(K:Int→Option ρ)(E0:Option ρ)(E1:Option ρ):Option ρ :=
 br (decide (v1 < ((v0.length:Nat):Int))) (
 bd (idxL v0 v1) fun y1 =>
 bd (gm.f lf y1) fun r2 =>
 br r2.1 (
 E0) (
 K (i64.wrap (v1+1)))) (
 E1)
def l0(lf:Nat)(v0:List TV):Nat→Int→Option (Bool×(Unit)×(Unit)×Unit)
 | 0,_=>none
 | n+1,v1=>r0 lf v0 v1 (l0 lf v0 n) (some (true,(()),((()),()))) (some (false,(()),((()),())))
def sh0:ShS:=⟨[.s (.sl yV),.a 3,.s (.int .i64),.a 12],[]⟩
def S0(p:(List TV)×Int×Unit):St:=sh0.b p
def xh0:ShS:=⟨[.s (.sl yV),.a 1,.s .nil,.s .bool,.a 13],[]⟩
def xh1:ShS:=⟨[.s (.sl yV),.a 16],[]⟩
def o0(v0:List TV)(y:Bool×(Unit)×(Unit)×Unit):Alt:=.two y.1 (.one .ret (xh0.b (v0,false,()))) (.one (.exit 0) (xh1.b (v0,())))
def tb(lf:Nat):List (FuncId×Entry):=[(109,gm.E lf)]
def aeh(lf:Nat):List (Nat×(St→Option LTE)):=[(0,sumE sh0 fun(p:(List TV)×Int×Unit)=>⟨Bool×(Unit)×(Unit)×Unit,l0 lf p.1 (lf+40) p.2.1,o0 p.1⟩)]
def ls(lf:Nat):List (Nat×FuncId×Sums):=[(13,76,sumsL (aeh lf))]
def it0{ρ:Type}(lf n:Nat)(st:St)(k:KE ρ):Option ρ:=itG anns (ls lf) (tb lf) lf 13 76 0 0 (sumsL (aeh lf)) n st k
theorem t0{ρ:Type}(lf n:Nat)(v0:List TV)(v1:Int)(k:KE ρ):it0 lf (n+1) (S0 (v0,v1,())) k=r0 lf v0 v1 (fun x0=>it0 lf n (S0 (v0,x0,())) k) (k .ret (xh0.b (v0,false,()))) (k (.exit 0) (xh1.b (v0,()))):=by kernel_rfl
theorem u0{ρ:Type}(lf:Nat)(v0:List TV)(k:KE ρ):∀ (n:Nat) (v1:Int),it0 lf n (S0 (v0,v1,())) k=bd (l0 lf v0 n v1) fun y=>altK k (o0 v0 y)
 | 0,_=>by rw[l0,bd_none];rfl
 | n+1,v1=>by
  rw[t0];simp only[l0,r0,u0 lf v0 k n,bd_br,bd_bd,bd_some',bd_none,br_t,br_f,o0,altK]
theorem sl(lf:Nat):SL anns (ls lf) (tb lf) lf (ls lf):=slC (laC (fun _=>by kernel_rfl) (fun _ (x:(List TV)×Int×Unit) k=>bH (u0 lf x.1 k (lf+40) x.2.1)) laN) slN
def f(lf:Nat)(a0:List TV):Option ((List TV)×Bool×Unit) :=
 bd (l0 lf a0 (lf+40) 0) fun z3 =>
 br z3.1 (
 some ([],false,())) (
 some (a0,true,()))
def E(lf:Nat):Entry:=⟨[(.sl yV)],[(.sl yV),.bool],fun x=>f lf x.1⟩
theorem ok(lf:Nat):Ok 76 (E lf):=okL (tC (gm.ok lf) tN) (aoC aoN) (sl lf) fun x=>by kernel_rfl
end bU
end
end Go.Q
namespace Go.Q
open Go.IntKind (i64)
open Go Go.RowKit
open Go.Rx (br bd sIdx sCat sCut iQuo iRem)
noncomputable section
namespace fP
def anns:FuncId→FA:=annsL [(38,⟨annOf [(0,⟨kx 30 [0,1,6,7],[⟨.tmp 6,yV,50⟩],[]⟩,⟨kx 30 [4,5,6],[⟨.tmp 6,yV,50⟩],[]⟩)],none,[]⟩)]
def r0{ρ:Type}(lf:Nat)(v0 v1:List TV)(v2:Int)(v3:List TV)(K:Int→(List TV)→Option ρ)(E0:(List TV)→Option ρ):Option ρ :=
 br (decide (v2 < ((v0.length:Nat):Int))) (
 bd (idxL v0 v2) fun y1 =>
 bd (idxL v1 v2) fun y2 =>
 bd (jG.f lf y1 y2) fun r3 =>
 bd (apL true 80 v3 [r3.1]) fun q4 =>
 K (i64.wrap (v2+1)) q4) (
 E0 v3)
def l0(lf:Nat)(v0 v1:List TV):Nat→Int→(List TV)→Option (((List TV)×Unit)×Unit)
 | 0,_,_=>none
 | n+1,v2,v3=>r0 lf v0 v1 v2 v3 (l0 lf v0 v1 n) (fun w0=>some ((w0,()),()))
def sh0:ShS:=⟨[.s (.sl yV),.s (.sl yV),.a 4,.s (.row 0),.s (.int .i64),.a 22],[.row yV 50 false]⟩
def S0(p:(List TV)×(List TV)×Int×(List TV)×Unit):St:=sh0.b p
def xh0:ShS:=⟨[.a 6,.s (.row 0),.a 23],[.row yV 50 false]⟩
def o0(v0 v1:List TV)(y:((List TV)×Unit)×Unit):Alt:=.one (.exit 0) (xh0.b (y.1.1,()))
def tb(lf:Nat):List (FuncId×Entry):=[(75,jG.E lf),(76,bU.E lf)]
def aeb(lf:Nat):List (Nat×(St→Option LTE)):=[(0,sumE sh0 fun(p:(List TV)×(List TV)×Int×(List TV)×Unit)=>⟨((List TV)×Unit)×Unit,l0 lf p.1 p.2.1 (lf+40) p.2.2.1 p.2.2.2.1,o0 p.1 p.2.1⟩)]
def ls(lf:Nat):List (Nat×FuncId×Sums):=[(13,38,sumsL (aeb lf))]
def it0{ρ:Type}(lf n:Nat)(st:St)(k:KE ρ):Option ρ:=itG anns (ls lf) (tb lf) lf 13 38 0 0 (sumsL (aeb lf)) n st k
theorem t0{ρ:Type}(lf n:Nat)(v0 v1:List TV)(v2:Int)(v3:List TV)(k:KE ρ):it0 lf (n+1) (S0 (v0,v1,v2,v3,())) k=r0 lf v0 v1 v2 v3 (fun x0 x1=>it0 lf n (S0 (v0,v1,x0,x1,())) k) (fun w0=>k (.exit 0) (xh0.b (w0,()))):=by kernel_rfl
theorem u0{ρ:Type}(lf:Nat)(v0 v1:List TV)(k:KE ρ):∀ (n:Nat) (v2:Int) (v3:List TV),it0 lf n (S0 (v0,v1,v2,v3,())) k=bd (l0 lf v0 v1 n v2 v3) fun y=>altK k (o0 v0 v1 y)
 | 0,_,_=>by rw[l0,bd_none];rfl
 | n+1,v2,v3=>by
  rw[t0];simp only[l0,r0,u0 lf v0 v1 k n,bd_br,bd_bd,bd_some',bd_none,br_t,br_f,o0,altK]
theorem sl(lf:Nat):SL anns (ls lf) (tb lf) lf (ls lf):=slC (laC (fun _=>by kernel_rfl) (fun _ (x:(List TV)×(List TV)×Int×(List TV)×Unit) k=>bH (u0 lf x.1 x.2.1 k (lf+40) x.2.2.1 x.2.2.2.1)) laN) slN
def f(lf:Nat)(a0:List TV)(a1:List TV):Option ((List TV)×Bool×Unit) :=
 bd (l0 lf a0 a1 (lf+40) 0 []) fun z5 =>
 bd (bU.f lf z5.1.1) fun r6 =>
 some (r6.1,r6.2.1,())
def E(lf:Nat):Entry:=⟨[(.sl yV),(.sl yV)],[(.sl yV),.bool],fun x=>f lf x.1 x.2.1⟩
theorem ok(lf:Nat):Ok 38 (E lf):=okL (tC (jG.ok lf) (tC (bU.ok lf) tN)) (aoC aoN) (sl lf) fun x=>by kernel_rfl
end fP
namespace jq
def f(lf:Nat)(a0:List TV)(a1:List TV):Option ((List TV)×Bool×Int×Unit) :=
 bd (dD.f lf a0 a1) fun r1 =>
 br (r1.1 != 0) (
 some ([],false,r1.1,())) (
 bd (fP.f lf a0 a1) fun r2 =>
 some (r2.1,r2.2.1,0,()))
def E(lf:Nat):Entry:=⟨[(.sl yV),(.sl yV)],[(.sl yV),.bool,(.int .i64)],fun x=>f lf x.1 x.2.1⟩
theorem ok(lf:Nat):Ok 12 (E lf):=okT (an:=(annsL [])) (lf:=lf) (tC (dD.ok lf) (tC (fP.ok lf) tN)) aoN fun x=>by kernel_rfl
end jq
namespace dJ
def anns:FuncId→FA:=annsL [(44,⟨annOf [(0,⟨kx 29 [0,1,2,7,8],[⟨.tmp 7,yV,50⟩],[]⟩,⟨kx 29 [6,7],[⟨.tmp 7,yV,50⟩],[]⟩)],none,[]⟩)]
def r0{ρ:Type}(lf:Nat)(v0 v1:List TV)(v2:List ByteArray)(v3:Int)(v4:List TV)(K:Int→(List TV)→Option ρ)(E0:(List TV)→Option ρ):Option ρ :=
 br (decide (v3 < ((v0.length:Nat):Int))) (
 bd (idxL v0 v3) fun y1 =>
 bd (idxL v1 v3) fun y2 =>
 bd (iI.f lf y1 y2 v2) fun r3 =>
 bd (apL true 80 v4 [r3.1]) fun q4 =>
 K (i64.wrap (v3+1)) q4) (
 E0 v4)
def l0(lf:Nat)(v0 v1:List TV)(v2:List ByteArray):Nat→Int→(List TV)→Option (((List TV)×Unit)×Unit)
 | 0,_,_=>none
 | n+1,v3,v4=>r0 lf v0 v1 v2 v3 v4 (l0 lf v0 v1 v2 n) (fun w0=>some ((w0,()),()))
def sh0:ShS:=⟨[.s (.sl yV),.s (.sl yV),.s (.sl .str),.a 4,.s (.row 0),.s (.int .i64),.a 20],[.row yV 50 false]⟩
def S0(p:(List TV)×(List TV)×(List ByteArray)×Int×(List TV)×Unit):St:=sh0.b p
def xh0:ShS:=⟨[.a 7,.s (.row 0),.a 21],[.row yV 50 false]⟩
def o0(v0 v1:List TV)(v2:List ByteArray)(y:((List TV)×Unit)×Unit):Alt:=.one (.exit 0) (xh0.b (y.1.1,()))
def tb(lf:Nat):List (FuncId×Entry):=[(89,iI.E lf)]
def aed(lf:Nat):List (Nat×(St→Option LTE)):=[(0,sumE sh0 fun(p:(List TV)×(List TV)×(List ByteArray)×Int×(List TV)×Unit)=>⟨((List TV)×Unit)×Unit,l0 lf p.1 p.2.1 p.2.2.1 (lf+40) p.2.2.2.1 p.2.2.2.2.1,o0 p.1 p.2.1 p.2.2.1⟩)]
def ls(lf:Nat):List (Nat×FuncId×Sums):=[(13,44,sumsL (aed lf))]
def it0{ρ:Type}(lf n:Nat)(st:St)(k:KE ρ):Option ρ:=itG anns (ls lf) (tb lf) lf 13 44 0 0 (sumsL (aed lf)) n st k
theorem t0{ρ:Type}(lf n:Nat)(v0 v1:List TV)(v2:List ByteArray)(v3:Int)(v4:List TV)(k:KE ρ):it0 lf (n+1) (S0 (v0,v1,v2,v3,v4,())) k=r0 lf v0 v1 v2 v3 v4 (fun x0 x1=>it0 lf n (S0 (v0,v1,v2,x0,x1,())) k) (fun w0=>k (.exit 0) (xh0.b (w0,()))):=by kernel_rfl
theorem u0{ρ:Type}(lf:Nat)(v0 v1:List TV)(v2:List ByteArray)(k:KE ρ):∀ (n:Nat) (v3:Int) (v4:List TV),it0 lf n (S0 (v0,v1,v2,v3,v4,())) k=bd (l0 lf v0 v1 v2 n v3 v4) fun y=>altK k (o0 v0 v1 v2 y)
 | 0,_,_=>by rw[l0,bd_none];rfl
 | n+1,v3,v4=>by
  rw[t0];simp only[l0,r0,u0 lf v0 v1 v2 k n,bd_br,bd_bd,bd_some',bd_none,br_t,br_f,o0,altK]
theorem sl(lf:Nat):SL anns (ls lf) (tb lf) lf (ls lf):=slC (laC (fun _=>by kernel_rfl) (fun _ (x:(List TV)×(List TV)×(List ByteArray)×Int×(List TV)×Unit) k=>bH (u0 lf x.1 x.2.1 x.2.2.1 k (lf+40) x.2.2.2.1 x.2.2.2.2.1)) laN) slN
def f(lf:Nat)(a0:List TV)(a1:List TV)(a2:List ByteArray):Option ((List TV)×Unit) :=
 bd (l0 lf a0 a1 a2 (lf+40) 0 []) fun z5 =>
 some (z5.1.1,())
def E(lf:Nat):Entry:=⟨[(.sl yV),(.sl yV),(.sl .str)],[(.sl yV)],fun x=>f lf x.1 x.2.1 x.2.2.1⟩
theorem ok(lf:Nat):Ok 44 (E lf):=okL (tC (iI.ok lf) tN) (aoC aoN) (sl lf) fun x=>by kernel_rfl
end dJ
namespace je
def f(lf:Nat)(a0:List TV)(a1:List TV)(a2:List ByteArray):Option ((List TV)×Int×Unit) :=
 bd (dD.f lf a0 a1) fun r1 =>
 br (r1.1 != 0) (
 some ([],r1.1,())) (
 bd (bW.f lf a2) fun r2 =>
 br (r2.1 != 0) (
 some ([],r2.1,())) (
 bd (dJ.f lf a0 a1 a2) fun r3 =>
 some (r3.1,0,())))
def E(lf:Nat):Entry:=⟨[(.sl yV),(.sl yV),(.sl .str)],[(.sl yV),(.int .i64)],fun x=>f lf x.1 x.2.1 x.2.2.1⟩
theorem ok(lf:Nat):Ok 14 (E lf):=okT (an:=(annsL [])) (lf:=lf) (tC (dD.ok lf) (tC (bW.ok lf) (tC (dJ.ok lf) tN))) aoN fun x=>by kernel_rfl
end je
end
end Go.Q
namespace Go.Q
open Go.IntKind (i64)
open Go Go.RowKit
open Go.Rx (br bd sIdx sCat sCut iQuo iRem)
noncomputable section
namespace dF
def anns:FuncId→FA:=annsL [(46,⟨annOf [(0,⟨kx 30 [0,1,6,7],[⟨.tmp 6,yV,50⟩],[]⟩,⟨kx 30 [4,5,6],[⟨.tmp 6,yV,50⟩],[]⟩)],none,[]⟩)]
def r0{ρ:Type}(lf:Nat)(v0 v1:List TV)(v2:Int)(v3:List TV)(K:Int→(List TV)→Option ρ)(E0:(List TV)→Option ρ):Option ρ :=
 br (decide (v2 < ((v0.length:Nat):Int))) (
 bd (idxL v0 v2) fun y1 =>
 bd (idxL v1 v2) fun y2 =>
 bd (iw.f lf y1 y2) fun r3 =>
 bd (apL true 80 v3 [r3.1]) fun q4 =>
 K (i64.wrap (v2+1)) q4) (
 E0 v3)
def l0(lf:Nat)(v0 v1:List TV):Nat→Int→(List TV)→Option (((List TV)×Unit)×Unit)
 | 0,_,_=>none
 | n+1,v2,v3=>r0 lf v0 v1 v2 v3 (l0 lf v0 v1 n) (fun w0=>some ((w0,()),()))
def sh0:ShS:=⟨[.s (.sl yV),.s (.sl yV),.a 4,.s (.row 0),.s (.int .i64),.a 22],[.row yV 50 false]⟩
def S0(p:(List TV)×(List TV)×Int×(List TV)×Unit):St:=sh0.b p
def xh0:ShS:=⟨[.a 6,.s (.row 0),.a 23],[.row yV 50 false]⟩
def o0(v0 v1:List TV)(y:((List TV)×Unit)×Unit):Alt:=.one (.exit 0) (xh0.b (y.1.1,()))
def tb(lf:Nat):List (FuncId×Entry):=[(76,bU.E lf),(91,iw.E lf)]
def aee(lf:Nat):List (Nat×(St→Option LTE)):=[(0,sumE sh0 fun(p:(List TV)×(List TV)×Int×(List TV)×Unit)=>⟨((List TV)×Unit)×Unit,l0 lf p.1 p.2.1 (lf+40) p.2.2.1 p.2.2.2.1,o0 p.1 p.2.1⟩)]
def ls(lf:Nat):List (Nat×FuncId×Sums):=[(13,46,sumsL (aee lf))]
def it0{ρ:Type}(lf n:Nat)(st:St)(k:KE ρ):Option ρ:=itG anns (ls lf) (tb lf) lf 13 46 0 0 (sumsL (aee lf)) n st k
theorem t0{ρ:Type}(lf n:Nat)(v0 v1:List TV)(v2:Int)(v3:List TV)(k:KE ρ):it0 lf (n+1) (S0 (v0,v1,v2,v3,())) k=r0 lf v0 v1 v2 v3 (fun x0 x1=>it0 lf n (S0 (v0,v1,x0,x1,())) k) (fun w0=>k (.exit 0) (xh0.b (w0,()))):=by kernel_rfl
theorem u0{ρ:Type}(lf:Nat)(v0 v1:List TV)(k:KE ρ):∀ (n:Nat) (v2:Int) (v3:List TV),it0 lf n (S0 (v0,v1,v2,v3,())) k=bd (l0 lf v0 v1 n v2 v3) fun y=>altK k (o0 v0 v1 y)
 | 0,_,_=>by rw[l0,bd_none];rfl
 | n+1,v2,v3=>by
  rw[t0];simp only[l0,r0,u0 lf v0 v1 k n,bd_br,bd_bd,bd_some',bd_none,br_t,br_f,o0,altK]
theorem sl(lf:Nat):SL anns (ls lf) (tb lf) lf (ls lf):=slC (laC (fun _=>by kernel_rfl) (fun _ (x:(List TV)×(List TV)×Int×(List TV)×Unit) k=>bH (u0 lf x.1 x.2.1 k (lf+40) x.2.2.1 x.2.2.2.1)) laN) slN
def f(lf:Nat)(a0:List TV)(a1:List TV):Option ((List TV)×Bool×Unit) :=
 bd (l0 lf a0 a1 (lf+40) 0 []) fun z5 =>
 bd (bU.f lf z5.1.1) fun r6 =>
 some (r6.1,r6.2.1,())
def E(lf:Nat):Entry:=⟨[(.sl yV),(.sl yV)],[(.sl yV),.bool],fun x=>f lf x.1 x.2.1⟩
theorem ok(lf:Nat):Ok 46 (E lf):=okL (tC (bU.ok lf) (tC (iw.ok lf) tN)) (aoC aoN) (sl lf) fun x=>by kernel_rfl
end dF
namespace iQ
def f(lf:Nat)(a0:List TV)(a1:List TV):Option ((List TV)×Bool×Int×Unit) :=
 bd (dD.f lf a0 a1) fun r1 =>
 br (r1.1 != 0) (
 some ([],false,r1.1,())) (
 bd (dF.f lf a0 a1) fun r2 =>
 some (r2.1,r2.2.1,0,()))
def E(lf:Nat):Entry:=⟨[(.sl yV),(.sl yV)],[(.sl yV),.bool,(.int .i64)],fun x=>f lf x.1 x.2.1⟩
theorem ok(lf:Nat):Ok 16 (E lf):=okT (an:=(annsL [])) (lf:=lf) (tC (dD.ok lf) (tC (dF.ok lf) tN)) aoN fun x=>by kernel_rfl
end iQ
end
end Go.Q
namespace Go.Q
open Go Go.RowKit
open Go.Rx (br bd sIdx sCat sCut iQuo iRem)
noncomputable section
namespace lY
def f(lf:Nat)(a0:Int):Option (EX×Unit) :=
 some ((EX.mk 1 (⟨#[]⟩:ByteArray) a0 []),())
def E(lf:Nat):Entry:=⟨[(.int .i64)],[(.rc false)],fun x=>f lf x.1⟩
theorem ok(lf:Nat):Ok 19 (E lf):=okT (an:=(annsL [])) (lf:=lf) tN aoN fun x=>by kernel_rfl
end lY
namespace dH
def f(lf:Nat)(a0:ByteArray):Option (EX×Unit) :=
 some ((EX.mk 0 a0 0 []),())
def E(lf:Nat):Entry:=⟨[.str],[(.rc false)],fun x=>f lf x.1⟩
theorem ok(lf:Nat):Ok 20 (E lf):=okT (an:=(annsL [])) (lf:=lf) tN aoN fun x=>by kernel_rfl
end dH
namespace nZ
def f(lf:Nat)(a0:Int)(a1:EX)(a2:EX):Option (EX×Unit) :=
 some ((EX.mk a0 (⟨#[]⟩:ByteArray) 0 [(EX.mk a1.i a1.s a1.j a1.l),(EX.mk a2.i a2.s a2.j a2.l)]),())
def E(lf:Nat):Entry:=⟨[(.int .i64),(.rc false),(.rc false)],[(.rc false)],fun x=>f lf x.1 x.2.1 x.2.2.1⟩
theorem ok(lf:Nat):Ok 52 (E lf):=okT (an:=(annsL [])) (lf:=lf) tN aoN fun x=>by kernel_rfl
end nZ
end
end Go.Q
namespace Go.Q
open Go Go.RowKit
open Go.Rx (br bd sIdx sCat sCut iQuo iRem)
noncomputable section
namespace lW
def f(lf:Nat)(a0:Int)(a1:EX)(a2:EX):Option (CX×Unit) :=
 some ((CX.mk a0 [(EX.mk a1.i a1.s a1.j a1.l),(EX.mk a2.i a2.s a2.j a2.l)] []),())
def E(lf:Nat):Entry:=⟨[(.int .i64),(.rc false),(.rc false)],[(.rc true)],fun x=>f lf x.1 x.2.1 x.2.2.1⟩
theorem ok(lf:Nat):Ok 58 (E lf):=okT (an:=(annsL [])) (lf:=lf) tN aoN fun x=>by kernel_rfl
end lW
namespace oh
def f(lf:Nat)(a0:Int)(a1:CX)(a2:CX):Option (CX×Unit) :=
 some ((CX.mk a0 [] [(CX.mk a1.i a1.l a1.m),(CX.mk a2.i a2.l a2.m)]),())
def E(lf:Nat):Entry:=⟨[(.int .i64),(.rc true),(.rc true)],[(.rc true)],fun x=>f lf x.1 x.2.1 x.2.2.1⟩
theorem ok(lf:Nat):Ok 27 (E lf):=okT (an:=(annsL [])) (lf:=lf) tN aoN fun x=>by kernel_rfl
end oh
end
end Go.Q
