import Derived.Test.YtgbokahnpmmfoaaGreatDoorProg
import Derived.KernelRfl
import Derived.Test.YtgbokahnpmmfoaaGreatDoorSJE3
import Derived.Test.YtgbokahnpmmfoaaGreatDoorSJG1
import Derived.Test.YtgbokahnpmmfoaaGreatDoorSJG3
import Derived.Test.YtgbokahnpmmfoaaGreatDoorSJG5
import Derived.Test.YtgbokahnpmmfoaaGreatDoorSJG6
import Derived.Test.YtgbokahnpmmfoaaGreatDoorSJG7
set_option linter.unusedVariables false
set_option linter.unusedSimpArgs false
set_option linter.unusedSectionVars false
set_option maxRecDepth 100000
namespace Go.Q
open Go.IntKind (i64)
open Go Go.RowKit
open Go.Rx (br bd sIdx sCat sCut iQuo iRem)
noncomputable section
namespace dO
def anns:FuncId→FA:=annsL [(19,⟨annOf [(0,⟨kx 26 [0,1,5],[],[]⟩,⟨kx 26 [4],[],[]⟩)],none,[]⟩)]
def r0{ρ:Type}(lf:Nat)(v0 v1:List (Int×(Int×(TV×Unit))))(v2:Int)(K:Int→Option ρ)(E0:Option ρ)(E1:Option ρ):Option ρ :=
 br (decide (v2 < ((v0.length:Nat):Int))) (
 bd (idxL v0 v2) fun y1 =>
 bd (idxL v1 v2) fun y2 =>
 bd (some (!((y1.1==y2.1)&&((y1.2.1==y2.2.1)&&((((y1.2.2.1.1.1==y2.2.2.1.1.1)&&((y1.2.2.1.1.2.1==y2.2.2.1.1.2.1)&&((y1.2.2.1.1.2.2.1==y2.2.2.1.1.2.2.1)&&true)))&&(((y1.2.2.1.2.1.1==y2.2.2.1.2.1.1)&&((y1.2.2.1.2.1.2.1==y2.2.2.1.2.1.2.1)&&((y1.2.2.1.2.1.2.2.1==y2.2.2.1.2.1.2.2.1)&&true)))&&true))&&true))))) fun r3 =>
 br r3 (
 E0) (
 K (i64.wrap (v2+1)))) (
 E1)
def l0(lf:Nat)(v0 v1:List (Int×(Int×(TV×Unit)))):Nat→Int→Option (Bool×(Unit)×(Unit)×Unit)
 | 0,_=>none
 | n+1,v2=>r0 lf v0 v1 v2 (l0 lf v0 v1 n) (some (true,(()),((()),()))) (some (false,(()),((()),())))
def sh0:ShS:=⟨[.s (.sl (.pair (.int .i64) (.pair (.int .i64) (.pair yV .unit)))),.s (.sl (.pair (.int .i64) (.pair (.int .i64) (.pair yV .unit)))),.a 3,.s (.int .i64),.a 20],[]⟩
def S0(p:(List (Int×(Int×(TV×Unit))))×(List (Int×(Int×(TV×Unit))))×Int×Unit):St:=sh0.b p
def xh0:ShS:=⟨[.a 4,.s .bool,.a 21],[]⟩
def xh1:ShS:=⟨[.a 26],[]⟩
def o0(v0 v1:List (Int×(Int×(TV×Unit))))(y:Bool×(Unit)×(Unit)×Unit):Alt:=.two y.1 (.one .ret (xh0.b (false,()))) (.one (.exit 0) (xh1.b (())))
def tb(lf:Nat):List (FuncId×Entry):=[]
def aiA(lf:Nat):List (Nat×(St→Option LTE)):=[(0,sumE sh0 fun(p:(List (Int×(Int×(TV×Unit))))×(List (Int×(Int×(TV×Unit))))×Int×Unit)=>⟨Bool×(Unit)×(Unit)×Unit,l0 lf p.1 p.2.1 (lf+40) p.2.2.1,o0 p.1 p.2.1⟩)]
def ls(lf:Nat):List (Nat×FuncId×Sums):=[(13,19,sumsL (aiA lf))]
def it0{ρ:Type}(lf n:Nat)(st:St)(k:KE ρ):Option ρ:=itG anns (ls lf) (tb lf) lf 13 19 0 0 (sumsL (aiA lf)) n st k
theorem t0{ρ:Type}(lf n:Nat)(v0 v1:List (Int×(Int×(TV×Unit))))(v2:Int)(k:KE ρ):it0 lf (n+1) (S0 (v0,v1,v2,())) k=r0 lf v0 v1 v2 (fun x0=>it0 lf n (S0 (v0,v1,x0,())) k) (k .ret (xh0.b (false,()))) (k (.exit 0) (xh1.b (()))):=by kernel_rfl
theorem u0{ρ:Type}(lf:Nat)(v0 v1:List (Int×(Int×(TV×Unit))))(k:KE ρ):∀ (n:Nat) (v2:Int),it0 lf n (S0 (v0,v1,v2,())) k=bd (l0 lf v0 v1 n v2) fun y=>altK k (o0 v0 v1 y)
 | 0,_=>by rw[l0,au];rfl
 | n+1,v2=>by
  rw[t0];simp only[l0,r0,u0 lf v0 v1 k n,dh,cZ,aC,au,br_t,br_f,o0,altK]
theorem sl(lf:Nat):SL anns (ls lf) (tb lf) lf (ls lf):=slC (laC (fun _=>by kernel_rfl) (fun _ (x:(List (Int×(Int×(TV×Unit))))×(List (Int×(Int×(TV×Unit))))×Int×Unit) k=>aW (u0 lf x.1 x.2.1 k (lf+40) x.2.2.1)) laN) slN
def f(lf:Nat)(a0:List (Int×(Int×(TV×Unit))))(a1:List (Int×(Int×(TV×Unit)))):Option (Bool×Unit) :=
 br (((a0.length:Nat):Int) !=((a1.length:Nat):Int)) (
 some (false,())) (
 bd (l0 lf a0 a1 (lf+40) 0) fun z4 =>
 br z4.1 (
 some (false,())) (
 some (true,())))
def E(lf:Nat):Entry:=⟨[(.sl (.pair (.int .i64) (.pair (.int .i64) (.pair yV .unit)))),(.sl (.pair (.int .i64) (.pair (.int .i64) (.pair yV .unit))))],[.bool],fun x=>f lf x.1 x.2.1⟩
theorem ok(lf:Nat):Ok 19 (E lf):=okL tN (aoC aoN) (sl lf) fun x=>by kernel_rfl
end dO
namespace dY
def f(lf:Nat)(a0:List (Int×(Int×(TV×Unit))))(a1:List (Int×(Int×(TV×Unit))))(a2:Int):Option (Int×Unit) :=
 bd (dH.f lf a0 a2) fun r1 =>
 br (r1.1 != 0) (
 some (r1.1,())) (
 bd (dH.f lf a1 a2) fun r2 =>
 some (r2.1,()))
def E(lf:Nat):Entry:=⟨[(.sl (.pair (.int .i64) (.pair (.int .i64) (.pair yV .unit)))),(.sl (.pair (.int .i64) (.pair (.int .i64) (.pair yV .unit)))),(.int .i64)],[(.int .i64)],fun x=>f lf x.1 x.2.1 x.2.2.1⟩
theorem ok(lf:Nat):Ok 102 (E lf):=okT (an:=(annsL [])) (lf:=lf) (tC (dH.ok lf) tN) aoN fun x=>by kernel_rfl
end dY
namespace eu
def anns(lf:Nat):FuncId→FA:=annsL [(83,⟨annOf [],some (aG.spk lf),[]⟩),(103,⟨annOf [(0,⟨kx 28 [5,6,7],[],[]⟩,⟨kx 28 [4],[],[]⟩)],none,[]⟩)]
def r0{ρ:Type}(lf:Nat)(v1 v2:List TV)(v0:Int)(K:Int→Option ρ)(E0:Option ρ)(E1:Option ρ):Option ρ :=
 br (decide (v0 < ((v1.length:Nat):Int))) (
 bd (idxB v1.length v0) fun j3 =>
 bd (v1[j3]?) fun y4 =>
 bd (idxB v2.length v0) fun j5 =>
 bd (v2[j5]?) fun y6 =>
 bd (iJ.f lf y4 y6) fun r7 =>
 br (!r7.1) (
 E0) (
 K (i64.wrap (v0+1)))) (
 E1)
def l0(lf:Nat)(v1 v2:List TV):Nat→Int→Option (Bool×(Unit)×(Unit)×Unit)
 | 0,_=>none
 | n+1,v0=>r0 lf v1 v2 v0 (l0 lf v1 v2 n) (some (true,(()),((()),()))) (some (false,(()),((()),())))
def sh0:ShS:=⟨[.a 5,.s (.row 0),.s (.row 1),.s (.int .i64),.a 20],[.row yV 29 false,.row yV 29 false]⟩
def S0(p:Int×(List TV)×(List TV)×Unit):St:=sh0.b p
def xh0:ShS:=⟨[.a 4,.s .bool,.a 23],[.row yV 29 false,.row yV 29 false]⟩
def xh1:ShS:=⟨[.a 28],[.row yV 29 false,.row yV 29 false]⟩
def o0(v1 v2:List TV)(y:Bool×(Unit)×(Unit)×Unit):Alt:=.two y.1 (.one .ret (xh0.b (false,v1,v2,()))) (.one (.exit 0) (xh1.b (v1,v2,())))
def tb(lf:Nat):List (FuncId×Entry):=[(152,iJ.E lf)]
def af2(lf:Nat):List (Nat×(St→Option LTE)):=[(0,sumE sh0 fun(p:Int×(List TV)×(List TV)×Unit)=>⟨Bool×(Unit)×(Unit)×Unit,l0 lf p.2.1 p.2.2.1 (lf+40) p.1,o0 p.2.1 p.2.2.1⟩)]
def ls(lf:Nat):List (Nat×FuncId×Sums):=[(13,103,sumsL (af2 lf))]
def it0{ρ:Type}(lf n:Nat)(st:St)(k:KE ρ):Option ρ:=itG (anns lf) (ls lf) (tb lf) lf 13 103 0 2 (sumsL (af2 lf)) n st k
theorem t0{ρ:Type}(lf n:Nat)(v0:Int)(v1 v2:List TV)(k:KE ρ):it0 lf (n+1) (S0 (v0,v1,v2,())) k=r0 lf v1 v2 v0 (fun x0=>it0 lf n (S0 (x0,v1,v2,())) k) (k .ret (xh0.b (false,v1,v2,()))) (k (.exit 0) (xh1.b (v1,v2,()))):=by kernel_rfl
theorem u0{ρ:Type}(lf:Nat)(v1 v2:List TV)(k:KE ρ):∀ (n:Nat) (v0:Int),it0 lf n (S0 (v0,v1,v2,())) k=bd (l0 lf v1 v2 n v0) fun y=>altK k (o0 v1 v2 y)
 | 0,_=>by rw[l0,au];rfl
 | n+1,v0=>by
  rw[t0];simp only[l0,r0,u0 lf v1 v2 k n,dh,cZ,aC,au,br_t,br_f,o0,altK]
theorem sl(lf:Nat):SL (anns lf) (ls lf) (tb lf) lf (ls lf):=slC (laC (fun _=>by kernel_rfl) (fun _ (x:Int×(List TV)×(List TV)×Unit) k=>aW (u0 lf x.2.1 x.2.2.1 k (lf+40) x.1)) laN) slN
def f(lf:Nat)(a0:List (Int×(Int×(TV×Unit))))(a1:List (Int×(Int×(TV×Unit)))):Option (Bool×Unit) :=
 bd (aG.f lf a0) fun r1 =>
 bd (aG.f lf a1) fun r2 =>
 bd (l0 lf r1.1 r2.1 (lf+40) 0) fun z8 =>
 br z8.1 (
 some (false,())) (
 some (true,()))
def E(lf:Nat):Entry:=⟨[(.sl (.pair (.int .i64) (.pair (.int .i64) (.pair yV .unit)))),(.sl (.pair (.int .i64) (.pair (.int .i64) (.pair yV .unit))))],[.bool],fun x=>f lf x.1 x.2.1⟩
theorem ok(lf:Nat):Ok 103 (E lf):=okL (tC (iJ.ok lf) tN) (aoP (aG.ok lf) (aoC aoN)) (sl lf) fun x=>by kernel_rfl
end eu
namespace kS
def f(lf:Nat)(a0:List (Int×(Int×(TV×Unit))))(a1:List (Int×(Int×(TV×Unit))))(a2:Int):Option (Bool×Int×Unit) :=
 bd (dY.f lf a0 a1 a2) fun r1 =>
 br (r1.1 != 0) (
 some (false,r1.1,())) (
 bd (eu.f lf a0 a1) fun r2 =>
 some (r2.1,0,()))
def E(lf:Nat):Entry:=⟨[(.sl (.pair (.int .i64) (.pair (.int .i64) (.pair yV .unit)))),(.sl (.pair (.int .i64) (.pair (.int .i64) (.pair yV .unit)))),(.int .i64)],[.bool,(.int .i64)],fun x=>f lf x.1 x.2.1 x.2.2.1⟩
theorem ok(lf:Nat):Ok 46 (E lf):=okT (an:=(annsL [])) (lf:=lf) (tC (dY.ok lf) (tC (eu.ok lf) tN)) aoN fun x=>by kernel_rfl
end kS
namespace gJ
def anns(lf:Nat):FuncId→FA:=annsL [(83,⟨annOf [],some (aG.spk lf),[]⟩),(105,⟨annOf [(0,⟨kx 32 [5,6,7],[],[]⟩,⟨kx 32 [4,5],[],[]⟩)],none,[]⟩)]
def r0{ρ:Type}(lf:Nat)(v2:List TV)(v0:Int)(v1:List TV)(K:Int→(List TV)→Option ρ)(E0:(List TV)→Option ρ):Option ρ :=
 br (decide (v0 < ((v1.length:Nat):Int))) (
 bd (idxB v1.length v0) fun j3 =>
 bd (v1[j3]?) fun y4 =>
 bd (idxB v2.length v0) fun j5 =>
 bd (v2[j5]?) fun y6 =>
 bd (gI.f lf y4 y6) fun r7 =>
 bd (idxB v1.length v0) fun j8 =>
 bd (upE v1 j8 fun _=>some r7.1) fun q9 =>
 K (i64.wrap (v0+1)) q9) (
 E0 v1)
def l0(lf:Nat)(v2:List TV):Nat→Int→(List TV)→Option (((List TV)×Unit)×Unit)
 | 0,_,_=>none
 | n+1,v0,v1=>r0 lf v2 v0 v1 (l0 lf v2 n) (fun w0=>some ((w0,()),()))
def sh0:ShS:=⟨[.a 5,.s (.row 0),.s (.row 1),.s (.int .i64),.a 24],[.row yV 29 false,.row yV 29 false]⟩
def S0(p:Int×(List TV)×(List TV)×Unit):St:=sh0.b p
def xh0:ShS:=⟨[.a 5,.s (.row 0),.a 26],[.row yV 29 false,.row yV 29 false]⟩
def o0(v2:List TV)(y:((List TV)×Unit)×Unit):Alt:=.one (.exit 0) (xh0.b (y.1.1,v2,()))
def tb(lf:Nat):List (FuncId×Entry):=[(77,di.E lf),(126,gI.E lf)]
def af4(lf:Nat):List (Nat×(St→Option LTE)):=[(0,sumE sh0 fun(p:Int×(List TV)×(List TV)×Unit)=>⟨((List TV)×Unit)×Unit,l0 lf p.2.2.1 (lf+40) p.1 p.2.1,o0 p.2.2.1⟩)]
def ls(lf:Nat):List (Nat×FuncId×Sums):=[(13,105,sumsL (af4 lf))]
def it0{ρ:Type}(lf n:Nat)(st:St)(k:KE ρ):Option ρ:=itG (anns lf) (ls lf) (tb lf) lf 13 105 0 2 (sumsL (af4 lf)) n st k
theorem t0{ρ:Type}(lf n:Nat)(v0:Int)(v1 v2:List TV)(k:KE ρ):it0 lf (n+1) (S0 (v0,v1,v2,())) k=r0 lf v2 v0 v1 (fun x0 x1=>it0 lf n (S0 (x0,x1,v2,())) k) (fun w0=>k (.exit 0) (xh0.b (w0,v2,()))):=by kernel_rfl
theorem u0{ρ:Type}(lf:Nat)(v2:List TV)(k:KE ρ):∀ (n:Nat) (v0:Int) (v1:List TV),it0 lf n (S0 (v0,v1,v2,())) k=bd (l0 lf v2 n v0 v1) fun y=>altK k (o0 v2 y)
 | 0,_,_=>by rw[l0,au];rfl
 | n+1,v0,v1=>by
  rw[t0];simp only[l0,r0,u0 lf v2 k n,dh,cZ,aC,au,br_t,br_f,o0,altK]
theorem sl(lf:Nat):SL (anns lf) (ls lf) (tb lf) lf (ls lf):=slC (laC (fun _=>by kernel_rfl) (fun _ (x:Int×(List TV)×(List TV)×Unit) k=>aW (u0 lf x.2.2.1 k (lf+40) x.1 x.2.1)) laN) slN
def f(lf:Nat)(a0:List (Int×(Int×(TV×Unit))))(a1:List (Int×(Int×(TV×Unit)))):Option ((List (Int×(Int×(TV×Unit))))×Unit) :=
 bd (aG.f lf a0) fun r1 =>
 bd (aG.f lf a1) fun r2 =>
 bd (l0 lf r2.1 (lf+40) 0 r1.1) fun z11 =>
 bd (di.f lf z11.1.1) fun r12 =>
 some (r12.1,())
def E(lf:Nat):Entry:=⟨[(.sl (.pair (.int .i64) (.pair (.int .i64) (.pair yV .unit)))),(.sl (.pair (.int .i64) (.pair (.int .i64) (.pair yV .unit))))],[(.sl (.pair (.int .i64) (.pair (.int .i64) (.pair yV .unit))))],fun x=>f lf x.1 x.2.1⟩
theorem ok(lf:Nat):Ok 105 (E lf):=okL (tC (di.ok lf) (tC (gI.ok lf) tN)) (aoP (aG.ok lf) (aoC aoN)) (sl lf) fun x=>by kernel_rfl
end gJ
end
end Go.Q
namespace Go.Q
open Go.IntKind (i64)
open Go Go.RowKit
open Go.Rx (br bd sIdx sCat sCut iQuo iRem)
noncomputable section
namespace kz
def f(lf:Nat)(a0:List (Int×(Int×(TV×Unit))))(a1:List (Int×(Int×(TV×Unit))))(a2:Int):Option ((List (Int×(Int×(TV×Unit))))×Int×Unit) :=
 bd (dY.f lf a0 a1 a2) fun r1 =>
 br (r1.1 != 0) (
 some ([],r1.1,())) (
 bd (gJ.f lf a0 a1) fun r2 =>
 some (r2.1,0,()))
def E(lf:Nat):Entry:=⟨[(.sl (.pair (.int .i64) (.pair (.int .i64) (.pair yV .unit)))),(.sl (.pair (.int .i64) (.pair (.int .i64) (.pair yV .unit)))),(.int .i64)],[(.sl (.pair (.int .i64) (.pair (.int .i64) (.pair yV .unit)))),(.int .i64)],fun x=>f lf x.1 x.2.1 x.2.2.1⟩
theorem ok(lf:Nat):Ok 48 (E lf):=okT (an:=(annsL [])) (lf:=lf) (tC (dY.ok lf) (tC (gJ.ok lf) tN)) aoN fun x=>by kernel_rfl
end kz
namespace dI
def anns:FuncId→FA:=annsL [(153,⟨annOf [(0,⟨kx 18 [0,4],[],[]⟩,⟨kx 18 [0,2,3],[],[]⟩)],none,[]⟩)]
def r0{ρ:Type}(lf:Nat)(v0:List TV)(v1:Int)(K:Int→Option ρ)(E0:Option ρ)(E1:Option ρ):Option ρ :=
 br (decide (v1 < ((v0.length:Nat):Int))) (
 bd (idxL v0 v1) fun y1 =>
 bd (dK.f lf y1) fun r2 =>
 br r2.1 (
 E0) (
 K (i64.wrap (v1+1)))) (
 E1)
def l0(lf:Nat)(v0:List TV):Nat→Int→Option (Bool×(Unit)×(Unit)×Unit)
 | 0,_=>none
 | n+1,v1=>r0 lf v0 v1 (l0 lf v0 n) (some (true,(()),((()),()))) (some (false,(()),((()),())))
def sh0:ShS:=⟨[.s (.sl yV),.a 3,.s (.int .i64),.a 13],[]⟩
def S0(p:(List TV)×Int×Unit):St:=sh0.b p
def xh0:ShS:=⟨[.s (.sl yV),.a 1,.s .nil,.s .bool,.a 14],[]⟩
def xh1:ShS:=⟨[.s (.sl yV),.a 17],[]⟩
def o0(v0:List TV)(y:Bool×(Unit)×(Unit)×Unit):Alt:=.two y.1 (.one .ret (xh0.b (v0,false,()))) (.one (.exit 0) (xh1.b (v0,())))
def tb(lf:Nat):List (FuncId×Entry):=[(43,dK.E lf),(77,di.E lf)]
def af6(lf:Nat):List (Nat×(St→Option LTE)):=[(0,sumE sh0 fun(p:(List TV)×Int×Unit)=>⟨Bool×(Unit)×(Unit)×Unit,l0 lf p.1 (lf+40) p.2.1,o0 p.1⟩)]
def ls(lf:Nat):List (Nat×FuncId×Sums):=[(13,153,sumsL (af6 lf))]
def it0{ρ:Type}(lf n:Nat)(st:St)(k:KE ρ):Option ρ:=itG anns (ls lf) (tb lf) lf 13 153 0 0 (sumsL (af6 lf)) n st k
theorem t0{ρ:Type}(lf n:Nat)(v0:List TV)(v1:Int)(k:KE ρ):it0 lf (n+1) (S0 (v0,v1,())) k=r0 lf v0 v1 (fun x0=>it0 lf n (S0 (v0,x0,())) k) (k .ret (xh0.b (v0,false,()))) (k (.exit 0) (xh1.b (v0,()))):=by kernel_rfl
theorem u0{ρ:Type}(lf:Nat)(v0:List TV)(k:KE ρ):∀ (n:Nat) (v1:Int),it0 lf n (S0 (v0,v1,())) k=bd (l0 lf v0 n v1) fun y=>altK k (o0 v0 y)
 | 0,_=>by rw[l0,au];rfl
 | n+1,v1=>by
  rw[t0];simp only[l0,r0,u0 lf v0 k n,dh,cZ,aC,au,br_t,br_f,o0,altK]
theorem sl(lf:Nat):SL anns (ls lf) (tb lf) lf (ls lf):=slC (laC (fun _=>by kernel_rfl) (fun _ (x:(List TV)×Int×Unit) k=>aW (u0 lf x.1 k (lf+40) x.2.1)) laN) slN
def f(lf:Nat)(a0:List TV):Option ((List (Int×(Int×(TV×Unit))))×Bool×Unit) :=
 bd (l0 lf a0 (lf+40) 0) fun z3 =>
 br z3.1 (
 some ([],false,())) (
 bd (di.f lf a0) fun r4 =>
 some (r4.1,true,()))
def E(lf:Nat):Entry:=⟨[(.sl yV)],[(.sl (.pair (.int .i64) (.pair (.int .i64) (.pair yV .unit)))),.bool],fun x=>f lf x.1⟩
theorem ok(lf:Nat):Ok 153 (E lf):=okL (tC (dK.ok lf) (tC (di.ok lf) tN)) (aoC aoN) (sl lf) fun x=>by kernel_rfl
end dI
namespace iR
def anns(lf:Nat):FuncId→FA:=annsL [(83,⟨annOf [],some (aG.spk lf),[]⟩),(106,⟨annOf [(0,⟨kx 35 [6,7,8],[],[]⟩,⟨kx 35 [4,5,6],[],[]⟩)],none,[]⟩)]
def r0{ρ:Type}(lf:Nat)(v2:List TV)(v0:Int)(v1:List TV)(K:Int→(List TV)→Option ρ)(E0:(List TV)→Option ρ):Option ρ :=
 br (decide (v0 < ((v1.length:Nat):Int))) (
 bd (idxB v1.length v0) fun j3 =>
 bd (v1[j3]?) fun y4 =>
 bd (idxB v2.length v0) fun j5 =>
 bd (v2[j5]?) fun y6 =>
 bd (iO.f lf y4 y6) fun r7 =>
 bd (idxB v1.length v0) fun j8 =>
 bd (upE v1 j8 fun _=>some r7.1) fun q9 =>
 K (i64.wrap (v0+1)) q9) (
 E0 v1)
def l0(lf:Nat)(v2:List TV):Nat→Int→(List TV)→Option (((List TV)×Unit)×Unit)
 | 0,_,_=>none
 | n+1,v0,v1=>r0 lf v2 v0 v1 (l0 lf v2 n) (fun w0=>some ((w0,()),()))
def sh0:ShS:=⟨[.a 6,.s (.row 0),.s (.row 1),.s (.int .i64),.a 26],[.row yV 29 false,.row yV 29 false]⟩
def S0(p:Int×(List TV)×(List TV)×Unit):St:=sh0.b p
def xh0:ShS:=⟨[.a 6,.s (.row 0),.a 28],[.row yV 29 false,.row yV 29 false]⟩
def o0(v2:List TV)(y:((List TV)×Unit)×Unit):Alt:=.one (.exit 0) (xh0.b (y.1.1,v2,()))
def tb(lf:Nat):List (FuncId×Entry):=[(130,iO.E lf),(153,dI.E lf)]
def af5(lf:Nat):List (Nat×(St→Option LTE)):=[(0,sumE sh0 fun(p:Int×(List TV)×(List TV)×Unit)=>⟨((List TV)×Unit)×Unit,l0 lf p.2.2.1 (lf+40) p.1 p.2.1,o0 p.2.2.1⟩)]
def ls(lf:Nat):List (Nat×FuncId×Sums):=[(13,106,sumsL (af5 lf))]
def it0{ρ:Type}(lf n:Nat)(st:St)(k:KE ρ):Option ρ:=itG (anns lf) (ls lf) (tb lf) lf 13 106 0 2 (sumsL (af5 lf)) n st k
theorem t0{ρ:Type}(lf n:Nat)(v0:Int)(v1 v2:List TV)(k:KE ρ):it0 lf (n+1) (S0 (v0,v1,v2,())) k=r0 lf v2 v0 v1 (fun x0 x1=>it0 lf n (S0 (x0,x1,v2,())) k) (fun w0=>k (.exit 0) (xh0.b (w0,v2,()))):=by kernel_rfl
theorem u0{ρ:Type}(lf:Nat)(v2:List TV)(k:KE ρ):∀ (n:Nat) (v0:Int) (v1:List TV),it0 lf n (S0 (v0,v1,v2,())) k=bd (l0 lf v2 n v0 v1) fun y=>altK k (o0 v2 y)
 | 0,_,_=>by rw[l0,au];rfl
 | n+1,v0,v1=>by
  rw[t0];simp only[l0,r0,u0 lf v2 k n,dh,cZ,aC,au,br_t,br_f,o0,altK]
theorem sl(lf:Nat):SL (anns lf) (ls lf) (tb lf) lf (ls lf):=slC (laC (fun _=>by kernel_rfl) (fun _ (x:Int×(List TV)×(List TV)×Unit) k=>aW (u0 lf x.2.2.1 k (lf+40) x.1 x.2.1)) laN) slN
def f(lf:Nat)(a0:List (Int×(Int×(TV×Unit))))(a1:List (Int×(Int×(TV×Unit)))):Option ((List (Int×(Int×(TV×Unit))))×Bool×Unit) :=
 bd (aG.f lf a0) fun r1 =>
 bd (aG.f lf a1) fun r2 =>
 bd (l0 lf r2.1 (lf+40) 0 r1.1) fun z11 =>
 bd (dI.f lf z11.1.1) fun r12 =>
 some (r12.1,r12.2.1,())
def E(lf:Nat):Entry:=⟨[(.sl (.pair (.int .i64) (.pair (.int .i64) (.pair yV .unit)))),(.sl (.pair (.int .i64) (.pair (.int .i64) (.pair yV .unit))))],[(.sl (.pair (.int .i64) (.pair (.int .i64) (.pair yV .unit)))),.bool],fun x=>f lf x.1 x.2.1⟩
theorem ok(lf:Nat):Ok 106 (E lf):=okL (tC (iO.ok lf) (tC (dI.ok lf) tN)) (aoP (aG.ok lf) (aoC aoN)) (sl lf) fun x=>by kernel_rfl
end iR
namespace kD
def f(lf:Nat)(a0:List (Int×(Int×(TV×Unit))))(a1:List (Int×(Int×(TV×Unit))))(a2:Int):Option ((List (Int×(Int×(TV×Unit))))×Bool×Int×Unit) :=
 bd (dY.f lf a0 a1 a2) fun r1 =>
 br (r1.1 != 0) (
 some ([],false,r1.1,())) (
 bd (iR.f lf a0 a1) fun r2 =>
 some (r2.1,r2.2.1,0,()))
def E(lf:Nat):Entry:=⟨[(.sl (.pair (.int .i64) (.pair (.int .i64) (.pair yV .unit)))),(.sl (.pair (.int .i64) (.pair (.int .i64) (.pair yV .unit)))),(.int .i64)],[(.sl (.pair (.int .i64) (.pair (.int .i64) (.pair yV .unit)))),.bool,(.int .i64)],fun x=>f lf x.1 x.2.1 x.2.2.1⟩
theorem ok(lf:Nat):Ok 50 (E lf):=okT (an:=(annsL [])) (lf:=lf) (tC (dY.ok lf) (tC (iR.ok lf) tN)) aoN fun x=>by kernel_rfl
end kD
end
end Go.Q
namespace Go.Q
open Go.IntKind (i64)
open Go Go.RowKit
open Go.Rx (br bd sIdx sCat sCut iQuo iRem)
noncomputable section
namespace dn
def f(lf:Nat)(a0:TV):Option (Bool×Unit) :=
 some (a0.1.1,())
def E(lf:Nat):Entry:=⟨[yV],[.bool],fun x=>f lf x.1⟩
theorem ok(lf:Nat):Ok 67 (E lf):=okT (an:=(annsL [])) (lf:=lf) tN aoN fun x=>by kernel_rfl
end dn
namespace jg
def f(lf:Nat)(a0:TV):Option (Int×Unit) :=
 bd (dL.f lf a0) fun r1 =>
 br (r1.1 != 0) (
 some (r1.1,())) (
 bd (dn.f lf a0) fun r2 =>
 br r2.1 (
 some (16,())) (
 some (0,())))
def E(lf:Nat):Entry:=⟨[yV],[(.int .i64)],fun x=>f lf x.1⟩
theorem ok(lf:Nat):Ok 75 (E lf):=okT (an:=(annsL [])) (lf:=lf) (tC (dn.ok lf) (tC (dL.ok lf) tN)) aoN fun x=>by kernel_rfl
end jg
namespace bT
def anns:FuncId→FA:=annsL [(26,⟨annOf [(0,⟨kx 69 [0,1,5,20,21,22],[],[]⟩,⟨kx 69 [1,4,5],[],[]⟩)],none,[]⟩)]
def r0{ρ:Type}(lf:Nat)(v0:List (Int×(Int×(TV×Unit))))(v1:Int)(v3:List (Int×(Int×(TV×Unit))))(v4:Int)(v2 v5:Int)(K:Int→Int→Option ρ)(E0:Int→Int→Option ρ)(E1:Int→Option ρ):Option ρ :=
 br (decide (v5 < v4)) (
 bd (idxL v3 v5) fun y1 =>
 br (y1.1 != v2) (
 E0 20 v2) (
 br (decide (y1.1≥y1.2.1)) (
 E0 15 v2) (
 br (decide (y1.2.1 > v1)) (
 E0 15 v2) (
 bd (jg.f lf y1.2.2.1) fun r2 =>
 br (r2.1 != 0) (
 E0 r2.1 v2) (
 br (decide (v5 > 0)) (
 bd (idxL v0 (i64.wrap (v5-1))) fun y3 =>
 bd (some (((y1.2.2.1.1.1==y3.2.2.1.1.1)&&((y1.2.2.1.1.2.1==y3.2.2.1.1.2.1)&&((y1.2.2.1.1.2.2.1==y3.2.2.1.1.2.2.1)&&true)))&&(((y1.2.2.1.2.1.1==y3.2.2.1.2.1.1)&&((y1.2.2.1.2.1.2.1==y3.2.2.1.2.1.2.1)&&((y1.2.2.1.2.1.2.2.1==y3.2.2.1.2.1.2.2.1)&&true)))&&true))) fun r4 =>
 br r4 (
 E0 7 v2) (
 K y1.2.1 (i64.wrap (v5+1)))) (
 K y1.2.1 (i64.wrap (v5+1)))))))) (
 E1 v2)
def l0(lf:Nat)(v0:List (Int×(Int×(TV×Unit))))(v1:Int)(v3:List (Int×(Int×(TV×Unit))))(v4:Int):Nat→Int→Int→Option (Bool×(Int×Int×Unit)×(Int×Unit)×Unit)
 | 0,_,_=>none
 | n+1,v2,v5=>r0 lf v0 v1 v3 v4 v2 v5 (l0 lf v0 v1 v3 v4 n) (fun w0 w1=>some (true,(w0,w1,()),((0,()),()))) (fun w0=>some (false,(0,0,()),((w0,()),())))
def sh0:ShS:=⟨[.s (.sl (.pair (.int .i64) (.pair (.int .i64) (.pair yV .unit)))),.s (.int .i64),.a 3,.s (.int .i64),.a 14,.s (.sl (.pair (.int .i64) (.pair (.int .i64) (.pair yV .unit)))),.s (.int .i64),.s (.int .i64),.a 46],[]⟩
def S0(p:(List (Int×(Int×(TV×Unit))))×Int×Int×(List (Int×(Int×(TV×Unit))))×Int×Int×Unit):St:=sh0.b p
def xh0:ShS:=⟨[.a 1,.s (.int .i64),.a 2,.s (.int .i64),.s (.int .i64),.a 63],[]⟩
def xh1:ShS:=⟨[.a 1,.s (.int .i64),.a 3,.s (.int .i64),.a 63],[]⟩
def o0(v0:List (Int×(Int×(TV×Unit))))(v1:Int)(v3:List (Int×(Int×(TV×Unit))))(v4:Int)(y:Bool×(Int×Int×Unit)×(Int×Unit)×Unit):Alt:=.two y.1 (.one .ret (xh0.b (v1,y.2.1.1,y.2.1.2.1,()))) (.one (.exit 1) (xh1.b (v1,y.2.2.1.1,())))
def tb(lf:Nat):List (FuncId×Entry):=[(75,jg.E lf)]
def aiB(lf:Nat):List (Nat×(St→Option LTE)):=[(0,sumE sh0 fun(p:(List (Int×(Int×(TV×Unit))))×Int×Int×(List (Int×(Int×(TV×Unit))))×Int×Int×Unit)=>⟨Bool×(Int×Int×Unit)×(Int×Unit)×Unit,l0 lf p.1 p.2.1 p.2.2.2.1 p.2.2.2.2.1 (lf+40) p.2.2.1 p.2.2.2.2.2.1,o0 p.1 p.2.1 p.2.2.2.1 p.2.2.2.2.1⟩)]
def ls(lf:Nat):List (Nat×FuncId×Sums):=[(13,26,sumsL (aiB lf))]
def it0{ρ:Type}(lf n:Nat)(st:St)(k:KE ρ):Option ρ:=itG anns (ls lf) (tb lf) lf 13 26 0 0 (sumsL (aiB lf)) n st k
theorem t0{ρ:Type}(lf n:Nat)(v0:List (Int×(Int×(TV×Unit))))(v1 v2:Int)(v3:List (Int×(Int×(TV×Unit))))(v4 v5:Int)(k:KE ρ):it0 lf (n+1) (S0 (v0,v1,v2,v3,v4,v5,())) k=r0 lf v0 v1 v3 v4 v2 v5 (fun x0 x1=>it0 lf n (S0 (v0,v1,x0,v3,v4,x1,())) k) (fun w0 w1=>k .ret (xh0.b (v1,w0,w1,()))) (fun w0=>k (.exit 1) (xh1.b (v1,w0,()))):=by kernel_rfl
theorem u0{ρ:Type}(lf:Nat)(v0:List (Int×(Int×(TV×Unit))))(v1:Int)(v3:List (Int×(Int×(TV×Unit))))(v4:Int)(k:KE ρ):∀ (n:Nat) (v2 v5:Int),it0 lf n (S0 (v0,v1,v2,v3,v4,v5,())) k=bd (l0 lf v0 v1 v3 v4 n v2 v5) fun y=>altK k (o0 v0 v1 v3 v4 y)
 | 0,_,_=>by rw[l0,au];rfl
 | n+1,v2,v5=>by
  rw[t0];simp only[l0,r0,u0 lf v0 v1 v3 v4 k n,dh,cZ,aC,au,br_t,br_f,o0,altK]
theorem sl(lf:Nat):SL anns (ls lf) (tb lf) lf (ls lf):=slC (laC (fun _=>by kernel_rfl) (fun _ (x:(List (Int×(Int×(TV×Unit))))×Int×Int×(List (Int×(Int×(TV×Unit))))×Int×Int×Unit) k=>aW (u0 lf x.1 x.2.1 x.2.2.2.1 x.2.2.2.2.1 k (lf+40) x.2.2.1 x.2.2.2.2.2.1)) laN) slN
def f(lf:Nat)(a0:List (Int×(Int×(TV×Unit))))(a1:Int):Option (Int×Unit) :=
 br (decide (a1 < 1)) (
 some (2,())) (
 br (decide (a1 > 32)) (
 some (2,())) (
 br (((a0.length:Nat):Int)==0) (
 some (20,())) (
 bd (l0 lf a0 a1 a0 ((a0.length:Nat):Int) (lf+40) 0 0) fun z5 =>
 br z5.1 (
 some (z5.2.1.1,())) (
 br (z5.2.2.1.1 != a1) (
 some (20,())) (
 some (0,()))))))
def E(lf:Nat):Entry:=⟨[(.sl (.pair (.int .i64) (.pair (.int .i64) (.pair yV .unit)))),(.int .i64)],[(.int .i64)],fun x=>f lf x.1 x.2.1⟩
theorem ok(lf:Nat):Ok 26 (E lf):=okL (tC (jg.ok lf) tN) (aoC aoN) (sl lf) fun x=>by kernel_rfl
end bT
namespace pV
def anns:FuncId→FA:=annsL [(60,⟨annOf [(0,⟨kx 29 [17,18,19],[],[]⟩,⟨kx 29 [6],[],[]⟩)],none,[]⟩)]
def r0{ρ:Type}(lf:Nat)(v0:List TV)(v1:Int)(v2:Int)(K:Int→Option ρ)(E0:Int→Option ρ)(E1:Option ρ):Option ρ :=
 br (decide (v2 < v1)) (
 bd (idxL v0 v2) fun y2 =>
 bd (dL.f lf y2) fun r3 =>
 br (r3.1 != 0) (
 E0 r3.1) (
 K (i64.wrap (v2+1)))) (
 E1)
def l0(lf:Nat)(v0:List TV)(v1:Int):Nat→Int→Option (Bool×(Int×Unit)×(Unit)×Unit)
 | 0,_=>none
 | n+1,v2=>r0 lf v0 v1 v2 (l0 lf v0 v1 n) (fun w0=>some (true,(w0,()),((()),()))) (some (false,(0,()),((()),())))
def sh0:ShS:=⟨[.a 17,.s (.sl yV),.s (.int .i64),.s (.int .i64),.a 9],[]⟩
def S0(p:(List TV)×Int×Int×Unit):St:=sh0.b p
def xh0:ShS:=⟨[.a 6,.s (.int .i64),.a 22],[]⟩
def xh1:ShS:=⟨[.a 29],[]⟩
def o0(v0:List TV)(v1:Int)(y:Bool×(Int×Unit)×(Unit)×Unit):Alt:=.two y.1 (.one .ret (xh0.b (y.2.1.1,()))) (.one (.exit 0) (xh1.b (())))
def tb(lf:Nat):List (FuncId×Entry):=[(26,bT.E lf),(118,dL.E lf)]
def aiF(lf:Nat):List (Nat×(St→Option LTE)):=[(0,sumE sh0 fun(p:(List TV)×Int×Int×Unit)=>⟨Bool×(Int×Unit)×(Unit)×Unit,l0 lf p.1 p.2.1 (lf+40) p.2.2.1,o0 p.1 p.2.1⟩)]
def ls(lf:Nat):List (Nat×FuncId×Sums):=[(13,60,sumsL (aiF lf))]
def it0{ρ:Type}(lf n:Nat)(st:St)(k:KE ρ):Option ρ:=itG anns (ls lf) (tb lf) lf 13 60 0 0 (sumsL (aiF lf)) n st k
theorem t0{ρ:Type}(lf n:Nat)(v0:List TV)(v1 v2:Int)(k:KE ρ):it0 lf (n+1) (S0 (v0,v1,v2,())) k=r0 lf v0 v1 v2 (fun x0=>it0 lf n (S0 (v0,v1,x0,())) k) (fun w0=>k .ret (xh0.b (w0,()))) (k (.exit 0) (xh1.b (()))):=by kernel_rfl
theorem u0{ρ:Type}(lf:Nat)(v0:List TV)(v1:Int)(k:KE ρ):∀ (n:Nat) (v2:Int),it0 lf n (S0 (v0,v1,v2,())) k=bd (l0 lf v0 v1 n v2) fun y=>altK k (o0 v0 v1 y)
 | 0,_=>by rw[l0,au];rfl
 | n+1,v2=>by
  rw[t0];simp only[l0,r0,u0 lf v0 v1 k n,dh,cZ,aC,au,br_t,br_f,o0,altK]
theorem sl(lf:Nat):SL anns (ls lf) (tb lf) lf (ls lf):=slC (laC (fun _=>by kernel_rfl) (fun _ (x:(List TV)×Int×Int×Unit) k=>aW (u0 lf x.1 x.2.1 k (lf+40) x.2.2.1)) laN) slN
def f(lf:Nat)(a0:List (Int×(Int×(TV×Unit))))(a1:Int)(a2:List TV):Option (Int×Unit) :=
 bd (bT.f lf a0 a1) fun r1 =>
 br (r1.1 != 0) (
 some (r1.1,())) (
 bd (l0 lf a2 ((a2.length:Nat):Int) (lf+40) 0) fun z4 =>
 br z4.1 (
 some (z4.2.1.1,())) (
 some (0,())))
def E(lf:Nat):Entry:=⟨[(.sl (.pair (.int .i64) (.pair (.int .i64) (.pair yV .unit)))),(.int .i64),(.sl yV)],[(.int .i64)],fun x=>f lf x.1 x.2.1 x.2.2.1⟩
theorem ok(lf:Nat):Ok 60 (E lf):=okL (tC (bT.ok lf) (tC (dL.ok lf) tN)) (aoC aoN) (sl lf) fun x=>by kernel_rfl
end pV
namespace mM
def f(lf:Nat)(a0:Bool)(a1:Int):Option (Bool×Unit) :=
 some (a0,())
def E(lf:Nat):Entry:=⟨[.bool,(.int .i64)],[.bool],fun x=>f lf x.1 x.2.1⟩
theorem ok(lf:Nat):Ok 120 (E lf):=okT (an:=(annsL [])) (lf:=lf) tN aoN fun x=>by kernel_rfl
end mM
namespace qC
def l:List (((List (Int×(Int×(TV×Unit))))×Int×TV×Unit)×(TV×Int×Unit)):=[(([(0,3,((false,(⟨#[48]⟩:ByteArray),(⟨#[48]⟩:ByteArray),()),(false,(⟨#[48]⟩:ByteArray),(⟨#[48]⟩:ByteArray),()),()),()),(3,5,((false,(⟨#[49]⟩:ByteArray),(⟨#[53]⟩:ByteArray),()),(false,(⟨#[49]⟩:ByteArray),(⟨#[48]⟩:ByteArray),()),()),()),(5,6,((false,(⟨#[55]⟩:ByteArray),(⟨#[55]⟩:ByteArray),()),(false,(⟨#[48]⟩:ByteArray),(⟨#[55]⟩:ByteArray),()),()),())],6,((false,(⟨#[50]⟩:ByteArray),(⟨#[51]⟩:ByteArray),()),(false,(⟨#[49]⟩:ByteArray),(⟨#[48]⟩:ByteArray),()),()),()),(((false,(⟨#[48]⟩:ByteArray),(⟨#[53]⟩:ByteArray),()),(false,(⟨#[49]⟩:ByteArray),(⟨#[48]⟩:ByteArray),()),()),0,())),(([(0,3,((false,(⟨#[48]⟩:ByteArray),(⟨#[48]⟩:ByteArray),()),(false,(⟨#[48]⟩:ByteArray),(⟨#[48]⟩:ByteArray),()),()),()),(3,5,((false,(⟨#[49]⟩:ByteArray),(⟨#[53]⟩:ByteArray),()),(false,(⟨#[49]⟩:ByteArray),(⟨#[48]⟩:ByteArray),()),()),()),(5,6,((false,(⟨#[55]⟩:ByteArray),(⟨#[55]⟩:ByteArray),()),(false,(⟨#[48]⟩:ByteArray),(⟨#[55]⟩:ByteArray),()),()),())],6,((false,(⟨#[49]⟩:ByteArray),(⟨#[]⟩:ByteArray),()),(false,(⟨#[52]⟩:ByteArray),(⟨#[49]⟩:ByteArray),()),()),()),(((false,(⟨#[48]⟩:ByteArray),(⟨#[55]⟩:ByteArray),()),(false,(⟨#[55]⟩:ByteArray),(⟨#[48]⟩:ByteArray),()),()),0,()))]
def f(lf:Nat)(a0:List (Int×(Int×(TV×Unit))))(a1:Int)(a2:TV):Option (TV×Int×Unit):=pick [(.sl (.pair (.int .i64) (.pair (.int .i64) (.pair yV .unit)))),(.int .i64),yV] l (a0,a1,a2,())
def E(lf:Nat):Entry:=⟨[(.sl (.pair (.int .i64) (.pair (.int .i64) (.pair yV .unit)))),(.int .i64),yV],[yV,(.int .i64)],fun x=>f lf x.1 x.2.1 x.2.2.1⟩
def tb(lf:Nat):List (FuncId×Entry):=[(26,bT.E lf),(64,gK.E lf),(70,iU.E lf),(84,bK.E lf),(118,dL.E lf),(121,lu.E lf),(135,gB.E lf),(178,bI.E lf),(180,kH.E lf),(191,aZ.E lf),(192,fM.E lf),(193,fU.E lf)]
abbrev an:FuncId→FA:=annsL [(13,⟨annOf [(0,⟨kx 34 [9],[],[]⟩,⟨[],[],[]⟩)],none,[]⟩),(119,⟨annOf [(0,⟨kx 24 [2,3],[],[]⟩,⟨[],[],[]⟩)],none,[]⟩)]
theorem t0(lf:Nat):runQ Proofs.Tryz.prog an noLs (lookT (tb lf)) (lf+40) 14 6 13 [(.sl (.pair (.int .i64) (.pair (.int .i64) (.pair yV .unit)))),(.int .i64),yV] [yV,(.int .i64)] ([(0,3,((false,(⟨#[48]⟩:ByteArray),(⟨#[48]⟩:ByteArray),()),(false,(⟨#[48]⟩:ByteArray),(⟨#[48]⟩:ByteArray),()),()),()),(3,5,((false,(⟨#[49]⟩:ByteArray),(⟨#[53]⟩:ByteArray),()),(false,(⟨#[49]⟩:ByteArray),(⟨#[48]⟩:ByteArray),()),()),()),(5,6,((false,(⟨#[55]⟩:ByteArray),(⟨#[55]⟩:ByteArray),()),(false,(⟨#[48]⟩:ByteArray),(⟨#[55]⟩:ByteArray),()),()),())],6,((false,(⟨#[50]⟩:ByteArray),(⟨#[51]⟩:ByteArray),()),(false,(⟨#[49]⟩:ByteArray),(⟨#[48]⟩:ByteArray),()),()),())=some (((false,(⟨#[48]⟩:ByteArray),(⟨#[53]⟩:ByteArray),()),(false,(⟨#[49]⟩:ByteArray),(⟨#[48]⟩:ByteArray),()),()),0,()):=by kernel_rfl
theorem t1(lf:Nat):runQ Proofs.Tryz.prog an noLs (lookT (tb lf)) (lf+40) 14 6 13 [(.sl (.pair (.int .i64) (.pair (.int .i64) (.pair yV .unit)))),(.int .i64),yV] [yV,(.int .i64)] ([(0,3,((false,(⟨#[48]⟩:ByteArray),(⟨#[48]⟩:ByteArray),()),(false,(⟨#[48]⟩:ByteArray),(⟨#[48]⟩:ByteArray),()),()),()),(3,5,((false,(⟨#[49]⟩:ByteArray),(⟨#[53]⟩:ByteArray),()),(false,(⟨#[49]⟩:ByteArray),(⟨#[48]⟩:ByteArray),()),()),()),(5,6,((false,(⟨#[55]⟩:ByteArray),(⟨#[55]⟩:ByteArray),()),(false,(⟨#[48]⟩:ByteArray),(⟨#[55]⟩:ByteArray),()),()),())],6,((false,(⟨#[49]⟩:ByteArray),(⟨#[]⟩:ByteArray),()),(false,(⟨#[52]⟩:ByteArray),(⟨#[49]⟩:ByteArray),()),()),())=some (((false,(⟨#[48]⟩:ByteArray),(⟨#[55]⟩:ByteArray),()),(false,(⟨#[55]⟩:ByteArray),(⟨#[48]⟩:ByteArray),()),()),0,()):=by kernel_rfl
theorem ok(lf:Nat):Ok 13 (E lf):=okP (an:=an) (tb:=tb lf) (lf:=lf) (tC (bT.ok lf) (tC (gK.ok lf) (tC (iU.ok lf) (tC (bK.ok lf) (tC (dL.ok lf) (tC (lu.ok lf) (tC (gB.ok lf) (tC (bI.ok lf) (tC (kH.ok lf) (tC (aZ.ok lf) (tC (fM.ok lf) (tC (fU.ok lf) tN)))))))))))) (aoC (aoC aoN)) (l:=l) (fun _=>rfl) (fun _=>rfl) ⟨t0 lf,t1 lf,trivial⟩
end qC
end
end Go.Q
