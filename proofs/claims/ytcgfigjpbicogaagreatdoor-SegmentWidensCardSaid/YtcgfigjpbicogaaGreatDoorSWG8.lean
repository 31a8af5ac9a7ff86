import Derived.Test.YtcgfigjpbicogaaGreatDoorProg
import Derived.KernelRfl
import Derived.Test.YtcgfigjpbicogaaGreatDoorSWE3
import Derived.Test.YtcgfigjpbicogaaGreatDoorSWG6
import Derived.Test.YtcgfigjpbicogaaGreatDoorSWG7
set_option linter.unusedVariables false
set_option linter.unusedSimpArgs false
set_option linter.unusedSectionVars false
set_option maxRecDepth 100000
namespace Go.Q
open Go.IntKind (i64)
open Go Go.RowKit
open Go.Rx (br bd sIdx sCat sCut iQuo iRem)
noncomputable section
namespace aN
def anns:FuncId→FA:=annsL [(68,⟨annOf [(0,⟨kx 35 [0,3,4],[⟨.tmp 3,yV,47⟩],[]⟩,⟨kx 35 [2,3],[⟨.tmp 3,yV,47⟩],[]⟩),(1,⟨kx 35 [0,3,4,5],[⟨.tmp 3,yV,47⟩],[]⟩,⟨kx 35 [0,2,3,4],[⟨.tmp 3,yV,47⟩],[]⟩)],none,[]⟩)]
def r1{ρ:Type}(lf:Nat)(v0:List (Int×(Int×(TV×Unit))))(v1:Int)(v2:Int)(v3:List TV)(K:Int→(List TV)→Option ρ)(E0:(List TV)→Option ρ):Option ρ :=
 bd (idxL v0 v1) fun y2 =>
 br (decide (v2 < y2.2.1)) (
 bd (idxL v0 v1) fun y3 =>
 bd (apL true 80 v3 [y3.2.2.1]) fun q4 =>
 K (i64.wrap (v2+1)) q4) (
 E0 v3)
def l1(lf:Nat)(v0:List (Int×(Int×(TV×Unit))))(v1:Int):Nat→Int→(List TV)→Option (((List TV)×Unit)×Unit)
 | 0,_,_=>none
 | n+1,v2,v3=>r1 lf v0 v1 v2 v3 (l1 lf v0 v1 n) (fun w0=>some ((w0,()),()))
def sh1:ShS:=⟨[.s (.sl (.pair (.int .i64) (.pair (.int .i64) (.pair yV .unit)))),.a 2,.s (.row 1),.s (.int .i64),.s (.int .i64),.a 29],[.gone,.row yV 47 false]⟩
def S1(p:(List (Int×(Int×(TV×Unit))))×Int×Int×(List TV)×Unit):St:=sh1.b p
def xh0:ShS:=⟨[.s (.sl (.pair (.int .i64) (.pair (.int .i64) (.pair yV .unit)))),.a 2,.s (.row 1),.s (.int .i64),.a 30],[.gone,.row yV 47 false]⟩
def o1(v0:List (Int×(Int×(TV×Unit))))(v1:Int)(y:((List TV)×Unit)×Unit):Alt:=.one (.exit 2) (xh0.b (v0,v1,y.1.1,()))
def r0{ρ:Type}(lf:Nat)(v0:List (Int×(Int×(TV×Unit))))(v1:Int)(v2:List TV)(K:Int→(List TV)→Option ρ)(E0:(List TV)→Option ρ):Option ρ :=
 br (decide (v1 < ((v0.length:Nat):Int))) (
 bd (idxL v0 v1) fun y1 =>
 bd (l1 lf v0 v1 (lf+40) y1.1 v2) fun z5 =>
 K (i64.wrap (v1+1)) z5.1.1) (
 E0 v2)
def l0(lf:Nat)(v0:List (Int×(Int×(TV×Unit)))):Nat→Int→(List TV)→Option (((List TV)×Unit)×Unit)
 | 0,_,_=>none
 | n+1,v1,v2=>r0 lf v0 v1 v2 (l0 lf v0 n) (fun w0=>some ((w0,()),()))
def sh0:ShS:=⟨[.s (.sl (.pair (.int .i64) (.pair (.int .i64) (.pair yV .unit)))),.a 2,.s (.row 0),.s (.int .i64),.a 30],[.row yV 47 false]⟩
def S0(p:(List (Int×(Int×(TV×Unit))))×Int×(List TV)×Unit):St:=sh0.b p
def xh1:ShS:=⟨[.a 3,.s (.row 0),.a 31],[.row yV 47 false]⟩
def o0(v0:List (Int×(Int×(TV×Unit))))(y:((List TV)×Unit)×Unit):Alt:=.one (.exit 0) (xh1.b (y.1.1,()))
def tb(lf:Nat):List (FuncId×Entry):=[]
def aam(lf:Nat):List (Nat×(St→Option LTE)):=[(0,sumE sh0 fun(p:(List (Int×(Int×(TV×Unit))))×Int×(List TV)×Unit)=>⟨((List TV)×Unit)×Unit,l0 lf p.1 (lf+40) p.2.1 p.2.2.1,o0 p.1⟩),
 (1,sumE sh1 fun(p:(List (Int×(Int×(TV×Unit))))×Int×Int×(List TV)×Unit)=>⟨((List TV)×Unit)×Unit,l1 lf p.1 p.2.1 (lf+40) p.2.2.1 p.2.2.2.1,o1 p.1 p.2.1⟩)]
def ls(lf:Nat):List (Nat×FuncId×Sums):=[(13,68,sumsL (aam lf))]
def it1{ρ:Type}(lf n:Nat)(st:St)(k:KE ρ):Option ρ:=itG anns (ls lf) (tb lf) lf 13 68 1 1 (sumsL (aam lf)) n st k
theorem t1{ρ:Type}(lf n:Nat)(v0:List (Int×(Int×(TV×Unit))))(v1 v2:Int)(v3:List TV)(k:KE ρ):it1 lf (n+1) (S1 (v0,v1,v2,v3,())) k=r1 lf v0 v1 v2 v3 (fun x0 x1=>it1 lf n (S1 (v0,v1,x0,x1,())) k) (fun w0=>k (.exit 2) (xh0.b (v0,v1,w0,()))):=by kernel_rfl
theorem u1{ρ:Type}(lf:Nat)(v0:List (Int×(Int×(TV×Unit))))(v1:Int)(k:KE ρ):∀ (n:Nat) (v2:Int) (v3:List TV),it1 lf n (S1 (v0,v1,v2,v3,())) k=bd (l1 lf v0 v1 n v2 v3) fun y=>altK k (o1 v0 v1 y)
 | 0,_,_=>by rw[l1,bd_none];rfl
 | n+1,v2,v3=>by
  rw[t1];simp only[l1,r1,u1 lf v0 v1 k n,bd_br,bd_bd,bd_some',bd_none,br_t,br_f,o1,altK]
def it0{ρ:Type}(lf n:Nat)(st:St)(k:KE ρ):Option ρ:=itG anns (ls lf) (tb lf) lf 13 68 0 0 (sumsL (aam lf)) n st k
theorem t0{ρ:Type}(lf n:Nat)(v0:List (Int×(Int×(TV×Unit))))(v1:Int)(v2:List TV)(k:KE ρ):it0 lf (n+1) (S0 (v0,v1,v2,())) k=r0 lf v0 v1 v2 (fun x0 x1=>it0 lf n (S0 (v0,x0,x1,())) k) (fun w0=>k (.exit 0) (xh1.b (w0,()))):=by kernel_rfl
theorem u0{ρ:Type}(lf:Nat)(v0:List (Int×(Int×(TV×Unit))))(k:KE ρ):∀ (n:Nat) (v1:Int) (v2:List TV),it0 lf n (S0 (v0,v1,v2,())) k=bd (l0 lf v0 n v1 v2) fun y=>altK k (o0 v0 y)
 | 0,_,_=>by rw[l0,bd_none];rfl
 | n+1,v1,v2=>by
  rw[t0];simp only[l0,r0,u0 lf v0 k n,bd_br,bd_bd,bd_some',bd_none,br_t,br_f,o0,altK]
theorem sl(lf:Nat):SL anns (ls lf) (tb lf) lf (ls lf):=slC (laC (fun _=>by kernel_rfl) (fun _ (x:(List (Int×(Int×(TV×Unit))))×Int×(List TV)×Unit) k=>aS (u0 lf x.1 k (lf+40) x.2.1 x.2.2.1)) (laC (fun _=>by kernel_rfl) (fun _ (x:(List (Int×(Int×(TV×Unit))))×Int×Int×(List TV)×Unit) k=>aS (u1 lf x.1 x.2.1 k (lf+40) x.2.2.1 x.2.2.2.1)) laN)) slN
def f(lf:Nat)(a0:List (Int×(Int×(TV×Unit)))):Option ((List TV)×Unit) :=
 bd (l0 lf a0 (lf+40) 0 []) fun z6 =>
 some (z6.1.1,())
def spk(lf:Nat):Spk:=.fresh [(.sl (.pair (.int .i64) (.pair (.int .i64) (.pair yV .unit))))] yV 47 fun x=>f lf x.1
theorem ok(lf:Nat):SpkOK Proofs.Tryz.prog (spk lf) 68:=okF tN' (aoC aoN) (sl lf) rfl fun x=>by kernel_rfl
end aN
namespace bT
def anns:FuncId→FA:=annsL [(70,⟨annOf [(0,⟨kx 48 [0,3,4],[⟨.tmp 3,(.pair (.int .i64) (.pair (.int .i64) (.pair yV .unit))),49⟩],[]⟩,⟨kx 48 [2,3],[⟨.tmp 3,(.pair (.int .i64) (.pair (.int .i64) (.pair yV .unit))),49⟩],[]⟩)],none,[]⟩)]
def r0{ρ:Type}(lf:Nat)(v0:List TV)(v1:Int)(v2:List (Int×(Int×(TV×Unit))))(K:Int→(List (Int×(Int×(TV×Unit))))→Option ρ)(E0:(List (Int×(Int×(TV×Unit))))→Option ρ):Option ρ :=
 br (decide (v1 < ((v0.length:Nat):Int))) (
 br (decide (((v2.length:Nat):Int) > 0)) (
 bd (idxB v2.length (i64.wrap (((v2.length:Nat):Int)-1))) fun j1 =>
 bd (v2[j1]?) fun y2 =>
 bd (idxL v0 v1) fun y3 =>
 bd (some (((y2.2.2.1.1.1==y3.1.1)&&((y2.2.2.1.1.2.1==y3.1.2.1)&&((y2.2.2.1.1.2.2.1==y3.1.2.2.1)&&true)))&&(((y2.2.2.1.2.1.1==y3.2.1.1)&&((y2.2.2.1.2.1.2.1==y3.2.1.2.1)&&((y2.2.2.1.2.1.2.2.1==y3.2.1.2.2.1)&&true)))&&true))) fun r4 =>
 br r4 (
 bd (idxB v2.length (i64.wrap (((v2.length:Nat):Int)-1))) fun j5 =>
 bd (upE v2 j5 fun y7=>some (y7.1,(i64.wrap (v1+1)),y7.2.2.1,())) fun q6 =>
 K (i64.wrap (v1+1)) q6) (
 bd (idxL v0 v1) fun y8 =>
 bd (apL true 96 v2 [(v1,(i64.wrap (v1+1)),y8,())]) fun q9 =>
 K (i64.wrap (v1+1)) q9)) (
 bd (idxL v0 v1) fun y10 =>
 bd (apL true 96 v2 [(v1,(i64.wrap (v1+1)),y10,())]) fun q11 =>
 K (i64.wrap (v1+1)) q11)) (
 E0 v2)
def l0(lf:Nat)(v0:List TV):Nat→Int→(List (Int×(Int×(TV×Unit))))→Option (((List (Int×(Int×(TV×Unit))))×Unit)×Unit)
 | 0,_,_=>none
 | n+1,v1,v2=>r0 lf v0 v1 v2 (l0 lf v0 n) (fun w0=>some ((w0,()),()))
def sh0:ShS:=⟨[.s (.sl yV),.a 2,.s (.row 0),.s (.int .i64),.a 43],[.row (.pair (.int .i64) (.pair (.int .i64) (.pair yV .unit))) 49 false]⟩
def S0(p:(List TV)×Int×(List (Int×(Int×(TV×Unit))))×Unit):St:=sh0.b p
def xh0:ShS:=⟨[.a 3,.s (.row 0),.a 44],[.row (.pair (.int .i64) (.pair (.int .i64) (.pair yV .unit))) 49 false]⟩
def o0(v0:List TV)(y:((List (Int×(Int×(TV×Unit))))×Unit)×Unit):Alt:=.one (.exit 0) (xh0.b (y.1.1,()))
def tb(lf:Nat):List (FuncId×Entry):=[]
def ac6(lf:Nat):List (Nat×(St→Option LTE)):=[(0,sumE sh0 fun(p:(List TV)×Int×(List (Int×(Int×(TV×Unit))))×Unit)=>⟨((List (Int×(Int×(TV×Unit))))×Unit)×Unit,l0 lf p.1 (lf+40) p.2.1 p.2.2.1,o0 p.1⟩)]
def ls(lf:Nat):List (Nat×FuncId×Sums):=[(13,70,sumsL (ac6 lf))]
def it0{ρ:Type}(lf n:Nat)(st:St)(k:KE ρ):Option ρ:=itG anns (ls lf) (tb lf) lf 13 70 0 0 (sumsL (ac6 lf)) n st k
theorem t0{ρ:Type}(lf n:Nat)(v0:List TV)(v1:Int)(v2:List (Int×(Int×(TV×Unit))))(k:KE ρ):it0 lf (n+1) (S0 (v0,v1,v2,())) k=r0 lf v0 v1 v2 (fun x0 x1=>it0 lf n (S0 (v0,x0,x1,())) k) (fun w0=>k (.exit 0) (xh0.b (w0,()))):=by kernel_rfl
theorem u0{ρ:Type}(lf:Nat)(v0:List TV)(k:KE ρ):∀ (n:Nat) (v1:Int) (v2:List (Int×(Int×(TV×Unit)))),it0 lf n (S0 (v0,v1,v2,())) k=bd (l0 lf v0 n v1 v2) fun y=>altK k (o0 v0 y)
 | 0,_,_=>by rw[l0,bd_none];rfl
 | n+1,v1,v2=>by
  rw[t0];simp only[l0,r0,u0 lf v0 k n,bd_br,bd_bd,bd_some',bd_none,br_t,br_f,o0,altK]
theorem sl(lf:Nat):SL anns (ls lf) (tb lf) lf (ls lf):=slC (laC (fun _=>by kernel_rfl) (fun _ (x:(List TV)×Int×(List (Int×(Int×(TV×Unit))))×Unit) k=>aS (u0 lf x.1 k (lf+40) x.2.1 x.2.2.1)) laN) slN
def f(lf:Nat)(a0:List TV):Option ((List (Int×(Int×(TV×Unit))))×Unit) :=
 bd (l0 lf a0 (lf+40) 0 []) fun z12 =>
 some (z12.1.1,())
def E(lf:Nat):Entry:=⟨[(.sl yV)],[(.sl (.pair (.int .i64) (.pair (.int .i64) (.pair yV .unit))))],fun x=>f lf x.1⟩
theorem ok(lf:Nat):Ok 70 (E lf):=okL tN (aoC aoN) (sl lf) fun x=>by kernel_rfl
end bT
end
end Go.Q
namespace Go.Q
open Go.IntKind (i64)
open Go Go.RowKit
open Go.Rx (br bd sIdx sCat sCut iQuo iRem)
noncomputable section
namespace fF
def anns(lf:Nat):FuncId→FA:=annsL [(29,⟨annOf [(0,⟨kx 35 [2,7,8,9],[],[]⟩,⟨kx 35 [6,7],[],[]⟩)],none,[]⟩),(68,⟨annOf [],some (aN.spk lf),[]⟩)]
def r0{ρ:Type}(lf:Nat)(v0:List ByteArray)(v3:List TV)(v1:Int)(v2:List TV)(K:Int→(List TV)→Option ρ)(E0:(List TV)→Option ρ):Option ρ :=
 br (decide (v1 < ((v2.length:Nat):Int))) (
 bd (idxB v2.length v1) fun j3 =>
 bd (v2[j3]?) fun y4 =>
 bd (idxB v3.length v1) fun j5 =>
 bd (v3[j5]?) fun y6 =>
 bd (fE.f lf y4 y6 v0) fun r7 =>
 bd (idxB v2.length v1) fun j8 =>
 bd (upE v2 j8 fun _=>some r7.1) fun q9 =>
 K (i64.wrap (v1+1)) q9) (
 E0 v2)
def l0(lf:Nat)(v0:List ByteArray)(v3:List TV):Nat→Int→(List TV)→Option (((List TV)×Unit)×Unit)
 | 0,_,_=>none
 | n+1,v1,v2=>r0 lf v0 v3 v1 v2 (l0 lf v0 v3 n) (fun w0=>some ((w0,()),()))
def sh0:ShS:=⟨[.a 2,.s (.sl .str),.a 4,.s (.row 0),.s (.row 1),.s (.int .i64),.a 25],[.row yV 47 false,.row yV 47 false]⟩
def S0(p:(List ByteArray)×Int×(List TV)×(List TV)×Unit):St:=sh0.b p
def xh0:ShS:=⟨[.a 7,.s (.row 0),.a 27],[.row yV 47 false,.row yV 47 false]⟩
def o0(v0:List ByteArray)(v3:List TV)(y:((List TV)×Unit)×Unit):Alt:=.one (.exit 0) (xh0.b (y.1.1,v3,()))
def tb(lf:Nat):List (FuncId×Entry):=[(69,fE.E lf),(70,bT.E lf)]
def acZ(lf:Nat):List (Nat×(St→Option LTE)):=[(0,sumE sh0 fun(p:(List ByteArray)×Int×(List TV)×(List TV)×Unit)=>⟨((List TV)×Unit)×Unit,l0 lf p.1 p.2.2.2.1 (lf+40) p.2.1 p.2.2.1,o0 p.1 p.2.2.2.1⟩)]
def ls(lf:Nat):List (Nat×FuncId×Sums):=[(13,29,sumsL (acZ lf))]
def it0{ρ:Type}(lf n:Nat)(st:St)(k:KE ρ):Option ρ:=itG (anns lf) (ls lf) (tb lf) lf 13 29 0 2 (sumsL (acZ lf)) n st k
theorem t0{ρ:Type}(lf n:Nat)(v0:List ByteArray)(v1:Int)(v2 v3:List TV)(k:KE ρ):it0 lf (n+1) (S0 (v0,v1,v2,v3,())) k=r0 lf v0 v3 v1 v2 (fun x0 x1=>it0 lf n (S0 (v0,x0,x1,v3,())) k) (fun w0=>k (.exit 0) (xh0.b (w0,v3,()))):=by kernel_rfl
theorem u0{ρ:Type}(lf:Nat)(v0:List ByteArray)(v3:List TV)(k:KE ρ):∀ (n:Nat) (v1:Int) (v2:List TV),it0 lf n (S0 (v0,v1,v2,v3,())) k=bd (l0 lf v0 v3 n v1 v2) fun y=>altK k (o0 v0 v3 y)
 | 0,_,_=>by rw[l0,bd_none];rfl
 | n+1,v1,v2=>by
  rw[t0];simp only[l0,r0,u0 lf v0 v3 k n,bd_br,bd_bd,bd_some',bd_none,br_t,br_f,o0,altK]
theorem sl(lf:Nat):SL (anns lf) (ls lf) (tb lf) lf (ls lf):=slC (laC (fun _=>by kernel_rfl) (fun _ (x:(List ByteArray)×Int×(List TV)×(List TV)×Unit) k=>aS (u0 lf x.1 x.2.2.2.1 k (lf+40) x.2.1 x.2.2.1)) laN) slN
def f(lf:Nat)(a0:List (Int×(Int×(TV×Unit))))(a1:List (Int×(Int×(TV×Unit))))(a2:List ByteArray):Option ((List (Int×(Int×(TV×Unit))))×Unit) :=
 bd (aN.f lf a0) fun r1 =>
 bd (aN.f lf a1) fun r2 =>
 bd (l0 lf a2 r2.1 (lf+40) 0 r1.1) fun z11 =>
 bd (bT.f lf z11.1.1) fun r12 =>
 some (r12.1,())
def E(lf:Nat):Entry:=⟨[(.sl (.pair (.int .i64) (.pair (.int .i64) (.pair yV .unit)))),(.sl (.pair (.int .i64) (.pair (.int .i64) (.pair yV .unit)))),(.sl .str)],[(.sl (.pair (.int .i64) (.pair (.int .i64) (.pair yV .unit))))],fun x=>f lf x.1 x.2.1 x.2.2.1⟩
theorem ok(lf:Nat):Ok 29 (E lf):=okL (tC (fE.ok lf) (tC (bT.ok lf) tN)) (aoC (aoP (aN.ok lf) aoN)) (sl lf) fun x=>by kernel_rfl
end fF
namespace jf
def f(lf:Nat)(a0:List (Int×(Int×(TV×Unit))))(a1:List (Int×(Int×(TV×Unit))))(a2:Int)(a3:List ByteArray):Option ((List (Int×(Int×(TV×Unit))))×Int×Unit) :=
 bd (fM.f lf a0 a1 a2) fun r1 =>
 br (r1.1 != 0) (
 some ([],r1.1,())) (
 bd (bD.f lf a3) fun r2 =>
 br (r2.1 != 0) (
 some ([],r2.1,())) (
 bd (fF.f lf a0 a1 a3) fun r3 =>
 some (r3.1,0,())))
def E(lf:Nat):Entry:=⟨[(.sl (.pair (.int .i64) (.pair (.int .i64) (.pair yV .unit)))),(.sl (.pair (.int .i64) (.pair (.int .i64) (.pair yV .unit)))),(.int .i64),(.sl .str)],[(.sl (.pair (.int .i64) (.pair (.int .i64) (.pair yV .unit)))),(.int .i64)],fun x=>f lf x.1 x.2.1 x.2.2.1 x.2.2.2.1⟩
theorem ok(lf:Nat):Ok 8 (E lf):=okT (an:=(annsL [])) (lf:=lf) (tC (fM.ok lf) (tC (bD.ok lf) (tC (fF.ok lf) tN))) aoN fun x=>by kernel_rfl
end jf
namespace dn
def anns:FuncId→FA:=annsL [(73,⟨annOf [(0,⟨kx 18 [0,4],[],[]⟩,⟨kx 18 [0,2,3],[],[]⟩)],none,[]⟩)]
def r0{ρ:Type}(lf:Nat)(v0:List TV)(v1:Int)(K:Int→Option ρ)(E0:Option ρ)(E1:Option ρ):Option ρ :=
 br (decide (v1 < ((v0.length:Nat):Int))) (
 bd (idxL v0 v1) fun y1 =>
 bd (dA.f lf y1) fun r2 =>
 br r2.1 (
 E0) (
 K (i64.wrap (v1+1)))) (
 E1)
def l0(lf:Nat)(v0:List TV):Nat→Int→Option (Bool×(Unit)×(Unit)×Unit)
 | 0,_=>none
 | n+1,v1=>r0 lf v0 v1 (l0 lf v0 n) (some (true,(()),((()),()))) (some (false,(()),((()),())))
def sh0:ShS:=⟨[.s (.sl yV),.a 3,.s (.int .i64),.a 13],[]⟩
def S0(p:(List TV)×Int×Unit):St:=sh0.b p
def xh0:ShS:=⟨[.s (.sl yV),.a 1,.s .nil,.s .bool,.a 14],[]⟩
def xh1:ShS:=⟨[.s (.sl yV),.a 17],[]⟩
def o0(v0:List TV)(y:Bool×(Unit)×(Unit)×Unit):Alt:=.two y.1 (.one .ret (xh0.b (v0,false,()))) (.one (.exit 0) (xh1.b (v0,())))
def tb(lf:Nat):List (FuncId×Entry):=[(70,bT.E lf),(125,dA.E lf)]
def ac7(lf:Nat):List (Nat×(St→Option LTE)):=[(0,sumE sh0 fun(p:(List TV)×Int×Unit)=>⟨Bool×(Unit)×(Unit)×Unit,l0 lf p.1 (lf+40) p.2.1,o0 p.1⟩)]
def ls(lf:Nat):List (Nat×FuncId×Sums):=[(13,73,sumsL (ac7 lf))]
def it0{ρ:Type}(lf n:Nat)(st:St)(k:KE ρ):Option ρ:=itG anns (ls lf) (tb lf) lf 13 73 0 0 (sumsL (ac7 lf)) n st k
theorem t0{ρ:Type}(lf n:Nat)(v0:List TV)(v1:Int)(k:KE ρ):it0 lf (n+1) (S0 (v0,v1,())) k=r0 lf v0 v1 (fun x0=>it0 lf n (S0 (v0,x0,())) k) (k .ret (xh0.b (v0,false,()))) (k (.exit 0) (xh1.b (v0,()))):=by kernel_rfl
theorem u0{ρ:Type}(lf:Nat)(v0:List TV)(k:KE ρ):∀ (n:Nat) (v1:Int),it0 lf n (S0 (v0,v1,())) k=bd (l0 lf v0 n v1) fun y=>altK k (o0 v0 y)
 | 0,_=>by rw[l0,bd_none];rfl
 | n+1,v1=>by
  rw[t0];simp only[l0,r0,u0 lf v0 k n,bd_br,bd_bd,bd_some',bd_none,br_t,br_f,o0,altK]
theorem sl(lf:Nat):SL anns (ls lf) (tb lf) lf (ls lf):=slC (laC (fun _=>by kernel_rfl) (fun _ (x:(List TV)×Int×Unit) k=>aS (u0 lf x.1 k (lf+40) x.2.1)) laN) slN
def f(lf:Nat)(a0:List TV):Option ((List (Int×(Int×(TV×Unit))))×Bool×Unit) :=
 bd (l0 lf a0 (lf+40) 0) fun z3 =>
 br z3.1 (
 some ([],false,())) (
 bd (bT.f lf a0) fun r4 =>
 some (r4.1,true,()))
def E(lf:Nat):Entry:=⟨[(.sl yV)],[(.sl (.pair (.int .i64) (.pair (.int .i64) (.pair yV .unit)))),.bool],fun x=>f lf x.1⟩
theorem ok(lf:Nat):Ok 73 (E lf):=okL (tC (bT.ok lf) (tC (dA.ok lf) tN)) (aoC aoN) (sl lf) fun x=>by kernel_rfl
end dn
namespace eH
def anns(lf:Nat):FuncId→FA:=annsL [(31,⟨annOf [(0,⟨kx 35 [6,7,8],[],[]⟩,⟨kx 35 [4,5,6],[],[]⟩)],none,[]⟩),(68,⟨annOf [],some (aN.spk lf),[]⟩)]
def r0{ρ:Type}(lf:Nat)(v2:List TV)(v0:Int)(v1:List TV)(K:Int→(List TV)→Option ρ)(E0:(List TV)→Option ρ):Option ρ :=
 br (decide (v0 < ((v1.length:Nat):Int))) (
 bd (idxB v1.length v0) fun j3 =>
 bd (v1[j3]?) fun y4 =>
 bd (idxB v2.length v0) fun j5 =>
 bd (v2[j5]?) fun y6 =>
 bd (eG.f lf y4 y6) fun r7 =>
 bd (idxB v1.length v0) fun j8 =>
 bd (upE v1 j8 fun _=>some r7.1) fun q9 =>
 K (i64.wrap (v0+1)) q9) (
 E0 v1)
def l0(lf:Nat)(v2:List TV):Nat→Int→(List TV)→Option (((List TV)×Unit)×Unit)
 | 0,_,_=>none
 | n+1,v0,v1=>r0 lf v2 v0 v1 (l0 lf v2 n) (fun w0=>some ((w0,()),()))
def sh0:ShS:=⟨[.a 6,.s (.row 0),.s (.row 1),.s (.int .i64),.a 26],[.row yV 47 false,.row yV 47 false]⟩
def S0(p:Int×(List TV)×(List TV)×Unit):St:=sh0.b p
def xh0:ShS:=⟨[.a 6,.s (.row 0),.a 28],[.row yV 47 false,.row yV 47 false]⟩
def o0(v2:List TV)(y:((List TV)×Unit)×Unit):Alt:=.one (.exit 0) (xh0.b (y.1.1,v2,()))
def tb(lf:Nat):List (FuncId×Entry):=[(72,eG.E lf),(73,dn.E lf)]
def ac0(lf:Nat):List (Nat×(St→Option LTE)):=[(0,sumE sh0 fun(p:Int×(List TV)×(List TV)×Unit)=>⟨((List TV)×Unit)×Unit,l0 lf p.2.2.1 (lf+40) p.1 p.2.1,o0 p.2.2.1⟩)]
def ls(lf:Nat):List (Nat×FuncId×Sums):=[(13,31,sumsL (ac0 lf))]
def it0{ρ:Type}(lf n:Nat)(st:St)(k:KE ρ):Option ρ:=itG (anns lf) (ls lf) (tb lf) lf 13 31 0 2 (sumsL (ac0 lf)) n st k
theorem t0{ρ:Type}(lf n:Nat)(v0:Int)(v1 v2:List TV)(k:KE ρ):it0 lf (n+1) (S0 (v0,v1,v2,())) k=r0 lf v2 v0 v1 (fun x0 x1=>it0 lf n (S0 (x0,x1,v2,())) k) (fun w0=>k (.exit 0) (xh0.b (w0,v2,()))):=by kernel_rfl
theorem u0{ρ:Type}(lf:Nat)(v2:List TV)(k:KE ρ):∀ (n:Nat) (v0:Int) (v1:List TV),it0 lf n (S0 (v0,v1,v2,())) k=bd (l0 lf v2 n v0 v1) fun y=>altK k (o0 v2 y)
 | 0,_,_=>by rw[l0,bd_none];rfl
 | n+1,v0,v1=>by
  rw[t0];simp only[l0,r0,u0 lf v2 k n,bd_br,bd_bd,bd_some',bd_none,br_t,br_f,o0,altK]
theorem sl(lf:Nat):SL (anns lf) (ls lf) (tb lf) lf (ls lf):=slC (laC (fun _=>by kernel_rfl) (fun _ (x:Int×(List TV)×(List TV)×Unit) k=>aS (u0 lf x.2.2.1 k (lf+40) x.1 x.2.1)) laN) slN
def f(lf:Nat)(a0:List (Int×(Int×(TV×Unit))))(a1:List (Int×(Int×(TV×Unit)))):Option ((List (Int×(Int×(TV×Unit))))×Bool×Unit) :=
 bd (aN.f lf a0) fun r1 =>
 bd (aN.f lf a1) fun r2 =>
 bd (l0 lf r2.1 (lf+40) 0 r1.1) fun z11 =>
 bd (dn.f lf z11.1.1) fun r12 =>
 some (r12.1,r12.2.1,())
def E(lf:Nat):Entry:=⟨[(.sl (.pair (.int .i64) (.pair (.int .i64) (.pair yV .unit)))),(.sl (.pair (.int .i64) (.pair (.int .i64) (.pair yV .unit))))],[(.sl (.pair (.int .i64) (.pair (.int .i64) (.pair yV .unit)))),.bool],fun x=>f lf x.1 x.2.1⟩
theorem ok(lf:Nat):Ok 31 (E lf):=okL (tC (eG.ok lf) (tC (dn.ok lf) tN)) (aoC (aoP (aN.ok lf) aoN)) (sl lf) fun x=>by kernel_rfl
end eH
end
end Go.Q
namespace Go.Q
open Go.IntKind (i64)
open Go Go.RowKit
open Go.Rx (br bd sIdx sCat sCut iQuo iRem)
noncomputable section
namespace iP
def f(lf:Nat)(a0:List (Int×(Int×(TV×Unit))))(a1:List (Int×(Int×(TV×Unit))))(a2:Int):Option ((List (Int×(Int×(TV×Unit))))×Bool×Int×Unit) :=
 bd (fM.f lf a0 a1 a2) fun r1 =>
 br (r1.1 != 0) (
 some ([],false,r1.1,())) (
 bd (eH.f lf a0 a1) fun r2 =>
 some (r2.1,r2.2.1,0,()))
def E(lf:Nat):Entry:=⟨[(.sl (.pair (.int .i64) (.pair (.int .i64) (.pair yV .unit)))),(.sl (.pair (.int .i64) (.pair (.int .i64) (.pair yV .unit)))),(.int .i64)],[(.sl (.pair (.int .i64) (.pair (.int .i64) (.pair yV .unit)))),.bool,(.int .i64)],fun x=>f lf x.1 x.2.1 x.2.2.1⟩
theorem ok(lf:Nat):Ok 10 (E lf):=okT (an:=(annsL [])) (lf:=lf) (tC (fM.ok lf) (tC (eH.ok lf) tN)) aoN fun x=>by kernel_rfl
end iP
namespace dG
def anns:FuncId→FA:=annsL [(11,⟨annOf [(0,⟨kx 26 [0,1,5],[],[]⟩,⟨kx 26 [4],[],[]⟩)],none,[]⟩)]
def r0{ρ:Type}(lf:Nat)(v0 v1:List (Int×(Int×(TV×Unit))))(v2:Int)(K:Int→Option ρ)(E0:Option ρ)(E1:Option ρ):Option ρ :=
 br (decide (v2 < ((v0.length:Nat):Int))) (
 bd (idxL v0 v2) fun y1 =>
 bd (idxL v1 v2) fun y2 =>
 bd (some (!((y1.1==y2.1)&&((y1.2.1==y2.2.1)&&((((y1.2.2.1.1.1==y2.2.2.1.1.1)&&((y1.2.2.1.1.2.1==y2.2.2.1.1.2.1)&&((y1.2.2.1.1.2.2.1==y2.2.2.1.1.2.2.1)&&true)))&&(((y1.2.2.1.2.1.1==y2.2.2.1.2.1.1)&&((y1.2.2.1.2.1.2.1==y2.2.2.1.2.1.2.1)&&((y1.2.2.1.2.1.2.2.1==y2.2.2.1.2.1.2.2.1)&&true)))&&true))&&true))))) fun r3 =>
 br r3 (
 E0) (
 K (i64.wrap (v2+1)))) (
 E1)
def l0(lf:Nat)(v0 v1:List (Int×(Int×(TV×Unit)))):Nat→Int→Option (Bool×(Unit)×(Unit)×Unit)
 | 0,_=>none
 | n+1,v2=>r0 lf v0 v1 v2 (l0 lf v0 v1 n) (some (true,(()),((()),()))) (some (false,(()),((()),())))
def sh0:ShS:=⟨[.s (.sl (.pair (.int .i64) (.pair (.int .i64) (.pair yV .unit)))),.s (.sl (.pair (.int .i64) (.pair (.int .i64) (.pair yV .unit)))),.a 3,.s (.int .i64),.a 20],[]⟩
def S0(p:(List (Int×(Int×(TV×Unit))))×(List (Int×(Int×(TV×Unit))))×Int×Unit):St:=sh0.b p
def xh0:ShS:=⟨[.a 4,.s .bool,.a 21],[]⟩
def xh1:ShS:=⟨[.a 26],[]⟩
def o0(v0 v1:List (Int×(Int×(TV×Unit))))(y:Bool×(Unit)×(Unit)×Unit):Alt:=.two y.1 (.one .ret (xh0.b (false,()))) (.one (.exit 0) (xh1.b (())))
def tb(lf:Nat):List (FuncId×Entry):=[]
def acV(lf:Nat):List (Nat×(St→Option LTE)):=[(0,sumE sh0 fun(p:(List (Int×(Int×(TV×Unit))))×(List (Int×(Int×(TV×Unit))))×Int×Unit)=>⟨Bool×(Unit)×(Unit)×Unit,l0 lf p.1 p.2.1 (lf+40) p.2.2.1,o0 p.1 p.2.1⟩)]
def ls(lf:Nat):List (Nat×FuncId×Sums):=[(13,11,sumsL (acV lf))]
def it0{ρ:Type}(lf n:Nat)(st:St)(k:KE ρ):Option ρ:=itG anns (ls lf) (tb lf) lf 13 11 0 0 (sumsL (acV lf)) n st k
theorem t0{ρ:Type}(lf n:Nat)(v0 v1:List (Int×(Int×(TV×Unit))))(v2:Int)(k:KE ρ):it0 lf (n+1) (S0 (v0,v1,v2,())) k=r0 lf v0 v1 v2 (fun x0=>it0 lf n (S0 (v0,v1,x0,())) k) (k .ret (xh0.b (false,()))) (k (.exit 0) (xh1.b (()))):=by kernel_rfl
theorem u0{ρ:Type}(lf:Nat)(v0 v1:List (Int×(Int×(TV×Unit))))(k:KE ρ):∀ (n:Nat) (v2:Int),it0 lf n (S0 (v0,v1,v2,())) k=bd (l0 lf v0 v1 n v2) fun y=>altK k (o0 v0 v1 y)
 | 0,_=>by rw[l0,bd_none];rfl
 | n+1,v2=>by
  rw[t0];simp only[l0,r0,u0 lf v0 v1 k n,bd_br,bd_bd,bd_some',bd_none,br_t,br_f,o0,altK]
theorem sl(lf:Nat):SL anns (ls lf) (tb lf) lf (ls lf):=slC (laC (fun _=>by kernel_rfl) (fun _ (x:(List (Int×(Int×(TV×Unit))))×(List (Int×(Int×(TV×Unit))))×Int×Unit) k=>aS (u0 lf x.1 x.2.1 k (lf+40) x.2.2.1)) laN) slN
def f(lf:Nat)(a0:List (Int×(Int×(TV×Unit))))(a1:List (Int×(Int×(TV×Unit)))):Option (Bool×Unit) :=
 br (((a0.length:Nat):Int) !=((a1.length:Nat):Int)) (
 some (false,())) (
 bd (l0 lf a0 a1 (lf+40) 0) fun z4 =>
 br z4.1 (
 some (false,())) (
 some (true,())))
def E(lf:Nat):Entry:=⟨[(.sl (.pair (.int .i64) (.pair (.int .i64) (.pair yV .unit)))),(.sl (.pair (.int .i64) (.pair (.int .i64) (.pair yV .unit))))],[.bool],fun x=>f lf x.1 x.2.1⟩
theorem ok(lf:Nat):Ok 11 (E lf):=okL tN (aoC aoN) (sl lf) fun x=>by kernel_rfl
end dG
end
end Go.Q
