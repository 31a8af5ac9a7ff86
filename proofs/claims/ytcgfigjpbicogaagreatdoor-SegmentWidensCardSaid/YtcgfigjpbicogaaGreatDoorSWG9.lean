import Derived.Test.YtcgfigjpbicogaaGreatDoorProg
import Derived.KernelRfl
import Derived.Test.YtcgfigjpbicogaaGreatDoorSWE3
import Derived.Test.YtcgfigjpbicogaaGreatDoorSWG1
import Derived.Test.YtcgfigjpbicogaaGreatDoorSWG3
import Derived.Test.YtcgfigjpbicogaaGreatDoorSWG6
import Derived.Test.YtcgfigjpbicogaaGreatDoorSWG7
set_option linter.unusedVariables false
set_option linter.unusedSimpArgs false
set_option linter.unusedSectionVars false
set_option maxRecDepth 100000
namespace Go.Q
open Go.IntKind (i64)
open Go Go.RowKit
open Go.Rx (br bd sIdx sCat sCut iQuo iRem)
noncomputable section
namespace bW
def f(lf:Nat)(a0:TV):Option (Bool×Unit) :=
 some (a0.1.1,())
def E(lf:Nat):Entry:=⟨[yV],[.bool],fun x=>f lf x.1⟩
theorem ok(lf:Nat):Ok 56 (E lf):=okT (an:=(annsL [])) (lf:=lf) tN aoN fun x=>by kernel_rfl
end bW
namespace iH
def f(lf:Nat)(a0:TV):Option (Int×Unit) :=
 bd (dB.f lf a0) fun r1 =>
 br (r1.1 != 0) (
 some (r1.1,())) (
 bd (bW.f lf a0) fun r2 =>
 br r2.1 (
 some (16,())) (
 some (0,())))
def E(lf:Nat):Entry:=⟨[yV],[(.int .i64)],fun x=>f lf x.1⟩
theorem ok(lf:Nat):Ok 37 (E lf):=okT (an:=(annsL [])) (lf:=lf) (tC (bW.ok lf) (tC (dB.ok lf) tN)) aoN fun x=>by kernel_rfl
end iH
namespace dN
def anns:FuncId→FA:=annsL [(38,⟨annOf [(0,⟨kx 50 [3,8,9,10],[⟨.tmp 3,(.pair (.int .i64) (.pair (.int .i64) (.pair yV .unit))),49⟩],[]⟩,⟨kx 50 [2,3],[⟨.tmp 3,(.pair (.int .i64) (.pair (.int .i64) (.pair yV .unit))),49⟩],[]⟩)],none,[]⟩)]
def r0{ρ:Type}(lf:Nat)(v0:List TV)(v1:Int)(v2:Int)(v3:List (Int×(Int×(TV×Unit))))(K:Int→(List (Int×(Int×(TV×Unit))))→Option ρ)(E0:(List (Int×(Int×(TV×Unit))))→Option ρ):Option ρ :=
 br (decide (v2 < v1)) (
 bd (idxL v0 v2) fun y1 =>
 br (decide (((v3.length:Nat):Int) > 0)) (
 bd (idxB v3.length (i64.wrap (((v3.length:Nat):Int)-1))) fun j2 =>
 bd (v3[j2]?) fun y3 =>
 bd (some (((y3.2.2.1.1.1==y1.1.1)&&((y3.2.2.1.1.2.1==y1.1.2.1)&&((y3.2.2.1.1.2.2.1==y1.1.2.2.1)&&true)))&&(((y3.2.2.1.2.1.1==y1.2.1.1)&&((y3.2.2.1.2.1.2.1==y1.2.1.2.1)&&((y3.2.2.1.2.1.2.2.1==y1.2.1.2.2.1)&&true)))&&true))) fun r4 =>
 br r4 (
 bd (cutB3 v3.length (i64.wrap (((v3.length:Nat):Int)-1)) ((v3.length:Nat):Int) ((v3.length:Nat):Int)) fun p5 =>
 bd (idxB p5.2 0) fun j6 =>
 bd (upE v3 (p5.1+j6) fun y8=>some (y8.1,(i64.wrap (v2+1)),y8.2.2.1,())) fun q7 =>
 K (i64.wrap (v2+1)) q7) (
 bd (apL true 96 v3 [(v2,(i64.wrap (v2+1)),y1,())]) fun q9 =>
 K (i64.wrap (v2+1)) q9)) (
 bd (apL true 96 v3 [(v2,(i64.wrap (v2+1)),y1,())]) fun q10 =>
 K (i64.wrap (v2+1)) q10)) (
 E0 v3)
def l0(lf:Nat)(v0:List TV)(v1:Int):Nat→Int→(List (Int×(Int×(TV×Unit))))→Option (((List (Int×(Int×(TV×Unit))))×Unit)×Unit)
 | 0,_,_=>none
 | n+1,v2,v3=>r0 lf v0 v1 v2 v3 (l0 lf v0 v1 n) (fun w0=>some ((w0,()),()))
def sh0:ShS:=⟨[.a 3,.s (.row 0),.a 4,.s (.sl yV),.s (.int .i64),.s (.int .i64),.a 39],[.row (.pair (.int .i64) (.pair (.int .i64) (.pair yV .unit))) 49 false]⟩
def S0(p:(List TV)×Int×Int×(List (Int×(Int×(TV×Unit))))×Unit):St:=sh0.b p
def xh0:ShS:=⟨[.a 3,.s (.row 0),.a 46],[.row (.pair (.int .i64) (.pair (.int .i64) (.pair yV .unit))) 49 false]⟩
def o0(v0:List TV)(v1:Int)(y:((List (Int×(Int×(TV×Unit))))×Unit)×Unit):Alt:=.one (.exit 0) (xh0.b (y.1.1,()))
def tb(lf:Nat):List (FuncId×Entry):=[]
def ac2(lf:Nat):List (Nat×(St→Option LTE)):=[(0,sumE sh0 fun(p:(List TV)×Int×Int×(List (Int×(Int×(TV×Unit))))×Unit)=>⟨((List (Int×(Int×(TV×Unit))))×Unit)×Unit,l0 lf p.1 p.2.1 (lf+40) p.2.2.1 p.2.2.2.1,o0 p.1 p.2.1⟩)]
def ls(lf:Nat):List (Nat×FuncId×Sums):=[(13,38,sumsL (ac2 lf))]
def it0{ρ:Type}(lf n:Nat)(st:St)(k:KE ρ):Option ρ:=itG anns (ls lf) (tb lf) lf 13 38 0 0 (sumsL (ac2 lf)) n st k
theorem t0{ρ:Type}(lf n:Nat)(v0:List TV)(v1 v2:Int)(v3:List (Int×(Int×(TV×Unit))))(k:KE ρ):it0 lf (n+1) (S0 (v0,v1,v2,v3,())) k=r0 lf v0 v1 v2 v3 (fun x0 x1=>it0 lf n (S0 (v0,v1,x0,x1,())) k) (fun w0=>k (.exit 0) (xh0.b (w0,()))):=by kernel_rfl
theorem u0{ρ:Type}(lf:Nat)(v0:List TV)(v1:Int)(k:KE ρ):∀ (n:Nat) (v2:Int) (v3:List (Int×(Int×(TV×Unit)))),it0 lf n (S0 (v0,v1,v2,v3,())) k=bd (l0 lf v0 v1 n v2 v3) fun y=>altK k (o0 v0 v1 y)
 | 0,_,_=>by rw[l0,bd_none];rfl
 | n+1,v2,v3=>by
  rw[t0];simp only[l0,r0,u0 lf v0 v1 k n,bd_br,bd_bd,bd_some',bd_none,br_t,br_f,o0,altK]
theorem sl(lf:Nat):SL anns (ls lf) (tb lf) lf (ls lf):=slC (laC (fun _=>by kernel_rfl) (fun _ (x:(List TV)×Int×Int×(List (Int×(Int×(TV×Unit))))×Unit) k=>aS (u0 lf x.1 x.2.1 k (lf+40) x.2.2.1 x.2.2.2.1)) laN) slN
def f(lf:Nat)(a0:List TV):Option ((List (Int×(Int×(TV×Unit))))×Unit) :=
 bd (l0 lf a0 ((a0.length:Nat):Int) (lf+40) 0 []) fun z11 =>
 some (z11.1.1,())
def E(lf:Nat):Entry:=⟨[(.sl yV)],[(.sl (.pair (.int .i64) (.pair (.int .i64) (.pair yV .unit))))],fun x=>f lf x.1⟩
theorem ok(lf:Nat):Ok 38 (E lf):=okL tN (aoC aoN) (sl lf) fun x=>by kernel_rfl
end dN
namespace pJ
def l:List (((List TV)×Unit)×((List (Int×(Int×(TV×Unit))))×Int×Unit)):=[(([((false,(⟨#[48]⟩:ByteArray),(⟨#[48]⟩:ByteArray),()),(false,(⟨#[48]⟩:ByteArray),(⟨#[48]⟩:ByteArray),()),()),((false,(⟨#[48]⟩:ByteArray),(⟨#[48]⟩:ByteArray),()),(false,(⟨#[48]⟩:ByteArray),(⟨#[48]⟩:ByteArray),()),()),((false,(⟨#[48]⟩:ByteArray),(⟨#[48]⟩:ByteArray),()),(false,(⟨#[48]⟩:ByteArray),(⟨#[48]⟩:ByteArray),()),()),((false,(⟨#[49]⟩:ByteArray),(⟨#[53]⟩:ByteArray),()),(false,(⟨#[49]⟩:ByteArray),(⟨#[48]⟩:ByteArray),()),()),((false,(⟨#[49]⟩:ByteArray),(⟨#[53]⟩:ByteArray),()),(false,(⟨#[49]⟩:ByteArray),(⟨#[48]⟩:ByteArray),()),()),((false,(⟨#[55]⟩:ByteArray),(⟨#[55]⟩:ByteArray),()),(false,(⟨#[48]⟩:ByteArray),(⟨#[55]⟩:ByteArray),()),())],()),([(0,3,((false,(⟨#[48]⟩:ByteArray),(⟨#[48]⟩:ByteArray),()),(false,(⟨#[48]⟩:ByteArray),(⟨#[48]⟩:ByteArray),()),()),()),(3,5,((false,(⟨#[49]⟩:ByteArray),(⟨#[53]⟩:ByteArray),()),(false,(⟨#[49]⟩:ByteArray),(⟨#[48]⟩:ByteArray),()),()),()),(5,6,((false,(⟨#[55]⟩:ByteArray),(⟨#[55]⟩:ByteArray),()),(false,(⟨#[48]⟩:ByteArray),(⟨#[55]⟩:ByteArray),()),()),())],0,()))]
def f(lf:Nat)(a0:List TV):Option ((List (Int×(Int×(TV×Unit))))×Int×Unit):=pick [(.sl yV)] l (a0,())
def E(lf:Nat):Entry:=⟨[(.sl yV)],[(.sl (.pair (.int .i64) (.pair (.int .i64) (.pair yV .unit)))),(.int .i64)],fun x=>f lf x.1⟩
def tb(lf:Nat):List (FuncId×Entry):=[(37,iH.E lf),(38,dN.E lf)]
abbrev an:FuncId→FA:=annsL [(17,⟨annOf [(0,⟨kx 29 [0,15,16,17],[],[]⟩,⟨kx 29 [0,2,3],[],[]⟩)],none,[]⟩)]
theorem t0(lf:Nat):runQ Proofs.Tryz.prog an noLs (lookT (tb lf)) (lf+40) 14 6 17 [(.sl yV)] [(.sl (.pair (.int .i64) (.pair (.int .i64) (.pair yV .unit)))),(.int .i64)] ([((false,(⟨#[48]⟩:ByteArray),(⟨#[48]⟩:ByteArray),()),(false,(⟨#[48]⟩:ByteArray),(⟨#[48]⟩:ByteArray),()),()),((false,(⟨#[48]⟩:ByteArray),(⟨#[48]⟩:ByteArray),()),(false,(⟨#[48]⟩:ByteArray),(⟨#[48]⟩:ByteArray),()),()),((false,(⟨#[48]⟩:ByteArray),(⟨#[48]⟩:ByteArray),()),(false,(⟨#[48]⟩:ByteArray),(⟨#[48]⟩:ByteArray),()),()),((false,(⟨#[49]⟩:ByteArray),(⟨#[53]⟩:ByteArray),()),(false,(⟨#[49]⟩:ByteArray),(⟨#[48]⟩:ByteArray),()),()),((false,(⟨#[49]⟩:ByteArray),(⟨#[53]⟩:ByteArray),()),(false,(⟨#[49]⟩:ByteArray),(⟨#[48]⟩:ByteArray),()),()),((false,(⟨#[55]⟩:ByteArray),(⟨#[55]⟩:ByteArray),()),(false,(⟨#[48]⟩:ByteArray),(⟨#[55]⟩:ByteArray),()),())],())=some ([(0,3,((false,(⟨#[48]⟩:ByteArray),(⟨#[48]⟩:ByteArray),()),(false,(⟨#[48]⟩:ByteArray),(⟨#[48]⟩:ByteArray),()),()),()),(3,5,((false,(⟨#[49]⟩:ByteArray),(⟨#[53]⟩:ByteArray),()),(false,(⟨#[49]⟩:ByteArray),(⟨#[48]⟩:ByteArray),()),()),()),(5,6,((false,(⟨#[55]⟩:ByteArray),(⟨#[55]⟩:ByteArray),()),(false,(⟨#[48]⟩:ByteArray),(⟨#[55]⟩:ByteArray),()),()),())],0,()):=by kernel_rfl
theorem ok(lf:Nat):Ok 17 (E lf):=okP (an:=an) (tb:=tb lf) (lf:=lf) (tC (iH.ok lf) (tC (dN.ok lf) tN)) (aoC aoN) (l:=l) (fun _=>rfl) (fun _=>rfl) ⟨t0 lf,trivial⟩
end pJ
namespace bJ
def anns:FuncId→FA:=annsL [(39,⟨annOf [(0,⟨kx 69 [0,1,5,20,21,22],[],[]⟩,⟨kx 69 [1,4,5],[],[]⟩)],none,[]⟩)]
def r0{ρ:Type}(lf:Nat)(v0:List (Int×(Int×(TV×Unit))))(v1:Int)(v3:List (Int×(Int×(TV×Unit))))(v4:Int)(v2 v5:Int)(K:Int→Int→Option ρ)(E0:Int→Int→Option ρ)(E1:Int→Option ρ):Option ρ :=
 br (decide (v5 < v4)) (
 bd (idxL v3 v5) fun y1 =>
 br (y1.1 != v2) (
 E0 20 v2) (
 br (decide (y1.1≥y1.2.1)) (
 E0 15 v2) (
 br (decide (y1.2.1 > v1)) (
 E0 15 v2) (
 bd (iH.f lf y1.2.2.1) fun r2 =>
 br (r2.1 != 0) (
 E0 r2.1 v2) (
 br (decide (v5 > 0)) (
 bd (idxL v0 (i64.wrap (v5-1))) fun y3 =>
 bd (some (((y1.2.2.1.1.1==y3.2.2.1.1.1)&&((y1.2.2.1.1.2.1==y3.2.2.1.1.2.1)&&((y1.2.2.1.1.2.2.1==y3.2.2.1.1.2.2.1)&&true)))&&(((y1.2.2.1.2.1.1==y3.2.2.1.2.1.1)&&((y1.2.2.1.2.1.2.1==y3.2.2.1.2.1.2.1)&&((y1.2.2.1.2.1.2.2.1==y3.2.2.1.2.1.2.2.1)&&true)))&&true))) fun r4 =>
 br r4 (
 E0 7 v2) (
 K y1.2.1 (i64.wrap (v5+1)))) (
 K y1.2.1 (i64.wrap (v5+1)))))))) (
 E1 v2)
def l0(lf:Nat)(v0:List (Int×(Int×(TV×Unit))))(v1:Int)(v3:List (Int×(Int×(TV×Unit))))(v4:Int):Nat→Int→Int→Option (Bool×(Int×Int×Unit)×(Int×Unit)×Unit)
 | 0,_,_=>none
 | n+1,v2,v5=>r0 lf v0 v1 v3 v4 v2 v5 (l0 lf v0 v1 v3 v4 n) (fun w0 w1=>some (true,(w0,w1,()),((0,()),()))) (fun w0=>some (false,(0,0,()),((w0,()),())))
def sh0:ShS:=⟨[.s (.sl (.pair (.int .i64) (.pair (.int .i64) (.pair yV .unit)))),.s (.int .i64),.a 3,.s (.int .i64),.a 14,.s (.sl (.pair (.int .i64) (.pair (.int .i64) (.pair yV .unit)))),.s (.int .i64),.s (.int .i64),.a 46],[]⟩
def S0(p:(List (Int×(Int×(TV×Unit))))×Int×Int×(List (Int×(Int×(TV×Unit))))×Int×Int×Unit):St:=sh0.b p
def xh0:ShS:=⟨[.a 1,.s (.int .i64),.a 2,.s (.int .i64),.s (.int .i64),.a 63],[]⟩
def xh1:ShS:=⟨[.a 1,.s (.int .i64),.a 3,.s (.int .i64),.a 63],[]⟩
def o0(v0:List (Int×(Int×(TV×Unit))))(v1:Int)(v3:List (Int×(Int×(TV×Unit))))(v4:Int)(y:Bool×(Int×Int×Unit)×(Int×Unit)×Unit):Alt:=.two y.1 (.one .ret (xh0.b (v1,y.2.1.1,y.2.1.2.1,()))) (.one (.exit 1) (xh1.b (v1,y.2.2.1.1,())))
def tb(lf:Nat):List (FuncId×Entry):=[(37,iH.E lf)]
def ac3(lf:Nat):List (Nat×(St→Option LTE)):=[(0,sumE sh0 fun(p:(List (Int×(Int×(TV×Unit))))×Int×Int×(List (Int×(Int×(TV×Unit))))×Int×Int×Unit)=>⟨Bool×(Int×Int×Unit)×(Int×Unit)×Unit,l0 lf p.1 p.2.1 p.2.2.2.1 p.2.2.2.2.1 (lf+40) p.2.2.1 p.2.2.2.2.2.1,o0 p.1 p.2.1 p.2.2.2.1 p.2.2.2.2.1⟩)]
def ls(lf:Nat):List (Nat×FuncId×Sums):=[(13,39,sumsL (ac3 lf))]
def it0{ρ:Type}(lf n:Nat)(st:St)(k:KE ρ):Option ρ:=itG anns (ls lf) (tb lf) lf 13 39 0 0 (sumsL (ac3 lf)) n st k
theorem t0{ρ:Type}(lf n:Nat)(v0:List (Int×(Int×(TV×Unit))))(v1 v2:Int)(v3:List (Int×(Int×(TV×Unit))))(v4 v5:Int)(k:KE ρ):it0 lf (n+1) (S0 (v0,v1,v2,v3,v4,v5,())) k=r0 lf v0 v1 v3 v4 v2 v5 (fun x0 x1=>it0 lf n (S0 (v0,v1,x0,v3,v4,x1,())) k) (fun w0 w1=>k .ret (xh0.b (v1,w0,w1,()))) (fun w0=>k (.exit 1) (xh1.b (v1,w0,()))):=by kernel_rfl
theorem u0{ρ:Type}(lf:Nat)(v0:List (Int×(Int×(TV×Unit))))(v1:Int)(v3:List (Int×(Int×(TV×Unit))))(v4:Int)(k:KE ρ):∀ (n:Nat) (v2 v5:Int),it0 lf n (S0 (v0,v1,v2,v3,v4,v5,())) k=bd (l0 lf v0 v1 v3 v4 n v2 v5) fun y=>altK k (o0 v0 v1 v3 v4 y)
 | 0,_,_=>by rw[l0,bd_none];rfl
 | n+1,v2,v5=>by
  rw[t0];simp only[l0,r0,u0 lf v0 v1 v3 v4 k n,bd_br,bd_bd,bd_some',bd_none,br_t,br_f,o0,altK]
theorem sl(lf:Nat):SL anns (ls lf) (tb lf) lf (ls lf):=slC (laC (fun _=>by kernel_rfl) (fun _ (x:(List (Int×(Int×(TV×Unit))))×Int×Int×(List (Int×(Int×(TV×Unit))))×Int×Int×Unit) k=>aS (u0 lf x.1 x.2.1 x.2.2.2.1 x.2.2.2.2.1 k (lf+40) x.2.2.1 x.2.2.2.2.2.1)) laN) slN
def f(lf:Nat)(a0:List (Int×(Int×(TV×Unit))))(a1:Int):Option (Int×Unit) :=
 br (decide (a1 < 1)) (
 some (2,())) (
 br (decide (a1 > 32)) (
 some (2,())) (
 br (((a0.length:Nat):Int)==0) (
 some (20,())) (
 bd (l0 lf a0 a1 a0 ((a0.length:Nat):Int) (lf+40) 0 0) fun z5 =>
 br z5.1 (
 some (z5.2.1.1,())) (
 br (z5.2.2.1.1 != a1) (
 some (20,())) (
 some (0,()))))))
def E(lf:Nat):Entry:=⟨[(.sl (.pair (.int .i64) (.pair (.int .i64) (.pair yV .unit)))),(.int .i64)],[(.int .i64)],fun x=>f lf x.1 x.2.1⟩
theorem ok(lf:Nat):Ok 39 (E lf):=okL (tC (iH.ok lf) tN) (aoC aoN) (sl lf) fun x=>by kernel_rfl
end bJ
namespace iZ
def f(lf:Nat)(a0:ByteArray)(a1:Int):Option (ByteArray×Unit) :=
 some (a0,())
def E(lf:Nat):Entry:=⟨[.str,(.int .i64)],[.str],fun x=>f lf x.1 x.2.1⟩
theorem ok(lf:Nat):Ok 41 (E lf):=okT (an:=(annsL [])) (lf:=lf) tN aoN fun x=>by kernel_rfl
end iZ
end
end Go.Q
namespace Go.Q
open Go.IntKind (i64)
open Go Go.RowKit
open Go.Rx (br bd sIdx sCat sCut iQuo iRem)
noncomputable section
namespace kR
def anns:FuncId→FA:=annsL [(18,⟨annOf [(0,⟨kx 54 [7,17,18,19],[⟨.tmp 7,.str,9⟩],[]⟩,⟨kx 54 [4,5,7],[⟨.tmp 7,.str,9⟩],[]⟩)],none,[]⟩)]
def r0{ρ:Type}(lf:Nat)(v0:List (Int×(Int×(TV×Unit))))(v1:Int)(v2:Int)(v3:List ByteArray)(K:Int→(List ByteArray)→Option ρ)(E0:(List ByteArray)→Option ρ):Option ρ :=
 br (decide (v2 < v1)) (
 bd (idxL v0 v2) fun y2 =>
 bd (B.Itoa.f lf y2.1) fun r3 =>
 br (decide (y2.2.1 >(i64.wrap (y2.1+1)))) (
 bd (B.Itoa.f lf (i64.wrap (y2.2.1-1))) fun r4 =>
 bd (sCat (⟨#[45]⟩:ByteArray) r4.1) fun r5 =>
 bd (sCat r3.1 r5) fun r6 =>
 bd (sCat r6 (⟨#[58,32]⟩:ByteArray)) fun r7 =>
 bd (lM.f lf y2.2.2.1) fun r8 =>
 bd (iZ.f lf r8.1 r8.2.1) fun r9 =>
 bd (sCat r7 r9.1) fun r10 =>
 bd (apL true 16 v3 [r10]) fun q11 =>
 K (i64.wrap (v2+1)) q11) (
 bd (sCat r3.1 (⟨#[58,32]⟩:ByteArray)) fun r12 =>
 bd (lM.f lf y2.2.2.1) fun r13 =>
 bd (iZ.f lf r13.1 r13.2.1) fun r14 =>
 bd (sCat r12 r14.1) fun r15 =>
 bd (apL true 16 v3 [r15]) fun q16 =>
 K (i64.wrap (v2+1)) q16)) (
 E0 v3)
def l0(lf:Nat)(v0:List (Int×(Int×(TV×Unit))))(v1:Int):Nat→Int→(List ByteArray)→Option (((List ByteArray)×Unit)×Unit)
 | 0,_,_=>none
 | n+1,v2,v3=>r0 lf v0 v1 v2 v3 (l0 lf v0 v1 n) (fun w0=>some ((w0,()),()))
def sh0:ShS:=⟨[.a 7,.s (.row 0),.a 9,.s (.sl (.pair (.int .i64) (.pair (.int .i64) (.pair yV .unit)))),.s (.int .i64),.s (.int .i64),.a 34],[.row .str 9 false]⟩
def S0(p:(List (Int×(Int×(TV×Unit))))×Int×Int×(List ByteArray)×Unit):St:=sh0.b p
def xh0:ShS:=⟨[.a 7,.s (.row 0),.a 46],[.row .str 9 false]⟩
def o0(v0:List (Int×(Int×(TV×Unit))))(v1:Int)(y:((List ByteArray)×Unit)×Unit):Alt:=.one (.exit 0) (xh0.b (y.1.1,()))
def tb(lf:Nat):List (FuncId×Entry):=[(39,bJ.E lf),(40,B.Itoa.E lf),(41,iZ.E lf),(42,lM.E lf),(43,B.Join.E lf)]
def acX(lf:Nat):List (Nat×(St→Option LTE)):=[(0,sumE sh0 fun(p:(List (Int×(Int×(TV×Unit))))×Int×Int×(List ByteArray)×Unit)=>⟨((List ByteArray)×Unit)×Unit,l0 lf p.1 p.2.1 (lf+40) p.2.2.1 p.2.2.2.1,o0 p.1 p.2.1⟩)]
def ls(lf:Nat):List (Nat×FuncId×Sums):=[(13,18,sumsL (acX lf))]
def it0{ρ:Type}(lf n:Nat)(st:St)(k:KE ρ):Option ρ:=itG anns (ls lf) (tb lf) lf 13 18 0 0 (sumsL (acX lf)) n st k
theorem t0{ρ:Type}(lf n:Nat)(v0:List (Int×(Int×(TV×Unit))))(v1 v2:Int)(v3:List ByteArray)(k:KE ρ):it0 lf (n+1) (S0 (v0,v1,v2,v3,())) k=r0 lf v0 v1 v2 v3 (fun x0 x1=>it0 lf n (S0 (v0,v1,x0,x1,())) k) (fun w0=>k (.exit 0) (xh0.b (w0,()))):=by kernel_rfl
theorem u0{ρ:Type}(lf:Nat)(v0:List (Int×(Int×(TV×Unit))))(v1:Int)(k:KE ρ):∀ (n:Nat) (v2:Int) (v3:List ByteArray),it0 lf n (S0 (v0,v1,v2,v3,())) k=bd (l0 lf v0 v1 n v2 v3) fun y=>altK k (o0 v0 v1 y)
 | 0,_,_=>by rw[l0,bd_none];rfl
 | n+1,v2,v3=>by
  rw[t0];simp only[l0,r0,u0 lf v0 v1 k n,bd_br,bd_bd,bd_some',bd_none,br_t,br_f,o0,altK]
theorem sl(lf:Nat):SL anns (ls lf) (tb lf) lf (ls lf):=slC (laC (fun _=>by kernel_rfl) (fun _ (x:(List (Int×(Int×(TV×Unit))))×Int×Int×(List ByteArray)×Unit) k=>aS (u0 lf x.1 x.2.1 k (lf+40) x.2.2.1 x.2.2.2.1)) laN) slN
def f(lf:Nat)(a0:List (Int×(Int×(TV×Unit))))(a1:Int):Option (ByteArray×Int×Unit) :=
 bd (bJ.f lf a0 a1) fun r1 =>
 br (r1.1 != 0) (
 some ((⟨#[]⟩:ByteArray),r1.1,())) (
 bd (l0 lf a0 ((a0.length:Nat):Int) (lf+40) 0 []) fun z17 =>
 bd (B.Join.f lf z17.1.1 (⟨#[59,32]⟩:ByteArray)) fun r18 =>
 some (r18.1,0,()))
def E(lf:Nat):Entry:=⟨[(.sl (.pair (.int .i64) (.pair (.int .i64) (.pair yV .unit)))),(.int .i64)],[.str,(.int .i64)],fun x=>f lf x.1 x.2.1⟩
theorem ok(lf:Nat):Ok 18 (E lf):=okL (tC (bJ.ok lf) (tC (B.Itoa.ok lf) (tC (iZ.ok lf) (tC (lM.ok lf) (tC (B.Join.ok lf) tN))))) (aoC aoN) (sl lf) fun x=>by kernel_rfl
end kR
namespace lZ
def anns:FuncId→FA:=annsL [(44,⟨annOf [(0,⟨kx 29 [17,18,19],[],[]⟩,⟨kx 29 [6],[],[]⟩)],none,[]⟩)]
def r0{ρ:Type}(lf:Nat)(v0:List TV)(v1:Int)(v2:Int)(K:Int→Option ρ)(E0:Int→Option ρ)(E1:Option ρ):Option ρ :=
 br (decide (v2 < v1)) (
 bd (idxL v0 v2) fun y2 =>
 bd (dB.f lf y2) fun r3 =>
 br (r3.1 != 0) (
 E0 r3.1) (
 K (i64.wrap (v2+1)))) (
 E1)
def l0(lf:Nat)(v0:List TV)(v1:Int):Nat→Int→Option (Bool×(Int×Unit)×(Unit)×Unit)
 | 0,_=>none
 | n+1,v2=>r0 lf v0 v1 v2 (l0 lf v0 v1 n) (fun w0=>some (true,(w0,()),((()),()))) (some (false,(0,()),((()),())))
def sh0:ShS:=⟨[.a 17,.s (.sl yV),.s (.int .i64),.s (.int .i64),.a 9],[]⟩
def S0(p:(List TV)×Int×Int×Unit):St:=sh0.b p
def xh0:ShS:=⟨[.a 6,.s (.int .i64),.a 22],[]⟩
def xh1:ShS:=⟨[.a 29],[]⟩
def o0(v0:List TV)(v1:Int)(y:Bool×(Int×Unit)×(Unit)×Unit):Alt:=.two y.1 (.one .ret (xh0.b (y.2.1.1,()))) (.one (.exit 0) (xh1.b (())))
def tb(lf:Nat):List (FuncId×Entry):=[(39,bJ.E lf),(76,dB.E lf)]
def ac4(lf:Nat):List (Nat×(St→Option LTE)):=[(0,sumE sh0 fun(p:(List TV)×Int×Int×Unit)=>⟨Bool×(Int×Unit)×(Unit)×Unit,l0 lf p.1 p.2.1 (lf+40) p.2.2.1,o0 p.1 p.2.1⟩)]
def ls(lf:Nat):List (Nat×FuncId×Sums):=[(13,44,sumsL (ac4 lf))]
def it0{ρ:Type}(lf n:Nat)(st:St)(k:KE ρ):Option ρ:=itG anns (ls lf) (tb lf) lf 13 44 0 0 (sumsL (ac4 lf)) n st k
theorem t0{ρ:Type}(lf n:Nat)(v0:List TV)(v1 v2:Int)(k:KE ρ):it0 lf (n+1) (S0 (v0,v1,v2,())) k=r0 lf v0 v1 v2 (fun x0=>it0 lf n (S0 (v0,v1,x0,())) k) (fun w0=>k .ret (xh0.b (w0,()))) (k (.exit 0) (xh1.b (()))):=by kernel_rfl
theorem u0{ρ:Type}(lf:Nat)(v0:List TV)(v1:Int)(k:KE ρ):∀ (n:Nat) (v2:Int),it0 lf n (S0 (v0,v1,v2,())) k=bd (l0 lf v0 v1 n v2) fun y=>altK k (o0 v0 v1 y)
 | 0,_=>by rw[l0,bd_none];rfl
 | n+1,v2=>by
  rw[t0];simp only[l0,r0,u0 lf v0 v1 k n,bd_br,bd_bd,bd_some',bd_none,br_t,br_f,o0,altK]
theorem sl(lf:Nat):SL anns (ls lf) (tb lf) lf (ls lf):=slC (laC (fun _=>by kernel_rfl) (fun _ (x:(List TV)×Int×Int×Unit) k=>aS (u0 lf x.1 x.2.1 k (lf+40) x.2.2.1)) laN) slN
def f(lf:Nat)(a0:List (Int×(Int×(TV×Unit))))(a1:Int)(a2:List TV):Option (Int×Unit) :=
 bd (bJ.f lf a0 a1) fun r1 =>
 br (r1.1 != 0) (
 some (r1.1,())) (
 bd (l0 lf a2 ((a2.length:Nat):Int) (lf+40) 0) fun z4 =>
 br z4.1 (
 some (z4.2.1.1,())) (
 some (0,())))
def E(lf:Nat):Entry:=⟨[(.sl (.pair (.int .i64) (.pair (.int .i64) (.pair yV .unit)))),(.int .i64),(.sl yV)],[(.int .i64)],fun x=>f lf x.1 x.2.1 x.2.2.1⟩
theorem ok(lf:Nat):Ok 44 (E lf):=okL (tC (bJ.ok lf) (tC (dB.ok lf) tN)) (aoC aoN) (sl lf) fun x=>by kernel_rfl
end lZ
namespace kL
def f(lf:Nat)(a0:Bool)(a1:Int):Option (Bool×Unit) :=
 some (a0,())
def E(lf:Nat):Entry:=⟨[.bool,(.int .i64)],[.bool],fun x=>f lf x.1 x.2.1⟩
theorem ok(lf:Nat):Ok 83 (E lf):=okT (an:=(annsL [])) (lf:=lf) tN aoN fun x=>by kernel_rfl
end kL
namespace nC
def l:List (((List (Int×(Int×(TV×Unit))))×Int×TV×Unit)×(TV×Int×Unit)):=[(([(0,3,((false,(⟨#[48]⟩:ByteArray),(⟨#[48]⟩:ByteArray),()),(false,(⟨#[48]⟩:ByteArray),(⟨#[48]⟩:ByteArray),()),()),()),(3,5,((false,(⟨#[49]⟩:ByteArray),(⟨#[53]⟩:ByteArray),()),(false,(⟨#[49]⟩:ByteArray),(⟨#[48]⟩:ByteArray),()),()),()),(5,6,((false,(⟨#[55]⟩:ByteArray),(⟨#[55]⟩:ByteArray),()),(false,(⟨#[48]⟩:ByteArray),(⟨#[55]⟩:ByteArray),()),()),())],6,((false,(⟨#[50]⟩:ByteArray),(⟨#[51]⟩:ByteArray),()),(false,(⟨#[49]⟩:ByteArray),(⟨#[48]⟩:ByteArray),()),()),()),(((false,(⟨#[48]⟩:ByteArray),(⟨#[53]⟩:ByteArray),()),(false,(⟨#[49]⟩:ByteArray),(⟨#[48]⟩:ByteArray),()),()),0,())),(([(0,3,((false,(⟨#[48]⟩:ByteArray),(⟨#[48]⟩:ByteArray),()),(false,(⟨#[48]⟩:ByteArray),(⟨#[48]⟩:ByteArray),()),()),()),(3,5,((false,(⟨#[49]⟩:ByteArray),(⟨#[53]⟩:ByteArray),()),(false,(⟨#[49]⟩:ByteArray),(⟨#[48]⟩:ByteArray),()),()),()),(5,6,((false,(⟨#[55]⟩:ByteArray),(⟨#[55]⟩:ByteArray),()),(false,(⟨#[48]⟩:ByteArray),(⟨#[55]⟩:ByteArray),()),()),())],6,((false,(⟨#[49]⟩:ByteArray),(⟨#[]⟩:ByteArray),()),(false,(⟨#[52]⟩:ByteArray),(⟨#[49]⟩:ByteArray),()),()),()),(((false,(⟨#[48]⟩:ByteArray),(⟨#[55]⟩:ByteArray),()),(false,(⟨#[55]⟩:ByteArray),(⟨#[48]⟩:ByteArray),()),()),0,()))]
def f(lf:Nat)(a0:List (Int×(Int×(TV×Unit))))(a1:Int)(a2:TV):Option (TV×Int×Unit):=pick [(.sl (.pair (.int .i64) (.pair (.int .i64) (.pair yV .unit)))),(.int .i64),yV] l (a0,a1,a2,())
def E(lf:Nat):Entry:=⟨[(.sl (.pair (.int .i64) (.pair (.int .i64) (.pair yV .unit)))),(.int .i64),yV],[yV,(.int .i64)],fun x=>f lf x.1 x.2.1 x.2.2.1⟩
def tb(lf:Nat):List (FuncId×Entry):=[(39,bJ.E lf),(48,kS.E lf),(57,nS.E lf),(76,dB.E lf),(85,jL.E lf),(131,fK.E lf),(149,bH.E lf),(150,bF.E lf),(152,jA.E lf),(158,bg.E lf),(159,fU.E lf),(161,fD.E lf)]
abbrev an:FuncId→FA:=annsL [(19,⟨annOf [(0,⟨kx 34 [9],[],[]⟩,⟨[],[],[]⟩)],none,[]⟩),(44,⟨annOf [(0,⟨kx 29 [17,18,19],[],[]⟩,⟨kx 29 [6],[],[]⟩)],none,[]⟩),(82,⟨annOf [(0,⟨kx 24 [2,3],[],[]⟩,⟨[],[],[]⟩)],none,[]⟩)]
theorem t0(lf:Nat):runQ Proofs.Tryz.prog an noLs (lookT (tb lf)) (lf+40) 14 6 19 [(.sl (.pair (.int .i64) (.pair (.int .i64) (.pair yV .unit)))),(.int .i64),yV] [yV,(.int .i64)] ([(0,3,((false,(⟨#[48]⟩:ByteArray),(⟨#[48]⟩:ByteArray),()),(false,(⟨#[48]⟩:ByteArray),(⟨#[48]⟩:ByteArray),()),()),()),(3,5,((false,(⟨#[49]⟩:ByteArray),(⟨#[53]⟩:ByteArray),()),(false,(⟨#[49]⟩:ByteArray),(⟨#[48]⟩:ByteArray),()),()),()),(5,6,((false,(⟨#[55]⟩:ByteArray),(⟨#[55]⟩:ByteArray),()),(false,(⟨#[48]⟩:ByteArray),(⟨#[55]⟩:ByteArray),()),()),())],6,((false,(⟨#[50]⟩:ByteArray),(⟨#[51]⟩:ByteArray),()),(false,(⟨#[49]⟩:ByteArray),(⟨#[48]⟩:ByteArray),()),()),())=some (((false,(⟨#[48]⟩:ByteArray),(⟨#[53]⟩:ByteArray),()),(false,(⟨#[49]⟩:ByteArray),(⟨#[48]⟩:ByteArray),()),()),0,()):=by kernel_rfl
theorem t1(lf:Nat):runQ Proofs.Tryz.prog an noLs (lookT (tb lf)) (lf+40) 14 6 19 [(.sl (.pair (.int .i64) (.pair (.int .i64) (.pair yV .unit)))),(.int .i64),yV] [yV,(.int .i64)] ([(0,3,((false,(⟨#[48]⟩:ByteArray),(⟨#[48]⟩:ByteArray),()),(false,(⟨#[48]⟩:ByteArray),(⟨#[48]⟩:ByteArray),()),()),()),(3,5,((false,(⟨#[49]⟩:ByteArray),(⟨#[53]⟩:ByteArray),()),(false,(⟨#[49]⟩:ByteArray),(⟨#[48]⟩:ByteArray),()),()),()),(5,6,((false,(⟨#[55]⟩:ByteArray),(⟨#[55]⟩:ByteArray),()),(false,(⟨#[48]⟩:ByteArray),(⟨#[55]⟩:ByteArray),()),()),())],6,((false,(⟨#[49]⟩:ByteArray),(⟨#[]⟩:ByteArray),()),(false,(⟨#[52]⟩:ByteArray),(⟨#[49]⟩:ByteArray),()),()),())=some (((false,(⟨#[48]⟩:ByteArray),(⟨#[55]⟩:ByteArray),()),(false,(⟨#[55]⟩:ByteArray),(⟨#[48]⟩:ByteArray),()),()),0,()):=by kernel_rfl
theorem ok(lf:Nat):Ok 19 (E lf):=okP (an:=an) (tb:=tb lf) (lf:=lf) (tC (bJ.ok lf) (tC (kS.ok lf) (tC (nS.ok lf) (tC (dB.ok lf) (tC (jL.ok lf) (tC (fK.ok lf) (tC (bH.ok lf) (tC (bF.ok lf) (tC (jA.ok lf) (tC (bg.ok lf) (tC (fU.ok lf) (tC (fD.ok lf) tN)))))))))))) (aoC (aoC (aoC aoN))) (l:=l) (fun _=>rfl) (fun _=>rfl) ⟨t0 lf,t1 lf,trivial⟩
end nC
end
end Go.Q
namespace Go.Q
open Go.IntKind (i64)
open Go Go.RowKit
open Go.Rx (br bd sIdx sCat sCut iQuo iRem)
noncomputable section
namespace bM
def anns:FuncId→FA:=annsL [(55,⟨annOf [(0,⟨kx 15 [3],[],[]⟩,⟨[],[],[]⟩)],none,[]⟩),(99,⟨annOf [(0,⟨kx 27 [0,6,7,8],[⟨.ref 0 0,yV,47⟩],[]⟩,⟨kx 27 [],[⟨.ref 0 0,yV,47⟩],[]⟩),(1,⟨kx 27 [0,4,5,6,7,8],[⟨.ref 0 0,yV,47⟩],[]⟩,⟨kx 27 [0,6,7,8],[⟨.ref 0 0,yV,47⟩],[]⟩)],none,[]⟩)]
def r1{ρ:Type}(lf:Nat)(v1:List (Int×(Int×(TV×Unit))))(v2 v3:Int)(v4:List (Int×(Int×(TV×Unit))))(v5 v6:Int)(v7:Bool)(v8 v9:ByteArray)(v10:Bool)(v11 v12:ByteArray)(v0:Int)(v13:List TV)(K:Int→(List TV)→Option ρ)(E0:(List TV)→Option ρ):Option ρ :=
 br (decide (v0 < v6)) (
 bd (apL true 80 v13 [((v7,v8,v9,()),(v10,v11,v12,()),())]) fun q2 =>
 K (i64.wrap (v0+1)) q2) (
 E0 v13)
def l1(lf:Nat)(v1:List (Int×(Int×(TV×Unit))))(v2 v3:Int)(v4:List (Int×(Int×(TV×Unit))))(v5 v6:Int)(v7:Bool)(v8 v9:ByteArray)(v10:Bool)(v11 v12:ByteArray):Nat→Int→(List TV)→Option (((List TV)×Unit)×Unit)
 | 0,_,_=>none
 | n+1,v0,v13=>r1 lf v1 v2 v3 v4 v5 v6 v7 v8 v9 v10 v11 v12 v0 v13 (l1 lf v1 v2 v3 v4 v5 v6 v7 v8 v9 v10 v11 v12 n) (fun w0=>some ((w0,()),()))
def sh1:ShS:=⟨[.s (.yld 2),.a 3,.s (.ptr 4 0),.s (.int .i64),.s (.sl (.pair (.int .i64) (.pair (.int .i64) (.pair yV .unit)))),.s (.int .i64),.s (.int .i64),.a 18],[.cells [.s (.row 5)] 54,.cells [.s (.sl (.pair (.int .i64) (.pair (.int .i64) (.pair yV .unit))))] 22,.rnd [.a 3,.s (.ptr 0 0),.a 11] 55 0 .ready none,.gone,.cells [.s (.int .i64),.s (.int .i64),.s .bool,.s .str,.s .str,.s .bool,.s .str,.s .str] 49,.row yV 47 false]⟩
def S1(p:Int×(List (Int×(Int×(TV×Unit))))×Int×Int×(List (Int×(Int×(TV×Unit))))×Int×Int×Bool×ByteArray×ByteArray×Bool×ByteArray×ByteArray×(List TV)×Unit):St:=sh1.b p
def xh0:ShS:=⟨[.s (.yld 2),.a 5,.s (.sl (.pair (.int .i64) (.pair (.int .i64) (.pair yV .unit)))),.s (.int .i64),.s (.int .i64),.a 18],[.cells [.s (.row 5)] 54,.cells [.s (.sl (.pair (.int .i64) (.pair (.int .i64) (.pair yV .unit))))] 22,.rnd [.a 3,.s (.ptr 0 0),.a 11] 55 0 .ready none,.gone,.cells [.s (.int .i64),.s (.int .i64),.s .bool,.s .str,.s .str,.s .bool,.s .str,.s .str] 49,.row yV 47 false]⟩
def o1(v1:List (Int×(Int×(TV×Unit))))(v2 v3:Int)(v4:List (Int×(Int×(TV×Unit))))(v5 v6:Int)(v7:Bool)(v8 v9:ByteArray)(v10:Bool)(v11 v12:ByteArray)(y:((List TV)×Unit)×Unit):Alt:=.one (.exit 2) (xh0.b (v1,v2,v3,v4,v5,v6,v7,v8,v9,v10,v11,v12,y.1.1,()))
def r0{ρ:Type}(lf:Nat)(v0:List (Int×(Int×(TV×Unit))))(v1:Int)(v3:List (Int×(Int×(TV×Unit))))(v2:Int)(v4:List TV)(K:Int→(List TV)→Option ρ)(E0:(List TV)→Option ρ):Option ρ :=
 br (decide (v2 < v1)) (
 bd (idxL v0 v2) fun y1 =>
 bd (l1 lf v0 v1 v2 v3 y1.1 y1.2.1 y1.2.2.1.1.1 y1.2.2.1.1.2.1 y1.2.2.1.1.2.2.1 y1.2.2.1.2.1.1 y1.2.2.1.2.1.2.1 y1.2.2.1.2.1.2.2.1 (lf+40) y1.1 v4) fun z3 =>
 K (i64.wrap (v2+1)) z3.1.1) (
 E0 v4)
def l0(lf:Nat)(v0:List (Int×(Int×(TV×Unit))))(v1:Int)(v3:List (Int×(Int×(TV×Unit)))):Nat→Int→(List TV)→Option (((List TV)×Unit)×Unit)
 | 0,_,_=>none
 | n+1,v2,v4=>r0 lf v0 v1 v3 v2 v4 (l0 lf v0 v1 v3 n) (fun w0=>some ((w0,()),()))
def sh0:ShS:=⟨[.s (.yld 2),.a 5,.s (.sl (.pair (.int .i64) (.pair (.int .i64) (.pair yV .unit)))),.s (.int .i64),.s (.int .i64),.a 18],[.cells [.s (.row 3)] 54,.cells [.s (.sl (.pair (.int .i64) (.pair (.int .i64) (.pair yV .unit))))] 22,.rnd [.a 3,.s (.ptr 0 0),.a 11] 55 0 .ready none,.row yV 47 false]⟩
def S0(p:(List (Int×(Int×(TV×Unit))))×Int×Int×(List (Int×(Int×(TV×Unit))))×(List TV)×Unit):St:=sh0.b p
def xh1:ShS:=⟨[.a 27],[.cells [.s (.row 3)] 54,.cells [.s (.sl (.pair (.int .i64) (.pair (.int .i64) (.pair yV .unit))))] 22,.rnd [.a 3,.s (.ptr 0 0),.a 11] 55 0 .ready none,.row yV 47 false]⟩
def o0(v0:List (Int×(Int×(TV×Unit))))(v1:Int)(v3:List (Int×(Int×(TV×Unit))))(y:((List TV)×Unit)×Unit):Alt:=.one (.exit 0) (xh1.b (v3,y.1.1,()))
def tb(lf:Nat):List (FuncId×Entry):=[]
def aal(lf:Nat):List (Nat×(St→Option LTE)):=[(0,sumE sh0 fun(p:(List (Int×(Int×(TV×Unit))))×Int×Int×(List (Int×(Int×(TV×Unit))))×(List TV)×Unit)=>⟨((List TV)×Unit)×Unit,l0 lf p.1 p.2.1 p.2.2.2.1 (lf+40) p.2.2.1 p.2.2.2.2.1,o0 p.1 p.2.1 p.2.2.2.1⟩),
 (1,sumE sh1 fun(p:Int×(List (Int×(Int×(TV×Unit))))×Int×Int×(List (Int×(Int×(TV×Unit))))×Int×Int×Bool×ByteArray×ByteArray×Bool×ByteArray×ByteArray×(List TV)×Unit)=>⟨((List TV)×Unit)×Unit,l1 lf p.2.1 p.2.2.1 p.2.2.2.1 p.2.2.2.2.1 p.2.2.2.2.2.1 p.2.2.2.2.2.2.1 p.2.2.2.2.2.2.2.1 (e8 p).1 (e8 p).2.1 (e8 p).2.2.1 (e8 p).2.2.2.1 (e8 p).2.2.2.2.1 (lf+40) p.1 (e8 p).2.2.2.2.2.1,o1 p.2.1 p.2.2.1 p.2.2.2.1 p.2.2.2.2.1 p.2.2.2.2.2.1 p.2.2.2.2.2.2.1 p.2.2.2.2.2.2.2.1 (e8 p).1 (e8 p).2.1 (e8 p).2.2.1 (e8 p).2.2.2.1 (e8 p).2.2.2.2.1⟩)]
def ls(lf:Nat):List (Nat×FuncId×Sums):=[(12,99,sumsL (aal lf))]
def it1{ρ:Type}(lf n:Nat)(st:St)(k:KE ρ):Option ρ:=itG anns (ls lf) (tb lf) lf 12 99 1 5 (sumsL (aal lf)) n st k
theorem t1{ρ:Type}(lf n:Nat)(v0:Int)(v1:List (Int×(Int×(TV×Unit))))(v2 v3:Int)(v4:List (Int×(Int×(TV×Unit))))(v5 v6:Int)(v7:Bool)(v8 v9:ByteArray)(v10:Bool)(v11 v12:ByteArray)(v13:List TV)(k:KE ρ):it1 lf (n+1) (S1 (v0,v1,v2,v3,v4,v5,v6,v7,v8,v9,v10,v11,v12,v13,())) k=r1 lf v1 v2 v3 v4 v5 v6 v7 v8 v9 v10 v11 v12 v0 v13 (fun x0 x1=>it1 lf n (S1 (x0,v1,v2,v3,v4,v5,v6,v7,v8,v9,v10,v11,v12,x1,())) k) (fun w0=>k (.exit 2) (xh0.b (v1,v2,v3,v4,v5,v6,v7,v8,v9,v10,v11,v12,w0,()))):=by kernel_rfl
theorem u1{ρ:Type}(lf:Nat)(v1:List (Int×(Int×(TV×Unit))))(v2 v3:Int)(v4:List (Int×(Int×(TV×Unit))))(v5 v6:Int)(v7:Bool)(v8 v9:ByteArray)(v10:Bool)(v11 v12:ByteArray)(k:KE ρ):∀ (n:Nat) (v0:Int) (v13:List TV),it1 lf n (S1 (v0,v1,v2,v3,v4,v5,v6,v7,v8,v9,v10,v11,v12,v13,())) k=bd (l1 lf v1 v2 v3 v4 v5 v6 v7 v8 v9 v10 v11 v12 n v0 v13) fun y=>altK k (o1 v1 v2 v3 v4 v5 v6 v7 v8 v9 v10 v11 v12 y)
 | 0,_,_=>by rw[l1,bd_none];rfl
 | n+1,v0,v13=>by
  rw[t1];simp only[l1,r1,u1 lf v1 v2 v3 v4 v5 v6 v7 v8 v9 v10 v11 v12 k n,bd_br,bd_bd,bd_some',bd_none,br_t,br_f,o1,altK]
def it0{ρ:Type}(lf n:Nat)(st:St)(k:KE ρ):Option ρ:=itG anns (ls lf) (tb lf) lf 12 99 0 3 (sumsL (aal lf)) n st k
theorem t0{ρ:Type}(lf n:Nat)(v0:List (Int×(Int×(TV×Unit))))(v1 v2:Int)(v3:List (Int×(Int×(TV×Unit))))(v4:List TV)(k:KE ρ):it0 lf (n+1) (S0 (v0,v1,v2,v3,v4,())) k=r0 lf v0 v1 v3 v2 v4 (fun x0 x1=>it0 lf n (S0 (v0,v1,x0,v3,x1,())) k) (fun w0=>k (.exit 0) (xh1.b (v3,w0,()))):=by kernel_rfl
theorem u0{ρ:Type}(lf:Nat)(v0:List (Int×(Int×(TV×Unit))))(v1:Int)(v3:List (Int×(Int×(TV×Unit))))(k:KE ρ):∀ (n:Nat) (v2:Int) (v4:List TV),it0 lf n (S0 (v0,v1,v2,v3,v4,())) k=bd (l0 lf v0 v1 v3 n v2 v4) fun y=>altK k (o0 v0 v1 v3 y)
 | 0,_,_=>by rw[l0,bd_none];rfl
 | n+1,v2,v4=>by
  rw[t0];simp only[l0,r0,u0 lf v0 v1 v3 k n,bd_br,bd_bd,bd_some',bd_none,br_t,br_f,o0,altK]
theorem sl(lf:Nat):SL anns (ls lf) (tb lf) lf (ls lf):=slC (laC (fun _=>by kernel_rfl) (fun _ (x:(List (Int×(Int×(TV×Unit))))×Int×Int×(List (Int×(Int×(TV×Unit))))×(List TV)×Unit) k=>aS (u0 lf x.1 x.2.1 x.2.2.2.1 k (lf+40) x.2.2.1 x.2.2.2.2.1)) (laC (fun _=>by kernel_rfl) (fun _ (x:Int×(List (Int×(Int×(TV×Unit))))×Int×Int×(List (Int×(Int×(TV×Unit))))×Int×Int×Bool×ByteArray×ByteArray×Bool×ByteArray×ByteArray×(List TV)×Unit) k=>aS (u1 lf x.2.1 x.2.2.1 x.2.2.2.1 x.2.2.2.2.1 x.2.2.2.2.2.1 x.2.2.2.2.2.2.1 x.2.2.2.2.2.2.2.1 (e8 x).1 (e8 x).2.1 (e8 x).2.2.1 (e8 x).2.2.2.1 (e8 x).2.2.2.2.1 k (lf+40) x.1 (e8 x).2.2.2.2.2.1)) laN)) slN
def f(lf:Nat)(a0:List (Int×(Int×(TV×Unit)))):Option ((List TV)×Unit) :=
 bd (l0 lf a0 ((a0.length:Nat):Int) a0 (lf+40) 0 []) fun z4 =>
 some (z4.1.1,())
def spk(lf:Nat):Spk:=.fresh [(.sl (.pair (.int .i64) (.pair (.int .i64) (.pair yV .unit))))] yV 47 fun x=>f lf x.1
theorem ok(lf:Nat):SpkOK Proofs.Tryz.prog (spk lf) 55:=okF tN' (aoC (aoC aoN)) (sl lf) rfl fun x=>by kernel_rfl
end bM
end
end Go.Q
