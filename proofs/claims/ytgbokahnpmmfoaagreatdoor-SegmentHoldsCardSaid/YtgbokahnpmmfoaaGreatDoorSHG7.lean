import Derived.Test.YtgbokahnpmmfoaaGreatDoorProg
import Derived.KernelRfl
import Derived.Test.YtgbokahnpmmfoaaGreatDoorSHE3
import Derived.Test.YtgbokahnpmmfoaaGreatDoorSHG3
import Derived.Test.YtgbokahnpmmfoaaGreatDoorSHG4
import Derived.Test.YtgbokahnpmmfoaaGreatDoorSHG5
import Derived.Test.YtgbokahnpmmfoaaGreatDoorSHG6
set_option linter.unusedVariables false
set_option linter.unusedSimpArgs false
set_option linter.unusedSectionVars false
set_option maxRecDepth 100000
namespace Go.Q
open Go.IntKind (i64)
open Go Go.RowKit
open Go.Rx (br bd sIdx sCat sCut iQuo iRem)
noncomputable section
namespace dh
def anns:FuncId→FA:=annsL [(34,⟨annOf [(0,⟨kx 33 [0,1,7],[],[]⟩,⟨kx 33 [0,1,4,5],[],[]⟩)],none,[]⟩)]
def r0{ρ:Type}(lf:Nat)(v0:List (Int×(Int×(TV×Unit))))(v1:List ByteArray)(v2:Int)(K:Int→Option ρ)(E0:Int→Option ρ)(E1:Option ρ):Option ρ :=
 br (decide (v2 < ((v1.length:Nat):Int))) (
 bd (idxL v1 v2) fun y2 =>
 bd (dG.f lf y2) fun r3 =>
 br (r3.1 != 0) (
 E0 r3.1) (
 K (i64.wrap (v2+1)))) (
 E1)
def l0(lf:Nat)(v0:List (Int×(Int×(TV×Unit))))(v1:List ByteArray):Nat→Int→Option (Bool×(Int×Unit)×(Unit)×Unit)
 | 0,_=>none
 | n+1,v2=>r0 lf v0 v1 v2 (l0 lf v0 v1 n) (fun w0=>some (true,(w0,()),((()),()))) (some (false,(0,()),((()),())))
def sh0:ShS:=⟨[.s (.sl (.pair (.int .i64) (.pair (.int .i64) (.pair yV .unit)))),.s (.sl .str),.a 5,.s (.int .i64),.a 25],[]⟩
def S0(p:(List (Int×(Int×(TV×Unit))))×(List ByteArray)×Int×Unit):St:=sh0.b p
def xh0:ShS:=⟨[.s (.sl (.pair (.int .i64) (.pair (.int .i64) (.pair yV .unit)))),.s (.sl .str),.a 2,.s .bool,.s (.int .i64),.a 27],[]⟩
def xh1:ShS:=⟨[.s (.sl (.pair (.int .i64) (.pair (.int .i64) (.pair yV .unit)))),.s (.sl .str),.a 31],[]⟩
def o0(v0:List (Int×(Int×(TV×Unit))))(v1:List ByteArray)(y:Bool×(Int×Unit)×(Unit)×Unit):Alt:=.two y.1 (.one .ret (xh0.b (v0,v1,false,y.2.1.1,()))) (.one (.exit 0) (xh1.b (v0,v1,())))
def tb(lf:Nat):List (FuncId×Entry):=[(27,aV.E lf),(40,dG.E lf),(87,eF.E lf)]
def agw(lf:Nat):List (Nat×(St→Option LTE)):=[(0,sumE sh0 fun(p:(List (Int×(Int×(TV×Unit))))×(List ByteArray)×Int×Unit)=>⟨Bool×(Int×Unit)×(Unit)×Unit,l0 lf p.1 p.2.1 (lf+40) p.2.2.1,o0 p.1 p.2.1⟩)]
def ls(lf:Nat):List (Nat×FuncId×Sums):=[(13,34,sumsL (agw lf))]
def it0{ρ:Type}(lf n:Nat)(st:St)(k:KE ρ):Option ρ:=itG anns (ls lf) (tb lf) lf 13 34 0 0 (sumsL (agw lf)) n st k
theorem t0{ρ:Type}(lf n:Nat)(v0:List (Int×(Int×(TV×Unit))))(v1:List ByteArray)(v2:Int)(k:KE ρ):it0 lf (n+1) (S0 (v0,v1,v2,())) k=r0 lf v0 v1 v2 (fun x0=>it0 lf n (S0 (v0,v1,x0,())) k) (fun w0=>k .ret (xh0.b (v0,v1,false,w0,()))) (k (.exit 0) (xh1.b (v0,v1,()))):=by kernel_rfl
theorem u0{ρ:Type}(lf:Nat)(v0:List (Int×(Int×(TV×Unit))))(v1:List ByteArray)(k:KE ρ):∀ (n:Nat) (v2:Int),it0 lf n (S0 (v0,v1,v2,())) k=bd (l0 lf v0 v1 n v2) fun y=>altK k (o0 v0 v1 y)
 | 0,_=>by rw[l0,au];rfl
 | n+1,v2=>by
  rw[t0];simp only[l0,r0,u0 lf v0 v1 k n,bG,bF,aF,au,br_t,br_f,o0,altK]
theorem sl(lf:Nat):SL anns (ls lf) (tb lf) lf (ls lf):=slC (laC (fun _=>by kernel_rfl) (fun _ (x:(List (Int×(Int×(TV×Unit))))×(List ByteArray)×Int×Unit) k=>aS (u0 lf x.1 x.2.1 k (lf+40) x.2.2.1)) laN) slN
def f(lf:Nat)(a0:List (Int×(Int×(TV×Unit))))(a1:List ByteArray):Option (Bool×Int×Unit) :=
 bd (aV.f lf a0 ((a1.length:Nat):Int)) fun r1 =>
 br (r1.1 != 0) (
 some (false,r1.1,())) (
 bd (l0 lf a0 a1 (lf+40) 0) fun z4 =>
 br z4.1 (
 some (false,z4.2.1.1,())) (
 bd (eF.f lf a0 a1) fun r5 =>
 some (r5.1,0,())))
def E(lf:Nat):Entry:=⟨[(.sl (.pair (.int .i64) (.pair (.int .i64) (.pair yV .unit)))),(.sl .str)],[.bool,(.int .i64)],fun x=>f lf x.1 x.2.1⟩
theorem ok(lf:Nat):Ok 34 (E lf):=okL (tC (aV.ok lf) (tC (dG.ok lf) (tC (eF.ok lf) tN))) (aoC aoN) (sl lf) fun x=>by kernel_rfl
end dh
namespace dW
def anns:FuncId→FA:=annsL [(92,⟨annOf [(0,⟨kx 55 [0,3,4],[],[]⟩,⟨kx 55 [2,3],[],[]⟩)],none,[]⟩)]
def r0{ρ:Type}(lf:Nat)(v0:List (Int×(Int×(TV×Unit))))(v1:ByteArray)(v2:Int)(K:ByteArray→Int→Option ρ)(E0:ByteArray→Option ρ):Option ρ :=
 br (decide (v2 < ((v0.length:Nat):Int))) (
 br (decide (v2 > 0)) (
 bd (sCat v1 (⟨#[59,32]⟩:ByteArray)) fun r1 =>
 bd (idxL v0 v2) fun y2 =>
 bd (aB.f lf y2.1) fun r3 =>
 bd (sCat r1 r3.1) fun r4 =>
 bd (idxL v0 v2) fun y5 =>
 bd (idxL v0 v2) fun y6 =>
 br (decide (y5.2.1 >(i64.wrap (y6.1+1)))) (
 bd (idxL v0 v2) fun y7 =>
 bd (aB.f lf (i64.wrap (y7.2.1-1))) fun r8 =>
 bd (sCat (⟨#[45]⟩:ByteArray) r8.1) fun r9 =>
 bd (sCat r4 r9) fun r10 =>
 bd (idxL v0 v2) fun y11 =>
 bd (dB.f lf y11.2.2.1) fun r12 =>
 bd (sCat (⟨#[58,32]⟩:ByteArray) r12.1) fun r13 =>
 bd (sCat r10 r13) fun r14 =>
 K r14 (i64.wrap (v2+1))) (
 bd (idxL v0 v2) fun y15 =>
 bd (dB.f lf y15.2.2.1) fun r16 =>
 bd (sCat (⟨#[58,32]⟩:ByteArray) r16.1) fun r17 =>
 bd (sCat r4 r17) fun r18 =>
 K r18 (i64.wrap (v2+1)))) (
 bd (idxL v0 v2) fun y19 =>
 bd (aB.f lf y19.1) fun r20 =>
 bd (sCat v1 r20.1) fun r21 =>
 bd (idxL v0 v2) fun y22 =>
 bd (idxL v0 v2) fun y23 =>
 br (decide (y22.2.1 >(i64.wrap (y23.1+1)))) (
 bd (idxL v0 v2) fun y24 =>
 bd (aB.f lf (i64.wrap (y24.2.1-1))) fun r25 =>
 bd (sCat (⟨#[45]⟩:ByteArray) r25.1) fun r26 =>
 bd (sCat r21 r26) fun r27 =>
 bd (idxL v0 v2) fun y28 =>
 bd (dB.f lf y28.2.2.1) fun r29 =>
 bd (sCat (⟨#[58,32]⟩:ByteArray) r29.1) fun r30 =>
 bd (sCat r27 r30) fun r31 =>
 K r31 (i64.wrap (v2+1))) (
 bd (idxL v0 v2) fun y32 =>
 bd (dB.f lf y32.2.2.1) fun r33 =>
 bd (sCat (⟨#[58,32]⟩:ByteArray) r33.1) fun r34 =>
 bd (sCat r21 r34) fun r35 =>
 K r35 (i64.wrap (v2+1))))) (
 E0 v1)
def l0(lf:Nat)(v0:List (Int×(Int×(TV×Unit)))):Nat→ByteArray→Int→Option ((ByteArray×Unit)×Unit)
 | 0,_,_=>none
 | n+1,v1,v2=>r0 lf v0 v1 v2 (l0 lf v0 n) (fun w0=>some ((w0,()),()))
def sh0:ShS:=⟨[.s (.sl (.pair (.int .i64) (.pair (.int .i64) (.pair yV .unit)))),.a 2,.s .str,.s (.int .i64),.a 50],[]⟩
def S0(p:(List (Int×(Int×(TV×Unit))))×ByteArray×Int×Unit):St:=sh0.b p
def xh0:ShS:=⟨[.a 3,.s .str,.a 51],[]⟩
def o0(v0:List (Int×(Int×(TV×Unit))))(y:(ByteArray×Unit)×Unit):Alt:=.one (.exit 0) (xh0.b (y.1.1,()))
def tb(lf:Nat):List (FuncId×Entry):=[(29,aB.E lf),(142,dB.E lf)]
def agB(lf:Nat):List (Nat×(St→Option LTE)):=[(0,sumE sh0 fun(p:(List (Int×(Int×(TV×Unit))))×ByteArray×Int×Unit)=>⟨(ByteArray×Unit)×Unit,l0 lf p.1 (lf+40) p.2.1 p.2.2.1,o0 p.1⟩)]
def ls(lf:Nat):List (Nat×FuncId×Sums):=[(13,92,sumsL (agB lf))]
def it0{ρ:Type}(lf n:Nat)(st:St)(k:KE ρ):Option ρ:=itG anns (ls lf) (tb lf) lf 13 92 0 0 (sumsL (agB lf)) n st k
theorem t0{ρ:Type}(lf n:Nat)(v0:List (Int×(Int×(TV×Unit))))(v1:ByteArray)(v2:Int)(k:KE ρ):it0 lf (n+1) (S0 (v0,v1,v2,())) k=r0 lf v0 v1 v2 (fun x0 x1=>it0 lf n (S0 (v0,x0,x1,())) k) (fun w0=>k (.exit 0) (xh0.b (w0,()))):=by kernel_rfl
theorem u0{ρ:Type}(lf:Nat)(v0:List (Int×(Int×(TV×Unit))))(k:KE ρ):∀ (n:Nat) (v1:ByteArray) (v2:Int),it0 lf n (S0 (v0,v1,v2,())) k=bd (l0 lf v0 n v1 v2) fun y=>altK k (o0 v0 y)
 | 0,_,_=>by rw[l0,au];rfl
 | n+1,v1,v2=>by
  rw[t0];simp only[l0,r0,u0 lf v0 k n,bG,bF,aF,au,br_t,br_f,o0,altK]
theorem sl(lf:Nat):SL anns (ls lf) (tb lf) lf (ls lf):=slC (laC (fun _=>by kernel_rfl) (fun _ (x:(List (Int×(Int×(TV×Unit))))×ByteArray×Int×Unit) k=>aS (u0 lf x.1 k (lf+40) x.2.1 x.2.2.1)) laN) slN
def f(lf:Nat)(a0:List (Int×(Int×(TV×Unit)))):Option (ByteArray×Unit) :=
 bd (l0 lf a0 (lf+40) (⟨#[]⟩:ByteArray) 0) fun z36 =>
 some (z36.1.1,())
def E(lf:Nat):Entry:=⟨[(.sl (.pair (.int .i64) (.pair (.int .i64) (.pair yV .unit))))],[.str],fun x=>f lf x.1⟩
theorem ok(lf:Nat):Ok 92 (E lf):=okL (tC (aB.ok lf) (tC (dB.ok lf) tN)) (aoC aoN) (sl lf) fun x=>by kernel_rfl
end dW
namespace iU
def f(lf:Nat)(a0:List (Int×(Int×(TV×Unit))))(a1:Int):Option (ByteArray×Int×Unit) :=
 bd (aV.f lf a0 a1) fun r1 =>
 br (r1.1 != 0) (
 some ((⟨#[]⟩:ByteArray),r1.1,())) (
 bd (dW.f lf a0) fun r2 =>
 some (r2.1,0,()))
def E(lf:Nat):Entry:=⟨[(.sl (.pair (.int .i64) (.pair (.int .i64) (.pair yV .unit)))),(.int .i64)],[.str,(.int .i64)],fun x=>f lf x.1 x.2.1⟩
theorem ok(lf:Nat):Ok 36 (E lf):=okT (an:=(annsL [])) (lf:=lf) (tC (aV.ok lf) (tC (dW.ok lf) tN)) aoN fun x=>by kernel_rfl
end iU
end
end Go.Q
namespace Go.Q
open Go.IntKind (i64)
open Go Go.RowKit
open Go.Rx (br bd sIdx sCat sCut iQuo iRem)
noncomputable section
namespace fJ
def f(lf:Nat)(a0:TV):Option (Bool×Unit) :=
 some (a0.1.1,())
def E(lf:Nat):Entry:=⟨[yV],[.bool],fun x=>f lf x.1⟩
theorem ok(lf:Nat):Ok 67 (E lf):=okT (an:=(annsL [])) (lf:=lf) tN aoN fun x=>by kernel_rfl
end fJ
namespace gB
def f(lf:Nat)(a0:TV):Option (Int×Unit) :=
 bd (dQ.f lf a0) fun r1 =>
 br (r1.1 != 0) (
 some (r1.1,())) (
 bd (fJ.f lf a0) fun r2 =>
 br r2.1 (
 some (16,())) (
 some (0,())))
def E(lf:Nat):Entry:=⟨[yV],[(.int .i64)],fun x=>f lf x.1⟩
theorem ok(lf:Nat):Ok 75 (E lf):=okT (an:=(annsL [])) (lf:=lf) (tC (fJ.ok lf) (tC (dQ.ok lf) tN)) aoN fun x=>by kernel_rfl
end gB
namespace bD
def anns:FuncId→FA:=annsL [(26,⟨annOf [(0,⟨kx 69 [0,1,5,20,21,22],[],[]⟩,⟨kx 69 [1,4,5],[],[]⟩)],none,[]⟩)]
def r0{ρ:Type}(lf:Nat)(v0:List (Int×(Int×(TV×Unit))))(v1:Int)(v3:List (Int×(Int×(TV×Unit))))(v4:Int)(v2 v5:Int)(K:Int→Int→Option ρ)(E0:Int→Int→Option ρ)(E1:Int→Option ρ):Option ρ :=
 br (decide (v5 < v4)) (
 bd (idxL v3 v5) fun y1 =>
 br (y1.1 != v2) (
 E0 20 v2) (
 br (decide (y1.1≥y1.2.1)) (
 E0 15 v2) (
 br (decide (y1.2.1 > v1)) (
 E0 15 v2) (
 bd (gB.f lf y1.2.2.1) fun r2 =>
 br (r2.1 != 0) (
 E0 r2.1 v2) (
 br (decide (v5 > 0)) (
 bd (idxL v0 (i64.wrap (v5-1))) fun y3 =>
 bd (some (((y1.2.2.1.1.1==y3.2.2.1.1.1)&&((y1.2.2.1.1.2.1==y3.2.2.1.1.2.1)&&((y1.2.2.1.1.2.2.1==y3.2.2.1.1.2.2.1)&&true)))&&(((y1.2.2.1.2.1.1==y3.2.2.1.2.1.1)&&((y1.2.2.1.2.1.2.1==y3.2.2.1.2.1.2.1)&&((y1.2.2.1.2.1.2.2.1==y3.2.2.1.2.1.2.2.1)&&true)))&&true))) fun r4 =>
 br r4 (
 E0 7 v2) (
 K y1.2.1 (i64.wrap (v5+1)))) (
 K y1.2.1 (i64.wrap (v5+1)))))))) (
 E1 v2)
def l0(lf:Nat)(v0:List (Int×(Int×(TV×Unit))))(v1:Int)(v3:List (Int×(Int×(TV×Unit))))(v4:Int):Nat→Int→Int→Option (Bool×(Int×Int×Unit)×(Int×Unit)×Unit)
 | 0,_,_=>none
 | n+1,v2,v5=>r0 lf v0 v1 v3 v4 v2 v5 (l0 lf v0 v1 v3 v4 n) (fun w0 w1=>some (true,(w0,w1,()),((0,()),()))) (fun w0=>some (false,(0,0,()),((w0,()),())))
def sh0:ShS:=⟨[.s (.sl (.pair (.int .i64) (.pair (.int .i64) (.pair yV .unit)))),.s (.int .i64),.a 3,.s (.int .i64),.a 14,.s (.sl (.pair (.int .i64) (.pair (.int .i64) (.pair yV .unit)))),.s (.int .i64),.s (.int .i64),.a 46],[]⟩
def S0(p:(List (Int×(Int×(TV×Unit))))×Int×Int×(List (Int×(Int×(TV×Unit))))×Int×Int×Unit):St:=sh0.b p
def xh0:ShS:=⟨[.a 1,.s (.int .i64),.a 2,.s (.int .i64),.s (.int .i64),.a 63],[]⟩
def xh1:ShS:=⟨[.a 1,.s (.int .i64),.a 3,.s (.int .i64),.a 63],[]⟩
def o0(v0:List (Int×(Int×(TV×Unit))))(v1:Int)(v3:List (Int×(Int×(TV×Unit))))(v4:Int)(y:Bool×(Int×Int×Unit)×(Int×Unit)×Unit):Alt:=.two y.1 (.one .ret (xh0.b (v1,y.2.1.1,y.2.1.2.1,()))) (.one (.exit 1) (xh1.b (v1,y.2.2.1.1,())))
def tb(lf:Nat):List (FuncId×Entry):=[(75,gB.E lf)]
def ags(lf:Nat):List (Nat×(St→Option LTE)):=[(0,sumE sh0 fun(p:(List (Int×(Int×(TV×Unit))))×Int×Int×(List (Int×(Int×(TV×Unit))))×Int×Int×Unit)=>⟨Bool×(Int×Int×Unit)×(Int×Unit)×Unit,l0 lf p.1 p.2.1 p.2.2.2.1 p.2.2.2.2.1 (lf+40) p.2.2.1 p.2.2.2.2.2.1,o0 p.1 p.2.1 p.2.2.2.1 p.2.2.2.2.1⟩)]
def ls(lf:Nat):List (Nat×FuncId×Sums):=[(13,26,sumsL (ags lf))]
def it0{ρ:Type}(lf n:Nat)(st:St)(k:KE ρ):Option ρ:=itG anns (ls lf) (tb lf) lf 13 26 0 0 (sumsL (ags lf)) n st k
theorem t0{ρ:Type}(lf n:Nat)(v0:List (Int×(Int×(TV×Unit))))(v1 v2:Int)(v3:List (Int×(Int×(TV×Unit))))(v4 v5:Int)(k:KE ρ):it0 lf (n+1) (S0 (v0,v1,v2,v3,v4,v5,())) k=r0 lf v0 v1 v3 v4 v2 v5 (fun x0 x1=>it0 lf n (S0 (v0,v1,x0,v3,v4,x1,())) k) (fun w0 w1=>k .ret (xh0.b (v1,w0,w1,()))) (fun w0=>k (.exit 1) (xh1.b (v1,w0,()))):=by kernel_rfl
theorem u0{ρ:Type}(lf:Nat)(v0:List (Int×(Int×(TV×Unit))))(v1:Int)(v3:List (Int×(Int×(TV×Unit))))(v4:Int)(k:KE ρ):∀ (n:Nat) (v2 v5:Int),it0 lf n (S0 (v0,v1,v2,v3,v4,v5,())) k=bd (l0 lf v0 v1 v3 v4 n v2 v5) fun y=>altK k (o0 v0 v1 v3 v4 y)
 | 0,_,_=>by rw[l0,au];rfl
 | n+1,v2,v5=>by
  rw[t0];simp only[l0,r0,u0 lf v0 v1 v3 v4 k n,bG,bF,aF,au,br_t,br_f,o0,altK]
theorem sl(lf:Nat):SL anns (ls lf) (tb lf) lf (ls lf):=slC (laC (fun _=>by kernel_rfl) (fun _ (x:(List (Int×(Int×(TV×Unit))))×Int×Int×(List (Int×(Int×(TV×Unit))))×Int×Int×Unit) k=>aS (u0 lf x.1 x.2.1 x.2.2.2.1 x.2.2.2.2.1 k (lf+40) x.2.2.1 x.2.2.2.2.2.1)) laN) slN
def f(lf:Nat)(a0:List (Int×(Int×(TV×Unit))))(a1:Int):Option (Int×Unit) :=
 br (decide (a1 < 1)) (
 some (2,())) (
 br (decide (a1 > 32)) (
 some (2,())) (
 br (((a0.length:Nat):Int)==0) (
 some (20,())) (
 bd (l0 lf a0 a1 a0 ((a0.length:Nat):Int) (lf+40) 0 0) fun z5 =>
 br z5.1 (
 some (z5.2.1.1,())) (
 br (z5.2.2.1.1 != a1) (
 some (20,())) (
 some (0,()))))))
def E(lf:Nat):Entry:=⟨[(.sl (.pair (.int .i64) (.pair (.int .i64) (.pair yV .unit)))),(.int .i64)],[(.int .i64)],fun x=>f lf x.1 x.2.1⟩
theorem ok(lf:Nat):Ok 26 (E lf):=okL (tC (gB.ok lf) tN) (aoC aoN) (sl lf) fun x=>by kernel_rfl
end bD
namespace gm
def anns:FuncId→FA:=annsL [(60,⟨annOf [(0,⟨kx 29 [17,18,19],[],[]⟩,⟨kx 29 [6],[],[]⟩)],none,[]⟩)]
def r0{ρ:Type}(lf:Nat)(v0:List TV)(v1:Int)(v2:Int)(K:Int→Option ρ)(E0:Int→Option ρ)(E1:Option ρ):Option ρ :=
 br (decide (v2 < v1)) (
 bd (idxL v0 v2) fun y2 =>
 bd (dQ.f lf y2) fun r3 =>
 br (r3.1 != 0) (
 E0 r3.1) (
 K (i64.wrap (v2+1)))) (
 E1)
def l0(lf:Nat)(v0:List TV)(v1:Int):Nat→Int→Option (Bool×(Int×Unit)×(Unit)×Unit)
 | 0,_=>none
 | n+1,v2=>r0 lf v0 v1 v2 (l0 lf v0 v1 n) (fun w0=>some (true,(w0,()),((()),()))) (some (false,(0,()),((()),())))
def sh0:ShS:=⟨[.a 17,.s (.sl yV),.s (.int .i64),.s (.int .i64),.a 9],[]⟩
def S0(p:(List TV)×Int×Int×Unit):St:=sh0.b p
def xh0:ShS:=⟨[.a 6,.s (.int .i64),.a 22],[]⟩
def xh1:ShS:=⟨[.a 29],[]⟩
def o0(v0:List TV)(v1:Int)(y:Bool×(Int×Unit)×(Unit)×Unit):Alt:=.two y.1 (.one .ret (xh0.b (y.2.1.1,()))) (.one (.exit 0) (xh1.b (())))
def tb(lf:Nat):List (FuncId×Entry):=[(26,bD.E lf),(118,dQ.E lf)]
def agy(lf:Nat):List (Nat×(St→Option LTE)):=[(0,sumE sh0 fun(p:(List TV)×Int×Int×Unit)=>⟨Bool×(Int×Unit)×(Unit)×Unit,l0 lf p.1 p.2.1 (lf+40) p.2.2.1,o0 p.1 p.2.1⟩)]
def ls(lf:Nat):List (Nat×FuncId×Sums):=[(13,60,sumsL (agy lf))]
def it0{ρ:Type}(lf n:Nat)(st:St)(k:KE ρ):Option ρ:=itG anns (ls lf) (tb lf) lf 13 60 0 0 (sumsL (agy lf)) n st k
theorem t0{ρ:Type}(lf n:Nat)(v0:List TV)(v1 v2:Int)(k:KE ρ):it0 lf (n+1) (S0 (v0,v1,v2,())) k=r0 lf v0 v1 v2 (fun x0=>it0 lf n (S0 (v0,v1,x0,())) k) (fun w0=>k .ret (xh0.b (w0,()))) (k (.exit 0) (xh1.b (()))):=by kernel_rfl
theorem u0{ρ:Type}(lf:Nat)(v0:List TV)(v1:Int)(k:KE ρ):∀ (n:Nat) (v2:Int),it0 lf n (S0 (v0,v1,v2,())) k=bd (l0 lf v0 v1 n v2) fun y=>altK k (o0 v0 v1 y)
 | 0,_=>by rw[l0,au];rfl
 | n+1,v2=>by
  rw[t0];simp only[l0,r0,u0 lf v0 v1 k n,bG,bF,aF,au,br_t,br_f,o0,altK]
theorem sl(lf:Nat):SL anns (ls lf) (tb lf) lf (ls lf):=slC (laC (fun _=>by kernel_rfl) (fun _ (x:(List TV)×Int×Int×Unit) k=>aS (u0 lf x.1 x.2.1 k (lf+40) x.2.2.1)) laN) slN
def f(lf:Nat)(a0:List (Int×(Int×(TV×Unit))))(a1:Int)(a2:List TV):Option (Int×Unit) :=
 bd (bD.f lf a0 a1) fun r1 =>
 br (r1.1 != 0) (
 some (r1.1,())) (
 bd (l0 lf a2 ((a2.length:Nat):Int) (lf+40) 0) fun z4 =>
 br z4.1 (
 some (z4.2.1.1,())) (
 some (0,())))
def E(lf:Nat):Entry:=⟨[(.sl (.pair (.int .i64) (.pair (.int .i64) (.pair yV .unit)))),(.int .i64),(.sl yV)],[(.int .i64)],fun x=>f lf x.1 x.2.1 x.2.2.1⟩
theorem ok(lf:Nat):Ok 60 (E lf):=okL (tC (bD.ok lf) (tC (dQ.ok lf) tN)) (aoC aoN) (sl lf) fun x=>by kernel_rfl
end gm
namespace jD
def f(lf:Nat)(a0:Int):Option (TV×Unit) :=
 bd (iE.f lf a0) fun r1 =>
 bd (zI.f lf r1.1) fun r2 =>
 bd (iD.f lf r2.1 r2.2.1) fun r3 =>
 some (r3.1,())
def E(lf:Nat):Entry:=⟨[(.int .i64)],[yV],fun x=>f lf x.1⟩
theorem ok(lf:Nat):Ok 71 (E lf):=okT (an:=(annsL [])) (lf:=lf) (tC (iD.ok lf) (tC (iE.ok lf) (tC (zI.ok lf) tN))) aoN fun x=>by kernel_rfl
end jD
namespace jf
def f(lf:Nat)  : Option (TV×Unit) :=
 bd (jD.f lf 0) fun r1 =>
 bd (jD.f lf 1) fun r2 =>
 bd (nJ.f lf r1.1 r2.1) fun r3 =>
 bd (iD.f lf r3.1 r3.2.1) fun r4 =>
 some (r4.1,())
def E(lf:Nat):Entry:=⟨[],[yV],fun x=>f lf⟩
theorem ok(lf:Nat):Ok 61 (E lf):=okT (an:=(annsL [])) (lf:=lf) (tC (iD.ok lf) (tC (nJ.ok lf) (tC (jD.ok lf) tN))) aoN fun x=>by kernel_rfl
end jf
namespace dM
def f(lf:Nat)(a0:Bool)(a1:Int):Option (Bool×Unit) :=
 some (a0,())
def E(lf:Nat):Entry:=⟨[.bool,(.int .i64)],[.bool],fun x=>f lf x.1 x.2.1⟩
theorem ok(lf:Nat):Ok 120 (E lf):=okT (an:=(annsL [])) (lf:=lf) tN aoN fun x=>by kernel_rfl
end dM
end
end Go.Q
