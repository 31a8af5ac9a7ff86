import Derived.Test.YtcgfigjpbicogaaGreatDoorProg
import Derived.KernelRfl
import Derived.Test.YtcgfigjpbicogaaGreatDoorSWE3
import Derived.Test.YtcgfigjpbicogaaGreatDoorSWG1
import Derived.Test.YtcgfigjpbicogaaGreatDoorSWG3
import Derived.Test.YtcgfigjpbicogaaGreatDoorSWG4
import Derived.Test.YtcgfigjpbicogaaGreatDoorSWG5
set_option linter.unusedVariables false
set_option linter.unusedSimpArgs false
set_option linter.unusedSectionVars false
set_option maxRecDepth 100000
namespace Go.Q
open Go.IntKind (i64)
open Go Go.RowKit
open Go.Rx (br bd sIdx sCat sCut iQuo iRem)
noncomputable section
namespace jC
def f(lf:Nat)(a0:TI)(a1:TI):Option (Bool×Unit) :=
 br (decide (((a0.2.1.size:Nat):Int)≤450)) (
 br (decide (((a0.2.2.1.size:Nat):Int)≤450)) (
 br (decide (((a1.2.1.size:Nat):Int)≤450)) (
 some ((decide (((a1.2.2.1.size:Nat):Int)≤450)),())) (
 some (false,()))) (
 some (false,()))) (
 some (false,()))
def E(lf:Nat):Entry:=⟨[yI,yI],[.bool],fun x=>f lf x.1 x.2.1⟩
theorem ok(lf:Nat):Ok 32 (E lf):=okT (an:=(annsL [])) (lf:=lf) tN aoN fun x=>by kernel_rfl
end jC
namespace dh
def f(lf:Nat)  : Option (TI×Unit) :=
 some ((true,(⟨#[]⟩:ByteArray),(⟨#[]⟩:ByteArray),()),())
def E(lf:Nat):Entry:=⟨[],[yI],fun x=>f lf⟩
theorem ok(lf:Nat):Ok 74 (E lf):=okT (an:=(annsL [])) (lf:=lf) tN aoN fun x=>by kernel_rfl
end dh
namespace dP
def f(lf:Nat)(a0:ByteArray):Option (ByteArray×Unit) :=
 br (!(a0.toList==(⟨#[]⟩:ByteArray).toList)) (
 bd (aF.f lf a0) fun r1 =>
 br (decide (r1.1 > 100)) (
 some ((⟨#[]⟩:ByteArray),())) (
 some (a0,()))) (
 some (a0,()))
def E(lf:Nat):Entry:=⟨[.str],[.str],fun x=>f lf x.1⟩
theorem ok(lf:Nat):Ok 75 (E lf):=okT (an:=(annsL [])) (lf:=lf) (tC (aF.ok lf) tN) aoN fun x=>by kernel_rfl
end dP
namespace aC
def f(lf:Nat)(a0:ByteArray)(a1:ByteArray):Option (TI×Unit) :=
 br (!(a0.toList==(⟨#[]⟩:ByteArray).toList)) (
 br (!(a1.toList==(⟨#[]⟩:ByteArray).toList)) (
 bd (au.f lf a1 a0) fun r1 =>
 br r1.1 (
 bd (dh.f lf) fun r2 =>
 some (r2.1,())) (
 bd (dP.f lf a0) fun r3 =>
 bd (dP.f lf a1) fun r4 =>
 some ((false,r3.1,r4.1,()),()))) (
 bd (dP.f lf a0) fun r5 =>
 bd (dP.f lf a1) fun r6 =>
 some ((false,r5.1,r6.1,()),()))) (
 bd (dP.f lf a0) fun r7 =>
 bd (dP.f lf a1) fun r8 =>
 some ((false,r7.1,r8.1,()),()))
def E(lf:Nat):Entry:=⟨[.str,.str],[yI],fun x=>f lf x.1 x.2.1⟩
theorem ok(lf:Nat):Ok 35 (E lf):=okT (an:=(annsL [])) (lf:=lf) (tC (au.ok lf) (tC (dh.ok lf) (tC (dP.ok lf) tN))) aoN fun x=>by kernel_rfl
end aC
namespace jR
def f(lf:Nat)(a0:TI)(a1:ByteArray):Option (Bool×Unit) :=
 br (!a0.1) (
 br (a0.2.1.toList==(⟨#[]⟩:ByteArray).toList) (
 br (a0.2.2.1.toList==(⟨#[]⟩:ByteArray).toList) (
 some (true,())) (
 bd (au.f lf a0.2.2.1 a1) fun r1 =>
 some ((!r1.1),()))) (
 bd (au.f lf a1 a0.2.1) fun r2 =>
 br (!r2.1) (
 br (a0.2.2.1.toList==(⟨#[]⟩:ByteArray).toList) (
 some (true,())) (
 bd (au.f lf a0.2.2.1 a1) fun r3 =>
 some ((!r3.1),()))) (
 some (false,())))) (
 some (false,()))
def E(lf:Nat):Entry:=⟨[yI,.str],[.bool],fun x=>f lf x.1 x.2.1⟩
theorem ok(lf:Nat):Ok 50 (E lf):=okT (an:=(annsL [])) (lf:=lf) (tC (au.ok lf) tN) aoN fun x=>by kernel_rfl
end jR
namespace fC
def f(lf:Nat)(a0:ByteArray):Option (Int×Unit) :=
 br (a0.toList==(⟨#[]⟩:ByteArray).toList) (
 some (0,())) (
 bd (dL.f lf a0) fun r1 =>
 some (r1.1,()))
def E(lf:Nat):Entry:=⟨[.str],[(.int .i64)],fun x=>f lf x.1⟩
theorem ok(lf:Nat):Ok 241 (E lf):=okT (an:=(annsL [])) (lf:=lf) (tC (dL.ok lf) tN) aoN fun x=>by kernel_rfl
end fC
namespace ig
def f(lf:Nat)(a0:TI):Option (Int×Unit) :=
 br a0.1 (
 br (!(a0.2.1.toList==(⟨#[]⟩:ByteArray).toList)) (
 some (3,())) (
 br (!(a0.2.2.1.toList==(⟨#[]⟩:ByteArray).toList)) (
 some (3,())) (
 bd (fC.f lf a0.2.1) fun r1 =>
 br (r1.1 != 0) (
 some (r1.1,())) (
 bd (fC.f lf a0.2.2.1) fun r2 =>
 br (r2.1 != 0) (
 some (r2.1,())) (
 br (!(a0.2.1.toList==(⟨#[]⟩:ByteArray).toList)) (
 br (!(a0.2.2.1.toList==(⟨#[]⟩:ByteArray).toList)) (
 bd (au.f lf a0.2.2.1 a0.2.1) fun r3 =>
 br r3.1 (
 some (14,())) (
 some (0,()))) (
 some (0,()))) (
 some (0,()))))))) (
 bd (fC.f lf a0.2.1) fun r4 =>
 br (r4.1 != 0) (
 some (r4.1,())) (
 bd (fC.f lf a0.2.2.1) fun r5 =>
 br (r5.1 != 0) (
 some (r5.1,())) (
 br (!(a0.2.1.toList==(⟨#[]⟩:ByteArray).toList)) (
 br (!(a0.2.2.1.toList==(⟨#[]⟩:ByteArray).toList)) (
 bd (au.f lf a0.2.2.1 a0.2.1) fun r6 =>
 br r6.1 (
 some (14,())) (
 some (0,()))) (
 some (0,()))) (
 some (0,())))))
def E(lf:Nat):Entry:=⟨[yI],[(.int .i64)],fun x=>f lf x.1⟩
theorem ok(lf:Nat):Ok 217 (E lf):=okT (an:=(annsL [])) (lf:=lf) (tC (au.ok lf) (tC (fC.ok lf) tN)) aoN fun x=>by kernel_rfl
end ig
namespace bD
def anns:FuncId→FA:=annsL [(28,⟨annOf [(0,⟨kx 37 [0,3],[],[]⟩,⟨kx 37 [2],[],[]⟩)],none,[]⟩)]
def r0{ρ:Type}(lf:Nat)(v0:List ByteArray)(v1:Int)(K:Int→Option ρ)(E0:Int→Option ρ)(E1:Option ρ):Option ρ :=
 br (decide (v1 < ((v0.length:Nat):Int))) (
 bd (idxL v0 v1) fun y1 =>
 bd (dL.f lf y1) fun r2 =>
 br (r2.1 != 0) (
 E0 r2.1) (
 br (decide (v1 > 0)) (
 bd (idxL v0 (i64.wrap (v1-1))) fun y3 =>
 bd (idxL v0 v1) fun y4 =>
 bd (au.f lf y3 y4) fun r5 =>
 br (!r5.1) (
 E0 14) (
 K (i64.wrap (v1+1)))) (
 K (i64.wrap (v1+1))))) (
 E1)
def l0(lf:Nat)(v0:List ByteArray):Nat→Int→Option (Bool×(Int×Unit)×(Unit)×Unit)
 | 0,_=>none
 | n+1,v1=>r0 lf v0 v1 (l0 lf v0 n) (fun w0=>some (true,(w0,()),((()),()))) (some (false,(0,()),((()),())))
def sh0:ShS:=⟨[.s (.sl .str),.a 2,.s (.int .i64),.a 33],[]⟩
def S0(p:(List ByteArray)×Int×Unit):St:=sh0.b p
def xh0:ShS:=⟨[.a 2,.s (.int .i64),.a 34],[]⟩
def xh1:ShS:=⟨[.a 37],[]⟩
def o0(v0:List ByteArray)(y:Bool×(Int×Unit)×(Unit)×Unit):Alt:=.two y.1 (.one .ret (xh0.b (y.2.1.1,()))) (.one (.exit 0) (xh1.b (())))
def tb(lf:Nat):List (FuncId×Entry):=[(53,au.E lf),(67,dL.E lf)]
def acY(lf:Nat):List (Nat×(St→Option LTE)):=[(0,sumE sh0 fun(p:(List ByteArray)×Int×Unit)=>⟨Bool×(Int×Unit)×(Unit)×Unit,l0 lf p.1 (lf+40) p.2.1,o0 p.1⟩)]
def ls(lf:Nat):List (Nat×FuncId×Sums):=[(13,28,sumsL (acY lf))]
def it0{ρ:Type}(lf n:Nat)(st:St)(k:KE ρ):Option ρ:=itG anns (ls lf) (tb lf) lf 13 28 0 0 (sumsL (acY lf)) n st k
theorem t0{ρ:Type}(lf n:Nat)(v0:List ByteArray)(v1:Int)(k:KE ρ):it0 lf (n+1) (S0 (v0,v1,())) k=r0 lf v0 v1 (fun x0=>it0 lf n (S0 (v0,x0,())) k) (fun w0=>k .ret (xh0.b (w0,()))) (k (.exit 0) (xh1.b (()))):=by kernel_rfl
theorem u0{ρ:Type}(lf:Nat)(v0:List ByteArray)(k:KE ρ):∀ (n:Nat) (v1:Int),it0 lf n (S0 (v0,v1,())) k=bd (l0 lf v0 n v1) fun y=>altK k (o0 v0 y)
 | 0,_=>by rw[l0,bd_none];rfl
 | n+1,v1=>by
  rw[t0];simp only[l0,r0,u0 lf v0 k n,bd_br,bd_bd,bd_some',bd_none,br_t,br_f,o0,altK]
theorem sl(lf:Nat):SL anns (ls lf) (tb lf) lf (ls lf):=slC (laC (fun _=>by kernel_rfl) (fun _ (x:(List ByteArray)×Int×Unit) k=>aS (u0 lf x.1 k (lf+40) x.2.1)) laN) slN
def f(lf:Nat)(a0:List ByteArray):Option (Int×Unit) :=
 br (decide (((a0.length:Nat):Int) > 1024)) (
 some (5,())) (
 bd (l0 lf a0 (lf+40) 0) fun z6 =>
 br z6.1 (
 some (z6.2.1.1,())) (
 some (0,())))
def E(lf:Nat):Entry:=⟨[(.sl .str)],[(.int .i64)],fun x=>f lf x.1⟩
theorem ok(lf:Nat):Ok 28 (E lf):=okL (tC (au.ok lf) (tC (dL.ok lf) tN)) (aoC aoN) (sl lf) fun x=>by kernel_rfl
end bD
namespace je
def f(lf:Nat)(a0:ByteArray)(a1:ByteArray):Option (ByteArray×Unit) :=
 br (a0.toList==(⟨#[]⟩:ByteArray).toList) (
 some ((⟨#[]⟩:ByteArray),())) (
 br (a1.toList==(⟨#[]⟩:ByteArray).toList) (
 some ((⟨#[]⟩:ByteArray),())) (
 bd (au.f lf a1 a0) fun r1 =>
 br r1.1 (
 some (a1,())) (
 some (a0,()))))
def E(lf:Nat):Entry:=⟨[.str,.str],[.str],fun x=>f lf x.1 x.2.1⟩
theorem ok(lf:Nat):Ok 219 (E lf):=okT (an:=(annsL [])) (lf:=lf) (tC (au.ok lf) tN) aoN fun x=>by kernel_rfl
end je
namespace gQ
def f(lf:Nat)(a0:ByteArray)(a1:ByteArray):Option (ByteArray×Unit) :=
 br (a0.toList==(⟨#[]⟩:ByteArray).toList) (
 some ((⟨#[]⟩:ByteArray),())) (
 br (a1.toList==(⟨#[]⟩:ByteArray).toList) (
 some ((⟨#[]⟩:ByteArray),())) (
 bd (au.f lf a0 a1) fun r1 =>
 br r1.1 (
 some (a1,())) (
 some (a0,()))))
def E(lf:Nat):Entry:=⟨[.str,.str],[.str],fun x=>f lf x.1 x.2.1⟩
theorem ok(lf:Nat):Ok 220 (E lf):=okT (an:=(annsL [])) (lf:=lf) (tC (au.ok lf) tN) aoN fun x=>by kernel_rfl
end gQ
namespace iM
def f(lf:Nat)(a0:TI)(a1:TI):Option (TI×Unit) :=
 br a0.1 (
 some (a1,())) (
 br a1.1 (
 some (a0,())) (
 bd (je.f lf a0.2.1 a1.2.1) fun r1 =>
 bd (gQ.f lf a0.2.2.1 a1.2.2.1) fun r2 =>
 bd (aC.f lf r1.1 r2.1) fun r3 =>
 some (r3.1,())))
def E(lf:Nat):Entry:=⟨[yI,yI],[yI],fun x=>f lf x.1 x.2.1⟩
theorem ok(lf:Nat):Ok 172 (E lf):=okT (an:=(annsL [])) (lf:=lf) (tC (aC.ok lf) (tC (je.ok lf) (tC (gQ.ok lf) tN))) aoN fun x=>by kernel_rfl
end iM
namespace dI
def anns:FuncId→FA:=annsL [(173,⟨annOf [(0,⟨kx 29 [0,1,5,6],[],[]⟩,⟨kx 29 [4,5],[],[]⟩)],none,[]⟩)]
def r0{ρ:Type}(lf:Nat)(v0:List ByteArray)(v1:ByteArray)(v2:ByteArray)(v3:Int)(K:ByteArray→Int→Option ρ)(E0:ByteArray→Option ρ):Option ρ :=
 br (decide (v3 < ((v0.length:Nat):Int))) (
 br (!(v1.toList==(⟨#[]⟩:ByteArray).toList)) (
 bd (idxL v0 v3) fun y1 =>
 bd (au.f lf v1 y1) fun r2 =>
 br (!r2.1) (
 bd (idxL v0 v3) fun y3 =>
 K y3 (i64.wrap (v3+1))) (
 K v2 (i64.wrap (v3+1)))) (
 K v2 (i64.wrap (v3+1)))) (
 E0 v2)
def l0(lf:Nat)(v0:List ByteArray)(v1:ByteArray):Nat→ByteArray→Int→Option ((ByteArray×Unit)×Unit)
 | 0,_,_=>none
 | n+1,v2,v3=>r0 lf v0 v1 v2 v3 (l0 lf v0 v1 n) (fun w0=>some ((w0,()),()))
def sh0:ShS:=⟨[.s (.sl .str),.s .str,.a 3,.s .str,.s (.int .i64),.a 22],[]⟩
def S0(p:(List ByteArray)×ByteArray×ByteArray×Int×Unit):St:=sh0.b p
def xh0:ShS:=⟨[.a 5,.s .str,.a 23],[]⟩
def o0(v0:List ByteArray)(v1:ByteArray)(y:(ByteArray×Unit)×Unit):Alt:=.one (.exit 0) (xh0.b (y.1.1,()))
def tb(lf:Nat):List (FuncId×Entry):=[(53,au.E lf)]
def aa0(lf:Nat):List (Nat×(St→Option LTE)):=[(0,sumE sh0 fun(p:(List ByteArray)×ByteArray×ByteArray×Int×Unit)=>⟨(ByteArray×Unit)×Unit,l0 lf p.1 p.2.1 (lf+40) p.2.2.1 p.2.2.2.1,o0 p.1 p.2.1⟩)]
def ls(lf:Nat):List (Nat×FuncId×Sums):=[(13,173,sumsL (aa0 lf))]
def it0{ρ:Type}(lf n:Nat)(st:St)(k:KE ρ):Option ρ:=itG anns (ls lf) (tb lf) lf 13 173 0 0 (sumsL (aa0 lf)) n st k
theorem t0{ρ:Type}(lf n:Nat)(v0:List ByteArray)(v1 v2:ByteArray)(v3:Int)(k:KE ρ):it0 lf (n+1) (S0 (v0,v1,v2,v3,())) k=r0 lf v0 v1 v2 v3 (fun x0 x1=>it0 lf n (S0 (v0,v1,x0,x1,())) k) (fun w0=>k (.exit 0) (xh0.b (w0,()))):=by kernel_rfl
theorem u0{ρ:Type}(lf:Nat)(v0:List ByteArray)(v1:ByteArray)(k:KE ρ):∀ (n:Nat) (v2:ByteArray) (v3:Int),it0 lf n (S0 (v0,v1,v2,v3,())) k=bd (l0 lf v0 v1 n v2 v3) fun y=>altK k (o0 v0 v1 y)
 | 0,_,_=>by rw[l0,bd_none];rfl
 | n+1,v2,v3=>by
  rw[t0];simp only[l0,r0,u0 lf v0 v1 k n,bd_br,bd_bd,bd_some',bd_none,br_t,br_f,o0,altK]
theorem sl(lf:Nat):SL anns (ls lf) (tb lf) lf (ls lf):=slC (laC (fun _=>by kernel_rfl) (fun _ (x:(List ByteArray)×ByteArray×ByteArray×Int×Unit) k=>aS (u0 lf x.1 x.2.1 k (lf+40) x.2.2.1 x.2.2.2.1)) laN) slN
def f(lf:Nat)(a0:List ByteArray)(a1:ByteArray):Option (ByteArray×Unit) :=
 bd (l0 lf a0 a1 (lf+40) (⟨#[]⟩:ByteArray) 0) fun z4 =>
 some (z4.1.1,())
def E(lf:Nat):Entry:=⟨[(.sl .str),.str],[.str],fun x=>f lf x.1 x.2.1⟩
theorem ok(lf:Nat):Ok 173 (E lf):=okL (tC (au.ok lf) tN) (aoC aoN) (sl lf) fun x=>by kernel_rfl
end dI
namespace di
def anns:FuncId→FA:=annsL [(174,⟨annOf [(0,⟨kx 27 [0,1,5],[],[]⟩,⟨kx 27 [4],[],[]⟩)],none,[]⟩)]
def r0{ρ:Type}(lf:Nat)(v0:List ByteArray)(v1:ByteArray)(v2:Int)(K:Int→Option ρ)(E0:ByteArray→Option ρ)(E1:Option ρ):Option ρ :=
 br (decide (v2 < ((v0.length:Nat):Int))) (
 br (!(v1.toList==(⟨#[]⟩:ByteArray).toList)) (
 bd (idxL v0 v2) fun y1 =>
 bd (au.f lf y1 v1) fun r2 =>
 br (!r2.1) (
 bd (idxL v0 v2) fun y3 =>
 E0 y3) (
 K (i64.wrap (v2+1)))) (
 K (i64.wrap (v2+1)))) (
 E1)
def l0(lf:Nat)(v0:List ByteArray)(v1:ByteArray):Nat→Int→Option (Bool×(ByteArray×Unit)×(Unit)×Unit)
 | 0,_=>none
 | n+1,v2=>r0 lf v0 v1 v2 (l0 lf v0 v1 n) (fun w0=>some (true,(w0,()),((()),()))) (some (false,((⟨#[]⟩:ByteArray),()),((()),())))
def sh0:ShS:=⟨[.s (.sl .str),.s .str,.a 3,.s (.int .i64),.a 21],[]⟩
def S0(p:(List ByteArray)×ByteArray×Int×Unit):St:=sh0.b p
def xh0:ShS:=⟨[.a 4,.s .str,.a 22],[]⟩
def xh1:ShS:=⟨[.a 27],[]⟩
def o0(v0:List ByteArray)(v1:ByteArray)(y:Bool×(ByteArray×Unit)×(Unit)×Unit):Alt:=.two y.1 (.one .ret (xh0.b (y.2.1.1,()))) (.one (.exit 0) (xh1.b (())))
def tb(lf:Nat):List (FuncId×Entry):=[(53,au.E lf)]
def aa1(lf:Nat):List (Nat×(St→Option LTE)):=[(0,sumE sh0 fun(p:(List ByteArray)×ByteArray×Int×Unit)=>⟨Bool×(ByteArray×Unit)×(Unit)×Unit,l0 lf p.1 p.2.1 (lf+40) p.2.2.1,o0 p.1 p.2.1⟩)]
def ls(lf:Nat):List (Nat×FuncId×Sums):=[(13,174,sumsL (aa1 lf))]
def it0{ρ:Type}(lf n:Nat)(st:St)(k:KE ρ):Option ρ:=itG anns (ls lf) (tb lf) lf 13 174 0 0 (sumsL (aa1 lf)) n st k
theorem t0{ρ:Type}(lf n:Nat)(v0:List ByteArray)(v1:ByteArray)(v2:Int)(k:KE ρ):it0 lf (n+1) (S0 (v0,v1,v2,())) k=r0 lf v0 v1 v2 (fun x0=>it0 lf n (S0 (v0,v1,x0,())) k) (fun w0=>k .ret (xh0.b (w0,()))) (k (.exit 0) (xh1.b (()))):=by kernel_rfl
theorem u0{ρ:Type}(lf:Nat)(v0:List ByteArray)(v1:ByteArray)(k:KE ρ):∀ (n:Nat) (v2:Int),it0 lf n (S0 (v0,v1,v2,())) k=bd (l0 lf v0 v1 n v2) fun y=>altK k (o0 v0 v1 y)
 | 0,_=>by rw[l0,bd_none];rfl
 | n+1,v2=>by
  rw[t0];simp only[l0,r0,u0 lf v0 v1 k n,bd_br,bd_bd,bd_some',bd_none,br_t,br_f,o0,altK]
theorem sl(lf:Nat):SL anns (ls lf) (tb lf) lf (ls lf):=slC (laC (fun _=>by kernel_rfl) (fun _ (x:(List ByteArray)×ByteArray×Int×Unit) k=>aS (u0 lf x.1 x.2.1 k (lf+40) x.2.2.1)) laN) slN
def f(lf:Nat)(a0:List ByteArray)(a1:ByteArray):Option (ByteArray×Unit) :=
 bd (l0 lf a0 a1 (lf+40) 0) fun z4 =>
 br z4.1 (
 some (z4.2.1.1,())) (
 some ((⟨#[]⟩:ByteArray),()))
def E(lf:Nat):Entry:=⟨[(.sl .str),.str],[.str],fun x=>f lf x.1 x.2.1⟩
theorem ok(lf:Nat):Ok 174 (E lf):=okL (tC (au.ok lf) tN) (aoC aoN) (sl lf) fun x=>by kernel_rfl
end di
namespace iD
def f(lf:Nat)(a0:TI)(a1:TI)(a2:List ByteArray):Option (TI×Unit) :=
 br a0.1 (
 some (a1,())) (
 br a1.1 (
 some (a0,())) (
 bd (iM.f lf a0 a1) fun r1 =>
 br (!(r1.1.2.1.toList==a0.2.1.toList)) (
 bd (dI.f lf a2 r1.1.2.1) fun r2 =>
 br (!(r1.1.2.2.1.toList==a0.2.2.1.toList)) (
 bd (di.f lf a2 r1.1.2.2.1) fun r3 =>
 some ((r1.1.1,r2.1,r3.1,()),())) (
 some ((r1.1.1,r2.1,r1.1.2.2.1,()),()))) (
 br (!(r1.1.2.2.1.toList==a0.2.2.1.toList)) (
 bd (di.f lf a2 r1.1.2.2.1) fun r4 =>
 some ((r1.1.1,r1.1.2.1,r4.1,()),())) (
 some (r1.1,())))))
def E(lf:Nat):Entry:=⟨[yI,yI,(.sl .str)],[yI],fun x=>f lf x.1 x.2.1 x.2.2.1⟩
theorem ok(lf:Nat):Ok 119 (E lf):=okT (an:=(annsL [])) (lf:=lf) (tC (iM.ok lf) (tC (dI.ok lf) (tC (di.ok lf) tN))) aoN fun x=>by kernel_rfl
end iD
namespace fO
def f(lf:Nat)(a0:TI)(a1:TI):Option (TI×Unit) :=
 br a0.1 (
 bd (dh.f lf) fun r1 =>
 some (r1.1,())) (
 br a1.1 (
 bd (dh.f lf) fun r2 =>
 some (r2.1,())) (
 br (a0.2.1.toList==(⟨#[]⟩:ByteArray).toList) (
 br (a0.2.2.1.toList==(⟨#[]⟩:ByteArray).toList) (
 bd (aC.f lf a1.2.1 a1.2.2.1) fun r3 =>
 some (r3.1,())) (
 bd (aC.f lf a1.2.1 a0.2.2.1) fun r4 =>
 some (r4.1,()))) (
 br (a0.2.2.1.toList==(⟨#[]⟩:ByteArray).toList) (
 bd (aC.f lf a0.2.1 a1.2.2.1) fun r5 =>
 some (r5.1,())) (
 bd (aC.f lf a0.2.1 a0.2.2.1) fun r6 =>
 some (r6.1,())))))
def E(lf:Nat):Entry:=⟨[yI,yI],[yI],fun x=>f lf x.1 x.2.1⟩
theorem ok(lf:Nat):Ok 124 (E lf):=okT (an:=(annsL [])) (lf:=lf) (tC (aC.ok lf) (tC (dh.ok lf) tN)) aoN fun x=>by kernel_rfl
end fO
end
end Go.Q
namespace Go.Q
open Go Go.RowKit
open Go.Rx (br bd sIdx sCat sCut iQuo iRem)
noncomputable section
namespace fU
def f(lf:Nat)(a0:ByteArray)(a1:Int):Option (ByteArray×Unit) :=
 some (a0,())
def E(lf:Nat):Entry:=⟨[.str,(.int .i64)],[.str],fun x=>f lf x.1 x.2.1⟩
theorem ok(lf:Nat):Ok 159 (E lf):=okT (an:=(annsL [])) (lf:=lf) tN aoN fun x=>by kernel_rfl
end fU
namespace qg
def f(lf:Nat)(a0:TV)(a1:Int):Option (TV×Unit) :=
 some (a0,())
def E(lf:Nat):Entry:=⟨[yV,(.int .i64)],[yV],fun x=>f lf x.1 x.2.1⟩
theorem ok(lf:Nat):Ok 47 (E lf):=okT (an:=(annsL [])) (lf:=lf) tN aoN fun x=>by kernel_rfl
end qg
end
end Go.Q
namespace Go.Q
open Go Go.RowKit
open Go.Rx (br bd sIdx sCat sCut iQuo iRem)
noncomputable section
namespace eX
def f(lf:Nat)(a0:ByteArray):Option (Bool×Unit) :=
 bd (strings_TrimPrefix.f lf a0 (⟨#[45]⟩:ByteArray)) fun r1 =>
 some ((decide (((r1.1.size:Nat):Int) > 100)),())
def E(lf:Nat):Entry:=⟨[.str],[.bool],fun x=>f lf x.1⟩
theorem ok(lf:Nat):Ok 162 (E lf):=okT (an:=(annsL [])) (lf:=lf) (tC (strings_TrimPrefix.ok lf) tN) aoN fun x=>by kernel_rfl
end eX
namespace iQ
def f(lf:Nat)(a0:ByteArray):Option (Int×Unit) :=
 bd (bH.f lf a0) fun r1 =>
 br (r1.1==10) (
 some (10,())) (
 br (r1.1==0) (
 bd (eX.f lf a0) fun r2 =>
 br r2.1 (
 some (10,())) (
 br (r1.1 != 0) (
 some (r1.1,())) (
 some (0,())))) (
 br (r1.1 != 0) (
 some (r1.1,())) (
 some (0,()))))
def E(lf:Nat):Entry:=⟨[.str],[(.int .i64)],fun x=>f lf x.1⟩
theorem ok(lf:Nat):Ok 200 (E lf):=okT (an:=(annsL [])) (lf:=lf) (tC (bH.ok lf) (tC (eX.ok lf) tN)) aoN fun x=>by kernel_rfl
end iQ
namespace jI
def f(lf:Nat)(a0:Int)(a1:Int):Option (Int×Unit) :=
 some (a0,())
def E(lf:Nat):Entry:=⟨[(.int .i64),(.int .i64)],[(.int .i64)],fun x=>f lf x.1 x.2.1⟩
theorem ok(lf:Nat):Ok 234 (E lf):=okT (an:=(annsL [])) (lf:=lf) tN aoN fun x=>by kernel_rfl
end jI
namespace eU
def f(lf:Nat)(a0:ByteArray)(a1:ByteArray):Option (Bool×Unit) :=
 bd (eP.f lf a0 a1) fun r1 =>
 bd (jI.f lf r1.1 r1.2.1) fun r2 =>
 some ((decide (r2.1 < 0)),())
def E(lf:Nat):Entry:=⟨[.str,.str],[.bool],fun x=>f lf x.1 x.2.1⟩
theorem ok(lf:Nat):Ok 201 (E lf):=okT (an:=(annsL [])) (lf:=lf) (tC (eP.ok lf) (tC (jI.ok lf) tN)) aoN fun x=>by kernel_rfl
end eU
namespace bg
def f(lf:Nat)(a0:TI):Option (Int×Unit) :=
 br a0.1 (
 br (!(a0.2.1.toList==(⟨#[]⟩:ByteArray).toList)) (
 some (3,())) (
 br (!(a0.2.2.1.toList==(⟨#[]⟩:ByteArray).toList)) (
 some (3,())) (
 some (0,())))) (
 bd (iQ.f lf a0.2.1) fun r1 =>
 br (r1.1 != 0) (
 some (r1.1,())) (
 bd (iQ.f lf a0.2.2.1) fun r2 =>
 br (r2.1 != 0) (
 some (r2.1,())) (
 bd (eU.f lf a0.2.1 (⟨#[48]⟩:ByteArray)) fun r3 =>
 br r3.1 (
 some (2,())) (
 br (!(a0.2.1.toList==(⟨#[48]⟩:ByteArray).toList)) (
 bd (eU.f lf a0.2.2.1 (⟨#[48]⟩:ByteArray)) fun r4 =>
 br r4.1 (
 some (2,())) (
 bd (eU.f lf a0.2.2.1 a0.2.1) fun r5 =>
 br (!r5.1) (
 some (2,())) (
 some (0,())))) (
 some (0,()))))))
def E(lf:Nat):Entry:=⟨[yI],[(.int .i64)],fun x=>f lf x.1⟩
theorem ok(lf:Nat):Ok 158 (E lf):=okT (an:=(annsL [])) (lf:=lf) (tC (iQ.ok lf) (tC (eU.ok lf) tN)) aoN fun x=>by kernel_rfl
end bg
namespace fJ
def f(lf:Nat)(a0:ByteArray)(a1:ByteArray):Option (ByteArray×Unit) :=
 bd (lu.f lf a0 a1) fun r1 =>
 bd (fU.f lf r1.1 r1.2.1) fun r2 =>
 some (r2.1,())
def E(lf:Nat):Entry:=⟨[.str,.str],[.str],fun x=>f lf x.1 x.2.1⟩
theorem ok(lf:Nat):Ok 112 (E lf):=okT (an:=(annsL [])) (lf:=lf) (tC (fU.ok lf) (tC (lu.ok lf) tN)) aoN fun x=>by kernel_rfl
end fJ
namespace gJ
def f(lf:Nat)(a0:ByteArray)(a1:ByteArray)(a2:ByteArray):Option (ByteArray×Int×Unit) :=
 bd (fD.f lf a0 a2) fun r1 =>
 br (r1.2.1 != 0) (
 some ((⟨#[]⟩:ByteArray),r1.2.1,())) (
 bd (fD.f lf a1 a2) fun r2 =>
 br (r2.2.1 != 0) (
 some ((⟨#[]⟩:ByteArray),r2.2.1,())) (
 bd (fJ.f lf r1.1 r2.1) fun r3 =>
 bd (fD.f lf r3.1 a2) fun r4 =>
 some (r4.1,r4.2.1,())))
def E(lf:Nat):Entry:=⟨[.str,.str,.str],[.str,(.int .i64)],fun x=>f lf x.1 x.2.1 x.2.2.1⟩
theorem ok(lf:Nat):Ok 211 (E lf):=okT (an:=(annsL [])) (lf:=lf) (tC (fJ.ok lf) (tC (fD.ok lf) tN)) aoN fun x=>by kernel_rfl
end gJ
namespace jP
def f(lf:Nat)(a0:TI)(a1:ByteArray):Option (ByteArray×Int×Unit) :=
 bd (bg.f lf a0) fun r1 =>
 br (r1.1 != 0) (
 some ((⟨#[]⟩:ByteArray),r1.1,())) (
 bd (bH.f lf a1) fun r2 =>
 br (r2.1 != 0) (
 some ((⟨#[]⟩:ByteArray),r2.1,())) (
 br a0.1 (
 some ((⟨#[]⟩:ByteArray),16,())) (
 br (!(a0.2.1.toList==(⟨#[48]⟩:ByteArray).toList)) (
 bd (gJ.f lf a0.2.2.1 a1 a0.2.1) fun r3 =>
 br (r3.2.1 != 0) (
 some ((⟨#[]⟩:ByteArray),r3.2.1,())) (
 bd (kN.f lf a1 r3.1) fun r4 =>
 some (r4.1,r4.2.1,()))) (
 bd (eU.f lf a0.2.2.1 a1) fun r5 =>
 br r5.1 (
 some ((⟨#[]⟩:ByteArray),6,())) (
 some (a0.2.2.1,0,()))))))
def E(lf:Nat):Entry:=⟨[yI,.str],[.str,(.int .i64)],fun x=>f lf x.1 x.2.1⟩
theorem ok(lf:Nat):Ok 167 (E lf):=okT (an:=(annsL [])) (lf:=lf) (tC (bH.ok lf) (tC (bg.ok lf) (tC (eU.ok lf) (tC (gJ.ok lf) (tC (kN.ok lf) tN))))) aoN fun x=>by kernel_rfl
end jP
namespace gY
def f(lf:Nat)(a0:TI)(a1:ByteArray):Option (ByteArray×Int×Unit) :=
 bd (bg.f lf a0) fun r1 =>
 br (r1.1 != 0) (
 some ((⟨#[]⟩:ByteArray),r1.1,())) (
 bd (bH.f lf a1) fun r2 =>
 br (r2.1 != 0) (
 some ((⟨#[]⟩:ByteArray),r2.1,())) (
 br a0.1 (
 some ((⟨#[]⟩:ByteArray),16,())) (
 br (!(a0.2.1.toList==(⟨#[48]⟩:ByteArray).toList)) (
 bd (gJ.f lf a1 a0.2.2.1 a0.2.1) fun r3 =>
 br (r3.2.1 != 0) (
 some ((⟨#[]⟩:ByteArray),r3.2.1,())) (
 bd (lu.f lf a1 r3.1) fun r4 =>
 some (r4.1,r4.2.1,()))) (
 bd (eU.f lf a1 a0.2.2.1) fun r5 =>
 br r5.1 (
 some ((⟨#[]⟩:ByteArray),6,())) (
 some (a0.2.2.1,0,()))))))
def E(lf:Nat):Entry:=⟨[yI,.str],[.str,(.int .i64)],fun x=>f lf x.1 x.2.1⟩
theorem ok(lf:Nat):Ok 168 (E lf):=okT (an:=(annsL [])) (lf:=lf) (tC (bH.ok lf) (tC (bg.ok lf) (tC (lu.ok lf) (tC (eU.ok lf) (tC (gJ.ok lf) tN))))) aoN fun x=>by kernel_rfl
end gY
namespace jq
def f(lf:Nat)  : Option (TI×Unit) :=
 some ((false,(⟨#[49]⟩:ByteArray),(⟨#[48]⟩:ByteArray),()),())
def E(lf:Nat):Entry:=⟨[],[yI],fun x=>f lf⟩
theorem ok(lf:Nat):Ok 163 (E lf):=okT (an:=(annsL [])) (lf:=lf) tN aoN fun x=>by kernel_rfl
end jq
namespace iE
def f(lf:Nat)(a0:ByteArray)(a1:ByteArray):Option (TI×Unit) :=
 bd (nG.f lf a0) fun r1 =>
 bd (fU.f lf r1.1 r1.2.1) fun r2 =>
 br (!(r2.1.toList==(⟨#[48]⟩:ByteArray).toList)) (
 bd (fD.f lf a1 r2.1) fun r3 =>
 bd (fU.f lf r3.1 r3.2.1) fun r4 =>
 bd (eX.f lf r2.1) fun r5 =>
 br r5.1 (
 bd (jq.f lf) fun r6 =>
 some (r6.1,())) (
 bd (eX.f lf r4.1) fun r7 =>
 br r7.1 (
 bd (jq.f lf) fun r8 =>
 some (r8.1,())) (
 some ((false,r2.1,r4.1,()),())))) (
 bd (eX.f lf r2.1) fun r9 =>
 br r9.1 (
 bd (jq.f lf) fun r10 =>
 some (r10.1,())) (
 bd (eX.f lf a1) fun r11 =>
 br r11.1 (
 bd (jq.f lf) fun r12 =>
 some (r12.1,())) (
 some ((false,r2.1,a1,()),()))))
def E(lf:Nat):Entry:=⟨[.str,.str],[yI],fun x=>f lf x.1 x.2.1⟩
theorem ok(lf:Nat):Ok 110 (E lf):=okT (an:=(annsL [])) (lf:=lf) (tC (fU.ok lf) (tC (nG.ok lf) (tC (fD.ok lf) (tC (eX.ok lf) (tC (jq.ok lf) tN))))) aoN fun x=>by kernel_rfl
end iE
namespace iK
def f(lf:Nat)(a0:ByteArray)(a1:ByteArray):Option (ByteArray×Unit) :=
 bd (nH.f lf a0 a1) fun r1 =>
 bd (fU.f lf r1.1 r1.2.1) fun r2 =>
 some (r2.1,())
def E(lf:Nat):Entry:=⟨[.str,.str],[.str],fun x=>f lf x.1 x.2.1⟩
theorem ok(lf:Nat):Ok 111 (E lf):=okT (an:=(annsL [])) (lf:=lf) (tC (fU.ok lf) (tC (nH.ok lf) tN)) aoN fun x=>by kernel_rfl
end iK
namespace iF
def f(lf:Nat)(a0:ByteArray)(a1:ByteArray):Option (Bool×Unit) :=
 br (a0.toList==(⟨#[48]⟩:ByteArray).toList) (
 some ((a1.toList==(⟨#[48]⟩:ByteArray).toList),())) (
 bd (fD.f lf a1 a0) fun r1 =>
 bd (fU.f lf r1.1 r1.2.1) fun r2 =>
 some ((r2.1.toList==(⟨#[48]⟩:ByteArray).toList),()))
def E(lf:Nat):Entry:=⟨[.str,.str],[.bool],fun x=>f lf x.1 x.2.1⟩
theorem ok(lf:Nat):Ok 189 (E lf):=okT (an:=(annsL [])) (lf:=lf) (tC (fU.ok lf) (tC (fD.ok lf) tN)) aoN fun x=>by kernel_rfl
end iF
namespace kK
def f(lf:Nat)(a0:TI)(a1:TI):Option (Bool×Unit) :=
 br a0.1 (
 some (a0.1,())) (
 br a1.1 (
 some (a0.1,())) (
 bd (iF.f lf a1.2.1 a0.2.1) fun r1 =>
 br r1.1 (
 bd (fJ.f lf a0.2.2.1 a1.2.2.1) fun r2 =>
 bd (iF.f lf a1.2.1 r2.1) fun r3 =>
 some (r3.1,())) (
 some (false,()))))
def E(lf:Nat):Entry:=⟨[yI,yI],[.bool],fun x=>f lf x.1 x.2.1⟩
theorem ok(lf:Nat):Ok 188 (E lf):=okT (an:=(annsL [])) (lf:=lf) (tC (fJ.ok lf) (tC (iF.ok lf) tN)) aoN fun x=>by kernel_rfl
end kK
namespace iy
def f(lf:Nat)  : Option (TI×Unit) :=
 some ((true,(⟨#[]⟩:ByteArray),(⟨#[]⟩:ByteArray),()),())
def E(lf:Nat):Entry:=⟨[],[yI],fun x=>f lf⟩
theorem ok(lf:Nat):Ok 190 (E lf):=okT (an:=(annsL [])) (lf:=lf) tN aoN fun x=>by kernel_rfl
end iy
namespace lH
def f(lf:Nat)(a0:ByteArray)(a1:ByteArray):Option (ByteArray×Unit) :=
 bd (qH.f lf a0 a1) fun r1 =>
 bd (fU.f lf r1.1 r1.2.1) fun r2 =>
 some (r2.1,())
def E(lf:Nat):Entry:=⟨[.str,.str],[.str],fun x=>f lf x.1 x.2.1⟩
theorem ok(lf:Nat):Ok 192 (E lf):=okT (an:=(annsL [])) (lf:=lf) (tC (fU.ok lf) (tC (qH.ok lf) tN)) aoN fun x=>by kernel_rfl
end lH
namespace nI
def f(lf:Nat)(a0:ByteArray)(a1:ByteArray):Option (ByteArray×Unit) :=
 bd (kN.f lf a0 a1) fun r1 =>
 bd (fU.f lf r1.1 r1.2.1) fun r2 =>
 some (r2.1,())
def E(lf:Nat):Entry:=⟨[.str,.str],[.str],fun x=>f lf x.1 x.2.1⟩
theorem ok(lf:Nat):Ok 195 (E lf):=okT (an:=(annsL [])) (lf:=lf) (tC (fU.ok lf) (tC (kN.ok lf) tN)) aoN fun x=>by kernel_rfl
end nI
namespace mV
def f(lf:Nat)(a0:TI)(a1:TI):Option (TI×Unit) :=
 bd (kK.f lf a0 a1) fun r1 =>
 br r1.1 (
 some (a0,())) (
 bd (kK.f lf a1 a0) fun r2 =>
 br r2.1 (
 some (a1,())) (
 bd (iK.f lf a0.2.1 a1.2.1) fun r3 =>
 bd (fJ.f lf a1.2.2.1 a0.2.2.1) fun r4 =>
 br (a0.2.1.toList==(⟨#[48]⟩:ByteArray).toList) (
 bd (iy.f lf) fun r5 =>
 some (r5.1,())) (
 br (a1.2.1.toList==(⟨#[48]⟩:ByteArray).toList) (
 bd (iy.f lf) fun r6 =>
 some (r6.1,())) (
 bd (iF.f lf r3.1 r4.1) fun r7 =>
 br (!r7.1) (
 bd (iy.f lf) fun r8 =>
 some (r8.1,())) (
 bd (ou.f lf a0.2.1 a1.2.1) fun r9 =>
 bd (qI.f lf r4.1 r3.1) fun r10 =>
 bd (fU.f lf r10.1 r10.2.1) fun r11 =>
 bd (lH.f lf r9.2.1 r11.1) fun r12 =>
 bd (qG.f lf a0.2.1 a1.2.1) fun r13 =>
 bd (fU.f lf r13.1 r13.2.1) fun r14 =>
 bd (lH.f lf r12.1 a0.2.1) fun r15 =>
 bd (nI.f lf a0.2.2.1 r15.1) fun r16 =>
 bd (iE.f lf r14.1 r16.1) fun r17 =>
 some (r17.1,()))))))
def E(lf:Nat):Entry:=⟨[yI,yI],[yI],fun x=>f lf x.1 x.2.1⟩
theorem ok(lf:Nat):Ok 147 (E lf):=okT (an:=(annsL [])) (lf:=lf) (tC (iE.ok lf) (tC (iK.ok lf) (tC (fJ.ok lf) (tC (fU.ok lf) (tC (kK.ok lf) (tC (iF.ok lf) (tC (iy.ok lf) (tC (ou.ok lf) (tC (lH.ok lf) (tC (qI.ok lf) (tC (qG.ok lf) (tC (nI.ok lf) tN)))))))))))) aoN fun x=>by kernel_rfl
end mV
namespace iW
def f(lf:Nat)(a0:TI)(a1:TI):Option (Int×Unit) :=
 bd (bg.f lf a0) fun r1 =>
 br (r1.1 != 0) (
 some (r1.1,())) (
 bd (bg.f lf a1) fun r2 =>
 some (r2.1,()))
def E(lf:Nat):Entry:=⟨[yI,yI],[(.int .i64)],fun x=>f lf x.1 x.2.1⟩
theorem ok(lf:Nat):Ok 109 (E lf):=okT (an:=(annsL [])) (lf:=lf) (tC (bg.ok lf) tN) aoN fun x=>by kernel_rfl
end iW
namespace mQ
def f(lf:Nat)(a0:TI)(a1:TI):Option (TI×Int×Unit) :=
 bd (iW.f lf a0 a1) fun r1 =>
 br (r1.1 != 0) (
 some ((false,(⟨#[]⟩:ByteArray),(⟨#[]⟩:ByteArray),()),r1.1,())) (
 br a0.1 (
 bd (iy.f lf) fun r2 =>
 some (r2.1,0,())) (
 br a1.1 (
 bd (iy.f lf) fun r3 =>
 some (r3.1,0,())) (
 bd (mV.f lf a0 a1) fun r4 =>
 some (r4.1,0,()))))
def E(lf:Nat):Entry:=⟨[yI,yI],[yI,(.int .i64)],fun x=>f lf x.1 x.2.1⟩
theorem ok(lf:Nat):Ok 97 (E lf):=okT (an:=(annsL [])) (lf:=lf) (tC (iW.ok lf) (tC (mV.ok lf) (tC (iy.ok lf) tN))) aoN fun x=>by kernel_rfl
end mQ
namespace lN
def f(lf:Nat)(a0:TI)(a1:ByteArray):Option (Bool×Int×Unit) :=
 bd (bg.f lf a0) fun r1 =>
 br (r1.1 != 0) (
 some (false,r1.1,())) (
 bd (bH.f lf a1) fun r2 =>
 br (r2.1 != 0) (
 some (false,r2.1,())) (
 br a0.1 (
 some (false,0,())) (
 br (a0.2.1.toList==(⟨#[48]⟩:ByteArray).toList) (
 some ((a1.toList==a0.2.2.1.toList),0,())) (
 bd (fD.f lf a1 a0.2.1) fun r3 =>
 bd (fU.f lf r3.1 r3.2.1) fun r4 =>
 some ((r4.1.toList==a0.2.2.1.toList),0,())))))
def E(lf:Nat):Entry:=⟨[yI,.str],[.bool,(.int .i64)],fun x=>f lf x.1 x.2.1⟩
theorem ok(lf:Nat):Ok 132 (E lf):=okT (an:=(annsL [])) (lf:=lf) (tC (bH.ok lf) (tC (bg.ok lf) (tC (fU.ok lf) (tC (fD.ok lf) tN)))) aoN fun x=>by kernel_rfl
end lN
namespace iV
def f(lf:Nat)(a0:TI)(a1:TI):Option (TI×Int×Unit) :=
 bd (iW.f lf a0 a1) fun r1 =>
 br (r1.1 != 0) (
 some ((false,(⟨#[]⟩:ByteArray),(⟨#[]⟩:ByteArray),()),r1.1,())) (
 br a0.1 (
 some (a1,0,())) (
 br a1.1 (
 some (a0,0,())) (
 bd (iK.f lf a0.2.1 a1.2.1) fun r2 =>
 bd (fJ.f lf a0.2.2.1 a1.2.2.1) fun r3 =>
 bd (iK.f lf r2.1 r3.1) fun r4 =>
 bd (iE.f lf r4.1 a0.2.2.1) fun r5 =>
 some (r5.1,0,()))))
def E(lf:Nat):Entry:=⟨[yI,yI],[yI,(.int .i64)],fun x=>f lf x.1 x.2.1⟩
theorem ok(lf:Nat):Ok 64 (E lf):=okT (an:=(annsL [])) (lf:=lf) (tC (iW.ok lf) (tC (iE.ok lf) (tC (iK.ok lf) (tC (fJ.ok lf) tN)))) aoN fun x=>by kernel_rfl
end iV
end
end Go.Q
namespace Go.Q
open Go Go.RowKit
open Go.Rx (br bd sIdx sCat sCut iQuo iRem)
noncomputable section
namespace iR
def f(lf:Nat)(a0:TI):Option (Bool×Unit) :=
 bd (fZ.f lf a0.2.1) fun r1 =>
 br r1.1 (
 bd (fZ.f lf a0.2.2.1) fun r2 =>
 some (r2.1,())) (
 some (false,()))
def E(lf:Nat):Entry:=⟨[yI],[.bool],fun x=>f lf x.1⟩
theorem ok(lf:Nat):Ok 33 (E lf):=okT (an:=(annsL [])) (lf:=lf) (tC (fZ.ok lf) tN) aoN fun x=>by kernel_rfl
end iR
namespace jJ
def f(lf:Nat)  : Option (TI×Unit) :=
 some ((true,(⟨#[]⟩:ByteArray),(⟨#[]⟩:ByteArray),()),())
def E(lf:Nat):Entry:=⟨[],[yI],fun x=>f lf⟩
theorem ok(lf:Nat):Ok 88 (E lf):=okT (an:=(annsL [])) (lf:=lf) tN aoN fun x=>by kernel_rfl
end jJ
namespace fQ
def f(lf:Nat)(a0:TI)(a1:ByteArray):Option (ByteArray×Bool×Unit) :=
 br (a0.2.1.toList==(⟨#[48]⟩:ByteArray).toList) (
 bd (au.f lf a0.2.2.1 a1) fun r1 =>
 br r1.1 (
 some ((⟨#[]⟩:ByteArray),false,())) (
 some (a0.2.2.1,true,()))) (
 bd (bP.f lf a0.2.2.1 a1) fun r2 =>
 bd (dO.f lf r2.1 a0.2.1) fun r3 =>
 bd (gm.f lf a1 r3.1) fun r4 =>
 some (r4.1,true,()))
def E(lf:Nat):Entry:=⟨[yI,.str],[.str,.bool],fun x=>f lf x.1 x.2.1⟩
theorem ok(lf:Nat):Ok 51 (E lf):=okT (an:=(annsL [])) (lf:=lf) (tC (au.ok lf) (tC (gm.ok lf) (tC (dO.ok lf) (tC (bP.ok lf) tN)))) aoN fun x=>by kernel_rfl
end fQ
namespace dF
def f(lf:Nat)  : Option (TI×Unit) :=
 some ((false,(⟨#[49]⟩:ByteArray),(⟨#[48]⟩:ByteArray),()),())
def E(lf:Nat):Entry:=⟨[],[yI],fun x=>f lf⟩
theorem ok(lf:Nat):Ok 59 (E lf):=okT (an:=(annsL [])) (lf:=lf) tN aoN fun x=>by kernel_rfl
end dF
namespace dU
def f(lf:Nat)(a0:ByteArray)(a1:ByteArray):Option (TI×Unit) :=
 bd (cu.f lf a0) fun r1 =>
 br (!(a0.toList==(⟨#[48]⟩:ByteArray).toList)) (
 bd (dO.f lf a1 r1.1) fun r2 =>
 bd (aF.f lf r1.1) fun r3 =>
 br (decide (r3.1 > 100)) (
 bd (dF.f lf) fun r4 =>
 some (r4.1,())) (
 bd (aF.f lf r2.1) fun r5 =>
 br (decide (r5.1 > 100)) (
 bd (dF.f lf) fun r6 =>
 some (r6.1,())) (
 some ((false,r1.1,r2.1,()),())))) (
 bd (aF.f lf r1.1) fun r7 =>
 br (decide (r7.1 > 100)) (
 bd (dF.f lf) fun r8 =>
 some (r8.1,())) (
 bd (aF.f lf a1) fun r9 =>
 br (decide (r9.1 > 100)) (
 bd (dF.f lf) fun r10 =>
 some (r10.1,())) (
 some ((false,r1.1,a1,()),()))))
def E(lf:Nat):Entry:=⟨[.str,.str],[yI],fun x=>f lf x.1 x.2.1⟩
theorem ok(lf:Nat):Ok 144 (E lf):=okT (an:=(annsL [])) (lf:=lf) (tC (dF.ok lf) (tC (dO.ok lf) (tC (aF.ok lf) (tC (cu.ok lf) tN)))) aoN fun x=>by kernel_rfl
end dU
namespace gU
def f(lf:Nat)(a0:TI):Option (TI×Unit) :=
 br a0.1 (
 some (a0,())) (
 bd (bI.f lf a0.2.2.1) fun r1 =>
 bd (dU.f lf a0.2.1 r1.1) fun r2 =>
 some (r2.1,()))
def E(lf:Nat):Entry:=⟨[yI],[yI],fun x=>f lf x.1⟩
theorem ok(lf:Nat):Ok 92 (E lf):=okT (an:=(annsL [])) (lf:=lf) (tC (bI.ok lf) (tC (dU.ok lf) tN)) aoN fun x=>by kernel_rfl
end gU
namespace iq
def f(lf:Nat)(a0:TI)(a1:ByteArray):Option (ByteArray×Bool×Unit) :=
 bd (gU.f lf a0) fun r1 =>
 bd (bI.f lf a1) fun r2 =>
 bd (fQ.f lf r1.1 r2.1) fun r3 =>
 br (!r3.2.1) (
 some ((⟨#[]⟩:ByteArray),false,())) (
 bd (bI.f lf r3.1) fun r4 =>
 some (r4.1,true,()))
def E(lf:Nat):Entry:=⟨[yI,.str],[.str,.bool],fun x=>f lf x.1 x.2.1⟩
theorem ok(lf:Nat):Ok 52 (E lf):=okT (an:=(annsL [])) (lf:=lf) (tC (fQ.ok lf) (tC (gU.ok lf) (tC (bI.ok lf) tN))) aoN fun x=>by kernel_rfl
end iq
namespace jD
def f(lf:Nat)(a0:ByteArray):Option (TI×Unit) :=
 bd (dU.f lf (⟨#[48]⟩:ByteArray) a0) fun r1 =>
 some (r1.1,())
def E(lf:Nat):Entry:=⟨[.str],[yI],fun x=>f lf x.1⟩
theorem ok(lf:Nat):Ok 95 (E lf):=okT (an:=(annsL [])) (lf:=lf) (tC (dU.ok lf) tN) aoN fun x=>by kernel_rfl
end jD
namespace gG
def f(lf:Nat)(a0:ByteArray):Option (Int×Unit) :=
 bd (cO.f lf a0) fun r1 =>
 br (!r1.1) (
 some (3,())) (
 bd (aF.f lf a0) fun r2 =>
 br (decide (r2.1 > 100)) (
 some (10,())) (
 some (0,())))
def E(lf:Nat):Entry:=⟨[.str],[(.int .i64)],fun x=>f lf x.1⟩
theorem ok(lf:Nat):Ok 242 (E lf):=okT (an:=(annsL [])) (lf:=lf) (tC (aF.ok lf) (tC (cO.ok lf) tN)) aoN fun x=>by kernel_rfl
end gG
namespace iw
def f(lf:Nat)(a0:TI):Option (Int×Unit) :=
 br a0.1 (
 br (!(a0.2.1.toList==(⟨#[]⟩:ByteArray).toList)) (
 some (3,())) (
 br (!(a0.2.2.1.toList==(⟨#[]⟩:ByteArray).toList)) (
 some (3,())) (
 some (0,())))) (
 bd (gG.f lf a0.2.1) fun r1 =>
 br (r1.1 != 0) (
 some (r1.1,())) (
 bd (gG.f lf a0.2.2.1) fun r2 =>
 br (r2.1 != 0) (
 some (r2.1,())) (
 bd (eF.f lf a0.2.1) fun r3 =>
 br (decide (r3.1 < 0)) (
 some (2,())) (
 br (!(a0.2.1.toList==(⟨#[48]⟩:ByteArray).toList)) (
 bd (eF.f lf a0.2.2.1) fun r4 =>
 br (decide (r4.1 < 0)) (
 some (2,())) (
 bd (au.f lf a0.2.2.1 a0.2.1) fun r5 =>
 br (!r5.1) (
 some (2,())) (
 some (0,())))) (
 some (0,()))))))
def E(lf:Nat):Entry:=⟨[yI],[(.int .i64)],fun x=>f lf x.1⟩
theorem ok(lf:Nat):Ok 218 (E lf):=okT (an:=(annsL [])) (lf:=lf) (tC (au.ok lf) (tC (eF.ok lf) (tC (gG.ok lf) tN))) aoN fun x=>by kernel_rfl
end iw
namespace iO
def f(lf:Nat)(a0:TI)(a1:TI):Option (TI×Unit) :=
 br a0.1 (
 some (a1,())) (
 br a1.1 (
 some (a0,())) (
 bd (bY.f lf a0.2.1 a1.2.1) fun r1 =>
 bd (bP.f lf a0.2.2.1 a1.2.2.1) fun r2 =>
 bd (bY.f lf r1.1 r2.1) fun r3 =>
 bd (dU.f lf r3.1 a0.2.2.1) fun r4 =>
 some (r4.1,())))
def E(lf:Nat):Entry:=⟨[yI,yI],[yI],fun x=>f lf x.1 x.2.1⟩
theorem ok(lf:Nat):Ok 120 (E lf):=okT (an:=(annsL [])) (lf:=lf) (tC (bP.ok lf) (tC (dU.ok lf) (tC (bY.ok lf) tN))) aoN fun x=>by kernel_rfl
end iO
end
end Go.Q
