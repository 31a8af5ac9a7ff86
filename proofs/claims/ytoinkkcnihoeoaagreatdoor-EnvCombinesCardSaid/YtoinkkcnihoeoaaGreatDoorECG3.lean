import Derived.Test.YtoinkkcnihoeoaaGreatDoorProg
import Derived.KernelRfl
import Derived.Test.YtoinkkcnihoeoaaGreatDoorECE3
import Derived.Test.YtoinkkcnihoeoaaGreatDoorECG1
import Derived.Test.YtoinkkcnihoeoaaGreatDoorECG2
set_option linter.unusedVariables false
set_option linter.unusedSimpArgs false
set_option linter.unusedSectionVars false
set_option maxRecDepth 100000
namespace Go.Q
open Go Go.RowKit
open Go.Rx (br bd sIdx sCat sCut iQuo iRem)
noncomputable section
namespace aX
def f(lf:Nat)(a0:TB)(a1:TB):Option (TB×TB×Unit) :=
 bd (af.f lf a0.2.1 a1.2.1) fun r1 =>
 br (a0.1==a1.1) (
 some ((false,r1.1,()),(a1.1,r1.2.1,()),())) (
 br (decide (((r1.2.1.length:Nat):Int) > 0)) (
 bd (iG.f lf r1.1 [1]) fun r2 =>
 bd (fG.f lf a1.2.1 r1.2.1) fun r3 =>
 some ((true,r2.1,()),(a1.1,r3.1,()),())) (
 some ((true,r1.1,()),(a1.1,r1.2.1,()),())))
def E(lf:Nat):Entry:=⟨[yB,yB],[yB,yB],fun x=>f lf x.1 x.2.1⟩
theorem ok(lf:Nat):Ok 273 (E lf):=okT (an:=(annsL [])) (lf:=lf) (tC (af.ok lf) (tC (iG.ok lf) (tC (fG.ok lf) tN))) aoN fun x=>by kernel_rfl
end aX
namespace jV
def f(lf:Nat)(a0:ByteArray)(a1:ByteArray):Option (ByteArray×ByteArray×Int×Unit) :=
 bd (eu.f lf a0 a1) fun r1 =>
 br (r1.2.2.1 != 0) (
 some ((⟨#[]⟩:ByteArray),(⟨#[]⟩:ByteArray),r1.2.2.1,())) (
 br (((r1.2.1.2.1.length:Nat):Int)==0) (
 some ((⟨#[]⟩:ByteArray),(⟨#[]⟩:ByteArray),19,())) (
 bd (aX.f lf r1.1 r1.2.1) fun r2 =>
 bd (ax.f lf r2.1) fun r3 =>
 bd (ax.f lf r2.2.1) fun r4 =>
 some (r3.1,r4.1,0,())))
def E(lf:Nat):Entry:=⟨[.str,.str],[.str,.str,(.int .i64)],fun x=>f lf x.1 x.2.1⟩
theorem ok(lf:Nat):Ok 258 (E lf):=okT (an:=(annsL [])) (lf:=lf) (tC (eu.ok lf) (tC (ax.ok lf) (tC (aX.ok lf) tN))) aoN fun x=>by kernel_rfl
end jV
namespace iT
def f(lf:Nat)(a0:ByteArray)(a1:ByteArray):Option (ByteArray×Int×Unit) :=
 bd (jV.f lf a0 a1) fun r1 =>
 some (r1.2.1,r1.2.2.1,())
def E(lf:Nat):Entry:=⟨[.str,.str],[.str,(.int .i64)],fun x=>f lf x.1 x.2.1⟩
theorem ok(lf:Nat):Ok 177 (E lf):=okT (an:=(annsL [])) (lf:=lf) (tC (jV.ok lf) tN) aoN fun x=>by kernel_rfl
end iT
namespace pM
def f(lf:Nat)(a0:ByteArray):Option (ByteArray×Int×Unit) :=
 bd (cu.f lf a0) fun r1 =>
 br (r1.1 != 0) (
 some ((⟨#[]⟩:ByteArray),r1.1,())) (
 bd (strings_TrimPrefix.f lf a0 (⟨#[45]⟩:ByteArray)) fun r2 =>
 some (r2.1,0,()))
def E(lf:Nat):Entry:=⟨[.str],[.str,(.int .i64)],fun x=>f lf x.1⟩
theorem ok(lf:Nat):Ok 176 (E lf):=okT (an:=(annsL [])) (lf:=lf) (tC (cu.ok lf) (tC (strings_TrimPrefix.ok lf) tN)) aoN fun x=>by kernel_rfl
end pM
namespace fM
def anns:FuncId→FA:=annsL [(260,⟨annOf [(0,⟨kx 19 [0,1],[],[]⟩,⟨kx 19 [0,4],[],[]⟩)],none,[]⟩)]
def r0{ρ:Type}(lf:Nat)(v0 v1:List Int)(K:(List Int)→(List Int)→Option ρ)(E0:(List Int)→Option ρ):Option ρ :=
 br (decide (((v1.length:Nat):Int) > 0)) (
 bd (af.f lf v0 v1) fun r1 =>
 K v1 r1.2.1) (
 E0 v0)
def l0(lf:Nat):Nat→(List Int)→(List Int)→Option (((List Int)×Unit)×Unit)
 | 0,_,_=>none
 | n+1,v0,v1=>r0 lf v0 v1 (l0 lf n) (fun w0=>some ((w0,()),()))
def sh0:ShS:=⟨[.s (.sl (.int .i64)),.s (.sl (.int .i64)),.a 17],[]⟩
def S0(p:(List Int)×(List Int)×Unit):St:=sh0.b p
def xh0:ShS:=⟨[.s (.sl (.int .i64)),.a 18],[]⟩
def o0(y:((List Int)×Unit)×Unit):Alt:=.one (.exit 0) (xh0.b (y.1.1,()))
def tb(lf:Nat):List (FuncId×Entry):=[(275,af.E lf)]
def ab2(lf:Nat):List (Nat×(St→Option LTE)):=[(0,sumE sh0 fun(p:(List Int)×(List Int)×Unit)=>⟨((List Int)×Unit)×Unit,l0 lf (lf+40) p.1 p.2.1,o0⟩)]
def ls(lf:Nat):List (Nat×FuncId×Sums):=[(13,260,sumsL (ab2 lf))]
def it0{ρ:Type}(lf n:Nat)(st:St)(k:KE ρ):Option ρ:=itG anns (ls lf) (tb lf) lf 13 260 0 0 (sumsL (ab2 lf)) n st k
theorem t0{ρ:Type}(lf n:Nat)(v0 v1:List Int)(k:KE ρ):it0 lf (n+1) (S0 (v0,v1,())) k=r0 lf v0 v1 (fun x0 x1=>it0 lf n (S0 (x0,x1,())) k) (fun w0=>k (.exit 0) (xh0.b (w0,()))):=by kernel_rfl
theorem u0{ρ:Type}(lf:Nat)(k:KE ρ):∀ (n:Nat) (v0 v1:List Int),it0 lf n (S0 (v0,v1,())) k=bd (l0 lf n v0 v1) fun y=>altK k (o0 y)
 | 0,_,_=>by rw[l0,bd_none];rfl
 | n+1,v0,v1=>by
  rw[t0];simp only[l0,r0,u0 lf k n,bd_br,bd_bd,bd_some',bd_none,br_t,br_f,o0,altK]
theorem sl(lf:Nat):SL anns (ls lf) (tb lf) lf (ls lf):=slC (laC (fun _=>by kernel_rfl) (fun _ (x:(List Int)×(List Int)×Unit) k=>bH (u0 lf k (lf+40) x.1 x.2.1)) laN) slN
def f(lf:Nat)(a0:List Int)(a1:List Int):Option ((List Int)×Unit) :=
 bd (l0 lf (lf+40) a0 a1) fun z2 =>
 some (z2.1.1,())
def E(lf:Nat):Entry:=⟨[(.sl (.int .i64)),(.sl (.int .i64))],[(.sl (.int .i64))],fun x=>f lf x.1 x.2.1⟩
theorem ok(lf:Nat):Ok 260 (E lf):=okL (tC (af.ok lf) tN) (aoC aoN) (sl lf) fun x=>by kernel_rfl
end fM
namespace pO
def f(lf:Nat)(a0:ByteArray)(a1:ByteArray):Option (ByteArray×Int×Unit) :=
 bd (eu.f lf a0 a1) fun r1 =>
 br (r1.2.2.1 != 0) (
 some ((⟨#[]⟩:ByteArray),r1.2.2.1,())) (
 bd (fM.f lf r1.1.2.1 r1.2.1.2.1) fun r2 =>
 bd (ax.f lf (false,r2.1,())) fun r3 =>
 some (r3.1,0,()))
def E(lf:Nat):Entry:=⟨[.str,.str],[.str,(.int .i64)],fun x=>f lf x.1 x.2.1⟩
theorem ok(lf:Nat):Ok 180 (E lf):=okT (an:=(annsL [])) (lf:=lf) (tC (eu.ok lf) (tC (fM.ok lf) (tC (ax.ok lf) tN))) aoN fun x=>by kernel_rfl
end pO
namespace rQ
def f(lf:Nat)(a0:Int):Option (ByteArray×Unit) :=
 bd (B.Itoa.f lf a0) fun r1 =>
 some (r1.1,())
def E(lf:Nat):Entry:=⟨[(.int .i64)],[.str],fun x=>f lf x.1⟩
theorem ok(lf:Nat):Ok 272 (E lf):=okT (an:=(annsL [])) (lf:=lf) (tC (B.Itoa.ok lf) tN) aoN fun x=>by kernel_rfl
end rQ
namespace di
def f(lf:Nat)(a0:TB)(a1:TB):Option (TB×Unit) :=
 bd (eX.f lf a0.2.1 a1.2.1) fun r1 =>
 some (((a0.1 != a1.1),r1.1,()),())
def E(lf:Nat):Entry:=⟨[yB,yB],[yB],fun x=>f lf x.1 x.2.1⟩
theorem ok(lf:Nat):Ok 274 (E lf):=okT (an:=(annsL [])) (lf:=lf) (tC (eX.ok lf) tN) aoN fun x=>by kernel_rfl
end di
end
end Go.Q
namespace Go.Q
open Go Go.RowKit
open Go.Rx (br bd sIdx sCat sCut iQuo iRem)
noncomputable section
namespace dh
def anns:FuncId→FA:=annsL [(194,⟨annOf [(0,⟨kx 110 [8,9,12,13,14,15],[],[]⟩,⟨kx 110 [4,5,6,7,8,9,12,14],[],[]⟩)],none,[]⟩)]
def r2{ρ:Type}(lf:Nat)(v0:Bool)(v1:List Int)(v2:Bool)(v3 v8:List Int)(v4:Bool)(v5:List Int)(v6:Bool)(v7:List Int)(v9:Bool)(v10:List Int)(v11:Bool)(v12:List Int)(K:Bool→(List Int)→Bool→(List Int)→Bool→(List Int)→Bool→(List Int)→Option ρ)(E0:Bool→(List Int)→Bool→(List Int)→Bool→(List Int)→Bool→(List Int)→(List Int)→Bool→(List Int)→Bool→(List Int)→Option ρ):Option ρ :=
 br (decide (((v7.length:Nat):Int) > 0)) (
 bd (aX.f lf (v4,v5,()) (v6,v7,())) fun r13 =>
 bd (di.f lf r13.1 (v11,v12,())) fun r14 =>
 bd (bM.f lf r14.1) fun r15 =>
 bd (eH.f lf (v9,v10,()) r15.1) fun r16 =>
 K v6 v7 r13.2.1.1 r13.2.1.2.1 v11 v12 r16.1.1 r16.1.2.1) (
 E0 v0 v1 v2 v3 v4 v5 v6 v7 v8 v9 v10 v11 v12)
def l2(lf:Nat)(v0:Bool)(v1:List Int)(v2:Bool)(v3 v8:List Int):Nat→Bool→(List Int)→Bool→(List Int)→Bool→(List Int)→Bool→(List Int)→Option ((Bool×(List Int)×Bool×(List Int)×Bool×(List Int)×Bool×(List Int)×(List Int)×Bool×(List Int)×Bool×(List Int)×Unit)×Unit)
 | 0,_,_,_,_,_,_,_,_=>none
 | n+1,v4,v5,v6,v7,v9,v10,v11,v12=>r2 lf v0 v1 v2 v3 v8 v4 v5 v6 v7 v9 v10 v11 v12 (l2 lf v0 v1 v2 v3 v8 n) (fun w0 w1 w2 w3 w4 w5 w6 w7 w8 w9 w10 w11 w12=>some ((w0,w1,w2,w3,w4,w5,w6,w7,w8,w9,w10,w11,w12,()),()))
def sh2:ShS:=⟨[.a 8,.s (.ptr 0 0),.s (.ptr 1 0),.a 2,.s (.ptr 2 0),.s (.ptr 3 0),.s (.ptr 5 0),.s (.ptr 6 0),.a 94],[.cells [.s .bool,.s (.sl (.int .i64))] 235,.cells [.s .bool,.s (.sl (.int .i64))] 235,.cells [.s .bool,.s (.sl (.int .i64))] 235,.cells [.s .bool,.s (.sl (.int .i64))] 235,.row (.int .i64) 3 true,.cells [.s .bool,.s (.sl (.int .i64))] 235,.cells [.s .bool,.s (.sl (.int .i64))] 235]⟩
def S2(p:Bool×(List Int)×Bool×(List Int)×Bool×(List Int)×Bool×(List Int)×(List Int)×Bool×(List Int)×Bool×(List Int)×Unit):St:=sh2.b p
def xh0:ShS:=⟨[.a 8,.s (.ptr 0 0),.s (.ptr 1 0),.a 2,.s (.ptr 2 0),.a 1,.s (.ptr 5 0),.a 95],[.cells [.s .bool,.s (.sl (.int .i64))] 235,.cells [.s .bool,.s (.sl (.int .i64))] 235,.cells [.s .bool,.s (.sl (.int .i64))] 235,.cells [.s .bool,.s (.sl (.int .i64))] 235,.row (.int .i64) 3 true,.cells [.s .bool,.s (.sl (.int .i64))] 235,.cells [.s .bool,.s (.sl (.int .i64))] 235]⟩
def o2(v0:Bool)(v1:List Int)(v2:Bool)(v3 v8:List Int)(y:(Bool×(List Int)×Bool×(List Int)×Bool×(List Int)×Bool×(List Int)×(List Int)×Bool×(List Int)×Bool×(List Int)×Unit)×Unit):Alt:=.one (.exit 0) (xh0.b (y.1.1,y.1.2.1,y.1.2.2.1,y.1.2.2.2.1,y.1.2.2.2.2.1,y.1.2.2.2.2.2.1,y.1.2.2.2.2.2.2.1,y.1.2.2.2.2.2.2.2.1,y.1.2.2.2.2.2.2.2.2.1,y.1.2.2.2.2.2.2.2.2.2.1,y.1.2.2.2.2.2.2.2.2.2.2.1,y.1.2.2.2.2.2.2.2.2.2.2.2.1,y.1.2.2.2.2.2.2.2.2.2.2.2.2.1,()))
def r1{ρ:Type}(lf:Nat)(v0:Bool)(v1:List Int)(v2:Bool)(v3:List Int)(v4:Bool)(v5:List Int)(v6:Bool)(v7 v8:List Int)(v9 v10:Bool)(v11:List Int)(K2:Bool→(List Int)→Bool→(List Int)→Bool→(List Int)→Bool→(List Int)→(List Int)→Bool→(List Int)→Bool→(List Int)→Option ρ)(E0:Bool→(List Int)→Bool→(List Int)→Bool→(List Int)→Bool→(List Int)→(List Int)→Bool→Bool→(List Int)→Option ρ):Option ρ :=
 br (decide (((v7.length:Nat):Int) > 0)) (
 bd (aX.f lf (v4,v5,()) (v6,v7,())) fun r9 =>
 bd (di.f lf r9.1 (v10,v11,())) fun r10 =>
 bd (bM.f lf r10.1) fun r11 =>
 bd (eH.f lf (v9,[],()) r11.1) fun r12 =>
 K2 v0 v1 v2 v3 v6 v7 r9.2.1.1 r9.2.1.2.1 v8 v10 v11 r12.1.1 r12.1.2.1) (
 E0 v0 v1 v2 v3 v4 v5 v6 v7 v8 v9 v10 v11)
def l1(lf:Nat)(v0:Bool)(v1:List Int)(v2:Bool)(v3:List Int)(v4:Bool)(v5:List Int)(v6:Bool)(v7 v8:List Int)(v9 v10:Bool)(v11:List Int):Nat→Option (Bool×(Bool×(List Int)×Bool×(List Int)×Bool×(List Int)×Bool×(List Int)×(List Int)×Bool×Bool×(List Int)×Unit)×(Bool×(List Int)×Bool×(List Int)×Bool×(List Int)×Bool×(List Int)×(List Int)×Bool×(List Int)×Bool×(List Int)×Unit)×Unit)
 | 0=>none
 | n+1=>r1 lf v0 v1 v2 v3 v4 v5 v6 v7 v8 v9 v10 v11 (fun x0 x1 x2 x3 x4 x5 x6 x7 x8 x9 x10 x11 x12=>bd (l2 lf x0 x1 x2 x3 x8 n x4 x5 x6 x7 x9 x10 x11 x12) fun z17=>some (false,(false,[],false,[],false,[],false,[],[],false,false,[],()),((z17.1.1,z17.1.2.1,z17.1.2.2.1,z17.1.2.2.2.1,z17.1.2.2.2.2.1,z17.1.2.2.2.2.2.1,z17.1.2.2.2.2.2.2.1,z17.1.2.2.2.2.2.2.2.1,z17.1.2.2.2.2.2.2.2.2.1,z17.1.2.2.2.2.2.2.2.2.2.1,z17.1.2.2.2.2.2.2.2.2.2.2.1,z17.1.2.2.2.2.2.2.2.2.2.2.2.1,z17.1.2.2.2.2.2.2.2.2.2.2.2.2.1,()),()))) (fun w0 w1 w2 w3 w4 w5 w6 w7 w8 w9 w10 w11=>some (true,(w0,w1,w2,w3,w4,w5,w6,w7,w8,w9,w10,w11,()),((false,[],false,[],false,[],false,[],[],false,[],false,[],()),())))
def sh1:ShS:=⟨[.a 8,.s (.ptr 0 0),.s (.ptr 1 0),.a 2,.s (.ptr 2 0),.s (.ptr 3 0),.s (.ptr 5 0),.s (.ptr 6 0),.a 94],[.cells [.s .bool,.s (.sl (.int .i64))] 235,.cells [.s .bool,.s (.sl (.int .i64))] 235,.cells [.s .bool,.s (.sl (.int .i64))] 235,.cells [.s .bool,.s (.sl (.int .i64))] 235,.row (.int .i64) 3 true,.cells [.s .bool,.s .nil] 235,.cells [.s .bool,.s (.sl (.int .i64))] 235]⟩
def S1(p:Bool×(List Int)×Bool×(List Int)×Bool×(List Int)×Bool×(List Int)×(List Int)×Bool×Bool×(List Int)×Unit):St:=sh1.b p
def xh1:ShS:=⟨[.a 8,.s (.ptr 0 0),.s (.ptr 1 0),.a 2,.s (.ptr 2 0),.a 1,.s (.ptr 5 0),.a 95],[.cells [.s .bool,.s (.sl (.int .i64))] 235,.cells [.s .bool,.s (.sl (.int .i64))] 235,.cells [.s .bool,.s (.sl (.int .i64))] 235,.cells [.s .bool,.s (.sl (.int .i64))] 235,.row (.int .i64) 3 true,.cells [.s .bool,.s .nil] 235,.cells [.s .bool,.s (.sl (.int .i64))] 235]⟩
def o1(v0:Bool)(v1:List Int)(v2:Bool)(v3:List Int)(v4:Bool)(v5:List Int)(v6:Bool)(v7 v8:List Int)(v9 v10:Bool)(v11:List Int)(y:Bool×(Bool×(List Int)×Bool×(List Int)×Bool×(List Int)×Bool×(List Int)×(List Int)×Bool×Bool×(List Int)×Unit)×(Bool×(List Int)×Bool×(List Int)×Bool×(List Int)×Bool×(List Int)×(List Int)×Bool×(List Int)×Bool×(List Int)×Unit)×Unit):Alt:=.two y.1 (.one (.exit 0) (xh1.b (y.2.1.1,y.2.1.2.1,y.2.1.2.2.1,y.2.1.2.2.2.1,y.2.1.2.2.2.2.1,y.2.1.2.2.2.2.2.1,y.2.1.2.2.2.2.2.2.1,y.2.1.2.2.2.2.2.2.2.1,y.2.1.2.2.2.2.2.2.2.2.1,y.2.1.2.2.2.2.2.2.2.2.2.1,y.2.1.2.2.2.2.2.2.2.2.2.2.1,y.2.1.2.2.2.2.2.2.2.2.2.2.2.1,()))) (.one (.exit 0) (xh0.b (y.2.2.1.1,y.2.2.1.2.1,y.2.2.1.2.2.1,y.2.2.1.2.2.2.1,y.2.2.1.2.2.2.2.1,y.2.2.1.2.2.2.2.2.1,y.2.2.1.2.2.2.2.2.2.1,y.2.2.1.2.2.2.2.2.2.2.1,y.2.2.1.2.2.2.2.2.2.2.2.1,y.2.2.1.2.2.2.2.2.2.2.2.2.1,y.2.2.1.2.2.2.2.2.2.2.2.2.2.1,y.2.2.1.2.2.2.2.2.2.2.2.2.2.2.1,y.2.2.1.2.2.2.2.2.2.2.2.2.2.2.2.1,())))
def r0{ρ:Type}(lf:Nat)(v0:Bool)(v1:List Int)(v2:Bool)(v3:List Int)(v4:Bool)(v5:List Int)(v6:Bool)(v7 v8:List Int)(v9 v10:Bool)(K1:Bool→(List Int)→Bool→(List Int)→Bool→(List Int)→Bool→(List Int)→(List Int)→Bool→Bool→(List Int)→Option ρ)(E0:Bool→(List Int)→Bool→(List Int)→Bool→(List Int)→Bool→(List Int)→(List Int)→Bool→Bool→Option ρ):Option ρ :=
 br (decide (((v7.length:Nat):Int) > 0)) (
 bd (aX.f lf (v4,v5,()) (v6,v7,())) fun r5 =>
 bd (di.f lf r5.1 (v10,[],())) fun r6 =>
 bd (bM.f lf r6.1) fun r7 =>
 bd (eH.f lf (v9,v8,()) r7.1) fun r8 =>
 K1 v0 v1 v2 v3 v6 v7 r5.2.1.1 r5.2.1.2.1 v8 v10 r8.1.1 r8.1.2.1) (
 E0 v0 v1 v2 v3 v4 v5 v6 v7 v8 v9 v10)
def l0(lf:Nat)(v0:Bool)(v1:List Int)(v2:Bool)(v3:List Int)(v4:Bool)(v5:List Int)(v6:Bool)(v7 v8:List Int)(v9 v10:Bool):Nat→Option (Bool×(Bool×(List Int)×Bool×(List Int)×Bool×(List Int)×Bool×(List Int)×(List Int)×Bool×Bool×Unit)×Bool×(Bool×(List Int)×Bool×(List Int)×Bool×(List Int)×Bool×(List Int)×(List Int)×Bool×Bool×(List Int)×Unit)×(Bool×(List Int)×Bool×(List Int)×Bool×(List Int)×Bool×(List Int)×(List Int)×Bool×(List Int)×Bool×(List Int)×Unit)×Unit)
 | 0=>none
 | n+1=>r0 lf v0 v1 v2 v3 v4 v5 v6 v7 v8 v9 v10 (fun x0 x1 x2 x3 x4 x5 x6 x7 x8 x9 x10 x11=>bd (l1 lf x0 x1 x2 x3 x4 x5 x6 x7 x8 x9 x10 x11 n) fun z18=>br z18.1 (some (false,(false,[],false,[],false,[],false,[],[],false,false,()),(true,(z18.2.1.1,z18.2.1.2.1,z18.2.1.2.2.1,z18.2.1.2.2.2.1,z18.2.1.2.2.2.2.1,z18.2.1.2.2.2.2.2.1,z18.2.1.2.2.2.2.2.2.1,z18.2.1.2.2.2.2.2.2.2.1,z18.2.1.2.2.2.2.2.2.2.2.1,z18.2.1.2.2.2.2.2.2.2.2.2.1,z18.2.1.2.2.2.2.2.2.2.2.2.2.1,z18.2.1.2.2.2.2.2.2.2.2.2.2.2.1,()),((false,[],false,[],false,[],false,[],[],false,[],false,[],()),())))) (some (false,(false,[],false,[],false,[],false,[],[],false,false,()),(false,(false,[],false,[],false,[],false,[],[],false,false,[],()),((z18.2.2.1.1,z18.2.2.1.2.1,z18.2.2.1.2.2.1,z18.2.2.1.2.2.2.1,z18.2.2.1.2.2.2.2.1,z18.2.2.1.2.2.2.2.2.1,z18.2.2.1.2.2.2.2.2.2.1,z18.2.2.1.2.2.2.2.2.2.2.1,z18.2.2.1.2.2.2.2.2.2.2.2.1,z18.2.2.1.2.2.2.2.2.2.2.2.2.1,z18.2.2.1.2.2.2.2.2.2.2.2.2.2.1,z18.2.2.1.2.2.2.2.2.2.2.2.2.2.2.1,z18.2.2.1.2.2.2.2.2.2.2.2.2.2.2.2.1,()),()))))) (fun w0 w1 w2 w3 w4 w5 w6 w7 w8 w9 w10=>some (true,(w0,w1,w2,w3,w4,w5,w6,w7,w8,w9,w10,()),(false,(false,[],false,[],false,[],false,[],[],false,false,[],()),((false,[],false,[],false,[],false,[],[],false,[],false,[],()),()))))
def sh0:ShS:=⟨[.a 8,.s (.ptr 0 0),.s (.ptr 1 0),.a 2,.s (.ptr 2 0),.s (.ptr 3 0),.s (.ptr 5 0),.s (.ptr 6 0),.a 94],[.cells [.s .bool,.s (.sl (.int .i64))] 235,.cells [.s .bool,.s (.sl (.int .i64))] 235,.cells [.s .bool,.s (.sl (.int .i64))] 235,.cells [.s .bool,.s (.sl (.int .i64))] 235,.row (.int .i64) 3 false,.cells [.s .bool,.s (.row 4)] 235,.cells [.s .bool,.s .nil] 235]⟩
def S0(p:Bool×(List Int)×Bool×(List Int)×Bool×(List Int)×Bool×(List Int)×(List Int)×Bool×Bool×Unit):St:=sh0.b p
def xh2:ShS:=⟨[.a 8,.s (.ptr 0 0),.s (.ptr 1 0),.a 2,.s (.ptr 2 0),.a 1,.s (.ptr 5 0),.a 95],[.cells [.s .bool,.s (.sl (.int .i64))] 235,.cells [.s .bool,.s (.sl (.int .i64))] 235,.cells [.s .bool,.s (.sl (.int .i64))] 235,.cells [.s .bool,.s (.sl (.int .i64))] 235,.row (.int .i64) 3 false,.cells [.s .bool,.s (.row 4)] 235,.cells [.s .bool,.s .nil] 235]⟩
def o0(v0:Bool)(v1:List Int)(v2:Bool)(v3:List Int)(v4:Bool)(v5:List Int)(v6:Bool)(v7 v8:List Int)(v9 v10:Bool)(y:Bool×(Bool×(List Int)×Bool×(List Int)×Bool×(List Int)×Bool×(List Int)×(List Int)×Bool×Bool×Unit)×Bool×(Bool×(List Int)×Bool×(List Int)×Bool×(List Int)×Bool×(List Int)×(List Int)×Bool×Bool×(List Int)×Unit)×(Bool×(List Int)×Bool×(List Int)×Bool×(List Int)×Bool×(List Int)×(List Int)×Bool×(List Int)×Bool×(List Int)×Unit)×Unit):Alt:=.two y.1 (.one (.exit 0) (xh2.b (y.2.1.1,y.2.1.2.1,y.2.1.2.2.1,y.2.1.2.2.2.1,y.2.1.2.2.2.2.1,y.2.1.2.2.2.2.2.1,y.2.1.2.2.2.2.2.2.1,y.2.1.2.2.2.2.2.2.2.1,y.2.1.2.2.2.2.2.2.2.2.1,y.2.1.2.2.2.2.2.2.2.2.2.1,y.2.1.2.2.2.2.2.2.2.2.2.2.1,()))) (.two y.2.2.1 (.one (.exit 0) (xh1.b (y.2.2.2.1.1,y.2.2.2.1.2.1,y.2.2.2.1.2.2.1,y.2.2.2.1.2.2.2.1,y.2.2.2.1.2.2.2.2.1,y.2.2.2.1.2.2.2.2.2.1,y.2.2.2.1.2.2.2.2.2.2.1,y.2.2.2.1.2.2.2.2.2.2.2.1,y.2.2.2.1.2.2.2.2.2.2.2.2.1,y.2.2.2.1.2.2.2.2.2.2.2.2.2.1,y.2.2.2.1.2.2.2.2.2.2.2.2.2.2.1,y.2.2.2.1.2.2.2.2.2.2.2.2.2.2.2.1,()))) (.one (.exit 0) (xh0.b (y.2.2.2.2.1.1,y.2.2.2.2.1.2.1,y.2.2.2.2.1.2.2.1,y.2.2.2.2.1.2.2.2.1,y.2.2.2.2.1.2.2.2.2.1,y.2.2.2.2.1.2.2.2.2.2.1,y.2.2.2.2.1.2.2.2.2.2.2.1,y.2.2.2.2.1.2.2.2.2.2.2.2.1,y.2.2.2.2.1.2.2.2.2.2.2.2.2.1,y.2.2.2.2.1.2.2.2.2.2.2.2.2.2.1,y.2.2.2.2.1.2.2.2.2.2.2.2.2.2.2.1,y.2.2.2.2.1.2.2.2.2.2.2.2.2.2.2.2.1,y.2.2.2.2.1.2.2.2.2.2.2.2.2.2.2.2.2.1,()))))
def tb(lf:Nat):List (FuncId×Entry):=[(259,eu.E lf),(261,ax.E lf),(263,eH.E lf),(264,bM.E lf),(271,lg.E lf),(272,rQ.E lf),(273,aX.E lf),(274,di.E lf),(275,af.E lf)]
def wC(lf:Nat):List (Nat×(St→Option LTE)):=[(0,sumE sh2 fun(p:Bool×(List Int)×Bool×(List Int)×Bool×(List Int)×Bool×(List Int)×(List Int)×Bool×(List Int)×Bool×(List Int)×Unit)=>⟨(Bool×(List Int)×Bool×(List Int)×Bool×(List Int)×Bool×(List Int)×(List Int)×Bool×(List Int)×Bool×(List Int)×Unit)×Unit,l2 lf p.1 p.2.1 p.2.2.1 p.2.2.2.1 p.2.2.2.2.2.2.2.2.1 (lf+40) p.2.2.2.2.1 p.2.2.2.2.2.1 p.2.2.2.2.2.2.1 p.2.2.2.2.2.2.2.1 p.2.2.2.2.2.2.2.2.2.1 p.2.2.2.2.2.2.2.2.2.2.1 p.2.2.2.2.2.2.2.2.2.2.2.1 p.2.2.2.2.2.2.2.2.2.2.2.2.1,o2 p.1 p.2.1 p.2.2.1 p.2.2.2.1 p.2.2.2.2.2.2.2.2.1⟩),
 (0,sumE sh1 fun(p:Bool×(List Int)×Bool×(List Int)×Bool×(List Int)×Bool×(List Int)×(List Int)×Bool×Bool×(List Int)×Unit)=>⟨Bool×(Bool×(List Int)×Bool×(List Int)×Bool×(List Int)×Bool×(List Int)×(List Int)×Bool×Bool×(List Int)×Unit)×(Bool×(List Int)×Bool×(List Int)×Bool×(List Int)×Bool×(List Int)×(List Int)×Bool×(List Int)×Bool×(List Int)×Unit)×Unit,l1 lf p.1 p.2.1 p.2.2.1 p.2.2.2.1 p.2.2.2.2.1 p.2.2.2.2.2.1 p.2.2.2.2.2.2.1 p.2.2.2.2.2.2.2.1 p.2.2.2.2.2.2.2.2.1 p.2.2.2.2.2.2.2.2.2.1 p.2.2.2.2.2.2.2.2.2.2.1 p.2.2.2.2.2.2.2.2.2.2.2.1 (lf+40),o1 p.1 p.2.1 p.2.2.1 p.2.2.2.1 p.2.2.2.2.1 p.2.2.2.2.2.1 p.2.2.2.2.2.2.1 p.2.2.2.2.2.2.2.1 p.2.2.2.2.2.2.2.2.1 p.2.2.2.2.2.2.2.2.2.1 p.2.2.2.2.2.2.2.2.2.2.1 p.2.2.2.2.2.2.2.2.2.2.2.1⟩),
 (0,sumE sh0 fun(p:Bool×(List Int)×Bool×(List Int)×Bool×(List Int)×Bool×(List Int)×(List Int)×Bool×Bool×Unit)=>⟨Bool×(Bool×(List Int)×Bool×(List Int)×Bool×(List Int)×Bool×(List Int)×(List Int)×Bool×Bool×Unit)×Bool×(Bool×(List Int)×Bool×(List Int)×Bool×(List Int)×Bool×(List Int)×(List Int)×Bool×Bool×(List Int)×Unit)×(Bool×(List Int)×Bool×(List Int)×Bool×(List Int)×Bool×(List Int)×(List Int)×Bool×(List Int)×Bool×(List Int)×Unit)×Unit,l0 lf p.1 p.2.1 p.2.2.1 p.2.2.2.1 p.2.2.2.2.1 p.2.2.2.2.2.1 p.2.2.2.2.2.2.1 p.2.2.2.2.2.2.2.1 p.2.2.2.2.2.2.2.2.1 p.2.2.2.2.2.2.2.2.2.1 p.2.2.2.2.2.2.2.2.2.2.1 (lf+40),o0 p.1 p.2.1 p.2.2.1 p.2.2.2.1 p.2.2.2.2.1 p.2.2.2.2.2.1 p.2.2.2.2.2.2.1 p.2.2.2.2.2.2.2.1 p.2.2.2.2.2.2.2.2.1 p.2.2.2.2.2.2.2.2.2.1 p.2.2.2.2.2.2.2.2.2.2.1⟩)]
def ls(lf:Nat):List (Nat×FuncId×Sums):=[(13,194,sumsL (wC lf))]
def it2{ρ:Type}(lf n:Nat)(st:St)(k:KE ρ):Option ρ:=itG anns (ls lf) (tb lf) lf 13 194 0 7 (sumsL (wC lf)) n st k
theorem t2{ρ:Type}(lf n:Nat)(v0:Bool)(v1:List Int)(v2:Bool)(v3:List Int)(v4:Bool)(v5:List Int)(v6:Bool)(v7 v8:List Int)(v9:Bool)(v10:List Int)(v11:Bool)(v12:List Int)(k:KE ρ):it2 lf (n+1) (S2 (v0,v1,v2,v3,v4,v5,v6,v7,v8,v9,v10,v11,v12,())) k=r2 lf v0 v1 v2 v3 v8 v4 v5 v6 v7 v9 v10 v11 v12 (fun x0 x1 x2 x3 x4 x5 x6 x7=>it2 lf n (S2 (v0,v1,v2,v3,x0,x1,x2,x3,v8,x4,x5,x6,x7,())) k) (fun w0 w1 w2 w3 w4 w5 w6 w7 w8 w9 w10 w11 w12=>k (.exit 0) (xh0.b (w0,w1,w2,w3,w4,w5,w6,w7,w8,w9,w10,w11,w12,()))):=by kernel_rfl
theorem u2{ρ:Type}(lf:Nat)(v0:Bool)(v1:List Int)(v2:Bool)(v3 v8:List Int)(k:KE ρ):∀ (n:Nat) (v4:Bool) (v5:List Int) (v6:Bool) (v7:List Int) (v9:Bool) (v10:List Int) (v11:Bool) (v12:List Int),it2 lf n (S2 (v0,v1,v2,v3,v4,v5,v6,v7,v8,v9,v10,v11,v12,())) k=bd (l2 lf v0 v1 v2 v3 v8 n v4 v5 v6 v7 v9 v10 v11 v12) fun y=>altK k (o2 v0 v1 v2 v3 v8 y)
 | 0,_,_,_,_,_,_,_,_=>by rw[l2,bd_none];rfl
 | n+1,v4,v5,v6,v7,v9,v10,v11,v12=>by
  rw[t2];simp only[l2,r2,u2 lf v0 v1 v2 v3 v8 k n,bd_br,bd_bd,bd_some',bd_none,br_t,br_f,o2,altK]
def it1{ρ:Type}(lf n:Nat)(st:St)(k:KE ρ):Option ρ:=itG anns (ls lf) (tb lf) lf 13 194 0 7 (sumsL (wC lf)) n st k
theorem t1{ρ:Type}(lf n:Nat)(v0:Bool)(v1:List Int)(v2:Bool)(v3:List Int)(v4:Bool)(v5:List Int)(v6:Bool)(v7 v8:List Int)(v9 v10:Bool)(v11:List Int)(k:KE ρ):it1 lf (n+1) (S1 (v0,v1,v2,v3,v4,v5,v6,v7,v8,v9,v10,v11,())) k=r1 lf v0 v1 v2 v3 v4 v5 v6 v7 v8 v9 v10 v11 (fun x0 x1 x2 x3 x4 x5 x6 x7 x8 x9 x10 x11 x12=>it2 lf n (S2 (x0,x1,x2,x3,x4,x5,x6,x7,x8,x9,x10,x11,x12,())) k) (fun w0 w1 w2 w3 w4 w5 w6 w7 w8 w9 w10 w11=>k (.exit 0) (xh1.b (w0,w1,w2,w3,w4,w5,w6,w7,w8,w9,w10,w11,()))):=by kernel_rfl
theorem u1{ρ:Type}(lf:Nat)(v0:Bool)(v1:List Int)(v2:Bool)(v3:List Int)(v4:Bool)(v5:List Int)(v6:Bool)(v7 v8:List Int)(v9 v10:Bool)(v11:List Int)(k:KE ρ):∀ (n:Nat),it1 lf n (S1 (v0,v1,v2,v3,v4,v5,v6,v7,v8,v9,v10,v11,())) k=bd (l1 lf v0 v1 v2 v3 v4 v5 v6 v7 v8 v9 v10 v11 n) fun y=>altK k (o1 v0 v1 v2 v3 v4 v5 v6 v7 v8 v9 v10 v11 y)
 | 0=>by rw[l1,bd_none];rfl
 | n+1=>by
  rw[t1];simp only[l1,r1,u2,bd_br,bd_bd,bd_some',bd_none,br_t,br_f,o1,o2,altK]
def it0{ρ:Type}(lf n:Nat)(st:St)(k:KE ρ):Option ρ:=itG anns (ls lf) (tb lf) lf 13 194 0 7 (sumsL (wC lf)) n st k
theorem t0{ρ:Type}(lf n:Nat)(v0:Bool)(v1:List Int)(v2:Bool)(v3:List Int)(v4:Bool)(v5:List Int)(v6:Bool)(v7 v8:List Int)(v9 v10:Bool)(k:KE ρ):it0 lf (n+1) (S0 (v0,v1,v2,v3,v4,v5,v6,v7,v8,v9,v10,())) k=r0 lf v0 v1 v2 v3 v4 v5 v6 v7 v8 v9 v10 (fun x0 x1 x2 x3 x4 x5 x6 x7 x8 x9 x10 x11=>it1 lf n (S1 (x0,x1,x2,x3,x4,x5,x6,x7,x8,x9,x10,x11,())) k) (fun w0 w1 w2 w3 w4 w5 w6 w7 w8 w9 w10=>k (.exit 0) (xh2.b (w0,w1,w2,w3,w4,w5,w6,w7,w8,w9,w10,()))):=by kernel_rfl
theorem u0{ρ:Type}(lf:Nat)(v0:Bool)(v1:List Int)(v2:Bool)(v3:List Int)(v4:Bool)(v5:List Int)(v6:Bool)(v7 v8:List Int)(v9 v10:Bool)(k:KE ρ):∀ (n:Nat),it0 lf n (S0 (v0,v1,v2,v3,v4,v5,v6,v7,v8,v9,v10,())) k=bd (l0 lf v0 v1 v2 v3 v4 v5 v6 v7 v8 v9 v10 n) fun y=>altK k (o0 v0 v1 v2 v3 v4 v5 v6 v7 v8 v9 v10 y)
 | 0=>by rw[l0,bd_none];rfl
 | n+1=>by
  rw[t0];simp only[l0,r0,u1,bd_br,bd_bd,bd_some',bd_none,br_t,br_f,o0,o1,altK]
theorem sl(lf:Nat):SL anns (ls lf) (tb lf) lf (ls lf):=slC (laC (fun _=>by kernel_rfl) (fun _ (x:Bool×(List Int)×Bool×(List Int)×Bool×(List Int)×Bool×(List Int)×(List Int)×Bool×(List Int)×Bool×(List Int)×Unit) k=>bH (u2 lf x.1 x.2.1 x.2.2.1 x.2.2.2.1 x.2.2.2.2.2.2.2.2.1 k (lf+40) x.2.2.2.2.1 x.2.2.2.2.2.1 x.2.2.2.2.2.2.1 x.2.2.2.2.2.2.2.1 x.2.2.2.2.2.2.2.2.2.1 x.2.2.2.2.2.2.2.2.2.2.1 x.2.2.2.2.2.2.2.2.2.2.2.1 x.2.2.2.2.2.2.2.2.2.2.2.2.1)) (laC (fun _=>by kernel_rfl) (fun _ (x:Bool×(List Int)×Bool×(List Int)×Bool×(List Int)×Bool×(List Int)×(List Int)×Bool×Bool×(List Int)×Unit) k=>bH (u1 lf x.1 x.2.1 x.2.2.1 x.2.2.2.1 x.2.2.2.2.1 x.2.2.2.2.2.1 x.2.2.2.2.2.2.1 x.2.2.2.2.2.2.2.1 x.2.2.2.2.2.2.2.2.1 x.2.2.2.2.2.2.2.2.2.1 x.2.2.2.2.2.2.2.2.2.2.1 x.2.2.2.2.2.2.2.2.2.2.2.1 k (lf+40))) (laC (fun _=>by kernel_rfl) (fun _ (x:Bool×(List Int)×Bool×(List Int)×Bool×(List Int)×Bool×(List Int)×(List Int)×Bool×Bool×Unit) k=>bH (u0 lf x.1 x.2.1 x.2.2.1 x.2.2.2.1 x.2.2.2.2.1 x.2.2.2.2.2.1 x.2.2.2.2.2.2.1 x.2.2.2.2.2.2.2.1 x.2.2.2.2.2.2.2.2.1 x.2.2.2.2.2.2.2.2.2.1 x.2.2.2.2.2.2.2.2.2.2.1 k (lf+40))) laN))) slN
def f(lf:Nat)(a0:ByteArray)(a1:ByteArray):Option (ByteArray×ByteArray×ByteArray×Int×Unit) :=
 bd (eu.f lf a0 a1) fun r1 =>
 br (r1.2.2.1 != 0) (
 some ((⟨#[]⟩:ByteArray),(⟨#[]⟩:ByteArray),(⟨#[]⟩:ByteArray),r1.2.2.1,())) (
 br (((r1.2.1.2.1.length:Nat):Int)==0) (
 bd (lg.f lf r1.1) fun r2 =>
 bd (ax.f lf (false,r1.1.2.1,())) fun r3 =>
 bd (rQ.f lf r2.1) fun r4 =>
 some (r3.1,r4.1,(⟨#[48]⟩:ByteArray),0,())) (
 bd (l0 lf r1.1.1 r1.1.2.1 r1.2.1.1 r1.2.1.2.1 false r1.1.2.1 false r1.2.1.2.1 [1] false false (lf+40)) fun z19 =>
 br z19.1 (
 br z19.2.1.1 (
 bd (bM.f lf (z19.2.1.2.2.2.2.2.2.2.2.2.1,z19.2.1.2.2.2.2.2.2.2.2.1,())) fun r20 =>
 bd (af.f lf z19.2.1.2.2.2.1 z19.2.1.2.2.2.2.2.1) fun r21 =>
 bd (aX.f lf r20.1 (false,r21.1,())) fun r22 =>
 bd (di.f lf (z19.2.1.1,z19.2.1.2.1,()) r22.2.1) fun r23 =>
 bd (bM.f lf r23.1) fun r24 =>
 bd (eH.f lf (z19.2.1.2.2.2.2.1,z19.2.1.2.2.2.2.2.1,()) r24.1) fun r25 =>
 bd (aX.f lf r25.1 (z19.2.1.2.2.1,z19.2.1.2.2.2.1,())) fun r26 =>
 bd (ax.f lf (z19.2.1.2.2.2.2.1,z19.2.1.2.2.2.2.2.1,())) fun r27 =>
 bd (ax.f lf r22.2.1) fun r28 =>
 bd (ax.f lf r26.1) fun r29 =>
 some (r27.1,r28.1,r29.1,0,())) (
 bd (af.f lf z19.2.1.2.2.2.1 z19.2.1.2.2.2.2.2.1) fun r30 =>
 bd (aX.f lf (z19.2.1.2.2.2.2.2.2.2.2.2.1,z19.2.1.2.2.2.2.2.2.2.2.1,()) (false,r30.1,())) fun r31 =>
 bd (di.f lf (z19.2.1.1,z19.2.1.2.1,()) r31.2.1) fun r32 =>
 bd (bM.f lf r32.1) fun r33 =>
 bd (eH.f lf (z19.2.1.2.2.2.2.1,z19.2.1.2.2.2.2.2.1,()) r33.1) fun r34 =>
 bd (aX.f lf r34.1 (z19.2.1.2.2.1,z19.2.1.2.2.2.1,())) fun r35 =>
 bd (ax.f lf (z19.2.1.2.2.2.2.1,z19.2.1.2.2.2.2.2.1,())) fun r36 =>
 bd (ax.f lf r31.2.1) fun r37 =>
 bd (ax.f lf r35.1) fun r38 =>
 some (r36.1,r37.1,r38.1,0,()))) (
 br z19.2.2.1 (
 br z19.2.2.2.1.1 (
 bd (bM.f lf (z19.2.2.2.1.2.2.2.2.2.2.2.2.2.1,[],())) fun r39 =>
 bd (af.f lf z19.2.2.2.1.2.2.2.1 z19.2.2.2.1.2.2.2.2.2.1) fun r40 =>
 bd (aX.f lf r39.1 (false,r40.1,())) fun r41 =>
 bd (di.f lf (z19.2.2.2.1.1,z19.2.2.2.1.2.1,()) r41.2.1) fun r42 =>
 bd (bM.f lf r42.1) fun r43 =>
 bd (eH.f lf (z19.2.2.2.1.2.2.2.2.1,z19.2.2.2.1.2.2.2.2.2.1,()) r43.1) fun r44 =>
 bd (aX.f lf r44.1 (z19.2.2.2.1.2.2.1,z19.2.2.2.1.2.2.2.1,())) fun r45 =>
 bd (ax.f lf (z19.2.2.2.1.2.2.2.2.1,z19.2.2.2.1.2.2.2.2.2.1,())) fun r46 =>
 bd (ax.f lf r41.2.1) fun r47 =>
 bd (ax.f lf r45.1) fun r48 =>
 some (r46.1,r47.1,r48.1,0,())) (
 bd (af.f lf z19.2.2.2.1.2.2.2.1 z19.2.2.2.1.2.2.2.2.2.1) fun r49 =>
 bd (aX.f lf (z19.2.2.2.1.2.2.2.2.2.2.2.2.2.1,[],()) (false,r49.1,())) fun r50 =>
 bd (di.f lf (z19.2.2.2.1.1,z19.2.2.2.1.2.1,()) r50.2.1) fun r51 =>
 bd (bM.f lf r51.1) fun r52 =>
 bd (eH.f lf (z19.2.2.2.1.2.2.2.2.1,z19.2.2.2.1.2.2.2.2.2.1,()) r52.1) fun r53 =>
 bd (aX.f lf r53.1 (z19.2.2.2.1.2.2.1,z19.2.2.2.1.2.2.2.1,())) fun r54 =>
 bd (ax.f lf (z19.2.2.2.1.2.2.2.2.1,z19.2.2.2.1.2.2.2.2.2.1,())) fun r55 =>
 bd (ax.f lf r50.2.1) fun r56 =>
 bd (ax.f lf r54.1) fun r57 =>
 some (r55.1,r56.1,r57.1,0,()))) (
 br z19.2.2.2.2.1.1 (
 bd (bM.f lf (z19.2.2.2.2.1.2.2.2.2.2.2.2.2.2.1,z19.2.2.2.2.1.2.2.2.2.2.2.2.2.2.2.1,())) fun r58 =>
 bd (af.f lf z19.2.2.2.2.1.2.2.2.1 z19.2.2.2.2.1.2.2.2.2.2.1) fun r59 =>
 bd (aX.f lf r58.1 (false,r59.1,())) fun r60 =>
 bd (di.f lf (z19.2.2.2.2.1.1,z19.2.2.2.2.1.2.1,()) r60.2.1) fun r61 =>
 bd (bM.f lf r61.1) fun r62 =>
 bd (eH.f lf (z19.2.2.2.2.1.2.2.2.2.1,z19.2.2.2.2.1.2.2.2.2.2.1,()) r62.1) fun r63 =>
 bd (aX.f lf r63.1 (z19.2.2.2.2.1.2.2.1,z19.2.2.2.2.1.2.2.2.1,())) fun r64 =>
 bd (ax.f lf (z19.2.2.2.2.1.2.2.2.2.1,z19.2.2.2.2.1.2.2.2.2.2.1,())) fun r65 =>
 bd (ax.f lf r60.2.1) fun r66 =>
 bd (ax.f lf r64.1) fun r67 =>
 some (r65.1,r66.1,r67.1,0,())) (
 bd (af.f lf z19.2.2.2.2.1.2.2.2.1 z19.2.2.2.2.1.2.2.2.2.2.1) fun r68 =>
 bd (aX.f lf (z19.2.2.2.2.1.2.2.2.2.2.2.2.2.2.1,z19.2.2.2.2.1.2.2.2.2.2.2.2.2.2.2.1,()) (false,r68.1,())) fun r69 =>
 bd (di.f lf (z19.2.2.2.2.1.1,z19.2.2.2.2.1.2.1,()) r69.2.1) fun r70 =>
 bd (bM.f lf r70.1) fun r71 =>
 bd (eH.f lf (z19.2.2.2.2.1.2.2.2.2.1,z19.2.2.2.2.1.2.2.2.2.2.1,()) r71.1) fun r72 =>
 bd (aX.f lf r72.1 (z19.2.2.2.2.1.2.2.1,z19.2.2.2.2.1.2.2.2.1,())) fun r73 =>
 bd (ax.f lf (z19.2.2.2.2.1.2.2.2.2.1,z19.2.2.2.2.1.2.2.2.2.2.1,())) fun r74 =>
 bd (ax.f lf r69.2.1) fun r75 =>
 bd (ax.f lf r73.1) fun r76 =>
 some (r74.1,r75.1,r76.1,0,()))))))
def E(lf:Nat):Entry:=⟨[.str,.str],[.str,.str,.str,(.int .i64)],fun x=>f lf x.1 x.2.1⟩
theorem ok(lf:Nat):Ok 194 (E lf):=okL (tC (eu.ok lf) (tC (ax.ok lf) (tC (eH.ok lf) (tC (bM.ok lf) (tC (lg.ok lf) (tC (rQ.ok lf) (tC (aX.ok lf) (tC (di.ok lf) (tC (af.ok lf) tN))))))))) (aoC aoN) (sl lf) fun x=>by kernel_rfl
end dh
end
end Go.Q
namespace Go.Q
open Go Go.RowKit
open Go.Rx (br bd sIdx sCat sCut iQuo iRem)
noncomputable section
namespace jI
def f(lf:Nat)(a0:ByteArray)(a1:ByteArray):Option (ByteArray×Int×Unit) :=
 bd (eu.f lf a0 a1) fun r1 =>
 br (r1.2.2.1 != 0) (
 some ((⟨#[]⟩:ByteArray),r1.2.2.1,())) (
 bd (di.f lf r1.1 r1.2.1) fun r2 =>
 bd (gW.f lf r2.1) fun r3 =>
 some (r3.1,r3.2.1,()))
def E(lf:Nat):Entry:=⟨[.str,.str],[.str,(.int .i64)],fun x=>f lf x.1 x.2.1⟩
theorem ok(lf:Nat):Ok 252 (E lf):=okT (an:=(annsL [])) (lf:=lf) (tC (eu.ok lf) (tC (gW.ok lf) (tC (di.ok lf) tN))) aoN fun x=>by kernel_rfl
end jI
namespace jJ
def f(lf:Nat)(a0:ByteArray)(a1:ByteArray):Option (ByteArray×Int×Unit) :=
 bd (jV.f lf a0 a1) fun r1 =>
 some (r1.1,r1.2.2.1,())
def E(lf:Nat):Entry:=⟨[.str,.str],[.str,(.int .i64)],fun x=>f lf x.1 x.2.1⟩
theorem ok(lf:Nat):Ok 196 (E lf):=okT (an:=(annsL [])) (lf:=lf) (tC (jV.ok lf) tN) aoN fun x=>by kernel_rfl
end jJ
namespace pR
def f(lf:Nat)(a0:ByteArray)(a1:ByteArray):Option (ByteArray×Int×Unit) :=
 bd (eu.f lf a0 a1) fun r1 =>
 br (r1.2.2.1 != 0) (
 some ((⟨#[]⟩:ByteArray),r1.2.2.1,())) (
 br (((r1.1.2.1.length:Nat):Int)==0) (
 some ((⟨#[48]⟩:ByteArray),0,())) (
 br (((r1.2.1.2.1.length:Nat):Int)==0) (
 some ((⟨#[48]⟩:ByteArray),0,())) (
 bd (fM.f lf r1.1.2.1 r1.2.1.2.1) fun r2 =>
 bd (af.f lf r1.1.2.1 r2.1) fun r3 =>
 bd (eX.f lf r3.1 r1.2.1.2.1) fun r4 =>
 bd (gW.f lf (false,r4.1,())) fun r5 =>
 some (r5.1,r5.2.1,()))))
def E(lf:Nat):Entry:=⟨[.str,.str],[.str,(.int .i64)],fun x=>f lf x.1 x.2.1⟩
theorem ok(lf:Nat):Ok 197 (E lf):=okT (an:=(annsL [])) (lf:=lf) (tC (eu.ok lf) (tC (fM.ok lf) (tC (gW.ok lf) (tC (af.ok lf) (tC (eX.ok lf) tN))))) aoN fun x=>by kernel_rfl
end pR
end
end Go.Q
namespace Go.Q
open Go.IntKind (i64)
open Go Go.RowKit
open Go.Rx (br bd sIdx sCat sCut iQuo iRem)
noncomputable section
namespace aH
def f(lf:Nat)(a0:Int):Option (TX×Unit) :=
 some ((a0,(⟨#[]⟩:ByteArray),()),())
def E(lf:Nat):Entry:=⟨[(.int .i64)],[yX],fun x=>f lf x.1⟩
theorem ok(lf:Nat):Ok 84 (E lf):=okT (an:=(annsL [])) (lf:=lf) tN aoN fun x=>by kernel_rfl
end aH
namespace aT
def f(lf:Nat)(a0:ByteArray):Option (TX×Unit) :=
 some ((0,a0,()),())
def E(lf:Nat):Entry:=⟨[.str],[yX],fun x=>f lf x.1⟩
theorem ok(lf:Nat):Ok 85 (E lf):=okT (an:=(annsL [])) (lf:=lf) tN aoN fun x=>by kernel_rfl
end aT
namespace dI
def f(lf:Nat)  : Option (TS×Unit) :=
 bd (aH.f lf 1) fun r1 =>
 bd (aH.f lf (-1)) fun r2 =>
 some ((r1.1,r2.1,()),())
def E(lf:Nat):Entry:=⟨[],[yS],fun x=>f lf⟩
theorem ok(lf:Nat):Ok 127 (E lf):=okT (an:=(annsL [])) (lf:=lf) (tC (aH.ok lf) tN) aoN fun x=>by kernel_rfl
end dI
namespace aF
def f(lf:Nat)(a0:TI):Option (TS×Unit) :=
 br a0.1 (
 bd (dI.f lf) fun r1 =>
 some (r1.1,())) (
 bd (aH.f lf (-1)) fun r2 =>
 bd (aH.f lf 1) fun r3 =>
 br (!(a0.2.1.toList==(⟨#[]⟩:ByteArray).toList)) (
 bd (aT.f lf a0.2.1) fun r4 =>
 br (!(a0.2.2.1.toList==(⟨#[]⟩:ByteArray).toList)) (
 bd (aT.f lf a0.2.2.1) fun r5 =>
 some ((r4.1,r5.1,()),())) (
 some ((r4.1,r3.1,()),()))) (
 br (!(a0.2.2.1.toList==(⟨#[]⟩:ByteArray).toList)) (
 bd (aT.f lf a0.2.2.1) fun r6 =>
 some ((r2.1,r6.1,()),())) (
 some ((r2.1,r3.1,()),()))))
def E(lf:Nat):Entry:=⟨[yI],[yS],fun x=>f lf x.1⟩
theorem ok(lf:Nat):Ok 79 (E lf):=okT (an:=(annsL [])) (lf:=lf) (tC (aH.ok lf) (tC (aT.ok lf) (tC (dI.ok lf) tN))) aoN fun x=>by kernel_rfl
end aF
namespace bV
def f(lf:Nat)(a0:ByteArray)(a1:ByteArray):Option (Int×Unit) :=
 bd (gq.f lf a0 a1) fun r1 =>
 some (r1.1,())
def E(lf:Nat):Entry:=⟨[.str,.str],[(.int .i64)],fun x=>f lf x.1 x.2.1⟩
theorem ok(lf:Nat):Ok 126 (E lf):=okT (an:=(annsL [])) (lf:=lf) (tC (gq.ok lf) tN) aoN fun x=>by kernel_rfl
end bV
namespace aC
def f(lf:Nat)(a0:TX)(a1:TX):Option (Int×Unit) :=
 br (a0.1 != 0) (
 some ((i64.wrap (a0.1-a1.1)),())) (
 br (a1.1 != 0) (
 some ((i64.wrap (a0.1-a1.1)),())) (
 bd (bV.f lf a0.2.1 a1.2.1) fun r1 =>
 some (r1.1,())))
def E(lf:Nat):Entry:=⟨[yX,yX],[(.int .i64)],fun x=>f lf x.1 x.2.1⟩
theorem ok(lf:Nat):Ok 83 (E lf):=okT (an:=(annsL [])) (lf:=lf) (tC (bV.ok lf) tN) aoN fun x=>by kernel_rfl
end aC
namespace jL
def f(lf:Nat)(a0:ByteArray):Option (Int×Unit) :=
 br (decide (((a0.size:Nat):Int) > 0)) (
 bd (sIdx a0 0) fun r1 =>
 br (((r1.toNat:Nat):Int)==45) (
 some ((i64.wrap (((a0.size:Nat):Int)-1)),())) (
 some (((a0.size:Nat):Int),()))) (
 some (((a0.size:Nat):Int),()))
def E(lf:Nat):Entry:=⟨[.str],[(.int .i64)],fun x=>f lf x.1⟩
theorem ok(lf:Nat):Ok 208 (E lf):=okT (an:=(annsL [])) (lf:=lf) tN aoN fun x=>by kernel_rfl
end jL
namespace dW
def f(lf:Nat)(a0:ByteArray):Option (Int×Unit) :=
 bd (cu.f lf a0) fun r1 =>
 br (r1.1 != 0) (
 some (r1.1,())) (
 bd (jL.f lf a0) fun r2 =>
 br (decide (r2.1 > 100)) (
 some (10,())) (
 some (0,())))
def E(lf:Nat):Entry:=⟨[.str],[(.int .i64)],fun x=>f lf x.1⟩
theorem ok(lf:Nat):Ok 125 (E lf):=okT (an:=(annsL [])) (lf:=lf) (tC (cu.ok lf) (tC (jL.ok lf) tN)) aoN fun x=>by kernel_rfl
end dW
namespace aJ
def f(lf:Nat)(a0:TI):Option (Int×Unit) :=
 br a0.1 (
 br (!(a0.2.1.toList==(⟨#[]⟩:ByteArray).toList)) (
 some (3,())) (
 br (!(a0.2.2.1.toList==(⟨#[]⟩:ByteArray).toList)) (
 some (3,())) (
 br (a0.2.1.toList==(⟨#[]⟩:ByteArray).toList) (
 br (a0.2.2.1.toList==(⟨#[]⟩:ByteArray).toList) (
 br (!(a0.2.1.toList==(⟨#[]⟩:ByteArray).toList)) (
 br (!(a0.2.2.1.toList==(⟨#[]⟩:ByteArray).toList)) (
 bd (bV.f lf a0.2.1 a0.2.2.1) fun r1 =>
 br (decide (r1.1 > 0)) (
 some (14,())) (
 some (0,()))) (
 some (0,()))) (
 some (0,()))) (
 bd (dW.f lf a0.2.2.1) fun r2 =>
 br (r2.1 != 0) (
 some (r2.1,())) (
 br (!(a0.2.1.toList==(⟨#[]⟩:ByteArray).toList)) (
 br (!(a0.2.2.1.toList==(⟨#[]⟩:ByteArray).toList)) (
 bd (bV.f lf a0.2.1 a0.2.2.1) fun r3 =>
 br (decide (r3.1 > 0)) (
 some (14,())) (
 some (0,()))) (
 some (0,()))) (
 some (0,()))))) (
 bd (dW.f lf a0.2.1) fun r4 =>
 br (r4.1 != 0) (
 some (r4.1,())) (
 br (a0.2.2.1.toList==(⟨#[]⟩:ByteArray).toList) (
 br (!(a0.2.1.toList==(⟨#[]⟩:ByteArray).toList)) (
 br (!(a0.2.2.1.toList==(⟨#[]⟩:ByteArray).toList)) (
 bd (bV.f lf a0.2.1 a0.2.2.1) fun r5 =>
 br (decide (r5.1 > 0)) (
 some (14,())) (
 some (0,()))) (
 some (0,()))) (
 some (0,()))) (
 bd (dW.f lf a0.2.2.1) fun r6 =>
 br (r6.1 != 0) (
 some (r6.1,())) (
 br (!(a0.2.1.toList==(⟨#[]⟩:ByteArray).toList)) (
 br (!(a0.2.2.1.toList==(⟨#[]⟩:ByteArray).toList)) (
 bd (bV.f lf a0.2.1 a0.2.2.1) fun r7 =>
 br (decide (r7.1 > 0)) (
 some (14,())) (
 some (0,()))) (
 some (0,()))) (
 some (0,()))))))))) (
 br (a0.2.1.toList==(⟨#[]⟩:ByteArray).toList) (
 br (a0.2.2.1.toList==(⟨#[]⟩:ByteArray).toList) (
 br (!(a0.2.1.toList==(⟨#[]⟩:ByteArray).toList)) (
 br (!(a0.2.2.1.toList==(⟨#[]⟩:ByteArray).toList)) (
 bd (bV.f lf a0.2.1 a0.2.2.1) fun r8 =>
 br (decide (r8.1 > 0)) (
 some (14,())) (
 some (0,()))) (
 some (0,()))) (
 some (0,()))) (
 bd (dW.f lf a0.2.2.1) fun r9 =>
 br (r9.1 != 0) (
 some (r9.1,())) (
 br (!(a0.2.1.toList==(⟨#[]⟩:ByteArray).toList)) (
 br (!(a0.2.2.1.toList==(⟨#[]⟩:ByteArray).toList)) (
 bd (bV.f lf a0.2.1 a0.2.2.1) fun r10 =>
 br (decide (r10.1 > 0)) (
 some (14,())) (
 some (0,()))) (
 some (0,()))) (
 some (0,()))))) (
 bd (dW.f lf a0.2.1) fun r11 =>
 br (r11.1 != 0) (
 some (r11.1,())) (
 br (a0.2.2.1.toList==(⟨#[]⟩:ByteArray).toList) (
 br (!(a0.2.1.toList==(⟨#[]⟩:ByteArray).toList)) (
 br (!(a0.2.2.1.toList==(⟨#[]⟩:ByteArray).toList)) (
 bd (bV.f lf a0.2.1 a0.2.2.1) fun r12 =>
 br (decide (r12.1 > 0)) (
 some (14,())) (
 some (0,()))) (
 some (0,()))) (
 some (0,()))) (
 bd (dW.f lf a0.2.2.1) fun r13 =>
 br (r13.1 != 0) (
 some (r13.1,())) (
 br (!(a0.2.1.toList==(⟨#[]⟩:ByteArray).toList)) (
 br (!(a0.2.2.1.toList==(⟨#[]⟩:ByteArray).toList)) (
 bd (bV.f lf a0.2.1 a0.2.2.1) fun r14 =>
 br (decide (r14.1 > 0)) (
 some (14,())) (
 some (0,()))) (
 some (0,()))) (
 some (0,())))))))
def E(lf:Nat):Entry:=⟨[yI],[(.int .i64)],fun x=>f lf x.1⟩
theorem ok(lf:Nat):Ok 124 (E lf):=okT (an:=(annsL [])) (lf:=lf) (tC (dW.ok lf) (tC (bV.ok lf) tN)) aoN fun x=>by kernel_rfl
end aJ
namespace mG
def f(lf:Nat)(a0:TI)(a1:ByteArray):Option (Bool×Int×Unit) :=
 bd (aJ.f lf a0) fun r1 =>
 br (r1.1 != 0) (
 some (false,r1.1,())) (
 bd (cu.f lf a1) fun r2 =>
 br (r2.1 != 0) (
 some (false,r2.1,())) (
 bd (aF.f lf a0) fun r3 =>
 bd (aT.f lf a1) fun r4 =>
 bd (aC.f lf r3.1.1 r4.1) fun r5 =>
 br (decide (r5.1≤0)) (
 bd (aC.f lf r4.1 r3.1.2.1) fun r6 =>
 some ((decide (r6.1≤0)),0,())) (
 some (false,0,()))))
def E(lf:Nat):Entry:=⟨[yI,.str],[.bool,(.int .i64)],fun x=>f lf x.1 x.2.1⟩
theorem ok(lf:Nat):Ok 210 (E lf):=okT (an:=(annsL [])) (lf:=lf) (tC (aF.ok lf) (tC (aC.ok lf) (tC (aT.ok lf) (tC (aJ.ok lf) (tC (cu.ok lf) tN))))) aoN fun x=>by kernel_rfl
end mG
namespace aA
def f(lf:Nat)(a0:TS):Option (Bool×Unit) :=
 bd (aC.f lf a0.1 a0.2.1) fun r1 =>
 some ((decide (r1.1 > 0)),())
def E(lf:Nat):Entry:=⟨[yS],[.bool],fun x=>f lf x.1⟩
theorem ok(lf:Nat):Ok 80 (E lf):=okT (an:=(annsL [])) (lf:=lf) (tC (aC.ok lf) tN) aoN fun x=>by kernel_rfl
end aA
namespace nV
def f(lf:Nat)(a0:TI)(a1:TI):Option (Bool×Int×Unit) :=
 bd (aJ.f lf a0) fun r1 =>
 br (r1.1 != 0) (
 br (r1.1 != 0) (
 some (false,r1.1,())) (
 bd (aF.f lf a0) fun r2 =>
 bd (aF.f lf a1) fun r3 =>
 bd (aA.f lf r2.1) fun r4 =>
 br r4.1 (
 some (true,0,())) (
 bd (aC.f lf r3.1.1 r2.1.1) fun r5 =>
 br (decide (r5.1≤0)) (
 bd (aC.f lf r2.1.2.1 r3.1.2.1) fun r6 =>
 some ((decide (r6.1≤0)),0,())) (
 some (false,0,()))))) (
 bd (aJ.f lf a1) fun r7 =>
 br (r7.1 != 0) (
 br (r7.1 != 0) (
 some (false,r7.1,())) (
 bd (aF.f lf a0) fun r8 =>
 bd (aF.f lf a1) fun r9 =>
 bd (aA.f lf r8.1) fun r10 =>
 br r10.1 (
 some (true,0,())) (
 bd (aC.f lf r9.1.1 r8.1.1) fun r11 =>
 br (decide (r11.1≤0)) (
 bd (aC.f lf r8.1.2.1 r9.1.2.1) fun r12 =>
 some ((decide (r12.1≤0)),0,())) (
 some (false,0,()))))) (
 bd (aF.f lf a0) fun r13 =>
 bd (aF.f lf a1) fun r14 =>
 bd (aA.f lf r13.1) fun r15 =>
 br r15.1 (
 some (true,0,())) (
 bd (aC.f lf r14.1.1 r13.1.1) fun r16 =>
 br (decide (r16.1≤0)) (
 bd (aC.f lf r13.1.2.1 r14.1.2.1) fun r17 =>
 some ((decide (r17.1≤0)),0,())) (
 some (false,0,())))))
def E(lf:Nat):Entry:=⟨[yI,yI],[.bool,(.int .i64)],fun x=>f lf x.1 x.2.1⟩
theorem ok(lf:Nat):Ok 64 (E lf):=okT (an:=(annsL [])) (lf:=lf) (tC (aF.ok lf) (tC (aA.ok lf) (tC (aC.ok lf) (tC (aJ.ok lf) tN)))) aoN fun x=>by kernel_rfl
end nV
namespace gX
def f(lf:Nat)(a0:TX)(a1:TX):Option (TX×Unit) :=
 bd (aC.f lf a1 a0) fun r1 =>
 br (decide (r1.1 < 0)) (
 some (a1,())) (
 some (a0,()))
def E(lf:Nat):Entry:=⟨[yX,yX],[yX],fun x=>f lf x.1 x.2.1⟩
theorem ok(lf:Nat):Ok 128 (E lf):=okT (an:=(annsL [])) (lf:=lf) (tC (aC.ok lf) tN) aoN fun x=>by kernel_rfl
end gX
namespace jr
def f(lf:Nat)(a0:TX)(a1:TX):Option (TX×Unit) :=
 bd (aC.f lf a1 a0) fun r1 =>
 br (decide (r1.1 > 0)) (
 some (a1,())) (
 some (a0,()))
def E(lf:Nat):Entry:=⟨[yX,yX],[yX],fun x=>f lf x.1 x.2.1⟩
theorem ok(lf:Nat):Ok 129 (E lf):=okT (an:=(annsL [])) (lf:=lf) (tC (aC.ok lf) tN) aoN fun x=>by kernel_rfl
end jr
namespace aY
def f(lf:Nat)(a0:TS)(a1:TS):Option (TS×Unit) :=
 bd (aA.f lf a0) fun r1 =>
 br r1.1 (
 some (a1,())) (
 bd (aA.f lf a1) fun r2 =>
 br r2.1 (
 some (a0,())) (
 bd (gX.f lf a0.1 a1.1) fun r3 =>
 bd (jr.f lf a0.2.1 a1.2.1) fun r4 =>
 some ((r3.1,r4.1,()),())))
def E(lf:Nat):Entry:=⟨[yS,yS],[yS],fun x=>f lf x.1 x.2.1⟩
theorem ok(lf:Nat):Ok 81 (E lf):=okT (an:=(annsL [])) (lf:=lf) (tC (aA.ok lf) (tC (gX.ok lf) (tC (jr.ok lf) tN))) aoN fun x=>by kernel_rfl
end aY
namespace lN
def f(lf:Nat)(a0:TX):Option (ByteArray×Unit) :=
 br (a0.1 != 0) (
 some ((⟨#[]⟩:ByteArray),())) (
 bd (jL.f lf a0.2.1) fun r1 =>
 br (decide (r1.1 > 100)) (
 some ((⟨#[]⟩:ByteArray),())) (
 some (a0.2.1,())))
def E(lf:Nat):Entry:=⟨[yX],[.str],fun x=>f lf x.1⟩
theorem ok(lf:Nat):Ok 130 (E lf):=okT (an:=(annsL [])) (lf:=lf) (tC (jL.ok lf) tN) aoN fun x=>by kernel_rfl
end lN
namespace ah
def f(lf:Nat)(a0:TS):Option (TI×Unit) :=
 bd (aA.f lf a0) fun r1 =>
 br r1.1 (
 some ((true,(⟨#[]⟩:ByteArray),(⟨#[]⟩:ByteArray),()),())) (
 bd (lN.f lf a0.1) fun r2 =>
 bd (lN.f lf a0.2.1) fun r3 =>
 some ((false,r2.1,r3.1,()),()))
def E(lf:Nat):Entry:=⟨[yS],[yI],fun x=>f lf x.1⟩
theorem ok(lf:Nat):Ok 82 (E lf):=okT (an:=(annsL [])) (lf:=lf) (tC (aA.ok lf) (tC (lN.ok lf) tN)) aoN fun x=>by kernel_rfl
end ah
namespace mX
def f(lf:Nat)(a0:TI)(a1:TI):Option (TI×Int×Unit) :=
 bd (aJ.f lf a0) fun r1 =>
 br (r1.1 != 0) (
 br (r1.1 != 0) (
 some ((false,(⟨#[]⟩:ByteArray),(⟨#[]⟩:ByteArray),()),r1.1,())) (
 bd (aF.f lf a0) fun r2 =>
 bd (aF.f lf a1) fun r3 =>
 bd (aY.f lf r2.1 r3.1) fun r4 =>
 bd (ah.f lf r4.1) fun r5 =>
 some (r5.1,0,()))) (
 bd (aJ.f lf a1) fun r6 =>
 br (r6.1 != 0) (
 br (r6.1 != 0) (
 some ((false,(⟨#[]⟩:ByteArray),(⟨#[]⟩:ByteArray),()),r6.1,())) (
 bd (aF.f lf a0) fun r7 =>
 bd (aF.f lf a1) fun r8 =>
 bd (aY.f lf r7.1 r8.1) fun r9 =>
 bd (ah.f lf r9.1) fun r10 =>
 some (r10.1,0,()))) (
 bd (aF.f lf a0) fun r11 =>
 bd (aF.f lf a1) fun r12 =>
 bd (aY.f lf r11.1 r12.1) fun r13 =>
 bd (ah.f lf r13.1) fun r14 =>
 some (r14.1,0,())))
def E(lf:Nat):Entry:=⟨[yI,yI],[yI,(.int .i64)],fun x=>f lf x.1 x.2.1⟩
theorem ok(lf:Nat):Ok 69 (E lf):=okT (an:=(annsL [])) (lf:=lf) (tC (aF.ok lf) (tC (aY.ok lf) (tC (ah.ok lf) (tC (aJ.ok lf) tN)))) aoN fun x=>by kernel_rfl
end mX
namespace dG
def f(lf:Nat)(a0:TS)(a1:TS):Option (TS×Unit) :=
 bd (jr.f lf a0.1 a1.1) fun r1 =>
 bd (gX.f lf a0.2.1 a1.2.1) fun r2 =>
 some ((r1.1,r2.1,()),())
def E(lf:Nat):Entry:=⟨[yS,yS],[yS],fun x=>f lf x.1 x.2.1⟩
theorem ok(lf:Nat):Ok 119 (E lf):=okT (an:=(annsL [])) (lf:=lf) (tC (gX.ok lf) (tC (jr.ok lf) tN)) aoN fun x=>by kernel_rfl
end dG
namespace mZ
def f(lf:Nat)(a0:TI)(a1:TI):Option (TI×Int×Unit) :=
 bd (aJ.f lf a0) fun r1 =>
 br (r1.1 != 0) (
 br (r1.1 != 0) (
 some ((false,(⟨#[]⟩:ByteArray),(⟨#[]⟩:ByteArray),()),r1.1,())) (
 bd (aF.f lf a0) fun r2 =>
 bd (aF.f lf a1) fun r3 =>
 bd (dG.f lf r2.1 r3.1) fun r4 =>
 bd (ah.f lf r4.1) fun r5 =>
 some (r5.1,0,()))) (
 bd (aJ.f lf a1) fun r6 =>
 br (r6.1 != 0) (
 br (r6.1 != 0) (
 some ((false,(⟨#[]⟩:ByteArray),(⟨#[]⟩:ByteArray),()),r6.1,())) (
 bd (aF.f lf a0) fun r7 =>
 bd (aF.f lf a1) fun r8 =>
 bd (dG.f lf r7.1 r8.1) fun r9 =>
 bd (ah.f lf r9.1) fun r10 =>
 some (r10.1,0,()))) (
 bd (aF.f lf a0) fun r11 =>
 bd (aF.f lf a1) fun r12 =>
 bd (dG.f lf r11.1 r12.1) fun r13 =>
 bd (ah.f lf r13.1) fun r14 =>
 some (r14.1,0,())))
def E(lf:Nat):Entry:=⟨[yI,yI],[yI,(.int .i64)],fun x=>f lf x.1 x.2.1⟩
theorem ok(lf:Nat):Ok 73 (E lf):=okT (an:=(annsL [])) (lf:=lf) (tC (aF.ok lf) (tC (ah.ok lf) (tC (dG.ok lf) (tC (aJ.ok lf) tN)))) aoN fun x=>by kernel_rfl
end mZ
end
end Go.Q
