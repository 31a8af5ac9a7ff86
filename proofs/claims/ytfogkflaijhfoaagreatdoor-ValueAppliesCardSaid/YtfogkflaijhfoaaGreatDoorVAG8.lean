import Derived.Test.YtfogkflaijhfoaaGreatDoorProg
import Derived.KernelRfl
import Derived.Test.YtfogkflaijhfoaaGreatDoorVAE3
import Derived.Test.YtfogkflaijhfoaaGreatDoorVAG4
import Derived.Test.YtfogkflaijhfoaaGreatDoorVAG5
set_option linter.unusedVariables false
set_option linter.unusedSimpArgs false
set_option linter.unusedSectionVars false
set_option maxRecDepth 100000
namespace Go.Q
open Go Go.RowKit
open Go.Rx (br bd sIdx sCat sCut iQuo iRem)
noncomputable section
namespace mV
def f(lf:Nat)(a0:TI)(a1:TI):Option (Bool×Unit) :=
 br (decide (((a0.2.1.size:Nat):Int)≤450)) (
 br (decide (((a0.2.2.1.size:Nat):Int)≤450)) (
 br (decide (((a1.2.1.size:Nat):Int)≤450)) (
 some ((decide (((a1.2.2.1.size:Nat):Int)≤450)),())) (
 some (false,()))) (
 some (false,()))) (
 some (false,()))
def E(lf:Nat):Entry:=⟨[yI,yI],[.bool],fun x=>f lf x.1 x.2.1⟩
theorem ok(lf:Nat):Ok 105 (E lf):=okT (an:=(annsL [])) (lf:=lf) tN aoN fun x=>by kernel_rfl
end mV
namespace aA
def f(lf:Nat)  : Option (TI×Unit) :=
 some ((true,(⟨#[]⟩:ByteArray),(⟨#[]⟩:ByteArray),()),())
def E(lf:Nat):Entry:=⟨[],[yI],fun x=>f lf⟩
theorem ok(lf:Nat):Ok 212 (E lf):=okT (an:=(annsL [])) (lf:=lf) tN aoN fun x=>by kernel_rfl
end aA
namespace iJ
def f(lf:Nat)(a0:ByteArray):Option (Int×Unit) :=
 br (a0.toList==(⟨#[]⟩:ByteArray).toList) (
 some (0,())) (
 bd (kK.f lf a0) fun r1 =>
 some (r1.1,()))
def E(lf:Nat):Entry:=⟨[.str],[(.int .i64)],fun x=>f lf x.1⟩
theorem ok(lf:Nat):Ok 232 (E lf):=okT (an:=(annsL [])) (lf:=lf) (tC (kK.ok lf) tN) aoN fun x=>by kernel_rfl
end iJ
namespace jS
def f(lf:Nat)(a0:TI):Option (Int×Unit) :=
 br a0.1 (
 br (!(a0.2.1.toList==(⟨#[]⟩:ByteArray).toList)) (
 some (3,())) (
 br (!(a0.2.2.1.toList==(⟨#[]⟩:ByteArray).toList)) (
 some (3,())) (
 bd (iJ.f lf a0.2.1) fun r1 =>
 br (r1.1 != 0) (
 some (r1.1,())) (
 bd (iJ.f lf a0.2.2.1) fun r2 =>
 br (r2.1 != 0) (
 some (r2.1,())) (
 br (!(a0.2.1.toList==(⟨#[]⟩:ByteArray).toList)) (
 br (!(a0.2.2.1.toList==(⟨#[]⟩:ByteArray).toList)) (
 bd (aJ.f lf a0.2.2.1 a0.2.1) fun r3 =>
 br r3.1 (
 some (14,())) (
 some (0,()))) (
 some (0,()))) (
 some (0,()))))))) (
 bd (iJ.f lf a0.2.1) fun r4 =>
 br (r4.1 != 0) (
 some (r4.1,())) (
 bd (iJ.f lf a0.2.2.1) fun r5 =>
 br (r5.1 != 0) (
 some (r5.1,())) (
 br (!(a0.2.1.toList==(⟨#[]⟩:ByteArray).toList)) (
 br (!(a0.2.2.1.toList==(⟨#[]⟩:ByteArray).toList)) (
 bd (aJ.f lf a0.2.2.1 a0.2.1) fun r6 =>
 br r6.1 (
 some (14,())) (
 some (0,()))) (
 some (0,()))) (
 some (0,())))))
def E(lf:Nat):Entry:=⟨[yI],[(.int .i64)],fun x=>f lf x.1⟩
theorem ok(lf:Nat):Ok 120 (E lf):=okT (an:=(annsL [])) (lf:=lf) (tC (aJ.ok lf) (tC (iJ.ok lf) tN)) aoN fun x=>by kernel_rfl
end jS
namespace ou
def f(lf:Nat)(a0:TI)(a1:ByteArray):Option (Bool×Unit) :=
 br (!a0.1) (
 br (a0.2.1.toList==(⟨#[]⟩:ByteArray).toList) (
 br (a0.2.2.1.toList==(⟨#[]⟩:ByteArray).toList) (
 some (true,())) (
 bd (aJ.f lf a0.2.2.1 a1) fun r1 =>
 some ((!r1.1),()))) (
 bd (aJ.f lf a1 a0.2.1) fun r2 =>
 br (!r2.1) (
 br (a0.2.2.1.toList==(⟨#[]⟩:ByteArray).toList) (
 some (true,())) (
 bd (aJ.f lf a0.2.2.1 a1) fun r3 =>
 some ((!r3.1),()))) (
 some (false,())))) (
 some (false,()))
def E(lf:Nat):Entry:=⟨[yI,.str],[.bool],fun x=>f lf x.1 x.2.1⟩
theorem ok(lf:Nat):Ok 180 (E lf):=okT (an:=(annsL [])) (lf:=lf) (tC (aJ.ok lf) tN) aoN fun x=>by kernel_rfl
end ou
namespace gm
def f(lf:Nat)(a0:ByteArray):Option (ByteArray×Unit) :=
 br (!(a0.toList==(⟨#[]⟩:ByteArray).toList)) (
 bd (bn.f lf a0) fun r1 =>
 br (decide (r1.1 > 100)) (
 some ((⟨#[]⟩:ByteArray),())) (
 some (a0,()))) (
 some (a0,()))
def E(lf:Nat):Entry:=⟨[.str],[.str],fun x=>f lf x.1⟩
theorem ok(lf:Nat):Ok 317 (E lf):=okT (an:=(annsL [])) (lf:=lf) (tC (bn.ok lf) tN) aoN fun x=>by kernel_rfl
end gm
namespace ax
def f(lf:Nat)(a0:ByteArray)(a1:ByteArray):Option (TI×Unit) :=
 br (!(a0.toList==(⟨#[]⟩:ByteArray).toList)) (
 br (!(a1.toList==(⟨#[]⟩:ByteArray).toList)) (
 bd (aJ.f lf a1 a0) fun r1 =>
 br r1.1 (
 bd (aA.f lf) fun r2 =>
 some (r2.1,())) (
 bd (gm.f lf a0) fun r3 =>
 bd (gm.f lf a1) fun r4 =>
 some ((false,r3.1,r4.1,()),()))) (
 bd (gm.f lf a0) fun r5 =>
 bd (gm.f lf a1) fun r6 =>
 some ((false,r5.1,r6.1,()),()))) (
 bd (gm.f lf a0) fun r7 =>
 bd (gm.f lf a1) fun r8 =>
 some ((false,r7.1,r8.1,()),()))
def E(lf:Nat):Entry:=⟨[.str,.str],[yI],fun x=>f lf x.1 x.2.1⟩
theorem ok(lf:Nat):Ok 235 (E lf):=okT (an:=(annsL [])) (lf:=lf) (tC (aJ.ok lf) (tC (aA.ok lf) (tC (gm.ok lf) tN))) aoN fun x=>by kernel_rfl
end ax
namespace eU
def f(lf:Nat)(a0:ByteArray)(a1:ByteArray):Option (ByteArray×Unit) :=
 br (a0.toList==(⟨#[]⟩:ByteArray).toList) (
 some ((⟨#[]⟩:ByteArray),())) (
 br (a1.toList==(⟨#[]⟩:ByteArray).toList) (
 some ((⟨#[]⟩:ByteArray),())) (
 bd (dB.f lf a0 a1) fun r1 =>
 some (r1.1,())))
def E(lf:Nat):Entry:=⟨[.str,.str],[.str],fun x=>f lf x.1 x.2.1⟩
theorem ok(lf:Nat):Ok 296 (E lf):=okT (an:=(annsL [])) (lf:=lf) (tC (dB.ok lf) tN) aoN fun x=>by kernel_rfl
end eU
namespace jD
def f(lf:Nat)(a0:TI)(a1:TI):Option (TI×Unit) :=
 br a0.1 (
 bd (aA.f lf) fun r1 =>
 some (r1.1,())) (
 br a1.1 (
 bd (aA.f lf) fun r2 =>
 some (r2.1,())) (
 bd (eU.f lf a0.2.1 a1.2.1) fun r3 =>
 bd (eU.f lf a0.2.2.1 a1.2.2.1) fun r4 =>
 bd (ax.f lf r3.1 r4.1) fun r5 =>
 some (r5.1,())))
def E(lf:Nat):Entry:=⟨[yI,yI],[yI],fun x=>f lf x.1 x.2.1⟩
theorem ok(lf:Nat):Ok 216 (E lf):=okT (an:=(annsL [])) (lf:=lf) (tC (aA.ok lf) (tC (ax.ok lf) (tC (eU.ok lf) tN))) aoN fun x=>by kernel_rfl
end jD
namespace jr
def f(lf:Nat)(a0:ByteArray):Option (ByteArray×Unit) :=
 br (a0.toList==(⟨#[]⟩:ByteArray).toList) (
 some ((⟨#[]⟩:ByteArray),())) (
 bd (di.f lf a0) fun r1 =>
 some (r1.1,()))
def E(lf:Nat):Entry:=⟨[.str],[.str],fun x=>f lf x.1⟩
theorem ok(lf:Nat):Ok 330 (E lf):=okT (an:=(annsL [])) (lf:=lf) (tC (di.ok lf) tN) aoN fun x=>by kernel_rfl
end jr
namespace bI
def f(lf:Nat)(a0:TI):Option (TI×Unit) :=
 br a0.1 (
 some (a0,())) (
 bd (jr.f lf a0.2.2.1) fun r1 =>
 bd (jr.f lf a0.2.1) fun r2 =>
 bd (ax.f lf r1.1 r2.1) fun r3 =>
 some (r3.1,()))
def E(lf:Nat):Entry:=⟨[yI],[yI],fun x=>f lf x.1⟩
theorem ok(lf:Nat):Ok 257 (E lf):=okT (an:=(annsL [])) (lf:=lf) (tC (ax.ok lf) (tC (jr.ok lf) tN)) aoN fun x=>by kernel_rfl
end bI
namespace lH
def f(lf:Nat)(a0:TI)(a1:TI):Option (TI×Unit) :=
 bd (bI.f lf a1) fun r1 =>
 bd (jD.f lf a0 r1.1) fun r2 =>
 some (r2.1,())
def E(lf:Nat):Entry:=⟨[yI,yI],[yI],fun x=>f lf x.1 x.2.1⟩
theorem ok(lf:Nat):Ok 218 (E lf):=okT (an:=(annsL [])) (lf:=lf) (tC (jD.ok lf) (tC (bI.ok lf) tN)) aoN fun x=>by kernel_rfl
end lH
namespace jg
def f(lf:Nat)(a0:ByteArray)(a1:ByteArray):Option (ByteArray×Unit) :=
 br (a0.toList==(⟨#[]⟩:ByteArray).toList) (
 some ((⟨#[]⟩:ByteArray),())) (
 br (a1.toList==(⟨#[]⟩:ByteArray).toList) (
 some ((⟨#[]⟩:ByteArray),())) (
 bd (aJ.f lf a1 a0) fun r1 =>
 br r1.1 (
 some (a1,())) (
 some (a0,()))))
def E(lf:Nat):Entry:=⟨[.str,.str],[.str],fun x=>f lf x.1 x.2.1⟩
theorem ok(lf:Nat):Ok 325 (E lf):=okT (an:=(annsL [])) (lf:=lf) (tC (aJ.ok lf) tN) aoN fun x=>by kernel_rfl
end jg
namespace iq
def f(lf:Nat)(a0:ByteArray)(a1:ByteArray):Option (ByteArray×Unit) :=
 br (a0.toList==(⟨#[]⟩:ByteArray).toList) (
 some ((⟨#[]⟩:ByteArray),())) (
 br (a1.toList==(⟨#[]⟩:ByteArray).toList) (
 some ((⟨#[]⟩:ByteArray),())) (
 bd (aJ.f lf a0 a1) fun r1 =>
 br r1.1 (
 some (a1,())) (
 some (a0,()))))
def E(lf:Nat):Entry:=⟨[.str,.str],[.str],fun x=>f lf x.1 x.2.1⟩
theorem ok(lf:Nat):Ok 326 (E lf):=okT (an:=(annsL [])) (lf:=lf) (tC (aJ.ok lf) tN) aoN fun x=>by kernel_rfl
end iq
namespace dF
def f(lf:Nat)(a0:TI)(a1:TI):Option (TI×Unit) :=
 br a0.1 (
 some (a1,())) (
 br a1.1 (
 some (a0,())) (
 bd (jg.f lf a0.2.1 a1.2.1) fun r1 =>
 bd (iq.f lf a0.2.2.1 a1.2.2.1) fun r2 =>
 bd (ax.f lf r1.1 r2.1) fun r3 =>
 some (r3.1,())))
def E(lf:Nat):Entry:=⟨[yI,yI],[yI],fun x=>f lf x.1 x.2.1⟩
theorem ok(lf:Nat):Ok 251 (E lf):=okT (an:=(annsL [])) (lf:=lf) (tC (ax.ok lf) (tC (jg.ok lf) (tC (iq.ok lf) tN))) aoN fun x=>by kernel_rfl
end dF
namespace dD
def f(lf:Nat)(a0:ByteArray)(a1:ByteArray):Option (ByteArray×Unit) :=
 br (a0.toList==(⟨#[]⟩:ByteArray).toList) (
 some (a1,())) (
 br (a1.toList==(⟨#[]⟩:ByteArray).toList) (
 some (a0,())) (
 bd (jg.f lf a0 a1) fun r1 =>
 some (r1.1,())))
def E(lf:Nat):Entry:=⟨[.str,.str],[.str],fun x=>f lf x.1 x.2.1⟩
theorem ok(lf:Nat):Ok 315 (E lf):=okT (an:=(annsL [])) (lf:=lf) (tC (jg.ok lf) tN) aoN fun x=>by kernel_rfl
end dD
namespace dV
def f(lf:Nat)(a0:ByteArray)(a1:ByteArray):Option (ByteArray×Unit) :=
 br (a0.toList==(⟨#[]⟩:ByteArray).toList) (
 some (a1,())) (
 br (a1.toList==(⟨#[]⟩:ByteArray).toList) (
 some (a0,())) (
 bd (iq.f lf a0 a1) fun r1 =>
 some (r1.1,())))
def E(lf:Nat):Entry:=⟨[.str,.str],[.str],fun x=>f lf x.1 x.2.1⟩
theorem ok(lf:Nat):Ok 316 (E lf):=okT (an:=(annsL [])) (lf:=lf) (tC (iq.ok lf) tN) aoN fun x=>by kernel_rfl
end dV
namespace fF
def f(lf:Nat)(a0:TI)(a1:TI):Option (TI×Unit) :=
 br a0.1 (
 bd (aA.f lf) fun r1 =>
 some (r1.1,())) (
 br a1.1 (
 bd (aA.f lf) fun r2 =>
 some (r2.1,())) (
 bd (dV.f lf a0.2.1 a1.2.1) fun r3 =>
 bd (dD.f lf a0.2.2.1 a1.2.2.1) fun r4 =>
 bd (ax.f lf r3.1 r4.1) fun r5 =>
 some (r5.1,())))
def E(lf:Nat):Entry:=⟨[yI,yI],[yI],fun x=>f lf x.1 x.2.1⟩
theorem ok(lf:Nat):Ok 254 (E lf):=okT (an:=(annsL [])) (lf:=lf) (tC (aA.ok lf) (tC (ax.ok lf) (tC (dD.ok lf) (tC (dV.ok lf) tN)))) aoN fun x=>by kernel_rfl
end fF
namespace jo
def f(lf:Nat)(a0:ByteArray):Option (TI×Unit) :=
 bd (ax.f lf a0 a0) fun r1 =>
 some (r1.1,())
def E(lf:Nat):Entry:=⟨[.str],[yI],fun x=>f lf x.1⟩
theorem ok(lf:Nat):Ok 300 (E lf):=okT (an:=(annsL [])) (lf:=lf) (tC (ax.ok lf) tN) aoN fun x=>by kernel_rfl
end jo
namespace fC
def f(lf:Nat)(a0:TI):Option ((List TI)×Unit) :=
 bd (ax.f lf (⟨#[]⟩:ByteArray) (⟨#[45,49]⟩:ByteArray)) fun r1 =>
 bd (fF.f lf a0 r1.1) fun r2 =>
 bd (jo.f lf (⟨#[48]⟩:ByteArray)) fun r3 =>
 bd (fF.f lf a0 r3.1) fun r4 =>
 bd (ax.f lf (⟨#[49]⟩:ByteArray) (⟨#[]⟩:ByteArray)) fun r5 =>
 bd (fF.f lf a0 r5.1) fun r6 =>
 some ([r2.1,r4.1,r6.1],())
def E(lf:Nat):Entry:=⟨[yI],[(.sl yI)],fun x=>f lf x.1⟩
theorem ok(lf:Nat):Ok 299 (E lf):=okT (an:=(annsL [])) (lf:=lf) (tC (ax.ok lf) (tC (fF.ok lf) (tC (jo.ok lf) tN))) aoN fun x=>by kernel_rfl
end fC
namespace jv
def f(lf:Nat)(a0:TI)(a1:TI):Option (TI×Unit) :=
 br (!(a0.2.2.1.toList==(⟨#[]⟩:ByteArray).toList)) (
 br (!(a1.2.2.1.toList==(⟨#[]⟩:ByteArray).toList)) (
 bd (aX.f lf a0.2.2.1 a1.2.2.1) fun r1 =>
 bd (aX.f lf a0.2.1 a1.2.1) fun r2 =>
 bd (ax.f lf r2.1 r1.1) fun r3 =>
 some (r3.1,())) (
 bd (aX.f lf a0.2.1 a1.2.1) fun r4 =>
 bd (ax.f lf r4.1 (⟨#[]⟩:ByteArray)) fun r5 =>
 some (r5.1,()))) (
 bd (aX.f lf a0.2.1 a1.2.1) fun r6 =>
 bd (ax.f lf r6.1 (⟨#[]⟩:ByteArray)) fun r7 =>
 some (r7.1,()))
def E(lf:Nat):Entry:=⟨[yI,yI],[yI],fun x=>f lf x.1 x.2.1⟩
theorem ok(lf:Nat):Ok 301 (E lf):=okT (an:=(annsL [])) (lf:=lf) (tC (aX.ok lf) (tC (ax.ok lf) tN)) aoN fun x=>by kernel_rfl
end jv
namespace fU
def f(lf:Nat)(a0:TI)(a1:Int):Option (TI×Unit) :=
 br (a1==0) (
 bd (bI.f lf a0) fun r1 =>
 some (r1.1,())) (
 some (a0,()))
def E(lf:Nat):Entry:=⟨[yI,(.int .i64)],[yI],fun x=>f lf x.1 x.2.1⟩
theorem ok(lf:Nat):Ok 302 (E lf):=okT (an:=(annsL [])) (lf:=lf) (tC (bI.ok lf) tN) aoN fun x=>by kernel_rfl
end fU
end
end Go.Q
namespace Go.Q
open Go.IntKind (i64)
open Go Go.RowKit
open Go.Rx (br bd sIdx sCat sCut iQuo iRem)
noncomputable section
namespace cO
def anns:FuncId→FA:=annsL [(220,⟨annOf [(0,⟨kx 65 [4,5,6,7,8],[],[0,1]⟩,⟨kx 65 [4,5],[],[0,1]⟩),(1,⟨kx 65 [4,5,6,7,8,9],[],[]⟩,⟨kx 65 [4,5,6,7,8],[],[]⟩)],none,[]⟩)]
def r1{ρ:Type}(lf:Nat)(v0 v1:List TI)(v2:Int)(v4:Bool)(v5 v6:ByteArray)(v3:Int)(v7:Bool)(v8 v9:ByteArray)(K:Int→Bool→ByteArray→ByteArray→Option ρ)(E0:Bool→ByteArray→ByteArray→Option ρ):Option ρ :=
 br (decide (v3 < 3)) (
 bd (idxL v0 v2) fun y4 =>
 br y4.1 (
 K (i64.wrap (v3+1)) v7 v8 v9) (
 bd (idxL v1 v3) fun y5 =>
 br y5.1 (
 K (i64.wrap (v3+1)) v7 v8 v9) (
 bd (jo.f lf (⟨#[48]⟩:ByteArray)) fun r6 =>
 br (v2 != 1) (
 br (v3 != 1) (
 bd (idxL v0 v2) fun y7 =>
 bd (fU.f lf y7 v2) fun r8 =>
 bd (idxL v1 v3) fun y9 =>
 bd (fU.f lf y9 v3) fun r10 =>
 bd (jv.f lf r8.1 r10.1) fun r11 =>
 br (v2 != v3) (
 bd (bI.f lf r11.1) fun r12 =>
 bd (dF.f lf (v7,v8,v9,()) r12.1) fun r13 =>
 K (i64.wrap (v3+1)) r13.1.1 r13.1.2.1 r13.1.2.2.1) (
 bd (dF.f lf (v7,v8,v9,()) r11.1) fun r14 =>
 K (i64.wrap (v3+1)) r14.1.1 r14.1.2.1 r14.1.2.2.1)) (
 bd (dF.f lf (v7,v8,v9,()) r6.1) fun r15 =>
 K (i64.wrap (v3+1)) r15.1.1 r15.1.2.1 r15.1.2.2.1)) (
 bd (dF.f lf (v7,v8,v9,()) r6.1) fun r16 =>
 K (i64.wrap (v3+1)) r16.1.1 r16.1.2.1 r16.1.2.2.1)))) (
 E0 v7 v8 v9)
def l1(lf:Nat)(v0 v1:List TI)(v2:Int)(v4:Bool)(v5 v6:ByteArray):Nat→Int→Bool→ByteArray→ByteArray→Option ((Bool×ByteArray×ByteArray×Unit)×Unit)
 | 0,_,_,_,_=>none
 | n+1,v3,v7,v8,v9=>r1 lf v0 v1 v2 v4 v5 v6 v3 v7 v8 v9 (l1 lf v0 v1 v2 v4 v5 v6 n) (fun w0 w1 w2=>some ((w0,w1,w2,()),()))
def sh1:ShS:=⟨[.a 4,.s (.ptr 2 0),.s (.ptr 3 0),.s (.sl yI),.s (.sl yI),.s (.int .i64),.s (.int .i64),.a 55],[.gone,.gone,.cells [.s .bool,.s .str,.s .str] 37,.cells [.s .bool,.s .str,.s .str] 37]⟩
def S1(p:(List TI)×(List TI)×Int×Int×Bool×ByteArray×ByteArray×Bool×ByteArray×ByteArray×Unit):St:=sh1.b p
def xh0:ShS:=⟨[.a 4,.s (.ptr 2 0),.s (.ptr 3 0),.s (.sl yI),.s (.sl yI),.s (.int .i64),.a 56],[.gone,.gone,.cells [.s .bool,.s .str,.s .str] 37,.cells [.s .bool,.s .str,.s .str] 37]⟩
def o1(v0 v1:List TI)(v2:Int)(v4:Bool)(v5 v6:ByteArray)(y:(Bool×ByteArray×ByteArray×Unit)×Unit):Alt:=.one (.exit 2) (xh0.b (v0,v1,v2,v4,v5,v6,y.1.1,y.1.2.1,y.1.2.2.1,()))
def r0{ρ:Type}(lf:Nat)(v0 v1:List TI)(v3:Bool)(v4 v5:ByteArray)(v2:Int)(v6:Bool)(v7 v8:ByteArray)(K:Int→Bool→ByteArray→ByteArray→Option ρ)(E0:Bool→ByteArray→ByteArray→Option ρ):Option ρ :=
 br (decide (v2 < 3)) (
 bd (l1 lf v0 v1 v2 v3 v4 v5 (lf+40) 0 v6 v7 v8) fun z17 =>
 K (i64.wrap (v2+1)) z17.1.1 z17.1.2.1 z17.1.2.2.1) (
 E0 v6 v7 v8)
def l0(lf:Nat)(v0 v1:List TI)(v3:Bool)(v4 v5:ByteArray):Nat→Int→Bool→ByteArray→ByteArray→Option ((Bool×ByteArray×ByteArray×Unit)×Unit)
 | 0,_,_,_,_=>none
 | n+1,v2,v6,v7,v8=>r0 lf v0 v1 v3 v4 v5 v2 v6 v7 v8 (l0 lf v0 v1 v3 v4 v5 n) (fun w0 w1 w2=>some ((w0,w1,w2,()),()))
def sh0:ShS:=⟨[.a 4,.s (.ptr 2 0),.s (.ptr 3 0),.s (.sl yI),.s (.sl yI),.s (.int .i64),.a 56],[.gone,.gone,.cells [.s .bool,.s .str,.s .str] 37,.cells [.s .bool,.s .str,.s .str] 37]⟩
def S0(p:(List TI)×(List TI)×Int×Bool×ByteArray×ByteArray×Bool×ByteArray×ByteArray×Unit):St:=sh0.b p
def xh1:ShS:=⟨[.a 4,.s (.ptr 2 0),.s (.ptr 3 0),.a 59],[.gone,.gone,.cells [.s .bool,.s .str,.s .str] 37,.cells [.s .bool,.s .str,.s .str] 37]⟩
def o0(v0 v1:List TI)(v3:Bool)(v4 v5:ByteArray)(y:(Bool×ByteArray×ByteArray×Unit)×Unit):Alt:=.one (.exit 0) (xh1.b (v3,v4,v5,y.1.1,y.1.2.1,y.1.2.2.1,()))
def tb(lf:Nat):List (FuncId×Entry):=[(212,aA.E lf),(251,dF.E lf),(257,bI.E lf),(299,fC.E lf),(300,jo.E lf),(301,jv.E lf),(302,fU.E lf)]
def aeC(lf:Nat):List (Nat×(St→Option LTE)):=[(0,sumE sh0 fun(p:(List TI)×(List TI)×Int×Bool×ByteArray×ByteArray×Bool×ByteArray×ByteArray×Unit)=>⟨(Bool×ByteArray×ByteArray×Unit)×Unit,l0 lf p.1 p.2.1 p.2.2.2.1 p.2.2.2.2.1 p.2.2.2.2.2.1 (lf+40) p.2.2.1 p.2.2.2.2.2.2.1 p.2.2.2.2.2.2.2.1 p.2.2.2.2.2.2.2.2.1,o0 p.1 p.2.1 p.2.2.2.1 p.2.2.2.2.1 p.2.2.2.2.2.1⟩),
 (1,sumE sh1 fun(p:(List TI)×(List TI)×Int×Int×Bool×ByteArray×ByteArray×Bool×ByteArray×ByteArray×Unit)=>⟨(Bool×ByteArray×ByteArray×Unit)×Unit,l1 lf p.1 p.2.1 p.2.2.1 p.2.2.2.2.1 p.2.2.2.2.2.1 p.2.2.2.2.2.2.1 (lf+40) p.2.2.2.1 p.2.2.2.2.2.2.2.1 p.2.2.2.2.2.2.2.2.1 p.2.2.2.2.2.2.2.2.2.1,o1 p.1 p.2.1 p.2.2.1 p.2.2.2.2.1 p.2.2.2.2.2.1 p.2.2.2.2.2.2.1⟩)]
def ls(lf:Nat):List (Nat×FuncId×Sums):=[(13,220,sumsL (aeC lf))]
def it1{ρ:Type}(lf n:Nat)(st:St)(k:KE ρ):Option ρ:=itG anns (ls lf) (tb lf) lf 13 220 1 4 (sumsL (aeC lf)) n st k
theorem t1{ρ:Type}(lf n:Nat)(v0 v1:List TI)(v2 v3:Int)(v4:Bool)(v5 v6:ByteArray)(v7:Bool)(v8 v9:ByteArray)(k:KE ρ):it1 lf (n+1) (S1 (v0,v1,v2,v3,v4,v5,v6,v7,v8,v9,())) k=r1 lf v0 v1 v2 v4 v5 v6 v3 v7 v8 v9 (fun x0 x1 x2 x3=>it1 lf n (S1 (v0,v1,v2,x0,v4,v5,v6,x1,x2,x3,())) k) (fun w0 w1 w2=>k (.exit 2) (xh0.b (v0,v1,v2,v4,v5,v6,w0,w1,w2,()))):=by kernel_rfl
theorem u1{ρ:Type}(lf:Nat)(v0 v1:List TI)(v2:Int)(v4:Bool)(v5 v6:ByteArray)(k:KE ρ):∀ (n:Nat) (v3:Int) (v7:Bool) (v8 v9:ByteArray),it1 lf n (S1 (v0,v1,v2,v3,v4,v5,v6,v7,v8,v9,())) k=bd (l1 lf v0 v1 v2 v4 v5 v6 n v3 v7 v8 v9) fun y=>altK k (o1 v0 v1 v2 v4 v5 v6 y)
 | 0,_,_,_,_=>by rw[l1,aU];rfl
 | n+1,v3,v7,v8,v9=>by
  rw[t1];simp only[l1,r1,u1 lf v0 v1 v2 v4 v5 v6 k n,iD,iC,bW,aU,br_t,br_f,o1,altK]
def it0{ρ:Type}(lf n:Nat)(st:St)(k:KE ρ):Option ρ:=itG anns (ls lf) (tb lf) lf 13 220 0 4 (sumsL (aeC lf)) n st k
theorem t0{ρ:Type}(lf n:Nat)(v0 v1:List TI)(v2:Int)(v3:Bool)(v4 v5:ByteArray)(v6:Bool)(v7 v8:ByteArray)(k:KE ρ):it0 lf (n+1) (S0 (v0,v1,v2,v3,v4,v5,v6,v7,v8,())) k=r0 lf v0 v1 v3 v4 v5 v2 v6 v7 v8 (fun x0 x1 x2 x3=>it0 lf n (S0 (v0,v1,x0,v3,v4,v5,x1,x2,x3,())) k) (fun w0 w1 w2=>k (.exit 0) (xh1.b (v3,v4,v5,w0,w1,w2,()))):=by kernel_rfl
theorem u0{ρ:Type}(lf:Nat)(v0 v1:List TI)(v3:Bool)(v4 v5:ByteArray)(k:KE ρ):∀ (n:Nat) (v2:Int) (v6:Bool) (v7 v8:ByteArray),it0 lf n (S0 (v0,v1,v2,v3,v4,v5,v6,v7,v8,())) k=bd (l0 lf v0 v1 v3 v4 v5 n v2 v6 v7 v8) fun y=>altK k (o0 v0 v1 v3 v4 v5 y)
 | 0,_,_,_,_=>by rw[l0,aU];rfl
 | n+1,v2,v6,v7,v8=>by
  rw[t0];simp only[l0,r0,u0 lf v0 v1 v3 v4 v5 k n,iD,iC,bW,aU,br_t,br_f,o0,altK]
theorem sl(lf:Nat):SL anns (ls lf) (tb lf) lf (ls lf):=slC (laC (fun _=>by kernel_rfl) (fun _ (x:(List TI)×(List TI)×Int×Bool×ByteArray×ByteArray×Bool×ByteArray×ByteArray×Unit) k=>dY (u0 lf x.1 x.2.1 x.2.2.2.1 x.2.2.2.2.1 x.2.2.2.2.2.1 k (lf+40) x.2.2.1 x.2.2.2.2.2.2.1 x.2.2.2.2.2.2.2.1 x.2.2.2.2.2.2.2.2.1)) (laC (fun _=>by kernel_rfl) (fun _ (x:(List TI)×(List TI)×Int×Int×Bool×ByteArray×ByteArray×Bool×ByteArray×ByteArray×Unit) k=>dY (u1 lf x.1 x.2.1 x.2.2.1 x.2.2.2.2.1 x.2.2.2.2.2.1 x.2.2.2.2.2.2.1 k (lf+40) x.2.2.2.1 x.2.2.2.2.2.2.2.1 x.2.2.2.2.2.2.2.2.1 x.2.2.2.2.2.2.2.2.2.1)) laN)) slN
def f(lf:Nat)(a0:TI)(a1:TI):Option (TI×Unit) :=
 bd (aA.f lf) fun r1 =>
 bd (fC.f lf a0) fun r2 =>
 bd (fC.f lf a1) fun r3 =>
 bd (l0 lf r2.1 r3.1 false (⟨#[]⟩:ByteArray) (⟨#[]⟩:ByteArray) (lf+40) 0 r1.1.1 r1.1.2.1 r1.1.2.2.1) fun z18 =>
 some (z18.1,())
def E(lf:Nat):Entry:=⟨[yI,yI],[yI],fun x=>f lf x.1 x.2.1⟩
theorem ok(lf:Nat):Ok 220 (E lf):=okL (tC (aA.ok lf) (tC (dF.ok lf) (tC (bI.ok lf) (tC (fC.ok lf) (tC (jo.ok lf) (tC (jv.ok lf) (tC (fU.ok lf) tN))))))) (aoC aoN) (sl lf) fun x=>by kernel_rfl
end cO
namespace iQ
def f(lf:Nat)(a0:TI)(a1:TI):Option (TI×Unit) :=
 br a0.1 (
 bd (aA.f lf) fun r1 =>
 some (r1.1,())) (
 br a1.1 (
 bd (aA.f lf) fun r2 =>
 some (r2.1,())) (
 br (!(a0.2.1.toList==(⟨#[]⟩:ByteArray).toList)) (
 bd (bK.f lf a0.2.1) fun r3 =>
 br (decide (r3.1 < 0)) (
 bd (aP.f lf a0.2.1 a1.2.1) fun r4 =>
 br (!(a0.2.2.1.toList==(⟨#[]⟩:ByteArray).toList)) (
 bd (bK.f lf a0.2.2.1) fun r5 =>
 br (decide (r5.1≥0)) (
 bd (aP.f lf a0.2.2.1 a1.2.1) fun r6 =>
 bd (ax.f lf r4.1 r6.1) fun r7 =>
 some (r7.1,())) (
 br (!(a1.2.2.1.toList==(⟨#[]⟩:ByteArray).toList)) (
 bd (aP.f lf a0.2.2.1 a1.2.2.1) fun r8 =>
 bd (ax.f lf r4.1 r8.1) fun r9 =>
 some (r9.1,())) (
 bd (ax.f lf r4.1 (⟨#[45,49]⟩:ByteArray)) fun r10 =>
 some (r10.1,())))) (
 bd (ax.f lf r4.1 a0.2.2.1) fun r11 =>
 some (r11.1,()))) (
 br (!(a1.2.2.1.toList==(⟨#[]⟩:ByteArray).toList)) (
 bd (aP.f lf a0.2.1 a1.2.2.1) fun r12 =>
 br (!(a0.2.2.1.toList==(⟨#[]⟩:ByteArray).toList)) (
 bd (bK.f lf a0.2.2.1) fun r13 =>
 br (decide (r13.1≥0)) (
 bd (aP.f lf a0.2.2.1 a1.2.1) fun r14 =>
 bd (ax.f lf r12.1 r14.1) fun r15 =>
 some (r15.1,())) (
 br (!(a1.2.2.1.toList==(⟨#[]⟩:ByteArray).toList)) (
 bd (aP.f lf a0.2.2.1 a1.2.2.1) fun r16 =>
 bd (ax.f lf r12.1 r16.1) fun r17 =>
 some (r17.1,())) (
 bd (ax.f lf r12.1 (⟨#[45,49]⟩:ByteArray)) fun r18 =>
 some (r18.1,())))) (
 bd (ax.f lf r12.1 a0.2.2.1) fun r19 =>
 some (r19.1,()))) (
 br (!(a0.2.2.1.toList==(⟨#[]⟩:ByteArray).toList)) (
 bd (bK.f lf a0.2.2.1) fun r20 =>
 br (decide (r20.1≥0)) (
 bd (aP.f lf a0.2.2.1 a1.2.1) fun r21 =>
 bd (ax.f lf (⟨#[48]⟩:ByteArray) r21.1) fun r22 =>
 some (r22.1,())) (
 br (!(a1.2.2.1.toList==(⟨#[]⟩:ByteArray).toList)) (
 bd (aP.f lf a0.2.2.1 a1.2.2.1) fun r23 =>
 bd (ax.f lf (⟨#[48]⟩:ByteArray) r23.1) fun r24 =>
 some (r24.1,())) (
 bd (ax.f lf (⟨#[48]⟩:ByteArray) (⟨#[45,49]⟩:ByteArray)) fun r25 =>
 some (r25.1,())))) (
 bd (ax.f lf (⟨#[48]⟩:ByteArray) a0.2.2.1) fun r26 =>
 some (r26.1,()))))) (
 br (!(a0.2.2.1.toList==(⟨#[]⟩:ByteArray).toList)) (
 bd (bK.f lf a0.2.2.1) fun r27 =>
 br (decide (r27.1≥0)) (
 bd (aP.f lf a0.2.2.1 a1.2.1) fun r28 =>
 bd (ax.f lf a0.2.1 r28.1) fun r29 =>
 some (r29.1,())) (
 br (!(a1.2.2.1.toList==(⟨#[]⟩:ByteArray).toList)) (
 bd (aP.f lf a0.2.2.1 a1.2.2.1) fun r30 =>
 bd (ax.f lf a0.2.1 r30.1) fun r31 =>
 some (r31.1,())) (
 bd (ax.f lf a0.2.1 (⟨#[45,49]⟩:ByteArray)) fun r32 =>
 some (r32.1,())))) (
 bd (ax.f lf a0.2.1 a0.2.2.1) fun r33 =>
 some (r33.1,())))))
def E(lf:Nat):Entry:=⟨[yI,yI],[yI],fun x=>f lf x.1 x.2.1⟩
theorem ok(lf:Nat):Ok 303 (E lf):=okT (an:=(annsL [])) (lf:=lf) (tC (aP.ok lf) (tC (bK.ok lf) (tC (aA.ok lf) (tC (ax.ok lf) tN)))) aoN fun x=>by kernel_rfl
end iQ
namespace mr
def f(lf:Nat)(a0:TI)(a1:TI):Option (TI×Unit) :=
 bd (fC.f lf a1) fun r1 =>
 bd (idxL r1.1 2) fun y2 =>
 bd (iQ.f lf a0 y2) fun r3 =>
 bd (bI.f lf a0) fun r4 =>
 bd (idxL r1.1 0) fun y5 =>
 bd (bI.f lf y5) fun r6 =>
 bd (iQ.f lf r4.1 r6.1) fun r7 =>
 bd (dF.f lf r3.1 r7.1) fun r8 =>
 some (r8.1,())
def E(lf:Nat):Entry:=⟨[yI,yI],[yI],fun x=>f lf x.1 x.2.1⟩
theorem ok(lf:Nat):Ok 222 (E lf):=okT (an:=(annsL [])) (lf:=lf) (tC (dF.ok lf) (tC (bI.ok lf) (tC (fC.ok lf) (tC (iQ.ok lf) tN)))) aoN fun x=>by kernel_rfl
end mr
namespace kL
def f(lf:Nat)(a0:TI)(a1:TI):Option (Bool×Unit) :=
 br a0.1 (
 some (a0.1,())) (
 br a1.1 (
 some (a0.1,())) (
 br (a1.2.1.toList==(⟨#[]⟩:ByteArray).toList) (
 br (a1.2.2.1.toList==(⟨#[]⟩:ByteArray).toList) (
 some (true,())) (
 br (!(a0.2.2.1.toList==(⟨#[]⟩:ByteArray).toList)) (
 bd (aJ.f lf a1.2.2.1 a0.2.2.1) fun r1 =>
 some ((!r1.1),())) (
 some (false,())))) (
 br (!(a0.2.1.toList==(⟨#[]⟩:ByteArray).toList)) (
 bd (aJ.f lf a0.2.1 a1.2.1) fun r2 =>
 br (a1.2.2.1.toList==(⟨#[]⟩:ByteArray).toList) (
 br (!r2.1) (
 some (true,())) (
 some (false,()))) (
 br (!(a0.2.2.1.toList==(⟨#[]⟩:ByteArray).toList)) (
 bd (aJ.f lf a1.2.2.1 a0.2.2.1) fun r3 =>
 br (!r2.1) (
 some ((!r3.1),())) (
 some (false,()))) (
 br (!r2.1) (
 some (false,())) (
 some (false,()))))) (
 br (a1.2.2.1.toList==(⟨#[]⟩:ByteArray).toList) (
 some (false,())) (
 br (!(a0.2.2.1.toList==(⟨#[]⟩:ByteArray).toList)) (
 bd (aJ.f lf a1.2.2.1 a0.2.2.1) fun r4 =>
 some (false,())) (
 some (false,())))))))
def E(lf:Nat):Entry:=⟨[yI,yI],[.bool],fun x=>f lf x.1 x.2.1⟩
theorem ok(lf:Nat):Ok 249 (E lf):=okT (an:=(annsL [])) (lf:=lf) (tC (aJ.ok lf) tN) aoN fun x=>by kernel_rfl
end kL
namespace iI
def f(lf:Nat)(a0:TI)(a1:TI):Option (TI×Unit) :=
 br a0.1 (
 bd (aA.f lf) fun r1 =>
 some (r1.1,())) (
 br a1.1 (
 bd (aA.f lf) fun r2 =>
 some (r2.1,())) (
 br (a1.2.1.toList==a1.2.2.1.toList) (
 br (!(a0.2.1.toList==(⟨#[]⟩:ByteArray).toList)) (
 br (!(a0.2.2.1.toList==(⟨#[]⟩:ByteArray).toList)) (
 bd (aP.f lf a0.2.1 a1.2.1) fun r3 =>
 bd (aP.f lf a0.2.2.1 a1.2.1) fun r4 =>
 br (r3.1.toList==r4.1.toList) (
 bd (bH.f lf a0.2.1 a1.2.1) fun r5 =>
 bd (bH.f lf a0.2.2.1 a1.2.1) fun r6 =>
 bd (ax.f lf r5.1 r6.1) fun r7 =>
 some (r7.1,())) (
 bd (aQ.f lf a1.2.1 (⟨#[49]⟩:ByteArray)) fun r8 =>
 bd (ax.f lf (⟨#[48]⟩:ByteArray) r8.1) fun r9 =>
 some (r9.1,()))) (
 bd (aQ.f lf a1.2.1 (⟨#[49]⟩:ByteArray)) fun r10 =>
 bd (ax.f lf (⟨#[48]⟩:ByteArray) r10.1) fun r11 =>
 some (r11.1,()))) (
 bd (aQ.f lf a1.2.1 (⟨#[49]⟩:ByteArray)) fun r12 =>
 bd (ax.f lf (⟨#[48]⟩:ByteArray) r12.1) fun r13 =>
 some (r13.1,()))) (
 bd (aQ.f lf a1.2.1 (⟨#[49]⟩:ByteArray)) fun r14 =>
 bd (ax.f lf (⟨#[48]⟩:ByteArray) r14.1) fun r15 =>
 bd (kL.f lf a0 r15.1) fun r16 =>
 br r16.1 (
 some (a0,())) (
 bd (eU.f lf a1.2.2.1 (⟨#[45,49]⟩:ByteArray)) fun r17 =>
 br (!(a0.2.1.toList==(⟨#[]⟩:ByteArray).toList)) (
 bd (bK.f lf a0.2.1) fun r18 =>
 br (decide (r18.1≥0)) (
 bd (dD.f lf r17.1 a0.2.2.1) fun r19 =>
 bd (ax.f lf (⟨#[48]⟩:ByteArray) r19.1) fun r20 =>
 some (r20.1,())) (
 bd (ax.f lf (⟨#[48]⟩:ByteArray) r17.1) fun r21 =>
 some (r21.1,()))) (
 bd (ax.f lf (⟨#[48]⟩:ByteArray) r17.1) fun r22 =>
 some (r22.1,()))))))
def E(lf:Nat):Entry:=⟨[yI,yI],[yI],fun x=>f lf x.1 x.2.1⟩
theorem ok(lf:Nat):Ok 305 (E lf):=okT (an:=(annsL [])) (lf:=lf) (tC (aQ.ok lf) (tC (aP.ok lf) (tC (bH.ok lf) (tC (bK.ok lf) (tC (aA.ok lf) (tC (ax.ok lf) (tC (kL.ok lf) (tC (eU.ok lf) (tC (dD.ok lf) tN))))))))) aoN fun x=>by kernel_rfl
end iI
end
end Go.Q
namespace Go.Q
open Go Go.RowKit
open Go.Rx (br bd sIdx sCat sCut iQuo iRem)
noncomputable section
namespace kM
def f(lf:Nat)(a0:TI)(a1:TI):Option (TI×Unit) :=
 bd (fC.f lf a1) fun r1 =>
 bd (idxL r1.1 2) fun y2 =>
 bd (iI.f lf a0 y2) fun r3 =>
 bd (bI.f lf a0) fun r4 =>
 bd (idxL r1.1 0) fun y5 =>
 bd (bI.f lf y5) fun r6 =>
 bd (iI.f lf r4.1 r6.1) fun r7 =>
 bd (bI.f lf r7.1) fun r8 =>
 bd (dF.f lf r3.1 r8.1) fun r9 =>
 some (r9.1,())
def E(lf:Nat):Entry:=⟨[yI,yI],[yI],fun x=>f lf x.1 x.2.1⟩
theorem ok(lf:Nat):Ok 224 (E lf):=okT (an:=(annsL [])) (lf:=lf) (tC (dF.ok lf) (tC (bI.ok lf) (tC (fC.ok lf) (tC (iI.ok lf) tN)))) aoN fun x=>by kernel_rfl
end kM
namespace mW
def f(lf:Nat)(a0:TI):Option (Bool×Unit) :=
 br (!a0.1) (
 br (!(a0.2.1.toList==(⟨#[]⟩:ByteArray).toList)) (
 some ((a0.2.1.toList==a0.2.2.1.toList),())) (
 some (false,()))) (
 some (false,()))
def E(lf:Nat):Entry:=⟨[yI],[.bool],fun x=>f lf x.1⟩
theorem ok(lf:Nat):Ok 355 (E lf):=okT (an:=(annsL [])) (lf:=lf) tN aoN fun x=>by kernel_rfl
end mW
namespace jy
def f(lf:Nat)(a0:TI)(a1:TI):Option (TI×Unit) :=
 bd (mW.f lf a1) fun r1 =>
 br (!r1.1) (
 some (a0,())) (
 br a0.1 (
 some (a0,())) (
 br (a0.2.1.toList==a1.2.1.toList) (
 bd (dB.f lf a0.2.1 (⟨#[49]⟩:ByteArray)) fun r2 =>
 br (a0.2.2.1.toList==a1.2.1.toList) (
 bd (aQ.f lf a0.2.2.1 (⟨#[49]⟩:ByteArray)) fun r3 =>
 bd (ax.f lf r2.1 r3.1) fun r4 =>
 some (r4.1,())) (
 bd (ax.f lf r2.1 a0.2.2.1) fun r5 =>
 some (r5.1,()))) (
 br (a0.2.2.1.toList==a1.2.1.toList) (
 bd (aQ.f lf a0.2.2.1 (⟨#[49]⟩:ByteArray)) fun r6 =>
 bd (ax.f lf a0.2.1 r6.1) fun r7 =>
 some (r7.1,())) (
 bd (ax.f lf a0.2.1 a0.2.2.1) fun r8 =>
 some (r8.1,())))))
def E(lf:Nat):Entry:=⟨[yI,yI],[yI],fun x=>f lf x.1 x.2.1⟩
theorem ok(lf:Nat):Ok 314 (E lf):=okT (an:=(annsL [])) (lf:=lf) (tC (dB.ok lf) (tC (aQ.ok lf) (tC (ax.ok lf) (tC (mW.ok lf) tN)))) aoN fun x=>by kernel_rfl
end jy
namespace jX
def f(lf:Nat)(a0:Int)(a1:TI)(a2:TI):Option (TI×TI×Unit) :=
 br a1.1 (
 bd (aA.f lf) fun r1 =>
 bd (aA.f lf) fun r2 =>
 some (r1.1,r2.1,())) (
 br a2.1 (
 bd (aA.f lf) fun r3 =>
 bd (aA.f lf) fun r4 =>
 some (r3.1,r4.1,())) (
 bd (fF.f lf a1 a2) fun r5 =>
 bd (fF.f lf a1 a2) fun r6 =>
 br (a0==3) (
 bd (jy.f lf a1 a2) fun r7 =>
 bd (jy.f lf a2 a1) fun r8 =>
 br (a0==4) (
 bd (eU.f lf a2.2.2.1 (⟨#[45,49]⟩:ByteArray)) fun r9 =>
 bd (dD.f lf a1.2.2.1 r9.1) fun r10 =>
 bd (ax.f lf a1.2.1 r10.1) fun r11 =>
 bd (eU.f lf a1.2.1 (⟨#[49]⟩:ByteArray)) fun r12 =>
 bd (dV.f lf a2.2.1 r12.1) fun r13 =>
 bd (ax.f lf r13.1 a2.2.2.1) fun r14 =>
 br (a0==5) (
 bd (dD.f lf a1.2.2.1 a2.2.2.1) fun r15 =>
 bd (ax.f lf a1.2.1 r15.1) fun r16 =>
 bd (dV.f lf a2.2.1 a1.2.1) fun r17 =>
 bd (ax.f lf r17.1 a2.2.2.1) fun r18 =>
 br r16.1.1 (
 bd (aA.f lf) fun r19 =>
 bd (aA.f lf) fun r20 =>
 some (r19.1,r20.1,())) (
 br r18.1.1 (
 bd (aA.f lf) fun r21 =>
 bd (aA.f lf) fun r22 =>
 some (r21.1,r22.1,())) (
 some (r16.1,r18.1,())))) (
 br r11.1.1 (
 bd (aA.f lf) fun r23 =>
 bd (aA.f lf) fun r24 =>
 some (r23.1,r24.1,())) (
 br r14.1.1 (
 bd (aA.f lf) fun r25 =>
 bd (aA.f lf) fun r26 =>
 some (r25.1,r26.1,())) (
 some (r11.1,r14.1,()))))) (
 br (a0==5) (
 bd (dD.f lf a1.2.2.1 a2.2.2.1) fun r27 =>
 bd (ax.f lf a1.2.1 r27.1) fun r28 =>
 bd (dV.f lf a2.2.1 a1.2.1) fun r29 =>
 bd (ax.f lf r29.1 a2.2.2.1) fun r30 =>
 br r28.1.1 (
 bd (aA.f lf) fun r31 =>
 bd (aA.f lf) fun r32 =>
 some (r31.1,r32.1,())) (
 br r30.1.1 (
 bd (aA.f lf) fun r33 =>
 bd (aA.f lf) fun r34 =>
 some (r33.1,r34.1,())) (
 some (r28.1,r30.1,())))) (
 br r7.1.1 (
 bd (aA.f lf) fun r35 =>
 bd (aA.f lf) fun r36 =>
 some (r35.1,r36.1,())) (
 br r8.1.1 (
 bd (aA.f lf) fun r37 =>
 bd (aA.f lf) fun r38 =>
 some (r37.1,r38.1,())) (
 some (r7.1,r8.1,())))))) (
 br (a0==4) (
 bd (eU.f lf a2.2.2.1 (⟨#[45,49]⟩:ByteArray)) fun r39 =>
 bd (dD.f lf a1.2.2.1 r39.1) fun r40 =>
 bd (ax.f lf a1.2.1 r40.1) fun r41 =>
 bd (eU.f lf a1.2.1 (⟨#[49]⟩:ByteArray)) fun r42 =>
 bd (dV.f lf a2.2.1 r42.1) fun r43 =>
 bd (ax.f lf r43.1 a2.2.2.1) fun r44 =>
 br (a0==5) (
 bd (dD.f lf a1.2.2.1 a2.2.2.1) fun r45 =>
 bd (ax.f lf a1.2.1 r45.1) fun r46 =>
 bd (dV.f lf a2.2.1 a1.2.1) fun r47 =>
 bd (ax.f lf r47.1 a2.2.2.1) fun r48 =>
 br r46.1.1 (
 bd (aA.f lf) fun r49 =>
 bd (aA.f lf) fun r50 =>
 some (r49.1,r50.1,())) (
 br r48.1.1 (
 bd (aA.f lf) fun r51 =>
 bd (aA.f lf) fun r52 =>
 some (r51.1,r52.1,())) (
 some (r46.1,r48.1,())))) (
 br r41.1.1 (
 bd (aA.f lf) fun r53 =>
 bd (aA.f lf) fun r54 =>
 some (r53.1,r54.1,())) (
 br r44.1.1 (
 bd (aA.f lf) fun r55 =>
 bd (aA.f lf) fun r56 =>
 some (r55.1,r56.1,())) (
 some (r41.1,r44.1,()))))) (
 br (a0==5) (
 bd (dD.f lf a1.2.2.1 a2.2.2.1) fun r57 =>
 bd (ax.f lf a1.2.1 r57.1) fun r58 =>
 bd (dV.f lf a2.2.1 a1.2.1) fun r59 =>
 bd (ax.f lf r59.1 a2.2.2.1) fun r60 =>
 br r58.1.1 (
 bd (aA.f lf) fun r61 =>
 bd (aA.f lf) fun r62 =>
 some (r61.1,r62.1,())) (
 br r60.1.1 (
 bd (aA.f lf) fun r63 =>
 bd (aA.f lf) fun r64 =>
 some (r63.1,r64.1,())) (
 some (r58.1,r60.1,())))) (
 br r5.1.1 (
 bd (aA.f lf) fun r65 =>
 bd (aA.f lf) fun r66 =>
 some (r65.1,r66.1,())) (
 br r6.1.1 (
 bd (aA.f lf) fun r67 =>
 bd (aA.f lf) fun r68 =>
 some (r67.1,r68.1,())) (
 some (r5.1,r6.1,()))))))))
def E(lf:Nat):Entry:=⟨[(.int .i64),yI,yI],[yI,yI],fun x=>f lf x.1 x.2.1 x.2.2.1⟩
theorem ok(lf:Nat):Ok 231 (E lf):=okT (an:=(annsL [])) (lf:=lf) (tC (aA.ok lf) (tC (ax.ok lf) (tC (fF.ok lf) (tC (eU.ok lf) (tC (jy.ok lf) (tC (dD.ok lf) (tC (dV.ok lf) tN))))))) aoN fun x=>by kernel_rfl
end jX
end
end Go.Q
namespace Go.Q
open Go Go.RowKit
open Go.Rx (br bd sIdx sCat sCut iQuo iRem)
noncomputable section
namespace gY
def f(lf:Nat)(a0:ByteArray)(a1:Int):Option (ByteArray×Unit) :=
 some (a0,())
def E(lf:Nat):Entry:=⟨[.str,(.int .i64)],[.str],fun x=>f lf x.1 x.2.1⟩
theorem ok(lf:Nat):Ok 202 (E lf):=okT (an:=(annsL [])) (lf:=lf) tN aoN fun x=>by kernel_rfl
end gY
end
end Go.Q
