import Derived.Test.YtfogkflaijhfoaaGreatDoorProg
import Derived.KernelRfl
import Derived.Test.YtfogkflaijhfoaaGreatDoorVAE3
import Derived.Test.YtfogkflaijhfoaaGreatDoorVAG1
import Derived.Test.YtfogkflaijhfoaaGreatDoorVAG3
set_option linter.unusedVariables false
set_option linter.unusedSimpArgs false
set_option linter.unusedSectionVars false
set_option maxRecDepth 100000
namespace Go.Q
open Go.IntKind (i64)
open Go Go.RowKit
open Go.Rx (br bd sIdx sCat sCut iQuo iRem)
noncomputable section
namespace aW
def f(lf:Nat)(a0:ByteArray):Option (TX×Unit) :=
 some ((0,a0,()),())
def E(lf:Nat):Entry:=⟨[.str],[yX],fun x=>f lf x.1⟩
theorem ok(lf:Nat):Ok 199 (E lf):=okT (an:=(annsL [])) (lf:=lf) tN aoN fun x=>by kernel_rfl
end aW
namespace bD
def f(lf:Nat)(a0:Int):Option (TX×Unit) :=
 some ((a0,(⟨#[]⟩:ByteArray),()),())
def E(lf:Nat):Entry:=⟨[(.int .i64)],[yX],fun x=>f lf x.1⟩
theorem ok(lf:Nat):Ok 206 (E lf):=okT (an:=(annsL [])) (lf:=lf) tN aoN fun x=>by kernel_rfl
end bD
namespace au
def f(lf:Nat)  : Option (TS×Unit) :=
 bd (bD.f lf 1) fun r1 =>
 bd (bD.f lf (-1)) fun r2 =>
 some ((r1.1,r2.1,()),())
def E(lf:Nat):Entry:=⟨[],[yS],fun x=>f lf⟩
theorem ok(lf:Nat):Ok 227 (E lf):=okT (an:=(annsL [])) (lf:=lf) (tC (bD.ok lf) tN) aoN fun x=>by kernel_rfl
end au
namespace aK
def f(lf:Nat)(a0:TI):Option (TS×Unit) :=
 br a0.1 (
 bd (au.f lf) fun r1 =>
 some (r1.1,())) (
 bd (bD.f lf (-1)) fun r2 =>
 bd (bD.f lf 1) fun r3 =>
 br (!(a0.2.1.toList==(⟨#[]⟩:ByteArray).toList)) (
 bd (aW.f lf a0.2.1) fun r4 =>
 br (!(a0.2.2.1.toList==(⟨#[]⟩:ByteArray).toList)) (
 bd (aW.f lf a0.2.2.1) fun r5 =>
 some ((r4.1,r5.1,()),())) (
 some ((r4.1,r3.1,()),()))) (
 br (!(a0.2.2.1.toList==(⟨#[]⟩:ByteArray).toList)) (
 bd (aW.f lf a0.2.2.1) fun r6 =>
 some ((r2.1,r6.1,()),())) (
 some ((r2.1,r3.1,()),()))))
def E(lf:Nat):Entry:=⟨[yI],[yS],fun x=>f lf x.1⟩
theorem ok(lf:Nat):Ok 175 (E lf):=okT (an:=(annsL [])) (lf:=lf) (tC (aW.ok lf) (tC (bD.ok lf) (tC (au.ok lf) tN))) aoN fun x=>by kernel_rfl
end aK
namespace dw
def f(lf:Nat)(a0:ByteArray)(a1:ByteArray):Option (Int×Unit) :=
 bd (iE.f lf a0 a1) fun r1 =>
 some (r1.1,())
def E(lf:Nat):Entry:=⟨[.str,.str],[(.int .i64)],fun x=>f lf x.1 x.2.1⟩
theorem ok(lf:Nat):Ok 269 (E lf):=okT (an:=(annsL [])) (lf:=lf) (tC (iE.ok lf) tN) aoN fun x=>by kernel_rfl
end dw
namespace dP
def f(lf:Nat)(a0:TX)(a1:TX):Option (Int×Unit) :=
 br (a0.1 != 0) (
 some ((i64.wrap (a0.1-a1.1)),())) (
 br (a1.1 != 0) (
 some ((i64.wrap (a0.1-a1.1)),())) (
 bd (dw.f lf a0.2.1 a1.2.1) fun r1 =>
 some (r1.1,())))
def E(lf:Nat):Entry:=⟨[yX,yX],[(.int .i64)],fun x=>f lf x.1 x.2.1⟩
theorem ok(lf:Nat):Ok 200 (E lf):=okT (an:=(annsL [])) (lf:=lf) (tC (dw.ok lf) tN) aoN fun x=>by kernel_rfl
end dP
namespace ah
def f(lf:Nat)(a0:TS):Option (Bool×Unit) :=
 bd (dP.f lf a0.1 a0.2.1) fun r1 =>
 some ((decide (r1.1 > 0)),())
def E(lf:Nat):Entry:=⟨[yS],[.bool],fun x=>f lf x.1⟩
theorem ok(lf:Nat):Ok 205 (E lf):=okT (an:=(annsL [])) (lf:=lf) (tC (dP.ok lf) tN) aoN fun x=>by kernel_rfl
end ah
namespace kZ
def f(lf:Nat)(a0:ByteArray):Option (Int×Unit) :=
 br (decide (((a0.size:Nat):Int) > 0)) (
 bd (sIdx a0 0) fun r1 =>
 br (((r1.toNat:Nat):Int)==45) (
 some ((i64.wrap (((a0.size:Nat):Int)-1)),())) (
 some (((a0.size:Nat):Int),()))) (
 some (((a0.size:Nat):Int),()))
def E(lf:Nat):Entry:=⟨[.str],[(.int .i64)],fun x=>f lf x.1⟩
theorem ok(lf:Nat):Ok 332 (E lf):=okT (an:=(annsL [])) (lf:=lf) tN aoN fun x=>by kernel_rfl
end kZ
namespace oO
def f(lf:Nat)(a0:TX):Option (ByteArray×Unit) :=
 br (a0.1 != 0) (
 some ((⟨#[]⟩:ByteArray),())) (
 bd (kZ.f lf a0.2.1) fun r1 =>
 br (decide (r1.1 > 100)) (
 some ((⟨#[]⟩:ByteArray),())) (
 some (a0.2.1,())))
def E(lf:Nat):Entry:=⟨[yX],[.str],fun x=>f lf x.1⟩
theorem ok(lf:Nat):Ok 270 (E lf):=okT (an:=(annsL [])) (lf:=lf) (tC (kZ.ok lf) tN) aoN fun x=>by kernel_rfl
end oO
namespace af
def f(lf:Nat)(a0:TS):Option (TI×Unit) :=
 bd (ah.f lf a0) fun r1 =>
 br r1.1 (
 some ((true,(⟨#[]⟩:ByteArray),(⟨#[]⟩:ByteArray),()),())) (
 bd (oO.f lf a0.1) fun r2 =>
 bd (oO.f lf a0.2.1) fun r3 =>
 some ((false,r2.1,r3.1,()),()))
def E(lf:Nat):Entry:=⟨[yS],[yI],fun x=>f lf x.1⟩
theorem ok(lf:Nat):Ok 176 (E lf):=okT (an:=(annsL [])) (lf:=lf) (tC (ah.ok lf) (tC (oO.ok lf) tN)) aoN fun x=>by kernel_rfl
end af
namespace gI
def f(lf:Nat)(a0:ByteArray):Option (Int×Unit) :=
 bd (dZ.f lf a0) fun r1 =>
 br (r1.1 != 0) (
 some (r1.1,())) (
 bd (kZ.f lf a0) fun r2 =>
 br (decide (r2.1 > 100)) (
 some (10,())) (
 some (0,())))
def E(lf:Nat):Entry:=⟨[.str],[(.int .i64)],fun x=>f lf x.1⟩
theorem ok(lf:Nat):Ok 268 (E lf):=okT (an:=(annsL [])) (lf:=lf) (tC (dZ.ok lf) (tC (kZ.ok lf) tN)) aoN fun x=>by kernel_rfl
end gI
namespace aY
def f(lf:Nat)(a0:TI):Option (Int×Unit) :=
 br a0.1 (
 br (!(a0.2.1.toList==(⟨#[]⟩:ByteArray).toList)) (
 some (3,())) (
 br (!(a0.2.2.1.toList==(⟨#[]⟩:ByteArray).toList)) (
 some (3,())) (
 br (a0.2.1.toList==(⟨#[]⟩:ByteArray).toList) (
 br (a0.2.2.1.toList==(⟨#[]⟩:ByteArray).toList) (
 br (!(a0.2.1.toList==(⟨#[]⟩:ByteArray).toList)) (
 br (!(a0.2.2.1.toList==(⟨#[]⟩:ByteArray).toList)) (
 bd (dw.f lf a0.2.1 a0.2.2.1) fun r1 =>
 br (decide (r1.1 > 0)) (
 some (14,())) (
 some (0,()))) (
 some (0,()))) (
 some (0,()))) (
 bd (gI.f lf a0.2.2.1) fun r2 =>
 br (r2.1 != 0) (
 some (r2.1,())) (
 br (!(a0.2.1.toList==(⟨#[]⟩:ByteArray).toList)) (
 br (!(a0.2.2.1.toList==(⟨#[]⟩:ByteArray).toList)) (
 bd (dw.f lf a0.2.1 a0.2.2.1) fun r3 =>
 br (decide (r3.1 > 0)) (
 some (14,())) (
 some (0,()))) (
 some (0,()))) (
 some (0,()))))) (
 bd (gI.f lf a0.2.1) fun r4 =>
 br (r4.1 != 0) (
 some (r4.1,())) (
 br (a0.2.2.1.toList==(⟨#[]⟩:ByteArray).toList) (
 br (!(a0.2.1.toList==(⟨#[]⟩:ByteArray).toList)) (
 br (!(a0.2.2.1.toList==(⟨#[]⟩:ByteArray).toList)) (
 bd (dw.f lf a0.2.1 a0.2.2.1) fun r5 =>
 br (decide (r5.1 > 0)) (
 some (14,())) (
 some (0,()))) (
 some (0,()))) (
 some (0,()))) (
 bd (gI.f lf a0.2.2.1) fun r6 =>
 br (r6.1 != 0) (
 some (r6.1,())) (
 br (!(a0.2.1.toList==(⟨#[]⟩:ByteArray).toList)) (
 br (!(a0.2.2.1.toList==(⟨#[]⟩:ByteArray).toList)) (
 bd (dw.f lf a0.2.1 a0.2.2.1) fun r7 =>
 br (decide (r7.1 > 0)) (
 some (14,())) (
 some (0,()))) (
 some (0,()))) (
 some (0,()))))))))) (
 br (a0.2.1.toList==(⟨#[]⟩:ByteArray).toList) (
 br (a0.2.2.1.toList==(⟨#[]⟩:ByteArray).toList) (
 br (!(a0.2.1.toList==(⟨#[]⟩:ByteArray).toList)) (
 br (!(a0.2.2.1.toList==(⟨#[]⟩:ByteArray).toList)) (
 bd (dw.f lf a0.2.1 a0.2.2.1) fun r8 =>
 br (decide (r8.1 > 0)) (
 some (14,())) (
 some (0,()))) (
 some (0,()))) (
 some (0,()))) (
 bd (gI.f lf a0.2.2.1) fun r9 =>
 br (r9.1 != 0) (
 some (r9.1,())) (
 br (!(a0.2.1.toList==(⟨#[]⟩:ByteArray).toList)) (
 br (!(a0.2.2.1.toList==(⟨#[]⟩:ByteArray).toList)) (
 bd (dw.f lf a0.2.1 a0.2.2.1) fun r10 =>
 br (decide (r10.1 > 0)) (
 some (14,())) (
 some (0,()))) (
 some (0,()))) (
 some (0,()))))) (
 bd (gI.f lf a0.2.1) fun r11 =>
 br (r11.1 != 0) (
 some (r11.1,())) (
 br (a0.2.2.1.toList==(⟨#[]⟩:ByteArray).toList) (
 br (!(a0.2.1.toList==(⟨#[]⟩:ByteArray).toList)) (
 br (!(a0.2.2.1.toList==(⟨#[]⟩:ByteArray).toList)) (
 bd (dw.f lf a0.2.1 a0.2.2.1) fun r12 =>
 br (decide (r12.1 > 0)) (
 some (14,())) (
 some (0,()))) (
 some (0,()))) (
 some (0,()))) (
 bd (gI.f lf a0.2.2.1) fun r13 =>
 br (r13.1 != 0) (
 some (r13.1,())) (
 br (!(a0.2.1.toList==(⟨#[]⟩:ByteArray).toList)) (
 br (!(a0.2.2.1.toList==(⟨#[]⟩:ByteArray).toList)) (
 bd (dw.f lf a0.2.1 a0.2.2.1) fun r14 =>
 br (decide (r14.1 > 0)) (
 some (14,())) (
 some (0,()))) (
 some (0,()))) (
 some (0,())))))))
def E(lf:Nat):Entry:=⟨[yI],[(.int .i64)],fun x=>f lf x.1⟩
theorem ok(lf:Nat):Ok 174 (E lf):=okT (an:=(annsL [])) (lf:=lf) (tC (gI.ok lf) (tC (dw.ok lf) tN)) aoN fun x=>by kernel_rfl
end aY
namespace jL
def f(lf:Nat)(a0:ByteArray)(a1:ByteArray):Option (ByteArray×Unit) :=
 bd (nC.f lf a0 a1) fun r1 =>
 some (r1.1,())
def E(lf:Nat):Entry:=⟨[.str,.str],[.str],fun x=>f lf x.1 x.2.1⟩
theorem ok(lf:Nat):Ok 262 (E lf):=okT (an:=(annsL [])) (lf:=lf) (tC (nC.ok lf) tN) aoN fun x=>by kernel_rfl
end jL
namespace lT
def f(lf:Nat)(a0:TX)(a1:TX):Option (TX×Unit) :=
 br (a0.1 != 0) (
 bd (bD.f lf (if(if(i64.wrap (a0.1+a1.1)) < 1 then(i64.wrap (a0.1+a1.1))else 1) >(-1)then(if(i64.wrap (a0.1+a1.1)) < 1 then(i64.wrap (a0.1+a1.1))else 1)else(-1))) fun r1 =>
 some (r1.1,())) (
 br (a1.1 != 0) (
 bd (bD.f lf (if(if(i64.wrap (a0.1+a1.1)) < 1 then(i64.wrap (a0.1+a1.1))else 1) >(-1)then(if(i64.wrap (a0.1+a1.1)) < 1 then(i64.wrap (a0.1+a1.1))else 1)else(-1))) fun r2 =>
 some (r2.1,())) (
 bd (jL.f lf a0.2.1 a1.2.1) fun r3 =>
 bd (aW.f lf r3.1) fun r4 =>
 some (r4.1,())))
def E(lf:Nat):Entry:=⟨[yX,yX],[yX],fun x=>f lf x.1 x.2.1⟩
theorem ok(lf:Nat):Ok 261 (E lf):=okT (an:=(annsL [])) (lf:=lf) (tC (aW.ok lf) (tC (bD.ok lf) (tC (jL.ok lf) tN))) aoN fun x=>by kernel_rfl
end lT
namespace jK
def f(lf:Nat)(a0:TS)(a1:TS):Option (TS×Unit) :=
 bd (ah.f lf a0) fun r1 =>
 br r1.1 (
 bd (au.f lf) fun r2 =>
 some (r2.1,())) (
 bd (ah.f lf a1) fun r3 =>
 br r3.1 (
 bd (au.f lf) fun r4 =>
 some (r4.1,())) (
 bd (lT.f lf a0.1 a1.1) fun r5 =>
 bd (lT.f lf a0.2.1 a1.2.1) fun r6 =>
 some ((r5.1,r6.1,()),())))
def E(lf:Nat):Entry:=⟨[yS,yS],[yS],fun x=>f lf x.1 x.2.1⟩
theorem ok(lf:Nat):Ok 164 (E lf):=okT (an:=(annsL [])) (lf:=lf) (tC (ah.ok lf) (tC (au.ok lf) (tC (lT.ok lf) tN))) aoN fun x=>by kernel_rfl
end jK
namespace rD
def f(lf:Nat)(a0:TI)(a1:TI):Option (TI×Int×Unit) :=
 bd (aY.f lf a0) fun r1 =>
 br (r1.1 != 0) (
 br (r1.1 != 0) (
 some ((false,(⟨#[]⟩:ByteArray),(⟨#[]⟩:ByteArray),()),r1.1,())) (
 bd (aK.f lf a0) fun r2 =>
 bd (aK.f lf a1) fun r3 =>
 bd (jK.f lf r2.1 r3.1) fun r4 =>
 bd (af.f lf r4.1) fun r5 =>
 some (r5.1,0,()))) (
 bd (aY.f lf a1) fun r6 =>
 br (r6.1 != 0) (
 br (r6.1 != 0) (
 some ((false,(⟨#[]⟩:ByteArray),(⟨#[]⟩:ByteArray),()),r6.1,())) (
 bd (aK.f lf a0) fun r7 =>
 bd (aK.f lf a1) fun r8 =>
 bd (jK.f lf r7.1 r8.1) fun r9 =>
 bd (af.f lf r9.1) fun r10 =>
 some (r10.1,0,()))) (
 bd (aK.f lf a0) fun r11 =>
 bd (aK.f lf a1) fun r12 =>
 bd (jK.f lf r11.1 r12.1) fun r13 =>
 bd (af.f lf r13.1) fun r14 =>
 some (r14.1,0,())))
def E(lf:Nat):Entry:=⟨[yI,yI],[yI,(.int .i64)],fun x=>f lf x.1 x.2.1⟩
theorem ok(lf:Nat):Ok 74 (E lf):=okT (an:=(annsL [])) (lf:=lf) (tC (jK.ok lf) (tC (aY.ok lf) (tC (aK.ok lf) (tC (af.ok lf) tN)))) aoN fun x=>by kernel_rfl
end rD
namespace eF
def f(lf:Nat)(a0:ByteArray):Option (ByteArray×Unit) :=
 bd (uI.f lf a0) fun r1 =>
 some (r1.1,())
def E(lf:Nat):Entry:=⟨[.str],[.str],fun x=>f lf x.1⟩
theorem ok(lf:Nat):Ok 308 (E lf):=okT (an:=(annsL [])) (lf:=lf) (tC (uI.ok lf) tN) aoN fun x=>by kernel_rfl
end eF
namespace kS
def f(lf:Nat)(a0:TX):Option (TX×Unit) :=
 br (a0.1 != 0) (
 bd (bD.f lf (i64.wrap (0-a0.1))) fun r1 =>
 some (r1.1,())) (
 bd (eF.f lf a0.2.1) fun r2 =>
 bd (aW.f lf r2.1) fun r3 =>
 some (r3.1,()))
def E(lf:Nat):Entry:=⟨[yX],[yX],fun x=>f lf x.1⟩
theorem ok(lf:Nat):Ok 263 (E lf):=okT (an:=(annsL [])) (lf:=lf) (tC (aW.ok lf) (tC (bD.ok lf) (tC (eF.ok lf) tN))) aoN fun x=>by kernel_rfl
end kS
namespace ay
def f(lf:Nat)(a0:TS):Option (TS×Unit) :=
 bd (ah.f lf a0) fun r1 =>
 br r1.1 (
 bd (au.f lf) fun r2 =>
 some (r2.1,())) (
 bd (kS.f lf a0.2.1) fun r3 =>
 bd (kS.f lf a0.1) fun r4 =>
 some ((r3.1,r4.1,()),()))
def E(lf:Nat):Entry:=⟨[yS],[yS],fun x=>f lf x.1⟩
theorem ok(lf:Nat):Ok 168 (E lf):=okT (an:=(annsL [])) (lf:=lf) (tC (ah.ok lf) (tC (au.ok lf) (tC (kS.ok lf) tN))) aoN fun x=>by kernel_rfl
end ay
namespace nV
def f(lf:Nat)(a0:TS)(a1:TS):Option (TS×Unit) :=
 bd (ay.f lf a1) fun r1 =>
 bd (jK.f lf a0 r1.1) fun r2 =>
 some (r2.1,())
def E(lf:Nat):Entry:=⟨[yS,yS],[yS],fun x=>f lf x.1 x.2.1⟩
theorem ok(lf:Nat):Ok 167 (E lf):=okT (an:=(annsL [])) (lf:=lf) (tC (jK.ok lf) (tC (ay.ok lf) tN)) aoN fun x=>by kernel_rfl
end nV
namespace rH
def f(lf:Nat)(a0:TI)(a1:TI):Option (TI×Int×Unit) :=
 bd (aY.f lf a0) fun r1 =>
 br (r1.1 != 0) (
 br (r1.1 != 0) (
 some ((false,(⟨#[]⟩:ByteArray),(⟨#[]⟩:ByteArray),()),r1.1,())) (
 bd (aK.f lf a0) fun r2 =>
 bd (aK.f lf a1) fun r3 =>
 bd (nV.f lf r2.1 r3.1) fun r4 =>
 bd (af.f lf r4.1) fun r5 =>
 some (r5.1,0,()))) (
 bd (aY.f lf a1) fun r6 =>
 br (r6.1 != 0) (
 br (r6.1 != 0) (
 some ((false,(⟨#[]⟩:ByteArray),(⟨#[]⟩:ByteArray),()),r6.1,())) (
 bd (aK.f lf a0) fun r7 =>
 bd (aK.f lf a1) fun r8 =>
 bd (nV.f lf r7.1 r8.1) fun r9 =>
 bd (af.f lf r9.1) fun r10 =>
 some (r10.1,0,()))) (
 bd (aK.f lf a0) fun r11 =>
 bd (aK.f lf a1) fun r12 =>
 bd (nV.f lf r11.1 r12.1) fun r13 =>
 bd (af.f lf r13.1) fun r14 =>
 some (r14.1,0,())))
def E(lf:Nat):Entry:=⟨[yI,yI],[yI,(.int .i64)],fun x=>f lf x.1 x.2.1⟩
theorem ok(lf:Nat):Ok 76 (E lf):=okT (an:=(annsL [])) (lf:=lf) (tC (nV.ok lf) (tC (aY.ok lf) (tC (aK.ok lf) (tC (af.ok lf) tN)))) aoN fun x=>by kernel_rfl
end rH
namespace ja
def f(lf:Nat)(a0:TX):Option (Int×Unit) :=
 br (a0.1 != 0) (
 some (a0.1,())) (
 bd (dw.f lf a0.2.1 (⟨#[48]⟩:ByteArray)) fun r1 =>
 some (r1.1,()))
def E(lf:Nat):Entry:=⟨[yX],[(.int .i64)],fun x=>f lf x.1⟩
theorem ok(lf:Nat):Ok 264 (E lf):=okT (an:=(annsL [])) (lf:=lf) (tC (dw.ok lf) tN) aoN fun x=>by kernel_rfl
end ja
end
end Go.Q
namespace Go.Q
open Go.IntKind (i64)
open Go Go.RowKit
open Go.Rx (br bd sIdx sCat sCut iQuo iRem)
noncomputable section
namespace mQ
def f(lf:Nat)(a0:ByteArray):Option (Bool×Unit) :=
 some ((decide (((a0.size:Nat):Int)≤250)),())
def E(lf:Nat):Entry:=⟨[.str],[.bool],fun x=>f lf x.1⟩
theorem ok(lf:Nat):Ok 38 (E lf):=okT (an:=(annsL [])) (lf:=lf) tN aoN fun x=>by kernel_rfl
end mQ
namespace aC
def f(lf:Nat)(a0:ByteArray):Option (Bool×Unit) :=
 bd (sIdx a0 0) fun r1 =>
 some ((((r1.toNat:Nat):Int)==45),())
def E(lf:Nat):Entry:=⟨[.str],[.bool],fun x=>f lf x.1⟩
theorem ok(lf:Nat):Ok 156 (E lf):=okT (an:=(annsL [])) (lf:=lf) tN aoN fun x=>by kernel_rfl
end aC
namespace bn
def f(lf:Nat)(a0:ByteArray):Option (Int×Unit) :=
 bd (aC.f lf a0) fun r1 =>
 br r1.1 (
 some ((i64.wrap (((a0.size:Nat):Int)-1)),())) (
 some (((a0.size:Nat):Int),()))
def E(lf:Nat):Entry:=⟨[.str],[(.int .i64)],fun x=>f lf x.1⟩
theorem ok(lf:Nat):Ok 104 (E lf):=okT (an:=(annsL [])) (lf:=lf) (tC (aC.ok lf) tN) aoN fun x=>by kernel_rfl
end bn
namespace eY
def anns:FuncId→FA:=annsL [(119,⟨annOf [(0,⟨kx 42 [0,4],[],[]⟩,⟨kx 42 [2],[],[]⟩)],none,[]⟩)]
def r0{ρ:Type}(lf:Nat)(v0:ByteArray)(v1:Int)(K:Int→Option ρ)(E0:Option ρ)(E1:Option ρ):Option ρ :=
 br (decide (v1 < ((v0.size:Nat):Int))) (
 bd (sIdx v0 v1) fun r3 =>
 br (decide (((r3.toNat:Nat):Int) < 48)) (
 E0) (
 bd (sIdx v0 v1) fun r4 =>
 br (decide (((r4.toNat:Nat):Int) > 57)) (
 E0) (
 K (i64.wrap (v1+1))))) (
 E1)
def l0(lf:Nat)(v0:ByteArray):Nat→Int→Option (Bool×(Unit)×(Unit)×Unit)
 | 0,_=>none
 | n+1,v1=>r0 lf v0 v1 (l0 lf v0 n) (some (true,(()),((()),()))) (some (false,(()),((()),())))
def sh0:ShS:=⟨[.s .str,.a 3,.s (.int .i64),.a 37],[]⟩
def S0(p:ByteArray×Int×Unit):St:=sh0.b p
def xh0:ShS:=⟨[.a 2,.s .bool,.a 39],[]⟩
def xh1:ShS:=⟨[.a 42],[]⟩
def o0(v0:ByteArray)(y:Bool×(Unit)×(Unit)×Unit):Alt:=.two y.1 (.one .ret (xh0.b (false,()))) (.one (.exit 0) (xh1.b (())))
def tb(lf:Nat):List (FuncId×Entry):=[]
def aht(lf:Nat):List (Nat×(St→Option LTE)):=[(0,sumE sh0 fun(p:ByteArray×Int×Unit)=>⟨Bool×(Unit)×(Unit)×Unit,l0 lf p.1 (lf+40) p.2.1,o0 p.1⟩)]
def ls(lf:Nat):List (Nat×FuncId×Sums):=[(13,119,sumsL (aht lf))]
def it0{ρ:Type}(lf n:Nat)(st:St)(k:KE ρ):Option ρ:=itG anns (ls lf) (tb lf) lf 13 119 0 0 (sumsL (aht lf)) n st k
theorem t0{ρ:Type}(lf n:Nat)(v0:ByteArray)(v1:Int)(k:KE ρ):it0 lf (n+1) (S0 (v0,v1,())) k=r0 lf v0 v1 (fun x0=>it0 lf n (S0 (v0,x0,())) k) (k .ret (xh0.b (false,()))) (k (.exit 0) (xh1.b (()))):=by kernel_rfl
theorem u0{ρ:Type}(lf:Nat)(v0:ByteArray)(k:KE ρ):∀ (n:Nat) (v1:Int),it0 lf n (S0 (v0,v1,())) k=bd (l0 lf v0 n v1) fun y=>altK k (o0 v0 y)
 | 0,_=>by rw[l0,aU];rfl
 | n+1,v1=>by
  rw[t0];simp only[l0,r0,u0 lf v0 k n,iD,iC,bW,aU,br_t,br_f,o0,altK]
theorem sl(lf:Nat):SL anns (ls lf) (tb lf) lf (ls lf):=slC (laC (fun _=>by kernel_rfl) (fun _ (x:ByteArray×Int×Unit) k=>dY (u0 lf x.1 k (lf+40) x.2.1)) laN) slN
def f(lf:Nat)(a0:ByteArray):Option (Bool×Unit) :=
 br (a0.toList==(⟨#[48]⟩:ByteArray).toList) (
 some (true,())) (
 br (decide (((a0.size:Nat):Int) > 0)) (
 bd (sIdx a0 0) fun r1 =>
 br (((r1.toNat:Nat):Int)==45) (
 br (1==((a0.size:Nat):Int)) (
 some (false,())) (
 bd (sIdx a0 1) fun r2 =>
 br (((r2.toNat:Nat):Int)==48) (
 some (false,())) (
 bd (l0 lf a0 (lf+40) 1) fun z5 =>
 br z5.1 (
 some (false,())) (
 some (true,()))))) (
 br (0==((a0.size:Nat):Int)) (
 some (false,())) (
 bd (sIdx a0 0) fun r6 =>
 br (((r6.toNat:Nat):Int)==48) (
 some (false,())) (
 bd (l0 lf a0 (lf+40) 0) fun z7 =>
 br z7.1 (
 some (false,())) (
 some (true,())))))) (
 br (0==((a0.size:Nat):Int)) (
 some (false,())) (
 bd (sIdx a0 0) fun r8 =>
 br (((r8.toNat:Nat):Int)==48) (
 some (false,())) (
 bd (l0 lf a0 (lf+40) 0) fun z9 =>
 br z9.1 (
 some (false,())) (
 some (true,()))))))
def E(lf:Nat):Entry:=⟨[.str],[.bool],fun x=>f lf x.1⟩
theorem ok(lf:Nat):Ok 119 (E lf):=okL tN (aoC aoN) (sl lf) fun x=>by kernel_rfl
end eY
namespace bK
def f(lf:Nat)(a0:ByteArray):Option (Int×Unit) :=
 br (a0.toList==(⟨#[48]⟩:ByteArray).toList) (
 some (0,())) (
 bd (aC.f lf a0) fun r1 =>
 br r1.1 (
 some ((-1),())) (
 some (1,())))
def E(lf:Nat):Entry:=⟨[.str],[(.int .i64)],fun x=>f lf x.1⟩
theorem ok(lf:Nat):Ok 97 (E lf):=okT (an:=(annsL [])) (lf:=lf) (tC (aC.ok lf) tN) aoN fun x=>by kernel_rfl
end bK
namespace cu
def anns:FuncId→FA:=annsL [(138,⟨annOf [(0,⟨kx 41 [0,1,5],[],[]⟩,⟨kx 41 [4],[],[]⟩)],none,[]⟩)]
def r0{ρ:Type}(lf:Nat)(v0 v1:List Int)(v2:Int)(K:Int→Option ρ)(E0:Int→Option ρ)(E1:Option ρ):Option ρ :=
 br (decide (v2≥0)) (
 bd (idxL v0 v2) fun y1 =>
 bd (idxL v1 v2) fun y2 =>
 br (y1 != y2) (
 bd (idxL v0 v2) fun y3 =>
 bd (idxL v1 v2) fun y4 =>
 br (decide (y3 < y4)) (
 E0 (-1)) (
 E0 1)) (
 K (i64.wrap (v2-1)))) (
 E1)
def l0(lf:Nat)(v0 v1:List Int):Nat→Int→Option (Bool×(Int×Unit)×(Unit)×Unit)
 | 0,_=>none
 | n+1,v2=>r0 lf v0 v1 v2 (l0 lf v0 v1 n) (fun w0=>some (true,(w0,()),((()),()))) (some (false,(0,()),((()),())))
def sh0:ShS:=⟨[.s (.sl (.int .i64)),.s (.sl (.int .i64)),.a 3,.s (.int .i64),.a 35],[]⟩
def S0(p:(List Int)×(List Int)×Int×Unit):St:=sh0.b p
def xh0:ShS:=⟨[.a 4,.s (.int .i64),.a 36],[]⟩
def xh1:ShS:=⟨[.a 41],[]⟩
def o0(v0 v1:List Int)(y:Bool×(Int×Unit)×(Unit)×Unit):Alt:=.two y.1 (.one .ret (xh0.b (y.2.1.1,()))) (.one (.exit 0) (xh1.b (())))
def tb(lf:Nat):List (FuncId×Entry):=[]
def ahv(lf:Nat):List (Nat×(St→Option LTE)):=[(0,sumE sh0 fun(p:(List Int)×(List Int)×Int×Unit)=>⟨Bool×(Int×Unit)×(Unit)×Unit,l0 lf p.1 p.2.1 (lf+40) p.2.2.1,o0 p.1 p.2.1⟩)]
def ls(lf:Nat):List (Nat×FuncId×Sums):=[(13,138,sumsL (ahv lf))]
def it0{ρ:Type}(lf n:Nat)(st:St)(k:KE ρ):Option ρ:=itG anns (ls lf) (tb lf) lf 13 138 0 0 (sumsL (ahv lf)) n st k
theorem t0{ρ:Type}(lf n:Nat)(v0 v1:List Int)(v2:Int)(k:KE ρ):it0 lf (n+1) (S0 (v0,v1,v2,())) k=r0 lf v0 v1 v2 (fun x0=>it0 lf n (S0 (v0,v1,x0,())) k) (fun w0=>k .ret (xh0.b (w0,()))) (k (.exit 0) (xh1.b (()))):=by kernel_rfl
theorem u0{ρ:Type}(lf:Nat)(v0 v1:List Int)(k:KE ρ):∀ (n:Nat) (v2:Int),it0 lf n (S0 (v0,v1,v2,())) k=bd (l0 lf v0 v1 n v2) fun y=>altK k (o0 v0 v1 y)
 | 0,_=>by rw[l0,aU];rfl
 | n+1,v2=>by
  rw[t0];simp only[l0,r0,u0 lf v0 v1 k n,iD,iC,bW,aU,br_t,br_f,o0,altK]
theorem sl(lf:Nat):SL anns (ls lf) (tb lf) lf (ls lf):=slC (laC (fun _=>by kernel_rfl) (fun _ (x:(List Int)×(List Int)×Int×Unit) k=>dY (u0 lf x.1 x.2.1 k (lf+40) x.2.2.1)) laN) slN
def f(lf:Nat)(a0:List Int)(a1:List Int):Option (Int×Unit) :=
 br (((a0.length:Nat):Int) !=((a1.length:Nat):Int)) (
 br (decide (((a0.length:Nat):Int) < ((a1.length:Nat):Int))) (
 some ((-1),())) (
 some (1,()))) (
 bd (l0 lf a0 a1 (lf+40) (i64.wrap (((a0.length:Nat):Int)-1))) fun z5 =>
 br z5.1 (
 some (z5.2.1.1,())) (
 some (0,())))
def E(lf:Nat):Entry:=⟨[(.sl (.int .i64)),(.sl (.int .i64))],[(.int .i64)],fun x=>f lf x.1 x.2.1⟩
theorem ok(lf:Nat):Ok 138 (E lf):=okL tN (aoC aoN) (sl lf) fun x=>by kernel_rfl
end cu
namespace aN
def anns:FuncId→FA:=annsL [(139,⟨annOf [(0,⟨kx 21 [0,3],[],[]⟩,⟨kx 21 [0,2,3],[],[]⟩)],none,[]⟩)]
def r0{ρ:Type}(lf:Nat)(v0:List Int)(v1:Int)(K:Int→Option ρ)(E0:Int→Option ρ):Option ρ :=
 br (decide (v1 > 0)) (
 bd (idxL v0 (i64.wrap (v1-1))) fun y1 =>
 br (y1==0) (
 K (i64.wrap (v1-1))) (
 E0 v1)) (
 E0 v1)
def l0(lf:Nat)(v0:List Int):Nat→Int→Option ((Int×Unit)×Unit)
 | 0,_=>none
 | n+1,v1=>r0 lf v0 v1 (l0 lf v0 n) (fun w0=>some ((w0,()),()))
def sh0:ShS:=⟨[.s (.sl (.int .i64)),.a 2,.s (.int .i64),.a 17],[]⟩
def S0(p:(List Int)×Int×Unit):St:=sh0.b p
def xh0:ShS:=⟨[.s (.sl (.int .i64)),.a 2,.s (.int .i64),.a 17],[]⟩
def o0(v0:List Int)(y:(Int×Unit)×Unit):Alt:=.one (.exit 0) (xh0.b (v0,y.1.1,()))
def tb(lf:Nat):List (FuncId×Entry):=[]
def ahw(lf:Nat):List (Nat×(St→Option LTE)):=[(0,sumE sh0 fun(p:(List Int)×Int×Unit)=>⟨(Int×Unit)×Unit,l0 lf p.1 (lf+40) p.2.1,o0 p.1⟩)]
def ls(lf:Nat):List (Nat×FuncId×Sums):=[(13,139,sumsL (ahw lf))]
def it0{ρ:Type}(lf n:Nat)(st:St)(k:KE ρ):Option ρ:=itG anns (ls lf) (tb lf) lf 13 139 0 0 (sumsL (ahw lf)) n st k
theorem t0{ρ:Type}(lf n:Nat)(v0:List Int)(v1:Int)(k:KE ρ):it0 lf (n+1) (S0 (v0,v1,())) k=r0 lf v0 v1 (fun x0=>it0 lf n (S0 (v0,x0,())) k) (fun w0=>k (.exit 0) (xh0.b (v0,w0,()))):=by kernel_rfl
theorem u0{ρ:Type}(lf:Nat)(v0:List Int)(k:KE ρ):∀ (n:Nat) (v1:Int),it0 lf n (S0 (v0,v1,())) k=bd (l0 lf v0 n v1) fun y=>altK k (o0 v0 y)
 | 0,_=>by rw[l0,aU];rfl
 | n+1,v1=>by
  rw[t0];simp only[l0,r0,u0 lf v0 k n,iD,iC,bW,aU,br_t,br_f,o0,altK]
theorem sl(lf:Nat):SL anns (ls lf) (tb lf) lf (ls lf):=slC (laC (fun _=>by kernel_rfl) (fun _ (x:(List Int)×Int×Unit) k=>dY (u0 lf x.1 k (lf+40) x.2.1)) laN) slN
def f(lf:Nat)(a0:List Int):Option ((List Int)×Unit) :=
 bd (l0 lf a0 (lf+40) ((a0.length:Nat):Int)) fun z2 =>
 bd (cutL a0 none (some z2.1.1)) fun q3 =>
 some (q3,())
def E(lf:Nat):Entry:=⟨[(.sl (.int .i64))],[(.sl (.int .i64))],fun x=>f lf x.1⟩
theorem ok(lf:Nat):Ok 139 (E lf):=okL tN (aoC aoN) (sl lf) fun x=>by kernel_rfl
end aN
namespace aV
def anns:FuncId→FA:=annsL [(140,⟨annOf [(0,⟨kx 27 [0,3,4],[⟨.tmp 3,(.int .i64),3⟩],[]⟩,⟨kx 27 [2,3],[⟨.tmp 3,(.int .i64),3⟩],[]⟩)],none,[]⟩)]
def r0{ρ:Type}(lf:Nat)(v0:ByteArray)(v1:Int)(v2:List Int)(K:Int→(List Int)→Option ρ)(E0:(List Int)→Option ρ):Option ρ :=
 br (decide (v1≥0)) (
 bd (sIdx v0 v1) fun r1 =>
 br (((r1.toNat:Nat):Int) != 45) (
 bd (sIdx v0 v1) fun r2 =>
 bd (apL true 8 v2 [(i64.wrap (IntKind.u8.wrap (((r2.toNat:Nat):Int)-48)))]) fun q3 =>
 K (i64.wrap (v1-1)) q3) (
 E0 v2)) (
 E0 v2)
def l0(lf:Nat)(v0:ByteArray):Nat→Int→(List Int)→Option (((List Int)×Unit)×Unit)
 | 0,_,_=>none
 | n+1,v1,v2=>r0 lf v0 v1 v2 (l0 lf v0 n) (fun w0=>some ((w0,()),()))
def sh0:ShS:=⟨[.s .str,.a 2,.s (.row 0),.s (.int .i64),.a 22],[.row (.int .i64) 3 false]⟩
def S0(p:ByteArray×Int×(List Int)×Unit):St:=sh0.b p
def xh0:ShS:=⟨[.a 3,.s (.row 0),.a 23],[.row (.int .i64) 3 false]⟩
def o0(v0:ByteArray)(y:((List Int)×Unit)×Unit):Alt:=.one (.exit 0) (xh0.b (y.1.1,()))
def tb(lf:Nat):List (FuncId×Entry):=[]
def ahx(lf:Nat):List (Nat×(St→Option LTE)):=[(0,sumE sh0 fun(p:ByteArray×Int×(List Int)×Unit)=>⟨((List Int)×Unit)×Unit,l0 lf p.1 (lf+40) p.2.1 p.2.2.1,o0 p.1⟩)]
def ls(lf:Nat):List (Nat×FuncId×Sums):=[(13,140,sumsL (ahx lf))]
def it0{ρ:Type}(lf n:Nat)(st:St)(k:KE ρ):Option ρ:=itG anns (ls lf) (tb lf) lf 13 140 0 0 (sumsL (ahx lf)) n st k
theorem t0{ρ:Type}(lf n:Nat)(v0:ByteArray)(v1:Int)(v2:List Int)(k:KE ρ):it0 lf (n+1) (S0 (v0,v1,v2,())) k=r0 lf v0 v1 v2 (fun x0 x1=>it0 lf n (S0 (v0,x0,x1,())) k) (fun w0=>k (.exit 0) (xh0.b (w0,()))):=by kernel_rfl
theorem u0{ρ:Type}(lf:Nat)(v0:ByteArray)(k:KE ρ):∀ (n:Nat) (v1:Int) (v2:List Int),it0 lf n (S0 (v0,v1,v2,())) k=bd (l0 lf v0 n v1 v2) fun y=>altK k (o0 v0 y)
 | 0,_,_=>by rw[l0,aU];rfl
 | n+1,v1,v2=>by
  rw[t0];simp only[l0,r0,u0 lf v0 k n,iD,iC,bW,aU,br_t,br_f,o0,altK]
theorem sl(lf:Nat):SL anns (ls lf) (tb lf) lf (ls lf):=slC (laC (fun _=>by kernel_rfl) (fun _ (x:ByteArray×Int×(List Int)×Unit) k=>dY (u0 lf x.1 k (lf+40) x.2.1 x.2.2.1)) laN) slN
def f(lf:Nat)(a0:ByteArray):Option ((List Int)×Unit) :=
 bd (l0 lf a0 (lf+40) (i64.wrap (((a0.size:Nat):Int)-1)) []) fun z4 =>
 some (z4.1.1,())
def E(lf:Nat):Entry:=⟨[.str],[(.sl (.int .i64))],fun x=>f lf x.1⟩
theorem ok(lf:Nat):Ok 140 (E lf):=okL tN (aoC aoN) (sl lf) fun x=>by kernel_rfl
end aV
namespace lF
def f(lf:Nat)(a0:ByteArray)(a1:ByteArray):Option (Int×Unit) :=
 bd (bK.f lf a0) fun r1 =>
 bd (bK.f lf a1) fun r2 =>
 br (r1.1 != r2.1) (
 br (decide (r1.1 < r2.1)) (
 some ((-1),())) (
 some (1,()))) (
 bd (aV.f lf a0) fun r3 =>
 bd (aN.f lf r3.1) fun r4 =>
 bd (aV.f lf a1) fun r5 =>
 bd (aN.f lf r5.1) fun r6 =>
 bd (cu.f lf r4.1 r6.1) fun r7 =>
 some ((i64.wrap (r1.1*r7.1)),()))
def E(lf:Nat):Entry:=⟨[.str,.str],[(.int .i64)],fun x=>f lf x.1 x.2.1⟩
theorem ok(lf:Nat):Ok 50 (E lf):=okT (an:=(annsL [])) (lf:=lf) (tC (bK.ok lf) (tC (cu.ok lf) (tC (aN.ok lf) (tC (aV.ok lf) tN)))) aoN fun x=>by kernel_rfl
end lF
namespace aJ
def f(lf:Nat)(a0:ByteArray)(a1:ByteArray):Option (Bool×Unit) :=
 bd (lF.f lf a0 a1) fun r1 =>
 some ((decide (r1.1 < 0)),())
def E(lf:Nat):Entry:=⟨[.str,.str],[.bool],fun x=>f lf x.1 x.2.1⟩
theorem ok(lf:Nat):Ok 98 (E lf):=okT (an:=(annsL [])) (lf:=lf) (tC (lF.ok lf) tN) aoN fun x=>by kernel_rfl
end aJ
namespace lD
def f(lf:Nat)(a0:ByteArray):Option (Int×Unit) :=
 bd (eY.f lf a0) fun r1 =>
 br (!r1.1) (
 some (3,())) (
 bd (bn.f lf a0) fun r2 =>
 br (decide (r2.1 > 4096)) (
 some (10,())) (
 some (0,())))
def E(lf:Nat):Entry:=⟨[.str],[(.int .i64)],fun x=>f lf x.1⟩
theorem ok(lf:Nat):Ok 28 (E lf):=okT (an:=(annsL [])) (lf:=lf) (tC (bn.ok lf) (tC (eY.ok lf) tN)) aoN fun x=>by kernel_rfl
end lD
namespace bP
def anns:FuncId→FA:=annsL [(123,⟨annOf [(0,⟨kx 30 [0,3,4],[],[]⟩,⟨kx 30 [0,2,3],[],[]⟩)],none,[]⟩)]
def r0{ρ:Type}(lf:Nat)(v0:Int)(v1:ByteArray)(v2:Int)(K:ByteArray→Int→Option ρ)(E0:ByteArray→Option ρ):Option ρ :=
 br (v2 != 0) (
 bd (iRem v2 10) fun r1 =>
 bd (iRem v2 10) fun r2 =>
 bd (sCut (⟨#[48,49,50,51,52,53,54,55,56,57]⟩:ByteArray) (some (if(i64.wrap (0-r2)) > r1 then(i64.wrap (0-r2))else r1)) (some (i64.wrap ((if(i64.wrap (0-r2)) > r1 then(i64.wrap (0-r2))else r1)+1)))) fun r3 =>
 bd (sCat r3 v1) fun r4 =>
 bd (iQuo .i64 v2 10) fun r5 =>
 K r4 r5) (
 E0 v1)
def l0(lf:Nat)(v0:Int):Nat→ByteArray→Int→Option ((ByteArray×Unit)×Unit)
 | 0,_,_=>none
 | n+1,v1,v2=>r0 lf v0 v1 v2 (l0 lf v0 n) (fun w0=>some ((w0,()),()))
def sh0:ShS:=⟨[.s (.int .i64),.a 2,.s .str,.s (.int .i64),.a 25],[]⟩
def S0(p:Int×ByteArray×Int×Unit):St:=sh0.b p
def xh0:ShS:=⟨[.s (.int .i64),.a 2,.s .str,.a 26],[]⟩
def o0(v0:Int)(y:(ByteArray×Unit)×Unit):Alt:=.one (.exit 0) (xh0.b (v0,y.1.1,()))
def tb(lf:Nat):List (FuncId×Entry):=[]
def ahu(lf:Nat):List (Nat×(St→Option LTE)):=[(0,sumE sh0 fun(p:Int×ByteArray×Int×Unit)=>⟨(ByteArray×Unit)×Unit,l0 lf p.1 (lf+40) p.2.1 p.2.2.1,o0 p.1⟩)]
def ls(lf:Nat):List (Nat×FuncId×Sums):=[(13,123,sumsL (ahu lf))]
def it0{ρ:Type}(lf n:Nat)(st:St)(k:KE ρ):Option ρ:=itG anns (ls lf) (tb lf) lf 13 123 0 0 (sumsL (ahu lf)) n st k
theorem t0{ρ:Type}(lf n:Nat)(v0:Int)(v1:ByteArray)(v2:Int)(k:KE ρ):it0 lf (n+1) (S0 (v0,v1,v2,())) k=r0 lf v0 v1 v2 (fun x0 x1=>it0 lf n (S0 (v0,x0,x1,())) k) (fun w0=>k (.exit 0) (xh0.b (v0,w0,()))):=by kernel_rfl
theorem u0{ρ:Type}(lf:Nat)(v0:Int)(k:KE ρ):∀ (n:Nat) (v1:ByteArray) (v2:Int),it0 lf n (S0 (v0,v1,v2,())) k=bd (l0 lf v0 n v1 v2) fun y=>altK k (o0 v0 y)
 | 0,_,_=>by rw[l0,aU];rfl
 | n+1,v1,v2=>by
  rw[t0];simp only[l0,r0,u0 lf v0 k n,iD,iC,bW,aU,br_t,br_f,o0,altK]
theorem sl(lf:Nat):SL anns (ls lf) (tb lf) lf (ls lf):=slC (laC (fun _=>by kernel_rfl) (fun _ (x:Int×ByteArray×Int×Unit) k=>dY (u0 lf x.1 k (lf+40) x.2.1 x.2.2.1)) laN) slN
def f(lf:Nat)(a0:Int):Option (ByteArray×Unit) :=
 br (a0==0) (
 some ((⟨#[48]⟩:ByteArray),())) (
 bd (l0 lf a0 (lf+40) (⟨#[]⟩:ByteArray) a0) fun z6 =>
 br (decide (a0 < 0)) (
 bd (sCat (⟨#[45]⟩:ByteArray) z6.1.1) fun r7 =>
 some (r7,())) (
 some (z6.1.1,())))
def E(lf:Nat):Entry:=⟨[(.int .i64)],[.str],fun x=>f lf x.1⟩
theorem ok(lf:Nat):Ok 123 (E lf):=okL tN (aoC aoN) (sl lf) fun x=>by kernel_rfl
end bP
namespace gG
def f(lf:Nat)(a0:ByteArray)(a1:Int):Option (Bool×Unit) :=
 bd (bn.f lf a0) fun r1 =>
 some ((decide (r1.1≤a1)),())
def E(lf:Nat):Entry:=⟨[.str,(.int .i64)],[.bool],fun x=>f lf x.1 x.2.1⟩
theorem ok(lf:Nat):Ok 154 (E lf):=okT (an:=(annsL [])) (lf:=lf) (tC (bn.ok lf) tN) aoN fun x=>by kernel_rfl
end gG
end
end Go.Q
namespace Go.Q
open Go Go.RowKit
open Go.Rx (br bd sIdx sCat sCut iQuo iRem)
noncomputable section
namespace kK
def f(lf:Nat)(a0:ByteArray):Option (Int×Unit) :=
 bd (lD.f lf a0) fun r1 =>
 br (r1.1 != 0) (
 some (r1.1,())) (
 bd (bn.f lf a0) fun r2 =>
 br (decide (r2.1 > 100)) (
 some (10,())) (
 some (0,())))
def E(lf:Nat):Entry:=⟨[.str],[(.int .i64)],fun x=>f lf x.1⟩
theorem ok(lf:Nat):Ok 179 (E lf):=okT (an:=(annsL [])) (lf:=lf) (tC (lD.ok lf) (tC (bn.ok lf) tN)) aoN fun x=>by kernel_rfl
end kK
end
end Go.Q
