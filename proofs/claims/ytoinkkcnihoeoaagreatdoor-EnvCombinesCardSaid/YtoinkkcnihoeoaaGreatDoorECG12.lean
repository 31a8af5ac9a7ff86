import Derived.Test.YtoinkkcnihoeoaaGreatDoorProg
import Derived.KernelRfl
import Derived.Test.YtoinkkcnihoeoaaGreatDoorECE3
import Derived.Test.YtoinkkcnihoeoaaGreatDoorECG10
import Derived.Test.YtoinkkcnihoeoaaGreatDoorECG11
import Derived.Test.YtoinkkcnihoeoaaGreatDoorECG8
import Derived.Test.YtoinkkcnihoeoaaGreatDoorECG9
set_option maxHeartbeats 40000000
set_option linter.unusedVariables false
set_option linter.unusedSimpArgs false
set_option linter.unusedSectionVars false
set_option maxRecDepth 100000
namespace Go.Q
open Go Go.RowKit
open Go.Rx (br bd sIdx sCat sCut iQuo iRem)
noncomputable section
namespace eP
def f(lf:Nat)(a0:List TV)(a1:List TV)(a2:List ByteArray):Option (Bool×Unit) :=
 bd (fB.f lf a0) fun r1 =>
 br (!r1.1) (
 bd (gJ.f lf) fun r2 =>
 some (r2.1,())) (
 bd (fB.f lf a1) fun r3 =>
 br (!r3.1) (
 bd (gJ.f lf) fun r4 =>
 some (r4.1,())) (
 br (decide (((a2.length:Nat):Int) > 60)) (
 br (decide (((a2.length:Nat):Int)≤1024)) (
 bd (gJ.f lf) fun r5 =>
 some (r5.1,())) (
 bd (nT.f lf a0 a1) fun r6 =>
 bd (jH.f lf a0 a1) fun r7 =>
 bd (kV.f lf a0 a1) fun r8 =>
 bd (jo.f lf a0 a1) fun r9 =>
 br (r6.1 != r7.1) (
 some (false,())) (
 br (r6.2.1 != r7.2.1) (
 some (false,())) (
 bd (aO.f lf r8.1 r9.1) fun r10 =>
 br (!r10.1) (
 some (false,())) (
 br (r8.2.1 != r9.2.1) (
 some (false,())) (
 bd (kW.f lf a0 a1) fun r11 =>
 bd (jq.f lf a0 a1) fun r12 =>
 br (r11.2.1 != r12.2.1) (
 some (false,())) (
 bd (aO.f lf r11.1 r12.1) fun r13 =>
 br (!r13.1) (
 some (false,())) (
 br (r11.2.2.1 != r12.2.2.1) (
 some (false,())) (
 bd (jU.f lf a0 a1 a2) fun r14 =>
 bd (je.f lf a0 a1 a2) fun r15 =>
 bd (aO.f lf r14.1 r15.1) fun r16 =>
 br (!r16.1) (
 some (false,())) (
 br (r14.2.1 != r15.2.1) (
 some (false,())) (
 bd (jk.f lf a0 a1) fun r17 =>
 bd (iQ.f lf a0 a1) fun r18 =>
 br (r17.2.1==r18.2.1) (
 bd (aO.f lf r17.1 r18.1) fun r19 =>
 br r19.1 (
 br (r17.2.2.1==r18.2.2.1) (
 bd (gJ.f lf) fun r20 =>
 some (r20.1,())) (
 some (false,()))) (
 some (false,()))) (
 some (false,()))))))))))))) (
 bd (nT.f lf a0 a1) fun r21 =>
 bd (jH.f lf a0 a1) fun r22 =>
 bd (kV.f lf a0 a1) fun r23 =>
 bd (jo.f lf a0 a1) fun r24 =>
 br (r21.1 != r22.1) (
 some (false,())) (
 br (r21.2.1 != r22.2.1) (
 some (false,())) (
 bd (aO.f lf r23.1 r24.1) fun r25 =>
 br (!r25.1) (
 some (false,())) (
 br (r23.2.1 != r24.2.1) (
 some (false,())) (
 bd (kW.f lf a0 a1) fun r26 =>
 bd (jq.f lf a0 a1) fun r27 =>
 br (r26.2.1 != r27.2.1) (
 some (false,())) (
 bd (aO.f lf r26.1 r27.1) fun r28 =>
 br (!r28.1) (
 some (false,())) (
 br (r26.2.2.1 != r27.2.2.1) (
 some (false,())) (
 bd (jU.f lf a0 a1 a2) fun r29 =>
 bd (je.f lf a0 a1 a2) fun r30 =>
 bd (aO.f lf r29.1 r30.1) fun r31 =>
 br (!r31.1) (
 some (false,())) (
 br (r29.2.1 != r30.2.1) (
 some (false,())) (
 bd (jk.f lf a0 a1) fun r32 =>
 bd (iQ.f lf a0 a1) fun r33 =>
 br (r32.2.1==r33.2.1) (
 bd (aO.f lf r32.1 r33.1) fun r34 =>
 br r34.1 (
 br (r32.2.2.1==r33.2.2.1) (
 bd (gJ.f lf) fun r35 =>
 some (r35.1,())) (
 some (false,()))) (
 some (false,()))) (
 some (false,()))))))))))))))
def E(lf:Nat):Entry:=⟨[(.sl yV),(.sl yV),(.sl .str)],[.bool],fun x=>f lf x.1 x.2.1 x.2.2.1⟩
theorem ok(lf:Nat):Ok 3 (E lf):=okT (an:=(annsL [])) (lf:=lf) (tC (fB.ok lf) (tC (gJ.ok lf) (tC (nT.ok lf) (tC (jH.ok lf) (tC (kV.ok lf) (tC (jo.ok lf) (tC (aO.ok lf) (tC (kW.ok lf) (tC (jq.ok lf) (tC (jU.ok lf) (tC (je.ok lf) (tC (jk.ok lf) (tC (iQ.ok lf) tN))))))))))))) aoN fun x=>by kernel_rfl
end eP
end
end Go.Q
