import Derived.Test.YtfogkflaijhfoaaGreatDoorProg
import Derived.KernelRfl
import Derived.Test.YtfogkflaijhfoaaGreatDoorVAE3
import Derived.Test.YtfogkflaijhfoaaGreatDoorVAG10
import Derived.Test.YtfogkflaijhfoaaGreatDoorVAG11
set_option linter.unusedVariables false
set_option linter.unusedSimpArgs false
set_option linter.unusedSectionVars false
set_option maxRecDepth 100000
namespace Go.Q
open Go Go.RowKit
open Go.Rx (br bd sIdx sCat sCut iQuo iRem)
noncomputable section
namespace fH
def f(lf:Nat)(a0:Int)(a1:TV)(a2:TV):Option (Bool×Unit) :=
 bd (mY.f lf a1 a2) fun r1 =>
 br (!r1.1) (
 bd (lC.f lf) fun r2 =>
 some (r2.1,())) (
 bd (jH.f lf a0 a1 a2) fun r3 =>
 bd (ji.f lf a0 a1 a2) fun r4 =>
 bd (jQ.f lf a0 a1 a2) fun r5 =>
 bd (gX.f lf a0 a1 a2) fun r6 =>
 bd (some (((r3.1.1.1==r4.1.1.1)&&((r3.1.1.2.1==r4.1.1.2.1)&&((r3.1.1.2.2.1==r4.1.1.2.2.1)&&true)))&&(((r3.1.2.1.1==r4.1.2.1.1)&&((r3.1.2.1.2.1==r4.1.2.1.2.1)&&((r3.1.2.1.2.2.1==r4.1.2.1.2.2.1)&&true)))&&true))) fun r7 =>
 br r7 (
 br (r3.2.1==r4.2.1) (
 bd (some (((r5.1.1.1==r6.1.1.1)&&((r5.1.1.2.1==r6.1.1.2.1)&&((r5.1.1.2.2.1==r6.1.1.2.2.1)&&true)))&&(((r5.1.2.1.1==r6.1.2.1.1)&&((r5.1.2.1.2.1==r6.1.2.1.2.1)&&((r5.1.2.1.2.2.1==r6.1.2.1.2.2.1)&&true)))&&true))) fun r8 =>
 br r8 (
 bd (some (((r5.2.1.1.1==r6.2.1.1.1)&&((r5.2.1.1.2.1==r6.2.1.1.2.1)&&((r5.2.1.1.2.2.1==r6.2.1.1.2.2.1)&&true)))&&(((r5.2.1.2.1.1==r6.2.1.2.1.1)&&((r5.2.1.2.1.2.1==r6.2.1.2.1.2.1)&&((r5.2.1.2.1.2.2.1==r6.2.1.2.1.2.2.1)&&true)))&&true))) fun r9 =>
 br r9 (
 br (r5.2.2.1==r6.2.2.1) (
 bd (lC.f lf) fun r10 =>
 some (r10.1,())) (
 some (false,()))) (
 some (false,()))) (
 some (false,()))) (
 some (false,()))) (
 some (false,())))
def E(lf:Nat):Entry:=⟨[(.int .i64),yV,yV],[.bool],fun x=>f lf x.1 x.2.1 x.2.2.1⟩
theorem ok(lf:Nat):Ok 4 (E lf):=okT (an:=(annsL [])) (lf:=lf) (tC (mY.ok lf) (tC (lC.ok lf) (tC (jH.ok lf) (tC (ji.ok lf) (tC (jQ.ok lf) (tC (gX.ok lf) tN)))))) aoN fun x=>by kernel_rfl
end fH
end
end Go.Q
