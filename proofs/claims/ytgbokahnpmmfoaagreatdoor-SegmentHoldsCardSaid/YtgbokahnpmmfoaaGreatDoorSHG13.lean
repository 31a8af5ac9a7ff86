import Derived.Test.YtgbokahnpmmfoaaGreatDoorProg
import Derived.KernelRfl
import Derived.Test.YtgbokahnpmmfoaaGreatDoorSHE3
import Derived.Test.YtgbokahnpmmfoaaGreatDoorSHG10
import Derived.Test.YtgbokahnpmmfoaaGreatDoorSHG11
import Derived.Test.YtgbokahnpmmfoaaGreatDoorSHG12
import Derived.Test.YtgbokahnpmmfoaaGreatDoorSHG6
import Derived.Test.YtgbokahnpmmfoaaGreatDoorSHG7
set_option linter.unusedVariables false
set_option linter.unusedSimpArgs false
set_option linter.unusedSectionVars false
set_option maxRecDepth 100000
namespace Go.Q
open Go Go.RowKit
open Go.Rx (br bd sIdx sCat sCut iQuo iRem)
noncomputable section
namespace bY
def f(lf:Nat)(a0:List (Int×(Int×(TV×Unit))))(a1:Int)(a2:List ByteArray):Option (Bool×Unit) :=
 bd (dO.f lf a0) fun r1 =>
 br (!r1.1) (
 bd (gX.f lf) fun r2 =>
 some (r2.1,())) (
 bd (dN.f lf a2) fun r3 =>
 br (!r3.1) (
 bd (gX.f lf) fun r4 =>
 some (r4.1,())) (
 bd (pz.f lf a0 ((a2.length:Nat):Int) a1) fun r5 =>
 bd (kF.f lf a0 ((a2.length:Nat):Int) a1) fun r6 =>
 bd (bI.f lf a0 a2) fun r7 =>
 bd (dh.f lf a0 a2) fun r8 =>
 bd (dw.f lf a0 ((a2.length:Nat):Int)) fun r9 =>
 bd (iU.f lf a0 ((a2.length:Nat):Int)) fun r10 =>
 bd (some (((r5.1.1.1==r6.1.1.1)&&((r5.1.1.2.1==r6.1.1.2.1)&&((r5.1.1.2.2.1==r6.1.1.2.2.1)&&true)))&&(((r5.1.2.1.1==r6.1.2.1.1)&&((r5.1.2.1.2.1==r6.1.2.1.2.1)&&((r5.1.2.1.2.2.1==r6.1.2.1.2.2.1)&&true)))&&true))) fun r11 =>
 br r11 (
 br (r5.2.1==r6.2.1) (
 br (r7.1==r8.1) (
 br (r7.2.1==r8.2.1) (
 br (r9.1.toList==r10.1.toList) (
 br (r9.2.1==r10.2.1) (
 bd (gX.f lf) fun r12 =>
 some (r12.1,())) (
 some (false,()))) (
 some (false,()))) (
 some (false,()))) (
 some (false,()))) (
 some (false,()))) (
 some (false,()))))
def E(lf:Nat):Entry:=⟨[(.sl (.pair (.int .i64) (.pair (.int .i64) (.pair yV .unit)))),(.int .i64),(.sl .str)],[.bool],fun x=>f lf x.1 x.2.1 x.2.2.1⟩
theorem ok(lf:Nat):Ok 6 (E lf):=okT (an:=(annsL [])) (lf:=lf) (tC (dO.ok lf) (tC (gX.ok lf) (tC (pz.ok lf) (tC (dN.ok lf) (tC (kF.ok lf) (tC (bI.ok lf) (tC (dh.ok lf) (tC (dw.ok lf) (tC (iU.ok lf) tN))))))))) aoN fun x=>by kernel_rfl
end bY
end
end Go.Q
