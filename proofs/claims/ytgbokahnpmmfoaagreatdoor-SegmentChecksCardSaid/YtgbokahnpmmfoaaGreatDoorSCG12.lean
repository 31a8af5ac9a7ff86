import Derived.Test.YtgbokahnpmmfoaaGreatDoorProg
import Derived.KernelRfl
import Derived.Test.YtgbokahnpmmfoaaGreatDoorSCE3
import Derived.Test.YtgbokahnpmmfoaaGreatDoorSCG10
import Derived.Test.YtgbokahnpmmfoaaGreatDoorSCG11
import Derived.Test.YtgbokahnpmmfoaaGreatDoorSCG6
import Derived.Test.YtgbokahnpmmfoaaGreatDoorSCG7
set_option linter.unusedVariables false
set_option linter.unusedSimpArgs false
set_option linter.unusedSectionVars false
set_option maxRecDepth 100000
namespace Go.Q
open Go Go.RowKit
open Go.Rx (br bd sIdx sCat sCut iQuo iRem)
noncomputable section
namespace surveyorlaw33_SegmentChecks
def f(lf:Nat)(a0:List (Int×(Int×(TV×Unit))))(a1:Int)(a2:List TV):Option (Bool×Unit) :=
 bd (surveyorref33_Few.f lf a0) fun r1 =>
 br (!r1.1) (
 bd (surveyorlaw33_awake.f lf) fun r2 =>
 some (r2.1,())) (
 bd (surveyorref33_FewValues.f lf a2) fun r3 =>
 br (!r3.1) (
 bd (surveyorlaw33_awake.f lf) fun r4 =>
 some (r4.1,())) (
 bd (surveyorref23_Empty.f lf) fun r5 =>
 br (decide (((a2.length:Nat):Int) > 0)) (
 bd (idxL a2 0) fun y6 =>
 bd (segment_Make.f lf a2) fun r7 =>
 bd (surveyorref33_Make.f lf a2) fun r8 =>
 bd (segment_Fill.f lf a1 y6) fun r9 =>
 bd (surveyorref33_Fill.f lf a1 y6) fun r10 =>
 bd (segment_Check.f lf a0 a1) fun r11 =>
 bd (surveyorref33_Check.f lf a0 a1) fun r12 =>
 br (r11.1==r12.1) (
 bd (surveyorref33_Same.f lf r7.1 r8.1) fun r13 =>
 br r13.1 (
 br (r7.2.1==r8.2.1) (
 bd (surveyorref33_Same.f lf r9.1 r10.1) fun r14 =>
 br r14.1 (
 br (r9.2.1==r10.2.1) (
 bd (surveyorlaw33_awake.f lf) fun r15 =>
 some (r15.1,())) (
 some (false,()))) (
 some (false,()))) (
 some (false,()))) (
 some (false,()))) (
 some (false,()))) (
 bd (segment_Make.f lf a2) fun r16 =>
 bd (surveyorref33_Make.f lf a2) fun r17 =>
 bd (segment_Fill.f lf a1 r5.1) fun r18 =>
 bd (surveyorref33_Fill.f lf a1 r5.1) fun r19 =>
 bd (segment_Check.f lf a0 a1) fun r20 =>
 bd (surveyorref33_Check.f lf a0 a1) fun r21 =>
 br (r20.1==r21.1) (
 bd (surveyorref33_Same.f lf r16.1 r17.1) fun r22 =>
 br r22.1 (
 br (r16.2.1==r17.2.1) (
 bd (surveyorref33_Same.f lf r18.1 r19.1) fun r23 =>
 br r23.1 (
 br (r18.2.1==r19.2.1) (
 bd (surveyorlaw33_awake.f lf) fun r24 =>
 some (r24.1,())) (
 some (false,()))) (
 some (false,()))) (
 some (false,()))) (
 some (false,()))) (
 some (false,())))))
def E(lf:Nat):Entry:=⟨[(.sl (.pair (.int .i64) (.pair (.int .i64) (.pair yV .unit)))),(.int .i64),(.sl yV)],[.bool],fun x=>f lf x.1 x.2.1 x.2.2.1⟩
theorem ok(lf:Nat):Ok 4 (E lf):=okT (an:=(annsL [])) (lf:=lf) (tC (surveyorref33_Few.ok lf) (tC (surveyorlaw33_awake.ok lf) (tC (surveyorref33_Same.ok lf) (tC (surveyorref33_FewValues.ok lf) (tC (surveyorref23_Empty.ok lf) (tC (segment_Make.ok lf) (tC (surveyorref33_Make.ok lf) (tC (segment_Fill.ok lf) (tC (surveyorref33_Fill.ok lf) (tC (segment_Check.ok lf) (tC (surveyorref33_Check.ok lf) tN))))))))))) aoN fun x=>by kernel_rfl
end surveyorlaw33_SegmentChecks
end
end Go.Q
