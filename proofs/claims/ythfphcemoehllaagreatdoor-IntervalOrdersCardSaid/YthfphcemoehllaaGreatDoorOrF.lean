import Derived.Test.YthfphcemoehllaaGreatDoorProg
import Derived.KernelRfl
import Derived.Test.YthfphcemoehllaaGreatDoorE3
import Derived.Test.YthfphcemoehllaaGreatDoorU10
import Derived.Test.YthfphcemoehllaaGreatDoorU11
import Derived.Test.YthfphcemoehllaaGreatDoorU12
import Derived.Test.YthfphcemoehllaaGreatDoorU9
set_option linter.unusedVariables false
set_option linter.unusedSimpArgs false
set_option linter.unusedSectionVars false
namespace Go.Q
open Go Go.RowKit
open Go.Rx (br bd sIdx sCat sCut iQuo iRem)
set_option linter.unusedVariables false
set_option linter.unusedSimpArgs false
set_option maxRecDepth 100000
noncomputable section
noncomputable def surveyorlaw21_IntervalOrders.f (lf : Nat) (a0 : (Bool × (ByteArray × (ByteArray × Unit)))) (a1 : (Bool × (ByteArray × (ByteArray × Unit)))) : Option (Bool × Unit) :=
 bd (surveyorref21_Few.f lf a0 a1) fun r1 =>
 br (!r1.1) (
  bd (surveyorlaw21_awake.f lf) fun r2 =>
  some (r2.1, ())) (
  bd (interval_Leq.f lf a0 a1) fun r3 =>
  bd (surveyorref21_Leq.f lf a0 a1) fun r4 =>
  bd (interval_Join.f lf a0 a1) fun r5 =>
  bd (surveyorref21_Join.f lf a0 a1) fun r6 =>
  br (r3.1 != r4.1) (
   some (false, ())) (
   br (r3.2.1 != r4.2.1) (
    some (false, ())) (
    bd (some (!((r5.1.1 == r6.1.1) && ((r5.1.2.1 == r6.1.2.1) && ((r5.1.2.2.1 == r6.1.2.2.1) && true))))) fun r7 =>
    br r7 (
     some (false, ())) (
     br (r5.2.1 != r6.2.1) (
      some (false, ())) (
      bd (interval_Meet.f lf a0 a1) fun r8 =>
      bd (surveyorref21_Meet.f lf a0 a1) fun r9 =>
      bd (interval_Neg.f lf a0) fun r10 =>
      bd (surveyorref21_Neg.f lf a0) fun r11 =>
      bd (some ((r8.1.1 == r9.1.1) && ((r8.1.2.1 == r9.1.2.1) && ((r8.1.2.2.1 == r9.1.2.2.1) && true)))) fun r12 =>
      br r12 (
       br (r8.2.1 == r9.2.1) (
        bd (some ((r10.1.1 == r11.1.1) && ((r10.1.2.1 == r11.1.2.1) && ((r10.1.2.2.1 == r11.1.2.2.1) && true)))) fun r13 =>
        br r13 (
         br (r10.2.1 == r11.2.1) (
          bd (surveyorlaw21_awake.f lf) fun r14 =>
          some (r14.1, ())) (
          some (false, ()))) (
         some (false, ()))) (
        some (false, ()))) (
       some (false, ())))))))
noncomputable def surveyorlaw21_IntervalOrders.E (lf : Nat) : Entry := ⟨[(.pair .bool (.pair .str (.pair .str .unit))), (.pair .bool (.pair .str (.pair .str .unit)))], [.bool], fun x => surveyorlaw21_IntervalOrders.f lf x.1 x.2.1⟩
theorem surveyorlaw21_IntervalOrders.ev (lf : Nat) (x : Tys (surveyorlaw21_IntervalOrders.E lf).ps) : (surveyorlaw21_IntervalOrders.E lf).f x = runQ Proofs.Tryz.prog (fun _ => FA.none) noLs (lookT [(11, surveyorref21_Few.E lf), (12, surveyorlaw21_awake.E lf), (22, interval_Leq.E lf), (25, interval_Join.E lf), (26, interval_Meet.E lf), (32, surveyorref21_Leq.E lf), (33, surveyorref21_Join.E lf), (34, surveyorref21_Meet.E lf), (35, interval_Neg.E lf), (36, surveyorref21_Neg.E lf)]) (lf + 40) 14 6 7 (surveyorlaw21_IntervalOrders.E lf).ps (surveyorlaw21_IntervalOrders.E lf).rs x := by kernel_rfl
theorem surveyorlaw21_IntervalOrders.ok (lf : Nat) : EntryOK Proofs.Tryz.prog TabG 7 (surveyorlaw21_IntervalOrders.E lf) := entryT (lookT_cons (surveyorref21_Few.ok lf) (lookT_cons (surveyorlaw21_awake.ok lf) (lookT_cons (interval_Leq.ok lf) (lookT_cons (interval_Join.ok lf) (lookT_cons (interval_Meet.ok lf) (lookT_cons (surveyorref21_Leq.ok lf) (lookT_cons (surveyorref21_Join.ok lf) (lookT_cons (surveyorref21_Meet.ok lf) (lookT_cons (interval_Neg.ok lf) (lookT_cons (surveyorref21_Neg.ok lf) lookT_nil)))))))))) (annsOK_none fun _ => rfl) (surveyorlaw21_IntervalOrders.ev lf)
end
end Go.Q
