import Derived.Test.YthfphcemoehllaaGreatDoorProg
import Derived.KernelRfl
import Derived.Test.YthfphcemoehllaaGreatDoorE3
import Derived.Test.YthfphcemoehllaaGreatDoorU10
import Derived.Test.YthfphcemoehllaaGreatDoorU11
import Derived.Test.YthfphcemoehllaaGreatDoorU12
import Derived.Test.YthfphcemoehllaaGreatDoorU6
import Derived.Test.YthfphcemoehllaaGreatDoorU7
set_option linter.unusedVariables false
set_option linter.unusedSimpArgs false
set_option linter.unusedSectionVars false
namespace Go.Q
open Go Go.RowKit
open Go.Rx (br bd sIdx sCat sCut iQuo iRem)
set_option linter.unusedVariables false
set_option linter.unusedSimpArgs false
set_option maxRecDepth 100000
noncomputable section
noncomputable def surveyorlaw21_IntervalWidens.f (lf : Nat) (a0 : (Bool × (ByteArray × (ByteArray × Unit)))) (a1 : (Bool × (ByteArray × (ByteArray × Unit)))) (a2 : (List ByteArray)) : Option (Bool × Unit) :=
 bd (surveyorref21_Few.f lf a0 a1) fun r1 =>
 br (!r1.1) (
  bd (surveyorlaw21_awake.f lf) fun r2 =>
  some (r2.1, ())) (
  br (decide (((a2.length : Nat) : Int) > 60)) (
   br (decide (((a2.length : Nat) : Int) ≤ 1024)) (
    bd (surveyorlaw21_awake.f lf) fun r3 =>
    some (r3.1, ())) (
    bd (interval_Widen.f lf a0 a1 a2) fun r4 =>
    bd (surveyorref21_Widen.f lf a0 a1 a2) fun r5 =>
    bd (interval_Narrow.f lf a0 a1) fun r6 =>
    bd (surveyorref21_Narrow.f lf a0 a1) fun r7 =>
    bd (interval_Format.f lf a0) fun r8 =>
    bd (surveyorref21_Format.f lf a0) fun r9 =>
    bd (some ((r4.1.1 == r5.1.1) && ((r4.1.2.1 == r5.1.2.1) && ((r4.1.2.2.1 == r5.1.2.2.1) && true)))) fun r10 =>
    br r10 (
     br (r4.2.1 == r5.2.1) (
      bd (some ((r6.1.1 == r7.1.1) && ((r6.1.2.1 == r7.1.2.1) && ((r6.1.2.2.1 == r7.1.2.2.1) && true)))) fun r11 =>
      br r11 (
       br (r6.2.1 == r7.2.1) (
        br (r8.1.toList == r9.1.toList) (
         br (r8.2.1 == r9.2.1) (
          bd (surveyorlaw21_awake.f lf) fun r12 =>
          some (r12.1, ())) (
          some (false, ()))) (
         some (false, ()))) (
        some (false, ()))) (
       some (false, ()))) (
      some (false, ()))) (
     some (false, ())))) (
   bd (interval_Widen.f lf a0 a1 a2) fun r13 =>
   bd (surveyorref21_Widen.f lf a0 a1 a2) fun r14 =>
   bd (interval_Narrow.f lf a0 a1) fun r15 =>
   bd (surveyorref21_Narrow.f lf a0 a1) fun r16 =>
   bd (interval_Format.f lf a0) fun r17 =>
   bd (surveyorref21_Format.f lf a0) fun r18 =>
   bd (some ((r13.1.1 == r14.1.1) && ((r13.1.2.1 == r14.1.2.1) && ((r13.1.2.2.1 == r14.1.2.2.1) && true)))) fun r19 =>
   br r19 (
    br (r13.2.1 == r14.2.1) (
     bd (some ((r15.1.1 == r16.1.1) && ((r15.1.2.1 == r16.1.2.1) && ((r15.1.2.2.1 == r16.1.2.2.1) && true)))) fun r20 =>
     br r20 (
      br (r15.2.1 == r16.2.1) (
       br (r17.1.toList == r18.1.toList) (
        br (r17.2.1 == r18.2.1) (
         bd (surveyorlaw21_awake.f lf) fun r21 =>
         some (r21.1, ())) (
         some (false, ()))) (
        some (false, ()))) (
       some (false, ()))) (
      some (false, ()))) (
     some (false, ()))) (
    some (false, ()))))
noncomputable def surveyorlaw21_IntervalWidens.E (lf : Nat) : Entry := ⟨[(.pair .bool (.pair .str (.pair .str .unit))), (.pair .bool (.pair .str (.pair .str .unit))), (.sl .str)], [.bool], fun x => surveyorlaw21_IntervalWidens.f lf x.1 x.2.1 x.2.2.1⟩
theorem surveyorlaw21_IntervalWidens.ev (lf : Nat) (x : Tys (surveyorlaw21_IntervalWidens.E lf).ps) : (surveyorlaw21_IntervalWidens.E lf).f x = runQ Proofs.Tryz.prog (fun _ => FA.none) noLs (lookT [(11, surveyorref21_Few.E lf), (12, surveyorlaw21_awake.E lf), (13, interval_Widen.E lf), (14, surveyorref21_Widen.E lf), (15, interval_Narrow.E lf), (16, surveyorref21_Narrow.E lf), (17, interval_Format.E lf), (18, surveyorref21_Format.E lf)]) (lf + 40) 14 6 3 (surveyorlaw21_IntervalWidens.E lf).ps (surveyorlaw21_IntervalWidens.E lf).rs x := by kernel_rfl
theorem surveyorlaw21_IntervalWidens.ok (lf : Nat) : EntryOK Proofs.Tryz.prog TabG 3 (surveyorlaw21_IntervalWidens.E lf) := entryT (lookT_cons (surveyorref21_Few.ok lf) (lookT_cons (surveyorlaw21_awake.ok lf) (lookT_cons (interval_Widen.ok lf) (lookT_cons (surveyorref21_Widen.ok lf) (lookT_cons (interval_Narrow.ok lf) (lookT_cons (surveyorref21_Narrow.ok lf) (lookT_cons (interval_Format.ok lf) (lookT_cons (surveyorref21_Format.ok lf) lookT_nil)))))))) (annsOK_none fun _ => rfl) (surveyorlaw21_IntervalWidens.ev lf)
end
end Go.Q
