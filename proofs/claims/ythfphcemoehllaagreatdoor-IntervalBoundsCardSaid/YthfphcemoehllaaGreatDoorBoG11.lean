import Derived.Test.YthfphcemoehllaaGreatDoorProg
import Derived.KernelRfl
import Derived.Test.YthfphcemoehllaaGreatDoorBoG10
import Derived.Test.YthfphcemoehllaaGreatDoorBoG8
import Derived.Test.YthfphcemoehllaaGreatDoorBoG9
import Derived.Test.YthfphcemoehllaaGreatDoorE3
set_option linter.unusedVariables false
set_option linter.unusedSimpArgs false
set_option linter.unusedSectionVars false
namespace Go.Q
open Go Go.RowKit
open Go.Rx (br bd sIdx sCat sCut iQuo iRem)
set_option linter.unusedVariables false
set_option linter.unusedSimpArgs false
set_option maxRecDepth 100000
noncomputable section
noncomputable def surveyorlaw21_IntervalBounds_1.f (lf : Nat) (a0 : (Bool × (ByteArray × (ByteArray × Unit)))) (a1 : (Bool × (ByteArray × (ByteArray × Unit)))) : Option (Bool × Unit) :=
 bd (interval_Leq.f lf a0 a1) fun r1 =>
 br r1.1 (
  some ((r1.2.1 == 0), ())) (
  some (false, ()))
noncomputable def surveyorlaw21_IntervalBounds_1.E (lf : Nat) : Entry := ⟨[(.pair .bool (.pair .str (.pair .str .unit))), (.pair .bool (.pair .str (.pair .str .unit)))], [.bool], fun x => surveyorlaw21_IntervalBounds_1.f lf x.1 x.2.1⟩
theorem surveyorlaw21_IntervalBounds_1.ev (lf : Nat) (x : Tys (surveyorlaw21_IntervalBounds_1.E lf).ps) : (surveyorlaw21_IntervalBounds_1.E lf).f x = runQ Proofs.Tryz.prog (fun _ => FA.none) noLs (lookT [(22, interval_Leq.E lf)]) (lf + 40) 14 6 24 (surveyorlaw21_IntervalBounds_1.E lf).ps (surveyorlaw21_IntervalBounds_1.E lf).rs x := by kernel_rfl
theorem surveyorlaw21_IntervalBounds_1.ok (lf : Nat) : EntryOK Proofs.Tryz.prog TabG 24 (surveyorlaw21_IntervalBounds_1.E lf) := entryT (lookT_cons (interval_Leq.ok lf) lookT_nil) (annsOK_none fun _ => rfl) (surveyorlaw21_IntervalBounds_1.ev lf)
noncomputable def surveyorlaw21_IntervalBounds.f (lf : Nat) (a0 : (Bool × (ByteArray × (ByteArray × Unit)))) (a1 : (Bool × (ByteArray × (ByteArray × Unit)))) (a2 : (Bool × (ByteArray × (ByteArray × Unit)))) : Option (Bool × Unit) :=
 bd (surveyorlaw21_right.f lf a0 a1) fun r1 =>
 br (!r1.1) (
  bd (surveyorlaw21_awake.f lf) fun r2 =>
  some (r2.1, ())) (
  bd (surveyorref21_Check.f lf a2) fun r3 =>
  br (r3.1 != 0) (
   bd (surveyorlaw21_awake.f lf) fun r4 =>
   some (r4.1, ())) (
   bd (interval_Join.f lf a0 a1) fun r5 =>
   bd (interval_Meet.f lf a0 a1) fun r6 =>
   br (r5.2.1 != 0) (
    some (false, ())) (
    br (r6.2.1 != 0) (
     some (false, ())) (
     bd (surveyorlaw21_IntervalBounds_1.f lf a0 r5.1) fun r7 =>
     br (!r7.1) (
      some (false, ())) (
      bd (surveyorlaw21_IntervalBounds_1.f lf a1 r5.1) fun r8 =>
      br (!r8.1) (
       some (false, ())) (
       bd (surveyorlaw21_IntervalBounds_1.f lf r6.1 a0) fun r9 =>
       br (!r9.1) (
        some (false, ())) (
        bd (surveyorlaw21_IntervalBounds_1.f lf r6.1 a1) fun r10 =>
        br (!r10.1) (
         some (false, ())) (
         bd (surveyorlaw21_IntervalBounds_1.f lf r5.1 a2) fun r11 =>
         bd (surveyorlaw21_IntervalBounds_1.f lf a0 a2) fun r12 =>
         br r12.1 (
          bd (surveyorlaw21_IntervalBounds_1.f lf a1 a2) fun r13 =>
          br (r11.1 == r13.1) (
           bd (surveyorlaw21_IntervalBounds_1.f lf a2 r6.1) fun r14 =>
           bd (surveyorlaw21_IntervalBounds_1.f lf a2 a0) fun r15 =>
           br r15.1 (
            bd (surveyorlaw21_IntervalBounds_1.f lf a2 a1) fun r16 =>
            br (r14.1 == r16.1) (
             bd (surveyorlaw21_IntervalBounds_1.f lf a0 a1) fun r17 =>
             br r17.1 (
              bd (surveyorlaw21_IntervalBounds_1.f lf a1 a0) fun r18 =>
              bd (some ((a0.1 == a1.1) && ((a0.2.1 == a1.2.1) && ((a0.2.2.1 == a1.2.2.1) && true)))) fun r19 =>
              br (r18.1 == r19) (
               bd (surveyorlaw21_awake.f lf) fun r20 =>
               some (r20.1, ())) (
               some (false, ()))) (
              bd (some ((a0.1 == a1.1) && ((a0.2.1 == a1.2.1) && ((a0.2.2.1 == a1.2.2.1) && true)))) fun r21 =>
              br (false == r21) (
               bd (surveyorlaw21_awake.f lf) fun r22 =>
               some (r22.1, ())) (
               some (false, ())))) (
             some (false, ()))) (
            br (r14.1 == false) (
             bd (surveyorlaw21_IntervalBounds_1.f lf a0 a1) fun r23 =>
             br r23.1 (
              bd (surveyorlaw21_IntervalBounds_1.f lf a1 a0) fun r24 =>
              bd (some ((a0.1 == a1.1) && ((a0.2.1 == a1.2.1) && ((a0.2.2.1 == a1.2.2.1) && true)))) fun r25 =>
              br (r24.1 == r25) (
               bd (surveyorlaw21_awake.f lf) fun r26 =>
               some (r26.1, ())) (
               some (false, ()))) (
              bd (some ((a0.1 == a1.1) && ((a0.2.1 == a1.2.1) && ((a0.2.2.1 == a1.2.2.1) && true)))) fun r27 =>
              br (false == r27) (
               bd (surveyorlaw21_awake.f lf) fun r28 =>
               some (r28.1, ())) (
               some (false, ())))) (
             some (false, ())))) (
           some (false, ()))) (
          br (r11.1 == false) (
           bd (surveyorlaw21_IntervalBounds_1.f lf a2 r6.1) fun r29 =>
           bd (surveyorlaw21_IntervalBounds_1.f lf a2 a0) fun r30 =>
           br r30.1 (
            bd (surveyorlaw21_IntervalBounds_1.f lf a2 a1) fun r31 =>
            br (r29.1 == r31.1) (
             bd (surveyorlaw21_IntervalBounds_1.f lf a0 a1) fun r32 =>
             br r32.1 (
              bd (surveyorlaw21_IntervalBounds_1.f lf a1 a0) fun r33 =>
              bd (some ((a0.1 == a1.1) && ((a0.2.1 == a1.2.1) && ((a0.2.2.1 == a1.2.2.1) && true)))) fun r34 =>
              br (r33.1 == r34) (
               bd (surveyorlaw21_awake.f lf) fun r35 =>
               some (r35.1, ())) (
               some (false, ()))) (
              bd (some ((a0.1 == a1.1) && ((a0.2.1 == a1.2.1) && ((a0.2.2.1 == a1.2.2.1) && true)))) fun r36 =>
              br (false == r36) (
               bd (surveyorlaw21_awake.f lf) fun r37 =>
               some (r37.1, ())) (
               some (false, ())))) (
             some (false, ()))) (
            br (r29.1 == false) (
             bd (surveyorlaw21_IntervalBounds_1.f lf a0 a1) fun r38 =>
             br r38.1 (
              bd (surveyorlaw21_IntervalBounds_1.f lf a1 a0) fun r39 =>
              bd (some ((a0.1 == a1.1) && ((a0.2.1 == a1.2.1) && ((a0.2.2.1 == a1.2.2.1) && true)))) fun r40 =>
              br (r39.1 == r40) (
               bd (surveyorlaw21_awake.f lf) fun r41 =>
               some (r41.1, ())) (
               some (false, ()))) (
              bd (some ((a0.1 == a1.1) && ((a0.2.1 == a1.2.1) && ((a0.2.2.1 == a1.2.2.1) && true)))) fun r42 =>
              br (false == r42) (
               bd (surveyorlaw21_awake.f lf) fun r43 =>
               some (r43.1, ())) (
               some (false, ())))) (
             some (false, ())))) (
           some (false, ())))))))))))
noncomputable def surveyorlaw21_IntervalBounds.E (lf : Nat) : Entry := ⟨[(.pair .bool (.pair .str (.pair .str .unit))), (.pair .bool (.pair .str (.pair .str .unit))), (.pair .bool (.pair .str (.pair .str .unit)))], [.bool], fun x => surveyorlaw21_IntervalBounds.f lf x.1 x.2.1 x.2.2.1⟩
theorem surveyorlaw21_IntervalBounds.ev (lf : Nat) (x : Tys (surveyorlaw21_IntervalBounds.E lf).ps) : (surveyorlaw21_IntervalBounds.E lf).f x = runQ Proofs.Tryz.prog (fun _ => FA.none) noLs (lookT [(12, surveyorlaw21_awake.E lf), (19, surveyorref21_Check.E lf), (23, surveyorlaw21_right.E lf), (24, surveyorlaw21_IntervalBounds_1.E lf), (25, interval_Join.E lf), (26, interval_Meet.E lf)]) (lf + 40) 14 6 5 (surveyorlaw21_IntervalBounds.E lf).ps (surveyorlaw21_IntervalBounds.E lf).rs x := by kernel_rfl
theorem surveyorlaw21_IntervalBounds.ok (lf : Nat) : EntryOK Proofs.Tryz.prog TabG 5 (surveyorlaw21_IntervalBounds.E lf) := entryT (lookT_cons (surveyorlaw21_awake.ok lf) (lookT_cons (surveyorref21_Check.ok lf) (lookT_cons (surveyorlaw21_right.ok lf) (lookT_cons (surveyorlaw21_IntervalBounds_1.ok lf) (lookT_cons (interval_Join.ok lf) (lookT_cons (interval_Meet.ok lf) lookT_nil)))))) (annsOK_none fun _ => rfl) (surveyorlaw21_IntervalBounds.ev lf)
end
end Go.Q
