import Derived.Test.YtniehiachpcdeaaGreatDoorProg
import Derived.KernelRfl
import Derived.Test.YtniehiachpcdeaaGreatDoorTVE3
import Derived.Test.YtniehiachpcdeaaGreatDoorTVG5
set_option linter.unusedVariables false
set_option linter.unusedSimpArgs false
set_option linter.unusedSectionVars false
set_option maxRecDepth 100000
namespace Go.Q
open Go Go.RowKit
open Go.Rx (br bd sIdx sCat sCut iQuo iRem)
noncomputable section
namespace surveyorref23_Empty
def f (lf : Nat)  : Option (TV × Unit) :=
 bd (surveyorref21_None.f lf) fun r1 =>
 bd (surveyorref22_Empty.f lf) fun r2 =>
 some ((r1.1, r2.1, ()), ())
def E (lf : Nat) : Entry := ⟨[], [yV], fun x => f lf ⟩
theorem ok (lf : Nat) : Ok 22 (E lf) := okT (an := (annsL [])) (lf := lf) (tC (surveyorref22_Empty.ok lf) (tC (surveyorref21_None.ok lf) tN)) aoN fun x => by kernel_rfl
end surveyorref23_Empty
namespace surveyorref23_Top
def f (lf : Nat)  : Option (TV × Unit) :=
 bd (surveyorref22_Top.f lf) fun r1 =>
 some (((false, (⟨#[]⟩ : ByteArray), (⟨#[]⟩ : ByteArray), ()), r1.1, ()), ())
def E (lf : Nat) : Entry := ⟨[], [yV], fun x => f lf ⟩
theorem ok (lf : Nat) : Ok 65 (E lf) := okT (an := (annsL [])) (lf := lf) (tC (surveyorref22_Top.ok lf) tN) aoN fun x => by kernel_rfl
end surveyorref23_Top
namespace surveyorref23_One
def f (lf : Nat) (a0 : ByteArray) : Option (TV × Unit) :=
 bd (surveyorref22_Single.f lf a0) fun r1 =>
 br (!(r1.1.2.1.toList == (⟨#[48]⟩ : ByteArray).toList)) (
 bd (surveyorref23_Top.f lf) fun r2 =>
 some (r2.1, ())) (
 some (((false, a0, a0, ()), r1.1, ()), ()))
def E (lf : Nat) : Entry := ⟨[.str], [yV], fun x => f lf x.1⟩
theorem ok (lf : Nat) : Ok 29 (E lf) := okT (an := (annsL [])) (lf := lf) (tC (surveyorref23_Top.ok lf) (tC (surveyorref22_Single.ok lf) tN)) aoN fun x => by kernel_rfl
end surveyorref23_One
namespace surveyorref23_Reduced
def f (lf : Nat) (a0 : TI) (a1 : TI) : Option (TV × Unit) :=
 br a0.1 (
 bd (surveyorref23_Empty.f lf) fun r1 =>
 some (r1.1, ())) (
 br a1.1 (
 bd (surveyorref23_Empty.f lf) fun r2 =>
 some (r2.1, ())) (
 br (a1.2.1.toList == (⟨#[48]⟩ : ByteArray).toList) (
 bd (surveyorref21_In.f lf a0 a1.2.2.1) fun r3 =>
 br (!r3.1) (
 bd (surveyorref23_Empty.f lf) fun r4 =>
 some (r4.1, ())) (
 some (((false, a1.2.2.1, a1.2.2.1, ()), a1, ()), ()))) (
 br (!(a0.2.1.toList == (⟨#[]⟩ : ByteArray).toList)) (
 bd (surveyorref22_Above.f lf a1 a0.2.1) fun r5 =>
 br (!(a0.2.2.1.toList == (⟨#[]⟩ : ByteArray).toList)) (
 bd (surveyorref22_Below.f lf a1 a0.2.2.1) fun r6 =>
 br (!(r5.1.toList == (⟨#[]⟩ : ByteArray).toList)) (
 br (!(r6.1.toList == (⟨#[]⟩ : ByteArray).toList)) (
 bd (surveyorref01_Less.f lf r6.1 r5.1) fun r7 =>
 br r7.1 (
 bd (surveyorref23_Empty.f lf) fun r8 =>
 some (r8.1, ())) (
 br (r5.1.toList == r6.1.toList) (
 bd (surveyorref23_One.f lf r5.1) fun r9 =>
 some (r9.1, ())) (
 bd (surveyorref21_Range.f lf r5.1 r6.1) fun r10 =>
 some ((r10.1, a1, ()), ())))) (
 bd (surveyorref21_Range.f lf r5.1 r6.1) fun r11 =>
 some ((r11.1, a1, ()), ()))) (
 bd (surveyorref21_Range.f lf r5.1 r6.1) fun r12 =>
 some ((r12.1, a1, ()), ()))) (
 br (!(r5.1.toList == (⟨#[]⟩ : ByteArray).toList)) (
 br (!(a0.2.2.1.toList == (⟨#[]⟩ : ByteArray).toList)) (
 bd (surveyorref01_Less.f lf a0.2.2.1 r5.1) fun r13 =>
 br r13.1 (
 bd (surveyorref23_Empty.f lf) fun r14 =>
 some (r14.1, ())) (
 br (r5.1.toList == a0.2.2.1.toList) (
 bd (surveyorref23_One.f lf r5.1) fun r15 =>
 some (r15.1, ())) (
 bd (surveyorref21_Range.f lf r5.1 a0.2.2.1) fun r16 =>
 some ((r16.1, a1, ()), ())))) (
 bd (surveyorref21_Range.f lf r5.1 a0.2.2.1) fun r17 =>
 some ((r17.1, a1, ()), ()))) (
 bd (surveyorref21_Range.f lf r5.1 a0.2.2.1) fun r18 =>
 some ((r18.1, a1, ()), ())))) (
 br (!(a0.2.2.1.toList == (⟨#[]⟩ : ByteArray).toList)) (
 bd (surveyorref22_Below.f lf a1 a0.2.2.1) fun r19 =>
 br (!(a0.2.1.toList == (⟨#[]⟩ : ByteArray).toList)) (
 br (!(r19.1.toList == (⟨#[]⟩ : ByteArray).toList)) (
 bd (surveyorref01_Less.f lf r19.1 a0.2.1) fun r20 =>
 br r20.1 (
 bd (surveyorref23_Empty.f lf) fun r21 =>
 some (r21.1, ())) (
 br (a0.2.1.toList == r19.1.toList) (
 bd (surveyorref23_One.f lf a0.2.1) fun r22 =>
 some (r22.1, ())) (
 bd (surveyorref21_Range.f lf a0.2.1 r19.1) fun r23 =>
 some ((r23.1, a1, ()), ())))) (
 bd (surveyorref21_Range.f lf a0.2.1 r19.1) fun r24 =>
 some ((r24.1, a1, ()), ()))) (
 bd (surveyorref21_Range.f lf a0.2.1 r19.1) fun r25 =>
 some ((r25.1, a1, ()), ()))) (
 br (!(a0.2.1.toList == (⟨#[]⟩ : ByteArray).toList)) (
 br (!(a0.2.2.1.toList == (⟨#[]⟩ : ByteArray).toList)) (
 bd (surveyorref01_Less.f lf a0.2.2.1 a0.2.1) fun r26 =>
 br r26.1 (
 bd (surveyorref23_Empty.f lf) fun r27 =>
 some (r27.1, ())) (
 br (a0.2.1.toList == a0.2.2.1.toList) (
 bd (surveyorref23_One.f lf a0.2.1) fun r28 =>
 some (r28.1, ())) (
 bd (surveyorref21_Range.f lf a0.2.1 a0.2.2.1) fun r29 =>
 some ((r29.1, a1, ()), ())))) (
 bd (surveyorref21_Range.f lf a0.2.1 a0.2.2.1) fun r30 =>
 some ((r30.1, a1, ()), ()))) (
 bd (surveyorref21_Range.f lf a0.2.1 a0.2.2.1) fun r31 =>
 some ((r31.1, a1, ()), ())))))))
def E (lf : Nat) : Entry := ⟨[yI, yI], [yV], fun x => f lf x.1 x.2.1⟩
theorem ok (lf : Nat) : Ok 64 (E lf) := okT (an := (annsL [])) (lf := lf) (tC (surveyorref23_Empty.ok lf) (tC (surveyorref23_One.ok lf) (tC (surveyorref21_In.ok lf) (tC (surveyorref21_Range.ok lf) (tC (surveyorref22_Above.ok lf) (tC (surveyorref22_Below.ok lf) (tC (surveyorref01_Less.ok lf) tN))))))) aoN fun x => by kernel_rfl
end surveyorref23_Reduced
namespace surveyorref23_Check
def f (lf : Nat) (a0 : TV) : Option (Int × Unit) :=
 bd (surveyorref21_Check.f lf a0.1) fun r1 =>
 br (r1.1 != 0) (
 some (r1.1, ())) (
 bd (surveyorref22_Check.f lf a0.2.1) fun r2 =>
 br (r2.1 != 0) (
 some (r2.1, ())) (
 bd (surveyorref23_Reduced.f lf a0.1 a0.2.1) fun r3 =>
 bd (some (!(((r3.1.1.1 == a0.1.1) && ((r3.1.1.2.1 == a0.1.2.1) && ((r3.1.1.2.2.1 == a0.1.2.2.1) && true))) && (((r3.1.2.1.1 == a0.2.1.1) && ((r3.1.2.1.2.1 == a0.2.1.2.1) && ((r3.1.2.1.2.2.1 == a0.2.1.2.2.1) && true))) && true)))) fun r4 =>
 br r4 (
 some (3, ())) (
 some (0, ()))))
def E (lf : Nat) : Entry := ⟨[yV], [(.int .i64)], fun x => f lf x.1⟩
theorem ok (lf : Nat) : Ok 43 (E lf) := okT (an := (annsL [])) (lf := lf) (tC (surveyorref23_Reduced.ok lf) (tC (surveyorref21_Check.ok lf) (tC (surveyorref22_Check.ok lf) tN))) aoN fun x => by kernel_rfl
end surveyorref23_Check
end
end Go.Q
