import Derived.Test.YtlikbeopppeojaaGreatDoorProg
import Derived.KernelRfl
import Derived.Test.YtlikbeopppeojaaGreatDoorEHE3
import Derived.Test.YtlikbeopppeojaaGreatDoorEHG7
import Derived.Test.YtlikbeopppeojaaGreatDoorEHG8
set_option linter.unusedVariables false
set_option linter.unusedSimpArgs false
set_option linter.unusedSectionVars false
set_option maxRecDepth 100000
namespace Go.Q
open Go.IntKind (i64)
open Go Go.RowKit
open Go.Rx (br bd sIdx sCat sCut iQuo iRem iShl)
noncomputable section
namespace surveyorlaw24_span
def f (lf : Nat) (a0 : ByteArray) (a1 : ByteArray) : Option (TV × Unit) :=
 some (((false, a0, a1, ()), (false, (⟨#[49]⟩ : ByteArray), (⟨#[48]⟩ : ByteArray), ()), ()), ())
def E (lf : Nat) : Entry := ⟨[.str, .str], [yV], fun x => f lf x.1 x.2.1⟩
theorem ok (lf : Nat) : Ok 18 (E lf) := okT (an := (annsL [])) (lf := lf) tN aoN fun x => by kernel_rfl
end surveyorlaw24_span
namespace surveyorlaw24_two
def f (lf : Nat) (a0 : Int) (a1 : EX) (a2 : EX) : Option (EX × Unit) :=
 bd (surveyorref12_Two.f lf a0 (EX.mk a1.i a1.s a1.j a1.l) (EX.mk a2.i a2.s a2.j a2.l)) fun r1 =>
 some ((EX.mk r1.1.i r1.1.s r1.1.j r1.1.l), ())
def E (lf : Nat) : Entry := ⟨[(.int .i64), (.rc false), (.rc false)], [(.rc false)], fun x => f lf x.1 x.2.1 x.2.2.1⟩
theorem ok (lf : Nat) : Ok 22 (E lf) := okT (an := (annsL [])) (lf := lf) (tC (surveyorref12_Two.ok lf) tN) aoN fun x => by kernel_rfl
end surveyorlaw24_two
namespace surveyorlaw24_compare
def f (lf : Nat) (a0 : Int) (a1 : EX) (a2 : EX) : Option (CX × Unit) :=
 bd (surveyorref13_Compare.f lf a0 (EX.mk a1.i a1.s a1.j a1.l) (EX.mk a2.i a2.s a2.j a2.l)) fun r1 =>
 some ((CX.mk r1.1.i r1.1.l r1.1.m), ())
def E (lf : Nat) : Entry := ⟨[(.int .i64), (.rc false), (.rc false)], [(.rc true)], fun x => f lf x.1 x.2.1 x.2.2.1⟩
theorem ok (lf : Nat) : Ok 26 (E lf) := okT (an := (annsL [])) (lf := lf) (tC (surveyorref13_Compare.ok lf) tN) aoN fun x => by kernel_rfl
end surveyorlaw24_compare
namespace surveyorlaw24_awake
def f (lf : Nat)  : Option (Bool × Unit) :=
 bd (surveyorlaw24_span.f lf (⟨#[48]⟩ : ByteArray) (⟨#[57]⟩ : ByteArray)) fun r1 =>
 bd (surveyorlaw24_span.f lf (⟨#[50]⟩ : ByteArray) (⟨#[52]⟩ : ByteArray)) fun r2 =>
 bd (surveyorref12_Var.f lf 0) fun r3 =>
 bd (surveyorref12_Var.f lf 1) fun r4 =>
 bd (surveyorref12_Num.f lf (⟨#[50]⟩ : ByteArray)) fun r5 =>
 bd (surveyorlaw24_two.f lf 5 (EX.mk r3.1.i r3.1.s r3.1.j r3.1.l) (EX.mk r5.1.i r5.1.s r5.1.j r5.1.l)) fun r6 =>
 bd (surveyorref12_Num.f lf (⟨#[49]⟩ : ByteArray)) fun r7 =>
 bd (surveyorlaw24_two.f lf 3 (EX.mk r6.1.i r6.1.s r6.1.j r6.1.l) (EX.mk r7.1.i r7.1.s r7.1.j r7.1.l)) fun r8 =>
 bd (env_Eval.f lf [r1.1, r2.1] (EX.mk r8.1.i r8.1.s r8.1.j r8.1.l)) fun r9 =>
 bd (surveyorlaw24_two.f lf 6 (EX.mk r3.1.i r3.1.s r3.1.j r3.1.l) (EX.mk r4.1.i r4.1.s r4.1.j r4.1.l)) fun r10 =>
 bd (env_Assign.f lf [r1.1, r2.1] 0 (EX.mk r10.1.i r10.1.s r10.1.j r10.1.l)) fun r11 =>
 br ((i64.wrap (r9.2.1 + r11.2.2.1)) != 0) (
 some (false, ())) (
 br (!r11.2.1) (
 some (false, ())) (
 bd (some (!((r9.1.1.1 == false) && ((r9.1.1.2.1 == (⟨#[49]⟩ : ByteArray)) && ((r9.1.1.2.2.1 == (⟨#[49, 57]⟩ : ByteArray)) && true))))) fun r12 =>
 br r12 (
 some (false, ())) (
 bd (some (!((r9.1.2.1.1 == false) && ((r9.1.2.1.2.1 == (⟨#[50]⟩ : ByteArray)) && ((r9.1.2.1.2.2.1 == (⟨#[49]⟩ : ByteArray)) && true))))) fun r13 =>
 br r13 (
 some (false, ())) (
 bd (surveyorlaw24_span.f lf (⟨#[48]⟩ : ByteArray) (⟨#[52]⟩ : ByteArray)) fun r14 =>
 bd (surveyorref24_Same.f lf r11.1 [r14.1, r2.1]) fun r15 =>
 br (!r15.1) (
 some (false, ())) (
 bd (surveyorlaw24_two.f lf 3 (EX.mk r3.1.i r3.1.s r3.1.j r3.1.l) (EX.mk r4.1.i r4.1.s r4.1.j r4.1.l)) fun r16 =>
 bd (surveyorref12_Num.f lf (⟨#[53]⟩ : ByteArray)) fun r17 =>
 bd (env_Test.f lf [r1.1, r2.1] 4 (EX.mk r16.1.i r16.1.s r16.1.j r16.1.l) (EX.mk r17.1.i r17.1.s r17.1.j r17.1.l)) fun r18 =>
 bd (surveyorref12_Num.f lf (⟨#[50]⟩ : ByteArray)) fun r19 =>
 bd (surveyorlaw24_two.f lf 5 (EX.mk r19.1.i r19.1.s r19.1.j r19.1.l) (EX.mk r3.1.i r3.1.s r3.1.j r3.1.l)) fun r20 =>
 bd (surveyorref12_Num.f lf (⟨#[55]⟩ : ByteArray)) fun r21 =>
 bd (env_Test.f lf [r1.1, r2.1] 2 (EX.mk r20.1.i r20.1.s r20.1.j r20.1.l) (EX.mk r21.1.i r21.1.s r21.1.j r21.1.l)) fun r22 =>
 bd (surveyorref12_Num.f lf (⟨#[48]⟩ : ByteArray)) fun r23 =>
 bd (surveyorlaw24_compare.f lf 3 (EX.mk r3.1.i r3.1.s r3.1.j r3.1.l) (EX.mk r23.1.i r23.1.s r23.1.j r23.1.l)) fun r24 =>
 bd (env_Assume.f lf [r1.1, r2.1] (CX.mk r24.1.i r24.1.l r24.1.m)) fun r25 =>
 bd (surveyorref12_Num.f lf (⟨#[50]⟩ : ByteArray)) fun r26 =>
 bd (surveyorlaw24_compare.f lf 4 (EX.mk r3.1.i r3.1.s r3.1.j r3.1.l) (EX.mk r26.1.i r26.1.s r26.1.j r26.1.l)) fun r27 =>
 bd (surveyorref12_Num.f lf (⟨#[55]⟩ : ByteArray)) fun r28 =>
 bd (surveyorlaw24_compare.f lf 4 (EX.mk r28.1.i r28.1.s r28.1.j r28.1.l) (EX.mk r3.1.i r3.1.s r3.1.j r3.1.l)) fun r29 =>
 bd (surveyorref13_Two.f lf 8 (CX.mk r27.1.i r27.1.l r27.1.m) (CX.mk r29.1.i r29.1.l r29.1.m)) fun r30 =>
 bd (env_Assume.f lf [r1.1, r2.1] (CX.mk r30.1.i r30.1.l r30.1.m)) fun r31 =>
 br ((i64.wrap ((i64.wrap ((i64.wrap (r18.2.2.1 + r22.2.2.1)) + r25.2.2.1)) + r31.2.2.1)) != 0) (
 some (false, ())) (
 br (!r18.2.1) (
 some (false, ())) (
 br r22.2.1 (
 some (false, ())) (
 br (!r25.2.1) (
 some (false, ())) (
 br (!r31.2.1) (
 some (false, ())) (
 bd (surveyorlaw24_span.f lf (⟨#[48]⟩ : ByteArray) (⟨#[50]⟩ : ByteArray)) fun r32 =>
 bd (surveyorref24_Same.f lf r18.1 [r32.1, r2.1]) fun r33 =>
 br (!r33.1) (
 some (false, ())) (
 bd (surveyorlaw24_span.f lf (⟨#[49]⟩ : ByteArray) (⟨#[57]⟩ : ByteArray)) fun r34 =>
 bd (surveyorref24_Same.f lf r25.1 [r34.1, r2.1]) fun r35 =>
 br (!r35.1) (
 some (false, ())) (
 bd (surveyorref24_Same.f lf r31.1 [r1.1, r2.1]) fun r36 =>
 br (!r36.1) (
 some (false, ())) (
 bd (surveyorref12_Num.f lf (⟨#[51]⟩ : ByteArray)) fun r37 =>
 bd (env_Eval.f lf [r1.1, r2.1] (EX.mk r37.1.i r37.1.s r37.1.j r37.1.l)) fun r38 =>
 bd (surveyorref12_Num.f lf (⟨#[50]⟩ : ByteArray)) fun r39 =>
 bd (surveyorlaw24_two.f lf 6 (EX.mk r3.1.i r3.1.s r3.1.j r3.1.l) (EX.mk r39.1.i r39.1.s r39.1.j r39.1.l)) fun r40 =>
 bd (env_Impose.f lf [r1.1, r2.1] (EX.mk r40.1.i r40.1.s r40.1.j r40.1.l) r38.1) fun r41 =>
 bd (surveyorref12_Num.f lf (⟨#[49]⟩ : ByteArray)) fun r42 =>
 bd (surveyorlaw24_two.f lf 4 (EX.mk r3.1.i r3.1.s r3.1.j r3.1.l) (EX.mk r42.1.i r42.1.s r42.1.j r42.1.l)) fun r43 =>
 bd (env_Back.f lf [r1.1, r2.1] [r1.1, r2.1] 1 (EX.mk r43.1.i r43.1.s r43.1.j r43.1.l)) fun r44 =>
 br ((i64.wrap ((i64.wrap (r38.2.1 + r41.2.2.1)) + r44.2.2.1)) == 0) (
 br r41.2.1 (
 br r44.2.1 (
 bd (surveyorlaw24_span.f lf (⟨#[54]⟩ : ByteArray) (⟨#[55]⟩ : ByteArray)) fun r45 =>
 bd (surveyorref24_Same.f lf r41.1 [r45.1, r2.1]) fun r46 =>
 br r46.1 (
 bd (surveyorlaw24_span.f lf (⟨#[51]⟩ : ByteArray) (⟨#[53]⟩ : ByteArray)) fun r47 =>
 bd (surveyorref24_Same.f lf r44.1 [r47.1, r2.1]) fun r48 =>
 some (r48.1, ())) (
 some (false, ()))) (
 some (false, ()))) (
 some (false, ()))) (
 some (false, ())))))))))))))))
def E (lf : Nat) : Entry := ⟨[], [.bool], fun x => f lf ⟩
theorem ok (lf : Nat) : Ok 6 (E lf) := okT (an := (annsL [])) (lf := lf) (tC (surveyorref24_Same.ok lf) (tC (surveyorlaw24_span.ok lf) (tC (surveyorref12_Var.ok lf) (tC (surveyorref12_Num.ok lf) (tC (env_Eval.ok lf) (tC (surveyorlaw24_two.ok lf) (tC (env_Assign.ok lf) (tC (env_Test.ok lf) (tC (env_Assume.ok lf) (tC (surveyorlaw24_compare.ok lf) (tC (surveyorref13_Two.ok lf) (tC (env_Impose.ok lf) (tC (env_Back.ok lf) tN))))))))))))) aoN fun x => by kernel_rfl
end surveyorlaw24_awake
end
end Go.Q
