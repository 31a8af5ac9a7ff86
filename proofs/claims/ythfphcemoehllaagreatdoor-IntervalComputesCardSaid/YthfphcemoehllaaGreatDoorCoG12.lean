import Derived.Test.YthfphcemoehllaaGreatDoorProg
import Derived.KernelRfl
import Derived.Test.YthfphcemoehllaaGreatDoorCoG10
import Derived.Test.YthfphcemoehllaaGreatDoorCoG3
import Derived.Test.YthfphcemoehllaaGreatDoorCoG5
import Derived.Test.YthfphcemoehllaaGreatDoorE3
set_option linter.unusedVariables false
set_option linter.unusedSimpArgs false
set_option linter.unusedSectionVars false
namespace Go.Q
open Go.IntKind (i64)
open Go Go.RowKit
open Go.Rx (br bd sIdx sCat sCut iQuo iRem)
set_option linter.unusedVariables false
set_option linter.unusedSimpArgs false
set_option maxRecDepth 100000
noncomputable section
namespace interval_sign
noncomputable def f (lf : Nat) (a0 : Int × (ByteArray × Unit)) : Option (Int × Unit) :=
 br (a0.1 != 0) (
 some (a0.1, ())) (
 bd (interval_order.f lf a0.2.1 (⟨#[48]⟩ : ByteArray)) fun r1 =>
 some (r1.1, ()))
noncomputable def E (lf : Nat) : Entry := ⟨[(.pair (.int .i64) (.pair .str .unit))], [(.int .i64)], fun x => f lf x.1⟩
theorem ok (lf : Nat) : Ok 139 (E lf) := okT (an := (annsL [])) (lf := lf) (tC (interval_order.ok lf) tN) aoN fun x => by kernel_rfl
end interval_sign
namespace interval_times
noncomputable def f (lf : Nat) (a0 : Int × (ByteArray × Unit)) (a1 : Int × (ByteArray × Unit)) : Option ((Int × (ByteArray × Unit)) × Unit) :=
 bd (interval_sign.f lf a0) fun r1 =>
 bd (interval_sign.f lf a1) fun r2 =>
 br ((i64.wrap (r1.1 * r2.1)) == 0) (
 bd (interval_finite.f lf (⟨#[48]⟩ : ByteArray)) fun r3 =>
 some (r3.1, ())) (
 br (a0.1 != 0) (
 bd (interval_infinite.f lf (i64.wrap (r1.1 * r2.1))) fun r4 =>
 some (r4.1, ())) (
 br (a1.1 != 0) (
 bd (interval_infinite.f lf (i64.wrap (r1.1 * r2.1))) fun r5 =>
 some (r5.1, ())) (
 bd (bigint_Mul.f lf a0.2.1 a1.2.1) fun r6 =>
 bd (interval_finite.f lf r6.1) fun r7 =>
 some (r7.1, ()))))
noncomputable def E (lf : Nat) : Entry := ⟨[(.pair (.int .i64) (.pair .str .unit)), (.pair (.int .i64) (.pair .str .unit))], [(.pair (.int .i64) (.pair .str .unit))], fun x => f lf x.1 x.2.1⟩
theorem ok (lf : Nat) : Ok 95 (E lf) := okT (an := (annsL [])) (lf := lf) (tC (interval_infinite.ok lf) (tC (interval_finite.ok lf) (tC (bigint_Mul.ok lf) (tC (interval_sign.ok lf) tN)))) aoN fun x => by kernel_rfl
end interval_times
namespace interval_Mul
noncomputable def anns : FuncId → FA := annsL [(96, ⟨annOf [(0, ⟨kx 35 [3, 7], [], []⟩, ⟨[], [], []⟩)], none, []⟩)]
noncomputable def f (lf : Nat) (a0 : Bool × (ByteArray × (ByteArray × Unit))) (a1 : Bool × (ByteArray × (ByteArray × Unit))) : Option ((Bool × (ByteArray × (ByteArray × Unit))) × Int × Unit) :=
 bd (interval_Check.f lf a0) fun r1 =>
 br (r1.1 != 0) (
 br (r1.1 != 0) (
 some ((false, (⟨#[]⟩ : ByteArray), (⟨#[]⟩ : ByteArray), ()), r1.1, ())) (
 bd (interval_of.f lf a0) fun r2 =>
 bd (interval_of.f lf a1) fun r3 =>
 bd (interval_span_empty.f lf r2.1) fun r4 =>
 br r4.1 (
 bd (interval_none.f lf) fun r5 =>
 bd (interval_span_interval.f lf r5.1) fun r6 =>
 some (r6.1, 0, ())) (
 bd (interval_span_empty.f lf r3.1) fun r7 =>
 br r7.1 (
 bd (interval_none.f lf) fun r8 =>
 bd (interval_span_interval.f lf r8.1) fun r9 =>
 some (r9.1, 0, ())) (
 bd (interval_none.f lf) fun r10 =>
 bd (interval_times.f lf r2.1.1 r3.1.1) fun r11 =>
 bd (interval_span_hull.f lf r10.1 (r11.1, r11.1, ())) fun r12 =>
 bd (interval_times.f lf r2.1.1 r3.1.2.1) fun r13 =>
 bd (interval_span_hull.f lf r12.1 (r13.1, r13.1, ())) fun r14 =>
 bd (interval_times.f lf r2.1.2.1 r3.1.1) fun r15 =>
 bd (interval_span_hull.f lf r14.1 (r15.1, r15.1, ())) fun r16 =>
 bd (interval_times.f lf r2.1.2.1 r3.1.2.1) fun r17 =>
 bd (interval_span_hull.f lf r16.1 (r17.1, r17.1, ())) fun r18 =>
 bd (interval_span_interval.f lf r18.1) fun r19 =>
 some (r19.1, 0, ()))))) (
 bd (interval_Check.f lf a1) fun r20 =>
 br (r20.1 != 0) (
 br (r20.1 != 0) (
 some ((false, (⟨#[]⟩ : ByteArray), (⟨#[]⟩ : ByteArray), ()), r20.1, ())) (
 bd (interval_of.f lf a0) fun r21 =>
 bd (interval_of.f lf a1) fun r22 =>
 bd (interval_span_empty.f lf r21.1) fun r23 =>
 br r23.1 (
 bd (interval_none.f lf) fun r24 =>
 bd (interval_span_interval.f lf r24.1) fun r25 =>
 some (r25.1, 0, ())) (
 bd (interval_span_empty.f lf r22.1) fun r26 =>
 br r26.1 (
 bd (interval_none.f lf) fun r27 =>
 bd (interval_span_interval.f lf r27.1) fun r28 =>
 some (r28.1, 0, ())) (
 bd (interval_none.f lf) fun r29 =>
 bd (interval_times.f lf r21.1.1 r22.1.1) fun r30 =>
 bd (interval_span_hull.f lf r29.1 (r30.1, r30.1, ())) fun r31 =>
 bd (interval_times.f lf r21.1.1 r22.1.2.1) fun r32 =>
 bd (interval_span_hull.f lf r31.1 (r32.1, r32.1, ())) fun r33 =>
 bd (interval_times.f lf r21.1.2.1 r22.1.1) fun r34 =>
 bd (interval_span_hull.f lf r33.1 (r34.1, r34.1, ())) fun r35 =>
 bd (interval_times.f lf r21.1.2.1 r22.1.2.1) fun r36 =>
 bd (interval_span_hull.f lf r35.1 (r36.1, r36.1, ())) fun r37 =>
 bd (interval_span_interval.f lf r37.1) fun r38 =>
 some (r38.1, 0, ()))))) (
 bd (interval_of.f lf a0) fun r39 =>
 bd (interval_of.f lf a1) fun r40 =>
 bd (interval_span_empty.f lf r39.1) fun r41 =>
 br r41.1 (
 bd (interval_none.f lf) fun r42 =>
 bd (interval_span_interval.f lf r42.1) fun r43 =>
 some (r43.1, 0, ())) (
 bd (interval_span_empty.f lf r40.1) fun r44 =>
 br r44.1 (
 bd (interval_none.f lf) fun r45 =>
 bd (interval_span_interval.f lf r45.1) fun r46 =>
 some (r46.1, 0, ())) (
 bd (interval_none.f lf) fun r47 =>
 bd (interval_times.f lf r39.1.1 r40.1.1) fun r48 =>
 bd (interval_span_hull.f lf r47.1 (r48.1, r48.1, ())) fun r49 =>
 bd (interval_times.f lf r39.1.1 r40.1.2.1) fun r50 =>
 bd (interval_span_hull.f lf r49.1 (r50.1, r50.1, ())) fun r51 =>
 bd (interval_times.f lf r39.1.2.1 r40.1.1) fun r52 =>
 bd (interval_span_hull.f lf r51.1 (r52.1, r52.1, ())) fun r53 =>
 bd (interval_times.f lf r39.1.2.1 r40.1.2.1) fun r54 =>
 bd (interval_span_hull.f lf r53.1 (r54.1, r54.1, ())) fun r55 =>
 bd (interval_span_interval.f lf r55.1) fun r56 =>
 some (r56.1, 0, ())))))
noncomputable def E (lf : Nat) : Entry := ⟨[(.pair .bool (.pair .str (.pair .str .unit))), (.pair .bool (.pair .str (.pair .str .unit)))], [(.pair .bool (.pair .str (.pair .str .unit))), (.int .i64)], fun x => f lf x.1 x.2.1⟩
theorem ok (lf : Nat) : Ok 48 (E lf) := okT (an := anns) (lf := lf) (tC (interval_Check.ok lf) (tC (interval_of.ok lf) (tC (interval_span_empty.ok lf) (tC (interval_span_hull.ok lf) (tC (interval_span_interval.ok lf) (tC (interval_none.ok lf) (tC (interval_times.ok lf) tN))))))) (aoC aoN) fun x => by kernel_rfl
end interval_Mul
namespace interval_opposite
noncomputable def f (lf : Nat) (a0 : Int × (ByteArray × Unit)) : Option ((Int × (ByteArray × Unit)) × Unit) :=
 br (a0.1 != 0) (
 bd (interval_infinite.f lf (i64.wrap (0 - a0.1))) fun r1 =>
 some (r1.1, ())) (
 bd (interval_negated.f lf a0.2.1) fun r2 =>
 bd (interval_finite.f lf r2.1) fun r3 =>
 some (r3.1, ()))
noncomputable def E (lf : Nat) : Entry := ⟨[(.pair (.int .i64) (.pair .str .unit))], [(.pair (.int .i64) (.pair .str .unit))], fun x => f lf x.1⟩
theorem ok (lf : Nat) : Ok 125 (E lf) := okT (an := (annsL [])) (lf := lf) (tC (interval_infinite.ok lf) (tC (interval_finite.ok lf) (tC (interval_negated.ok lf) tN))) aoN fun x => by kernel_rfl
end interval_opposite
namespace interval_span_turned
noncomputable def f (lf : Nat) (a0 : (Int × (ByteArray × Unit)) × ((Int × (ByteArray × Unit)) × Unit)) : Option (((Int × (ByteArray × Unit)) × ((Int × (ByteArray × Unit)) × Unit)) × Unit) :=
 bd (interval_span_empty.f lf a0) fun r1 =>
 br r1.1 (
 bd (interval_none.f lf) fun r2 =>
 some (r2.1, ())) (
 bd (interval_opposite.f lf a0.2.1) fun r3 =>
 bd (interval_opposite.f lf a0.1) fun r4 =>
 some ((r3.1, r4.1, ()), ()))
noncomputable def E (lf : Nat) : Entry := ⟨[(.pair (.pair (.int .i64) (.pair .str .unit)) (.pair (.pair (.int .i64) (.pair .str .unit)) .unit))], [(.pair (.pair (.int .i64) (.pair .str .unit)) (.pair (.pair (.int .i64) (.pair .str .unit)) .unit))], fun x => f lf x.1⟩
theorem ok (lf : Nat) : Ok 81 (E lf) := okT (an := (annsL [])) (lf := lf) (tC (interval_span_empty.ok lf) (tC (interval_none.ok lf) (tC (interval_opposite.ok lf) tN))) aoN fun x => by kernel_rfl
end interval_span_turned
namespace interval_span_positive
noncomputable def f (lf : Nat) (a0 : (Int × (ByteArray × Unit)) × ((Int × (ByteArray × Unit)) × Unit)) : Option (((Int × (ByteArray × Unit)) × ((Int × (ByteArray × Unit)) × Unit)) × Unit) :=
 bd (interval_finite.f lf (⟨#[49]⟩ : ByteArray)) fun r1 =>
 bd (interval_infinite.f lf 1) fun r2 =>
 bd (interval_span_common.f lf a0 (r1.1, r2.1, ())) fun r3 =>
 some (r3.1, ())
noncomputable def E (lf : Nat) : Entry := ⟨[(.pair (.pair (.int .i64) (.pair .str .unit)) (.pair (.pair (.int .i64) (.pair .str .unit)) .unit))], [(.pair (.pair (.int .i64) (.pair .str .unit)) (.pair (.pair (.int .i64) (.pair .str .unit)) .unit))], fun x => f lf x.1⟩
theorem ok (lf : Nat) : Ok 142 (E lf) := okT (an := (annsL [])) (lf := lf) (tC (interval_infinite.ok lf) (tC (interval_finite.ok lf) (tC (interval_span_common.ok lf) tN))) aoN fun x => by kernel_rfl
end interval_span_positive
namespace interval_over
noncomputable def f (lf : Nat) (a0 : Int × (ByteArray × Unit)) (a1 : Int × (ByteArray × Unit)) : Option ((Int × (ByteArray × Unit)) × Unit) :=
 br (a0.1 != 0) (
 some (a0, ())) (
 br (a1.1 == 0) (
 bd (bigint_Quo.f lf a0.2.1 a1.2.1) fun r1 =>
 bd (interval_finite.f lf r1.1) fun r2 =>
 some (r2.1, ())) (
 bd (interval_sign.f lf a0) fun r3 =>
 br (decide (r3.1 < 0)) (
 bd (interval_finite.f lf (⟨#[45, 49]⟩ : ByteArray)) fun r4 =>
 some (r4.1, ())) (
 bd (interval_finite.f lf (⟨#[48]⟩ : ByteArray)) fun r5 =>
 some (r5.1, ()))))
noncomputable def E (lf : Nat) : Entry := ⟨[(.pair (.int .i64) (.pair .str .unit)), (.pair (.int .i64) (.pair .str .unit))], [(.pair (.int .i64) (.pair .str .unit))], fun x => f lf x.1 x.2.1⟩
theorem ok (lf : Nat) : Ok 98 (E lf) := okT (an := (annsL [])) (lf := lf) (tC (interval_finite.ok lf) (tC (bigint_Quo.ok lf) (tC (interval_sign.ok lf) tN))) aoN fun x => by kernel_rfl
end interval_over
namespace interval_Quo_1
noncomputable def f (lf : Nat) (a0 : (Int × (ByteArray × Unit)) × ((Int × (ByteArray × Unit)) × Unit)) : Option (((Int × (ByteArray × Unit)) × ((Int × (ByteArray × Unit)) × Unit)) × Unit) :=
 some (a0, ())
noncomputable def E (lf : Nat) : Entry := ⟨[(.pair (.pair (.int .i64) (.pair .str .unit)) (.pair (.pair (.int .i64) (.pair .str .unit)) .unit))], [(.pair (.pair (.int .i64) (.pair .str .unit)) (.pair (.pair (.int .i64) (.pair .str .unit)) .unit))], fun x => f lf x.1⟩
theorem ok (lf : Nat) : Ok 99 (E lf) := okT (an := (annsL [])) (lf := lf) tN aoN fun x => by kernel_rfl
end interval_Quo_1
end
end Go.Q
