import Derived.Test.YthfphcemoehllaaGreatDoorProg
import Derived.KernelRfl
import Derived.Test.YthfphcemoehllaaGreatDoorCoG3
import Derived.Test.YthfphcemoehllaaGreatDoorCoG5
import Derived.Test.YthfphcemoehllaaGreatDoorE3
set_option linter.unusedVariables false
set_option linter.unusedSimpArgs false
set_option linter.unusedSectionVars false
namespace Go.Q
open Go Go.RowKit
open Go.Rx (br bd sIdx sCat sCut iQuo iRem)
set_option linter.unusedVariables false
set_option linter.unusedSimpArgs false
set_option maxRecDepth 100000
noncomputable section
namespace interval_Narrow_1
noncomputable def f (lf : Nat) (a0 : (Int × (ByteArray × Unit)) × ((Int × (ByteArray × Unit)) × Unit)) (a1 : (Int × (ByteArray × Unit)) × ((Int × (ByteArray × Unit)) × Unit)) : Option (((Int × (ByteArray × Unit)) × ((Int × (ByteArray × Unit)) × Unit)) × Unit) :=
 bd (interval_span_empty.f lf a0) fun r1 =>
 br r1.1 (
 bd (interval_none.f lf) fun r2 =>
 some (r2.1, ())) (
 bd (interval_span_empty.f lf a1) fun r3 =>
 br r3.1 (
 bd (interval_none.f lf) fun r4 =>
 some (r4.1, ())) (
 br (a0.1.1 != 0) (
 br (a0.2.1.1 != 0) (
 some (a1, ())) (
 some ((a1.1, a0.2.1, ()), ()))) (
 br (a0.2.1.1 != 0) (
 some ((a0.1, a1.2.1, ()), ())) (
 some (a0, ())))))
noncomputable def E (lf : Nat) : Entry := ⟨[(.pair (.pair (.int .i64) (.pair .str .unit)) (.pair (.pair (.int .i64) (.pair .str .unit)) .unit)), (.pair (.pair (.int .i64) (.pair .str .unit)) (.pair (.pair (.int .i64) (.pair .str .unit)) .unit))], [(.pair (.pair (.int .i64) (.pair .str .unit)) (.pair (.pair (.int .i64) (.pair .str .unit)) .unit))], fun x => f lf x.1 x.2.1⟩
theorem ok (lf : Nat) : Ok 63 (E lf) := okT (an := (annsL [])) (lf := lf) (tC (interval_span_empty.ok lf) (tC (interval_none.ok lf) tN)) aoN fun x => by kernel_rfl
end interval_Narrow_1
namespace interval_Narrow
noncomputable def f (lf : Nat) (a0 : Bool × (ByteArray × (ByteArray × Unit))) (a1 : Bool × (ByteArray × (ByteArray × Unit))) : Option ((Bool × (ByteArray × (ByteArray × Unit))) × Int × Unit) :=
 bd (interval_Check.f lf a0) fun r1 =>
 br (r1.1 != 0) (
 br (r1.1 != 0) (
 some ((false, (⟨#[]⟩ : ByteArray), (⟨#[]⟩ : ByteArray), ()), r1.1, ())) (
 bd (interval_of.f lf a0) fun r2 =>
 bd (interval_of.f lf a1) fun r3 =>
 bd (interval_Narrow_1.f lf r2.1 r3.1) fun r4 =>
 bd (interval_span_interval.f lf r4.1) fun r5 =>
 some (r5.1, 0, ()))) (
 bd (interval_Check.f lf a1) fun r6 =>
 br (r6.1 != 0) (
 br (r6.1 != 0) (
 some ((false, (⟨#[]⟩ : ByteArray), (⟨#[]⟩ : ByteArray), ()), r6.1, ())) (
 bd (interval_of.f lf a0) fun r7 =>
 bd (interval_of.f lf a1) fun r8 =>
 bd (interval_Narrow_1.f lf r7.1 r8.1) fun r9 =>
 bd (interval_span_interval.f lf r9.1) fun r10 =>
 some (r10.1, 0, ()))) (
 bd (interval_of.f lf a0) fun r11 =>
 bd (interval_of.f lf a1) fun r12 =>
 bd (interval_Narrow_1.f lf r11.1 r12.1) fun r13 =>
 bd (interval_span_interval.f lf r13.1) fun r14 =>
 some (r14.1, 0, ())))
noncomputable def E (lf : Nat) : Entry := ⟨[(.pair .bool (.pair .str (.pair .str .unit))), (.pair .bool (.pair .str (.pair .str .unit)))], [(.pair .bool (.pair .str (.pair .str .unit))), (.int .i64)], fun x => f lf x.1 x.2.1⟩
theorem ok (lf : Nat) : Ok 15 (E lf) := okT (an := (annsL [])) (lf := lf) (tC (interval_Check.ok lf) (tC (interval_of.ok lf) (tC (interval_span_interval.ok lf) (tC (interval_Narrow_1.ok lf) tN)))) aoN fun x => by kernel_rfl
end interval_Narrow
namespace interval_Format
noncomputable def f (lf : Nat) (a0 : Bool × (ByteArray × (ByteArray × Unit))) : Option (ByteArray × Int × Unit) :=
 bd (interval_Check.f lf a0) fun r1 =>
 br (r1.1 != 0) (
 some ((⟨#[]⟩ : ByteArray), r1.1, ())) (
 br a0.1 (
 some ((⟨#[101, 109, 112, 116, 121]⟩ : ByteArray), 0, ())) (
 br (!(a0.2.1.toList == (⟨#[]⟩ : ByteArray).toList)) (
 br (!(a0.2.2.1.toList == (⟨#[]⟩ : ByteArray).toList)) (
 bd (sCat (⟨#[91]⟩ : ByteArray) a0.2.1) fun r2 =>
 bd (sCat r2 (⟨#[44, 32]⟩ : ByteArray)) fun r3 =>
 bd (sCat r3 a0.2.2.1) fun r4 =>
 bd (sCat r4 (⟨#[93]⟩ : ByteArray)) fun r5 =>
 some (r5, 0, ())) (
 bd (sCat (⟨#[91]⟩ : ByteArray) a0.2.1) fun r6 =>
 bd (sCat r6 (⟨#[44, 32]⟩ : ByteArray)) fun r7 =>
 bd (sCat r7 (⟨#[43, 105, 110, 102]⟩ : ByteArray)) fun r8 =>
 bd (sCat r8 (⟨#[93]⟩ : ByteArray)) fun r9 =>
 some (r9, 0, ()))) (
 br (!(a0.2.2.1.toList == (⟨#[]⟩ : ByteArray).toList)) (
 bd (sCat (⟨#[91]⟩ : ByteArray) (⟨#[45, 105, 110, 102]⟩ : ByteArray)) fun r10 =>
 bd (sCat r10 (⟨#[44, 32]⟩ : ByteArray)) fun r11 =>
 bd (sCat r11 a0.2.2.1) fun r12 =>
 bd (sCat r12 (⟨#[93]⟩ : ByteArray)) fun r13 =>
 some (r13, 0, ())) (
 bd (sCat (⟨#[91]⟩ : ByteArray) (⟨#[45, 105, 110, 102]⟩ : ByteArray)) fun r14 =>
 bd (sCat r14 (⟨#[44, 32]⟩ : ByteArray)) fun r15 =>
 bd (sCat r15 (⟨#[43, 105, 110, 102]⟩ : ByteArray)) fun r16 =>
 bd (sCat r16 (⟨#[93]⟩ : ByteArray)) fun r17 =>
 some (r17, 0, ())))))
noncomputable def E (lf : Nat) : Entry := ⟨[(.pair .bool (.pair .str (.pair .str .unit)))], [.str, (.int .i64)], fun x => f lf x.1⟩
theorem ok (lf : Nat) : Ok 17 (E lf) := okT (an := (annsL [])) (lf := lf) (tC (interval_Check.ok lf) tN) aoN fun x => by kernel_rfl
end interval_Format
namespace interval_sum
noncomputable def f (lf : Nat) (a0 : ByteArray) (a1 : ByteArray) : Option (ByteArray × Unit) :=
 bd (bigint_Add.f lf a0 a1) fun r1 =>
 some (r1.1, ())
noncomputable def E (lf : Nat) : Entry := ⟨[.str, .str], [.str], fun x => f lf x.1 x.2.1⟩
theorem ok (lf : Nat) : Ok 158 (E lf) := okT (an := (annsL [])) (lf := lf) (tC (bigint_Add.ok lf) tN) aoN fun x => by kernel_rfl
end interval_sum
namespace interval_shifted
noncomputable def f (lf : Nat) (a0 : Int × (ByteArray × Unit)) (a1 : ByteArray) : Option ((Int × (ByteArray × Unit)) × Unit) :=
 br (a0.1 != 0) (
 some (a0, ())) (
 bd (interval_sum.f lf a0.2.1 a1) fun r1 =>
 bd (interval_finite.f lf r1.1) fun r2 =>
 some (r2.1, ()))
noncomputable def E (lf : Nat) : Entry := ⟨[(.pair (.int .i64) (.pair .str .unit)), .str], [(.pair (.int .i64) (.pair .str .unit))], fun x => f lf x.1 x.2.1⟩
theorem ok (lf : Nat) : Ok 113 (E lf) := okT (an := (annsL [])) (lf := lf) (tC (interval_finite.ok lf) (tC (interval_sum.ok lf) tN)) aoN fun x => by kernel_rfl
end interval_shifted
namespace interval_negated
noncomputable def f (lf : Nat) (a0 : ByteArray) : Option (ByteArray × Unit) :=
 bd (bigint_Neg.f lf a0) fun r1 =>
 some (r1.1, ())
noncomputable def E (lf : Nat) : Entry := ⟨[.str], [.str], fun x => f lf x.1⟩
theorem ok (lf : Nat) : Ok 114 (E lf) := okT (an := (annsL [])) (lf := lf) (tC (bigint_Neg.ok lf) tN) aoN fun x => by kernel_rfl
end interval_negated
namespace interval_span_common
noncomputable def f (lf : Nat) (a0 : (Int × (ByteArray × Unit)) × ((Int × (ByteArray × Unit)) × Unit)) (a1 : (Int × (ByteArray × Unit)) × ((Int × (ByteArray × Unit)) × Unit)) : Option (((Int × (ByteArray × Unit)) × ((Int × (ByteArray × Unit)) × Unit)) × Unit) :=
 bd (interval_most.f lf a0.1 a1.1) fun r1 =>
 bd (interval_least.f lf a0.2.1 a1.2.1) fun r2 =>
 some ((r1.1, r2.1, ()), ())
noncomputable def E (lf : Nat) : Entry := ⟨[(.pair (.pair (.int .i64) (.pair .str .unit)) (.pair (.pair (.int .i64) (.pair .str .unit)) .unit)), (.pair (.pair (.int .i64) (.pair .str .unit)) (.pair (.pair (.int .i64) (.pair .str .unit)) .unit))], [(.pair (.pair (.int .i64) (.pair .str .unit)) (.pair (.pair (.int .i64) (.pair .str .unit)) .unit))], fun x => f lf x.1 x.2.1⟩
theorem ok (lf : Nat) : Ok 70 (E lf) := okT (an := (annsL [])) (lf := lf) (tC (interval_least.ok lf) (tC (interval_most.ok lf) tN)) aoN fun x => by kernel_rfl
end interval_span_common
namespace interval_comparisons_2
noncomputable def f (lf : Nat) (a0 : (Int × (ByteArray × Unit)) × ((Int × (ByteArray × Unit)) × Unit)) (a1 : (Int × (ByteArray × Unit)) × ((Int × (ByteArray × Unit)) × Unit)) : Option (((Int × (ByteArray × Unit)) × ((Int × (ByteArray × Unit)) × Unit)) × ((Int × (ByteArray × Unit)) × ((Int × (ByteArray × Unit)) × Unit)) × Unit) :=
 bd (interval_span_common.f lf a0 a1) fun r1 =>
 bd (interval_span_common.f lf a0 a1) fun r2 =>
 some (r1.1, r2.1, ())
noncomputable def E (lf : Nat) : Entry := ⟨[(.pair (.pair (.int .i64) (.pair .str .unit)) (.pair (.pair (.int .i64) (.pair .str .unit)) .unit)), (.pair (.pair (.int .i64) (.pair .str .unit)) (.pair (.pair (.int .i64) (.pair .str .unit)) .unit))], [(.pair (.pair (.int .i64) (.pair .str .unit)) (.pair (.pair (.int .i64) (.pair .str .unit)) .unit)), (.pair (.pair (.int .i64) (.pair .str .unit)) (.pair (.pair (.int .i64) (.pair .str .unit)) .unit))], fun x => f lf x.1 x.2.1⟩
theorem ok (lf : Nat) : Ok 115 (E lf) := okT (an := (annsL [])) (lf := lf) (tC (interval_span_common.ok lf) tN) aoN fun x => by kernel_rfl
end interval_comparisons_2
namespace interval_span_single
noncomputable def f (lf : Nat) (a0 : (Int × (ByteArray × Unit)) × ((Int × (ByteArray × Unit)) × Unit)) : Option (Bool × Unit) :=
 br (a0.1.1 == 0) (
 br (a0.2.1.1 == 0) (
 some ((a0.1.2.1.toList == a0.2.1.2.1.toList), ())) (
 some (false, ()))) (
 some (false, ()))
noncomputable def E (lf : Nat) : Entry := ⟨[(.pair (.pair (.int .i64) (.pair .str .unit)) (.pair (.pair (.int .i64) (.pair .str .unit)) .unit))], [.bool], fun x => f lf x.1⟩
theorem ok (lf : Nat) : Ok 117 (E lf) := okT (an := (annsL [])) (lf := lf) tN aoN fun x => by kernel_rfl
end interval_span_single
namespace interval_span_without
noncomputable def f (lf : Nat) (a0 : (Int × (ByteArray × Unit)) × ((Int × (ByteArray × Unit)) × Unit)) (a1 : ByteArray) : Option (((Int × (ByteArray × Unit)) × ((Int × (ByteArray × Unit)) × Unit)) × Unit) :=
 br (a0.1.1 == 0) (
 br (a0.1.2.1.toList == a1.toList) (
 bd (interval_shifted.f lf a0.1 (⟨#[49]⟩ : ByteArray)) fun r1 =>
 br (a0.2.1.1 == 0) (
 br (a0.2.1.2.1.toList == a1.toList) (
 bd (interval_shifted.f lf a0.2.1 (⟨#[45, 49]⟩ : ByteArray)) fun r2 =>
 some ((r1.1, r2.1, ()), ())) (
 some ((r1.1, a0.2.1, ()), ()))) (
 some ((r1.1, a0.2.1, ()), ()))) (
 br (a0.2.1.1 == 0) (
 br (a0.2.1.2.1.toList == a1.toList) (
 bd (interval_shifted.f lf a0.2.1 (⟨#[45, 49]⟩ : ByteArray)) fun r3 =>
 some ((a0.1, r3.1, ()), ())) (
 some (a0, ()))) (
 some (a0, ())))) (
 br (a0.2.1.1 == 0) (
 br (a0.2.1.2.1.toList == a1.toList) (
 bd (interval_shifted.f lf a0.2.1 (⟨#[45, 49]⟩ : ByteArray)) fun r4 =>
 some ((a0.1, r4.1, ()), ())) (
 some (a0, ()))) (
 some (a0, ())))
noncomputable def E (lf : Nat) : Entry := ⟨[(.pair (.pair (.int .i64) (.pair .str .unit)) (.pair (.pair (.int .i64) (.pair .str .unit)) .unit)), .str], [(.pair (.pair (.int .i64) (.pair .str .unit)) (.pair (.pair (.int .i64) (.pair .str .unit)) .unit))], fun x => f lf x.1 x.2.1⟩
theorem ok (lf : Nat) : Ok 118 (E lf) := okT (an := (annsL [])) (lf := lf) (tC (interval_shifted.ok lf) tN) aoN fun x => by kernel_rfl
end interval_span_without
namespace interval_comparisons_3
noncomputable def f (lf : Nat) (a0 : (Int × (ByteArray × Unit)) × ((Int × (ByteArray × Unit)) × Unit)) (a1 : (Int × (ByteArray × Unit)) × ((Int × (ByteArray × Unit)) × Unit)) : Option (((Int × (ByteArray × Unit)) × ((Int × (ByteArray × Unit)) × Unit)) × ((Int × (ByteArray × Unit)) × ((Int × (ByteArray × Unit)) × Unit)) × Unit) :=
 bd (interval_span_single.f lf a1) fun r1 =>
 br r1.1 (
 bd (interval_span_without.f lf a0 a1.1.2.1) fun r2 =>
 bd (interval_span_single.f lf a0) fun r3 =>
 br r3.1 (
 bd (interval_span_without.f lf a1 a0.1.2.1) fun r4 =>
 some (r2.1, r4.1, ())) (
 some (r2.1, a1, ()))) (
 bd (interval_span_single.f lf a0) fun r5 =>
 br r5.1 (
 bd (interval_span_without.f lf a1 a0.1.2.1) fun r6 =>
 some (a0, r6.1, ())) (
 some (a0, a1, ())))
noncomputable def E (lf : Nat) : Entry := ⟨[(.pair (.pair (.int .i64) (.pair .str .unit)) (.pair (.pair (.int .i64) (.pair .str .unit)) .unit)), (.pair (.pair (.int .i64) (.pair .str .unit)) (.pair (.pair (.int .i64) (.pair .str .unit)) .unit))], [(.pair (.pair (.int .i64) (.pair .str .unit)) (.pair (.pair (.int .i64) (.pair .str .unit)) .unit)), (.pair (.pair (.int .i64) (.pair .str .unit)) (.pair (.pair (.int .i64) (.pair .str .unit)) .unit))], fun x => f lf x.1 x.2.1⟩
theorem ok (lf : Nat) : Ok 116 (E lf) := okT (an := (annsL [])) (lf := lf) (tC (interval_span_single.ok lf) (tC (interval_span_without.ok lf) tN)) aoN fun x => by kernel_rfl
end interval_comparisons_3
end
end Go.Q
