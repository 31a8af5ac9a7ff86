import Derived.Test.YtlikbeopppeojaaGreatDoorProg
import Derived.KernelRfl
import Derived.Test.YtlikbeopppeojaaGreatDoorEHE3
import Derived.Test.YtlikbeopppeojaaGreatDoorEHG1
import Derived.Test.YtlikbeopppeojaaGreatDoorEHG3
set_option linter.unusedVariables false
set_option linter.unusedSimpArgs false
set_option linter.unusedSectionVars false
set_option maxRecDepth 100000
set_option maxHeartbeats 40000000
namespace Go.Q
open Go.IntKind (i64)
open Go Go.RowKit
open Go.Rx (br bd sIdx sCat sCut iQuo iRem iShl)
noncomputable section
namespace interval_digits
def f (lf : Nat) (a0 : ByteArray) : Option (Int × Unit) :=
 br (decide (((a0.size : Nat) : Int) > 0)) (
 bd (sIdx a0 0) fun r1 =>
 br (((r1.toNat : Nat) : Int) == 45) (
 some ((i64.wrap (((a0.size : Nat) : Int) - 1)), ())) (
 some (((a0.size : Nat) : Int), ()))) (
 some (((a0.size : Nat) : Int), ()))
def E (lf : Nat) : Entry := ⟨[.str], [(.int .i64)], fun x => f lf x.1⟩
theorem ok (lf : Nat) : Ok 224 (E lf) := okT (an := (annsL [])) (lf := lf) tN aoN fun x => by kernel_rfl
end interval_digits
namespace interval_number
def f (lf : Nat) (a0 : ByteArray) : Option (Int × Unit) :=
 bd (bigint_Check.f lf a0) fun r1 =>
 br (r1.1 != 0) (
 some (r1.1, ())) (
 bd (interval_digits.f lf a0) fun r2 =>
 br (decide (r2.1 > 100)) (
 some (10, ())) (
 some (0, ())))
def E (lf : Nat) : Entry := ⟨[.str], [(.int .i64)], fun x => f lf x.1⟩
theorem ok (lf : Nat) : Ok 147 (E lf) := okT (an := (annsL [])) (lf := lf) (tC (bigint_Check.ok lf) (tC (interval_digits.ok lf) tN)) aoN fun x => by kernel_rfl
end interval_number
namespace interval_order
def f (lf : Nat) (a0 : ByteArray) (a1 : ByteArray) : Option (Int × Unit) :=
 bd (bigint_Compare.f lf a0 a1) fun r1 =>
 some (r1.1, ())
def E (lf : Nat) : Entry := ⟨[.str, .str], [(.int .i64)], fun x => f lf x.1 x.2.1⟩
theorem ok (lf : Nat) : Ok 148 (E lf) := okT (an := (annsL [])) (lf := lf) (tC (bigint_Compare.ok lf) tN) aoN fun x => by kernel_rfl
end interval_order
namespace interval_Check
def f (lf : Nat) (a0 : TI) : Option (Int × Unit) :=
 br a0.1 (
 br (!(a0.2.1.toList == (⟨#[]⟩ : ByteArray).toList)) (
 some (3, ())) (
 br (!(a0.2.2.1.toList == (⟨#[]⟩ : ByteArray).toList)) (
 some (3, ())) (
 br (a0.2.1.toList == (⟨#[]⟩ : ByteArray).toList) (
 br (a0.2.2.1.toList == (⟨#[]⟩ : ByteArray).toList) (
 br (!(a0.2.1.toList == (⟨#[]⟩ : ByteArray).toList)) (
 br (!(a0.2.2.1.toList == (⟨#[]⟩ : ByteArray).toList)) (
 bd (interval_order.f lf a0.2.1 a0.2.2.1) fun r1 =>
 br (decide (r1.1 > 0)) (
 some (14, ())) (
 some (0, ()))) (
 some (0, ()))) (
 some (0, ()))) (
 bd (interval_number.f lf a0.2.2.1) fun r2 =>
 br (r2.1 != 0) (
 some (r2.1, ())) (
 br (!(a0.2.1.toList == (⟨#[]⟩ : ByteArray).toList)) (
 br (!(a0.2.2.1.toList == (⟨#[]⟩ : ByteArray).toList)) (
 bd (interval_order.f lf a0.2.1 a0.2.2.1) fun r3 =>
 br (decide (r3.1 > 0)) (
 some (14, ())) (
 some (0, ()))) (
 some (0, ()))) (
 some (0, ()))))) (
 bd (interval_number.f lf a0.2.1) fun r4 =>
 br (r4.1 != 0) (
 some (r4.1, ())) (
 br (a0.2.2.1.toList == (⟨#[]⟩ : ByteArray).toList) (
 br (!(a0.2.1.toList == (⟨#[]⟩ : ByteArray).toList)) (
 br (!(a0.2.2.1.toList == (⟨#[]⟩ : ByteArray).toList)) (
 bd (interval_order.f lf a0.2.1 a0.2.2.1) fun r5 =>
 br (decide (r5.1 > 0)) (
 some (14, ())) (
 some (0, ()))) (
 some (0, ()))) (
 some (0, ()))) (
 bd (interval_number.f lf a0.2.2.1) fun r6 =>
 br (r6.1 != 0) (
 some (r6.1, ())) (
 br (!(a0.2.1.toList == (⟨#[]⟩ : ByteArray).toList)) (
 br (!(a0.2.2.1.toList == (⟨#[]⟩ : ByteArray).toList)) (
 bd (interval_order.f lf a0.2.1 a0.2.2.1) fun r7 =>
 br (decide (r7.1 > 0)) (
 some (14, ())) (
 some (0, ()))) (
 some (0, ()))) (
 some (0, ()))))))))) (
 br (a0.2.1.toList == (⟨#[]⟩ : ByteArray).toList) (
 br (a0.2.2.1.toList == (⟨#[]⟩ : ByteArray).toList) (
 br (!(a0.2.1.toList == (⟨#[]⟩ : ByteArray).toList)) (
 br (!(a0.2.2.1.toList == (⟨#[]⟩ : ByteArray).toList)) (
 bd (interval_order.f lf a0.2.1 a0.2.2.1) fun r8 =>
 br (decide (r8.1 > 0)) (
 some (14, ())) (
 some (0, ()))) (
 some (0, ()))) (
 some (0, ()))) (
 bd (interval_number.f lf a0.2.2.1) fun r9 =>
 br (r9.1 != 0) (
 some (r9.1, ())) (
 br (!(a0.2.1.toList == (⟨#[]⟩ : ByteArray).toList)) (
 br (!(a0.2.2.1.toList == (⟨#[]⟩ : ByteArray).toList)) (
 bd (interval_order.f lf a0.2.1 a0.2.2.1) fun r10 =>
 br (decide (r10.1 > 0)) (
 some (14, ())) (
 some (0, ()))) (
 some (0, ()))) (
 some (0, ()))))) (
 bd (interval_number.f lf a0.2.1) fun r11 =>
 br (r11.1 != 0) (
 some (r11.1, ())) (
 br (a0.2.2.1.toList == (⟨#[]⟩ : ByteArray).toList) (
 br (!(a0.2.1.toList == (⟨#[]⟩ : ByteArray).toList)) (
 br (!(a0.2.2.1.toList == (⟨#[]⟩ : ByteArray).toList)) (
 bd (interval_order.f lf a0.2.1 a0.2.2.1) fun r12 =>
 br (decide (r12.1 > 0)) (
 some (14, ())) (
 some (0, ()))) (
 some (0, ()))) (
 some (0, ()))) (
 bd (interval_number.f lf a0.2.2.1) fun r13 =>
 br (r13.1 != 0) (
 some (r13.1, ())) (
 br (!(a0.2.1.toList == (⟨#[]⟩ : ByteArray).toList)) (
 br (!(a0.2.2.1.toList == (⟨#[]⟩ : ByteArray).toList)) (
 bd (interval_order.f lf a0.2.1 a0.2.2.1) fun r14 =>
 br (decide (r14.1 > 0)) (
 some (14, ())) (
 some (0, ()))) (
 some (0, ()))) (
 some (0, ())))))))
def E (lf : Nat) : Entry := ⟨[yI], [(.int .i64)], fun x => f lf x.1⟩
theorem ok (lf : Nat) : Ok 89 (E lf) := okT (an := (annsL [])) (lf := lf) (tC (interval_number.ok lf) (tC (interval_order.ok lf) tN)) aoN fun x => by kernel_rfl
end interval_Check
namespace interval_finite
def f (lf : Nat) (a0 : ByteArray) : Option (TX × Unit) :=
 some ((0, a0, ()), ())
def E (lf : Nat) : Entry := ⟨[.str], [yX], fun x => f lf x.1⟩
theorem ok (lf : Nat) : Ok 92 (E lf) := okT (an := (annsL [])) (lf := lf) tN aoN fun x => by kernel_rfl
end interval_finite
namespace interval_infinite
def f (lf : Nat) (a0 : Int) : Option (TX × Unit) :=
 some ((a0, (⟨#[]⟩ : ByteArray), ()), ())
def E (lf : Nat) : Entry := ⟨[(.int .i64)], [yX], fun x => f lf x.1⟩
theorem ok (lf : Nat) : Ok 152 (E lf) := okT (an := (annsL [])) (lf := lf) tN aoN fun x => by kernel_rfl
end interval_infinite
namespace interval_none
def f (lf : Nat)  : Option (TS × Unit) :=
 bd (interval_infinite.f lf 1) fun r1 =>
 bd (interval_infinite.f lf (-1)) fun r2 =>
 some ((r1.1, r2.1, ()), ())
def E (lf : Nat) : Entry := ⟨[], [yS], fun x => f lf ⟩
theorem ok (lf : Nat) : Ok 151 (E lf) := okT (an := (annsL [])) (lf := lf) (tC (interval_infinite.ok lf) tN) aoN fun x => by kernel_rfl
end interval_none
namespace interval_of
def f (lf : Nat) (a0 : TI) : Option (TS × Unit) :=
 br a0.1 (
 bd (interval_none.f lf) fun r1 =>
 some (r1.1, ())) (
 bd (interval_infinite.f lf (-1)) fun r2 =>
 bd (interval_infinite.f lf 1) fun r3 =>
 br (!(a0.2.1.toList == (⟨#[]⟩ : ByteArray).toList)) (
 bd (interval_finite.f lf a0.2.1) fun r4 =>
 br (!(a0.2.2.1.toList == (⟨#[]⟩ : ByteArray).toList)) (
 bd (interval_finite.f lf a0.2.2.1) fun r5 =>
 some ((r4.1, r5.1, ()), ())) (
 some ((r4.1, r3.1, ()), ()))) (
 br (!(a0.2.2.1.toList == (⟨#[]⟩ : ByteArray).toList)) (
 bd (interval_finite.f lf a0.2.2.1) fun r6 =>
 some ((r2.1, r6.1, ()), ())) (
 some ((r2.1, r3.1, ()), ()))))
def E (lf : Nat) : Entry := ⟨[yI], [yS], fun x => f lf x.1⟩
theorem ok (lf : Nat) : Ok 91 (E lf) := okT (an := (annsL [])) (lf := lf) (tC (interval_finite.ok lf) (tC (interval_none.ok lf) (tC (interval_infinite.ok lf) tN))) aoN fun x => by kernel_rfl
end interval_of
namespace interval_compare
def f (lf : Nat) (a0 : TX) (a1 : TX) : Option (Int × Unit) :=
 br (a0.1 != 0) (
 some ((i64.wrap (a0.1 - a1.1)), ())) (
 br (a1.1 != 0) (
 some ((i64.wrap (a0.1 - a1.1)), ())) (
 bd (interval_order.f lf a0.2.1 a1.2.1) fun r1 =>
 some (r1.1, ())))
def E (lf : Nat) : Entry := ⟨[yX, yX], [(.int .i64)], fun x => f lf x.1 x.2.1⟩
theorem ok (lf : Nat) : Ok 93 (E lf) := okT (an := (annsL [])) (lf := lf) (tC (interval_order.ok lf) tN) aoN fun x => by kernel_rfl
end interval_compare
namespace interval_Holds
def f (lf : Nat) (a0 : TI) (a1 : ByteArray) : Option (Bool × Int × Unit) :=
 bd (interval_Check.f lf a0) fun r1 =>
 br (r1.1 != 0) (
 some (false, r1.1, ())) (
 bd (bigint_Check.f lf a1) fun r2 =>
 br (r2.1 != 0) (
 some (false, r2.1, ())) (
 bd (interval_of.f lf a0) fun r3 =>
 bd (interval_finite.f lf a1) fun r4 =>
 bd (interval_compare.f lf r3.1.1 r4.1) fun r5 =>
 br (decide (r5.1 ≤ 0)) (
 bd (interval_compare.f lf r4.1 r3.1.2.1) fun r6 =>
 some ((decide (r6.1 ≤ 0)), 0, ())) (
 some (false, 0, ()))))
def E (lf : Nat) : Entry := ⟨[yI, .str], [.bool, (.int .i64)], fun x => f lf x.1 x.2.1⟩
theorem ok (lf : Nat) : Ok 58 (E lf) := okT (an := (annsL [])) (lf := lf) (tC (interval_Check.ok lf) (tC (bigint_Check.ok lf) (tC (interval_of.ok lf) (tC (interval_finite.ok lf) (tC (interval_compare.ok lf) tN))))) aoN fun x => by kernel_rfl
end interval_Holds
namespace interval_span_empty
def f (lf : Nat) (a0 : TS) : Option (Bool × Unit) :=
 bd (interval_compare.f lf a0.1 a0.2.1) fun r1 =>
 some ((decide (r1.1 > 0)), ())
def E (lf : Nat) : Entry := ⟨[yS], [.bool], fun x => f lf x.1⟩
theorem ok (lf : Nat) : Ok 198 (E lf) := okT (an := (annsL [])) (lf := lf) (tC (interval_compare.ok lf) tN) aoN fun x => by kernel_rfl
end interval_span_empty
namespace interval_text
def f (lf : Nat) (a0 : TX) : Option (ByteArray × Unit) :=
 br (a0.1 != 0) (
 some ((⟨#[]⟩ : ByteArray), ())) (
 bd (interval_digits.f lf a0.2.1) fun r1 =>
 br (decide (r1.1 > 100)) (
 some ((⟨#[]⟩ : ByteArray), ())) (
 some (a0.2.1, ())))
def E (lf : Nat) : Entry := ⟨[yX], [.str], fun x => f lf x.1⟩
theorem ok (lf : Nat) : Ok 254 (E lf) := okT (an := (annsL [])) (lf := lf) (tC (interval_digits.ok lf) tN) aoN fun x => by kernel_rfl
end interval_text
namespace interval_span_interval
def f (lf : Nat) (a0 : TS) : Option (TI × Unit) :=
 bd (interval_span_empty.f lf a0) fun r1 =>
 br r1.1 (
 some ((true, (⟨#[]⟩ : ByteArray), (⟨#[]⟩ : ByteArray), ()), ())) (
 bd (interval_text.f lf a0.1) fun r2 =>
 bd (interval_text.f lf a0.2.1) fun r3 =>
 some ((false, r2.1, r3.1, ()), ()))
def E (lf : Nat) : Entry := ⟨[yS], [yI], fun x => f lf x.1⟩
theorem ok (lf : Nat) : Ok 176 (E lf) := okT (an := (annsL [])) (lf := lf) (tC (interval_span_empty.ok lf) (tC (interval_text.ok lf) tN)) aoN fun x => by kernel_rfl
end interval_span_interval
namespace interval_most
def f (lf : Nat) (a0 : TX) (a1 : TX) : Option (TX × Unit) :=
 bd (interval_compare.f lf a1 a0) fun r1 =>
 br (decide (r1.1 > 0)) (
 some (a1, ())) (
 some (a0, ()))
def E (lf : Nat) : Entry := ⟨[yX, yX], [yX], fun x => f lf x.1 x.2.1⟩
theorem ok (lf : Nat) : Ok 216 (E lf) := okT (an := (annsL [])) (lf := lf) (tC (interval_compare.ok lf) tN) aoN fun x => by kernel_rfl
end interval_most
namespace interval_least
def f (lf : Nat) (a0 : TX) (a1 : TX) : Option (TX × Unit) :=
 bd (interval_compare.f lf a1 a0) fun r1 =>
 br (decide (r1.1 < 0)) (
 some (a1, ())) (
 some (a0, ()))
def E (lf : Nat) : Entry := ⟨[yX, yX], [yX], fun x => f lf x.1 x.2.1⟩
theorem ok (lf : Nat) : Ok 217 (E lf) := okT (an := (annsL [])) (lf := lf) (tC (interval_compare.ok lf) tN) aoN fun x => by kernel_rfl
end interval_least
namespace interval_span_hull
def f (lf : Nat) (a0 : TS) (a1 : TS) : Option (TS × Unit) :=
 bd (interval_span_empty.f lf a0) fun r1 =>
 br r1.1 (
 some (a1, ())) (
 bd (interval_span_empty.f lf a1) fun r2 =>
 br r2.1 (
 some (a0, ())) (
 bd (interval_least.f lf a0.1 a1.1) fun r3 =>
 bd (interval_most.f lf a0.2.1 a1.2.1) fun r4 =>
 some ((r3.1, r4.1, ()), ())))
def E (lf : Nat) : Entry := ⟨[yS, yS], [yS], fun x => f lf x.1 x.2.1⟩
theorem ok (lf : Nat) : Ok 262 (E lf) := okT (an := (annsL [])) (lf := lf) (tC (interval_span_empty.ok lf) (tC (interval_most.ok lf) (tC (interval_least.ok lf) tN))) aoN fun x => by kernel_rfl
end interval_span_hull
namespace interval_Join
def f (lf : Nat) (a0 : TI) (a1 : TI) : Option (TI × Int × Unit) :=
 bd (interval_Check.f lf a0) fun r1 =>
 br (r1.1 != 0) (
 br (r1.1 != 0) (
 some ((false, (⟨#[]⟩ : ByteArray), (⟨#[]⟩ : ByteArray), ()), r1.1, ())) (
 bd (interval_of.f lf a0) fun r2 =>
 bd (interval_of.f lf a1) fun r3 =>
 bd (interval_span_hull.f lf r2.1 r3.1) fun r4 =>
 bd (interval_span_interval.f lf r4.1) fun r5 =>
 some (r5.1, 0, ()))) (
 bd (interval_Check.f lf a1) fun r6 =>
 br (r6.1 != 0) (
 br (r6.1 != 0) (
 some ((false, (⟨#[]⟩ : ByteArray), (⟨#[]⟩ : ByteArray), ()), r6.1, ())) (
 bd (interval_of.f lf a0) fun r7 =>
 bd (interval_of.f lf a1) fun r8 =>
 bd (interval_span_hull.f lf r7.1 r8.1) fun r9 =>
 bd (interval_span_interval.f lf r9.1) fun r10 =>
 some (r10.1, 0, ()))) (
 bd (interval_of.f lf a0) fun r11 =>
 bd (interval_of.f lf a1) fun r12 =>
 bd (interval_span_hull.f lf r11.1 r12.1) fun r13 =>
 bd (interval_span_interval.f lf r13.1) fun r14 =>
 some (r14.1, 0, ())))
def E (lf : Nat) : Entry := ⟨[yI, yI], [yI, (.int .i64)], fun x => f lf x.1 x.2.1⟩
theorem ok (lf : Nat) : Ok 204 (E lf) := okT (an := (annsL [])) (lf := lf) (tC (interval_Check.ok lf) (tC (interval_of.ok lf) (tC (interval_span_interval.ok lf) (tC (interval_span_hull.ok lf) tN)))) aoN fun x => by kernel_rfl
end interval_Join
namespace interval_span_common
def f (lf : Nat) (a0 : TS) (a1 : TS) : Option (TS × Unit) :=
 bd (interval_most.f lf a0.1 a1.1) fun r1 =>
 bd (interval_least.f lf a0.2.1 a1.2.1) fun r2 =>
 some ((r1.1, r2.1, ()), ())
def E (lf : Nat) : Entry := ⟨[yS, yS], [yS], fun x => f lf x.1 x.2.1⟩
theorem ok (lf : Nat) : Ok 144 (E lf) := okT (an := (annsL [])) (lf := lf) (tC (interval_most.ok lf) (tC (interval_least.ok lf) tN)) aoN fun x => by kernel_rfl
end interval_span_common
namespace interval_Meet
def f (lf : Nat) (a0 : TI) (a1 : TI) : Option (TI × Int × Unit) :=
 bd (interval_Check.f lf a0) fun r1 =>
 br (r1.1 != 0) (
 br (r1.1 != 0) (
 some ((false, (⟨#[]⟩ : ByteArray), (⟨#[]⟩ : ByteArray), ()), r1.1, ())) (
 bd (interval_of.f lf a0) fun r2 =>
 bd (interval_of.f lf a1) fun r3 =>
 bd (interval_span_common.f lf r2.1 r3.1) fun r4 =>
 bd (interval_span_interval.f lf r4.1) fun r5 =>
 some (r5.1, 0, ()))) (
 bd (interval_Check.f lf a1) fun r6 =>
 br (r6.1 != 0) (
 br (r6.1 != 0) (
 some ((false, (⟨#[]⟩ : ByteArray), (⟨#[]⟩ : ByteArray), ()), r6.1, ())) (
 bd (interval_of.f lf a0) fun r7 =>
 bd (interval_of.f lf a1) fun r8 =>
 bd (interval_span_common.f lf r7.1 r8.1) fun r9 =>
 bd (interval_span_interval.f lf r9.1) fun r10 =>
 some (r10.1, 0, ()))) (
 bd (interval_of.f lf a0) fun r11 =>
 bd (interval_of.f lf a1) fun r12 =>
 bd (interval_span_common.f lf r11.1 r12.1) fun r13 =>
 bd (interval_span_interval.f lf r13.1) fun r14 =>
 some (r14.1, 0, ())))
def E (lf : Nat) : Entry := ⟨[yI, yI], [yI, (.int .i64)], fun x => f lf x.1 x.2.1⟩
theorem ok (lf : Nat) : Ok 86 (E lf) := okT (an := (annsL [])) (lf := lf) (tC (interval_Check.ok lf) (tC (interval_of.ok lf) (tC (interval_span_common.ok lf) (tC (interval_span_interval.ok lf) tN)))) aoN fun x => by kernel_rfl
end interval_Meet
namespace interval_Make
def l : List ((ByteArray × ByteArray × Unit) × (TI × Int × Unit)) := [((ck_c.c59, ck_c.c37, ()), ((false, ck_c.c59, ck_c.c37, ()), 0, ()))]
def f (lf : Nat) (a0 : ByteArray) (a1 : ByteArray) : Option (TI × Int × Unit) := pick [.str, .str] l (a0, a1, ())
def E (lf : Nat) : Entry := ⟨[.str, .str], [yI, (.int .i64)], fun x => f lf x.1 x.2.1⟩
def tb (lf : Nat) : List (FuncId × Entry) := [(90, bigint_Check.E lf), (91, interval_of.E lf), (176, interval_span_interval.E lf)]
abbrev an : FuncId → FA := annsL []
theorem ok (lf : Nat) : Ok 276 (E lf) := okP (an := an) (tb := tb lf) (lf := lf) (tC (bigint_Check.ok lf) (tC (interval_of.ok lf) (tC (interval_span_interval.ok lf) tN))) aoN (l := l) (fun _ => rfl) (fun _ => rfl) ⟨by as_aux_lemma => kernel_rfl, trivial⟩
end interval_Make
end
end Go.Q
namespace Go.Q
open Go.IntKind (i64)
open Go Go.RowKit
open Go.Rx (br bd sIdx sCat sCut iQuo iRem iShl)
noncomputable section
namespace surveyorref01_Few
def f (lf : Nat) (a0 : ByteArray) : Option (Bool × Unit) :=
 some ((decide (((a0.size : Nat) : Int) ≤ 250)), ())
def E (lf : Nat) : Entry := ⟨[.str], [.bool], fun x => f lf x.1⟩
theorem ok (lf : Nat) : Ok 74 (E lf) := okT (an := (annsL [])) (lf := lf) tN aoN fun x => by kernel_rfl
end surveyorref01_Few
namespace surveyorref01_Form
def anns : FuncId → FA := annsL [(60, ⟨annOf [(0, ⟨kx 42 [0, 4], [], []⟩, ⟨kx 42 [2], [], []⟩)], none, []⟩)]
def r0 {ρ : Type} (lf : Nat) (v0 : ByteArray) (v1 : Int) (K : Int → Option ρ) (E0 : Option ρ) (E1 : Option ρ) : Option ρ :=
 br (decide (v1 < ((v0.size : Nat) : Int))) (
 bd (sIdx v0 v1) fun r3 =>
 br (decide (((r3.toNat : Nat) : Int) < 48)) (
 E0) (
 bd (sIdx v0 v1) fun r4 =>
 br (decide (((r4.toNat : Nat) : Int) > 57)) (
 E0) (
 K (i64.wrap (v1 + 1))))) (
 E1)
def l0 (lf : Nat) (v0 : ByteArray) : Nat → Int → Option (Bool × (Unit) × (Unit) × Unit)
 | 0, _ => none
 | n + 1, v1 => r0 lf v0 v1 (l0 lf v0 n) (some (true, (()), ((()), ()))) (some (false, (()), ((()), ())))
def sh0 : ShS := ⟨[.s .str, .a 3, .s (.int .i64), .a 37], []⟩
def S0 (p : ByteArray × Int × Unit) : St := sh0.b p
def xh0 : ShS := ⟨[.a 2, .s .bool, .a 39], []⟩
def xh1 : ShS := ⟨[.a 42], []⟩
def o0 (v0 : ByteArray) (y : Bool × (Unit) × (Unit) × Unit) : Alt := .two y.1 (.one .ret (xh0.b (false, ()))) (.one (.exit 0) (xh1.b (())))
def tb (lf : Nat) : List (FuncId × Entry) := []
def s13_60 (lf : Nat) : List (Nat × (St → Option LTE)) := [(0, sumE sh0 fun (p : ByteArray × Int × Unit) => ⟨Bool × (Unit) × (Unit) × Unit, l0 lf p.1 (lf + 40) p.2.1, o0 p.1⟩)]
def ls (lf : Nat) : List (Nat × FuncId × Sums) := [(13, 60, sumsL (s13_60 lf))]
def it0 {ρ : Type} (lf n : Nat) (st : St) (k : KE ρ) : Option ρ := itG anns (ls lf) (tb lf) lf 13 60 0 0 (sumsL (s13_60 lf)) n st k
theorem t0 {ρ : Type} (lf n : Nat) (v0 : ByteArray) (v1 : Int) (k : KE ρ) : it0 lf (n + 1) (S0 (v0, v1, ())) k = r0 lf v0 v1 (fun x0 => it0 lf n (S0 (v0, x0, ())) k) (k .ret (xh0.b (false, ()))) (k (.exit 0) (xh1.b (()))) := by kernel_rfl
theorem u0 {ρ : Type} (lf : Nat) (v0 : ByteArray) (k : KE ρ) : ∀ (n : Nat) (v1 : Int), it0 lf n (S0 (v0, v1, ())) k = bd (l0 lf v0 n v1) fun y => altK k (o0 v0 y)
 | 0, _ => by rw [l0, bd_none]; rfl
 | n + 1, v1 => by
  rw [t0]; simp only [l0, r0, u0 lf v0 k n, bd_br, bd_bd, bd_some', bd_none, br_t, br_f, o0, altK]
theorem sl (lf : Nat) : SL anns (ls lf) (tb lf) lf (ls lf) := slC (laC (fun _ => by kernel_rfl) (fun _ (x : ByteArray × Int × Unit) k => leq_of (u0 lf x.1 k (lf + 40) x.2.1)) laN) slN
def f (lf : Nat) (a0 : ByteArray) : Option (Bool × Unit) :=
 br (a0.toList == (⟨#[48]⟩ : ByteArray).toList) (
 some (true, ())) (
 br (decide (((a0.size : Nat) : Int) > 0)) (
 bd (sIdx a0 0) fun r1 =>
 br (((r1.toNat : Nat) : Int) == 45) (
 br (1 == ((a0.size : Nat) : Int)) (
 some (false, ())) (
 bd (sIdx a0 1) fun r2 =>
 br (((r2.toNat : Nat) : Int) == 48) (
 some (false, ())) (
 bd (l0 lf a0 (lf + 40) 1) fun z5 =>
 br z5.1 (
 some (false, ())) (
 some (true, ()))))) (
 br (0 == ((a0.size : Nat) : Int)) (
 some (false, ())) (
 bd (sIdx a0 0) fun r6 =>
 br (((r6.toNat : Nat) : Int) == 48) (
 some (false, ())) (
 bd (l0 lf a0 (lf + 40) 0) fun z7 =>
 br z7.1 (
 some (false, ())) (
 some (true, ())))))) (
 br (0 == ((a0.size : Nat) : Int)) (
 some (false, ())) (
 bd (sIdx a0 0) fun r8 =>
 br (((r8.toNat : Nat) : Int) == 48) (
 some (false, ())) (
 bd (l0 lf a0 (lf + 40) 0) fun z9 =>
 br z9.1 (
 some (false, ())) (
 some (true, ()))))))
def E (lf : Nat) : Entry := ⟨[.str], [.bool], fun x => f lf x.1⟩
theorem ok (lf : Nat) : Ok 60 (E lf) := okL tN (aoC aoN) (sl lf) fun x => by kernel_rfl
end surveyorref01_Form
namespace surveyorref01_Negative
def f (lf : Nat) (a0 : ByteArray) : Option (Bool × Unit) :=
 bd (sIdx a0 0) fun r1 =>
 some ((((r1.toNat : Nat) : Int) == 45), ())
def E (lf : Nat) : Entry := ⟨[.str], [.bool], fun x => f lf x.1⟩
theorem ok (lf : Nat) : Ok 97 (E lf) := okT (an := (annsL [])) (lf := lf) tN aoN fun x => by kernel_rfl
end surveyorref01_Negative
namespace surveyorref01_Digits
def f (lf : Nat) (a0 : ByteArray) : Option (Int × Unit) :=
 bd (surveyorref01_Negative.f lf a0) fun r1 =>
 br r1.1 (
 some ((i64.wrap (((a0.size : Nat) : Int) - 1)), ())) (
 some (((a0.size : Nat) : Int), ()))
def E (lf : Nat) : Entry := ⟨[.str], [(.int .i64)], fun x => f lf x.1⟩
theorem ok (lf : Nat) : Ok 61 (E lf) := okT (an := (annsL [])) (lf := lf) (tC (surveyorref01_Negative.ok lf) tN) aoN fun x => by kernel_rfl
end surveyorref01_Digits
namespace surveyorref01_Check
def f (lf : Nat) (a0 : ByteArray) : Option (Int × Unit) :=
 bd (surveyorref01_Form.f lf a0) fun r1 =>
 br (!r1.1) (
 some (3, ())) (
 bd (surveyorref01_Digits.f lf a0) fun r2 =>
 br (decide (r2.1 > 4096)) (
 some (10, ())) (
 some (0, ())))
def E (lf : Nat) : Entry := ⟨[.str], [(.int .i64)], fun x => f lf x.1⟩
theorem ok (lf : Nat) : Ok 31 (E lf) := okT (an := (annsL [])) (lf := lf) (tC (surveyorref01_Form.ok lf) (tC (surveyorref01_Digits.ok lf) tN)) aoN fun x => by kernel_rfl
end surveyorref01_Check
namespace surveyorref01_Sign
def f (lf : Nat) (a0 : ByteArray) : Option (Int × Unit) :=
 br (a0.toList == (⟨#[48]⟩ : ByteArray).toList) (
 some (0, ())) (
 bd (surveyorref01_Negative.f lf a0) fun r1 =>
 br r1.1 (
 some ((-1), ())) (
 some (1, ())))
def E (lf : Nat) : Entry := ⟨[.str], [(.int .i64)], fun x => f lf x.1⟩
theorem ok (lf : Nat) : Ok 110 (E lf) := okT (an := (annsL [])) (lf := lf) (tC (surveyorref01_Negative.ok lf) tN) aoN fun x => by kernel_rfl
end surveyorref01_Sign
namespace surveyorref01_order
def anns : FuncId → FA := annsL [(244, ⟨annOf [(0, ⟨kx 41 [0, 1, 5], [], []⟩, ⟨kx 41 [4], [], []⟩)], none, []⟩)]
def r0 {ρ : Type} (lf : Nat) (v0 v1 : List Int) (v2 : Int) (K : Int → Option ρ) (E0 : Int → Option ρ) (E1 : Option ρ) : Option ρ :=
 br (decide (v2 ≥ 0)) (
 bd (idxL v0 v2) fun y1 =>
 bd (idxL v1 v2) fun y2 =>
 br (y1 != y2) (
 bd (idxL v0 v2) fun y3 =>
 bd (idxL v1 v2) fun y4 =>
 br (decide (y3 < y4)) (
 E0 (-1)) (
 E0 1)) (
 K (i64.wrap (v2 - 1)))) (
 E1)
def l0 (lf : Nat) (v0 v1 : List Int) : Nat → Int → Option (Bool × (Int × Unit) × (Unit) × Unit)
 | 0, _ => none
 | n + 1, v2 => r0 lf v0 v1 v2 (l0 lf v0 v1 n) (fun w0 => some (true, (w0, ()), ((()), ()))) (some (false, (0, ()), ((()), ())))
def sh0 : ShS := ⟨[.s (.sl (.int .i64)), .s (.sl (.int .i64)), .a 3, .s (.int .i64), .a 35], []⟩
def S0 (p : (List Int) × (List Int) × Int × Unit) : St := sh0.b p
def xh0 : ShS := ⟨[.a 4, .s (.int .i64), .a 36], []⟩
def xh1 : ShS := ⟨[.a 41], []⟩
def o0 (v0 v1 : List Int) (y : Bool × (Int × Unit) × (Unit) × Unit) : Alt := .two y.1 (.one .ret (xh0.b (y.2.1.1, ()))) (.one (.exit 0) (xh1.b (())))
def tb (lf : Nat) : List (FuncId × Entry) := []
def s13_244 (lf : Nat) : List (Nat × (St → Option LTE)) := [(0, sumE sh0 fun (p : (List Int) × (List Int) × Int × Unit) => ⟨Bool × (Int × Unit) × (Unit) × Unit, l0 lf p.1 p.2.1 (lf + 40) p.2.2.1, o0 p.1 p.2.1⟩)]
def ls (lf : Nat) : List (Nat × FuncId × Sums) := [(13, 244, sumsL (s13_244 lf))]
def it0 {ρ : Type} (lf n : Nat) (st : St) (k : KE ρ) : Option ρ := itG anns (ls lf) (tb lf) lf 13 244 0 0 (sumsL (s13_244 lf)) n st k
theorem t0 {ρ : Type} (lf n : Nat) (v0 v1 : List Int) (v2 : Int) (k : KE ρ) : it0 lf (n + 1) (S0 (v0, v1, v2, ())) k = r0 lf v0 v1 v2 (fun x0 => it0 lf n (S0 (v0, v1, x0, ())) k) (fun w0 => k .ret (xh0.b (w0, ()))) (k (.exit 0) (xh1.b (()))) := by kernel_rfl
theorem u0 {ρ : Type} (lf : Nat) (v0 v1 : List Int) (k : KE ρ) : ∀ (n : Nat) (v2 : Int), it0 lf n (S0 (v0, v1, v2, ())) k = bd (l0 lf v0 v1 n v2) fun y => altK k (o0 v0 v1 y)
 | 0, _ => by rw [l0, bd_none]; rfl
 | n + 1, v2 => by
  rw [t0]; simp only [l0, r0, u0 lf v0 v1 k n, bd_br, bd_bd, bd_some', bd_none, br_t, br_f, o0, altK]
theorem sl (lf : Nat) : SL anns (ls lf) (tb lf) lf (ls lf) := slC (laC (fun _ => by kernel_rfl) (fun _ (x : (List Int) × (List Int) × Int × Unit) k => leq_of (u0 lf x.1 x.2.1 k (lf + 40) x.2.2.1)) laN) slN
def f (lf : Nat) (a0 : List Int) (a1 : List Int) : Option (Int × Unit) :=
 br (((a0.length : Nat) : Int) != ((a1.length : Nat) : Int)) (
 br (decide (((a0.length : Nat) : Int) < ((a1.length : Nat) : Int))) (
 some ((-1), ())) (
 some (1, ()))) (
 bd (l0 lf a0 a1 (lf + 40) (i64.wrap (((a0.length : Nat) : Int) - 1))) fun z5 =>
 br z5.1 (
 some (z5.2.1.1, ())) (
 some (0, ())))
def E (lf : Nat) : Entry := ⟨[(.sl (.int .i64)), (.sl (.int .i64))], [(.int .i64)], fun x => f lf x.1 x.2.1⟩
theorem ok (lf : Nat) : Ok 244 (E lf) := okL tN (aoC aoN) (sl lf) fun x => by kernel_rfl
end surveyorref01_order
namespace surveyorref01_cut
def anns : FuncId → FA := annsL [(245, ⟨annOf [(0, ⟨kx 21 [0, 3], [], []⟩, ⟨kx 21 [0, 2, 3], [], []⟩)], none, []⟩)]
def r0 {ρ : Type} (lf : Nat) (v0 : List Int) (v1 : Int) (K : Int → Option ρ) (E0 : Int → Option ρ) : Option ρ :=
 br (decide (v1 > 0)) (
 bd (idxL v0 (i64.wrap (v1 - 1))) fun y1 =>
 br (y1 == 0) (
 K (i64.wrap (v1 - 1))) (
 E0 v1)) (
 E0 v1)
def l0 (lf : Nat) (v0 : List Int) : Nat → Int → Option ((Int × Unit) × Unit)
 | 0, _ => none
 | n + 1, v1 => r0 lf v0 v1 (l0 lf v0 n) (fun w0 => some ((w0, ()), ()))
def sh0 : ShS := ⟨[.s (.sl (.int .i64)), .a 2, .s (.int .i64), .a 17], []⟩
def S0 (p : (List Int) × Int × Unit) : St := sh0.b p
def xh0 : ShS := ⟨[.s (.sl (.int .i64)), .a 2, .s (.int .i64), .a 17], []⟩
def o0 (v0 : List Int) (y : (Int × Unit) × Unit) : Alt := .one (.exit 0) (xh0.b (v0, y.1.1, ()))
def tb (lf : Nat) : List (FuncId × Entry) := []
def s13_245 (lf : Nat) : List (Nat × (St → Option LTE)) := [(0, sumE sh0 fun (p : (List Int) × Int × Unit) => ⟨(Int × Unit) × Unit, l0 lf p.1 (lf + 40) p.2.1, o0 p.1⟩)]
def ls (lf : Nat) : List (Nat × FuncId × Sums) := [(13, 245, sumsL (s13_245 lf))]
def it0 {ρ : Type} (lf n : Nat) (st : St) (k : KE ρ) : Option ρ := itG anns (ls lf) (tb lf) lf 13 245 0 0 (sumsL (s13_245 lf)) n st k
theorem t0 {ρ : Type} (lf n : Nat) (v0 : List Int) (v1 : Int) (k : KE ρ) : it0 lf (n + 1) (S0 (v0, v1, ())) k = r0 lf v0 v1 (fun x0 => it0 lf n (S0 (v0, x0, ())) k) (fun w0 => k (.exit 0) (xh0.b (v0, w0, ()))) := by kernel_rfl
theorem u0 {ρ : Type} (lf : Nat) (v0 : List Int) (k : KE ρ) : ∀ (n : Nat) (v1 : Int), it0 lf n (S0 (v0, v1, ())) k = bd (l0 lf v0 n v1) fun y => altK k (o0 v0 y)
 | 0, _ => by rw [l0, bd_none]; rfl
 | n + 1, v1 => by
  rw [t0]; simp only [l0, r0, u0 lf v0 k n, bd_br, bd_bd, bd_some', bd_none, br_t, br_f, o0, altK]
theorem sl (lf : Nat) : SL anns (ls lf) (tb lf) lf (ls lf) := slC (laC (fun _ => by kernel_rfl) (fun _ (x : (List Int) × Int × Unit) k => leq_of (u0 lf x.1 k (lf + 40) x.2.1)) laN) slN
def f (lf : Nat) (a0 : List Int) : Option ((List Int) × Unit) :=
 bd (l0 lf a0 (lf + 40) ((a0.length : Nat) : Int)) fun z2 =>
 bd (cutL a0 none (some z2.1.1)) fun q3 =>
 some (q3, ())
def E (lf : Nat) : Entry := ⟨[(.sl (.int .i64))], [(.sl (.int .i64))], fun x => f lf x.1⟩
theorem ok (lf : Nat) : Ok 245 (E lf) := okL tN (aoC aoN) (sl lf) fun x => by kernel_rfl
end surveyorref01_cut
namespace surveyorref01_digits
def anns : FuncId → FA := annsL [(246, ⟨annOf [(0, ⟨kx 27 [0, 3, 4], [⟨.tmp 3, (.int .i64), 3⟩], []⟩, ⟨kx 27 [2, 3], [⟨.tmp 3, (.int .i64), 3⟩], []⟩)], none, []⟩)]
def r0 {ρ : Type} (lf : Nat) (v0 : ByteArray) (v1 : Int) (v2 : List Int) (K : Int → (List Int) → Option ρ) (E0 : (List Int) → Option ρ) : Option ρ :=
 br (decide (v1 ≥ 0)) (
 bd (sIdx v0 v1) fun r1 =>
 br (((r1.toNat : Nat) : Int) != 45) (
 bd (sIdx v0 v1) fun r2 =>
 bd (apL true 8 v2 [(i64.wrap (IntKind.u8.wrap (((r2.toNat : Nat) : Int) - 48)))]) fun q3 =>
 K (i64.wrap (v1 - 1)) q3) (
 E0 v2)) (
 E0 v2)
def l0 (lf : Nat) (v0 : ByteArray) : Nat → Int → (List Int) → Option (((List Int) × Unit) × Unit)
 | 0, _, _ => none
 | n + 1, v1, v2 => r0 lf v0 v1 v2 (l0 lf v0 n) (fun w0 => some ((w0, ()), ()))
def sh0 : ShS := ⟨[.s .str, .a 2, .s (.row 0), .s (.int .i64), .a 22], [.row (.int .i64) 3 false]⟩
def S0 (p : ByteArray × Int × (List Int) × Unit) : St := sh0.b p
def xh0 : ShS := ⟨[.a 3, .s (.row 0), .a 23], [.row (.int .i64) 3 false]⟩
def o0 (v0 : ByteArray) (y : ((List Int) × Unit) × Unit) : Alt := .one (.exit 0) (xh0.b (y.1.1, ()))
def tb (lf : Nat) : List (FuncId × Entry) := []
def s13_246 (lf : Nat) : List (Nat × (St → Option LTE)) := [(0, sumE sh0 fun (p : ByteArray × Int × (List Int) × Unit) => ⟨((List Int) × Unit) × Unit, l0 lf p.1 (lf + 40) p.2.1 p.2.2.1, o0 p.1⟩)]
def ls (lf : Nat) : List (Nat × FuncId × Sums) := [(13, 246, sumsL (s13_246 lf))]
def it0 {ρ : Type} (lf n : Nat) (st : St) (k : KE ρ) : Option ρ := itG anns (ls lf) (tb lf) lf 13 246 0 0 (sumsL (s13_246 lf)) n st k
theorem t0 {ρ : Type} (lf n : Nat) (v0 : ByteArray) (v1 : Int) (v2 : List Int) (k : KE ρ) : it0 lf (n + 1) (S0 (v0, v1, v2, ())) k = r0 lf v0 v1 v2 (fun x0 x1 => it0 lf n (S0 (v0, x0, x1, ())) k) (fun w0 => k (.exit 0) (xh0.b (w0, ()))) := by kernel_rfl
theorem u0 {ρ : Type} (lf : Nat) (v0 : ByteArray) (k : KE ρ) : ∀ (n : Nat) (v1 : Int) (v2 : List Int), it0 lf n (S0 (v0, v1, v2, ())) k = bd (l0 lf v0 n v1 v2) fun y => altK k (o0 v0 y)
 | 0, _, _ => by rw [l0, bd_none]; rfl
 | n + 1, v1, v2 => by
  rw [t0]; simp only [l0, r0, u0 lf v0 k n, bd_br, bd_bd, bd_some', bd_none, br_t, br_f, o0, altK]
theorem sl (lf : Nat) : SL anns (ls lf) (tb lf) lf (ls lf) := slC (laC (fun _ => by kernel_rfl) (fun _ (x : ByteArray × Int × (List Int) × Unit) k => leq_of (u0 lf x.1 k (lf + 40) x.2.1 x.2.2.1)) laN) slN
def f (lf : Nat) (a0 : ByteArray) : Option ((List Int) × Unit) :=
 bd (l0 lf a0 (lf + 40) (i64.wrap (((a0.size : Nat) : Int) - 1)) []) fun z4 =>
 some (z4.1.1, ())
def E (lf : Nat) : Entry := ⟨[.str], [(.sl (.int .i64))], fun x => f lf x.1⟩
theorem ok (lf : Nat) : Ok 246 (E lf) := okL tN (aoC aoN) (sl lf) fun x => by kernel_rfl
end surveyorref01_digits
namespace surveyorref01_Order
def f (lf : Nat) (a0 : ByteArray) (a1 : ByteArray) : Option (Int × Unit) :=
 bd (surveyorref01_Sign.f lf a0) fun r1 =>
 bd (surveyorref01_Sign.f lf a1) fun r2 =>
 br (r1.1 != r2.1) (
 br (decide (r1.1 < r2.1)) (
 some ((-1), ())) (
 some (1, ()))) (
 bd (surveyorref01_digits.f lf a0) fun r3 =>
 bd (surveyorref01_cut.f lf r3.1) fun r4 =>
 bd (surveyorref01_digits.f lf a1) fun r5 =>
 bd (surveyorref01_cut.f lf r5.1) fun r6 =>
 bd (surveyorref01_order.f lf r4.1 r6.1) fun r7 =>
 some ((i64.wrap (r1.1 * r7.1)), ()))
def E (lf : Nat) : Entry := ⟨[.str, .str], [(.int .i64)], fun x => f lf x.1 x.2.1⟩
theorem ok (lf : Nat) : Ok 167 (E lf) := okT (an := (annsL [])) (lf := lf) (tC (surveyorref01_Sign.ok lf) (tC (surveyorref01_order.ok lf) (tC (surveyorref01_cut.ok lf) (tC (surveyorref01_digits.ok lf) tN)))) aoN fun x => by kernel_rfl
end surveyorref01_Order
namespace surveyorref01_Less
def f (lf : Nat) (a0 : ByteArray) (a1 : ByteArray) : Option (Bool × Unit) :=
 bd (surveyorref01_Order.f lf a0 a1) fun r1 =>
 some ((decide (r1.1 < 0)), ())
def E (lf : Nat) : Entry := ⟨[.str, .str], [.bool], fun x => f lf x.1 x.2.1⟩
theorem ok (lf : Nat) : Ok 108 (E lf) := okT (an := (annsL [])) (lf := lf) (tC (surveyorref01_Order.ok lf) tN) aoN fun x => by kernel_rfl
end surveyorref01_Less
namespace surveyorref01_Magnitude
def f (lf : Nat) (a0 : ByteArray) : Option (ByteArray × Unit) :=
 bd (surveyorref01_Negative.f lf a0) fun r1 =>
 br r1.1 (
 bd (sCut a0 (some 1) none) fun r2 =>
 some (r2, ())) (
 some (a0, ()))
def E (lf : Nat) : Entry := ⟨[.str], [.str], fun x => f lf x.1⟩
theorem ok (lf : Nat) : Ok 161 (E lf) := okT (an := (annsL [])) (lf := lf) (tC (surveyorref01_Negative.ok lf) tN) aoN fun x => by kernel_rfl
end surveyorref01_Magnitude
namespace surveyorref01_short
def f (lf : Nat) (a0 : ByteArray) (a1 : Int) : Option (Bool × Unit) :=
 bd (surveyorref01_Digits.f lf a0) fun r1 =>
 some ((decide (r1.1 ≤ a1)), ())
def E (lf : Nat) : Entry := ⟨[.str, (.int .i64)], [.bool], fun x => f lf x.1 x.2.1⟩
theorem ok (lf : Nat) : Ok 247 (E lf) := okT (an := (annsL [])) (lf := lf) (tC (surveyorref01_Digits.ok lf) tN) aoN fun x => by kernel_rfl
end surveyorref01_short
namespace surveyorref01_Whole
def anns : FuncId → FA := annsL [(248, ⟨annOf [(0, ⟨kx 30 [0, 3, 4], [], []⟩, ⟨kx 30 [0, 2, 3], [], []⟩)], none, []⟩)]
def r0 {ρ : Type} (lf : Nat) (v0 : Int) (v1 : ByteArray) (v2 : Int) (K : ByteArray → Int → Option ρ) (E0 : ByteArray → Option ρ) : Option ρ :=
 br (v2 != 0) (
 bd (iRem v2 10) fun r1 =>
 bd (iRem v2 10) fun r2 =>
 bd (sCut (⟨#[48, 49, 50, 51, 52, 53, 54, 55, 56, 57]⟩ : ByteArray) (some (if (i64.wrap (0 - r2)) > r1 then (i64.wrap (0 - r2)) else r1)) (some (i64.wrap ((if (i64.wrap (0 - r2)) > r1 then (i64.wrap (0 - r2)) else r1) + 1)))) fun r3 =>
 bd (sCat r3 v1) fun r4 =>
 bd (iQuo .i64 v2 10) fun r5 =>
 K r4 r5) (
 E0 v1)
def l0 (lf : Nat) (v0 : Int) : Nat → ByteArray → Int → Option ((ByteArray × Unit) × Unit)
 | 0, _, _ => none
 | n + 1, v1, v2 => r0 lf v0 v1 v2 (l0 lf v0 n) (fun w0 => some ((w0, ()), ()))
def sh0 : ShS := ⟨[.s (.int .i64), .a 2, .s .str, .s (.int .i64), .a 25], []⟩
def S0 (p : Int × ByteArray × Int × Unit) : St := sh0.b p
def xh0 : ShS := ⟨[.s (.int .i64), .a 2, .s .str, .a 26], []⟩
def o0 (v0 : Int) (y : (ByteArray × Unit) × Unit) : Alt := .one (.exit 0) (xh0.b (v0, y.1.1, ()))
def tb (lf : Nat) : List (FuncId × Entry) := []
def s13_248 (lf : Nat) : List (Nat × (St → Option LTE)) := [(0, sumE sh0 fun (p : Int × ByteArray × Int × Unit) => ⟨(ByteArray × Unit) × Unit, l0 lf p.1 (lf + 40) p.2.1 p.2.2.1, o0 p.1⟩)]
def ls (lf : Nat) : List (Nat × FuncId × Sums) := [(13, 248, sumsL (s13_248 lf))]
def it0 {ρ : Type} (lf n : Nat) (st : St) (k : KE ρ) : Option ρ := itG anns (ls lf) (tb lf) lf 13 248 0 0 (sumsL (s13_248 lf)) n st k
theorem t0 {ρ : Type} (lf n : Nat) (v0 : Int) (v1 : ByteArray) (v2 : Int) (k : KE ρ) : it0 lf (n + 1) (S0 (v0, v1, v2, ())) k = r0 lf v0 v1 v2 (fun x0 x1 => it0 lf n (S0 (v0, x0, x1, ())) k) (fun w0 => k (.exit 0) (xh0.b (v0, w0, ()))) := by kernel_rfl
theorem u0 {ρ : Type} (lf : Nat) (v0 : Int) (k : KE ρ) : ∀ (n : Nat) (v1 : ByteArray) (v2 : Int), it0 lf n (S0 (v0, v1, v2, ())) k = bd (l0 lf v0 n v1 v2) fun y => altK k (o0 v0 y)
 | 0, _, _ => by rw [l0, bd_none]; rfl
 | n + 1, v1, v2 => by
  rw [t0]; simp only [l0, r0, u0 lf v0 k n, bd_br, bd_bd, bd_some', bd_none, br_t, br_f, o0, altK]
theorem sl (lf : Nat) : SL anns (ls lf) (tb lf) lf (ls lf) := slC (laC (fun _ => by kernel_rfl) (fun _ (x : Int × ByteArray × Int × Unit) k => leq_of (u0 lf x.1 k (lf + 40) x.2.1 x.2.2.1)) laN) slN
def f (lf : Nat) (a0 : Int) : Option (ByteArray × Unit) :=
 br (a0 == 0) (
 some ((⟨#[48]⟩ : ByteArray), ())) (
 bd (l0 lf a0 (lf + 40) (⟨#[]⟩ : ByteArray) a0) fun z6 =>
 br (decide (a0 < 0)) (
 bd (sCat (⟨#[45]⟩ : ByteArray) z6.1.1) fun r7 =>
 some (r7, ())) (
 some (z6.1.1, ())))
def E (lf : Nat) : Entry := ⟨[(.int .i64)], [.str], fun x => f lf x.1⟩
theorem ok (lf : Nat) : Ok 248 (E lf) := okL tN (aoC aoN) (sl lf) fun x => by kernel_rfl
end surveyorref01_Whole
end
end Go.Q
namespace Go.Q
open Go Go.RowKit
open Go.Rx (br bd sIdx sCat sCut iQuo iRem iShl)
noncomputable section
namespace surveyorref03_FewText
def f (lf : Nat) (a0 : ByteArray) : Option (Bool × Unit) :=
 some ((decide (((a0.size : Nat) : Int) ≤ 450)), ())
def E (lf : Nat) : Entry := ⟨[.str], [.bool], fun x => f lf x.1⟩
theorem ok (lf : Nat) : Ok 17 (E lf) := okT (an := (annsL [])) (lf := lf) tN aoN fun x => by kernel_rfl
end surveyorref03_FewText
end
end Go.Q
namespace Go.Q
open Go.IntKind (i64)
open Go Go.RowKit
open Go.Rx (br bd sIdx sCat sCut iQuo iRem iShl)
noncomputable section
namespace surveyorref06_FewInts
def anns : FuncId → FA := annsL [(5, ⟨annOf [(0, ⟨kx 19 [0, 3], [], []⟩, ⟨kx 19 [2], [], []⟩)], none, []⟩)]
def r0 {ρ : Type} (lf : Nat) (v0 : List ByteArray) (v1 : Int) (K : Int → Option ρ) (E0 : Option ρ) (E1 : Option ρ) : Option ρ :=
 br (decide (v1 < ((v0.length : Nat) : Int))) (
 bd (idxL v0 v1) fun y1 =>
 bd (surveyorref03_FewText.f lf y1) fun r2 =>
 br (!r2.1) (
 E0) (
 K (i64.wrap (v1 + 1)))) (
 E1)
def l0 (lf : Nat) (v0 : List ByteArray) : Nat → Int → Option (Bool × (Unit) × (Unit) × Unit)
 | 0, _ => none
 | n + 1, v1 => r0 lf v0 v1 (l0 lf v0 n) (some (true, (()), ((()), ()))) (some (false, (()), ((()), ())))
def sh0 : ShS := ⟨[.s (.sl .str), .a 2, .s (.int .i64), .a 15], []⟩
def S0 (p : (List ByteArray) × Int × Unit) : St := sh0.b p
def xh0 : ShS := ⟨[.a 2, .s .bool, .a 16], []⟩
def xh1 : ShS := ⟨[.a 19], []⟩
def o0 (v0 : List ByteArray) (y : Bool × (Unit) × (Unit) × Unit) : Alt := .two y.1 (.one .ret (xh0.b (false, ()))) (.one (.exit 0) (xh1.b (())))
def tb (lf : Nat) : List (FuncId × Entry) := [(17, surveyorref03_FewText.E lf)]
def s13_5 (lf : Nat) : List (Nat × (St → Option LTE)) := [(0, sumE sh0 fun (p : (List ByteArray) × Int × Unit) => ⟨Bool × (Unit) × (Unit) × Unit, l0 lf p.1 (lf + 40) p.2.1, o0 p.1⟩)]
def ls (lf : Nat) : List (Nat × FuncId × Sums) := [(13, 5, sumsL (s13_5 lf))]
def it0 {ρ : Type} (lf n : Nat) (st : St) (k : KE ρ) : Option ρ := itG anns (ls lf) (tb lf) lf 13 5 0 0 (sumsL (s13_5 lf)) n st k
theorem t0 {ρ : Type} (lf n : Nat) (v0 : List ByteArray) (v1 : Int) (k : KE ρ) : it0 lf (n + 1) (S0 (v0, v1, ())) k = r0 lf v0 v1 (fun x0 => it0 lf n (S0 (v0, x0, ())) k) (k .ret (xh0.b (false, ()))) (k (.exit 0) (xh1.b (()))) := by kernel_rfl
theorem u0 {ρ : Type} (lf : Nat) (v0 : List ByteArray) (k : KE ρ) : ∀ (n : Nat) (v1 : Int), it0 lf n (S0 (v0, v1, ())) k = bd (l0 lf v0 n v1) fun y => altK k (o0 v0 y)
 | 0, _ => by rw [l0, bd_none]; rfl
 | n + 1, v1 => by
  rw [t0]; simp only [l0, r0, u0 lf v0 k n, bd_br, bd_bd, bd_some', bd_none, br_t, br_f, o0, altK]
theorem sl (lf : Nat) : SL anns (ls lf) (tb lf) lf (ls lf) := slC (laC (fun _ => by kernel_rfl) (fun _ (x : (List ByteArray) × Int × Unit) k => leq_of (u0 lf x.1 k (lf + 40) x.2.1)) laN) slN
def f (lf : Nat) (a0 : List ByteArray) : Option (Bool × Unit) :=
 br (decide (((a0.length : Nat) : Int) > 40)) (
 some (false, ())) (
 bd (l0 lf a0 (lf + 40) 0) fun z3 =>
 br z3.1 (
 some (false, ())) (
 some (true, ())))
def E (lf : Nat) : Entry := ⟨[(.sl .str)], [.bool], fun x => f lf x.1⟩
theorem ok (lf : Nat) : Ok 5 (E lf) := okL (tC (surveyorref03_FewText.ok lf) tN) (aoC aoN) (sl lf) fun x => by kernel_rfl
end surveyorref06_FewInts
namespace surveyorref06_Number
def f (lf : Nat) (a0 : ByteArray) : Option (Int × Unit) :=
 bd (surveyorref01_Check.f lf a0) fun r1 =>
 br (r1.1 != 0) (
 some (r1.1, ())) (
 bd (surveyorref01_Digits.f lf a0) fun r2 =>
 br (decide (r2.1 > 100)) (
 some (10, ())) (
 some (0, ())))
def E (lf : Nat) : Entry := ⟨[.str], [(.int .i64)], fun x => f lf x.1⟩
theorem ok (lf : Nat) : Ok 166 (E lf) := okT (an := (annsL [])) (lf := lf) (tC (surveyorref01_Check.ok lf) (tC (surveyorref01_Digits.ok lf) tN)) aoN fun x => by kernel_rfl
end surveyorref06_Number
end
end Go.Q
namespace Go.Q
open Go Go.RowKit
open Go.Rx (br bd sIdx sCat sCut iQuo iRem iShl)
noncomputable section
namespace surveyorref21_Few
def f (lf : Nat) (a0 : TI) (a1 : TI) : Option (Bool × Unit) :=
 br (decide (((a0.2.1.size : Nat) : Int) ≤ 450)) (
 br (decide (((a0.2.2.1.size : Nat) : Int) ≤ 450)) (
 br (decide (((a1.2.1.size : Nat) : Int) ≤ 450)) (
 some ((decide (((a1.2.2.1.size : Nat) : Int) ≤ 450)), ())) (
 some (false, ()))) (
 some (false, ()))) (
 some (false, ()))
def E (lf : Nat) : Entry := ⟨[yI, yI], [.bool], fun x => f lf x.1 x.2.1⟩
theorem ok (lf : Nat) : Ok 42 (E lf) := okT (an := (annsL [])) (lf := lf) tN aoN fun x => by kernel_rfl
end surveyorref21_Few
namespace surveyorref21_bound
def f (lf : Nat) (a0 : ByteArray) : Option (Int × Unit) :=
 br (a0.toList == (⟨#[]⟩ : ByteArray).toList) (
 some (0, ())) (
 bd (surveyorref06_Number.f lf a0) fun r1 =>
 some (r1.1, ()))
def E (lf : Nat) : Entry := ⟨[.str], [(.int .i64)], fun x => f lf x.1⟩
theorem ok (lf : Nat) : Ok 107 (E lf) := okT (an := (annsL [])) (lf := lf) (tC (surveyorref06_Number.ok lf) tN) aoN fun x => by kernel_rfl
end surveyorref21_bound
namespace surveyorref21_Check
def f (lf : Nat) (a0 : TI) : Option (Int × Unit) :=
 br a0.1 (
 br (!(a0.2.1.toList == (⟨#[]⟩ : ByteArray).toList)) (
 some (3, ())) (
 br (!(a0.2.2.1.toList == (⟨#[]⟩ : ByteArray).toList)) (
 some (3, ())) (
 bd (surveyorref21_bound.f lf a0.2.1) fun r1 =>
 br (r1.1 != 0) (
 some (r1.1, ())) (
 bd (surveyorref21_bound.f lf a0.2.2.1) fun r2 =>
 br (r2.1 != 0) (
 some (r2.1, ())) (
 br (!(a0.2.1.toList == (⟨#[]⟩ : ByteArray).toList)) (
 br (!(a0.2.2.1.toList == (⟨#[]⟩ : ByteArray).toList)) (
 bd (surveyorref01_Less.f lf a0.2.2.1 a0.2.1) fun r3 =>
 br r3.1 (
 some (14, ())) (
 some (0, ()))) (
 some (0, ()))) (
 some (0, ()))))))) (
 bd (surveyorref21_bound.f lf a0.2.1) fun r4 =>
 br (r4.1 != 0) (
 some (r4.1, ())) (
 bd (surveyorref21_bound.f lf a0.2.2.1) fun r5 =>
 br (r5.1 != 0) (
 some (r5.1, ())) (
 br (!(a0.2.1.toList == (⟨#[]⟩ : ByteArray).toList)) (
 br (!(a0.2.2.1.toList == (⟨#[]⟩ : ByteArray).toList)) (
 bd (surveyorref01_Less.f lf a0.2.2.1 a0.2.1) fun r6 =>
 br r6.1 (
 some (14, ())) (
 some (0, ()))) (
 some (0, ()))) (
 some (0, ())))))
def E (lf : Nat) : Entry := ⟨[yI], [(.int .i64)], fun x => f lf x.1⟩
theorem ok (lf : Nat) : Ok 71 (E lf) := okT (an := (annsL [])) (lf := lf) (tC (surveyorref21_bound.ok lf) (tC (surveyorref01_Less.ok lf) tN)) aoN fun x => by kernel_rfl
end surveyorref21_Check
namespace surveyorref21_In
def f (lf : Nat) (a0 : TI) (a1 : ByteArray) : Option (Bool × Unit) :=
 br (!a0.1) (
 br (a0.2.1.toList == (⟨#[]⟩ : ByteArray).toList) (
 br (a0.2.2.1.toList == (⟨#[]⟩ : ByteArray).toList) (
 some (true, ())) (
 bd (surveyorref01_Less.f lf a0.2.2.1 a1) fun r1 =>
 some ((!r1.1), ()))) (
 bd (surveyorref01_Less.f lf a1 a0.2.1) fun r2 =>
 br (!r2.1) (
 br (a0.2.2.1.toList == (⟨#[]⟩ : ByteArray).toList) (
 some (true, ())) (
 bd (surveyorref01_Less.f lf a0.2.2.1 a1) fun r3 =>
 some ((!r3.1), ()))) (
 some (false, ())))) (
 some (false, ()))
def E (lf : Nat) : Entry := ⟨[yI, .str], [.bool], fun x => f lf x.1 x.2.1⟩
theorem ok (lf : Nat) : Ok 98 (E lf) := okT (an := (annsL [])) (lf := lf) (tC (surveyorref01_Less.ok lf) tN) aoN fun x => by kernel_rfl
end surveyorref21_In
namespace surveyorref21_None
def f (lf : Nat)  : Option (TI × Unit) :=
 some ((true, (⟨#[]⟩ : ByteArray), (⟨#[]⟩ : ByteArray), ()), ())
def E (lf : Nat) : Entry := ⟨[], [yI], fun x => f lf ⟩
theorem ok (lf : Nat) : Ok 168 (E lf) := okT (an := (annsL [])) (lf := lf) tN aoN fun x => by kernel_rfl
end surveyorref21_None
namespace surveyorref21_clip
def f (lf : Nat) (a0 : ByteArray) : Option (ByteArray × Unit) :=
 br (!(a0.toList == (⟨#[]⟩ : ByteArray).toList)) (
 bd (surveyorref01_Digits.f lf a0) fun r1 =>
 br (decide (r1.1 > 100)) (
 some ((⟨#[]⟩ : ByteArray), ())) (
 some (a0, ()))) (
 some (a0, ()))
def E (lf : Nat) : Entry := ⟨[.str], [.str], fun x => f lf x.1⟩
theorem ok (lf : Nat) : Ok 173 (E lf) := okT (an := (annsL [])) (lf := lf) (tC (surveyorref01_Digits.ok lf) tN) aoN fun x => by kernel_rfl
end surveyorref21_clip
namespace surveyorref21_Range
def f (lf : Nat) (a0 : ByteArray) (a1 : ByteArray) : Option (TI × Unit) :=
 br (!(a0.toList == (⟨#[]⟩ : ByteArray).toList)) (
 br (!(a1.toList == (⟨#[]⟩ : ByteArray).toList)) (
 bd (surveyorref01_Less.f lf a1 a0) fun r1 =>
 br r1.1 (
 bd (surveyorref21_None.f lf) fun r2 =>
 some (r2.1, ())) (
 bd (surveyorref21_clip.f lf a0) fun r3 =>
 bd (surveyorref21_clip.f lf a1) fun r4 =>
 some ((false, r3.1, r4.1, ()), ()))) (
 bd (surveyorref21_clip.f lf a0) fun r5 =>
 bd (surveyorref21_clip.f lf a1) fun r6 =>
 some ((false, r5.1, r6.1, ()), ()))) (
 bd (surveyorref21_clip.f lf a0) fun r7 =>
 bd (surveyorref21_clip.f lf a1) fun r8 =>
 some ((false, r7.1, r8.1, ()), ()))
def E (lf : Nat) : Entry := ⟨[.str, .str], [yI], fun x => f lf x.1 x.2.1⟩
theorem ok (lf : Nat) : Ok 114 (E lf) := okT (an := (annsL [])) (lf := lf) (tC (surveyorref01_Less.ok lf) (tC (surveyorref21_None.ok lf) (tC (surveyorref21_clip.ok lf) tN))) aoN fun x => by kernel_rfl
end surveyorref21_Range
end
end Go.Q
