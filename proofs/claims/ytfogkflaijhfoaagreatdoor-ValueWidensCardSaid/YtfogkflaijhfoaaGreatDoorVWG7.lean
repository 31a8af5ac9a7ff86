import Derived.Test.YtfogkflaijhfoaaGreatDoorProg
import Derived.KernelRfl
import Derived.Test.YtfogkflaijhfoaaGreatDoorVWE3
import Derived.Test.YtfogkflaijhfoaaGreatDoorVWG1
import Derived.Test.YtfogkflaijhfoaaGreatDoorVWG2
import Derived.Test.YtfogkflaijhfoaaGreatDoorVWG3
import Derived.Test.YtfogkflaijhfoaaGreatDoorVWG4
import Derived.Test.YtfogkflaijhfoaaGreatDoorVWG5
import Derived.Test.YtfogkflaijhfoaaGreatDoorVWG6
set_option linter.unusedVariables false
set_option linter.unusedSimpArgs false
set_option linter.unusedSectionVars false
set_option maxRecDepth 100000
namespace Go.Q
open Go Go.RowKit
open Go.Rx (br bd sIdx sCat sCut iQuo iRem)
noncomputable section
namespace value_empty
def f (lf : Nat)  : Option (TV × Unit) :=
 some (((true, (⟨#[]⟩ : ByteArray), (⟨#[]⟩ : ByteArray), ()), (true, (⟨#[]⟩ : ByteArray), (⟨#[]⟩ : ByteArray), ()), ()), ())
def E (lf : Nat) : Entry := ⟨[], [yV], fun x => f lf ⟩
theorem ok (lf : Nat) : Ok 117 (E lf) := okT (an := (annsL [])) (lf := lf) tN aoN fun x => by kernel_rfl
end value_empty
namespace value_one
def f (lf : Nat) (a0 : ByteArray) : Option (TV × Unit) :=
 some (((false, a0, a0, ()), (false, (⟨#[48]⟩ : ByteArray), a0, ()), ()), ())
def E (lf : Nat) : Entry := ⟨[.str], [yV], fun x => f lf x.1⟩
theorem ok (lf : Nat) : Ok 135 (E lf) := okT (an := (annsL [])) (lf := lf) tN aoN fun x => by kernel_rfl
end value_one
namespace value_clip
def f (lf : Nat) (a0 : ByteArray) : Option (ByteArray × Unit) :=
 bd (strings_TrimPrefix.f lf a0 (⟨#[45]⟩ : ByteArray)) fun r1 =>
 br (decide (((r1.1.size : Nat) : Int) > 100)) (
 some ((⟨#[]⟩ : ByteArray), ())) (
 some (a0, ()))
def E (lf : Nat) : Entry := ⟨[.str], [.str], fun x => f lf x.1⟩
theorem ok (lf : Nat) : Ok 134 (E lf) := okT (an := (annsL [])) (lf := lf) (tC (strings_TrimPrefix.ok lf) tN) aoN fun x => by kernel_rfl
end value_clip
namespace value_reduced
def f (lf : Nat) (a0 : TI) (a1 : TI) : Option (TV × Unit) :=
 br a0.1 (
 bd (value_empty.f lf) fun r1 =>
 some (r1.1, ())) (
 br a1.1 (
 bd (value_empty.f lf) fun r2 =>
 some (r2.1, ())) (
 br (a1.2.1.toList == (⟨#[48]⟩ : ByteArray).toList) (
 bd (interval_Holds.f lf a0 a1.2.2.1) fun r3 =>
 br (!r3.1) (
 bd (value_empty.f lf) fun r4 =>
 some (r4.1, ())) (
 bd (value_one.f lf a1.2.2.1) fun r5 =>
 some (r5.1, ()))) (
 br (!(a0.2.1.toList == (⟨#[]⟩ : ByteArray).toList)) (
 bd (congruence_Least.f lf a1 a0.2.1) fun r6 =>
 br (!(a0.2.2.1.toList == (⟨#[]⟩ : ByteArray).toList)) (
 bd (congruence_Greatest.f lf a1 a0.2.2.1) fun r7 =>
 br (!(r6.1.toList == (⟨#[]⟩ : ByteArray).toList)) (
 br (!(r7.1.toList == (⟨#[]⟩ : ByteArray).toList)) (
 bd (bigint_Compare.f lf r6.1 r7.1) fun r8 =>
 br (decide (r8.1 > 0)) (
 bd (value_empty.f lf) fun r9 =>
 some (r9.1, ())) (
 br (r8.1 == 0) (
 bd (value_one.f lf r6.1) fun r10 =>
 some (r10.1, ())) (
 bd (value_clip.f lf r6.1) fun r11 =>
 bd (value_clip.f lf r7.1) fun r12 =>
 some (((false, r11.1, r12.1, ()), a1, ()), ())))) (
 bd (value_clip.f lf r6.1) fun r13 =>
 bd (value_clip.f lf r7.1) fun r14 =>
 some (((false, r13.1, r14.1, ()), a1, ()), ()))) (
 bd (value_clip.f lf r6.1) fun r15 =>
 bd (value_clip.f lf r7.1) fun r16 =>
 some (((false, r15.1, r16.1, ()), a1, ()), ()))) (
 br (!(r6.1.toList == (⟨#[]⟩ : ByteArray).toList)) (
 br (!(a0.2.2.1.toList == (⟨#[]⟩ : ByteArray).toList)) (
 bd (bigint_Compare.f lf r6.1 a0.2.2.1) fun r17 =>
 br (decide (r17.1 > 0)) (
 bd (value_empty.f lf) fun r18 =>
 some (r18.1, ())) (
 br (r17.1 == 0) (
 bd (value_one.f lf r6.1) fun r19 =>
 some (r19.1, ())) (
 bd (value_clip.f lf r6.1) fun r20 =>
 bd (value_clip.f lf a0.2.2.1) fun r21 =>
 some (((false, r20.1, r21.1, ()), a1, ()), ())))) (
 bd (value_clip.f lf r6.1) fun r22 =>
 bd (value_clip.f lf a0.2.2.1) fun r23 =>
 some (((false, r22.1, r23.1, ()), a1, ()), ()))) (
 bd (value_clip.f lf r6.1) fun r24 =>
 bd (value_clip.f lf a0.2.2.1) fun r25 =>
 some (((false, r24.1, r25.1, ()), a1, ()), ())))) (
 br (!(a0.2.2.1.toList == (⟨#[]⟩ : ByteArray).toList)) (
 bd (congruence_Greatest.f lf a1 a0.2.2.1) fun r26 =>
 br (!(a0.2.1.toList == (⟨#[]⟩ : ByteArray).toList)) (
 br (!(r26.1.toList == (⟨#[]⟩ : ByteArray).toList)) (
 bd (bigint_Compare.f lf a0.2.1 r26.1) fun r27 =>
 br (decide (r27.1 > 0)) (
 bd (value_empty.f lf) fun r28 =>
 some (r28.1, ())) (
 br (r27.1 == 0) (
 bd (value_one.f lf a0.2.1) fun r29 =>
 some (r29.1, ())) (
 bd (value_clip.f lf a0.2.1) fun r30 =>
 bd (value_clip.f lf r26.1) fun r31 =>
 some (((false, r30.1, r31.1, ()), a1, ()), ())))) (
 bd (value_clip.f lf a0.2.1) fun r32 =>
 bd (value_clip.f lf r26.1) fun r33 =>
 some (((false, r32.1, r33.1, ()), a1, ()), ()))) (
 bd (value_clip.f lf a0.2.1) fun r34 =>
 bd (value_clip.f lf r26.1) fun r35 =>
 some (((false, r34.1, r35.1, ()), a1, ()), ()))) (
 br (!(a0.2.1.toList == (⟨#[]⟩ : ByteArray).toList)) (
 br (!(a0.2.2.1.toList == (⟨#[]⟩ : ByteArray).toList)) (
 bd (bigint_Compare.f lf a0.2.1 a0.2.2.1) fun r36 =>
 br (decide (r36.1 > 0)) (
 bd (value_empty.f lf) fun r37 =>
 some (r37.1, ())) (
 br (r36.1 == 0) (
 bd (value_one.f lf a0.2.1) fun r38 =>
 some (r38.1, ())) (
 bd (value_clip.f lf a0.2.1) fun r39 =>
 bd (value_clip.f lf a0.2.2.1) fun r40 =>
 some (((false, r39.1, r40.1, ()), a1, ()), ())))) (
 bd (value_clip.f lf a0.2.1) fun r41 =>
 bd (value_clip.f lf a0.2.2.1) fun r42 =>
 some (((false, r41.1, r42.1, ()), a1, ()), ()))) (
 bd (value_clip.f lf a0.2.1) fun r43 =>
 bd (value_clip.f lf a0.2.2.1) fun r44 =>
 some (((false, r43.1, r44.1, ()), a1, ()), ())))))))
def E (lf : Nat) : Entry := ⟨[yI, yI], [yV], fun x => f lf x.1 x.2.1⟩
theorem ok (lf : Nat) : Ok 116 (E lf) := okT (an := (annsL [])) (lf := lf) (tC (interval_Holds.ok lf) (tC (value_empty.ok lf) (tC (value_clip.ok lf) (tC (value_one.ok lf) (tC (bigint_Compare.ok lf) (tC (congruence_Least.ok lf) (tC (congruence_Greatest.ok lf) tN))))))) aoN fun x => by kernel_rfl
end value_reduced
namespace value_parts
def f (lf : Nat) (a0 : TI) (a1 : TI) : Option (Int × Unit) :=
 bd (interval_Check.f lf a0) fun r1 =>
 br (r1.1 != 0) (
 some (r1.1, ())) (
 bd (congruence_Check.f lf a1) fun r2 =>
 some (r2.1, ()))
def E (lf : Nat) : Entry := ⟨[yI, yI], [(.int .i64)], fun x => f lf x.1 x.2.1⟩
theorem ok (lf : Nat) : Ok 132 (E lf) := okT (an := (annsL [])) (lf := lf) (tC (interval_Check.ok lf) (tC (congruence_Check.ok lf) tN)) aoN fun x => by kernel_rfl
end value_parts
namespace value_Check
def f (lf : Nat) (a0 : TV) : Option (Int × Unit) :=
 bd (value_parts.f lf a0.1 a0.2.1) fun r1 =>
 br (r1.1 != 0) (
 some (r1.1, ())) (
 bd (value_reduced.f lf a0.1 a0.2.1) fun r2 =>
 bd (some (!(((r2.1.1.1 == a0.1.1) && ((r2.1.1.2.1 == a0.1.2.1) && ((r2.1.1.2.2.1 == a0.1.2.2.1) && true))) && (((r2.1.2.1.1 == a0.2.1.1) && ((r2.1.2.1.2.1 == a0.2.1.2.1) && ((r2.1.2.1.2.2.1 == a0.2.1.2.2.1) && true))) && true)))) fun r3 =>
 br r3 (
 some (3, ())) (
 some (0, ())))
def E (lf : Nat) : Entry := ⟨[yV], [(.int .i64)], fun x => f lf x.1⟩
theorem ok (lf : Nat) : Ok 45 (E lf) := okT (an := (annsL [])) (lf := lf) (tC (value_reduced.ok lf) (tC (value_parts.ok lf) tN)) aoN fun x => by kernel_rfl
end value_Check
namespace value_checks
def f (lf : Nat) (a0 : TV) (a1 : TV) : Option (Int × Unit) :=
 bd (value_Check.f lf a0) fun r1 =>
 br (r1.1 != 0) (
 some (r1.1, ())) (
 bd (value_Check.f lf a1) fun r2 =>
 some (r2.1, ()))
def E (lf : Nat) : Entry := ⟨[yV, yV], [(.int .i64)], fun x => f lf x.1 x.2.1⟩
theorem ok (lf : Nat) : Ok 114 (E lf) := okT (an := (annsL [])) (lf := lf) (tC (value_Check.ok lf) tN) aoN fun x => by kernel_rfl
end value_checks
namespace value_Apply
def l : List ((Int × TV × TV × Unit) × (TV × Int × Unit)) := [((3, ((false, (⟨#[52]⟩ : ByteArray), (⟨#[56]⟩ : ByteArray), ()), (false, (⟨#[52]⟩ : ByteArray), (⟨#[48]⟩ : ByteArray), ()), ()), ((false, (⟨#[48]⟩ : ByteArray), (⟨#[49]⟩ : ByteArray), ()), (false, (⟨#[49]⟩ : ByteArray), (⟨#[48]⟩ : ByteArray), ()), ()), ()), (((false, (⟨#[52]⟩ : ByteArray), (⟨#[57]⟩ : ByteArray), ()), (false, (⟨#[49]⟩ : ByteArray), (⟨#[48]⟩ : ByteArray), ()), ()), 0, ())), ((5, ((false, (⟨#[52]⟩ : ByteArray), (⟨#[56]⟩ : ByteArray), ()), (false, (⟨#[52]⟩ : ByteArray), (⟨#[48]⟩ : ByteArray), ()), ()), ((false, (⟨#[51]⟩ : ByteArray), (⟨#[51]⟩ : ByteArray), ()), (false, (⟨#[48]⟩ : ByteArray), (⟨#[51]⟩ : ByteArray), ()), ()), ()), (((false, (⟨#[49, 50]⟩ : ByteArray), (⟨#[50, 52]⟩ : ByteArray), ()), (false, (⟨#[49, 50]⟩ : ByteArray), (⟨#[48]⟩ : ByteArray), ()), ()), 0, ())), ((6, ((false, (⟨#[52]⟩ : ByteArray), (⟨#[56]⟩ : ByteArray), ()), (false, (⟨#[52]⟩ : ByteArray), (⟨#[48]⟩ : ByteArray), ()), ()), ((false, (⟨#[52]⟩ : ByteArray), (⟨#[52]⟩ : ByteArray), ()), (false, (⟨#[48]⟩ : ByteArray), (⟨#[52]⟩ : ByteArray), ()), ()), ()), (((false, (⟨#[49]⟩ : ByteArray), (⟨#[50]⟩ : ByteArray), ()), (false, (⟨#[49]⟩ : ByteArray), (⟨#[48]⟩ : ByteArray), ()), ()), 0, ()))]
def f (lf : Nat) (a0 : Int) (a1 : TV) (a2 : TV) : Option (TV × Int × Unit) := pick [(.int .i64), yV, yV] l (a0, a1, a2, ())
def E (lf : Nat) : Entry := ⟨[(.int .i64), yV, yV], [yV, (.int .i64)], fun x => f lf x.1 x.2.1 x.2.2.1⟩
def tb (lf : Nat) : List (FuncId × Entry) := [(99, congruence_both.E lf), (100, congruence_class.E lf), (101, congruence_gcd.E lf), (102, congruence_sub.E lf), (114, value_checks.E lf), (116, value_reduced.E lf), (174, interval_Check.E lf), (175, interval_of.E lf), (176, interval_span_interval.E lf), (177, interval_span_hull.E lf), (182, bigint_Add.E lf), (183, bigint_Sub.E lf), (186, bigint_Rem.E lf), (199, interval_finite.E lf), (200, interval_compare.E lf), (202, api_Int.E lf), (205, interval_span_empty.E lf), (206, interval_infinite.E lf), (209, congruence_Top.E lf), (227, interval_none.E lf), (269, interval_order.E lf), (271, interval_least.E lf), (272, interval_most.E lf), (274, bigint_pair.E lf), (275, bigint_written.E lf), (279, bigint_divided.E lf), (367, bigint_trim.E lf)]
abbrev an : FuncId → FA := annsL [(170, ⟨annOf [(0, ⟨kx 35 [3, 7], [], []⟩, ⟨[], [], []⟩)], none, []⟩)]
theorem t0 (lf : Nat) : runQ Proofs.Tryz.prog an noLs (lookT (tb lf)) (lf + 40) 14 6 23 [(.int .i64), yV, yV] [yV, (.int .i64)] (3, ((false, (⟨#[52]⟩ : ByteArray), (⟨#[56]⟩ : ByteArray), ()), (false, (⟨#[52]⟩ : ByteArray), (⟨#[48]⟩ : ByteArray), ()), ()), ((false, (⟨#[48]⟩ : ByteArray), (⟨#[49]⟩ : ByteArray), ()), (false, (⟨#[49]⟩ : ByteArray), (⟨#[48]⟩ : ByteArray), ()), ()), ()) = some (((false, (⟨#[52]⟩ : ByteArray), (⟨#[57]⟩ : ByteArray), ()), (false, (⟨#[49]⟩ : ByteArray), (⟨#[48]⟩ : ByteArray), ()), ()), 0, ()) := by kernel_rfl
theorem t1 (lf : Nat) : runQ Proofs.Tryz.prog an noLs (lookT (tb lf)) (lf + 40) 14 6 23 [(.int .i64), yV, yV] [yV, (.int .i64)] (5, ((false, (⟨#[52]⟩ : ByteArray), (⟨#[56]⟩ : ByteArray), ()), (false, (⟨#[52]⟩ : ByteArray), (⟨#[48]⟩ : ByteArray), ()), ()), ((false, (⟨#[51]⟩ : ByteArray), (⟨#[51]⟩ : ByteArray), ()), (false, (⟨#[48]⟩ : ByteArray), (⟨#[51]⟩ : ByteArray), ()), ()), ()) = some (((false, (⟨#[49, 50]⟩ : ByteArray), (⟨#[50, 52]⟩ : ByteArray), ()), (false, (⟨#[49, 50]⟩ : ByteArray), (⟨#[48]⟩ : ByteArray), ()), ()), 0, ()) := by kernel_rfl
theorem t2 (lf : Nat) : runQ Proofs.Tryz.prog an noLs (lookT (tb lf)) (lf + 40) 14 6 23 [(.int .i64), yV, yV] [yV, (.int .i64)] (6, ((false, (⟨#[52]⟩ : ByteArray), (⟨#[56]⟩ : ByteArray), ()), (false, (⟨#[52]⟩ : ByteArray), (⟨#[48]⟩ : ByteArray), ()), ()), ((false, (⟨#[52]⟩ : ByteArray), (⟨#[52]⟩ : ByteArray), ()), (false, (⟨#[48]⟩ : ByteArray), (⟨#[52]⟩ : ByteArray), ()), ()), ()) = some (((false, (⟨#[49]⟩ : ByteArray), (⟨#[50]⟩ : ByteArray), ()), (false, (⟨#[49]⟩ : ByteArray), (⟨#[48]⟩ : ByteArray), ()), ()), 0, ()) := by kernel_rfl
theorem ok (lf : Nat) : Ok 23 (E lf) := okP (an := an) (tb := tb lf) (lf := lf) (tC (congruence_both.ok lf) (tC (congruence_class.ok lf) (tC (congruence_gcd.ok lf) (tC (congruence_sub.ok lf) (tC (value_checks.ok lf) (tC (value_reduced.ok lf) (tC (interval_Check.ok lf) (tC (interval_of.ok lf) (tC (interval_span_interval.ok lf) (tC (interval_span_hull.ok lf) (tC (bigint_Add.ok lf) (tC (bigint_Sub.ok lf) (tC (bigint_Rem.ok lf) (tC (interval_finite.ok lf) (tC (interval_compare.ok lf) (tC (api_Int.ok lf) (tC (interval_span_empty.ok lf) (tC (interval_infinite.ok lf) (tC (congruence_Top.ok lf) (tC (interval_none.ok lf) (tC (interval_order.ok lf) (tC (interval_least.ok lf) (tC (interval_most.ok lf) (tC (bigint_pair.ok lf) (tC (bigint_written.ok lf) (tC (bigint_divided.ok lf) (tC (bigint_trim.ok lf) tN))))))))))))))))))))))))))) (aoC aoN) (l := l) (fun _ => rfl) (fun _ => rfl) ⟨t0 lf, t1 lf, t2 lf, trivial⟩
end value_Apply
end
end Go.Q
namespace Go.Q
open Go Go.RowKit
open Go.Rx (br bd sIdx sCat sCut iQuo iRem)
noncomputable section
namespace value_Refine
def l : List ((Int × TV × TV × Unit) × (TV × TV × Int × Unit)) := [((4, ((false, (⟨#[52]⟩ : ByteArray), (⟨#[56]⟩ : ByteArray), ()), (false, (⟨#[52]⟩ : ByteArray), (⟨#[48]⟩ : ByteArray), ()), ()), ((false, (⟨#[56]⟩ : ByteArray), (⟨#[56]⟩ : ByteArray), ()), (false, (⟨#[48]⟩ : ByteArray), (⟨#[56]⟩ : ByteArray), ()), ()), ()), (((false, (⟨#[52]⟩ : ByteArray), (⟨#[52]⟩ : ByteArray), ()), (false, (⟨#[48]⟩ : ByteArray), (⟨#[52]⟩ : ByteArray), ()), ()), ((false, (⟨#[56]⟩ : ByteArray), (⟨#[56]⟩ : ByteArray), ()), (false, (⟨#[48]⟩ : ByteArray), (⟨#[56]⟩ : ByteArray), ()), ()), 0, ())), ((3, ((false, (⟨#[52]⟩ : ByteArray), (⟨#[56]⟩ : ByteArray), ()), (false, (⟨#[52]⟩ : ByteArray), (⟨#[48]⟩ : ByteArray), ()), ()), ((false, (⟨#[52]⟩ : ByteArray), (⟨#[52]⟩ : ByteArray), ()), (false, (⟨#[48]⟩ : ByteArray), (⟨#[52]⟩ : ByteArray), ()), ()), ()), (((false, (⟨#[56]⟩ : ByteArray), (⟨#[56]⟩ : ByteArray), ()), (false, (⟨#[48]⟩ : ByteArray), (⟨#[56]⟩ : ByteArray), ()), ()), ((false, (⟨#[52]⟩ : ByteArray), (⟨#[52]⟩ : ByteArray), ()), (false, (⟨#[48]⟩ : ByteArray), (⟨#[52]⟩ : ByteArray), ()), ()), 0, ()))]
def f (lf : Nat) (a0 : Int) (a1 : TV) (a2 : TV) : Option (TV × TV × Int × Unit) := pick [(.int .i64), yV, yV] l (a0, a1, a2, ())
def E (lf : Nat) : Entry := ⟨[(.int .i64), yV, yV], [yV, yV, (.int .i64)], fun x => f lf x.1 x.2.1 x.2.2.1⟩
def tb (lf : Nat) : List (FuncId × Entry) := [(99, congruence_both.E lf), (100, congruence_class.E lf), (101, congruence_gcd.E lf), (102, congruence_sub.E lf), (114, value_checks.E lf), (116, value_reduced.E lf), (117, value_empty.E lf), (174, interval_Check.E lf), (175, interval_of.E lf), (176, interval_span_interval.E lf), (182, bigint_Add.E lf), (183, bigint_Sub.E lf), (186, bigint_Rem.E lf), (199, interval_finite.E lf), (202, api_Int.E lf), (205, interval_span_empty.E lf), (227, interval_none.E lf), (271, interval_least.E lf), (272, interval_most.E lf), (274, bigint_pair.E lf), (275, bigint_written.E lf), (276, bigint_sum.E lf), (277, bigint_negated.E lf), (279, bigint_divided.E lf), (291, bigint_common.E lf), (292, bigint_number_text.E lf), (337, bigint_quotient.E lf), (338, bigint_sign.E lf), (340, bigint_divide.E lf), (343, B.Itoa.E lf), (367, bigint_trim.E lf)]
abbrev an : FuncId → FA := annsL []
theorem t0 (lf : Nat) : runQ Proofs.Tryz.prog an noLs (lookT (tb lf)) (lf + 40) 14 6 25 [(.int .i64), yV, yV] [yV, yV, (.int .i64)] (4, ((false, (⟨#[52]⟩ : ByteArray), (⟨#[56]⟩ : ByteArray), ()), (false, (⟨#[52]⟩ : ByteArray), (⟨#[48]⟩ : ByteArray), ()), ()), ((false, (⟨#[56]⟩ : ByteArray), (⟨#[56]⟩ : ByteArray), ()), (false, (⟨#[48]⟩ : ByteArray), (⟨#[56]⟩ : ByteArray), ()), ()), ()) = some (((false, (⟨#[52]⟩ : ByteArray), (⟨#[52]⟩ : ByteArray), ()), (false, (⟨#[48]⟩ : ByteArray), (⟨#[52]⟩ : ByteArray), ()), ()), ((false, (⟨#[56]⟩ : ByteArray), (⟨#[56]⟩ : ByteArray), ()), (false, (⟨#[48]⟩ : ByteArray), (⟨#[56]⟩ : ByteArray), ()), ()), 0, ()) := by kernel_rfl
theorem t1 (lf : Nat) : runQ Proofs.Tryz.prog an noLs (lookT (tb lf)) (lf + 40) 14 6 25 [(.int .i64), yV, yV] [yV, yV, (.int .i64)] (3, ((false, (⟨#[52]⟩ : ByteArray), (⟨#[56]⟩ : ByteArray), ()), (false, (⟨#[52]⟩ : ByteArray), (⟨#[48]⟩ : ByteArray), ()), ()), ((false, (⟨#[52]⟩ : ByteArray), (⟨#[52]⟩ : ByteArray), ()), (false, (⟨#[48]⟩ : ByteArray), (⟨#[52]⟩ : ByteArray), ()), ()), ()) = some (((false, (⟨#[56]⟩ : ByteArray), (⟨#[56]⟩ : ByteArray), ()), (false, (⟨#[48]⟩ : ByteArray), (⟨#[56]⟩ : ByteArray), ()), ()), ((false, (⟨#[52]⟩ : ByteArray), (⟨#[52]⟩ : ByteArray), ()), (false, (⟨#[48]⟩ : ByteArray), (⟨#[52]⟩ : ByteArray), ()), ()), 0, ()) := by kernel_rfl
theorem ok (lf : Nat) : Ok 25 (E lf) := okP (an := an) (tb := tb lf) (lf := lf) (tC (congruence_both.ok lf) (tC (congruence_class.ok lf) (tC (congruence_gcd.ok lf) (tC (congruence_sub.ok lf) (tC (value_checks.ok lf) (tC (value_reduced.ok lf) (tC (value_empty.ok lf) (tC (interval_Check.ok lf) (tC (interval_of.ok lf) (tC (interval_span_interval.ok lf) (tC (bigint_Add.ok lf) (tC (bigint_Sub.ok lf) (tC (bigint_Rem.ok lf) (tC (interval_finite.ok lf) (tC (api_Int.ok lf) (tC (interval_span_empty.ok lf) (tC (interval_none.ok lf) (tC (interval_least.ok lf) (tC (interval_most.ok lf) (tC (bigint_pair.ok lf) (tC (bigint_written.ok lf) (tC (bigint_sum.ok lf) (tC (bigint_negated.ok lf) (tC (bigint_divided.ok lf) (tC (bigint_common.ok lf) (tC (bigint_number_text.ok lf) (tC (bigint_quotient.ok lf) (tC (bigint_sign.ok lf) (tC (bigint_divide.ok lf) (tC (B.Itoa.ok lf) (tC (bigint_trim.ok lf) tN))))))))))))))))))))))))))))))) aoN (l := l) (fun _ => rfl) (fun _ => rfl) ⟨t0 lf, t1 lf, trivial⟩
end value_Refine
namespace value_Widen
def f (lf : Nat) (a0 : TV) (a1 : TV) (a2 : List ByteArray) : Option (TV × Int × Unit) :=
 bd (value_checks.f lf a0 a1) fun r1 =>
 br (r1.1 != 0) (
 some (((false, (⟨#[]⟩ : ByteArray), (⟨#[]⟩ : ByteArray), ()), (false, (⟨#[]⟩ : ByteArray), (⟨#[]⟩ : ByteArray), ()), ()), r1.1, ())) (
 bd (interval_Widen.f lf a0.1 a1.1 a2) fun r2 =>
 br (r2.2.1 != 0) (
 some (((false, (⟨#[]⟩ : ByteArray), (⟨#[]⟩ : ByteArray), ()), (false, (⟨#[]⟩ : ByteArray), (⟨#[]⟩ : ByteArray), ()), ()), r2.2.1, ())) (
 br a0.1.1 (
 some (a1, 0, ())) (
 br a1.1.1 (
 some (a0, 0, ())) (
 bd (congruence_Join.f lf a0.2.1 a1.2.1) fun r3 =>
 br (r3.2.1 != 0) (
 some (((false, (⟨#[]⟩ : ByteArray), (⟨#[]⟩ : ByteArray), ()), (false, (⟨#[]⟩ : ByteArray), (⟨#[]⟩ : ByteArray), ()), ()), r3.2.1, ())) (
 bd (value_reduced.f lf r2.1 r3.1) fun r4 =>
 some (r4.1, 0, ()))))))
def E (lf : Nat) : Entry := ⟨[yV, yV, (.sl .str)], [yV, (.int .i64)], fun x => f lf x.1 x.2.1 x.2.2.1⟩
theorem ok (lf : Nat) : Ok 30 (E lf) := okT (an := (annsL [])) (lf := lf) (tC (congruence_Join.ok lf) (tC (interval_Widen.ok lf) (tC (value_checks.ok lf) (tC (value_reduced.ok lf) tN)))) aoN fun x => by kernel_rfl
end value_Widen
namespace value_Make
def f (lf : Nat) (a0 : TI) (a1 : TI) : Option (TV × Int × Unit) :=
 bd (value_parts.f lf a0 a1) fun r1 =>
 br (r1.1 != 0) (
 some (((false, (⟨#[]⟩ : ByteArray), (⟨#[]⟩ : ByteArray), ()), (false, (⟨#[]⟩ : ByteArray), (⟨#[]⟩ : ByteArray), ()), ()), r1.1, ())) (
 bd (value_reduced.f lf a0 a1) fun r2 =>
 some (r2.1, 0, ()))
def E (lf : Nat) : Entry := ⟨[yI, yI], [yV, (.int .i64)], fun x => f lf x.1 x.2.1⟩
theorem ok (lf : Nat) : Ok 39 (E lf) := okT (an := (annsL [])) (lf := lf) (tC (value_reduced.ok lf) (tC (value_parts.ok lf) tN)) aoN fun x => by kernel_rfl
end value_Make
namespace value_Top
def f (lf : Nat)  : Option (TV × Unit) :=
 some (((false, (⟨#[]⟩ : ByteArray), (⟨#[]⟩ : ByteArray), ()), (false, (⟨#[49]⟩ : ByteArray), (⟨#[48]⟩ : ByteArray), ()), ()), ())
def E (lf : Nat) : Entry := ⟨[], [yV], fun x => f lf ⟩
theorem ok (lf : Nat) : Ok 46 (E lf) := okT (an := (annsL [])) (lf := lf) tN aoN fun x => by kernel_rfl
end value_Top
namespace value_Of
def f (lf : Nat) (a0 : ByteArray) : Option (TV × Int × Unit) :=
 bd (bigint_Check.f lf a0) fun r1 =>
 br (r1.1 != 0) (
 some (((false, (⟨#[]⟩ : ByteArray), (⟨#[]⟩ : ByteArray), ()), (false, (⟨#[]⟩ : ByteArray), (⟨#[]⟩ : ByteArray), ()), ()), r1.1, ())) (
 bd (value_clip.f lf a0) fun r2 =>
 br (r2.1.toList == (⟨#[]⟩ : ByteArray).toList) (
 bd (value_Top.f lf) fun r3 =>
 some (r3.1, 0, ())) (
 bd (value_one.f lf a0) fun r4 =>
 some (r4.1, 0, ())))
def E (lf : Nat) : Entry := ⟨[.str], [yV, (.int .i64)], fun x => f lf x.1⟩
theorem ok (lf : Nat) : Ok 41 (E lf) := okT (an := (annsL [])) (lf := lf) (tC (value_Top.ok lf) (tC (bigint_Check.ok lf) (tC (value_clip.ok lf) (tC (value_one.ok lf) tN)))) aoN fun x => by kernel_rfl
end value_Of
namespace value_Format
def f (lf : Nat) (a0 : TV) : Option (ByteArray × Int × Unit) :=
 bd (value_Check.f lf a0) fun r1 =>
 br (r1.1 != 0) (
 some ((⟨#[]⟩ : ByteArray), r1.1, ())) (
 bd (interval_Format.f lf a0.1) fun r2 =>
 br (!a0.2.1.1) (
 br (!(a0.2.1.2.1.toList == (⟨#[48]⟩ : ByteArray).toList)) (
 br (!(a0.2.1.2.1.toList == (⟨#[49]⟩ : ByteArray).toList)) (
 bd (sCat (⟨#[32, 109, 111, 100, 32]⟩ : ByteArray) a0.2.1.2.1) fun r3 =>
 bd (sCat r3 (⟨#[32, 61, 32]⟩ : ByteArray)) fun r4 =>
 bd (sCat r4 a0.2.1.2.2.1) fun r5 =>
 bd (sCat r2.1 r5) fun r6 =>
 some (r6, r2.2.1, ())) (
 some (r2.1, r2.2.1, ()))) (
 some (r2.1, r2.2.1, ()))) (
 some (r2.1, r2.2.1, ())))
def E (lf : Nat) : Entry := ⟨[yV], [.str, (.int .i64)], fun x => f lf x.1⟩
theorem ok (lf : Nat) : Ok 56 (E lf) := okT (an := (annsL [])) (lf := lf) (tC (value_Check.ok lf) (tC (interval_Format.ok lf) tN)) aoN fun x => by kernel_rfl
end value_Format
namespace value_Narrow
def f (lf : Nat) (a0 : TV) (a1 : TV) : Option (TV × Int × Unit) :=
 bd (value_checks.f lf a0 a1) fun r1 =>
 br (r1.1 != 0) (
 some (((false, (⟨#[]⟩ : ByteArray), (⟨#[]⟩ : ByteArray), ()), (false, (⟨#[]⟩ : ByteArray), (⟨#[]⟩ : ByteArray), ()), ()), r1.1, ())) (
 bd (interval_Narrow.f lf a0.1 a1.1) fun r2 =>
 br (r2.2.1 != 0) (
 some (((false, (⟨#[]⟩ : ByteArray), (⟨#[]⟩ : ByteArray), ()), (false, (⟨#[]⟩ : ByteArray), (⟨#[]⟩ : ByteArray), ()), ()), r2.2.1, ())) (
 br (a0.2.1.2.1.toList == (⟨#[49]⟩ : ByteArray).toList) (
 bd (value_reduced.f lf r2.1 a1.2.1) fun r3 =>
 some (r3.1, 0, ())) (
 bd (value_reduced.f lf r2.1 a0.2.1) fun r4 =>
 some (r4.1, 0, ()))))
def E (lf : Nat) : Entry := ⟨[yV, yV], [yV, (.int .i64)], fun x => f lf x.1 x.2.1⟩
theorem ok (lf : Nat) : Ok 52 (E lf) := okT (an := (annsL [])) (lf := lf) (tC (value_checks.ok lf) (tC (value_reduced.ok lf) (tC (interval_Narrow.ok lf) tN))) aoN fun x => by kernel_rfl
end value_Narrow
namespace value_Single
def f (lf : Nat) (a0 : TV) : Option (ByteArray × Bool × Int × Unit) :=
 bd (value_Check.f lf a0) fun r1 =>
 br (r1.1 != 0) (
 some ((⟨#[]⟩ : ByteArray), false, r1.1, ())) (
 br a0.2.1.1 (
 some ((⟨#[]⟩ : ByteArray), false, 0, ())) (
 br (!(a0.2.1.2.1.toList == (⟨#[48]⟩ : ByteArray).toList)) (
 some ((⟨#[]⟩ : ByteArray), false, 0, ())) (
 some (a0.2.1.2.2.1, true, 0, ()))))
def E (lf : Nat) : Entry := ⟨[yV], [.str, .bool, (.int .i64)], fun x => f lf x.1⟩
theorem ok (lf : Nat) : Ok 54 (E lf) := okT (an := (annsL [])) (lf := lf) (tC (value_Check.ok lf) tN) aoN fun x => by kernel_rfl
end value_Single
end
end Go.Q
namespace Go.Q
open Go Go.RowKit
open Go.Rx (br bd sIdx sCat sCut iQuo iRem)
noncomputable section
namespace surveyorref23_Few
def f (lf : Nat) (a0 : TV) (a1 : TV) : Option (Bool × Unit) :=
 bd (surveyorref21_Few.f lf a0.1 a1.1) fun r1 =>
 br r1.1 (
 bd (surveyorref22_Few.f lf a0.2.1) fun r2 =>
 br r2.1 (
 bd (surveyorref22_Few.f lf a1.2.1) fun r3 =>
 some (r3.1, ())) (
 some (false, ()))) (
 some (false, ()))
def E (lf : Nat) : Entry := ⟨[yV, yV], [.bool], fun x => f lf x.1 x.2.1⟩
theorem ok (lf : Nat) : Ok 21 (E lf) := okT (an := (annsL [])) (lf := lf) (tC (surveyorref21_Few.ok lf) (tC (surveyorref22_Few.ok lf) tN)) aoN fun x => by kernel_rfl
end surveyorref23_Few
namespace surveyorref23_Empty
def f (lf : Nat)  : Option (TV × Unit) :=
 bd (surveyorref21_None.f lf) fun r1 =>
 bd (surveyorref22_Empty.f lf) fun r2 =>
 some ((r1.1, r2.1, ()), ())
def E (lf : Nat) : Entry := ⟨[], [yV], fun x => f lf ⟩
theorem ok (lf : Nat) : Ok 108 (E lf) := okT (an := (annsL [])) (lf := lf) (tC (surveyorref22_Empty.ok lf) (tC (surveyorref21_None.ok lf) tN)) aoN fun x => by kernel_rfl
end surveyorref23_Empty
namespace surveyorref23_Top
def f (lf : Nat)  : Option (TV × Unit) :=
 bd (surveyorref22_Top.f lf) fun r1 =>
 some (((false, (⟨#[]⟩ : ByteArray), (⟨#[]⟩ : ByteArray), ()), r1.1, ()), ())
def E (lf : Nat) : Entry := ⟨[], [yV], fun x => f lf ⟩
theorem ok (lf : Nat) : Ok 47 (E lf) := okT (an := (annsL [])) (lf := lf) (tC (surveyorref22_Top.ok lf) tN) aoN fun x => by kernel_rfl
end surveyorref23_Top
namespace surveyorref23_One
def f (lf : Nat) (a0 : ByteArray) : Option (TV × Unit) :=
 bd (surveyorref22_Single.f lf a0) fun r1 =>
 br (!(r1.1.2.1.toList == (⟨#[48]⟩ : ByteArray).toList)) (
 bd (surveyorref23_Top.f lf) fun r2 =>
 some (r2.1, ())) (
 some (((false, a0, a0, ()), r1.1, ()), ()))
def E (lf : Nat) : Entry := ⟨[.str], [yV], fun x => f lf x.1⟩
theorem ok (lf : Nat) : Ok 136 (E lf) := okT (an := (annsL [])) (lf := lf) (tC (surveyorref23_Top.ok lf) (tC (surveyorref22_Single.ok lf) tN)) aoN fun x => by kernel_rfl
end surveyorref23_One
namespace surveyorref23_Reduced
def f (lf : Nat) (a0 : TI) (a1 : TI) : Option (TV × Unit) :=
 br a0.1 (
 bd (surveyorref23_Empty.f lf) fun r1 =>
 some (r1.1, ())) (
 br a1.1 (
 bd (surveyorref23_Empty.f lf) fun r2 =>
 some (r2.1, ())) (
 br (a1.2.1.toList == (⟨#[48]⟩ : ByteArray).toList) (
 bd (surveyorref21_In.f lf a0 a1.2.2.1) fun r3 =>
 br (!r3.1) (
 bd (surveyorref23_Empty.f lf) fun r4 =>
 some (r4.1, ())) (
 some (((false, a1.2.2.1, a1.2.2.1, ()), a1, ()), ()))) (
 br (!(a0.2.1.toList == (⟨#[]⟩ : ByteArray).toList)) (
 bd (surveyorref22_Above.f lf a1 a0.2.1) fun r5 =>
 br (!(a0.2.2.1.toList == (⟨#[]⟩ : ByteArray).toList)) (
 bd (surveyorref22_Below.f lf a1 a0.2.2.1) fun r6 =>
 br (!(r5.1.toList == (⟨#[]⟩ : ByteArray).toList)) (
 br (!(r6.1.toList == (⟨#[]⟩ : ByteArray).toList)) (
 bd (surveyorref01_Less.f lf r6.1 r5.1) fun r7 =>
 br r7.1 (
 bd (surveyorref23_Empty.f lf) fun r8 =>
 some (r8.1, ())) (
 br (r5.1.toList == r6.1.toList) (
 bd (surveyorref23_One.f lf r5.1) fun r9 =>
 some (r9.1, ())) (
 bd (surveyorref21_Range.f lf r5.1 r6.1) fun r10 =>
 some ((r10.1, a1, ()), ())))) (
 bd (surveyorref21_Range.f lf r5.1 r6.1) fun r11 =>
 some ((r11.1, a1, ()), ()))) (
 bd (surveyorref21_Range.f lf r5.1 r6.1) fun r12 =>
 some ((r12.1, a1, ()), ()))) (
 br (!(r5.1.toList == (⟨#[]⟩ : ByteArray).toList)) (
 br (!(a0.2.2.1.toList == (⟨#[]⟩ : ByteArray).toList)) (
 bd (surveyorref01_Less.f lf a0.2.2.1 r5.1) fun r13 =>
 br r13.1 (
 bd (surveyorref23_Empty.f lf) fun r14 =>
 some (r14.1, ())) (
 br (r5.1.toList == a0.2.2.1.toList) (
 bd (surveyorref23_One.f lf r5.1) fun r15 =>
 some (r15.1, ())) (
 bd (surveyorref21_Range.f lf r5.1 a0.2.2.1) fun r16 =>
 some ((r16.1, a1, ()), ())))) (
 bd (surveyorref21_Range.f lf r5.1 a0.2.2.1) fun r17 =>
 some ((r17.1, a1, ()), ()))) (
 bd (surveyorref21_Range.f lf r5.1 a0.2.2.1) fun r18 =>
 some ((r18.1, a1, ()), ())))) (
 br (!(a0.2.2.1.toList == (⟨#[]⟩ : ByteArray).toList)) (
 bd (surveyorref22_Below.f lf a1 a0.2.2.1) fun r19 =>
 br (!(a0.2.1.toList == (⟨#[]⟩ : ByteArray).toList)) (
 br (!(r19.1.toList == (⟨#[]⟩ : ByteArray).toList)) (
 bd (surveyorref01_Less.f lf r19.1 a0.2.1) fun r20 =>
 br r20.1 (
 bd (surveyorref23_Empty.f lf) fun r21 =>
 some (r21.1, ())) (
 br (a0.2.1.toList == r19.1.toList) (
 bd (surveyorref23_One.f lf a0.2.1) fun r22 =>
 some (r22.1, ())) (
 bd (surveyorref21_Range.f lf a0.2.1 r19.1) fun r23 =>
 some ((r23.1, a1, ()), ())))) (
 bd (surveyorref21_Range.f lf a0.2.1 r19.1) fun r24 =>
 some ((r24.1, a1, ()), ()))) (
 bd (surveyorref21_Range.f lf a0.2.1 r19.1) fun r25 =>
 some ((r25.1, a1, ()), ()))) (
 br (!(a0.2.1.toList == (⟨#[]⟩ : ByteArray).toList)) (
 br (!(a0.2.2.1.toList == (⟨#[]⟩ : ByteArray).toList)) (
 bd (surveyorref01_Less.f lf a0.2.2.1 a0.2.1) fun r26 =>
 br r26.1 (
 bd (surveyorref23_Empty.f lf) fun r27 =>
 some (r27.1, ())) (
 br (a0.2.1.toList == a0.2.2.1.toList) (
 bd (surveyorref23_One.f lf a0.2.1) fun r28 =>
 some (r28.1, ())) (
 bd (surveyorref21_Range.f lf a0.2.1 a0.2.2.1) fun r29 =>
 some ((r29.1, a1, ()), ())))) (
 bd (surveyorref21_Range.f lf a0.2.1 a0.2.2.1) fun r30 =>
 some ((r30.1, a1, ()), ()))) (
 bd (surveyorref21_Range.f lf a0.2.1 a0.2.2.1) fun r31 =>
 some ((r31.1, a1, ()), ())))))))
def E (lf : Nat) : Entry := ⟨[yI, yI], [yV], fun x => f lf x.1 x.2.1⟩
theorem ok (lf : Nat) : Ok 121 (E lf) := okT (an := (annsL [])) (lf := lf) (tC (surveyorref01_Less.ok lf) (tC (surveyorref23_Empty.ok lf) (tC (surveyorref23_One.ok lf) (tC (surveyorref21_In.ok lf) (tC (surveyorref22_Above.ok lf) (tC (surveyorref22_Below.ok lf) (tC (surveyorref21_Range.ok lf) tN))))))) aoN fun x => by kernel_rfl
end surveyorref23_Reduced
namespace surveyorref23_Check
def f (lf : Nat) (a0 : TV) : Option (Int × Unit) :=
 bd (surveyorref21_Check.f lf a0.1) fun r1 =>
 br (r1.1 != 0) (
 some (r1.1, ())) (
 bd (surveyorref22_Check.f lf a0.2.1) fun r2 =>
 br (r2.1 != 0) (
 some (r2.1, ())) (
 bd (surveyorref23_Reduced.f lf a0.1 a0.2.1) fun r3 =>
 bd (some (!(((r3.1.1.1 == a0.1.1) && ((r3.1.1.2.1 == a0.1.2.1) && ((r3.1.1.2.2.1 == a0.1.2.2.1) && true))) && (((r3.1.2.1.1 == a0.2.1.1) && ((r3.1.2.1.2.1 == a0.2.1.2.1) && ((r3.1.2.1.2.2.1 == a0.2.1.2.2.1) && true))) && true)))) fun r4 =>
 br r4 (
 some (3, ())) (
 some (0, ()))))
def E (lf : Nat) : Entry := ⟨[yV], [(.int .i64)], fun x => f lf x.1⟩
theorem ok (lf : Nat) : Ok 29 (E lf) := okT (an := (annsL [])) (lf := lf) (tC (surveyorref22_Check.ok lf) (tC (surveyorref21_Check.ok lf) (tC (surveyorref23_Reduced.ok lf) tN))) aoN fun x => by kernel_rfl
end surveyorref23_Check
namespace surveyorref23_Checks
def f (lf : Nat) (a0 : TV) (a1 : TV) : Option (Int × Unit) :=
 bd (surveyorref23_Check.f lf a0) fun r1 =>
 br (r1.1 != 0) (
 some (r1.1, ())) (
 bd (surveyorref23_Check.f lf a1) fun r2 =>
 some (r2.1, ()))
def E (lf : Nat) : Entry := ⟨[yV, yV], [(.int .i64)], fun x => f lf x.1 x.2.1⟩
theorem ok (lf : Nat) : Ok 71 (E lf) := okT (an := (annsL [])) (lf := lf) (tC (surveyorref23_Check.ok lf) tN) aoN fun x => by kernel_rfl
end surveyorref23_Checks
namespace surveyorref23_Widened
def f (lf : Nat) (a0 : TV) (a1 : TV) (a2 : List ByteArray) : Option (TV × Unit) :=
 bd (surveyorref21_Widened.f lf a0.1 a1.1 a2) fun r1 =>
 bd (surveyorref22_Joined.f lf a0.2.1 a1.2.1) fun r2 =>
 bd (surveyorref23_Reduced.f lf r1.1 r2.1) fun r3 =>
 some (r3.1, ())
def E (lf : Nat) : Entry := ⟨[yV, yV, (.sl .str)], [yV], fun x => f lf x.1 x.2.1 x.2.2.1⟩
theorem ok (lf : Nat) : Ok 142 (E lf) := okT (an := (annsL [])) (lf := lf) (tC (surveyorref23_Reduced.ok lf) (tC (surveyorref21_Widened.ok lf) (tC (surveyorref22_Joined.ok lf) tN))) aoN fun x => by kernel_rfl
end surveyorref23_Widened
namespace surveyorref23_Widen
def f (lf : Nat) (a0 : TV) (a1 : TV) (a2 : List ByteArray) : Option (TV × Int × Unit) :=
 bd (surveyorref23_Checks.f lf a0 a1) fun r1 =>
 br (r1.1 != 0) (
 some (((false, (⟨#[]⟩ : ByteArray), (⟨#[]⟩ : ByteArray), ()), (false, (⟨#[]⟩ : ByteArray), (⟨#[]⟩ : ByteArray), ()), ()), r1.1, ())) (
 bd (surveyorref21_Thresholds.f lf a2) fun r2 =>
 br (r2.1 != 0) (
 some (((false, (⟨#[]⟩ : ByteArray), (⟨#[]⟩ : ByteArray), ()), (false, (⟨#[]⟩ : ByteArray), (⟨#[]⟩ : ByteArray), ()), ()), r2.1, ())) (
 bd (surveyorref23_Widened.f lf a0 a1 a2) fun r3 =>
 some (r3.1, 0, ())))
def E (lf : Nat) : Entry := ⟨[yV, yV, (.sl .str)], [yV, (.int .i64)], fun x => f lf x.1 x.2.1 x.2.2.1⟩
theorem ok (lf : Nat) : Ok 51 (E lf) := okT (an := (annsL [])) (lf := lf) (tC (surveyorref23_Checks.ok lf) (tC (surveyorref21_Thresholds.ok lf) (tC (surveyorref23_Widened.ok lf) tN))) aoN fun x => by kernel_rfl
end surveyorref23_Widen
namespace surveyorref23_Narrowed
def f (lf : Nat) (a0 : TV) (a1 : TV) : Option (TV × Unit) :=
 bd (surveyorref22_Top.f lf) fun r1 =>
 bd (some ((a0.2.1.1 == r1.1.1) && ((a0.2.1.2.1 == r1.1.2.1) && ((a0.2.1.2.2.1 == r1.1.2.2.1) && true)))) fun r2 =>
 br r2 (
 bd (surveyorref21_Narrowed.f lf a0.1 a1.1) fun r3 =>
 bd (surveyorref23_Reduced.f lf r3.1 a1.2.1) fun r4 =>
 some (r4.1, ())) (
 bd (surveyorref21_Narrowed.f lf a0.1 a1.1) fun r5 =>
 bd (surveyorref23_Reduced.f lf r5.1 a0.2.1) fun r6 =>
 some (r6.1, ()))
def E (lf : Nat) : Entry := ⟨[yV, yV], [yV], fun x => f lf x.1 x.2.1⟩
theorem ok (lf : Nat) : Ok 144 (E lf) := okT (an := (annsL [])) (lf := lf) (tC (surveyorref23_Reduced.ok lf) (tC (surveyorref22_Top.ok lf) (tC (surveyorref21_Narrowed.ok lf) tN))) aoN fun x => by kernel_rfl
end surveyorref23_Narrowed
namespace surveyorref23_Narrow
def f (lf : Nat) (a0 : TV) (a1 : TV) : Option (TV × Int × Unit) :=
 bd (surveyorref23_Checks.f lf a0 a1) fun r1 =>
 br (r1.1 != 0) (
 some (((false, (⟨#[]⟩ : ByteArray), (⟨#[]⟩ : ByteArray), ()), (false, (⟨#[]⟩ : ByteArray), (⟨#[]⟩ : ByteArray), ()), ()), r1.1, ())) (
 bd (surveyorref23_Narrowed.f lf a0 a1) fun r2 =>
 some (r2.1, 0, ()))
def E (lf : Nat) : Entry := ⟨[yV, yV], [yV, (.int .i64)], fun x => f lf x.1 x.2.1⟩
theorem ok (lf : Nat) : Ok 53 (E lf) := okT (an := (annsL [])) (lf := lf) (tC (surveyorref23_Checks.ok lf) (tC (surveyorref23_Narrowed.ok lf) tN)) aoN fun x => by kernel_rfl
end surveyorref23_Narrow
namespace surveyorref23_Single
def f (lf : Nat) (a0 : TV) : Option (ByteArray × Bool × Int × Unit) :=
 bd (surveyorref23_Check.f lf a0) fun r1 =>
 br (r1.1 != 0) (
 some ((⟨#[]⟩ : ByteArray), false, r1.1, ())) (
 br a0.2.1.1 (
 some ((⟨#[]⟩ : ByteArray), false, 0, ())) (
 br (!(a0.2.1.2.1.toList == (⟨#[48]⟩ : ByteArray).toList)) (
 some ((⟨#[]⟩ : ByteArray), false, 0, ())) (
 some (a0.2.1.2.2.1, true, 0, ()))))
def E (lf : Nat) : Entry := ⟨[yV], [.str, .bool, (.int .i64)], fun x => f lf x.1⟩
theorem ok (lf : Nat) : Ok 55 (E lf) := okT (an := (annsL [])) (lf := lf) (tC (surveyorref23_Check.ok lf) tN) aoN fun x => by kernel_rfl
end surveyorref23_Single
namespace surveyorref23_Text
def f (lf : Nat) (a0 : TV) : Option (ByteArray × Unit) :=
 bd (surveyorref21_Text.f lf a0.1) fun r1 =>
 br (!a0.2.1.1) (
 br (!(a0.2.1.2.1.toList == (⟨#[48]⟩ : ByteArray).toList)) (
 br (!(a0.2.1.2.1.toList == (⟨#[49]⟩ : ByteArray).toList)) (
 bd (sCat (⟨#[32, 109, 111, 100, 32]⟩ : ByteArray) a0.2.1.2.1) fun r2 =>
 bd (sCat r2 (⟨#[32, 61, 32]⟩ : ByteArray)) fun r3 =>
 bd (sCat r3 a0.2.1.2.2.1) fun r4 =>
 bd (sCat r1.1 r4) fun r5 =>
 some (r5, ())) (
 some (r1.1, ()))) (
 some (r1.1, ()))) (
 some (r1.1, ()))
def E (lf : Nat) : Entry := ⟨[yV], [.str], fun x => f lf x.1⟩
theorem ok (lf : Nat) : Ok 146 (E lf) := okT (an := (annsL [])) (lf := lf) (tC (surveyorref21_Text.ok lf) tN) aoN fun x => by kernel_rfl
end surveyorref23_Text
namespace surveyorref23_Format
def f (lf : Nat) (a0 : TV) : Option (ByteArray × Int × Unit) :=
 bd (surveyorref23_Check.f lf a0) fun r1 =>
 br (r1.1 != 0) (
 some ((⟨#[]⟩ : ByteArray), r1.1, ())) (
 bd (surveyorref23_Text.f lf a0) fun r2 =>
 some (r2.1, 0, ()))
def E (lf : Nat) : Entry := ⟨[yV], [.str, (.int .i64)], fun x => f lf x.1⟩
theorem ok (lf : Nat) : Ok 57 (E lf) := okT (an := (annsL [])) (lf := lf) (tC (surveyorref23_Check.ok lf) (tC (surveyorref23_Text.ok lf) tN)) aoN fun x => by kernel_rfl
end surveyorref23_Format
end
end Go.Q
