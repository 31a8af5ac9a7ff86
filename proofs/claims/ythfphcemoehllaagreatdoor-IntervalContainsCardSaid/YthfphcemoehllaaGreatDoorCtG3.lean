import Derived.Test.YthfphcemoehllaaGreatDoorProg
import Derived.KernelRfl
import Derived.Test.YthfphcemoehllaaGreatDoorCtG1
import Derived.Test.YthfphcemoehllaaGreatDoorCtG2
import Derived.Test.YthfphcemoehllaaGreatDoorE3
set_option linter.unusedVariables false
set_option linter.unusedSimpArgs false
set_option linter.unusedSectionVars false
namespace Go.Q
open Go Go.RowKit
open Go.Rx (br bd sIdx sCat sCut iQuo iRem)
set_option linter.unusedVariables false
set_option linter.unusedSimpArgs false
set_option maxRecDepth 100000
noncomputable section
namespace bigint_quotient
noncomputable def f (lf : Nat) (a0 : Bool × ((List Int) × Unit)) (a1 : Bool × ((List Int) × Unit)) : Option ((Bool × ((List Int) × Unit)) × (Bool × ((List Int) × Unit)) × Unit) :=
 bd (bigint_divide.f lf a0.2.1 a1.2.1) fun r1 =>
 br (a0.1 == a1.1) (
 some ((false, r1.1, ()), (a1.1, r1.2.1, ()), ())) (
 br (decide (((r1.2.1.length : Nat) : Int) > 0)) (
 bd (bigint_plus.f lf r1.1 [1]) fun r2 =>
 bd (bigint_minus.f lf a1.2.1 r1.2.1) fun r3 =>
 some ((true, r2.1, ()), (a1.1, r3.1, ()), ())) (
 some ((true, r1.1, ()), (a1.1, r1.2.1, ()), ())))
noncomputable def E (lf : Nat) : Entry := ⟨[(.pair .bool (.pair (.sl (.int .i64)) .unit)), (.pair .bool (.pair (.sl (.int .i64)) .unit))], [(.pair .bool (.pair (.sl (.int .i64)) .unit)), (.pair .bool (.pair (.sl (.int .i64)) .unit))], fun x => f lf x.1 x.2.1⟩
theorem ok (lf : Nat) : Ok 173 (E lf) := okT (an := (annsL [])) (lf := lf) (tC (bigint_plus.ok lf) (tC (bigint_minus.ok lf) (tC (bigint_divide.ok lf) tN))) aoN fun x => by kernel_rfl
end bigint_quotient
namespace bigint_divided
noncomputable def f (lf : Nat) (a0 : ByteArray) (a1 : ByteArray) : Option (ByteArray × ByteArray × Int × Unit) :=
 bd (bigint_pair.f lf a0 a1) fun r1 =>
 br (r1.2.2.1 != 0) (
 some ((⟨#[]⟩ : ByteArray), (⟨#[]⟩ : ByteArray), r1.2.2.1, ())) (
 br (((r1.2.1.2.1.length : Nat) : Int) == 0) (
 some ((⟨#[]⟩ : ByteArray), (⟨#[]⟩ : ByteArray), 19, ())) (
 bd (bigint_quotient.f lf r1.1 r1.2.1) fun r2 =>
 bd (bigint_number_text.f lf r2.1) fun r3 =>
 bd (bigint_number_text.f lf r2.2.1) fun r4 =>
 some (r3.1, r4.1, 0, ())))
noncomputable def E (lf : Nat) : Entry := ⟨[.str, .str], [.str, .str, (.int .i64)], fun x => f lf x.1 x.2.1⟩
theorem ok (lf : Nat) : Ok 138 (E lf) := okT (an := (annsL [])) (lf := lf) (tC (bigint_pair.ok lf) (tC (bigint_number_text.ok lf) (tC (bigint_quotient.ok lf) tN))) aoN fun x => by kernel_rfl
end bigint_divided
namespace bigint_Quo
noncomputable def f (lf : Nat) (a0 : ByteArray) (a1 : ByteArray) : Option (ByteArray × Int × Unit) :=
 bd (bigint_divided.f lf a0 a1) fun r1 =>
 some (r1.1, r1.2.2.1, ())
noncomputable def E (lf : Nat) : Entry := ⟨[.str, .str], [.str, (.int .i64)], fun x => f lf x.1 x.2.1⟩
theorem ok (lf : Nat) : Ok 93 (E lf) := okT (an := (annsL [])) (lf := lf) (tC (bigint_divided.ok lf) tN) aoN fun x => by kernel_rfl
end bigint_Quo
namespace bigint_Rem
noncomputable def f (lf : Nat) (a0 : ByteArray) (a1 : ByteArray) : Option (ByteArray × Int × Unit) :=
 bd (bigint_divided.f lf a0 a1) fun r1 =>
 some (r1.2.1, r1.2.2.1, ())
noncomputable def E (lf : Nat) : Entry := ⟨[.str, .str], [.str, (.int .i64)], fun x => f lf x.1 x.2.1⟩
theorem ok (lf : Nat) : Ok 94 (E lf) := okT (an := (annsL [])) (lf := lf) (tC (bigint_divided.ok lf) tN) aoN fun x => by kernel_rfl
end bigint_Rem
end
end Go.Q
namespace Go.Q
open Go.IntKind (i64)
open Go Go.RowKit
open Go.Rx (br bd sIdx sCat sCut iQuo iRem)
set_option linter.unusedVariables false
set_option linter.unusedSimpArgs false
set_option maxRecDepth 100000
noncomputable section
namespace interval_digits
noncomputable def f (lf : Nat) (a0 : ByteArray) : Option (Int × Unit) :=
 br (decide (((a0.size : Nat) : Int) > 0)) (
 bd (sIdx a0 0) fun r1 =>
 br (((r1.toNat : Nat) : Int) == 45) (
 some ((i64.wrap (((a0.size : Nat) : Int) - 1)), ())) (
 some (((a0.size : Nat) : Int), ()))) (
 some (((a0.size : Nat) : Int), ()))
noncomputable def E (lf : Nat) : Entry := ⟨[.str], [(.int .i64)], fun x => f lf x.1⟩
theorem ok (lf : Nat) : Ok 135 (E lf) := okT (an := (annsL [])) (lf := lf) tN aoN fun x => by kernel_rfl
end interval_digits
namespace interval_number
noncomputable def f (lf : Nat) (a0 : ByteArray) : Option (Int × Unit) :=
 bd (bigint_Check.f lf a0) fun r1 =>
 br (r1.1 != 0) (
 some (r1.1, ())) (
 bd (interval_digits.f lf a0) fun r2 =>
 br (decide (r2.1 > 100)) (
 some (10, ())) (
 some (0, ())))
noncomputable def E (lf : Nat) : Entry := ⟨[.str], [(.int .i64)], fun x => f lf x.1⟩
theorem ok (lf : Nat) : Ok 87 (E lf) := okT (an := (annsL [])) (lf := lf) (tC (bigint_Check.ok lf) (tC (interval_digits.ok lf) tN)) aoN fun x => by kernel_rfl
end interval_number
namespace interval_order
noncomputable def f (lf : Nat) (a0 : ByteArray) (a1 : ByteArray) : Option (Int × Unit) :=
 bd (bigint_Compare.f lf a0 a1) fun r1 =>
 some (r1.1, ())
noncomputable def E (lf : Nat) : Entry := ⟨[.str, .str], [(.int .i64)], fun x => f lf x.1 x.2.1⟩
theorem ok (lf : Nat) : Ok 88 (E lf) := okT (an := (annsL [])) (lf := lf) (tC (bigint_Compare.ok lf) tN) aoN fun x => by kernel_rfl
end interval_order
namespace interval_Check
noncomputable def f (lf : Nat) (a0 : Bool × (ByteArray × (ByteArray × Unit))) : Option (Int × Unit) :=
 br a0.1 (
 br (!(a0.2.1.toList == (⟨#[]⟩ : ByteArray).toList)) (
 some (3, ())) (
 br (!(a0.2.2.1.toList == (⟨#[]⟩ : ByteArray).toList)) (
 some (3, ())) (
 br (a0.2.1.toList == (⟨#[]⟩ : ByteArray).toList) (
 br (a0.2.2.1.toList == (⟨#[]⟩ : ByteArray).toList) (
 br (!(a0.2.1.toList == (⟨#[]⟩ : ByteArray).toList)) (
 br (!(a0.2.2.1.toList == (⟨#[]⟩ : ByteArray).toList)) (
 bd (interval_order.f lf a0.2.1 a0.2.2.1) fun r1 =>
 br (decide (r1.1 > 0)) (
 some (14, ())) (
 some (0, ()))) (
 some (0, ()))) (
 some (0, ()))) (
 bd (interval_number.f lf a0.2.2.1) fun r2 =>
 br (r2.1 != 0) (
 some (r2.1, ())) (
 br (!(a0.2.1.toList == (⟨#[]⟩ : ByteArray).toList)) (
 br (!(a0.2.2.1.toList == (⟨#[]⟩ : ByteArray).toList)) (
 bd (interval_order.f lf a0.2.1 a0.2.2.1) fun r3 =>
 br (decide (r3.1 > 0)) (
 some (14, ())) (
 some (0, ()))) (
 some (0, ()))) (
 some (0, ()))))) (
 bd (interval_number.f lf a0.2.1) fun r4 =>
 br (r4.1 != 0) (
 some (r4.1, ())) (
 br (a0.2.2.1.toList == (⟨#[]⟩ : ByteArray).toList) (
 br (!(a0.2.1.toList == (⟨#[]⟩ : ByteArray).toList)) (
 br (!(a0.2.2.1.toList == (⟨#[]⟩ : ByteArray).toList)) (
 bd (interval_order.f lf a0.2.1 a0.2.2.1) fun r5 =>
 br (decide (r5.1 > 0)) (
 some (14, ())) (
 some (0, ()))) (
 some (0, ()))) (
 some (0, ()))) (
 bd (interval_number.f lf a0.2.2.1) fun r6 =>
 br (r6.1 != 0) (
 some (r6.1, ())) (
 br (!(a0.2.1.toList == (⟨#[]⟩ : ByteArray).toList)) (
 br (!(a0.2.2.1.toList == (⟨#[]⟩ : ByteArray).toList)) (
 bd (interval_order.f lf a0.2.1 a0.2.2.1) fun r7 =>
 br (decide (r7.1 > 0)) (
 some (14, ())) (
 some (0, ()))) (
 some (0, ()))) (
 some (0, ()))))))))) (
 br (a0.2.1.toList == (⟨#[]⟩ : ByteArray).toList) (
 br (a0.2.2.1.toList == (⟨#[]⟩ : ByteArray).toList) (
 br (!(a0.2.1.toList == (⟨#[]⟩ : ByteArray).toList)) (
 br (!(a0.2.2.1.toList == (⟨#[]⟩ : ByteArray).toList)) (
 bd (interval_order.f lf a0.2.1 a0.2.2.1) fun r8 =>
 br (decide (r8.1 > 0)) (
 some (14, ())) (
 some (0, ()))) (
 some (0, ()))) (
 some (0, ()))) (
 bd (interval_number.f lf a0.2.2.1) fun r9 =>
 br (r9.1 != 0) (
 some (r9.1, ())) (
 br (!(a0.2.1.toList == (⟨#[]⟩ : ByteArray).toList)) (
 br (!(a0.2.2.1.toList == (⟨#[]⟩ : ByteArray).toList)) (
 bd (interval_order.f lf a0.2.1 a0.2.2.1) fun r10 =>
 br (decide (r10.1 > 0)) (
 some (14, ())) (
 some (0, ()))) (
 some (0, ()))) (
 some (0, ()))))) (
 bd (interval_number.f lf a0.2.1) fun r11 =>
 br (r11.1 != 0) (
 some (r11.1, ())) (
 br (a0.2.2.1.toList == (⟨#[]⟩ : ByteArray).toList) (
 br (!(a0.2.1.toList == (⟨#[]⟩ : ByteArray).toList)) (
 br (!(a0.2.2.1.toList == (⟨#[]⟩ : ByteArray).toList)) (
 bd (interval_order.f lf a0.2.1 a0.2.2.1) fun r12 =>
 br (decide (r12.1 > 0)) (
 some (14, ())) (
 some (0, ()))) (
 some (0, ()))) (
 some (0, ()))) (
 bd (interval_number.f lf a0.2.2.1) fun r13 =>
 br (r13.1 != 0) (
 some (r13.1, ())) (
 br (!(a0.2.1.toList == (⟨#[]⟩ : ByteArray).toList)) (
 br (!(a0.2.2.1.toList == (⟨#[]⟩ : ByteArray).toList)) (
 bd (interval_order.f lf a0.2.1 a0.2.2.1) fun r14 =>
 br (decide (r14.1 > 0)) (
 some (14, ())) (
 some (0, ()))) (
 some (0, ()))) (
 some (0, ())))))))
noncomputable def E (lf : Nat) : Entry := ⟨[(.pair .bool (.pair .str (.pair .str .unit)))], [(.int .i64)], fun x => f lf x.1⟩
theorem ok (lf : Nat) : Ok 43 (E lf) := okT (an := (annsL [])) (lf := lf) (tC (interval_number.ok lf) (tC (interval_order.ok lf) tN)) aoN fun x => by kernel_rfl
end interval_Check
namespace interval_ascending
noncomputable def anns : FuncId → FA := annsL [(52, ⟨annOf [(0, ⟨kx 34 [0, 9, 10, 11], [], []⟩, ⟨kx 34 [2], [], []⟩)], none, []⟩)]
noncomputable def r0 {ρ : Type} (lf : Nat) (v0 v1 : List ByteArray) (v2 : Int) (v3 : Int) (K : Int → Option ρ) (E0 : Int → Option ρ) (E1 : Option ρ) : Option ρ :=
 br (decide (v3 < v2)) (
 bd (idxL v1 v3) fun y1 =>
 bd (interval_number.f lf y1) fun r2 =>
 br (r2.1 != 0) (
 E0 r2.1) (
 br (decide (v3 > 0)) (
 bd (idxL v0 (i64.wrap (v3 - 1))) fun y3 =>
 bd (interval_order.f lf y3 y1) fun r4 =>
 br (decide (r4.1 ≥ 0)) (
 E0 14) (
 K (i64.wrap (v3 + 1)))) (
 K (i64.wrap (v3 + 1))))) (
 E1)
noncomputable def l0 (lf : Nat) (v0 v1 : List ByteArray) (v2 : Int) : Nat → Int → Option (Bool × (Int × Unit) × (Unit) × Unit)
 | 0, _ => none
 | n + 1, v3 => r0 lf v0 v1 v2 v3 (l0 lf v0 v1 v2 n) (fun w0 => some (true, (w0, ()), ((()), ()))) (some (false, (0, ()), ((()), ())))
noncomputable def sh0 : ShS := ⟨[.s (.sl .str), .a 8, .s (.sl .str), .s (.int .i64), .s (.int .i64), .a 22], []⟩
noncomputable def S0 (p : (List ByteArray) × (List ByteArray) × Int × Int × Unit) : St := sh0.b p
noncomputable def xh0 : ShS := ⟨[.a 2, .s (.int .i64), .a 31], []⟩
noncomputable def xh1 : ShS := ⟨[.a 34], []⟩
noncomputable def o0 (v0 v1 : List ByteArray) (v2 : Int) (y : Bool × (Int × Unit) × (Unit) × Unit) : Alt := .two y.1 (.one .ret (xh0.b (y.2.1.1, ()))) (.one (.exit 0) (xh1.b (())))
noncomputable def tb (lf : Nat) : List (FuncId × Entry) := [(87, interval_number.E lf), (88, interval_order.E lf)]
noncomputable def s13_52 (lf : Nat) : List (Nat × (St → Option LTE)) := [(0, sumE sh0 fun (p : (List ByteArray) × (List ByteArray) × Int × Int × Unit) => ⟨Bool × (Int × Unit) × (Unit) × Unit, l0 lf p.1 p.2.1 p.2.2.1 (lf + 40) p.2.2.2.1, o0 p.1 p.2.1 p.2.2.1⟩)]
noncomputable def ls (lf : Nat) : List (Nat × FuncId × Sums) := [(13, 52, sumsL (s13_52 lf))]
noncomputable def it0 {ρ : Type} (lf n : Nat) (st : St) (k : KE ρ) : Option ρ := itG anns (ls lf) (tb lf) lf 13 52 0 0 (sumsL (s13_52 lf)) n st k
theorem t0 {ρ : Type} (lf n : Nat) (v0 v1 : List ByteArray) (v2 v3 : Int) (k : KE ρ) : it0 lf (n + 1) (S0 (v0, v1, v2, v3, ())) k = r0 lf v0 v1 v2 v3 (fun x0 => it0 lf n (S0 (v0, v1, v2, x0, ())) k) (fun w0 => k .ret (xh0.b (w0, ()))) (k (.exit 0) (xh1.b (()))) := by kernel_rfl
theorem u0 {ρ : Type} (lf : Nat) (v0 v1 : List ByteArray) (v2 : Int) (k : KE ρ) : ∀ (n : Nat) (v3 : Int), it0 lf n (S0 (v0, v1, v2, v3, ())) k = bd (l0 lf v0 v1 v2 n v3) fun y => altK k (o0 v0 v1 v2 y)
 | 0, _ => by rw [l0, bd_none]; rfl
 | n + 1, v3 => by
  rw [t0]; simp only [l0, r0, u0 lf v0 v1 v2 k n, bd_br, bd_bd, bd_some', bd_none, br_t, br_f, o0, altK]
theorem sl (lf : Nat) : SL anns (ls lf) (tb lf) lf (ls lf) := slC (laC (fun _ => by kernel_rfl) (fun _ (x : (List ByteArray) × (List ByteArray) × Int × Int × Unit) k => leq_of (u0 lf x.1 x.2.1 x.2.2.1 k (lf + 40) x.2.2.2.1)) laN) slN
noncomputable def f (lf : Nat) (a0 : List ByteArray) : Option (Int × Unit) :=
 br (decide (((a0.length : Nat) : Int) > 1024)) (
 some (5, ())) (
 bd (l0 lf a0 a0 ((a0.length : Nat) : Int) (lf + 40) 0) fun z5 =>
 br z5.1 (
 some (z5.2.1.1, ())) (
 some (0, ())))
noncomputable def E (lf : Nat) : Entry := ⟨[(.sl .str)], [(.int .i64)], fun x => f lf x.1⟩
theorem ok (lf : Nat) : Ok 52 (E lf) := okL (tC (interval_number.ok lf) (tC (interval_order.ok lf) tN)) (aoC aoN) (sl lf) fun x => by kernel_rfl
end interval_ascending
namespace interval_infinite
noncomputable def f (lf : Nat) (a0 : Int) : Option ((Int × (ByteArray × Unit)) × Unit) :=
 some ((a0, (⟨#[]⟩ : ByteArray), ()), ())
noncomputable def E (lf : Nat) : Entry := ⟨[(.int .i64)], [(.pair (.int .i64) (.pair .str .unit))], fun x => f lf x.1⟩
theorem ok (lf : Nat) : Ok 58 (E lf) := okT (an := (annsL [])) (lf := lf) tN aoN fun x => by kernel_rfl
end interval_infinite
namespace interval_finite
noncomputable def f (lf : Nat) (a0 : ByteArray) : Option ((Int × (ByteArray × Unit)) × Unit) :=
 some ((0, a0, ()), ())
noncomputable def E (lf : Nat) : Entry := ⟨[.str], [(.pair (.int .i64) (.pair .str .unit))], fun x => f lf x.1⟩
theorem ok (lf : Nat) : Ok 59 (E lf) := okT (an := (annsL [])) (lf := lf) tN aoN fun x => by kernel_rfl
end interval_finite
namespace interval_none
noncomputable def f (lf : Nat)  : Option (((Int × (ByteArray × Unit)) × ((Int × (ByteArray × Unit)) × Unit)) × Unit) :=
 bd (interval_infinite.f lf 1) fun r1 =>
 bd (interval_infinite.f lf (-1)) fun r2 =>
 some ((r1.1, r2.1, ()), ())
noncomputable def E (lf : Nat) : Entry := ⟨[], [(.pair (.pair (.int .i64) (.pair .str .unit)) (.pair (.pair (.int .i64) (.pair .str .unit)) .unit))], fun x => f lf ⟩
theorem ok (lf : Nat) : Ok 64 (E lf) := okT (an := (annsL [])) (lf := lf) (tC (interval_infinite.ok lf) tN) aoN fun x => by kernel_rfl
end interval_none
namespace interval_of
noncomputable def f (lf : Nat) (a0 : Bool × (ByteArray × (ByteArray × Unit))) : Option (((Int × (ByteArray × Unit)) × ((Int × (ByteArray × Unit)) × Unit)) × Unit) :=
 br a0.1 (
 bd (interval_none.f lf) fun r1 =>
 some (r1.1, ())) (
 bd (interval_infinite.f lf (-1)) fun r2 =>
 bd (interval_infinite.f lf 1) fun r3 =>
 br (!(a0.2.1.toList == (⟨#[]⟩ : ByteArray).toList)) (
 bd (interval_finite.f lf a0.2.1) fun r4 =>
 br (!(a0.2.2.1.toList == (⟨#[]⟩ : ByteArray).toList)) (
 bd (interval_finite.f lf a0.2.2.1) fun r5 =>
 some ((r4.1, r5.1, ()), ())) (
 some ((r4.1, r3.1, ()), ()))) (
 br (!(a0.2.2.1.toList == (⟨#[]⟩ : ByteArray).toList)) (
 bd (interval_finite.f lf a0.2.2.1) fun r6 =>
 some ((r2.1, r6.1, ()), ())) (
 some ((r2.1, r3.1, ()), ()))))
noncomputable def E (lf : Nat) : Entry := ⟨[(.pair .bool (.pair .str (.pair .str .unit)))], [(.pair (.pair (.int .i64) (.pair .str .unit)) (.pair (.pair (.int .i64) (.pair .str .unit)) .unit))], fun x => f lf x.1⟩
theorem ok (lf : Nat) : Ok 53 (E lf) := okT (an := (annsL [])) (lf := lf) (tC (interval_infinite.ok lf) (tC (interval_finite.ok lf) (tC (interval_none.ok lf) tN))) aoN fun x => by kernel_rfl
end interval_of
namespace interval_compare
noncomputable def f (lf : Nat) (a0 : Int × (ByteArray × Unit)) (a1 : Int × (ByteArray × Unit)) : Option (Int × Unit) :=
 br (a0.1 != 0) (
 some ((i64.wrap (a0.1 - a1.1)), ())) (
 br (a1.1 != 0) (
 some ((i64.wrap (a0.1 - a1.1)), ())) (
 bd (interval_order.f lf a0.2.1 a1.2.1) fun r1 =>
 some (r1.1, ())))
noncomputable def E (lf : Nat) : Entry := ⟨[(.pair (.int .i64) (.pair .str .unit)), (.pair (.int .i64) (.pair .str .unit))], [(.int .i64)], fun x => f lf x.1 x.2.1⟩
theorem ok (lf : Nat) : Ok 57 (E lf) := okT (an := (annsL [])) (lf := lf) (tC (interval_order.ok lf) tN) aoN fun x => by kernel_rfl
end interval_compare
namespace interval_span_empty
noncomputable def f (lf : Nat) (a0 : (Int × (ByteArray × Unit)) × ((Int × (ByteArray × Unit)) × Unit)) : Option (Bool × Unit) :=
 bd (interval_compare.f lf a0.1 a0.2.1) fun r1 =>
 some ((decide (r1.1 > 0)), ())
noncomputable def E (lf : Nat) : Entry := ⟨[(.pair (.pair (.int .i64) (.pair .str .unit)) (.pair (.pair (.int .i64) (.pair .str .unit)) .unit))], [.bool], fun x => f lf x.1⟩
theorem ok (lf : Nat) : Ok 54 (E lf) := okT (an := (annsL [])) (lf := lf) (tC (interval_compare.ok lf) tN) aoN fun x => by kernel_rfl
end interval_span_empty
namespace interval_least
noncomputable def f (lf : Nat) (a0 : Int × (ByteArray × Unit)) (a1 : Int × (ByteArray × Unit)) : Option ((Int × (ByteArray × Unit)) × Unit) :=
 bd (interval_compare.f lf a1 a0) fun r1 =>
 br (decide (r1.1 < 0)) (
 some (a1, ())) (
 some (a0, ()))
noncomputable def E (lf : Nat) : Entry := ⟨[(.pair (.int .i64) (.pair .str .unit)), (.pair (.int .i64) (.pair .str .unit))], [(.pair (.int .i64) (.pair .str .unit))], fun x => f lf x.1 x.2.1⟩
theorem ok (lf : Nat) : Ok 101 (E lf) := okT (an := (annsL [])) (lf := lf) (tC (interval_compare.ok lf) tN) aoN fun x => by kernel_rfl
end interval_least
namespace interval_most
noncomputable def f (lf : Nat) (a0 : Int × (ByteArray × Unit)) (a1 : Int × (ByteArray × Unit)) : Option ((Int × (ByteArray × Unit)) × Unit) :=
 bd (interval_compare.f lf a1 a0) fun r1 =>
 br (decide (r1.1 > 0)) (
 some (a1, ())) (
 some (a0, ()))
noncomputable def E (lf : Nat) : Entry := ⟨[(.pair (.int .i64) (.pair .str .unit)), (.pair (.int .i64) (.pair .str .unit))], [(.pair (.int .i64) (.pair .str .unit))], fun x => f lf x.1 x.2.1⟩
theorem ok (lf : Nat) : Ok 102 (E lf) := okT (an := (annsL [])) (lf := lf) (tC (interval_compare.ok lf) tN) aoN fun x => by kernel_rfl
end interval_most
namespace interval_span_hull
noncomputable def f (lf : Nat) (a0 : (Int × (ByteArray × Unit)) × ((Int × (ByteArray × Unit)) × Unit)) (a1 : (Int × (ByteArray × Unit)) × ((Int × (ByteArray × Unit)) × Unit)) : Option (((Int × (ByteArray × Unit)) × ((Int × (ByteArray × Unit)) × Unit)) × Unit) :=
 bd (interval_span_empty.f lf a0) fun r1 =>
 br r1.1 (
 some (a1, ())) (
 bd (interval_span_empty.f lf a1) fun r2 =>
 br r2.1 (
 some (a0, ())) (
 bd (interval_least.f lf a0.1 a1.1) fun r3 =>
 bd (interval_most.f lf a0.2.1 a1.2.1) fun r4 =>
 some ((r3.1, r4.1, ()), ())))
noncomputable def E (lf : Nat) : Entry := ⟨[(.pair (.pair (.int .i64) (.pair .str .unit)) (.pair (.pair (.int .i64) (.pair .str .unit)) .unit)), (.pair (.pair (.int .i64) (.pair .str .unit)) (.pair (.pair (.int .i64) (.pair .str .unit)) .unit))], [(.pair (.pair (.int .i64) (.pair .str .unit)) (.pair (.pair (.int .i64) (.pair .str .unit)) .unit))], fun x => f lf x.1 x.2.1⟩
theorem ok (lf : Nat) : Ok 55 (E lf) := okT (an := (annsL [])) (lf := lf) (tC (interval_span_empty.ok lf) (tC (interval_least.ok lf) (tC (interval_most.ok lf) tN))) aoN fun x => by kernel_rfl
end interval_span_hull
namespace interval_text
noncomputable def f (lf : Nat) (a0 : Int × (ByteArray × Unit)) : Option (ByteArray × Unit) :=
 br (a0.1 != 0) (
 some ((⟨#[]⟩ : ByteArray), ())) (
 bd (interval_digits.f lf a0.2.1) fun r1 =>
 br (decide (r1.1 > 100)) (
 some ((⟨#[]⟩ : ByteArray), ())) (
 some (a0.2.1, ())))
noncomputable def E (lf : Nat) : Entry := ⟨[(.pair (.int .i64) (.pair .str .unit))], [.str], fun x => f lf x.1⟩
theorem ok (lf : Nat) : Ok 103 (E lf) := okT (an := (annsL [])) (lf := lf) (tC (interval_digits.ok lf) tN) aoN fun x => by kernel_rfl
end interval_text
namespace interval_span_interval
noncomputable def f (lf : Nat) (a0 : (Int × (ByteArray × Unit)) × ((Int × (ByteArray × Unit)) × Unit)) : Option ((Bool × (ByteArray × (ByteArray × Unit))) × Unit) :=
 bd (interval_span_empty.f lf a0) fun r1 =>
 br r1.1 (
 some ((true, (⟨#[]⟩ : ByteArray), (⟨#[]⟩ : ByteArray), ()), ())) (
 bd (interval_text.f lf a0.1) fun r2 =>
 bd (interval_text.f lf a0.2.1) fun r3 =>
 some ((false, r2.1, r3.1, ()), ()))
noncomputable def E (lf : Nat) : Entry := ⟨[(.pair (.pair (.int .i64) (.pair .str .unit)) (.pair (.pair (.int .i64) (.pair .str .unit)) .unit))], [(.pair .bool (.pair .str (.pair .str .unit)))], fun x => f lf x.1⟩
theorem ok (lf : Nat) : Ok 56 (E lf) := okT (an := (annsL [])) (lf := lf) (tC (interval_span_empty.ok lf) (tC (interval_text.ok lf) tN)) aoN fun x => by kernel_rfl
end interval_span_interval
end
end Go.Q
namespace Go.Q
open Go.IntKind (i64)
open Go Go.RowKit
open Go.Rx (br bd sIdx sCat sCut iQuo iRem)
set_option linter.unusedVariables false
set_option linter.unusedSimpArgs false
set_option maxRecDepth 100000
noncomputable section
namespace surveyorref01_Negative
noncomputable def f (lf : Nat) (a0 : ByteArray) : Option (Bool × Unit) :=
 bd (sIdx a0 0) fun r1 =>
 some ((((r1.toNat : Nat) : Int) == 45), ())
noncomputable def E (lf : Nat) : Entry := ⟨[.str], [.bool], fun x => f lf x.1⟩
theorem ok (lf : Nat) : Ok 89 (E lf) := okT (an := (annsL [])) (lf := lf) tN aoN fun x => by kernel_rfl
end surveyorref01_Negative
namespace surveyorref01_Sign
noncomputable def f (lf : Nat) (a0 : ByteArray) : Option (Int × Unit) :=
 br (a0.toList == (⟨#[48]⟩ : ByteArray).toList) (
 some (0, ())) (
 bd (surveyorref01_Negative.f lf a0) fun r1 =>
 br r1.1 (
 some ((-1), ())) (
 some (1, ())))
noncomputable def E (lf : Nat) : Entry := ⟨[.str], [(.int .i64)], fun x => f lf x.1⟩
theorem ok (lf : Nat) : Ok 144 (E lf) := okT (an := (annsL [])) (lf := lf) (tC (surveyorref01_Negative.ok lf) tN) aoN fun x => by kernel_rfl
end surveyorref01_Sign
namespace surveyorref01_order
noncomputable def anns : FuncId → FA := annsL [(145, ⟨annOf [(0, ⟨kx 41 [0, 1, 5], [], []⟩, ⟨kx 41 [4], [], []⟩)], none, []⟩)]
noncomputable def r0 {ρ : Type} (lf : Nat) (v0 v1 : List Int) (v2 : Int) (K : Int → Option ρ) (E0 : Int → Option ρ) (E1 : Option ρ) : Option ρ :=
 br (decide (v2 ≥ 0)) (
 bd (idxL v0 v2) fun y1 =>
 bd (idxL v1 v2) fun y2 =>
 br (y1 != y2) (
 bd (idxL v0 v2) fun y3 =>
 bd (idxL v1 v2) fun y4 =>
 br (decide (y3 < y4)) (
 E0 (-1)) (
 E0 1)) (
 K (i64.wrap (v2 - 1)))) (
 E1)
noncomputable def l0 (lf : Nat) (v0 v1 : List Int) : Nat → Int → Option (Bool × (Int × Unit) × (Unit) × Unit)
 | 0, _ => none
 | n + 1, v2 => r0 lf v0 v1 v2 (l0 lf v0 v1 n) (fun w0 => some (true, (w0, ()), ((()), ()))) (some (false, (0, ()), ((()), ())))
noncomputable def sh0 : ShS := ⟨[.s (.sl (.int .i64)), .s (.sl (.int .i64)), .a 3, .s (.int .i64), .a 35], []⟩
noncomputable def S0 (p : (List Int) × (List Int) × Int × Unit) : St := sh0.b p
noncomputable def xh0 : ShS := ⟨[.a 4, .s (.int .i64), .a 36], []⟩
noncomputable def xh1 : ShS := ⟨[.a 41], []⟩
noncomputable def o0 (v0 v1 : List Int) (y : Bool × (Int × Unit) × (Unit) × Unit) : Alt := .two y.1 (.one .ret (xh0.b (y.2.1.1, ()))) (.one (.exit 0) (xh1.b (())))
noncomputable def tb (lf : Nat) : List (FuncId × Entry) := []
noncomputable def s13_145 (lf : Nat) : List (Nat × (St → Option LTE)) := [(0, sumE sh0 fun (p : (List Int) × (List Int) × Int × Unit) => ⟨Bool × (Int × Unit) × (Unit) × Unit, l0 lf p.1 p.2.1 (lf + 40) p.2.2.1, o0 p.1 p.2.1⟩)]
noncomputable def ls (lf : Nat) : List (Nat × FuncId × Sums) := [(13, 145, sumsL (s13_145 lf))]
noncomputable def it0 {ρ : Type} (lf n : Nat) (st : St) (k : KE ρ) : Option ρ := itG anns (ls lf) (tb lf) lf 13 145 0 0 (sumsL (s13_145 lf)) n st k
theorem t0 {ρ : Type} (lf n : Nat) (v0 v1 : List Int) (v2 : Int) (k : KE ρ) : it0 lf (n + 1) (S0 (v0, v1, v2, ())) k = r0 lf v0 v1 v2 (fun x0 => it0 lf n (S0 (v0, v1, x0, ())) k) (fun w0 => k .ret (xh0.b (w0, ()))) (k (.exit 0) (xh1.b (()))) := by kernel_rfl
theorem u0 {ρ : Type} (lf : Nat) (v0 v1 : List Int) (k : KE ρ) : ∀ (n : Nat) (v2 : Int), it0 lf n (S0 (v0, v1, v2, ())) k = bd (l0 lf v0 v1 n v2) fun y => altK k (o0 v0 v1 y)
 | 0, _ => by rw [l0, bd_none]; rfl
 | n + 1, v2 => by
  rw [t0]; simp only [l0, r0, u0 lf v0 v1 k n, bd_br, bd_bd, bd_some', bd_none, br_t, br_f, o0, altK]
theorem sl (lf : Nat) : SL anns (ls lf) (tb lf) lf (ls lf) := slC (laC (fun _ => by kernel_rfl) (fun _ (x : (List Int) × (List Int) × Int × Unit) k => leq_of (u0 lf x.1 x.2.1 k (lf + 40) x.2.2.1)) laN) slN
noncomputable def f (lf : Nat) (a0 : List Int) (a1 : List Int) : Option (Int × Unit) :=
 br (((a0.length : Nat) : Int) != ((a1.length : Nat) : Int)) (
 br (decide (((a0.length : Nat) : Int) < ((a1.length : Nat) : Int))) (
 some ((-1), ())) (
 some (1, ()))) (
 bd (l0 lf a0 a1 (lf + 40) (i64.wrap (((a0.length : Nat) : Int) - 1))) fun z5 =>
 br z5.1 (
 some (z5.2.1.1, ())) (
 some (0, ())))
noncomputable def E (lf : Nat) : Entry := ⟨[(.sl (.int .i64)), (.sl (.int .i64))], [(.int .i64)], fun x => f lf x.1 x.2.1⟩
theorem ok (lf : Nat) : Ok 145 (E lf) := okL tN (aoC aoN) (sl lf) fun x => by kernel_rfl
end surveyorref01_order
namespace surveyorref01_cut
noncomputable def anns : FuncId → FA := annsL [(146, ⟨annOf [(0, ⟨kx 21 [0, 3], [], []⟩, ⟨kx 21 [0, 2, 3], [], []⟩)], none, []⟩)]
noncomputable def r0 {ρ : Type} (lf : Nat) (v0 : List Int) (v1 : Int) (K : Int → Option ρ) (E0 : Int → Option ρ) : Option ρ :=
 br (decide (v1 > 0)) (
 bd (idxL v0 (i64.wrap (v1 - 1))) fun y1 =>
 br (y1 == 0) (
 K (i64.wrap (v1 - 1))) (
 E0 v1)) (
 E0 v1)
noncomputable def l0 (lf : Nat) (v0 : List Int) : Nat → Int → Option ((Int × Unit) × Unit)
 | 0, _ => none
 | n + 1, v1 => r0 lf v0 v1 (l0 lf v0 n) (fun w0 => some ((w0, ()), ()))
noncomputable def sh0 : ShS := ⟨[.s (.sl (.int .i64)), .a 2, .s (.int .i64), .a 17], []⟩
noncomputable def S0 (p : (List Int) × Int × Unit) : St := sh0.b p
noncomputable def xh0 : ShS := ⟨[.s (.sl (.int .i64)), .a 2, .s (.int .i64), .a 17], []⟩
noncomputable def o0 (v0 : List Int) (y : (Int × Unit) × Unit) : Alt := .one (.exit 0) (xh0.b (v0, y.1.1, ()))
noncomputable def tb (lf : Nat) : List (FuncId × Entry) := []
noncomputable def s13_146 (lf : Nat) : List (Nat × (St → Option LTE)) := [(0, sumE sh0 fun (p : (List Int) × Int × Unit) => ⟨(Int × Unit) × Unit, l0 lf p.1 (lf + 40) p.2.1, o0 p.1⟩)]
noncomputable def ls (lf : Nat) : List (Nat × FuncId × Sums) := [(13, 146, sumsL (s13_146 lf))]
noncomputable def it0 {ρ : Type} (lf n : Nat) (st : St) (k : KE ρ) : Option ρ := itG anns (ls lf) (tb lf) lf 13 146 0 0 (sumsL (s13_146 lf)) n st k
theorem t0 {ρ : Type} (lf n : Nat) (v0 : List Int) (v1 : Int) (k : KE ρ) : it0 lf (n + 1) (S0 (v0, v1, ())) k = r0 lf v0 v1 (fun x0 => it0 lf n (S0 (v0, x0, ())) k) (fun w0 => k (.exit 0) (xh0.b (v0, w0, ()))) := by kernel_rfl
theorem u0 {ρ : Type} (lf : Nat) (v0 : List Int) (k : KE ρ) : ∀ (n : Nat) (v1 : Int), it0 lf n (S0 (v0, v1, ())) k = bd (l0 lf v0 n v1) fun y => altK k (o0 v0 y)
 | 0, _ => by rw [l0, bd_none]; rfl
 | n + 1, v1 => by
  rw [t0]; simp only [l0, r0, u0 lf v0 k n, bd_br, bd_bd, bd_some', bd_none, br_t, br_f, o0, altK]
theorem sl (lf : Nat) : SL anns (ls lf) (tb lf) lf (ls lf) := slC (laC (fun _ => by kernel_rfl) (fun _ (x : (List Int) × Int × Unit) k => leq_of (u0 lf x.1 k (lf + 40) x.2.1)) laN) slN
noncomputable def f (lf : Nat) (a0 : List Int) : Option ((List Int) × Unit) :=
 bd (l0 lf a0 (lf + 40) ((a0.length : Nat) : Int)) fun z2 =>
 bd (cutL a0 none (some z2.1.1)) fun q3 =>
 some (q3, ())
noncomputable def E (lf : Nat) : Entry := ⟨[(.sl (.int .i64))], [(.sl (.int .i64))], fun x => f lf x.1⟩
theorem ok (lf : Nat) : Ok 146 (E lf) := okL tN (aoC aoN) (sl lf) fun x => by kernel_rfl
end surveyorref01_cut
namespace surveyorref01_digits
noncomputable def anns : FuncId → FA := annsL [(147, ⟨annOf [(0, ⟨kx 27 [0, 3, 4], [⟨.tmp 3, (.int .i64), 3⟩], []⟩, ⟨kx 27 [2, 3], [⟨.tmp 3, (.int .i64), 3⟩], []⟩)], none, []⟩)]
noncomputable def r0 {ρ : Type} (lf : Nat) (v0 : ByteArray) (v1 : Int) (v2 : List Int) (K : Int → (List Int) → Option ρ) (E0 : (List Int) → Option ρ) : Option ρ :=
 br (decide (v1 ≥ 0)) (
 bd (sIdx v0 v1) fun r1 =>
 br (((r1.toNat : Nat) : Int) != 45) (
 bd (sIdx v0 v1) fun r2 =>
 bd (apL true 8 v2 [(i64.wrap (IntKind.u8.wrap (((r2.toNat : Nat) : Int) - 48)))]) fun q3 =>
 K (i64.wrap (v1 - 1)) q3) (
 E0 v2)) (
 E0 v2)
noncomputable def l0 (lf : Nat) (v0 : ByteArray) : Nat → Int → (List Int) → Option (((List Int) × Unit) × Unit)
 | 0, _, _ => none
 | n + 1, v1, v2 => r0 lf v0 v1 v2 (l0 lf v0 n) (fun w0 => some ((w0, ()), ()))
noncomputable def sh0 : ShS := ⟨[.s .str, .a 2, .s (.row 0), .s (.int .i64), .a 22], [.row (.int .i64) 3 false]⟩
noncomputable def S0 (p : ByteArray × Int × (List Int) × Unit) : St := sh0.b p
noncomputable def xh0 : ShS := ⟨[.a 3, .s (.row 0), .a 23], [.row (.int .i64) 3 false]⟩
noncomputable def o0 (v0 : ByteArray) (y : ((List Int) × Unit) × Unit) : Alt := .one (.exit 0) (xh0.b (y.1.1, ()))
noncomputable def tb (lf : Nat) : List (FuncId × Entry) := []
noncomputable def s13_147 (lf : Nat) : List (Nat × (St → Option LTE)) := [(0, sumE sh0 fun (p : ByteArray × Int × (List Int) × Unit) => ⟨((List Int) × Unit) × Unit, l0 lf p.1 (lf + 40) p.2.1 p.2.2.1, o0 p.1⟩)]
noncomputable def ls (lf : Nat) : List (Nat × FuncId × Sums) := [(13, 147, sumsL (s13_147 lf))]
noncomputable def it0 {ρ : Type} (lf n : Nat) (st : St) (k : KE ρ) : Option ρ := itG anns (ls lf) (tb lf) lf 13 147 0 0 (sumsL (s13_147 lf)) n st k
theorem t0 {ρ : Type} (lf n : Nat) (v0 : ByteArray) (v1 : Int) (v2 : List Int) (k : KE ρ) : it0 lf (n + 1) (S0 (v0, v1, v2, ())) k = r0 lf v0 v1 v2 (fun x0 x1 => it0 lf n (S0 (v0, x0, x1, ())) k) (fun w0 => k (.exit 0) (xh0.b (w0, ()))) := by kernel_rfl
theorem u0 {ρ : Type} (lf : Nat) (v0 : ByteArray) (k : KE ρ) : ∀ (n : Nat) (v1 : Int) (v2 : List Int), it0 lf n (S0 (v0, v1, v2, ())) k = bd (l0 lf v0 n v1 v2) fun y => altK k (o0 v0 y)
 | 0, _, _ => by rw [l0, bd_none]; rfl
 | n + 1, v1, v2 => by
  rw [t0]; simp only [l0, r0, u0 lf v0 k n, bd_br, bd_bd, bd_some', bd_none, br_t, br_f, o0, altK]
theorem sl (lf : Nat) : SL anns (ls lf) (tb lf) lf (ls lf) := slC (laC (fun _ => by kernel_rfl) (fun _ (x : ByteArray × Int × (List Int) × Unit) k => leq_of (u0 lf x.1 k (lf + 40) x.2.1 x.2.2.1)) laN) slN
noncomputable def f (lf : Nat) (a0 : ByteArray) : Option ((List Int) × Unit) :=
 bd (l0 lf a0 (lf + 40) (i64.wrap (((a0.size : Nat) : Int) - 1)) []) fun z4 =>
 some (z4.1.1, ())
noncomputable def E (lf : Nat) : Entry := ⟨[.str], [(.sl (.int .i64))], fun x => f lf x.1⟩
theorem ok (lf : Nat) : Ok 147 (E lf) := okL tN (aoC aoN) (sl lf) fun x => by kernel_rfl
end surveyorref01_digits
namespace surveyorref01_Order
noncomputable def f (lf : Nat) (a0 : ByteArray) (a1 : ByteArray) : Option (Int × Unit) :=
 bd (surveyorref01_Sign.f lf a0) fun r1 =>
 bd (surveyorref01_Sign.f lf a1) fun r2 =>
 br (r1.1 != r2.1) (
 br (decide (r1.1 < r2.1)) (
 some ((-1), ())) (
 some (1, ()))) (
 bd (surveyorref01_digits.f lf a0) fun r3 =>
 bd (surveyorref01_cut.f lf r3.1) fun r4 =>
 bd (surveyorref01_digits.f lf a1) fun r5 =>
 bd (surveyorref01_cut.f lf r5.1) fun r6 =>
 bd (surveyorref01_order.f lf r4.1 r6.1) fun r7 =>
 some ((i64.wrap (r1.1 * r7.1)), ()))
noncomputable def E (lf : Nat) : Entry := ⟨[.str, .str], [(.int .i64)], fun x => f lf x.1 x.2.1⟩
theorem ok (lf : Nat) : Ok 108 (E lf) := okT (an := (annsL [])) (lf := lf) (tC (surveyorref01_Sign.ok lf) (tC (surveyorref01_order.ok lf) (tC (surveyorref01_cut.ok lf) (tC (surveyorref01_digits.ok lf) tN)))) aoN fun x => by kernel_rfl
end surveyorref01_Order
namespace surveyorref01_Less
noncomputable def f (lf : Nat) (a0 : ByteArray) (a1 : ByteArray) : Option (Bool × Unit) :=
 bd (surveyorref01_Order.f lf a0 a1) fun r1 =>
 some ((decide (r1.1 < 0)), ())
noncomputable def E (lf : Nat) : Entry := ⟨[.str, .str], [.bool], fun x => f lf x.1 x.2.1⟩
theorem ok (lf : Nat) : Ok 68 (E lf) := okT (an := (annsL [])) (lf := lf) (tC (surveyorref01_Order.ok lf) tN) aoN fun x => by kernel_rfl
end surveyorref01_Less
namespace surveyorref01_Digits
noncomputable def f (lf : Nat) (a0 : ByteArray) : Option (Int × Unit) :=
 bd (surveyorref01_Negative.f lf a0) fun r1 =>
 br r1.1 (
 some ((i64.wrap (((a0.size : Nat) : Int) - 1)), ())) (
 some (((a0.size : Nat) : Int), ()))
noncomputable def E (lf : Nat) : Entry := ⟨[.str], [(.int .i64)], fun x => f lf x.1⟩
theorem ok (lf : Nat) : Ok 45 (E lf) := okT (an := (annsL [])) (lf := lf) (tC (surveyorref01_Negative.ok lf) tN) aoN fun x => by kernel_rfl
end surveyorref01_Digits
namespace surveyorref01_Form
noncomputable def anns : FuncId → FA := annsL [(71, ⟨annOf [(0, ⟨kx 42 [0, 4], [], []⟩, ⟨kx 42 [2], [], []⟩)], none, []⟩)]
noncomputable def r0 {ρ : Type} (lf : Nat) (v0 : ByteArray) (v1 : Int) (K : Int → Option ρ) (E0 : Option ρ) (E1 : Option ρ) : Option ρ :=
 br (decide (v1 < ((v0.size : Nat) : Int))) (
 bd (sIdx v0 v1) fun r3 =>
 br (decide (((r3.toNat : Nat) : Int) < 48)) (
 E0) (
 bd (sIdx v0 v1) fun r4 =>
 br (decide (((r4.toNat : Nat) : Int) > 57)) (
 E0) (
 K (i64.wrap (v1 + 1))))) (
 E1)
noncomputable def l0 (lf : Nat) (v0 : ByteArray) : Nat → Int → Option (Bool × (Unit) × (Unit) × Unit)
 | 0, _ => none
 | n + 1, v1 => r0 lf v0 v1 (l0 lf v0 n) (some (true, (()), ((()), ()))) (some (false, (()), ((()), ())))
noncomputable def sh0 : ShS := ⟨[.s .str, .a 3, .s (.int .i64), .a 37], []⟩
noncomputable def S0 (p : ByteArray × Int × Unit) : St := sh0.b p
noncomputable def xh0 : ShS := ⟨[.a 2, .s .bool, .a 39], []⟩
noncomputable def xh1 : ShS := ⟨[.a 42], []⟩
noncomputable def o0 (v0 : ByteArray) (y : Bool × (Unit) × (Unit) × Unit) : Alt := .two y.1 (.one .ret (xh0.b (false, ()))) (.one (.exit 0) (xh1.b (())))
noncomputable def tb (lf : Nat) : List (FuncId × Entry) := []
noncomputable def s13_71 (lf : Nat) : List (Nat × (St → Option LTE)) := [(0, sumE sh0 fun (p : ByteArray × Int × Unit) => ⟨Bool × (Unit) × (Unit) × Unit, l0 lf p.1 (lf + 40) p.2.1, o0 p.1⟩)]
noncomputable def ls (lf : Nat) : List (Nat × FuncId × Sums) := [(13, 71, sumsL (s13_71 lf))]
noncomputable def it0 {ρ : Type} (lf n : Nat) (st : St) (k : KE ρ) : Option ρ := itG anns (ls lf) (tb lf) lf 13 71 0 0 (sumsL (s13_71 lf)) n st k
theorem t0 {ρ : Type} (lf n : Nat) (v0 : ByteArray) (v1 : Int) (k : KE ρ) : it0 lf (n + 1) (S0 (v0, v1, ())) k = r0 lf v0 v1 (fun x0 => it0 lf n (S0 (v0, x0, ())) k) (k .ret (xh0.b (false, ()))) (k (.exit 0) (xh1.b (()))) := by kernel_rfl
theorem u0 {ρ : Type} (lf : Nat) (v0 : ByteArray) (k : KE ρ) : ∀ (n : Nat) (v1 : Int), it0 lf n (S0 (v0, v1, ())) k = bd (l0 lf v0 n v1) fun y => altK k (o0 v0 y)
 | 0, _ => by rw [l0, bd_none]; rfl
 | n + 1, v1 => by
  rw [t0]; simp only [l0, r0, u0 lf v0 k n, bd_br, bd_bd, bd_some', bd_none, br_t, br_f, o0, altK]
theorem sl (lf : Nat) : SL anns (ls lf) (tb lf) lf (ls lf) := slC (laC (fun _ => by kernel_rfl) (fun _ (x : ByteArray × Int × Unit) k => leq_of (u0 lf x.1 k (lf + 40) x.2.1)) laN) slN
noncomputable def f (lf : Nat) (a0 : ByteArray) : Option (Bool × Unit) :=
 br (a0.toList == (⟨#[48]⟩ : ByteArray).toList) (
 some (true, ())) (
 br (decide (((a0.size : Nat) : Int) > 0)) (
 bd (sIdx a0 0) fun r1 =>
 br (((r1.toNat : Nat) : Int) == 45) (
 br (1 == ((a0.size : Nat) : Int)) (
 some (false, ())) (
 bd (sIdx a0 1) fun r2 =>
 br (((r2.toNat : Nat) : Int) == 48) (
 some (false, ())) (
 bd (l0 lf a0 (lf + 40) 1) fun z5 =>
 br z5.1 (
 some (false, ())) (
 some (true, ()))))) (
 br (0 == ((a0.size : Nat) : Int)) (
 some (false, ())) (
 bd (sIdx a0 0) fun r6 =>
 br (((r6.toNat : Nat) : Int) == 48) (
 some (false, ())) (
 bd (l0 lf a0 (lf + 40) 0) fun z7 =>
 br z7.1 (
 some (false, ())) (
 some (true, ())))))) (
 br (0 == ((a0.size : Nat) : Int)) (
 some (false, ())) (
 bd (sIdx a0 0) fun r8 =>
 br (((r8.toNat : Nat) : Int) == 48) (
 some (false, ())) (
 bd (l0 lf a0 (lf + 40) 0) fun z9 =>
 br z9.1 (
 some (false, ())) (
 some (true, ()))))))
noncomputable def E (lf : Nat) : Entry := ⟨[.str], [.bool], fun x => f lf x.1⟩
theorem ok (lf : Nat) : Ok 71 (E lf) := okL tN (aoC aoN) (sl lf) fun x => by kernel_rfl
end surveyorref01_Form
namespace surveyorref01_Check
noncomputable def f (lf : Nat) (a0 : ByteArray) : Option (Int × Unit) :=
 bd (surveyorref01_Form.f lf a0) fun r1 =>
 br (!r1.1) (
 some (3, ())) (
 bd (surveyorref01_Digits.f lf a0) fun r2 =>
 br (decide (r2.1 > 4096)) (
 some (10, ())) (
 some (0, ())))
noncomputable def E (lf : Nat) : Entry := ⟨[.str], [(.int .i64)], fun x => f lf x.1⟩
theorem ok (lf : Nat) : Ok 27 (E lf) := okT (an := (annsL [])) (lf := lf) (tC (surveyorref01_Digits.ok lf) (tC (surveyorref01_Form.ok lf) tN)) aoN fun x => by kernel_rfl
end surveyorref01_Check
end
end Go.Q
namespace Go.Q
open Go Go.RowKit
open Go.Rx (br bd sIdx sCat sCut iQuo iRem)
set_option linter.unusedVariables false
set_option linter.unusedSimpArgs false
set_option maxRecDepth 100000
noncomputable section
namespace surveyorref06_Number
noncomputable def f (lf : Nat) (a0 : ByteArray) : Option (Int × Unit) :=
 bd (surveyorref01_Check.f lf a0) fun r1 =>
 br (r1.1 != 0) (
 some (r1.1, ())) (
 bd (surveyorref01_Digits.f lf a0) fun r2 =>
 br (decide (r2.1 > 100)) (
 some (10, ())) (
 some (0, ())))
noncomputable def E (lf : Nat) : Entry := ⟨[.str], [(.int .i64)], fun x => f lf x.1⟩
theorem ok (lf : Nat) : Ok 69 (E lf) := okT (an := (annsL [])) (lf := lf) (tC (surveyorref01_Check.ok lf) (tC (surveyorref01_Digits.ok lf) tN)) aoN fun x => by kernel_rfl
end surveyorref06_Number
end
end Go.Q
