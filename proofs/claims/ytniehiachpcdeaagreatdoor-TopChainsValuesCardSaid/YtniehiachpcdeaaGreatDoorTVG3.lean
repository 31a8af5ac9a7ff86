import Derived.Test.YtniehiachpcdeaaGreatDoorProg
import Derived.KernelRfl
import Derived.Test.YtniehiachpcdeaaGreatDoorTVE3
import Derived.Test.YtniehiachpcdeaaGreatDoorTVG1
import Derived.Test.YtniehiachpcdeaaGreatDoorTVG2
set_option linter.unusedVariables false
set_option linter.unusedSimpArgs false
set_option linter.unusedSectionVars false
set_option maxRecDepth 100000
namespace Go.Q
open Go Go.RowKit
open Go.Rx (br bd sIdx sCat sCut iQuo iRem)
noncomputable section
namespace bigint_quotient
def f (lf : Nat) (a0 : TB) (a1 : TB) : Option (TB × TB × Unit) :=
 bd (bigint_divide.f lf a0.2.1 a1.2.1) fun r1 =>
 br (a0.1 == a1.1) (
 some ((false, r1.1, ()), (a1.1, r1.2.1, ()), ())) (
 br (decide (((r1.2.1.length : Nat) : Int) > 0)) (
 bd (bigint_plus.f lf r1.1 [1]) fun r2 =>
 bd (bigint_minus.f lf a1.2.1 r1.2.1) fun r3 =>
 some ((true, r2.1, ()), (a1.1, r3.1, ()), ())) (
 some ((true, r1.1, ()), (a1.1, r1.2.1, ()), ())))
def E (lf : Nat) : Entry := ⟨[yB, yB], [yB, yB], fun x => f lf x.1 x.2.1⟩
theorem ok (lf : Nat) : Ok 294 (E lf) := okT (an := (annsL [])) (lf := lf) (tC (bigint_divide.ok lf) (tC (bigint_plus.ok lf) (tC (bigint_minus.ok lf) tN))) aoN fun x => by kernel_rfl
end bigint_quotient
namespace bigint_divided
def f (lf : Nat) (a0 : ByteArray) (a1 : ByteArray) : Option (ByteArray × ByteArray × Int × Unit) :=
 bd (bigint_pair.f lf a0 a1) fun r1 =>
 br (r1.2.2.1 != 0) (
 some ((⟨#[]⟩ : ByteArray), (⟨#[]⟩ : ByteArray), r1.2.2.1, ())) (
 br (((r1.2.1.2.1.length : Nat) : Int) == 0) (
 some ((⟨#[]⟩ : ByteArray), (⟨#[]⟩ : ByteArray), 19, ())) (
 bd (bigint_quotient.f lf r1.1 r1.2.1) fun r2 =>
 bd (bigint_number_text.f lf r2.1) fun r3 =>
 bd (bigint_number_text.f lf r2.2.1) fun r4 =>
 some (r3.1, r4.1, 0, ())))
def E (lf : Nat) : Entry := ⟨[.str, .str], [.str, .str, (.int .i64)], fun x => f lf x.1 x.2.1⟩
theorem ok (lf : Nat) : Ok 266 (E lf) := okT (an := (annsL [])) (lf := lf) (tC (bigint_pair.ok lf) (tC (bigint_number_text.ok lf) (tC (bigint_quotient.ok lf) tN))) aoN fun x => by kernel_rfl
end bigint_divided
namespace bigint_Rem
def f (lf : Nat) (a0 : ByteArray) (a1 : ByteArray) : Option (ByteArray × Int × Unit) :=
 bd (bigint_divided.f lf a0 a1) fun r1 =>
 some (r1.2.1, r1.2.2.1, ())
def E (lf : Nat) : Entry := ⟨[.str, .str], [.str, (.int .i64)], fun x => f lf x.1 x.2.1⟩
theorem ok (lf : Nat) : Ok 208 (E lf) := okT (an := (annsL [])) (lf := lf) (tC (bigint_divided.ok lf) tN) aoN fun x => by kernel_rfl
end bigint_Rem
namespace bigint_Add
def f (lf : Nat) (a0 : ByteArray) (a1 : ByteArray) : Option (ByteArray × Int × Unit) :=
 bd (bigint_pair.f lf a0 a1) fun r1 =>
 br (r1.2.2.1 != 0) (
 some ((⟨#[]⟩ : ByteArray), r1.2.2.1, ())) (
 bd (bigint_sum.f lf r1.1 r1.2.1) fun r2 =>
 bd (bigint_written.f lf r2.1) fun r3 =>
 some (r3.1, r3.2.1, ()))
def E (lf : Nat) : Entry := ⟨[.str, .str], [.str, (.int .i64)], fun x => f lf x.1 x.2.1⟩
theorem ok (lf : Nat) : Ok 283 (E lf) := okT (an := (annsL [])) (lf := lf) (tC (bigint_pair.ok lf) (tC (bigint_written.ok lf) (tC (bigint_sum.ok lf) tN))) aoN fun x => by kernel_rfl
end bigint_Add
namespace bigint_Abs
def f (lf : Nat) (a0 : ByteArray) : Option (ByteArray × Int × Unit) :=
 bd (bigint_Check.f lf a0) fun r1 =>
 br (r1.1 != 0) (
 some ((⟨#[]⟩ : ByteArray), r1.1, ())) (
 bd (strings_TrimPrefix.f lf a0 (⟨#[45]⟩ : ByteArray)) fun r2 =>
 some (r2.1, 0, ()))
def E (lf : Nat) : Entry := ⟨[.str], [.str, (.int .i64)], fun x => f lf x.1⟩
theorem ok (lf : Nat) : Ok 219 (E lf) := okT (an := (annsL [])) (lf := lf) (tC (bigint_Check.ok lf) (tC (strings_TrimPrefix.ok lf) tN)) aoN fun x => by kernel_rfl
end bigint_Abs
namespace bigint_common
def anns : FuncId → FA := annsL [(275, ⟨annOf [(0, ⟨kx 19 [0, 1], [], []⟩, ⟨kx 19 [0, 4], [], []⟩)], none, []⟩)]
def r0 {ρ : Type} (lf : Nat) (v0 v1 : List Int) (K : (List Int) → (List Int) → Option ρ) (E0 : (List Int) → Option ρ) : Option ρ :=
 br (decide (((v1.length : Nat) : Int) > 0)) (
 bd (bigint_divide.f lf v0 v1) fun r1 =>
 K v1 r1.2.1) (
 E0 v0)
def l0 (lf : Nat) : Nat → (List Int) → (List Int) → Option (((List Int) × Unit) × Unit)
 | 0, _, _ => none
 | n + 1, v0, v1 => r0 lf v0 v1 (l0 lf n) (fun w0 => some ((w0, ()), ()))
def sh0 : ShS := ⟨[.s (.sl (.int .i64)), .s (.sl (.int .i64)), .a 17], []⟩
def S0 (p : (List Int) × (List Int) × Unit) : St := sh0.b p
def xh0 : ShS := ⟨[.s (.sl (.int .i64)), .a 18], []⟩
def o0 (y : ((List Int) × Unit) × Unit) : Alt := .one (.exit 0) (xh0.b (y.1.1, ()))
def tb (lf : Nat) : List (FuncId × Entry) := [(296, bigint_divide.E lf)]
def s13_275 (lf : Nat) : List (Nat × (St → Option LTE)) := [(0, sumE sh0 fun (p : (List Int) × (List Int) × Unit) => ⟨((List Int) × Unit) × Unit, l0 lf (lf + 40) p.1 p.2.1, o0⟩)]
def ls (lf : Nat) : List (Nat × FuncId × Sums) := [(13, 275, sumsL (s13_275 lf))]
def it0 {ρ : Type} (lf n : Nat) (st : St) (k : KE ρ) : Option ρ := itG anns (ls lf) (tb lf) lf 13 275 0 0 (sumsL (s13_275 lf)) n st k
theorem t0 {ρ : Type} (lf n : Nat) (v0 v1 : List Int) (k : KE ρ) : it0 lf (n + 1) (S0 (v0, v1, ())) k = r0 lf v0 v1 (fun x0 x1 => it0 lf n (S0 (x0, x1, ())) k) (fun w0 => k (.exit 0) (xh0.b (w0, ()))) := by kernel_rfl
theorem u0 {ρ : Type} (lf : Nat) (k : KE ρ) : ∀ (n : Nat) (v0 v1 : List Int), it0 lf n (S0 (v0, v1, ())) k = bd (l0 lf n v0 v1) fun y => altK k (o0 y)
 | 0, _, _ => by rw [l0, bd_none]; rfl
 | n + 1, v0, v1 => by
  rw [t0]; simp only [l0, r0, u0 lf k n, bd_br, bd_bd, bd_some', bd_none, br_t, br_f, o0, altK]
theorem sl (lf : Nat) : SL anns (ls lf) (tb lf) lf (ls lf) := slC (laC (fun _ => by kernel_rfl) (fun _ (x : (List Int) × (List Int) × Unit) k => leq_of (u0 lf k (lf + 40) x.1 x.2.1)) laN) slN
def f (lf : Nat) (a0 : List Int) (a1 : List Int) : Option ((List Int) × Unit) :=
 bd (l0 lf (lf + 40) a0 a1) fun z2 =>
 some (z2.1.1, ())
def E (lf : Nat) : Entry := ⟨[(.sl (.int .i64)), (.sl (.int .i64))], [(.sl (.int .i64))], fun x => f lf x.1 x.2.1⟩
theorem ok (lf : Nat) : Ok 275 (E lf) := okL (tC (bigint_divide.ok lf) tN) (aoC aoN) (sl lf) fun x => by kernel_rfl
end bigint_common
namespace bigint_Gcd
def f (lf : Nat) (a0 : ByteArray) (a1 : ByteArray) : Option (ByteArray × Int × Unit) :=
 bd (bigint_pair.f lf a0 a1) fun r1 =>
 br (r1.2.2.1 != 0) (
 some ((⟨#[]⟩ : ByteArray), r1.2.2.1, ())) (
 bd (bigint_common.f lf r1.1.2.1 r1.2.1.2.1) fun r2 =>
 bd (bigint_number_text.f lf (false, r2.1, ())) fun r3 =>
 some (r3.1, 0, ()))
def E (lf : Nat) : Entry := ⟨[.str, .str], [.str, (.int .i64)], fun x => f lf x.1 x.2.1⟩
theorem ok (lf : Nat) : Ok 222 (E lf) := okT (an := (annsL [])) (lf := lf) (tC (bigint_pair.ok lf) (tC (bigint_common.ok lf) (tC (bigint_number_text.ok lf) tN))) aoN fun x => by kernel_rfl
end bigint_Gcd
end
end Go.Q
namespace Go.Q
open Go.IntKind (i64)
open Go Go.RowKit
open Go.Rx (br bd sIdx sCat sCut iQuo iRem)
noncomputable section
namespace interval_digits
def f (lf : Nat) (a0 : ByteArray) : Option (Int × Unit) :=
 br (decide (((a0.size : Nat) : Int) > 0)) (
 bd (sIdx a0 0) fun r1 =>
 br (((r1.toNat : Nat) : Int) == 45) (
 some ((i64.wrap (((a0.size : Nat) : Int) - 1)), ())) (
 some (((a0.size : Nat) : Int), ()))) (
 some (((a0.size : Nat) : Int), ()))
def E (lf : Nat) : Entry := ⟨[.str], [(.int .i64)], fun x => f lf x.1⟩
theorem ok (lf : Nat) : Ok 273 (E lf) := okT (an := (annsL [])) (lf := lf) tN aoN fun x => by kernel_rfl
end interval_digits
namespace interval_number
def f (lf : Nat) (a0 : ByteArray) : Option (Int × Unit) :=
 bd (bigint_Check.f lf a0) fun r1 =>
 br (r1.1 != 0) (
 some (r1.1, ())) (
 bd (interval_digits.f lf a0) fun r2 =>
 br (decide (r2.1 > 100)) (
 some (10, ())) (
 some (0, ())))
def E (lf : Nat) : Entry := ⟨[.str], [(.int .i64)], fun x => f lf x.1⟩
theorem ok (lf : Nat) : Ok 213 (E lf) := okT (an := (annsL [])) (lf := lf) (tC (bigint_Check.ok lf) (tC (interval_digits.ok lf) tN)) aoN fun x => by kernel_rfl
end interval_number
namespace interval_order
def f (lf : Nat) (a0 : ByteArray) (a1 : ByteArray) : Option (Int × Unit) :=
 bd (bigint_Compare.f lf a0 a1) fun r1 =>
 some (r1.1, ())
def E (lf : Nat) : Entry := ⟨[.str, .str], [(.int .i64)], fun x => f lf x.1 x.2.1⟩
theorem ok (lf : Nat) : Ok 214 (E lf) := okT (an := (annsL [])) (lf := lf) (tC (bigint_Compare.ok lf) tN) aoN fun x => by kernel_rfl
end interval_order
namespace interval_Check
def f (lf : Nat) (a0 : TI) : Option (Int × Unit) :=
 br a0.1 (
 br (!(a0.2.1.toList == (⟨#[]⟩ : ByteArray).toList)) (
 some (3, ())) (
 br (!(a0.2.2.1.toList == (⟨#[]⟩ : ByteArray).toList)) (
 some (3, ())) (
 br (a0.2.1.toList == (⟨#[]⟩ : ByteArray).toList) (
 br (a0.2.2.1.toList == (⟨#[]⟩ : ByteArray).toList) (
 br (!(a0.2.1.toList == (⟨#[]⟩ : ByteArray).toList)) (
 br (!(a0.2.2.1.toList == (⟨#[]⟩ : ByteArray).toList)) (
 bd (interval_order.f lf a0.2.1 a0.2.2.1) fun r1 =>
 br (decide (r1.1 > 0)) (
 some (14, ())) (
 some (0, ()))) (
 some (0, ()))) (
 some (0, ()))) (
 bd (interval_number.f lf a0.2.2.1) fun r2 =>
 br (r2.1 != 0) (
 some (r2.1, ())) (
 br (!(a0.2.1.toList == (⟨#[]⟩ : ByteArray).toList)) (
 br (!(a0.2.2.1.toList == (⟨#[]⟩ : ByteArray).toList)) (
 bd (interval_order.f lf a0.2.1 a0.2.2.1) fun r3 =>
 br (decide (r3.1 > 0)) (
 some (14, ())) (
 some (0, ()))) (
 some (0, ()))) (
 some (0, ()))))) (
 bd (interval_number.f lf a0.2.1) fun r4 =>
 br (r4.1 != 0) (
 some (r4.1, ())) (
 br (a0.2.2.1.toList == (⟨#[]⟩ : ByteArray).toList) (
 br (!(a0.2.1.toList == (⟨#[]⟩ : ByteArray).toList)) (
 br (!(a0.2.2.1.toList == (⟨#[]⟩ : ByteArray).toList)) (
 bd (interval_order.f lf a0.2.1 a0.2.2.1) fun r5 =>
 br (decide (r5.1 > 0)) (
 some (14, ())) (
 some (0, ()))) (
 some (0, ()))) (
 some (0, ()))) (
 bd (interval_number.f lf a0.2.2.1) fun r6 =>
 br (r6.1 != 0) (
 some (r6.1, ())) (
 br (!(a0.2.1.toList == (⟨#[]⟩ : ByteArray).toList)) (
 br (!(a0.2.2.1.toList == (⟨#[]⟩ : ByteArray).toList)) (
 bd (interval_order.f lf a0.2.1 a0.2.2.1) fun r7 =>
 br (decide (r7.1 > 0)) (
 some (14, ())) (
 some (0, ()))) (
 some (0, ()))) (
 some (0, ()))))))))) (
 br (a0.2.1.toList == (⟨#[]⟩ : ByteArray).toList) (
 br (a0.2.2.1.toList == (⟨#[]⟩ : ByteArray).toList) (
 br (!(a0.2.1.toList == (⟨#[]⟩ : ByteArray).toList)) (
 br (!(a0.2.2.1.toList == (⟨#[]⟩ : ByteArray).toList)) (
 bd (interval_order.f lf a0.2.1 a0.2.2.1) fun r8 =>
 br (decide (r8.1 > 0)) (
 some (14, ())) (
 some (0, ()))) (
 some (0, ()))) (
 some (0, ()))) (
 bd (interval_number.f lf a0.2.2.1) fun r9 =>
 br (r9.1 != 0) (
 some (r9.1, ())) (
 br (!(a0.2.1.toList == (⟨#[]⟩ : ByteArray).toList)) (
 br (!(a0.2.2.1.toList == (⟨#[]⟩ : ByteArray).toList)) (
 bd (interval_order.f lf a0.2.1 a0.2.2.1) fun r10 =>
 br (decide (r10.1 > 0)) (
 some (14, ())) (
 some (0, ()))) (
 some (0, ()))) (
 some (0, ()))))) (
 bd (interval_number.f lf a0.2.1) fun r11 =>
 br (r11.1 != 0) (
 some (r11.1, ())) (
 br (a0.2.2.1.toList == (⟨#[]⟩ : ByteArray).toList) (
 br (!(a0.2.1.toList == (⟨#[]⟩ : ByteArray).toList)) (
 br (!(a0.2.2.1.toList == (⟨#[]⟩ : ByteArray).toList)) (
 bd (interval_order.f lf a0.2.1 a0.2.2.1) fun r12 =>
 br (decide (r12.1 > 0)) (
 some (14, ())) (
 some (0, ()))) (
 some (0, ()))) (
 some (0, ()))) (
 bd (interval_number.f lf a0.2.2.1) fun r13 =>
 br (r13.1 != 0) (
 some (r13.1, ())) (
 br (!(a0.2.1.toList == (⟨#[]⟩ : ByteArray).toList)) (
 br (!(a0.2.2.1.toList == (⟨#[]⟩ : ByteArray).toList)) (
 bd (interval_order.f lf a0.2.1 a0.2.2.1) fun r14 =>
 br (decide (r14.1 > 0)) (
 some (14, ())) (
 some (0, ()))) (
 some (0, ()))) (
 some (0, ())))))))
def E (lf : Nat) : Entry := ⟨[yI], [(.int .i64)], fun x => f lf x.1⟩
theorem ok (lf : Nat) : Ok 205 (E lf) := okT (an := (annsL [])) (lf := lf) (tC (interval_number.ok lf) (tC (interval_order.ok lf) tN)) aoN fun x => by kernel_rfl
end interval_Check
namespace interval_ascending
def anns : FuncId → FA := annsL [(159, ⟨annOf [(0, ⟨kx 34 [0, 9, 10, 11], [], []⟩, ⟨kx 34 [2], [], []⟩)], none, []⟩)]
def r0 {ρ : Type} (lf : Nat) (v0 v1 : List ByteArray) (v2 : Int) (v3 : Int) (K : Int → Option ρ) (E0 : Int → Option ρ) (E1 : Option ρ) : Option ρ :=
 br (decide (v3 < v2)) (
 bd (idxL v1 v3) fun y1 =>
 bd (interval_number.f lf y1) fun r2 =>
 br (r2.1 != 0) (
 E0 r2.1) (
 br (decide (v3 > 0)) (
 bd (idxL v0 (i64.wrap (v3 - 1))) fun y3 =>
 bd (interval_order.f lf y3 y1) fun r4 =>
 br (decide (r4.1 ≥ 0)) (
 E0 14) (
 K (i64.wrap (v3 + 1)))) (
 K (i64.wrap (v3 + 1))))) (
 E1)
def l0 (lf : Nat) (v0 v1 : List ByteArray) (v2 : Int) : Nat → Int → Option (Bool × (Int × Unit) × (Unit) × Unit)
 | 0, _ => none
 | n + 1, v3 => r0 lf v0 v1 v2 v3 (l0 lf v0 v1 v2 n) (fun w0 => some (true, (w0, ()), ((()), ()))) (some (false, (0, ()), ((()), ())))
def sh0 : ShS := ⟨[.s (.sl .str), .a 8, .s (.sl .str), .s (.int .i64), .s (.int .i64), .a 22], []⟩
def S0 (p : (List ByteArray) × (List ByteArray) × Int × Int × Unit) : St := sh0.b p
def xh0 : ShS := ⟨[.a 2, .s (.int .i64), .a 31], []⟩
def xh1 : ShS := ⟨[.a 34], []⟩
def o0 (v0 v1 : List ByteArray) (v2 : Int) (y : Bool × (Int × Unit) × (Unit) × Unit) : Alt := .two y.1 (.one .ret (xh0.b (y.2.1.1, ()))) (.one (.exit 0) (xh1.b (())))
def tb (lf : Nat) : List (FuncId × Entry) := [(213, interval_number.E lf), (214, interval_order.E lf)]
def s13_159 (lf : Nat) : List (Nat × (St → Option LTE)) := [(0, sumE sh0 fun (p : (List ByteArray) × (List ByteArray) × Int × Int × Unit) => ⟨Bool × (Int × Unit) × (Unit) × Unit, l0 lf p.1 p.2.1 p.2.2.1 (lf + 40) p.2.2.2.1, o0 p.1 p.2.1 p.2.2.1⟩)]
def ls (lf : Nat) : List (Nat × FuncId × Sums) := [(13, 159, sumsL (s13_159 lf))]
def it0 {ρ : Type} (lf n : Nat) (st : St) (k : KE ρ) : Option ρ := itG anns (ls lf) (tb lf) lf 13 159 0 0 (sumsL (s13_159 lf)) n st k
theorem t0 {ρ : Type} (lf n : Nat) (v0 v1 : List ByteArray) (v2 v3 : Int) (k : KE ρ) : it0 lf (n + 1) (S0 (v0, v1, v2, v3, ())) k = r0 lf v0 v1 v2 v3 (fun x0 => it0 lf n (S0 (v0, v1, v2, x0, ())) k) (fun w0 => k .ret (xh0.b (w0, ()))) (k (.exit 0) (xh1.b (()))) := by kernel_rfl
theorem u0 {ρ : Type} (lf : Nat) (v0 v1 : List ByteArray) (v2 : Int) (k : KE ρ) : ∀ (n : Nat) (v3 : Int), it0 lf n (S0 (v0, v1, v2, v3, ())) k = bd (l0 lf v0 v1 v2 n v3) fun y => altK k (o0 v0 v1 v2 y)
 | 0, _ => by rw [l0, bd_none]; rfl
 | n + 1, v3 => by
  rw [t0]; simp only [l0, r0, u0 lf v0 v1 v2 k n, bd_br, bd_bd, bd_some', bd_none, br_t, br_f, o0, altK]
theorem sl (lf : Nat) : SL anns (ls lf) (tb lf) lf (ls lf) := slC (laC (fun _ => by kernel_rfl) (fun _ (x : (List ByteArray) × (List ByteArray) × Int × Int × Unit) k => leq_of (u0 lf x.1 x.2.1 x.2.2.1 k (lf + 40) x.2.2.2.1)) laN) slN
def f (lf : Nat) (a0 : List ByteArray) : Option (Int × Unit) :=
 br (decide (((a0.length : Nat) : Int) > 1024)) (
 some (5, ())) (
 bd (l0 lf a0 a0 ((a0.length : Nat) : Int) (lf + 40) 0) fun z5 =>
 br z5.1 (
 some (z5.2.1.1, ())) (
 some (0, ())))
def E (lf : Nat) : Entry := ⟨[(.sl .str)], [(.int .i64)], fun x => f lf x.1⟩
theorem ok (lf : Nat) : Ok 159 (E lf) := okL (tC (interval_number.ok lf) (tC (interval_order.ok lf) tN)) (aoC aoN) (sl lf) fun x => by kernel_rfl
end interval_ascending
namespace interval_infinite
def f (lf : Nat) (a0 : Int) : Option (TX × Unit) :=
 some ((a0, (⟨#[]⟩ : ByteArray), ()), ())
def E (lf : Nat) : Entry := ⟨[(.int .i64)], [yX], fun x => f lf x.1⟩
theorem ok (lf : Nat) : Ok 165 (E lf) := okT (an := (annsL [])) (lf := lf) tN aoN fun x => by kernel_rfl
end interval_infinite
namespace interval_finite
def f (lf : Nat) (a0 : ByteArray) : Option (TX × Unit) :=
 some ((0, a0, ()), ())
def E (lf : Nat) : Entry := ⟨[.str], [yX], fun x => f lf x.1⟩
theorem ok (lf : Nat) : Ok 166 (E lf) := okT (an := (annsL [])) (lf := lf) tN aoN fun x => by kernel_rfl
end interval_finite
namespace interval_none
def f (lf : Nat)  : Option (TS × Unit) :=
 bd (interval_infinite.f lf 1) fun r1 =>
 bd (interval_infinite.f lf (-1)) fun r2 =>
 some ((r1.1, r2.1, ()), ())
def E (lf : Nat) : Entry := ⟨[], [yS], fun x => f lf ⟩
theorem ok (lf : Nat) : Ok 215 (E lf) := okT (an := (annsL [])) (lf := lf) (tC (interval_infinite.ok lf) tN) aoN fun x => by kernel_rfl
end interval_none
namespace interval_of
def f (lf : Nat) (a0 : TI) : Option (TS × Unit) :=
 br a0.1 (
 bd (interval_none.f lf) fun r1 =>
 some (r1.1, ())) (
 bd (interval_infinite.f lf (-1)) fun r2 =>
 bd (interval_infinite.f lf 1) fun r3 =>
 br (!(a0.2.1.toList == (⟨#[]⟩ : ByteArray).toList)) (
 bd (interval_finite.f lf a0.2.1) fun r4 =>
 br (!(a0.2.2.1.toList == (⟨#[]⟩ : ByteArray).toList)) (
 bd (interval_finite.f lf a0.2.2.1) fun r5 =>
 some ((r4.1, r5.1, ()), ())) (
 some ((r4.1, r3.1, ()), ()))) (
 br (!(a0.2.2.1.toList == (⟨#[]⟩ : ByteArray).toList)) (
 bd (interval_finite.f lf a0.2.2.1) fun r6 =>
 some ((r2.1, r6.1, ()), ())) (
 some ((r2.1, r3.1, ()), ()))))
def E (lf : Nat) : Entry := ⟨[yI], [yS], fun x => f lf x.1⟩
theorem ok (lf : Nat) : Ok 160 (E lf) := okT (an := (annsL [])) (lf := lf) (tC (interval_infinite.ok lf) (tC (interval_finite.ok lf) (tC (interval_none.ok lf) tN))) aoN fun x => by kernel_rfl
end interval_of
namespace interval_compare
def f (lf : Nat) (a0 : TX) (a1 : TX) : Option (Int × Unit) :=
 br (a0.1 != 0) (
 some ((i64.wrap (a0.1 - a1.1)), ())) (
 br (a1.1 != 0) (
 some ((i64.wrap (a0.1 - a1.1)), ())) (
 bd (interval_order.f lf a0.2.1 a1.2.1) fun r1 =>
 some (r1.1, ())))
def E (lf : Nat) : Entry := ⟨[yX, yX], [(.int .i64)], fun x => f lf x.1 x.2.1⟩
theorem ok (lf : Nat) : Ok 164 (E lf) := okT (an := (annsL [])) (lf := lf) (tC (interval_order.ok lf) tN) aoN fun x => by kernel_rfl
end interval_compare
namespace interval_span_empty
def f (lf : Nat) (a0 : TS) : Option (Bool × Unit) :=
 bd (interval_compare.f lf a0.1 a0.2.1) fun r1 =>
 some ((decide (r1.1 > 0)), ())
def E (lf : Nat) : Entry := ⟨[yS], [.bool], fun x => f lf x.1⟩
theorem ok (lf : Nat) : Ok 161 (E lf) := okT (an := (annsL [])) (lf := lf) (tC (interval_compare.ok lf) tN) aoN fun x => by kernel_rfl
end interval_span_empty
namespace interval_least
def f (lf : Nat) (a0 : TX) (a1 : TX) : Option (TX × Unit) :=
 bd (interval_compare.f lf a1 a0) fun r1 =>
 br (decide (r1.1 < 0)) (
 some (a1, ())) (
 some (a0, ()))
def E (lf : Nat) : Entry := ⟨[yX, yX], [yX], fun x => f lf x.1 x.2.1⟩
theorem ok (lf : Nat) : Ok 216 (E lf) := okT (an := (annsL [])) (lf := lf) (tC (interval_compare.ok lf) tN) aoN fun x => by kernel_rfl
end interval_least
namespace interval_most
def f (lf : Nat) (a0 : TX) (a1 : TX) : Option (TX × Unit) :=
 bd (interval_compare.f lf a1 a0) fun r1 =>
 br (decide (r1.1 > 0)) (
 some (a1, ())) (
 some (a0, ()))
def E (lf : Nat) : Entry := ⟨[yX, yX], [yX], fun x => f lf x.1 x.2.1⟩
theorem ok (lf : Nat) : Ok 217 (E lf) := okT (an := (annsL [])) (lf := lf) (tC (interval_compare.ok lf) tN) aoN fun x => by kernel_rfl
end interval_most
namespace interval_span_hull
def f (lf : Nat) (a0 : TS) (a1 : TS) : Option (TS × Unit) :=
 bd (interval_span_empty.f lf a0) fun r1 =>
 br r1.1 (
 some (a1, ())) (
 bd (interval_span_empty.f lf a1) fun r2 =>
 br r2.1 (
 some (a0, ())) (
 bd (interval_least.f lf a0.1 a1.1) fun r3 =>
 bd (interval_most.f lf a0.2.1 a1.2.1) fun r4 =>
 some ((r3.1, r4.1, ()), ())))
def E (lf : Nat) : Entry := ⟨[yS, yS], [yS], fun x => f lf x.1 x.2.1⟩
theorem ok (lf : Nat) : Ok 162 (E lf) := okT (an := (annsL [])) (lf := lf) (tC (interval_span_empty.ok lf) (tC (interval_least.ok lf) (tC (interval_most.ok lf) tN))) aoN fun x => by kernel_rfl
end interval_span_hull
namespace interval_text
def f (lf : Nat) (a0 : TX) : Option (ByteArray × Unit) :=
 br (a0.1 != 0) (
 some ((⟨#[]⟩ : ByteArray), ())) (
 bd (interval_digits.f lf a0.2.1) fun r1 =>
 br (decide (r1.1 > 100)) (
 some ((⟨#[]⟩ : ByteArray), ())) (
 some (a0.2.1, ())))
def E (lf : Nat) : Entry := ⟨[yX], [.str], fun x => f lf x.1⟩
theorem ok (lf : Nat) : Ok 218 (E lf) := okT (an := (annsL [])) (lf := lf) (tC (interval_digits.ok lf) tN) aoN fun x => by kernel_rfl
end interval_text
namespace interval_span_interval
def f (lf : Nat) (a0 : TS) : Option (TI × Unit) :=
 bd (interval_span_empty.f lf a0) fun r1 =>
 br r1.1 (
 some ((true, (⟨#[]⟩ : ByteArray), (⟨#[]⟩ : ByteArray), ()), ())) (
 bd (interval_text.f lf a0.1) fun r2 =>
 bd (interval_text.f lf a0.2.1) fun r3 =>
 some ((false, r2.1, r3.1, ()), ()))
def E (lf : Nat) : Entry := ⟨[yS], [yI], fun x => f lf x.1⟩
theorem ok (lf : Nat) : Ok 163 (E lf) := okT (an := (annsL [])) (lf := lf) (tC (interval_span_empty.ok lf) (tC (interval_text.ok lf) tN)) aoN fun x => by kernel_rfl
end interval_span_interval
end
end Go.Q
namespace Go.Q
open Go.IntKind (i64)
open Go Go.RowKit
open Go.Rx (br bd sIdx sCat sCut iQuo iRem)
noncomputable section
namespace surveyorref01_Negative
def f (lf : Nat) (a0 : ByteArray) : Option (Bool × Unit) :=
 bd (sIdx a0 0) fun r1 =>
 some ((((r1.toNat : Nat) : Int) == 45), ())
def E (lf : Nat) : Entry := ⟨[.str], [.bool], fun x => f lf x.1⟩
theorem ok (lf : Nat) : Ok 152 (E lf) := okT (an := (annsL [])) (lf := lf) tN aoN fun x => by kernel_rfl
end surveyorref01_Negative
namespace surveyorref01_Digits
def f (lf : Nat) (a0 : ByteArray) : Option (Int × Unit) :=
 bd (surveyorref01_Negative.f lf a0) fun r1 =>
 br r1.1 (
 some ((i64.wrap (((a0.size : Nat) : Int) - 1)), ())) (
 some (((a0.size : Nat) : Int), ()))
def E (lf : Nat) : Entry := ⟨[.str], [(.int .i64)], fun x => f lf x.1⟩
theorem ok (lf : Nat) : Ok 100 (E lf) := okT (an := (annsL [])) (lf := lf) (tC (surveyorref01_Negative.ok lf) tN) aoN fun x => by kernel_rfl
end surveyorref01_Digits
namespace surveyorref01_Whole
def anns : FuncId → FA := annsL [(30, ⟨annOf [(0, ⟨kx 30 [0, 3, 4], [], []⟩, ⟨kx 30 [0, 2, 3], [], []⟩)], none, []⟩)]
def r0 {ρ : Type} (lf : Nat) (v0 : Int) (v1 : ByteArray) (v2 : Int) (K : ByteArray → Int → Option ρ) (E0 : ByteArray → Option ρ) : Option ρ :=
 br (v2 != 0) (
 bd (iRem v2 10) fun r1 =>
 bd (iRem v2 10) fun r2 =>
 bd (sCut (⟨#[48, 49, 50, 51, 52, 53, 54, 55, 56, 57]⟩ : ByteArray) (some (if (i64.wrap (0 - r2)) > r1 then (i64.wrap (0 - r2)) else r1)) (some (i64.wrap ((if (i64.wrap (0 - r2)) > r1 then (i64.wrap (0 - r2)) else r1) + 1)))) fun r3 =>
 bd (sCat r3 v1) fun r4 =>
 bd (iQuo .i64 v2 10) fun r5 =>
 K r4 r5) (
 E0 v1)
def l0 (lf : Nat) (v0 : Int) : Nat → ByteArray → Int → Option ((ByteArray × Unit) × Unit)
 | 0, _, _ => none
 | n + 1, v1, v2 => r0 lf v0 v1 v2 (l0 lf v0 n) (fun w0 => some ((w0, ()), ()))
def sh0 : ShS := ⟨[.s (.int .i64), .a 2, .s .str, .s (.int .i64), .a 25], []⟩
def S0 (p : Int × ByteArray × Int × Unit) : St := sh0.b p
def xh0 : ShS := ⟨[.s (.int .i64), .a 2, .s .str, .a 26], []⟩
def o0 (v0 : Int) (y : (ByteArray × Unit) × Unit) : Alt := .one (.exit 0) (xh0.b (v0, y.1.1, ()))
def tb (lf : Nat) : List (FuncId × Entry) := []
def s13_30 (lf : Nat) : List (Nat × (St → Option LTE)) := [(0, sumE sh0 fun (p : Int × ByteArray × Int × Unit) => ⟨(ByteArray × Unit) × Unit, l0 lf p.1 (lf + 40) p.2.1 p.2.2.1, o0 p.1⟩)]
def ls (lf : Nat) : List (Nat × FuncId × Sums) := [(13, 30, sumsL (s13_30 lf))]
def it0 {ρ : Type} (lf n : Nat) (st : St) (k : KE ρ) : Option ρ := itG anns (ls lf) (tb lf) lf 13 30 0 0 (sumsL (s13_30 lf)) n st k
theorem t0 {ρ : Type} (lf n : Nat) (v0 : Int) (v1 : ByteArray) (v2 : Int) (k : KE ρ) : it0 lf (n + 1) (S0 (v0, v1, v2, ())) k = r0 lf v0 v1 v2 (fun x0 x1 => it0 lf n (S0 (v0, x0, x1, ())) k) (fun w0 => k (.exit 0) (xh0.b (v0, w0, ()))) := by kernel_rfl
theorem u0 {ρ : Type} (lf : Nat) (v0 : Int) (k : KE ρ) : ∀ (n : Nat) (v1 : ByteArray) (v2 : Int), it0 lf n (S0 (v0, v1, v2, ())) k = bd (l0 lf v0 n v1 v2) fun y => altK k (o0 v0 y)
 | 0, _, _ => by rw [l0, bd_none]; rfl
 | n + 1, v1, v2 => by
  rw [t0]; simp only [l0, r0, u0 lf v0 k n, bd_br, bd_bd, bd_some', bd_none, br_t, br_f, o0, altK]
theorem sl (lf : Nat) : SL anns (ls lf) (tb lf) lf (ls lf) := slC (laC (fun _ => by kernel_rfl) (fun _ (x : Int × ByteArray × Int × Unit) k => leq_of (u0 lf x.1 k (lf + 40) x.2.1 x.2.2.1)) laN) slN
def f (lf : Nat) (a0 : Int) : Option (ByteArray × Unit) :=
 br (a0 == 0) (
 some ((⟨#[48]⟩ : ByteArray), ())) (
 bd (l0 lf a0 (lf + 40) (⟨#[]⟩ : ByteArray) a0) fun z6 =>
 br (decide (a0 < 0)) (
 bd (sCat (⟨#[45]⟩ : ByteArray) z6.1.1) fun r7 =>
 some (r7, ())) (
 some (z6.1.1, ())))
def E (lf : Nat) : Entry := ⟨[(.int .i64)], [.str], fun x => f lf x.1⟩
theorem ok (lf : Nat) : Ok 30 (E lf) := okL tN (aoC aoN) (sl lf) fun x => by kernel_rfl
end surveyorref01_Whole
namespace surveyorref01_short
def f (lf : Nat) (a0 : ByteArray) (a1 : Int) : Option (Bool × Unit) :=
 bd (surveyorref01_Digits.f lf a0) fun r1 =>
 some ((decide (r1.1 ≤ a1)), ())
def E (lf : Nat) : Entry := ⟨[.str, (.int .i64)], [.bool], fun x => f lf x.1 x.2.1⟩
theorem ok (lf : Nat) : Ok 167 (E lf) := okT (an := (annsL [])) (lf := lf) (tC (surveyorref01_Digits.ok lf) tN) aoN fun x => by kernel_rfl
end surveyorref01_short
namespace surveyorref01_number
def anns : FuncId → FA := annsL [(168, ⟨annOf [(0, ⟨kx 28 [0, 3, 4], [], []⟩, ⟨kx 28 [0, 2, 3], [], []⟩)], none, []⟩)]
def r0 {ρ : Type} (lf : Nat) (v0 : ByteArray) (v1 v2 : Int) (K : Int → Int → Option ρ) (E0 : Int → Option ρ) : Option ρ :=
 br (decide (v2 < ((v0.size : Nat) : Int))) (
 bd (sIdx v0 v2) fun r1 =>
 br (((r1.toNat : Nat) : Int) != 45) (
 bd (sIdx v0 v2) fun r2 =>
 K (i64.wrap ((i64.wrap (v1 * 10)) + (i64.wrap (IntKind.u8.wrap (((r2.toNat : Nat) : Int) - 48))))) (i64.wrap (v2 + 1))) (
 K v1 (i64.wrap (v2 + 1)))) (
 E0 v1)
def l0 (lf : Nat) (v0 : ByteArray) : Nat → Int → Int → Option ((Int × Unit) × Unit)
 | 0, _, _ => none
 | n + 1, v1, v2 => r0 lf v0 v1 v2 (l0 lf v0 n) (fun w0 => some ((w0, ()), ()))
def sh0 : ShS := ⟨[.s .str, .a 2, .s (.int .i64), .s (.int .i64), .a 23], []⟩
def S0 (p : ByteArray × Int × Int × Unit) : St := sh0.b p
def xh0 : ShS := ⟨[.s .str, .a 2, .s (.int .i64), .a 24], []⟩
def o0 (v0 : ByteArray) (y : (Int × Unit) × Unit) : Alt := .one (.exit 0) (xh0.b (v0, y.1.1, ()))
def tb (lf : Nat) : List (FuncId × Entry) := [(152, surveyorref01_Negative.E lf)]
def s13_168 (lf : Nat) : List (Nat × (St → Option LTE)) := [(0, sumE sh0 fun (p : ByteArray × Int × Int × Unit) => ⟨(Int × Unit) × Unit, l0 lf p.1 (lf + 40) p.2.1 p.2.2.1, o0 p.1⟩)]
def ls (lf : Nat) : List (Nat × FuncId × Sums) := [(13, 168, sumsL (s13_168 lf))]
def it0 {ρ : Type} (lf n : Nat) (st : St) (k : KE ρ) : Option ρ := itG anns (ls lf) (tb lf) lf 13 168 0 0 (sumsL (s13_168 lf)) n st k
theorem t0 {ρ : Type} (lf n : Nat) (v0 : ByteArray) (v1 v2 : Int) (k : KE ρ) : it0 lf (n + 1) (S0 (v0, v1, v2, ())) k = r0 lf v0 v1 v2 (fun x0 x1 => it0 lf n (S0 (v0, x0, x1, ())) k) (fun w0 => k (.exit 0) (xh0.b (v0, w0, ()))) := by kernel_rfl
theorem u0 {ρ : Type} (lf : Nat) (v0 : ByteArray) (k : KE ρ) : ∀ (n : Nat) (v1 v2 : Int), it0 lf n (S0 (v0, v1, v2, ())) k = bd (l0 lf v0 n v1 v2) fun y => altK k (o0 v0 y)
 | 0, _, _ => by rw [l0, bd_none]; rfl
 | n + 1, v1, v2 => by
  rw [t0]; simp only [l0, r0, u0 lf v0 k n, bd_br, bd_bd, bd_some', bd_none, br_t, br_f, o0, altK]
theorem sl (lf : Nat) : SL anns (ls lf) (tb lf) lf (ls lf) := slC (laC (fun _ => by kernel_rfl) (fun _ (x : ByteArray × Int × Int × Unit) k => leq_of (u0 lf x.1 k (lf + 40) x.2.1 x.2.2.1)) laN) slN
def f (lf : Nat) (a0 : ByteArray) : Option (Int × Unit) :=
 bd (l0 lf a0 (lf + 40) 0 0) fun z3 =>
 bd (surveyorref01_Negative.f lf a0) fun r4 =>
 br r4.1 (
 some ((i64.wrap (0 - z3.1.1)), ())) (
 some (z3.1.1, ()))
def E (lf : Nat) : Entry := ⟨[.str], [(.int .i64)], fun x => f lf x.1⟩
theorem ok (lf : Nat) : Ok 168 (E lf) := okL (tC (surveyorref01_Negative.ok lf) tN) (aoC aoN) (sl lf) fun x => by kernel_rfl
end surveyorref01_number
namespace surveyorref01_digits
def anns : FuncId → FA := annsL [(234, ⟨annOf [(0, ⟨kx 27 [0, 3, 4], [⟨.tmp 3, (.int .i64), 3⟩], []⟩, ⟨kx 27 [2, 3], [⟨.tmp 3, (.int .i64), 3⟩], []⟩)], none, []⟩)]
def r0 {ρ : Type} (lf : Nat) (v0 : ByteArray) (v1 : Int) (v2 : List Int) (K : Int → (List Int) → Option ρ) (E0 : (List Int) → Option ρ) : Option ρ :=
 br (decide (v1 ≥ 0)) (
 bd (sIdx v0 v1) fun r1 =>
 br (((r1.toNat : Nat) : Int) != 45) (
 bd (sIdx v0 v1) fun r2 =>
 bd (apL true 8 v2 [(i64.wrap (IntKind.u8.wrap (((r2.toNat : Nat) : Int) - 48)))]) fun q3 =>
 K (i64.wrap (v1 - 1)) q3) (
 E0 v2)) (
 E0 v2)
def l0 (lf : Nat) (v0 : ByteArray) : Nat → Int → (List Int) → Option (((List Int) × Unit) × Unit)
 | 0, _, _ => none
 | n + 1, v1, v2 => r0 lf v0 v1 v2 (l0 lf v0 n) (fun w0 => some ((w0, ()), ()))
def sh0 : ShS := ⟨[.s .str, .a 2, .s (.row 0), .s (.int .i64), .a 22], [.row (.int .i64) 3 false]⟩
def S0 (p : ByteArray × Int × (List Int) × Unit) : St := sh0.b p
def xh0 : ShS := ⟨[.a 3, .s (.row 0), .a 23], [.row (.int .i64) 3 false]⟩
def o0 (v0 : ByteArray) (y : ((List Int) × Unit) × Unit) : Alt := .one (.exit 0) (xh0.b (y.1.1, ()))
def tb (lf : Nat) : List (FuncId × Entry) := []
def s13_234 (lf : Nat) : List (Nat × (St → Option LTE)) := [(0, sumE sh0 fun (p : ByteArray × Int × (List Int) × Unit) => ⟨((List Int) × Unit) × Unit, l0 lf p.1 (lf + 40) p.2.1 p.2.2.1, o0 p.1⟩)]
def ls (lf : Nat) : List (Nat × FuncId × Sums) := [(13, 234, sumsL (s13_234 lf))]
def it0 {ρ : Type} (lf n : Nat) (st : St) (k : KE ρ) : Option ρ := itG anns (ls lf) (tb lf) lf 13 234 0 0 (sumsL (s13_234 lf)) n st k
theorem t0 {ρ : Type} (lf n : Nat) (v0 : ByteArray) (v1 : Int) (v2 : List Int) (k : KE ρ) : it0 lf (n + 1) (S0 (v0, v1, v2, ())) k = r0 lf v0 v1 v2 (fun x0 x1 => it0 lf n (S0 (v0, x0, x1, ())) k) (fun w0 => k (.exit 0) (xh0.b (w0, ()))) := by kernel_rfl
theorem u0 {ρ : Type} (lf : Nat) (v0 : ByteArray) (k : KE ρ) : ∀ (n : Nat) (v1 : Int) (v2 : List Int), it0 lf n (S0 (v0, v1, v2, ())) k = bd (l0 lf v0 n v1 v2) fun y => altK k (o0 v0 y)
 | 0, _, _ => by rw [l0, bd_none]; rfl
 | n + 1, v1, v2 => by
  rw [t0]; simp only [l0, r0, u0 lf v0 k n, bd_br, bd_bd, bd_some', bd_none, br_t, br_f, o0, altK]
theorem sl (lf : Nat) : SL anns (ls lf) (tb lf) lf (ls lf) := slC (laC (fun _ => by kernel_rfl) (fun _ (x : ByteArray × Int × (List Int) × Unit) k => leq_of (u0 lf x.1 k (lf + 40) x.2.1 x.2.2.1)) laN) slN
def f (lf : Nat) (a0 : ByteArray) : Option ((List Int) × Unit) :=
 bd (l0 lf a0 (lf + 40) (i64.wrap (((a0.size : Nat) : Int) - 1)) []) fun z4 =>
 some (z4.1.1, ())
def E (lf : Nat) : Entry := ⟨[.str], [(.sl (.int .i64))], fun x => f lf x.1⟩
theorem ok (lf : Nat) : Ok 234 (E lf) := okL tN (aoC aoN) (sl lf) fun x => by kernel_rfl
end surveyorref01_digits
namespace surveyorref01_cut
def anns : FuncId → FA := annsL [(238, ⟨annOf [(0, ⟨kx 21 [0, 3], [], []⟩, ⟨kx 21 [0, 2, 3], [], []⟩)], none, []⟩)]
def r0 {ρ : Type} (lf : Nat) (v0 : List Int) (v1 : Int) (K : Int → Option ρ) (E0 : Int → Option ρ) : Option ρ :=
 br (decide (v1 > 0)) (
 bd (idxL v0 (i64.wrap (v1 - 1))) fun y1 =>
 br (y1 == 0) (
 K (i64.wrap (v1 - 1))) (
 E0 v1)) (
 E0 v1)
def l0 (lf : Nat) (v0 : List Int) : Nat → Int → Option ((Int × Unit) × Unit)
 | 0, _ => none
 | n + 1, v1 => r0 lf v0 v1 (l0 lf v0 n) (fun w0 => some ((w0, ()), ()))
def sh0 : ShS := ⟨[.s (.sl (.int .i64)), .a 2, .s (.int .i64), .a 17], []⟩
def S0 (p : (List Int) × Int × Unit) : St := sh0.b p
def xh0 : ShS := ⟨[.s (.sl (.int .i64)), .a 2, .s (.int .i64), .a 17], []⟩
def o0 (v0 : List Int) (y : (Int × Unit) × Unit) : Alt := .one (.exit 0) (xh0.b (v0, y.1.1, ()))
def tb (lf : Nat) : List (FuncId × Entry) := []
def s13_238 (lf : Nat) : List (Nat × (St → Option LTE)) := [(0, sumE sh0 fun (p : (List Int) × Int × Unit) => ⟨(Int × Unit) × Unit, l0 lf p.1 (lf + 40) p.2.1, o0 p.1⟩)]
def ls (lf : Nat) : List (Nat × FuncId × Sums) := [(13, 238, sumsL (s13_238 lf))]
def it0 {ρ : Type} (lf n : Nat) (st : St) (k : KE ρ) : Option ρ := itG anns (ls lf) (tb lf) lf 13 238 0 0 (sumsL (s13_238 lf)) n st k
theorem t0 {ρ : Type} (lf n : Nat) (v0 : List Int) (v1 : Int) (k : KE ρ) : it0 lf (n + 1) (S0 (v0, v1, ())) k = r0 lf v0 v1 (fun x0 => it0 lf n (S0 (v0, x0, ())) k) (fun w0 => k (.exit 0) (xh0.b (v0, w0, ()))) := by kernel_rfl
theorem u0 {ρ : Type} (lf : Nat) (v0 : List Int) (k : KE ρ) : ∀ (n : Nat) (v1 : Int), it0 lf n (S0 (v0, v1, ())) k = bd (l0 lf v0 n v1) fun y => altK k (o0 v0 y)
 | 0, _ => by rw [l0, bd_none]; rfl
 | n + 1, v1 => by
  rw [t0]; simp only [l0, r0, u0 lf v0 k n, bd_br, bd_bd, bd_some', bd_none, br_t, br_f, o0, altK]
theorem sl (lf : Nat) : SL anns (ls lf) (tb lf) lf (ls lf) := slC (laC (fun _ => by kernel_rfl) (fun _ (x : (List Int) × Int × Unit) k => leq_of (u0 lf x.1 k (lf + 40) x.2.1)) laN) slN
def f (lf : Nat) (a0 : List Int) : Option ((List Int) × Unit) :=
 bd (l0 lf a0 (lf + 40) ((a0.length : Nat) : Int)) fun z2 =>
 bd (cutL a0 none (some z2.1.1)) fun q3 =>
 some (q3, ())
def E (lf : Nat) : Entry := ⟨[(.sl (.int .i64))], [(.sl (.int .i64))], fun x => f lf x.1⟩
theorem ok (lf : Nat) : Ok 238 (E lf) := okL tN (aoC aoN) (sl lf) fun x => by kernel_rfl
end surveyorref01_cut
namespace surveyorref01_made
def anns : FuncId → FA := annsL [(235, ⟨annOf [(0, ⟨kx 34 [0, 5, 6], [⟨.tmp 5, (.int .u8), 5⟩], []⟩, ⟨kx 34 [4, 5], [⟨.tmp 5, (.int .u8), 5⟩], []⟩)], none, []⟩)]
def r0 {ρ : Type} (lf : Nat) (v0 v2 : List Int) (v1 : Int) (v3 : List Int) (K : Int → (List Int) → Option ρ) (E0 : (List Int) → Option ρ) : Option ρ :=
 br (decide (v1 ≥ 0)) (
 bd (idxL v0 v1) fun y3 =>
 bd (apL true 1 v3 [(IntKind.u8.wrap (i64.wrap (48 + y3)))]) fun q4 =>
 K (i64.wrap (v1 - 1)) q4) (
 E0 v3)
def l0 (lf : Nat) (v0 v2 : List Int) : Nat → Int → (List Int) → Option (((List Int) × Unit) × Unit)
 | 0, _, _ => none
 | n + 1, v1, v3 => r0 lf v0 v2 v1 v3 (l0 lf v0 v2 n) (fun w0 => some ((w0, ()), ()))
def sh0 : ShS := ⟨[.s (.sl (.int .i64)), .a 4, .s (.row 2), .s (.int .i64), .a 27], [.row (.int .u8) 5 false, .gone, .row (.int .u8) 5 false]⟩
def S0 (p : (List Int) × Int × (List Int) × (List Int) × Unit) : St := sh0.b p
def xh0 : ShS := ⟨[.a 5, .s (.row 2), .a 28], [.row (.int .u8) 5 false, .gone, .row (.int .u8) 5 false]⟩
def o0 (v0 v2 : List Int) (y : ((List Int) × Unit) × Unit) : Alt := .one (.exit 0) (xh0.b (v2, y.1.1, ()))
def r1 {ρ : Type} (lf : Nat) (v0 : List Int) (v1 : Int) (v2 : List Int) (K : Int → (List Int) → Option ρ) (E0 : (List Int) → Option ρ) : Option ρ :=
 br (decide (v1 ≥ 0)) (
 bd (idxL v0 v1) fun y7 =>
 bd (apL true 1 v2 [(IntKind.u8.wrap (i64.wrap (48 + y7)))]) fun q8 =>
 K (i64.wrap (v1 - 1)) q8) (
 E0 v2)
def l1 (lf : Nat) (v0 : List Int) : Nat → Int → (List Int) → Option (((List Int) × Unit) × Unit)
 | 0, _, _ => none
 | n + 1, v1, v2 => r1 lf v0 v1 v2 (l1 lf v0 n) (fun w0 => some ((w0, ()), ()))
def sh1 : ShS := ⟨[.s (.sl (.int .i64)), .a 4, .s (.row 0), .s (.int .i64), .a 27], [.row (.int .u8) 5 false]⟩
def S1 (p : (List Int) × Int × (List Int) × Unit) : St := sh1.b p
def xh1 : ShS := ⟨[.a 5, .s (.row 0), .a 28], [.row (.int .u8) 5 false]⟩
def o1 (v0 : List Int) (y : ((List Int) × Unit) × Unit) : Alt := .one (.exit 0) (xh1.b (y.1.1, ()))
def tb (lf : Nat) : List (FuncId × Entry) := [(238, surveyorref01_cut.E lf)]
def s13_235 (lf : Nat) : List (Nat × (St → Option LTE)) := [(0, sumE sh0 fun (p : (List Int) × Int × (List Int) × (List Int) × Unit) => ⟨((List Int) × Unit) × Unit, l0 lf p.1 p.2.2.1 (lf + 40) p.2.1 p.2.2.2.1, o0 p.1 p.2.2.1⟩),
 (0, sumE sh1 fun (p : (List Int) × Int × (List Int) × Unit) => ⟨((List Int) × Unit) × Unit, l1 lf p.1 (lf + 40) p.2.1 p.2.2.1, o1 p.1⟩)]
def ls (lf : Nat) : List (Nat × FuncId × Sums) := [(13, 235, sumsL (s13_235 lf))]
def it0 {ρ : Type} (lf n : Nat) (st : St) (k : KE ρ) : Option ρ := itG anns (ls lf) (tb lf) lf 13 235 0 2 (sumsL (s13_235 lf)) n st k
theorem t0 {ρ : Type} (lf n : Nat) (v0 : List Int) (v1 : Int) (v2 v3 : List Int) (k : KE ρ) : it0 lf (n + 1) (S0 (v0, v1, v2, v3, ())) k = r0 lf v0 v2 v1 v3 (fun x0 x1 => it0 lf n (S0 (v0, x0, v2, x1, ())) k) (fun w0 => k (.exit 0) (xh0.b (v2, w0, ()))) := by kernel_rfl
theorem u0 {ρ : Type} (lf : Nat) (v0 v2 : List Int) (k : KE ρ) : ∀ (n : Nat) (v1 : Int) (v3 : List Int), it0 lf n (S0 (v0, v1, v2, v3, ())) k = bd (l0 lf v0 v2 n v1 v3) fun y => altK k (o0 v0 v2 y)
 | 0, _, _ => by rw [l0, bd_none]; rfl
 | n + 1, v1, v3 => by
  rw [t0]; simp only [l0, r0, u0 lf v0 v2 k n, bd_br, bd_bd, bd_some', bd_none, br_t, br_f, o0, altK]
def it1 {ρ : Type} (lf n : Nat) (st : St) (k : KE ρ) : Option ρ := itG anns (ls lf) (tb lf) lf 13 235 0 0 (sumsL (s13_235 lf)) n st k
theorem t1 {ρ : Type} (lf n : Nat) (v0 : List Int) (v1 : Int) (v2 : List Int) (k : KE ρ) : it1 lf (n + 1) (S1 (v0, v1, v2, ())) k = r1 lf v0 v1 v2 (fun x0 x1 => it1 lf n (S1 (v0, x0, x1, ())) k) (fun w0 => k (.exit 0) (xh1.b (w0, ()))) := by kernel_rfl
theorem u1 {ρ : Type} (lf : Nat) (v0 : List Int) (k : KE ρ) : ∀ (n : Nat) (v1 : Int) (v2 : List Int), it1 lf n (S1 (v0, v1, v2, ())) k = bd (l1 lf v0 n v1 v2) fun y => altK k (o1 v0 y)
 | 0, _, _ => by rw [l1, bd_none]; rfl
 | n + 1, v1, v2 => by
  rw [t1]; simp only [l1, r1, u1 lf v0 k n, bd_br, bd_bd, bd_some', bd_none, br_t, br_f, o1, altK]
theorem sl (lf : Nat) : SL anns (ls lf) (tb lf) lf (ls lf) := slC (laC (fun _ => by kernel_rfl) (fun _ (x : (List Int) × Int × (List Int) × (List Int) × Unit) k => leq_of (u0 lf x.1 x.2.2.1 k (lf + 40) x.2.1 x.2.2.2.1)) (laC (fun _ => by kernel_rfl) (fun _ (x : (List Int) × Int × (List Int) × Unit) k => leq_of (u1 lf x.1 k (lf + 40) x.2.1 x.2.2.1)) laN)) slN
def f (lf : Nat) (a0 : List Int) (a1 : Bool) : Option (ByteArray × Unit) :=
 bd (surveyorref01_cut.f lf a0) fun r1 =>
 br (((r1.1.length : Nat) : Int) == 0) (
 some ((⟨#[48]⟩ : ByteArray), ())) (
 br a1 (
 bd (apL true 1 [] [45]) fun q2 =>
 bd (l0 lf r1.1 [45] (lf + 40) (i64.wrap (((r1.1.length : Nat) : Int) - 1)) q2) fun z5 =>
 bd (if true = true then some (bytesS z5.1.1) else none) fun s6 =>
 some (s6, ())) (
 bd (l1 lf r1.1 (lf + 40) (i64.wrap (((r1.1.length : Nat) : Int) - 1)) []) fun z9 =>
 bd (if true = true then some (bytesS z9.1.1) else none) fun s10 =>
 some (s10, ())))
def E (lf : Nat) : Entry := ⟨[(.sl (.int .i64)), .bool], [.str], fun x => f lf x.1 x.2.1⟩
theorem ok (lf : Nat) : Ok 235 (E lf) := okL (tC (surveyorref01_cut.ok lf) tN) (aoC aoN) (sl lf) fun x => by kernel_rfl
end surveyorref01_made
namespace surveyorref01_at
def f (lf : Nat) (a0 : List Int) (a1 : Int) : Option (Int × Unit) :=
 br (decide (a1 < ((a0.length : Nat) : Int))) (
 bd (idxL a0 a1) fun y1 =>
 some (y1, ())) (
 some (0, ()))
def E (lf : Nat) : Entry := ⟨[(.sl (.int .i64)), (.int .i64)], [(.int .i64)], fun x => f lf x.1 x.2.1⟩
theorem ok (lf : Nat) : Ok 290 (E lf) := okT (an := (annsL [])) (lf := lf) tN aoN fun x => by kernel_rfl
end surveyorref01_at
end
end Go.Q
namespace Go.Q
open Go.IntKind (i64)
open Go Go.RowKit
open Go.Rx (br bd sIdx sCat sCut iQuo iRem)
noncomputable section
namespace surveyorref01_Form
def anns : FuncId → FA := annsL [(99, ⟨annOf [(0, ⟨kx 42 [0, 4], [], []⟩, ⟨kx 42 [2], [], []⟩)], none, []⟩)]
def r0 {ρ : Type} (lf : Nat) (v0 : ByteArray) (v1 : Int) (K : Int → Option ρ) (E0 : Option ρ) (E1 : Option ρ) : Option ρ :=
 br (decide (v1 < ((v0.size : Nat) : Int))) (
 bd (sIdx v0 v1) fun r3 =>
 br (decide (((r3.toNat : Nat) : Int) < 48)) (
 E0) (
 bd (sIdx v0 v1) fun r4 =>
 br (decide (((r4.toNat : Nat) : Int) > 57)) (
 E0) (
 K (i64.wrap (v1 + 1))))) (
 E1)
def l0 (lf : Nat) (v0 : ByteArray) : Nat → Int → Option (Bool × (Unit) × (Unit) × Unit)
 | 0, _ => none
 | n + 1, v1 => r0 lf v0 v1 (l0 lf v0 n) (some (true, (()), ((()), ()))) (some (false, (()), ((()), ())))
def sh0 : ShS := ⟨[.s .str, .a 3, .s (.int .i64), .a 37], []⟩
def S0 (p : ByteArray × Int × Unit) : St := sh0.b p
def xh0 : ShS := ⟨[.a 2, .s .bool, .a 39], []⟩
def xh1 : ShS := ⟨[.a 42], []⟩
def o0 (v0 : ByteArray) (y : Bool × (Unit) × (Unit) × Unit) : Alt := .two y.1 (.one .ret (xh0.b (false, ()))) (.one (.exit 0) (xh1.b (())))
def tb (lf : Nat) : List (FuncId × Entry) := []
def s13_99 (lf : Nat) : List (Nat × (St → Option LTE)) := [(0, sumE sh0 fun (p : ByteArray × Int × Unit) => ⟨Bool × (Unit) × (Unit) × Unit, l0 lf p.1 (lf + 40) p.2.1, o0 p.1⟩)]
def ls (lf : Nat) : List (Nat × FuncId × Sums) := [(13, 99, sumsL (s13_99 lf))]
def it0 {ρ : Type} (lf n : Nat) (st : St) (k : KE ρ) : Option ρ := itG anns (ls lf) (tb lf) lf 13 99 0 0 (sumsL (s13_99 lf)) n st k
theorem t0 {ρ : Type} (lf n : Nat) (v0 : ByteArray) (v1 : Int) (k : KE ρ) : it0 lf (n + 1) (S0 (v0, v1, ())) k = r0 lf v0 v1 (fun x0 => it0 lf n (S0 (v0, x0, ())) k) (k .ret (xh0.b (false, ()))) (k (.exit 0) (xh1.b (()))) := by kernel_rfl
theorem u0 {ρ : Type} (lf : Nat) (v0 : ByteArray) (k : KE ρ) : ∀ (n : Nat) (v1 : Int), it0 lf n (S0 (v0, v1, ())) k = bd (l0 lf v0 n v1) fun y => altK k (o0 v0 y)
 | 0, _ => by rw [l0, bd_none]; rfl
 | n + 1, v1 => by
  rw [t0]; simp only [l0, r0, u0 lf v0 k n, bd_br, bd_bd, bd_some', bd_none, br_t, br_f, o0, altK]
theorem sl (lf : Nat) : SL anns (ls lf) (tb lf) lf (ls lf) := slC (laC (fun _ => by kernel_rfl) (fun _ (x : ByteArray × Int × Unit) k => leq_of (u0 lf x.1 k (lf + 40) x.2.1)) laN) slN
def f (lf : Nat) (a0 : ByteArray) : Option (Bool × Unit) :=
 br (a0.toList == (⟨#[48]⟩ : ByteArray).toList) (
 some (true, ())) (
 br (decide (((a0.size : Nat) : Int) > 0)) (
 bd (sIdx a0 0) fun r1 =>
 br (((r1.toNat : Nat) : Int) == 45) (
 br (1 == ((a0.size : Nat) : Int)) (
 some (false, ())) (
 bd (sIdx a0 1) fun r2 =>
 br (((r2.toNat : Nat) : Int) == 48) (
 some (false, ())) (
 bd (l0 lf a0 (lf + 40) 1) fun z5 =>
 br z5.1 (
 some (false, ())) (
 some (true, ()))))) (
 br (0 == ((a0.size : Nat) : Int)) (
 some (false, ())) (
 bd (sIdx a0 0) fun r6 =>
 br (((r6.toNat : Nat) : Int) == 48) (
 some (false, ())) (
 bd (l0 lf a0 (lf + 40) 0) fun z7 =>
 br z7.1 (
 some (false, ())) (
 some (true, ())))))) (
 br (0 == ((a0.size : Nat) : Int)) (
 some (false, ())) (
 bd (sIdx a0 0) fun r8 =>
 br (((r8.toNat : Nat) : Int) == 48) (
 some (false, ())) (
 bd (l0 lf a0 (lf + 40) 0) fun z9 =>
 br z9.1 (
 some (false, ())) (
 some (true, ()))))))
def E (lf : Nat) : Entry := ⟨[.str], [.bool], fun x => f lf x.1⟩
theorem ok (lf : Nat) : Ok 99 (E lf) := okL tN (aoC aoN) (sl lf) fun x => by kernel_rfl
end surveyorref01_Form
namespace surveyorref01_Check
def f (lf : Nat) (a0 : ByteArray) : Option (Int × Unit) :=
 bd (surveyorref01_Form.f lf a0) fun r1 =>
 br (!r1.1) (
 some (3, ())) (
 bd (surveyorref01_Digits.f lf a0) fun r2 =>
 br (decide (r2.1 > 4096)) (
 some (10, ())) (
 some (0, ())))
def E (lf : Nat) : Entry := ⟨[.str], [(.int .i64)], fun x => f lf x.1⟩
theorem ok (lf : Nat) : Ok 41 (E lf) := okT (an := (annsL [])) (lf := lf) (tC (surveyorref01_Form.ok lf) (tC (surveyorref01_Digits.ok lf) tN)) aoN fun x => by kernel_rfl
end surveyorref01_Check
namespace surveyorref01_Int
def f (lf : Nat) (a0 : ByteArray) : Option (Int × Bool × Unit) :=
 bd (surveyorref01_short.f lf a0 17) fun r1 =>
 br (!r1.1) (
 some (0, false, ())) (
 bd (surveyorref01_number.f lf a0) fun r2 =>
 br (decide (r2.1 > 1048576)) (
 some (0, false, ())) (
 br (decide (r2.1 < (-1048576))) (
 some (0, false, ())) (
 some (r2.1, true, ()))))
def E (lf : Nat) : Entry := ⟨[.str], [(.int .i64), .bool], fun x => f lf x.1⟩
theorem ok (lf : Nat) : Ok 106 (E lf) := okT (an := (annsL [])) (lf := lf) (tC (surveyorref01_short.ok lf) (tC (surveyorref01_number.ok lf) tN)) aoN fun x => by kernel_rfl
end surveyorref01_Int
end
end Go.Q
namespace Go.Q
open Go Go.RowKit
open Go.Rx (br bd sIdx sCat sCut iQuo iRem)
noncomputable section
namespace surveyorref06_Number
def f (lf : Nat) (a0 : ByteArray) : Option (Int × Unit) :=
 bd (surveyorref01_Check.f lf a0) fun r1 =>
 br (r1.1 != 0) (
 some (r1.1, ())) (
 bd (surveyorref01_Digits.f lf a0) fun r2 =>
 br (decide (r2.1 > 100)) (
 some (10, ())) (
 some (0, ())))
def E (lf : Nat) : Entry := ⟨[.str], [(.int .i64)], fun x => f lf x.1⟩
theorem ok (lf : Nat) : Ok 179 (E lf) := okT (an := (annsL [])) (lf := lf) (tC (surveyorref01_Check.ok lf) (tC (surveyorref01_Digits.ok lf) tN)) aoN fun x => by kernel_rfl
end surveyorref06_Number
end
end Go.Q
