import Derived.Test.YtfogkflaijhfoaaGreatDoorProg
import Derived.KernelRfl
import Derived.Test.YtfogkflaijhfoaaGreatDoorCBE3
import Derived.Test.YtfogkflaijhfoaaGreatDoorCBG1
import Derived.Test.YtfogkflaijhfoaaGreatDoorCBG2
set_option linter.unusedVariables false
set_option linter.unusedSimpArgs false
set_option linter.unusedSectionVars false
set_option maxRecDepth 100000
namespace Go.Q
open Go.IntKind (i64)
open Go Go.RowKit
open Go.Rx (br bd sIdx sCat sCut iQuo iRem)
noncomputable section
namespace bigint_quotient
def f (lf : Nat) (a0 : TB) (a1 : TB) : Option (TB × TB × Unit) :=
 bd (bigint_divide.f lf a0.2.1 a1.2.1) fun r1 =>
 br (a0.1 == a1.1) (
 some ((false, r1.1, ()), (a1.1, r1.2.1, ()), ())) (
 br (decide (((r1.2.1.length : Nat) : Int) > 0)) (
 bd (bigint_plus.f lf r1.1 [1]) fun r2 =>
 bd (bigint_minus.f lf a1.2.1 r1.2.1) fun r3 =>
 some ((true, r2.1, ()), (a1.1, r3.1, ()), ())) (
 some ((true, r1.1, ()), (a1.1, r1.2.1, ()), ())))
def E (lf : Nat) : Entry := ⟨[yB, yB], [yB, yB], fun x => f lf x.1 x.2.1⟩
theorem ok (lf : Nat) : Ok 337 (E lf) := okT (an := (annsL [])) (lf := lf) (tC (bigint_divide.ok lf) (tC (bigint_plus.ok lf) (tC (bigint_minus.ok lf) tN))) aoN fun x => by kernel_rfl
end bigint_quotient
namespace bigint_divided
def f (lf : Nat) (a0 : ByteArray) (a1 : ByteArray) : Option (ByteArray × ByteArray × Int × Unit) :=
 bd (bigint_pair.f lf a0 a1) fun r1 =>
 br (r1.2.2.1 != 0) (
 some ((⟨#[]⟩ : ByteArray), (⟨#[]⟩ : ByteArray), r1.2.2.1, ())) (
 br (((r1.2.1.2.1.length : Nat) : Int) == 0) (
 some ((⟨#[]⟩ : ByteArray), (⟨#[]⟩ : ByteArray), 19, ())) (
 bd (bigint_quotient.f lf r1.1 r1.2.1) fun r2 =>
 bd (bigint_number_text.f lf r2.1) fun r3 =>
 bd (bigint_number_text.f lf r2.2.1) fun r4 =>
 some (r3.1, r4.1, 0, ())))
def E (lf : Nat) : Entry := ⟨[.str, .str], [.str, .str, (.int .i64)], fun x => f lf x.1 x.2.1⟩
theorem ok (lf : Nat) : Ok 279 (E lf) := okT (an := (annsL [])) (lf := lf) (tC (bigint_pair.ok lf) (tC (bigint_number_text.ok lf) (tC (bigint_quotient.ok lf) tN))) aoN fun x => by kernel_rfl
end bigint_divided
namespace bigint_Rem
def f (lf : Nat) (a0 : ByteArray) (a1 : ByteArray) : Option (ByteArray × Int × Unit) :=
 bd (bigint_divided.f lf a0 a1) fun r1 =>
 some (r1.2.1, r1.2.2.1, ())
def E (lf : Nat) : Entry := ⟨[.str, .str], [.str, (.int .i64)], fun x => f lf x.1 x.2.1⟩
theorem ok (lf : Nat) : Ok 186 (E lf) := okT (an := (annsL [])) (lf := lf) (tC (bigint_divided.ok lf) tN) aoN fun x => by kernel_rfl
end bigint_Rem
namespace bigint_Abs
def f (lf : Nat) (a0 : ByteArray) : Option (ByteArray × Int × Unit) :=
 bd (bigint_Check.f lf a0) fun r1 =>
 br (r1.1 != 0) (
 some ((⟨#[]⟩ : ByteArray), r1.1, ())) (
 bd (strings_TrimPrefix.f lf a0 (⟨#[45]⟩ : ByteArray)) fun r2 =>
 some (r2.1, 0, ()))
def E (lf : Nat) : Entry := ⟨[.str], [.str, (.int .i64)], fun x => f lf x.1⟩
theorem ok (lf : Nat) : Ok 207 (E lf) := okT (an := (annsL [])) (lf := lf) (tC (bigint_Check.ok lf) (tC (strings_TrimPrefix.ok lf) tN)) aoN fun x => by kernel_rfl
end bigint_Abs
namespace bigint_common
def anns : FuncId → FA := annsL [(291, ⟨annOf [(0, ⟨kx 19 [0, 1], [], []⟩, ⟨kx 19 [0, 4], [], []⟩)], none, []⟩)]
def r0 {ρ : Type} (lf : Nat) (v0 v1 : List Int) (K : (List Int) → (List Int) → Option ρ) (E0 : (List Int) → Option ρ) : Option ρ :=
 br (decide (((v1.length : Nat) : Int) > 0)) (
 bd (bigint_divide.f lf v0 v1) fun r1 =>
 K v1 r1.2.1) (
 E0 v0)
def l0 (lf : Nat) : Nat → (List Int) → (List Int) → Option (((List Int) × Unit) × Unit)
 | 0, _, _ => none
 | n + 1, v0, v1 => r0 lf v0 v1 (l0 lf n) (fun w0 => some ((w0, ()), ()))
def sh0 : ShS := ⟨[.s (.sl (.int .i64)), .s (.sl (.int .i64)), .a 17], []⟩
def S0 (p : (List Int) × (List Int) × Unit) : St := sh0.b p
def xh0 : ShS := ⟨[.s (.sl (.int .i64)), .a 18], []⟩
def o0 (y : ((List Int) × Unit) × Unit) : Alt := .one (.exit 0) (xh0.b (y.1.1, ()))
def tb (lf : Nat) : List (FuncId × Entry) := [(340, bigint_divide.E lf)]
def s13_291 (lf : Nat) : List (Nat × (St → Option LTE)) := [(0, sumE sh0 fun (p : (List Int) × (List Int) × Unit) => ⟨((List Int) × Unit) × Unit, l0 lf (lf + 40) p.1 p.2.1, o0⟩)]
def ls (lf : Nat) : List (Nat × FuncId × Sums) := [(13, 291, sumsL (s13_291 lf))]
def it0 {ρ : Type} (lf n : Nat) (st : St) (k : KE ρ) : Option ρ := itG anns (ls lf) (tb lf) lf 13 291 0 0 (sumsL (s13_291 lf)) n st k
theorem t0 {ρ : Type} (lf n : Nat) (v0 v1 : List Int) (k : KE ρ) : it0 lf (n + 1) (S0 (v0, v1, ())) k = r0 lf v0 v1 (fun x0 x1 => it0 lf n (S0 (x0, x1, ())) k) (fun w0 => k (.exit 0) (xh0.b (w0, ()))) := by kernel_rfl
theorem u0 {ρ : Type} (lf : Nat) (k : KE ρ) : ∀ (n : Nat) (v0 v1 : List Int), it0 lf n (S0 (v0, v1, ())) k = bd (l0 lf n v0 v1) fun y => altK k (o0 y)
 | 0, _, _ => by rw [l0, bd_none]; rfl
 | n + 1, v0, v1 => by
  rw [t0]; simp only [l0, r0, u0 lf k n, bd_br, bd_bd, bd_some', bd_none, br_t, br_f, o0, altK]
theorem sl (lf : Nat) : SL anns (ls lf) (tb lf) lf (ls lf) := slC (laC (fun _ => by kernel_rfl) (fun _ (x : (List Int) × (List Int) × Unit) k => leq_of (u0 lf k (lf + 40) x.1 x.2.1)) laN) slN
def f (lf : Nat) (a0 : List Int) (a1 : List Int) : Option ((List Int) × Unit) :=
 bd (l0 lf (lf + 40) a0 a1) fun z2 =>
 some (z2.1.1, ())
def E (lf : Nat) : Entry := ⟨[(.sl (.int .i64)), (.sl (.int .i64))], [(.sl (.int .i64))], fun x => f lf x.1 x.2.1⟩
theorem ok (lf : Nat) : Ok 291 (E lf) := okL (tC (bigint_divide.ok lf) tN) (aoC aoN) (sl lf) fun x => by kernel_rfl
end bigint_common
namespace bigint_Gcd
def f (lf : Nat) (a0 : ByteArray) (a1 : ByteArray) : Option (ByteArray × Int × Unit) :=
 bd (bigint_pair.f lf a0 a1) fun r1 =>
 br (r1.2.2.1 != 0) (
 some ((⟨#[]⟩ : ByteArray), r1.2.2.1, ())) (
 bd (bigint_common.f lf r1.1.2.1 r1.2.1.2.1) fun r2 =>
 bd (bigint_number_text.f lf (false, r2.1, ())) fun r3 =>
 some (r3.1, 0, ()))
def E (lf : Nat) : Entry := ⟨[.str, .str], [.str, (.int .i64)], fun x => f lf x.1 x.2.1⟩
theorem ok (lf : Nat) : Ok 210 (E lf) := okT (an := (annsL [])) (lf := lf) (tC (bigint_pair.ok lf) (tC (bigint_common.ok lf) (tC (bigint_number_text.ok lf) tN))) aoN fun x => by kernel_rfl
end bigint_Gcd
namespace bigint_number_size
def f (lf : Nat) (a0 : TB) : Option (Int × Unit) :=
 br (((a0.2.1.length : Nat) : Int) == 0) (
 some (0, ())) (
 bd (idxL a0.2.1 (i64.wrap (((a0.2.1.length : Nat) : Int) - 1))) fun y1 =>
 bd (B.Itoa.f lf y1) fun r2 =>
 some ((i64.wrap ((i64.wrap ((i64.wrap (((a0.2.1.length : Nat) : Int) - 1)) * 9)) + ((r2.1.size : Nat) : Int))), ()))
def E (lf : Nat) : Entry := ⟨[yB], [(.int .i64)], fun x => f lf x.1⟩
theorem ok (lf : Nat) : Ok 334 (E lf) := okT (an := (annsL [])) (lf := lf) (tC (B.Itoa.ok lf) tN) aoN fun x => by kernel_rfl
end bigint_number_size
namespace bigint_written
def f (lf : Nat) (a0 : TB) : Option (ByteArray × Int × Unit) :=
 bd (bigint_number_size.f lf a0) fun r1 =>
 br (decide (r1.1 > 4096)) (
 some ((⟨#[]⟩ : ByteArray), 10, ())) (
 bd (bigint_number_text.f lf a0) fun r2 =>
 some (r2.1, 0, ()))
def E (lf : Nat) : Entry := ⟨[yB], [.str, (.int .i64)], fun x => f lf x.1⟩
theorem ok (lf : Nat) : Ok 275 (E lf) := okT (an := (annsL [])) (lf := lf) (tC (bigint_number_text.ok lf) (tC (bigint_number_size.ok lf) tN)) aoN fun x => by kernel_rfl
end bigint_written
namespace bigint_Sub
def f (lf : Nat) (a0 : ByteArray) (a1 : ByteArray) : Option (ByteArray × Int × Unit) :=
 bd (bigint_pair.f lf a0 a1) fun r1 =>
 br (r1.2.2.1 != 0) (
 some ((⟨#[]⟩ : ByteArray), r1.2.2.1, ())) (
 bd (bigint_negated.f lf r1.2.1) fun r2 =>
 bd (bigint_sum.f lf r1.1 r2.1) fun r3 =>
 bd (bigint_written.f lf r3.1) fun r4 =>
 some (r4.1, r4.2.1, ()))
def E (lf : Nat) : Entry := ⟨[.str, .str], [.str, (.int .i64)], fun x => f lf x.1 x.2.1⟩
theorem ok (lf : Nat) : Ok 183 (E lf) := okT (an := (annsL [])) (lf := lf) (tC (bigint_pair.ok lf) (tC (bigint_written.ok lf) (tC (bigint_sum.ok lf) (tC (bigint_negated.ok lf) tN)))) aoN fun x => by kernel_rfl
end bigint_Sub
namespace bigint_Add
def f (lf : Nat) (a0 : ByteArray) (a1 : ByteArray) : Option (ByteArray × Int × Unit) :=
 bd (bigint_pair.f lf a0 a1) fun r1 =>
 br (r1.2.2.1 != 0) (
 some ((⟨#[]⟩ : ByteArray), r1.2.2.1, ())) (
 bd (bigint_sum.f lf r1.1 r1.2.1) fun r2 =>
 bd (bigint_written.f lf r2.1) fun r3 =>
 some (r3.1, r3.2.1, ()))
def E (lf : Nat) : Entry := ⟨[.str, .str], [.str, (.int .i64)], fun x => f lf x.1 x.2.1⟩
theorem ok (lf : Nat) : Ok 182 (E lf) := okT (an := (annsL [])) (lf := lf) (tC (bigint_pair.ok lf) (tC (bigint_written.ok lf) (tC (bigint_sum.ok lf) tN))) aoN fun x => by kernel_rfl
end bigint_Add
namespace bigint_product
def f (lf : Nat) (a0 : TB) (a1 : TB) : Option (TB × Unit) :=
 bd (bigint_times.f lf a0.2.1 a1.2.1) fun r1 =>
 some (((a0.1 != a1.1), r1.1, ()), ())
def E (lf : Nat) : Entry := ⟨[yB, yB], [yB], fun x => f lf x.1 x.2.1⟩
theorem ok (lf : Nat) : Ok 278 (E lf) := okT (an := (annsL [])) (lf := lf) (tC (bigint_times.ok lf) tN) aoN fun x => by kernel_rfl
end bigint_product
namespace bigint_Mul
def f (lf : Nat) (a0 : ByteArray) (a1 : ByteArray) : Option (ByteArray × Int × Unit) :=
 bd (bigint_pair.f lf a0 a1) fun r1 =>
 br (r1.2.2.1 != 0) (
 some ((⟨#[]⟩ : ByteArray), r1.2.2.1, ())) (
 bd (bigint_product.f lf r1.1 r1.2.1) fun r2 =>
 bd (bigint_written.f lf r2.1) fun r3 =>
 some (r3.1, r3.2.1, ()))
def E (lf : Nat) : Entry := ⟨[.str, .str], [.str, (.int .i64)], fun x => f lf x.1 x.2.1⟩
theorem ok (lf : Nat) : Ok 184 (E lf) := okT (an := (annsL [])) (lf := lf) (tC (bigint_pair.ok lf) (tC (bigint_written.ok lf) (tC (bigint_product.ok lf) tN))) aoN fun x => by kernel_rfl
end bigint_Mul
end
end Go.Q
namespace Go.Q
open Go.IntKind (i64)
open Go Go.RowKit
open Go.Rx (br bd sIdx sCat sCut iQuo iRem)
noncomputable section
namespace surveyorref01_Whole
def anns : FuncId → FA := annsL [(123, ⟨annOf [(0, ⟨kx 30 [0, 3, 4], [], []⟩, ⟨kx 30 [0, 2, 3], [], []⟩)], none, []⟩)]
def r0 {ρ : Type} (lf : Nat) (v0 : Int) (v1 : ByteArray) (v2 : Int) (K : ByteArray → Int → Option ρ) (E0 : ByteArray → Option ρ) : Option ρ :=
 br (v2 != 0) (
 bd (iRem v2 10) fun r1 =>
 bd (iRem v2 10) fun r2 =>
 bd (sCut (⟨#[48, 49, 50, 51, 52, 53, 54, 55, 56, 57]⟩ : ByteArray) (some (if (i64.wrap (0 - r2)) > r1 then (i64.wrap (0 - r2)) else r1)) (some (i64.wrap ((if (i64.wrap (0 - r2)) > r1 then (i64.wrap (0 - r2)) else r1) + 1)))) fun r3 =>
 bd (sCat r3 v1) fun r4 =>
 bd (iQuo .i64 v2 10) fun r5 =>
 K r4 r5) (
 E0 v1)
def l0 (lf : Nat) (v0 : Int) : Nat → ByteArray → Int → Option ((ByteArray × Unit) × Unit)
 | 0, _, _ => none
 | n + 1, v1, v2 => r0 lf v0 v1 v2 (l0 lf v0 n) (fun w0 => some ((w0, ()), ()))
def sh0 : ShS := ⟨[.s (.int .i64), .a 2, .s .str, .s (.int .i64), .a 25], []⟩
def S0 (p : Int × ByteArray × Int × Unit) : St := sh0.b p
def xh0 : ShS := ⟨[.s (.int .i64), .a 2, .s .str, .a 26], []⟩
def o0 (v0 : Int) (y : (ByteArray × Unit) × Unit) : Alt := .one (.exit 0) (xh0.b (v0, y.1.1, ()))
def tb (lf : Nat) : List (FuncId × Entry) := []
def s13_123 (lf : Nat) : List (Nat × (St → Option LTE)) := [(0, sumE sh0 fun (p : Int × ByteArray × Int × Unit) => ⟨(ByteArray × Unit) × Unit, l0 lf p.1 (lf + 40) p.2.1 p.2.2.1, o0 p.1⟩)]
def ls (lf : Nat) : List (Nat × FuncId × Sums) := [(13, 123, sumsL (s13_123 lf))]
def it0 {ρ : Type} (lf n : Nat) (st : St) (k : KE ρ) : Option ρ := itG anns (ls lf) (tb lf) lf 13 123 0 0 (sumsL (s13_123 lf)) n st k
theorem t0 {ρ : Type} (lf n : Nat) (v0 : Int) (v1 : ByteArray) (v2 : Int) (k : KE ρ) : it0 lf (n + 1) (S0 (v0, v1, v2, ())) k = r0 lf v0 v1 v2 (fun x0 x1 => it0 lf n (S0 (v0, x0, x1, ())) k) (fun w0 => k (.exit 0) (xh0.b (v0, w0, ()))) := by kernel_rfl
theorem u0 {ρ : Type} (lf : Nat) (v0 : Int) (k : KE ρ) : ∀ (n : Nat) (v1 : ByteArray) (v2 : Int), it0 lf n (S0 (v0, v1, v2, ())) k = bd (l0 lf v0 n v1 v2) fun y => altK k (o0 v0 y)
 | 0, _, _ => by rw [l0, bd_none]; rfl
 | n + 1, v1, v2 => by
  rw [t0]; simp only [l0, r0, u0 lf v0 k n, bd_br, bd_bd, bd_some', bd_none, br_t, br_f, o0, altK]
theorem sl (lf : Nat) : SL anns (ls lf) (tb lf) lf (ls lf) := slC (laC (fun _ => by kernel_rfl) (fun _ (x : Int × ByteArray × Int × Unit) k => leq_of (u0 lf x.1 k (lf + 40) x.2.1 x.2.2.1)) laN) slN
def f (lf : Nat) (a0 : Int) : Option (ByteArray × Unit) :=
 br (a0 == 0) (
 some ((⟨#[48]⟩ : ByteArray), ())) (
 bd (l0 lf a0 (lf + 40) (⟨#[]⟩ : ByteArray) a0) fun z6 =>
 br (decide (a0 < 0)) (
 bd (sCat (⟨#[45]⟩ : ByteArray) z6.1.1) fun r7 =>
 some (r7, ())) (
 some (z6.1.1, ())))
def E (lf : Nat) : Entry := ⟨[(.int .i64)], [.str], fun x => f lf x.1⟩
theorem ok (lf : Nat) : Ok 123 (E lf) := okL tN (aoC aoN) (sl lf) fun x => by kernel_rfl
end surveyorref01_Whole
end
end Go.Q
namespace Go.Q
open Go Go.RowKit
open Go.Rx (br bd sIdx sCat sCut iQuo iRem)
noncomputable section
namespace api_Int
def f (lf : Nat) (a0 : ByteArray) (a1 : Int) : Option (ByteArray × Unit) :=
 some (a0, ())
def E (lf : Nat) : Entry := ⟨[.str, (.int .i64)], [.str], fun x => f lf x.1 x.2.1⟩
theorem ok (lf : Nat) : Ok 202 (E lf) := okT (an := (annsL [])) (lf := lf) tN aoN fun x => by kernel_rfl
end api_Int
end
end Go.Q
namespace Go.Q
open Go Go.RowKit
open Go.Rx (br bd sIdx sCat sCut iQuo iRem)
noncomputable section
namespace congruence_long
def f (lf : Nat) (a0 : ByteArray) : Option (Bool × Unit) :=
 bd (strings_TrimPrefix.f lf a0 (⟨#[45]⟩ : ByteArray)) fun r1 =>
 some ((decide (((r1.1.size : Nat) : Int) > 100)), ())
def E (lf : Nat) : Entry := ⟨[.str], [.bool], fun x => f lf x.1⟩
theorem ok (lf : Nat) : Ok 208 (E lf) := okT (an := (annsL [])) (lf := lf) (tC (strings_TrimPrefix.ok lf) tN) aoN fun x => by kernel_rfl
end congruence_long
namespace congruence_number
def f (lf : Nat) (a0 : ByteArray) : Option (Int × Unit) :=
 bd (bigint_Check.f lf a0) fun r1 =>
 br (r1.1 == 10) (
 some (10, ())) (
 br (r1.1 == 0) (
 bd (congruence_long.f lf a0) fun r2 =>
 br r2.1 (
 some (10, ())) (
 br (r1.1 != 0) (
 some (r1.1, ())) (
 some (0, ())))) (
 br (r1.1 != 0) (
 some (r1.1, ())) (
 some (0, ()))))
def E (lf : Nat) : Entry := ⟨[.str], [(.int .i64)], fun x => f lf x.1⟩
theorem ok (lf : Nat) : Ok 289 (E lf) := okT (an := (annsL [])) (lf := lf) (tC (bigint_Check.ok lf) (tC (congruence_long.ok lf) tN)) aoN fun x => by kernel_rfl
end congruence_number
namespace congruence_sure_int
def f (lf : Nat) (a0 : Int) (a1 : Int) : Option (Int × Unit) :=
 some (a0, ())
def E (lf : Nat) : Entry := ⟨[(.int .i64), (.int .i64)], [(.int .i64)], fun x => f lf x.1 x.2.1⟩
theorem ok (lf : Nat) : Ok 339 (E lf) := okT (an := (annsL [])) (lf := lf) tN aoN fun x => by kernel_rfl
end congruence_sure_int
namespace congruence_less
def f (lf : Nat) (a0 : ByteArray) (a1 : ByteArray) : Option (Bool × Unit) :=
 bd (bigint_Compare.f lf a0 a1) fun r1 =>
 bd (congruence_sure_int.f lf r1.1 r1.2.1) fun r2 =>
 some ((decide (r2.1 < 0)), ())
def E (lf : Nat) : Entry := ⟨[.str, .str], [.bool], fun x => f lf x.1 x.2.1⟩
theorem ok (lf : Nat) : Ok 290 (E lf) := okT (an := (annsL [])) (lf := lf) (tC (bigint_Compare.ok lf) (tC (congruence_sure_int.ok lf) tN)) aoN fun x => by kernel_rfl
end congruence_less
namespace congruence_Check
def f (lf : Nat) (a0 : TI) : Option (Int × Unit) :=
 br a0.1 (
 br (!(a0.2.1.toList == (⟨#[]⟩ : ByteArray).toList)) (
 some (3, ())) (
 br (!(a0.2.2.1.toList == (⟨#[]⟩ : ByteArray).toList)) (
 some (3, ())) (
 some (0, ())))) (
 bd (congruence_number.f lf a0.2.1) fun r1 =>
 br (r1.1 != 0) (
 some (r1.1, ())) (
 bd (congruence_number.f lf a0.2.2.1) fun r2 =>
 br (r2.1 != 0) (
 some (r2.1, ())) (
 bd (congruence_less.f lf a0.2.1 (⟨#[48]⟩ : ByteArray)) fun r3 =>
 br r3.1 (
 some (2, ())) (
 br (!(a0.2.1.toList == (⟨#[48]⟩ : ByteArray).toList)) (
 bd (congruence_less.f lf a0.2.2.1 (⟨#[48]⟩ : ByteArray)) fun r4 =>
 br r4.1 (
 some (2, ())) (
 bd (congruence_less.f lf a0.2.2.1 a0.2.1) fun r5 =>
 br (!r5.1) (
 some (2, ())) (
 some (0, ())))) (
 some (0, ()))))))
def E (lf : Nat) : Entry := ⟨[yI], [(.int .i64)], fun x => f lf x.1⟩
theorem ok (lf : Nat) : Ok 201 (E lf) := okT (an := (annsL [])) (lf := lf) (tC (congruence_number.ok lf) (tC (congruence_less.ok lf) tN)) aoN fun x => by kernel_rfl
end congruence_Check
namespace congruence_both
def f (lf : Nat) (a0 : TI) (a1 : TI) : Option (Int × Unit) :=
 bd (congruence_Check.f lf a0) fun r1 =>
 br (r1.1 != 0) (
 some (r1.1, ())) (
 bd (congruence_Check.f lf a1) fun r2 =>
 some (r2.1, ()))
def E (lf : Nat) : Entry := ⟨[yI, yI], [(.int .i64)], fun x => f lf x.1 x.2.1⟩
theorem ok (lf : Nat) : Ok 99 (E lf) := okT (an := (annsL [])) (lf := lf) (tC (congruence_Check.ok lf) tN) aoN fun x => by kernel_rfl
end congruence_both
namespace congruence_Top
def f (lf : Nat)  : Option (TI × Unit) :=
 some ((false, (⟨#[49]⟩ : ByteArray), (⟨#[48]⟩ : ByteArray), ()), ())
def E (lf : Nat) : Entry := ⟨[], [yI], fun x => f lf ⟩
theorem ok (lf : Nat) : Ok 209 (E lf) := okT (an := (annsL [])) (lf := lf) tN aoN fun x => by kernel_rfl
end congruence_Top
namespace congruence_class
def f (lf : Nat) (a0 : ByteArray) (a1 : ByteArray) : Option (TI × Unit) :=
 bd (bigint_Abs.f lf a0) fun r1 =>
 bd (api_Int.f lf r1.1 r1.2.1) fun r2 =>
 br (!(r2.1.toList == (⟨#[48]⟩ : ByteArray).toList)) (
 bd (bigint_Rem.f lf a1 r2.1) fun r3 =>
 bd (api_Int.f lf r3.1 r3.2.1) fun r4 =>
 bd (congruence_long.f lf r2.1) fun r5 =>
 br r5.1 (
 bd (congruence_Top.f lf) fun r6 =>
 some (r6.1, ())) (
 bd (congruence_long.f lf r4.1) fun r7 =>
 br r7.1 (
 bd (congruence_Top.f lf) fun r8 =>
 some (r8.1, ())) (
 some ((false, r2.1, r4.1, ()), ())))) (
 bd (congruence_long.f lf r2.1) fun r9 =>
 br r9.1 (
 bd (congruence_Top.f lf) fun r10 =>
 some (r10.1, ())) (
 bd (congruence_long.f lf a1) fun r11 =>
 br r11.1 (
 bd (congruence_Top.f lf) fun r12 =>
 some (r12.1, ())) (
 some ((false, r2.1, a1, ()), ()))))
def E (lf : Nat) : Entry := ⟨[.str, .str], [yI], fun x => f lf x.1 x.2.1⟩
theorem ok (lf : Nat) : Ok 100 (E lf) := okT (an := (annsL [])) (lf := lf) (tC (bigint_Rem.ok lf) (tC (api_Int.ok lf) (tC (bigint_Abs.ok lf) (tC (congruence_long.ok lf) (tC (congruence_Top.ok lf) tN))))) aoN fun x => by kernel_rfl
end congruence_class
namespace congruence_gcd
def f (lf : Nat) (a0 : ByteArray) (a1 : ByteArray) : Option (ByteArray × Unit) :=
 bd (bigint_Gcd.f lf a0 a1) fun r1 =>
 bd (api_Int.f lf r1.1 r1.2.1) fun r2 =>
 some (r2.1, ())
def E (lf : Nat) : Entry := ⟨[.str, .str], [.str], fun x => f lf x.1 x.2.1⟩
theorem ok (lf : Nat) : Ok 101 (E lf) := okT (an := (annsL [])) (lf := lf) (tC (api_Int.ok lf) (tC (bigint_Gcd.ok lf) tN)) aoN fun x => by kernel_rfl
end congruence_gcd
namespace congruence_sub
def f (lf : Nat) (a0 : ByteArray) (a1 : ByteArray) : Option (ByteArray × Unit) :=
 bd (bigint_Sub.f lf a0 a1) fun r1 =>
 bd (api_Int.f lf r1.1 r1.2.1) fun r2 =>
 some (r2.1, ())
def E (lf : Nat) : Entry := ⟨[.str, .str], [.str], fun x => f lf x.1 x.2.1⟩
theorem ok (lf : Nat) : Ok 102 (E lf) := okT (an := (annsL [])) (lf := lf) (tC (bigint_Sub.ok lf) (tC (api_Int.ok lf) tN)) aoN fun x => by kernel_rfl
end congruence_sub
namespace congruence_Join
def f (lf : Nat) (a0 : TI) (a1 : TI) : Option (TI × Int × Unit) :=
 bd (congruence_both.f lf a0 a1) fun r1 =>
 br (r1.1 != 0) (
 some ((false, (⟨#[]⟩ : ByteArray), (⟨#[]⟩ : ByteArray), ()), r1.1, ())) (
 br a0.1 (
 some (a1, 0, ())) (
 br a1.1 (
 some (a0, 0, ())) (
 bd (congruence_gcd.f lf a0.2.1 a1.2.1) fun r2 =>
 bd (congruence_sub.f lf a0.2.2.1 a1.2.2.1) fun r3 =>
 bd (congruence_gcd.f lf r2.1 r3.1) fun r4 =>
 bd (congruence_class.f lf r4.1 a0.2.2.1) fun r5 =>
 some (r5.1, 0, ()))))
def E (lf : Nat) : Entry := ⟨[yI, yI], [yI, (.int .i64)], fun x => f lf x.1 x.2.1⟩
theorem ok (lf : Nat) : Ok 18 (E lf) := okT (an := (annsL [])) (lf := lf) (tC (congruence_both.ok lf) (tC (congruence_class.ok lf) (tC (congruence_gcd.ok lf) (tC (congruence_sub.ok lf) tN)))) aoN fun x => by kernel_rfl
end congruence_Join
namespace congruence_add
def f (lf : Nat) (a0 : ByteArray) (a1 : ByteArray) : Option (ByteArray × Unit) :=
 bd (bigint_Add.f lf a0 a1) fun r1 =>
 bd (api_Int.f lf r1.1 r1.2.1) fun r2 =>
 some (r2.1, ())
def E (lf : Nat) : Entry := ⟨[.str, .str], [.str], fun x => f lf x.1 x.2.1⟩
theorem ok (lf : Nat) : Ok 125 (E lf) := okT (an := (annsL [])) (lf := lf) (tC (bigint_Add.ok lf) (tC (api_Int.ok lf) tN)) aoN fun x => by kernel_rfl
end congruence_add
namespace congruence_Add_1
def f (lf : Nat) (a0 : TI) (a1 : TI) : Option (TI × Unit) :=
 bd (congruence_gcd.f lf a0.2.1 a1.2.1) fun r1 =>
 bd (congruence_add.f lf a0.2.2.1 a1.2.2.1) fun r2 =>
 bd (congruence_class.f lf r1.1 r2.1) fun r3 =>
 some (r3.1, ())
def E (lf : Nat) : Entry := ⟨[yI, yI], [yI], fun x => f lf x.1 x.2.1⟩
theorem ok (lf : Nat) : Ok 124 (E lf) := okT (an := (annsL [])) (lf := lf) (tC (congruence_class.ok lf) (tC (congruence_gcd.ok lf) (tC (congruence_add.ok lf) tN))) aoN fun x => by kernel_rfl
end congruence_Add_1
namespace congruence_none
def f (lf : Nat)  : Option (TI × Unit) :=
 some ((true, (⟨#[]⟩ : ByteArray), (⟨#[]⟩ : ByteArray), ()), ())
def E (lf : Nat) : Entry := ⟨[], [yI], fun x => f lf ⟩
theorem ok (lf : Nat) : Ok 236 (E lf) := okT (an := (annsL [])) (lf := lf) tN aoN fun x => by kernel_rfl
end congruence_none
namespace congruence_Add
def f (lf : Nat) (a0 : TI) (a1 : TI) : Option (TI × Int × Unit) :=
 bd (congruence_both.f lf a0 a1) fun r1 =>
 br (r1.1 != 0) (
 some ((false, (⟨#[]⟩ : ByteArray), (⟨#[]⟩ : ByteArray), ()), r1.1, ())) (
 br a0.1 (
 bd (congruence_none.f lf) fun r2 =>
 some (r2.1, 0, ())) (
 br a1.1 (
 bd (congruence_none.f lf) fun r3 =>
 some (r3.1, 0, ())) (
 bd (congruence_Add_1.f lf a0 a1) fun r4 =>
 some (r4.1, 0, ()))))
def E (lf : Nat) : Entry := ⟨[yI, yI], [yI, (.int .i64)], fun x => f lf x.1 x.2.1⟩
theorem ok (lf : Nat) : Ok 33 (E lf) := okT (an := (annsL [])) (lf := lf) (tC (congruence_both.ok lf) (tC (congruence_Add_1.ok lf) (tC (congruence_none.ok lf) tN))) aoN fun x => by kernel_rfl
end congruence_Add
namespace congruence_Sub_1
def f (lf : Nat) (a0 : TI) (a1 : TI) : Option (TI × Unit) :=
 bd (congruence_gcd.f lf a0.2.1 a1.2.1) fun r1 =>
 bd (congruence_sub.f lf a0.2.2.1 a1.2.2.1) fun r2 =>
 bd (congruence_class.f lf r1.1 r2.1) fun r3 =>
 some (r3.1, ())
def E (lf : Nat) : Entry := ⟨[yI, yI], [yI], fun x => f lf x.1 x.2.1⟩
theorem ok (lf : Nat) : Ok 127 (E lf) := okT (an := (annsL [])) (lf := lf) (tC (congruence_class.ok lf) (tC (congruence_gcd.ok lf) (tC (congruence_sub.ok lf) tN))) aoN fun x => by kernel_rfl
end congruence_Sub_1
namespace congruence_Sub
def f (lf : Nat) (a0 : TI) (a1 : TI) : Option (TI × Int × Unit) :=
 bd (congruence_both.f lf a0 a1) fun r1 =>
 br (r1.1 != 0) (
 some ((false, (⟨#[]⟩ : ByteArray), (⟨#[]⟩ : ByteArray), ()), r1.1, ())) (
 br a0.1 (
 bd (congruence_none.f lf) fun r2 =>
 some (r2.1, 0, ())) (
 br a1.1 (
 bd (congruence_none.f lf) fun r3 =>
 some (r3.1, 0, ())) (
 bd (congruence_Sub_1.f lf a0 a1) fun r4 =>
 some (r4.1, 0, ()))))
def E (lf : Nat) : Entry := ⟨[yI, yI], [yI, (.int .i64)], fun x => f lf x.1 x.2.1⟩
theorem ok (lf : Nat) : Ok 34 (E lf) := okT (an := (annsL [])) (lf := lf) (tC (congruence_both.ok lf) (tC (congruence_Sub_1.ok lf) (tC (congruence_none.ok lf) tN))) aoN fun x => by kernel_rfl
end congruence_Sub
namespace congruence_mul
def f (lf : Nat) (a0 : ByteArray) (a1 : ByteArray) : Option (ByteArray × Unit) :=
 bd (bigint_Mul.f lf a0 a1) fun r1 =>
 bd (api_Int.f lf r1.1 r1.2.1) fun r2 =>
 some (r2.1, ())
def E (lf : Nat) : Entry := ⟨[.str, .str], [.str], fun x => f lf x.1 x.2.1⟩
theorem ok (lf : Nat) : Ok 129 (E lf) := okT (an := (annsL [])) (lf := lf) (tC (bigint_Mul.ok lf) (tC (api_Int.ok lf) tN)) aoN fun x => by kernel_rfl
end congruence_mul
namespace congruence_Mul_1
def f (lf : Nat) (a0 : TI) (a1 : TI) : Option (TI × Unit) :=
 bd (congruence_mul.f lf a0.2.1 a1.2.1) fun r1 =>
 bd (congruence_mul.f lf a0.2.1 a1.2.2.1) fun r2 =>
 bd (congruence_mul.f lf a1.2.1 a0.2.2.1) fun r3 =>
 bd (congruence_gcd.f lf r2.1 r3.1) fun r4 =>
 bd (congruence_gcd.f lf r1.1 r4.1) fun r5 =>
 bd (congruence_mul.f lf a0.2.2.1 a1.2.2.1) fun r6 =>
 bd (congruence_class.f lf r5.1 r6.1) fun r7 =>
 some (r7.1, ())
def E (lf : Nat) : Entry := ⟨[yI, yI], [yI], fun x => f lf x.1 x.2.1⟩
theorem ok (lf : Nat) : Ok 128 (E lf) := okT (an := (annsL [])) (lf := lf) (tC (congruence_class.ok lf) (tC (congruence_gcd.ok lf) (tC (congruence_mul.ok lf) tN))) aoN fun x => by kernel_rfl
end congruence_Mul_1
namespace congruence_Mul
def f (lf : Nat) (a0 : TI) (a1 : TI) : Option (TI × Int × Unit) :=
 bd (congruence_both.f lf a0 a1) fun r1 =>
 br (r1.1 != 0) (
 some ((false, (⟨#[]⟩ : ByteArray), (⟨#[]⟩ : ByteArray), ()), r1.1, ())) (
 br a0.1 (
 bd (congruence_none.f lf) fun r2 =>
 some (r2.1, 0, ())) (
 br a1.1 (
 bd (congruence_none.f lf) fun r3 =>
 some (r3.1, 0, ())) (
 bd (congruence_Mul_1.f lf a0 a1) fun r4 =>
 some (r4.1, 0, ()))))
def E (lf : Nat) : Entry := ⟨[yI, yI], [yI, (.int .i64)], fun x => f lf x.1 x.2.1⟩
theorem ok (lf : Nat) : Ok 35 (E lf) := okT (an := (annsL [])) (lf := lf) (tC (congruence_both.ok lf) (tC (congruence_Mul_1.ok lf) (tC (congruence_none.ok lf) tN))) aoN fun x => by kernel_rfl
end congruence_Mul
end
end Go.Q
namespace Go.Q
open Go Go.RowKit
open Go.Rx (br bd sIdx sCat sCut iQuo iRem)
noncomputable section
namespace constant_long
def f (lf : Nat) (a0 : ByteArray) : Option (Bool × Unit) :=
 bd (strings_TrimPrefix.f lf a0 (⟨#[45]⟩ : ByteArray)) fun r1 =>
 some ((decide (((r1.1.size : Nat) : Int) > 100)), ())
def E (lf : Nat) : Entry := ⟨[.str], [.bool], fun x => f lf x.1⟩
theorem ok (lf : Nat) : Ok 281 (E lf) := okT (an := (annsL [])) (lf := lf) (tC (strings_TrimPrefix.ok lf) tN) aoN fun x => by kernel_rfl
end constant_long
namespace constant_number
def f (lf : Nat) (a0 : ByteArray) : Option (Int × Unit) :=
 bd (bigint_Check.f lf a0) fun r1 =>
 br (r1.1 != 0) (
 some (r1.1, ())) (
 bd (constant_long.f lf a0) fun r2 =>
 br r2.1 (
 some (10, ())) (
 some (0, ())))
def E (lf : Nat) : Entry := ⟨[.str], [(.int .i64)], fun x => f lf x.1⟩
theorem ok (lf : Nat) : Ok 188 (E lf) := okT (an := (annsL [])) (lf := lf) (tC (bigint_Check.ok lf) (tC (constant_long.ok lf) tN)) aoN fun x => by kernel_rfl
end constant_number
namespace constant_of
def f (lf : Nat) (a0 : ByteArray) : Option (TX × Unit) :=
 bd (constant_long.f lf a0) fun r1 =>
 br r1.1 (
 some ((2, (⟨#[]⟩ : ByteArray), ()), ())) (
 some ((1, a0, ()), ()))
def E (lf : Nat) : Entry := ⟨[.str], [yX], fun x => f lf x.1⟩
theorem ok (lf : Nat) : Ok 189 (E lf) := okT (an := (annsL [])) (lf := lf) (tC (constant_long.ok lf) tN) aoN fun x => by kernel_rfl
end constant_of
namespace constant_Of
def f (lf : Nat) (a0 : ByteArray) : Option (TX × Int × Unit) :=
 bd (constant_number.f lf a0) fun r1 =>
 br (r1.1 != 0) (
 some ((0, (⟨#[]⟩ : ByteArray), ()), r1.1, ())) (
 bd (constant_of.f lf a0) fun r2 =>
 some (r2.1, 0, ()))
def E (lf : Nat) : Entry := ⟨[.str], [yX, (.int .i64)], fun x => f lf x.1⟩
theorem ok (lf : Nat) : Ok 86 (E lf) := okT (an := (annsL [])) (lf := lf) (tC (constant_number.ok lf) (tC (constant_of.ok lf) tN)) aoN fun x => by kernel_rfl
end constant_Of
namespace constant_Check
def f (lf : Nat) (a0 : TX) : Option (Int × Unit) :=
 br (decide (a0.1 < 0)) (
 some (1, ())) (
 br (decide (a0.1 > 2)) (
 some (1, ())) (
 br (a0.1 == 1) (
 bd (constant_number.f lf a0.2.1) fun r1 =>
 some (r1.1, ())) (
 br (!(a0.2.1.toList == (⟨#[]⟩ : ByteArray).toList)) (
 some (3, ())) (
 some (0, ())))))
def E (lf : Nat) : Entry := ⟨[yX], [(.int .i64)], fun x => f lf x.1⟩
theorem ok (lf : Nat) : Ok 198 (E lf) := okT (an := (annsL [])) (lf := lf) (tC (constant_number.ok lf) tN) aoN fun x => by kernel_rfl
end constant_Check
namespace constant_Holds
def f (lf : Nat) (a0 : TX) (a1 : ByteArray) : Option (Bool × Int × Unit) :=
 bd (constant_Check.f lf a0) fun r1 =>
 br (r1.1 != 0) (
 some (false, r1.1, ())) (
 bd (bigint_Check.f lf a1) fun r2 =>
 br (r2.1 != 0) (
 some (false, r2.1, ())) (
 br (a0.1 == 2) (
 some (true, 0, ())) (
 bd (some ((a0.1 == 1) && ((a0.2.1 == a1) && true))) fun r3 =>
 some (r3, 0, ()))))
def E (lf : Nat) : Entry := ⟨[yX, .str], [.bool, (.int .i64)], fun x => f lf x.1 x.2.1⟩
theorem ok (lf : Nat) : Ok 92 (E lf) := okT (an := (annsL [])) (lf := lf) (tC (bigint_Check.ok lf) (tC (constant_Check.ok lf) tN)) aoN fun x => by kernel_rfl
end constant_Holds
end
end Go.Q
namespace Go.Q
open Go Go.RowKit
open Go.Rx (br bd sIdx sCat sCut iQuo iRem)
noncomputable section
namespace sign_Mul
def l : List ((Int × Int × Unit) × (Int × Int × Unit)) := [((4, 1, ()), (1, 0, ()))]
def f (lf : Nat) (a0 : Int) (a1 : Int) : Option (Int × Int × Unit) := pick [(.int .i64), (.int .i64)] l (a0, a1, ())
def E (lf : Nat) : Entry := ⟨[(.int .i64), (.int .i64)], [(.int .i64), (.int .i64)], fun x => f lf x.1 x.2.1⟩
def tb (lf : Nat) : List (FuncId × Entry) := []
abbrev an : FuncId → FA := annsL [(239, ⟨annOf [(0, ⟨kx 24 [3, 5, 6, 7, 15], [], []⟩, ⟨[], [], []⟩), (1, ⟨kx 24 [3, 7, 8], [], []⟩, ⟨[], [], []⟩)], none, []⟩)]
theorem t0 (lf : Nat) : runQ Proofs.Tryz.prog an noLs (lookT (tb lf)) (lf + 40) 14 6 131 [(.int .i64), (.int .i64)] [(.int .i64), (.int .i64)] (4, 1, ()) = some (1, 0, ()) := by kernel_rfl
theorem ok (lf : Nat) : Ok 131 (E lf) := okP (an := an) (tb := tb lf) (lf := lf) tN (aoC aoN) (l := l) (fun _ => rfl) (fun _ => rfl) ⟨t0 lf, trivial⟩
end sign_Mul
end
end Go.Q
namespace Go.Q
open Go Go.RowKit
open Go.Rx (br bd sIdx sCat sCut iQuo iRem)
noncomputable section
namespace value_Apply
def l : List ((Int × TV × TV × Unit) × (TV × Int × Unit)) := [((5, ((false, (⟨#[50]⟩ : ByteArray), (⟨#[54]⟩ : ByteArray), ()), (false, (⟨#[50]⟩ : ByteArray), (⟨#[48]⟩ : ByteArray), ()), ()), ((false, (⟨#[51]⟩ : ByteArray), (⟨#[51]⟩ : ByteArray), ()), (false, (⟨#[48]⟩ : ByteArray), (⟨#[51]⟩ : ByteArray), ()), ()), ()), (((false, (⟨#[54]⟩ : ByteArray), (⟨#[49, 56]⟩ : ByteArray), ()), (false, (⟨#[54]⟩ : ByteArray), (⟨#[48]⟩ : ByteArray), ()), ()), 0, ()))]
def f (lf : Nat) (a0 : Int) (a1 : TV) (a2 : TV) : Option (TV × Int × Unit) := pick [(.int .i64), yV, yV] l (a0, a1, a2, ())
def E (lf : Nat) : Entry := ⟨[(.int .i64), yV, yV], [yV, (.int .i64)], fun x => f lf x.1 x.2.1 x.2.2.1⟩
def tb (lf : Nat) : List (FuncId × Entry) := [(33, congruence_Add.E lf), (34, congruence_Sub.E lf), (35, congruence_Mul.E lf), (99, congruence_both.E lf), (100, congruence_class.E lf), (101, congruence_gcd.E lf), (102, congruence_sub.E lf), (133, bigint_Check.E lf), (182, bigint_Add.E lf), (183, bigint_Sub.E lf), (184, bigint_Mul.E lf), (186, bigint_Rem.E lf), (201, congruence_Check.E lf), (202, api_Int.E lf), (209, congruence_Top.E lf), (236, congruence_none.E lf), (242, strings_TrimPrefix.E lf), (279, bigint_divided.E lf), (280, bigint_Compare.E lf), (290, congruence_less.E lf)]
abbrev an : FuncId → FA := annsL [(170, ⟨annOf [(0, ⟨kx 35 [3, 7], [], []⟩, ⟨[], [], []⟩)], none, []⟩)]
theorem t0 (lf : Nat) : runQ Proofs.Tryz.prog an noLs (lookT (tb lf)) (lf + 40) 14 6 23 [(.int .i64), yV, yV] [yV, (.int .i64)] (5, ((false, (⟨#[50]⟩ : ByteArray), (⟨#[54]⟩ : ByteArray), ()), (false, (⟨#[50]⟩ : ByteArray), (⟨#[48]⟩ : ByteArray), ()), ()), ((false, (⟨#[51]⟩ : ByteArray), (⟨#[51]⟩ : ByteArray), ()), (false, (⟨#[48]⟩ : ByteArray), (⟨#[51]⟩ : ByteArray), ()), ()), ()) = some (((false, (⟨#[54]⟩ : ByteArray), (⟨#[49, 56]⟩ : ByteArray), ()), (false, (⟨#[54]⟩ : ByteArray), (⟨#[48]⟩ : ByteArray), ()), ()), 0, ()) := by kernel_rfl
theorem ok (lf : Nat) : Ok 23 (E lf) := okP (an := an) (tb := tb lf) (lf := lf) (tC (congruence_Add.ok lf) (tC (congruence_Sub.ok lf) (tC (congruence_Mul.ok lf) (tC (congruence_both.ok lf) (tC (congruence_class.ok lf) (tC (congruence_gcd.ok lf) (tC (congruence_sub.ok lf) (tC (bigint_Check.ok lf) (tC (bigint_Add.ok lf) (tC (bigint_Sub.ok lf) (tC (bigint_Mul.ok lf) (tC (bigint_Rem.ok lf) (tC (congruence_Check.ok lf) (tC (api_Int.ok lf) (tC (congruence_Top.ok lf) (tC (congruence_none.ok lf) (tC (strings_TrimPrefix.ok lf) (tC (bigint_divided.ok lf) (tC (bigint_Compare.ok lf) (tC (congruence_less.ok lf) tN)))))))))))))))))))) (aoC aoN) (l := l) (fun _ => rfl) (fun _ => rfl) ⟨t0 lf, trivial⟩
end value_Apply
namespace value_Make
def l : List ((TI × TI × Unit) × (TV × Int × Unit)) := [(((false, (⟨#[50]⟩ : ByteArray), (⟨#[54]⟩ : ByteArray), ()), (false, (⟨#[50]⟩ : ByteArray), (⟨#[48]⟩ : ByteArray), ()), ()), (((false, (⟨#[50]⟩ : ByteArray), (⟨#[54]⟩ : ByteArray), ()), (false, (⟨#[50]⟩ : ByteArray), (⟨#[48]⟩ : ByteArray), ()), ()), 0, ()))]
def f (lf : Nat) (a0 : TI) (a1 : TI) : Option (TV × Int × Unit) := pick [yI, yI] l (a0, a1, ())
def E (lf : Nat) : Entry := ⟨[yI, yI], [yV, (.int .i64)], fun x => f lf x.1 x.2.1⟩
def tb (lf : Nat) : List (FuncId × Entry) := [(102, congruence_sub.E lf), (133, bigint_Check.E lf), (182, bigint_Add.E lf), (183, bigint_Sub.E lf), (186, bigint_Rem.E lf), (201, congruence_Check.E lf), (242, strings_TrimPrefix.E lf), (280, bigint_Compare.E lf), (290, congruence_less.E lf)]
abbrev an : FuncId → FA := annsL []
theorem t0 (lf : Nat) : runQ Proofs.Tryz.prog an noLs (lookT (tb lf)) (lf + 40) 14 6 39 [yI, yI] [yV, (.int .i64)] ((false, (⟨#[50]⟩ : ByteArray), (⟨#[54]⟩ : ByteArray), ()), (false, (⟨#[50]⟩ : ByteArray), (⟨#[48]⟩ : ByteArray), ()), ()) = some (((false, (⟨#[50]⟩ : ByteArray), (⟨#[54]⟩ : ByteArray), ()), (false, (⟨#[50]⟩ : ByteArray), (⟨#[48]⟩ : ByteArray), ()), ()), 0, ()) := by kernel_rfl
theorem ok (lf : Nat) : Ok 39 (E lf) := okP (an := an) (tb := tb lf) (lf := lf) (tC (congruence_sub.ok lf) (tC (bigint_Check.ok lf) (tC (bigint_Add.ok lf) (tC (bigint_Sub.ok lf) (tC (bigint_Rem.ok lf) (tC (congruence_Check.ok lf) (tC (strings_TrimPrefix.ok lf) (tC (bigint_Compare.ok lf) (tC (congruence_less.ok lf) tN))))))))) aoN (l := l) (fun _ => rfl) (fun _ => rfl) ⟨t0 lf, trivial⟩
end value_Make
namespace value_Of
def l : List ((ByteArray × Unit) × (TV × Int × Unit)) := [(((⟨#[51]⟩ : ByteArray), ()), (((false, (⟨#[51]⟩ : ByteArray), (⟨#[51]⟩ : ByteArray), ()), (false, (⟨#[48]⟩ : ByteArray), (⟨#[51]⟩ : ByteArray), ()), ()), 0, ()))]
def f (lf : Nat) (a0 : ByteArray) : Option (TV × Int × Unit) := pick [.str] l (a0, ())
def E (lf : Nat) : Entry := ⟨[.str], [yV, (.int .i64)], fun x => f lf x.1⟩
def tb (lf : Nat) : List (FuncId × Entry) := [(133, bigint_Check.E lf), (242, strings_TrimPrefix.E lf)]
abbrev an : FuncId → FA := annsL []
theorem t0 (lf : Nat) : runQ Proofs.Tryz.prog an noLs (lookT (tb lf)) (lf + 40) 14 6 41 [.str] [yV, (.int .i64)] ((⟨#[51]⟩ : ByteArray), ()) = some (((false, (⟨#[51]⟩ : ByteArray), (⟨#[51]⟩ : ByteArray), ()), (false, (⟨#[48]⟩ : ByteArray), (⟨#[51]⟩ : ByteArray), ()), ()), 0, ()) := by kernel_rfl
theorem ok (lf : Nat) : Ok 41 (E lf) := okP (an := an) (tb := tb lf) (lf := lf) (tC (bigint_Check.ok lf) (tC (strings_TrimPrefix.ok lf) tN)) aoN (l := l) (fun _ => rfl) (fun _ => rfl) ⟨t0 lf, trivial⟩
end value_Of
end
end Go.Q
