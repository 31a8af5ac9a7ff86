import Derived.Test.YtlikbeopppeojaaGreatDoorProg
import Derived.KernelRfl
import Derived.Test.YtlikbeopppeojaaGreatDoorEHE3
import Derived.Test.YtlikbeopppeojaaGreatDoorEHG1
import Derived.Test.YtlikbeopppeojaaGreatDoorEHG2
set_option linter.unusedVariables false
set_option linter.unusedSimpArgs false
set_option linter.unusedSectionVars false
set_option maxRecDepth 100000
namespace Go.Q
open Go Go.RowKit
open Go.Rx (br bd sIdx sCat sCut iQuo iRem iShl)
noncomputable section
namespace bigint_quotient
def f (lf : Nat) (a0 : TB) (a1 : TB) : Option (TB × TB × Unit) :=
 bd (bigint_divide.f lf a0.2.1 a1.2.1) fun r1 =>
 br (a0.1 == a1.1) (
 some ((false, r1.1, ()), (a1.1, r1.2.1, ()), ())) (
 br (decide (((r1.2.1.length : Nat) : Int) > 0)) (
 bd (bigint_plus.f lf r1.1 [1]) fun r2 =>
 bd (bigint_minus.f lf a1.2.1 r1.2.1) fun r3 =>
 some ((true, r2.1, ()), (a1.1, r3.1, ()), ())) (
 some ((true, r1.1, ()), (a1.1, r1.2.1, ()), ())))
def E (lf : Nat) : Entry := ⟨[yB, yB], [yB, yB], fun x => f lf x.1 x.2.1⟩
theorem ok (lf : Nat) : Ok 230 (E lf) := okT (an := (annsL [])) (lf := lf) (tC (bigint_divide.ok lf) (tC (bigint_plus.ok lf) (tC (bigint_minus.ok lf) tN))) aoN fun x => by kernel_rfl
end bigint_quotient
namespace bigint_divided
def f (lf : Nat) (a0 : ByteArray) (a1 : ByteArray) : Option (ByteArray × ByteArray × Int × Unit) :=
 bd (bigint_pair.f lf a0 a1) fun r1 =>
 br (r1.2.2.1 != 0) (
 some ((⟨#[]⟩ : ByteArray), (⟨#[]⟩ : ByteArray), r1.2.2.1, ())) (
 br (((r1.2.1.2.1.length : Nat) : Int) == 0) (
 some ((⟨#[]⟩ : ByteArray), (⟨#[]⟩ : ByteArray), 19, ())) (
 bd (bigint_quotient.f lf r1.1 r1.2.1) fun r2 =>
 bd (bigint_number_text.f lf r2.1) fun r3 =>
 bd (bigint_number_text.f lf r2.2.1) fun r4 =>
 some (r3.1, r4.1, 0, ())))
def E (lf : Nat) : Entry := ⟨[.str, .str], [.str, .str, (.int .i64)], fun x => f lf x.1 x.2.1⟩
theorem ok (lf : Nat) : Ok 155 (E lf) := okT (an := (annsL [])) (lf := lf) (tC (bigint_pair.ok lf) (tC (bigint_quotient.ok lf) (tC (bigint_number_text.ok lf) tN))) aoN fun x => by kernel_rfl
end bigint_divided
namespace bigint_Rem
def f (lf : Nat) (a0 : ByteArray) (a1 : ByteArray) : Option (ByteArray × Int × Unit) :=
 bd (bigint_divided.f lf a0 a1) fun r1 =>
 some (r1.2.1, r1.2.2.1, ())
def E (lf : Nat) : Entry := ⟨[.str, .str], [.str, (.int .i64)], fun x => f lf x.1 x.2.1⟩
theorem ok (lf : Nat) : Ok 96 (E lf) := okT (an := (annsL [])) (lf := lf) (tC (bigint_divided.ok lf) tN) aoN fun x => by kernel_rfl
end bigint_Rem
namespace bigint_Sub
def f (lf : Nat) (a0 : ByteArray) (a1 : ByteArray) : Option (ByteArray × Int × Unit) :=
 bd (bigint_pair.f lf a0 a1) fun r1 =>
 br (r1.2.2.1 != 0) (
 some ((⟨#[]⟩ : ByteArray), r1.2.2.1, ())) (
 bd (bigint_negated.f lf r1.2.1) fun r2 =>
 bd (bigint_sum.f lf r1.1 r2.1) fun r3 =>
 bd (bigint_written.f lf r3.1) fun r4 =>
 some (r4.1, r4.2.1, ()))
def E (lf : Nat) : Entry := ⟨[.str, .str], [.str, (.int .i64)], fun x => f lf x.1 x.2.1⟩
theorem ok (lf : Nat) : Ok 213 (E lf) := okT (an := (annsL [])) (lf := lf) (tC (bigint_pair.ok lf) (tC (bigint_sum.ok lf) (tC (bigint_negated.ok lf) (tC (bigint_written.ok lf) tN)))) aoN fun x => by kernel_rfl
end bigint_Sub
namespace bigint_Abs
def f (lf : Nat) (a0 : ByteArray) : Option (ByteArray × Int × Unit) :=
 bd (bigint_Check.f lf a0) fun r1 =>
 br (r1.1 != 0) (
 some ((⟨#[]⟩ : ByteArray), r1.1, ())) (
 bd (strings_TrimPrefix.f lf a0 (⟨#[45]⟩ : ByteArray)) fun r2 =>
 some (r2.1, 0, ()))
def E (lf : Nat) : Entry := ⟨[.str], [.str, (.int .i64)], fun x => f lf x.1⟩
theorem ok (lf : Nat) : Ok 257 (E lf) := okT (an := (annsL [])) (lf := lf) (tC (bigint_Check.ok lf) (tC (strings_TrimPrefix.ok lf) tN)) aoN fun x => by kernel_rfl
end bigint_Abs
namespace bigint_common
def anns : FuncId → FA := annsL [(281, ⟨annOf [(0, ⟨kx 19 [0, 1], [], []⟩, ⟨kx 19 [0, 4], [], []⟩)], none, []⟩)]
def r0 {ρ : Type} (lf : Nat) (v0 v1 : List Int) (K : (List Int) → (List Int) → Option ρ) (E0 : (List Int) → Option ρ) : Option ρ :=
 br (decide (((v1.length : Nat) : Int) > 0)) (
 bd (bigint_divide.f lf v0 v1) fun r1 =>
 K v1 r1.2.1) (
 E0 v0)
def l0 (lf : Nat) : Nat → (List Int) → (List Int) → Option (((List Int) × Unit) × Unit)
 | 0, _, _ => none
 | n + 1, v0, v1 => r0 lf v0 v1 (l0 lf n) (fun w0 => some ((w0, ()), ()))
def sh0 : ShS := ⟨[.s (.sl (.int .i64)), .s (.sl (.int .i64)), .a 17], []⟩
def S0 (p : (List Int) × (List Int) × Unit) : St := sh0.b p
def xh0 : ShS := ⟨[.s (.sl (.int .i64)), .a 18], []⟩
def o0 (y : ((List Int) × Unit) × Unit) : Alt := .one (.exit 0) (xh0.b (y.1.1, ()))
def tb (lf : Nat) : List (FuncId × Entry) := [(280, bigint_divide.E lf)]
def s13_281 (lf : Nat) : List (Nat × (St → Option LTE)) := [(0, sumE sh0 fun (p : (List Int) × (List Int) × Unit) => ⟨((List Int) × Unit) × Unit, l0 lf (lf + 40) p.1 p.2.1, o0⟩)]
def ls (lf : Nat) : List (Nat × FuncId × Sums) := [(13, 281, sumsL (s13_281 lf))]
def it0 {ρ : Type} (lf n : Nat) (st : St) (k : KE ρ) : Option ρ := itG anns (ls lf) (tb lf) lf 13 281 0 0 (sumsL (s13_281 lf)) n st k
theorem t0 {ρ : Type} (lf n : Nat) (v0 v1 : List Int) (k : KE ρ) : it0 lf (n + 1) (S0 (v0, v1, ())) k = r0 lf v0 v1 (fun x0 x1 => it0 lf n (S0 (x0, x1, ())) k) (fun w0 => k (.exit 0) (xh0.b (w0, ()))) := by kernel_rfl
theorem u0 {ρ : Type} (lf : Nat) (k : KE ρ) : ∀ (n : Nat) (v0 v1 : List Int), it0 lf n (S0 (v0, v1, ())) k = bd (l0 lf n v0 v1) fun y => altK k (o0 y)
 | 0, _, _ => by rw [l0, bd_none]; rfl
 | n + 1, v0, v1 => by
  rw [t0]; simp only [l0, r0, u0 lf k n, bd_br, bd_bd, bd_some', bd_none, br_t, br_f, o0, altK]
theorem sl (lf : Nat) : SL anns (ls lf) (tb lf) lf (ls lf) := slC (laC (fun _ => by kernel_rfl) (fun _ (x : (List Int) × (List Int) × Unit) k => leq_of (u0 lf k (lf + 40) x.1 x.2.1)) laN) slN
def f (lf : Nat) (a0 : List Int) (a1 : List Int) : Option ((List Int) × Unit) :=
 bd (l0 lf (lf + 40) a0 a1) fun z2 =>
 some (z2.1.1, ())
def E (lf : Nat) : Entry := ⟨[(.sl (.int .i64)), (.sl (.int .i64))], [(.sl (.int .i64))], fun x => f lf x.1 x.2.1⟩
theorem ok (lf : Nat) : Ok 281 (E lf) := okL (tC (bigint_divide.ok lf) tN) (aoC aoN) (sl lf) fun x => by kernel_rfl
end bigint_common
namespace bigint_Gcd
def f (lf : Nat) (a0 : ByteArray) (a1 : ByteArray) : Option (ByteArray × Int × Unit) :=
 bd (bigint_pair.f lf a0 a1) fun r1 =>
 br (r1.2.2.1 != 0) (
 some ((⟨#[]⟩ : ByteArray), r1.2.2.1, ())) (
 bd (bigint_common.f lf r1.1.2.1 r1.2.1.2.1) fun r2 =>
 bd (bigint_number_text.f lf (false, r2.1, ())) fun r3 =>
 some (r3.1, 0, ()))
def E (lf : Nat) : Entry := ⟨[.str, .str], [.str, (.int .i64)], fun x => f lf x.1 x.2.1⟩
theorem ok (lf : Nat) : Ok 259 (E lf) := okT (an := (annsL [])) (lf := lf) (tC (bigint_pair.ok lf) (tC (bigint_number_text.ok lf) (tC (bigint_common.ok lf) tN))) aoN fun x => by kernel_rfl
end bigint_Gcd
namespace bigint_product
def f (lf : Nat) (a0 : TB) (a1 : TB) : Option (TB × Unit) :=
 bd (bigint_times.f lf a0.2.1 a1.2.1) fun r1 =>
 some (((a0.1 != a1.1), r1.1, ()), ())
def E (lf : Nat) : Entry := ⟨[yB, yB], [yB], fun x => f lf x.1 x.2.1⟩
theorem ok (lf : Nat) : Ok 278 (E lf) := okT (an := (annsL [])) (lf := lf) (tC (bigint_times.ok lf) tN) aoN fun x => by kernel_rfl
end bigint_product
namespace bigint_Mul
def f (lf : Nat) (a0 : ByteArray) (a1 : ByteArray) : Option (ByteArray × Int × Unit) :=
 bd (bigint_pair.f lf a0 a1) fun r1 =>
 br (r1.2.2.1 != 0) (
 some ((⟨#[]⟩ : ByteArray), r1.2.2.1, ())) (
 bd (bigint_product.f lf r1.1 r1.2.1) fun r2 =>
 bd (bigint_written.f lf r2.1) fun r3 =>
 some (r3.1, r3.2.1, ()))
def E (lf : Nat) : Entry := ⟨[.str, .str], [.str, (.int .i64)], fun x => f lf x.1 x.2.1⟩
theorem ok (lf : Nat) : Ok 212 (E lf) := okT (an := (annsL [])) (lf := lf) (tC (bigint_pair.ok lf) (tC (bigint_written.ok lf) (tC (bigint_product.ok lf) tN))) aoN fun x => by kernel_rfl
end bigint_Mul
namespace bigint_Quo
def f (lf : Nat) (a0 : ByteArray) (a1 : ByteArray) : Option (ByteArray × Int × Unit) :=
 bd (bigint_divided.f lf a0 a1) fun r1 =>
 some (r1.1, r1.2.2.1, ())
def E (lf : Nat) : Entry := ⟨[.str, .str], [.str, (.int .i64)], fun x => f lf x.1 x.2.1⟩
theorem ok (lf : Nat) : Ok 210 (E lf) := okT (an := (annsL [])) (lf := lf) (tC (bigint_divided.ok lf) tN) aoN fun x => by kernel_rfl
end bigint_Quo
namespace bigint_Of
def f (lf : Nat) (a0 : Int) : Option (ByteArray × Unit) :=
 bd (B.Itoa.f lf a0) fun r1 =>
 some (r1.1, ())
def E (lf : Nat) : Entry := ⟨[(.int .i64)], [.str], fun x => f lf x.1⟩
theorem ok (lf : Nat) : Ok 279 (E lf) := okT (an := (annsL [])) (lf := lf) (tC (B.Itoa.ok lf) tN) aoN fun x => by kernel_rfl
end bigint_Of
end
end Go.Q
namespace Go.Q
open Go Go.RowKit
open Go.Rx (br bd sIdx sCat sCut iQuo iRem iShl)
noncomputable section
namespace bigint_Bezout
def anns : FuncId → FA := annsL [(221, ⟨annOf [(0, ⟨kx 110 [8, 9, 12, 13, 14, 15], [], []⟩, ⟨kx 110 [4, 5, 6, 7, 8, 9, 12, 14], [], []⟩)], none, []⟩)]
def r2 {ρ : Type} (lf : Nat) (v0 : Bool) (v1 : List Int) (v2 : Bool) (v3 v8 : List Int) (v4 : Bool) (v5 : List Int) (v6 : Bool) (v7 : List Int) (v9 : Bool) (v10 : List Int) (v11 : Bool) (v12 : List Int) (K : Bool → (List Int) → Bool → (List Int) → Bool → (List Int) → Bool → (List Int) → Option ρ) (E0 : Bool → (List Int) → Bool → (List Int) → Bool → (List Int) → Bool → (List Int) → (List Int) → Bool → (List Int) → Bool → (List Int) → Option ρ) : Option ρ :=
 br (decide (((v7.length : Nat) : Int) > 0)) (
 bd (bigint_quotient.f lf (v4, v5, ()) (v6, v7, ())) fun r13 =>
 bd (bigint_product.f lf r13.1 (v11, v12, ())) fun r14 =>
 bd (bigint_negated.f lf r14.1) fun r15 =>
 bd (bigint_sum.f lf (v9, v10, ()) r15.1) fun r16 =>
 K v6 v7 r13.2.1.1 r13.2.1.2.1 v11 v12 r16.1.1 r16.1.2.1) (
 E0 v0 v1 v2 v3 v4 v5 v6 v7 v8 v9 v10 v11 v12)
def l2 (lf : Nat) (v0 : Bool) (v1 : List Int) (v2 : Bool) (v3 v8 : List Int) : Nat → Bool → (List Int) → Bool → (List Int) → Bool → (List Int) → Bool → (List Int) → Option ((Bool × (List Int) × Bool × (List Int) × Bool × (List Int) × Bool × (List Int) × (List Int) × Bool × (List Int) × Bool × (List Int) × Unit) × Unit)
 | 0, _, _, _, _, _, _, _, _ => none
 | n + 1, v4, v5, v6, v7, v9, v10, v11, v12 => r2 lf v0 v1 v2 v3 v8 v4 v5 v6 v7 v9 v10 v11 v12 (l2 lf v0 v1 v2 v3 v8 n) (fun w0 w1 w2 w3 w4 w5 w6 w7 w8 w9 w10 w11 w12 => some ((w0, w1, w2, w3, w4, w5, w6, w7, w8, w9, w10, w11, w12, ()), ()))
def sh2 : ShS := ⟨[.a 8, .s (.ptr 0 0), .s (.ptr 1 0), .a 2, .s (.ptr 2 0), .s (.ptr 3 0), .s (.ptr 5 0), .s (.ptr 6 0), .a 94], [.cells [.s .bool, .s (.sl (.int .i64))] 229, .cells [.s .bool, .s (.sl (.int .i64))] 229, .cells [.s .bool, .s (.sl (.int .i64))] 229, .cells [.s .bool, .s (.sl (.int .i64))] 229, .row (.int .i64) 3 true, .cells [.s .bool, .s (.sl (.int .i64))] 229, .cells [.s .bool, .s (.sl (.int .i64))] 229]⟩
def S2 (p : Bool × (List Int) × Bool × (List Int) × Bool × (List Int) × Bool × (List Int) × (List Int) × Bool × (List Int) × Bool × (List Int) × Unit) : St := sh2.b p
def xh0 : ShS := ⟨[.a 8, .s (.ptr 0 0), .s (.ptr 1 0), .a 2, .s (.ptr 2 0), .a 1, .s (.ptr 5 0), .a 95], [.cells [.s .bool, .s (.sl (.int .i64))] 229, .cells [.s .bool, .s (.sl (.int .i64))] 229, .cells [.s .bool, .s (.sl (.int .i64))] 229, .cells [.s .bool, .s (.sl (.int .i64))] 229, .row (.int .i64) 3 true, .cells [.s .bool, .s (.sl (.int .i64))] 229, .cells [.s .bool, .s (.sl (.int .i64))] 229]⟩
def o2 (v0 : Bool) (v1 : List Int) (v2 : Bool) (v3 v8 : List Int) (y : (Bool × (List Int) × Bool × (List Int) × Bool × (List Int) × Bool × (List Int) × (List Int) × Bool × (List Int) × Bool × (List Int) × Unit) × Unit) : Alt := .one (.exit 0) (xh0.b (y.1.1, y.1.2.1, y.1.2.2.1, y.1.2.2.2.1, y.1.2.2.2.2.1, y.1.2.2.2.2.2.1, y.1.2.2.2.2.2.2.1, y.1.2.2.2.2.2.2.2.1, y.1.2.2.2.2.2.2.2.2.1, y.1.2.2.2.2.2.2.2.2.2.1, y.1.2.2.2.2.2.2.2.2.2.2.1, y.1.2.2.2.2.2.2.2.2.2.2.2.1, y.1.2.2.2.2.2.2.2.2.2.2.2.2.1, ()))
def r1 {ρ : Type} (lf : Nat) (v0 : Bool) (v1 : List Int) (v2 : Bool) (v3 : List Int) (v4 : Bool) (v5 : List Int) (v6 : Bool) (v7 v8 : List Int) (v9 v10 : Bool) (v11 : List Int) (K2 : Bool → (List Int) → Bool → (List Int) → Bool → (List Int) → Bool → (List Int) → (List Int) → Bool → (List Int) → Bool → (List Int) → Option ρ) (E0 : Bool → (List Int) → Bool → (List Int) → Bool → (List Int) → Bool → (List Int) → (List Int) → Bool → Bool → (List Int) → Option ρ) : Option ρ :=
 br (decide (((v7.length : Nat) : Int) > 0)) (
 bd (bigint_quotient.f lf (v4, v5, ()) (v6, v7, ())) fun r9 =>
 bd (bigint_product.f lf r9.1 (v10, v11, ())) fun r10 =>
 bd (bigint_negated.f lf r10.1) fun r11 =>
 bd (bigint_sum.f lf (v9, [], ()) r11.1) fun r12 =>
 K2 v0 v1 v2 v3 v6 v7 r9.2.1.1 r9.2.1.2.1 v8 v10 v11 r12.1.1 r12.1.2.1) (
 E0 v0 v1 v2 v3 v4 v5 v6 v7 v8 v9 v10 v11)
def l1 (lf : Nat) (v0 : Bool) (v1 : List Int) (v2 : Bool) (v3 : List Int) (v4 : Bool) (v5 : List Int) (v6 : Bool) (v7 v8 : List Int) (v9 v10 : Bool) (v11 : List Int) : Nat → Option (Bool × (Bool × (List Int) × Bool × (List Int) × Bool × (List Int) × Bool × (List Int) × (List Int) × Bool × Bool × (List Int) × Unit) × (Bool × (List Int) × Bool × (List Int) × Bool × (List Int) × Bool × (List Int) × (List Int) × Bool × (List Int) × Bool × (List Int) × Unit) × Unit)
 | 0 => none
 | n + 1 => r1 lf v0 v1 v2 v3 v4 v5 v6 v7 v8 v9 v10 v11 (fun x0 x1 x2 x3 x4 x5 x6 x7 x8 x9 x10 x11 x12 => bd (l2 lf x0 x1 x2 x3 x8 n x4 x5 x6 x7 x9 x10 x11 x12) fun z17 => some (false, (false, [], false, [], false, [], false, [], [], false, false, [], ()), ((z17.1.1, z17.1.2.1, z17.1.2.2.1, z17.1.2.2.2.1, z17.1.2.2.2.2.1, z17.1.2.2.2.2.2.1, z17.1.2.2.2.2.2.2.1, z17.1.2.2.2.2.2.2.2.1, z17.1.2.2.2.2.2.2.2.2.1, z17.1.2.2.2.2.2.2.2.2.2.1, z17.1.2.2.2.2.2.2.2.2.2.2.1, z17.1.2.2.2.2.2.2.2.2.2.2.2.1, z17.1.2.2.2.2.2.2.2.2.2.2.2.2.1, ()), ()))) (fun w0 w1 w2 w3 w4 w5 w6 w7 w8 w9 w10 w11 => some (true, (w0, w1, w2, w3, w4, w5, w6, w7, w8, w9, w10, w11, ()), ((false, [], false, [], false, [], false, [], [], false, [], false, [], ()), ())))
def sh1 : ShS := ⟨[.a 8, .s (.ptr 0 0), .s (.ptr 1 0), .a 2, .s (.ptr 2 0), .s (.ptr 3 0), .s (.ptr 5 0), .s (.ptr 6 0), .a 94], [.cells [.s .bool, .s (.sl (.int .i64))] 229, .cells [.s .bool, .s (.sl (.int .i64))] 229, .cells [.s .bool, .s (.sl (.int .i64))] 229, .cells [.s .bool, .s (.sl (.int .i64))] 229, .row (.int .i64) 3 true, .cells [.s .bool, .s .nil] 229, .cells [.s .bool, .s (.sl (.int .i64))] 229]⟩
def S1 (p : Bool × (List Int) × Bool × (List Int) × Bool × (List Int) × Bool × (List Int) × (List Int) × Bool × Bool × (List Int) × Unit) : St := sh1.b p
def xh1 : ShS := ⟨[.a 8, .s (.ptr 0 0), .s (.ptr 1 0), .a 2, .s (.ptr 2 0), .a 1, .s (.ptr 5 0), .a 95], [.cells [.s .bool, .s (.sl (.int .i64))] 229, .cells [.s .bool, .s (.sl (.int .i64))] 229, .cells [.s .bool, .s (.sl (.int .i64))] 229, .cells [.s .bool, .s (.sl (.int .i64))] 229, .row (.int .i64) 3 true, .cells [.s .bool, .s .nil] 229, .cells [.s .bool, .s (.sl (.int .i64))] 229]⟩
def o1 (v0 : Bool) (v1 : List Int) (v2 : Bool) (v3 : List Int) (v4 : Bool) (v5 : List Int) (v6 : Bool) (v7 v8 : List Int) (v9 v10 : Bool) (v11 : List Int) (y : Bool × (Bool × (List Int) × Bool × (List Int) × Bool × (List Int) × Bool × (List Int) × (List Int) × Bool × Bool × (List Int) × Unit) × (Bool × (List Int) × Bool × (List Int) × Bool × (List Int) × Bool × (List Int) × (List Int) × Bool × (List Int) × Bool × (List Int) × Unit) × Unit) : Alt := .two y.1 (.one (.exit 0) (xh1.b (y.2.1.1, y.2.1.2.1, y.2.1.2.2.1, y.2.1.2.2.2.1, y.2.1.2.2.2.2.1, y.2.1.2.2.2.2.2.1, y.2.1.2.2.2.2.2.2.1, y.2.1.2.2.2.2.2.2.2.1, y.2.1.2.2.2.2.2.2.2.2.1, y.2.1.2.2.2.2.2.2.2.2.2.1, y.2.1.2.2.2.2.2.2.2.2.2.2.1, y.2.1.2.2.2.2.2.2.2.2.2.2.2.1, ()))) (.one (.exit 0) (xh0.b (y.2.2.1.1, y.2.2.1.2.1, y.2.2.1.2.2.1, y.2.2.1.2.2.2.1, y.2.2.1.2.2.2.2.1, y.2.2.1.2.2.2.2.2.1, y.2.2.1.2.2.2.2.2.2.1, y.2.2.1.2.2.2.2.2.2.2.1, y.2.2.1.2.2.2.2.2.2.2.2.1, y.2.2.1.2.2.2.2.2.2.2.2.2.1, y.2.2.1.2.2.2.2.2.2.2.2.2.2.1, y.2.2.1.2.2.2.2.2.2.2.2.2.2.2.1, y.2.2.1.2.2.2.2.2.2.2.2.2.2.2.2.1, ())))
def r0 {ρ : Type} (lf : Nat) (v0 : Bool) (v1 : List Int) (v2 : Bool) (v3 : List Int) (v4 : Bool) (v5 : List Int) (v6 : Bool) (v7 v8 : List Int) (v9 v10 : Bool) (K1 : Bool → (List Int) → Bool → (List Int) → Bool → (List Int) → Bool → (List Int) → (List Int) → Bool → Bool → (List Int) → Option ρ) (E0 : Bool → (List Int) → Bool → (List Int) → Bool → (List Int) → Bool → (List Int) → (List Int) → Bool → Bool → Option ρ) : Option ρ :=
 br (decide (((v7.length : Nat) : Int) > 0)) (
 bd (bigint_quotient.f lf (v4, v5, ()) (v6, v7, ())) fun r5 =>
 bd (bigint_product.f lf r5.1 (v10, [], ())) fun r6 =>
 bd (bigint_negated.f lf r6.1) fun r7 =>
 bd (bigint_sum.f lf (v9, v8, ()) r7.1) fun r8 =>
 K1 v0 v1 v2 v3 v6 v7 r5.2.1.1 r5.2.1.2.1 v8 v10 r8.1.1 r8.1.2.1) (
 E0 v0 v1 v2 v3 v4 v5 v6 v7 v8 v9 v10)
def l0 (lf : Nat) (v0 : Bool) (v1 : List Int) (v2 : Bool) (v3 : List Int) (v4 : Bool) (v5 : List Int) (v6 : Bool) (v7 v8 : List Int) (v9 v10 : Bool) : Nat → Option (Bool × (Bool × (List Int) × Bool × (List Int) × Bool × (List Int) × Bool × (List Int) × (List Int) × Bool × Bool × Unit) × Bool × (Bool × (List Int) × Bool × (List Int) × Bool × (List Int) × Bool × (List Int) × (List Int) × Bool × Bool × (List Int) × Unit) × (Bool × (List Int) × Bool × (List Int) × Bool × (List Int) × Bool × (List Int) × (List Int) × Bool × (List Int) × Bool × (List Int) × Unit) × Unit)
 | 0 => none
 | n + 1 => r0 lf v0 v1 v2 v3 v4 v5 v6 v7 v8 v9 v10 (fun x0 x1 x2 x3 x4 x5 x6 x7 x8 x9 x10 x11 => bd (l1 lf x0 x1 x2 x3 x4 x5 x6 x7 x8 x9 x10 x11 n) fun z18 => br z18.1 (some (false, (false, [], false, [], false, [], false, [], [], false, false, ()), (true, (z18.2.1.1, z18.2.1.2.1, z18.2.1.2.2.1, z18.2.1.2.2.2.1, z18.2.1.2.2.2.2.1, z18.2.1.2.2.2.2.2.1, z18.2.1.2.2.2.2.2.2.1, z18.2.1.2.2.2.2.2.2.2.1, z18.2.1.2.2.2.2.2.2.2.2.1, z18.2.1.2.2.2.2.2.2.2.2.2.1, z18.2.1.2.2.2.2.2.2.2.2.2.2.1, z18.2.1.2.2.2.2.2.2.2.2.2.2.2.1, ()), ((false, [], false, [], false, [], false, [], [], false, [], false, [], ()), ())))) (some (false, (false, [], false, [], false, [], false, [], [], false, false, ()), (false, (false, [], false, [], false, [], false, [], [], false, false, [], ()), ((z18.2.2.1.1, z18.2.2.1.2.1, z18.2.2.1.2.2.1, z18.2.2.1.2.2.2.1, z18.2.2.1.2.2.2.2.1, z18.2.2.1.2.2.2.2.2.1, z18.2.2.1.2.2.2.2.2.2.1, z18.2.2.1.2.2.2.2.2.2.2.1, z18.2.2.1.2.2.2.2.2.2.2.2.1, z18.2.2.1.2.2.2.2.2.2.2.2.2.1, z18.2.2.1.2.2.2.2.2.2.2.2.2.2.1, z18.2.2.1.2.2.2.2.2.2.2.2.2.2.2.1, z18.2.2.1.2.2.2.2.2.2.2.2.2.2.2.2.1, ()), ()))))) (fun w0 w1 w2 w3 w4 w5 w6 w7 w8 w9 w10 => some (true, (w0, w1, w2, w3, w4, w5, w6, w7, w8, w9, w10, ()), (false, (false, [], false, [], false, [], false, [], [], false, false, [], ()), ((false, [], false, [], false, [], false, [], [], false, [], false, [], ()), ()))))
def sh0 : ShS := ⟨[.a 8, .s (.ptr 0 0), .s (.ptr 1 0), .a 2, .s (.ptr 2 0), .s (.ptr 3 0), .s (.ptr 5 0), .s (.ptr 6 0), .a 94], [.cells [.s .bool, .s (.sl (.int .i64))] 229, .cells [.s .bool, .s (.sl (.int .i64))] 229, .cells [.s .bool, .s (.sl (.int .i64))] 229, .cells [.s .bool, .s (.sl (.int .i64))] 229, .row (.int .i64) 3 false, .cells [.s .bool, .s (.row 4)] 229, .cells [.s .bool, .s .nil] 229]⟩
def S0 (p : Bool × (List Int) × Bool × (List Int) × Bool × (List Int) × Bool × (List Int) × (List Int) × Bool × Bool × Unit) : St := sh0.b p
def xh2 : ShS := ⟨[.a 8, .s (.ptr 0 0), .s (.ptr 1 0), .a 2, .s (.ptr 2 0), .a 1, .s (.ptr 5 0), .a 95], [.cells [.s .bool, .s (.sl (.int .i64))] 229, .cells [.s .bool, .s (.sl (.int .i64))] 229, .cells [.s .bool, .s (.sl (.int .i64))] 229, .cells [.s .bool, .s (.sl (.int .i64))] 229, .row (.int .i64) 3 false, .cells [.s .bool, .s (.row 4)] 229, .cells [.s .bool, .s .nil] 229]⟩
def o0 (v0 : Bool) (v1 : List Int) (v2 : Bool) (v3 : List Int) (v4 : Bool) (v5 : List Int) (v6 : Bool) (v7 v8 : List Int) (v9 v10 : Bool) (y : Bool × (Bool × (List Int) × Bool × (List Int) × Bool × (List Int) × Bool × (List Int) × (List Int) × Bool × Bool × Unit) × Bool × (Bool × (List Int) × Bool × (List Int) × Bool × (List Int) × Bool × (List Int) × (List Int) × Bool × Bool × (List Int) × Unit) × (Bool × (List Int) × Bool × (List Int) × Bool × (List Int) × Bool × (List Int) × (List Int) × Bool × (List Int) × Bool × (List Int) × Unit) × Unit) : Alt := .two y.1 (.one (.exit 0) (xh2.b (y.2.1.1, y.2.1.2.1, y.2.1.2.2.1, y.2.1.2.2.2.1, y.2.1.2.2.2.2.1, y.2.1.2.2.2.2.2.1, y.2.1.2.2.2.2.2.2.1, y.2.1.2.2.2.2.2.2.2.1, y.2.1.2.2.2.2.2.2.2.2.1, y.2.1.2.2.2.2.2.2.2.2.2.1, y.2.1.2.2.2.2.2.2.2.2.2.2.1, ()))) (.two y.2.2.1 (.one (.exit 0) (xh1.b (y.2.2.2.1.1, y.2.2.2.1.2.1, y.2.2.2.1.2.2.1, y.2.2.2.1.2.2.2.1, y.2.2.2.1.2.2.2.2.1, y.2.2.2.1.2.2.2.2.2.1, y.2.2.2.1.2.2.2.2.2.2.1, y.2.2.2.1.2.2.2.2.2.2.2.1, y.2.2.2.1.2.2.2.2.2.2.2.2.1, y.2.2.2.1.2.2.2.2.2.2.2.2.2.1, y.2.2.2.1.2.2.2.2.2.2.2.2.2.2.1, y.2.2.2.1.2.2.2.2.2.2.2.2.2.2.2.1, ()))) (.one (.exit 0) (xh0.b (y.2.2.2.2.1.1, y.2.2.2.2.1.2.1, y.2.2.2.2.1.2.2.1, y.2.2.2.2.1.2.2.2.1, y.2.2.2.2.1.2.2.2.2.1, y.2.2.2.2.1.2.2.2.2.2.1, y.2.2.2.2.1.2.2.2.2.2.2.1, y.2.2.2.2.1.2.2.2.2.2.2.2.1, y.2.2.2.2.1.2.2.2.2.2.2.2.2.1, y.2.2.2.2.1.2.2.2.2.2.2.2.2.2.1, y.2.2.2.2.1.2.2.2.2.2.2.2.2.2.2.1, y.2.2.2.2.1.2.2.2.2.2.2.2.2.2.2.2.1, y.2.2.2.2.1.2.2.2.2.2.2.2.2.2.2.2.2.1, ()))))
def tb (lf : Nat) : List (FuncId × Entry) := [(229, bigint_pair.E lf), (230, bigint_quotient.E lf), (231, bigint_number_text.E lf), (241, bigint_sign.E lf), (242, bigint_sum.E lf), (243, bigint_negated.E lf), (278, bigint_product.E lf), (279, bigint_Of.E lf), (280, bigint_divide.E lf)]
def s13_221 (lf : Nat) : List (Nat × (St → Option LTE)) := [(0, sumE sh2 fun (p : Bool × (List Int) × Bool × (List Int) × Bool × (List Int) × Bool × (List Int) × (List Int) × Bool × (List Int) × Bool × (List Int) × Unit) => ⟨(Bool × (List Int) × Bool × (List Int) × Bool × (List Int) × Bool × (List Int) × (List Int) × Bool × (List Int) × Bool × (List Int) × Unit) × Unit, l2 lf p.1 p.2.1 p.2.2.1 p.2.2.2.1 p.2.2.2.2.2.2.2.2.1 (lf + 40) p.2.2.2.2.1 p.2.2.2.2.2.1 p.2.2.2.2.2.2.1 p.2.2.2.2.2.2.2.1 p.2.2.2.2.2.2.2.2.2.1 p.2.2.2.2.2.2.2.2.2.2.1 p.2.2.2.2.2.2.2.2.2.2.2.1 p.2.2.2.2.2.2.2.2.2.2.2.2.1, o2 p.1 p.2.1 p.2.2.1 p.2.2.2.1 p.2.2.2.2.2.2.2.2.1⟩),
 (0, sumE sh1 fun (p : Bool × (List Int) × Bool × (List Int) × Bool × (List Int) × Bool × (List Int) × (List Int) × Bool × Bool × (List Int) × Unit) => ⟨Bool × (Bool × (List Int) × Bool × (List Int) × Bool × (List Int) × Bool × (List Int) × (List Int) × Bool × Bool × (List Int) × Unit) × (Bool × (List Int) × Bool × (List Int) × Bool × (List Int) × Bool × (List Int) × (List Int) × Bool × (List Int) × Bool × (List Int) × Unit) × Unit, l1 lf p.1 p.2.1 p.2.2.1 p.2.2.2.1 p.2.2.2.2.1 p.2.2.2.2.2.1 p.2.2.2.2.2.2.1 p.2.2.2.2.2.2.2.1 p.2.2.2.2.2.2.2.2.1 p.2.2.2.2.2.2.2.2.2.1 p.2.2.2.2.2.2.2.2.2.2.1 p.2.2.2.2.2.2.2.2.2.2.2.1 (lf + 40), o1 p.1 p.2.1 p.2.2.1 p.2.2.2.1 p.2.2.2.2.1 p.2.2.2.2.2.1 p.2.2.2.2.2.2.1 p.2.2.2.2.2.2.2.1 p.2.2.2.2.2.2.2.2.1 p.2.2.2.2.2.2.2.2.2.1 p.2.2.2.2.2.2.2.2.2.2.1 p.2.2.2.2.2.2.2.2.2.2.2.1⟩),
 (0, sumE sh0 fun (p : Bool × (List Int) × Bool × (List Int) × Bool × (List Int) × Bool × (List Int) × (List Int) × Bool × Bool × Unit) => ⟨Bool × (Bool × (List Int) × Bool × (List Int) × Bool × (List Int) × Bool × (List Int) × (List Int) × Bool × Bool × Unit) × Bool × (Bool × (List Int) × Bool × (List Int) × Bool × (List Int) × Bool × (List Int) × (List Int) × Bool × Bool × (List Int) × Unit) × (Bool × (List Int) × Bool × (List Int) × Bool × (List Int) × Bool × (List Int) × (List Int) × Bool × (List Int) × Bool × (List Int) × Unit) × Unit, l0 lf p.1 p.2.1 p.2.2.1 p.2.2.2.1 p.2.2.2.2.1 p.2.2.2.2.2.1 p.2.2.2.2.2.2.1 p.2.2.2.2.2.2.2.1 p.2.2.2.2.2.2.2.2.1 p.2.2.2.2.2.2.2.2.2.1 p.2.2.2.2.2.2.2.2.2.2.1 (lf + 40), o0 p.1 p.2.1 p.2.2.1 p.2.2.2.1 p.2.2.2.2.1 p.2.2.2.2.2.1 p.2.2.2.2.2.2.1 p.2.2.2.2.2.2.2.1 p.2.2.2.2.2.2.2.2.1 p.2.2.2.2.2.2.2.2.2.1 p.2.2.2.2.2.2.2.2.2.2.1⟩)]
def ls (lf : Nat) : List (Nat × FuncId × Sums) := [(13, 221, sumsL (s13_221 lf))]
def it2 {ρ : Type} (lf n : Nat) (st : St) (k : KE ρ) : Option ρ := itG anns (ls lf) (tb lf) lf 13 221 0 7 (sumsL (s13_221 lf)) n st k
theorem t2 {ρ : Type} (lf n : Nat) (v0 : Bool) (v1 : List Int) (v2 : Bool) (v3 : List Int) (v4 : Bool) (v5 : List Int) (v6 : Bool) (v7 v8 : List Int) (v9 : Bool) (v10 : List Int) (v11 : Bool) (v12 : List Int) (k : KE ρ) : it2 lf (n + 1) (S2 (v0, v1, v2, v3, v4, v5, v6, v7, v8, v9, v10, v11, v12, ())) k = r2 lf v0 v1 v2 v3 v8 v4 v5 v6 v7 v9 v10 v11 v12 (fun x0 x1 x2 x3 x4 x5 x6 x7 => it2 lf n (S2 (v0, v1, v2, v3, x0, x1, x2, x3, v8, x4, x5, x6, x7, ())) k) (fun w0 w1 w2 w3 w4 w5 w6 w7 w8 w9 w10 w11 w12 => k (.exit 0) (xh0.b (w0, w1, w2, w3, w4, w5, w6, w7, w8, w9, w10, w11, w12, ()))) := by kernel_rfl
theorem u2 {ρ : Type} (lf : Nat) (v0 : Bool) (v1 : List Int) (v2 : Bool) (v3 v8 : List Int) (k : KE ρ) : ∀ (n : Nat) (v4 : Bool) (v5 : List Int) (v6 : Bool) (v7 : List Int) (v9 : Bool) (v10 : List Int) (v11 : Bool) (v12 : List Int), it2 lf n (S2 (v0, v1, v2, v3, v4, v5, v6, v7, v8, v9, v10, v11, v12, ())) k = bd (l2 lf v0 v1 v2 v3 v8 n v4 v5 v6 v7 v9 v10 v11 v12) fun y => altK k (o2 v0 v1 v2 v3 v8 y)
 | 0, _, _, _, _, _, _, _, _ => by rw [l2, bd_none]; rfl
 | n + 1, v4, v5, v6, v7, v9, v10, v11, v12 => by
  rw [t2]; simp only [l2, r2, u2 lf v0 v1 v2 v3 v8 k n, bd_br, bd_bd, bd_some', bd_none, br_t, br_f, o2, altK]
def it1 {ρ : Type} (lf n : Nat) (st : St) (k : KE ρ) : Option ρ := itG anns (ls lf) (tb lf) lf 13 221 0 7 (sumsL (s13_221 lf)) n st k
theorem t1 {ρ : Type} (lf n : Nat) (v0 : Bool) (v1 : List Int) (v2 : Bool) (v3 : List Int) (v4 : Bool) (v5 : List Int) (v6 : Bool) (v7 v8 : List Int) (v9 v10 : Bool) (v11 : List Int) (k : KE ρ) : it1 lf (n + 1) (S1 (v0, v1, v2, v3, v4, v5, v6, v7, v8, v9, v10, v11, ())) k = r1 lf v0 v1 v2 v3 v4 v5 v6 v7 v8 v9 v10 v11 (fun x0 x1 x2 x3 x4 x5 x6 x7 x8 x9 x10 x11 x12 => it2 lf n (S2 (x0, x1, x2, x3, x4, x5, x6, x7, x8, x9, x10, x11, x12, ())) k) (fun w0 w1 w2 w3 w4 w5 w6 w7 w8 w9 w10 w11 => k (.exit 0) (xh1.b (w0, w1, w2, w3, w4, w5, w6, w7, w8, w9, w10, w11, ()))) := by kernel_rfl
theorem u1 {ρ : Type} (lf : Nat) (v0 : Bool) (v1 : List Int) (v2 : Bool) (v3 : List Int) (v4 : Bool) (v5 : List Int) (v6 : Bool) (v7 v8 : List Int) (v9 v10 : Bool) (v11 : List Int) (k : KE ρ) : ∀ (n : Nat), it1 lf n (S1 (v0, v1, v2, v3, v4, v5, v6, v7, v8, v9, v10, v11, ())) k = bd (l1 lf v0 v1 v2 v3 v4 v5 v6 v7 v8 v9 v10 v11 n) fun y => altK k (o1 v0 v1 v2 v3 v4 v5 v6 v7 v8 v9 v10 v11 y)
 | 0 => by rw [l1, bd_none]; rfl
 | n + 1 => by
  rw [t1]; simp only [l1, r1, u2, bd_br, bd_bd, bd_some', bd_none, br_t, br_f, o1, o2, altK]
def it0 {ρ : Type} (lf n : Nat) (st : St) (k : KE ρ) : Option ρ := itG anns (ls lf) (tb lf) lf 13 221 0 7 (sumsL (s13_221 lf)) n st k
theorem t0 {ρ : Type} (lf n : Nat) (v0 : Bool) (v1 : List Int) (v2 : Bool) (v3 : List Int) (v4 : Bool) (v5 : List Int) (v6 : Bool) (v7 v8 : List Int) (v9 v10 : Bool) (k : KE ρ) : it0 lf (n + 1) (S0 (v0, v1, v2, v3, v4, v5, v6, v7, v8, v9, v10, ())) k = r0 lf v0 v1 v2 v3 v4 v5 v6 v7 v8 v9 v10 (fun x0 x1 x2 x3 x4 x5 x6 x7 x8 x9 x10 x11 => it1 lf n (S1 (x0, x1, x2, x3, x4, x5, x6, x7, x8, x9, x10, x11, ())) k) (fun w0 w1 w2 w3 w4 w5 w6 w7 w8 w9 w10 => k (.exit 0) (xh2.b (w0, w1, w2, w3, w4, w5, w6, w7, w8, w9, w10, ()))) := by kernel_rfl
theorem u0 {ρ : Type} (lf : Nat) (v0 : Bool) (v1 : List Int) (v2 : Bool) (v3 : List Int) (v4 : Bool) (v5 : List Int) (v6 : Bool) (v7 v8 : List Int) (v9 v10 : Bool) (k : KE ρ) : ∀ (n : Nat), it0 lf n (S0 (v0, v1, v2, v3, v4, v5, v6, v7, v8, v9, v10, ())) k = bd (l0 lf v0 v1 v2 v3 v4 v5 v6 v7 v8 v9 v10 n) fun y => altK k (o0 v0 v1 v2 v3 v4 v5 v6 v7 v8 v9 v10 y)
 | 0 => by rw [l0, bd_none]; rfl
 | n + 1 => by
  rw [t0]; simp only [l0, r0, u1, bd_br, bd_bd, bd_some', bd_none, br_t, br_f, o0, o1, altK]
theorem sl (lf : Nat) : SL anns (ls lf) (tb lf) lf (ls lf) := slC (laC (fun _ => by kernel_rfl) (fun _ (x : Bool × (List Int) × Bool × (List Int) × Bool × (List Int) × Bool × (List Int) × (List Int) × Bool × (List Int) × Bool × (List Int) × Unit) k => leq_of (u2 lf x.1 x.2.1 x.2.2.1 x.2.2.2.1 x.2.2.2.2.2.2.2.2.1 k (lf + 40) x.2.2.2.2.1 x.2.2.2.2.2.1 x.2.2.2.2.2.2.1 x.2.2.2.2.2.2.2.1 x.2.2.2.2.2.2.2.2.2.1 x.2.2.2.2.2.2.2.2.2.2.1 x.2.2.2.2.2.2.2.2.2.2.2.1 x.2.2.2.2.2.2.2.2.2.2.2.2.1)) (laC (fun _ => by kernel_rfl) (fun _ (x : Bool × (List Int) × Bool × (List Int) × Bool × (List Int) × Bool × (List Int) × (List Int) × Bool × Bool × (List Int) × Unit) k => leq_of (u1 lf x.1 x.2.1 x.2.2.1 x.2.2.2.1 x.2.2.2.2.1 x.2.2.2.2.2.1 x.2.2.2.2.2.2.1 x.2.2.2.2.2.2.2.1 x.2.2.2.2.2.2.2.2.1 x.2.2.2.2.2.2.2.2.2.1 x.2.2.2.2.2.2.2.2.2.2.1 x.2.2.2.2.2.2.2.2.2.2.2.1 k (lf + 40))) (laC (fun _ => by kernel_rfl) (fun _ (x : Bool × (List Int) × Bool × (List Int) × Bool × (List Int) × Bool × (List Int) × (List Int) × Bool × Bool × Unit) k => leq_of (u0 lf x.1 x.2.1 x.2.2.1 x.2.2.2.1 x.2.2.2.2.1 x.2.2.2.2.2.1 x.2.2.2.2.2.2.1 x.2.2.2.2.2.2.2.1 x.2.2.2.2.2.2.2.2.1 x.2.2.2.2.2.2.2.2.2.1 x.2.2.2.2.2.2.2.2.2.2.1 k (lf + 40))) laN))) slN
def f (lf : Nat) (a0 : ByteArray) (a1 : ByteArray) : Option (ByteArray × ByteArray × ByteArray × Int × Unit) :=
 bd (bigint_pair.f lf a0 a1) fun r1 =>
 br (r1.2.2.1 != 0) (
 some ((⟨#[]⟩ : ByteArray), (⟨#[]⟩ : ByteArray), (⟨#[]⟩ : ByteArray), r1.2.2.1, ())) (
 br (((r1.2.1.2.1.length : Nat) : Int) == 0) (
 bd (bigint_sign.f lf r1.1) fun r2 =>
 bd (bigint_number_text.f lf (false, r1.1.2.1, ())) fun r3 =>
 bd (bigint_Of.f lf r2.1) fun r4 =>
 some (r3.1, r4.1, (⟨#[48]⟩ : ByteArray), 0, ())) (
 bd (l0 lf r1.1.1 r1.1.2.1 r1.2.1.1 r1.2.1.2.1 false r1.1.2.1 false r1.2.1.2.1 [1] false false (lf + 40)) fun z19 =>
 br z19.1 (
 br z19.2.1.1 (
 bd (bigint_negated.f lf (z19.2.1.2.2.2.2.2.2.2.2.2.1, z19.2.1.2.2.2.2.2.2.2.2.1, ())) fun r20 =>
 bd (bigint_divide.f lf z19.2.1.2.2.2.1 z19.2.1.2.2.2.2.2.1) fun r21 =>
 bd (bigint_quotient.f lf r20.1 (false, r21.1, ())) fun r22 =>
 bd (bigint_product.f lf (z19.2.1.1, z19.2.1.2.1, ()) r22.2.1) fun r23 =>
 bd (bigint_negated.f lf r23.1) fun r24 =>
 bd (bigint_sum.f lf (z19.2.1.2.2.2.2.1, z19.2.1.2.2.2.2.2.1, ()) r24.1) fun r25 =>
 bd (bigint_quotient.f lf r25.1 (z19.2.1.2.2.1, z19.2.1.2.2.2.1, ())) fun r26 =>
 bd (bigint_number_text.f lf (z19.2.1.2.2.2.2.1, z19.2.1.2.2.2.2.2.1, ())) fun r27 =>
 bd (bigint_number_text.f lf r22.2.1) fun r28 =>
 bd (bigint_number_text.f lf r26.1) fun r29 =>
 some (r27.1, r28.1, r29.1, 0, ())) (
 bd (bigint_divide.f lf z19.2.1.2.2.2.1 z19.2.1.2.2.2.2.2.1) fun r30 =>
 bd (bigint_quotient.f lf (z19.2.1.2.2.2.2.2.2.2.2.2.1, z19.2.1.2.2.2.2.2.2.2.2.1, ()) (false, r30.1, ())) fun r31 =>
 bd (bigint_product.f lf (z19.2.1.1, z19.2.1.2.1, ()) r31.2.1) fun r32 =>
 bd (bigint_negated.f lf r32.1) fun r33 =>
 bd (bigint_sum.f lf (z19.2.1.2.2.2.2.1, z19.2.1.2.2.2.2.2.1, ()) r33.1) fun r34 =>
 bd (bigint_quotient.f lf r34.1 (z19.2.1.2.2.1, z19.2.1.2.2.2.1, ())) fun r35 =>
 bd (bigint_number_text.f lf (z19.2.1.2.2.2.2.1, z19.2.1.2.2.2.2.2.1, ())) fun r36 =>
 bd (bigint_number_text.f lf r31.2.1) fun r37 =>
 bd (bigint_number_text.f lf r35.1) fun r38 =>
 some (r36.1, r37.1, r38.1, 0, ()))) (
 br z19.2.2.1 (
 br z19.2.2.2.1.1 (
 bd (bigint_negated.f lf (z19.2.2.2.1.2.2.2.2.2.2.2.2.2.1, [], ())) fun r39 =>
 bd (bigint_divide.f lf z19.2.2.2.1.2.2.2.1 z19.2.2.2.1.2.2.2.2.2.1) fun r40 =>
 bd (bigint_quotient.f lf r39.1 (false, r40.1, ())) fun r41 =>
 bd (bigint_product.f lf (z19.2.2.2.1.1, z19.2.2.2.1.2.1, ()) r41.2.1) fun r42 =>
 bd (bigint_negated.f lf r42.1) fun r43 =>
 bd (bigint_sum.f lf (z19.2.2.2.1.2.2.2.2.1, z19.2.2.2.1.2.2.2.2.2.1, ()) r43.1) fun r44 =>
 bd (bigint_quotient.f lf r44.1 (z19.2.2.2.1.2.2.1, z19.2.2.2.1.2.2.2.1, ())) fun r45 =>
 bd (bigint_number_text.f lf (z19.2.2.2.1.2.2.2.2.1, z19.2.2.2.1.2.2.2.2.2.1, ())) fun r46 =>
 bd (bigint_number_text.f lf r41.2.1) fun r47 =>
 bd (bigint_number_text.f lf r45.1) fun r48 =>
 some (r46.1, r47.1, r48.1, 0, ())) (
 bd (bigint_divide.f lf z19.2.2.2.1.2.2.2.1 z19.2.2.2.1.2.2.2.2.2.1) fun r49 =>
 bd (bigint_quotient.f lf (z19.2.2.2.1.2.2.2.2.2.2.2.2.2.1, [], ()) (false, r49.1, ())) fun r50 =>
 bd (bigint_product.f lf (z19.2.2.2.1.1, z19.2.2.2.1.2.1, ()) r50.2.1) fun r51 =>
 bd (bigint_negated.f lf r51.1) fun r52 =>
 bd (bigint_sum.f lf (z19.2.2.2.1.2.2.2.2.1, z19.2.2.2.1.2.2.2.2.2.1, ()) r52.1) fun r53 =>
 bd (bigint_quotient.f lf r53.1 (z19.2.2.2.1.2.2.1, z19.2.2.2.1.2.2.2.1, ())) fun r54 =>
 bd (bigint_number_text.f lf (z19.2.2.2.1.2.2.2.2.1, z19.2.2.2.1.2.2.2.2.2.1, ())) fun r55 =>
 bd (bigint_number_text.f lf r50.2.1) fun r56 =>
 bd (bigint_number_text.f lf r54.1) fun r57 =>
 some (r55.1, r56.1, r57.1, 0, ()))) (
 br z19.2.2.2.2.1.1 (
 bd (bigint_negated.f lf (z19.2.2.2.2.1.2.2.2.2.2.2.2.2.2.1, z19.2.2.2.2.1.2.2.2.2.2.2.2.2.2.2.1, ())) fun r58 =>
 bd (bigint_divide.f lf z19.2.2.2.2.1.2.2.2.1 z19.2.2.2.2.1.2.2.2.2.2.1) fun r59 =>
 bd (bigint_quotient.f lf r58.1 (false, r59.1, ())) fun r60 =>
 bd (bigint_product.f lf (z19.2.2.2.2.1.1, z19.2.2.2.2.1.2.1, ()) r60.2.1) fun r61 =>
 bd (bigint_negated.f lf r61.1) fun r62 =>
 bd (bigint_sum.f lf (z19.2.2.2.2.1.2.2.2.2.1, z19.2.2.2.2.1.2.2.2.2.2.1, ()) r62.1) fun r63 =>
 bd (bigint_quotient.f lf r63.1 (z19.2.2.2.2.1.2.2.1, z19.2.2.2.2.1.2.2.2.1, ())) fun r64 =>
 bd (bigint_number_text.f lf (z19.2.2.2.2.1.2.2.2.2.1, z19.2.2.2.2.1.2.2.2.2.2.1, ())) fun r65 =>
 bd (bigint_number_text.f lf r60.2.1) fun r66 =>
 bd (bigint_number_text.f lf r64.1) fun r67 =>
 some (r65.1, r66.1, r67.1, 0, ())) (
 bd (bigint_divide.f lf z19.2.2.2.2.1.2.2.2.1 z19.2.2.2.2.1.2.2.2.2.2.1) fun r68 =>
 bd (bigint_quotient.f lf (z19.2.2.2.2.1.2.2.2.2.2.2.2.2.2.1, z19.2.2.2.2.1.2.2.2.2.2.2.2.2.2.2.1, ()) (false, r68.1, ())) fun r69 =>
 bd (bigint_product.f lf (z19.2.2.2.2.1.1, z19.2.2.2.2.1.2.1, ()) r69.2.1) fun r70 =>
 bd (bigint_negated.f lf r70.1) fun r71 =>
 bd (bigint_sum.f lf (z19.2.2.2.2.1.2.2.2.2.1, z19.2.2.2.2.1.2.2.2.2.2.1, ()) r71.1) fun r72 =>
 bd (bigint_quotient.f lf r72.1 (z19.2.2.2.2.1.2.2.1, z19.2.2.2.2.1.2.2.2.1, ())) fun r73 =>
 bd (bigint_number_text.f lf (z19.2.2.2.2.1.2.2.2.2.1, z19.2.2.2.2.1.2.2.2.2.2.1, ())) fun r74 =>
 bd (bigint_number_text.f lf r69.2.1) fun r75 =>
 bd (bigint_number_text.f lf r73.1) fun r76 =>
 some (r74.1, r75.1, r76.1, 0, ()))))))
def E (lf : Nat) : Entry := ⟨[.str, .str], [.str, .str, .str, (.int .i64)], fun x => f lf x.1 x.2.1⟩
theorem ok (lf : Nat) : Ok 221 (E lf) := okL (tC (bigint_pair.ok lf) (tC (bigint_quotient.ok lf) (tC (bigint_number_text.ok lf) (tC (bigint_sign.ok lf) (tC (bigint_sum.ok lf) (tC (bigint_negated.ok lf) (tC (bigint_product.ok lf) (tC (bigint_Of.ok lf) (tC (bigint_divide.ok lf) tN))))))))) (aoC aoN) (sl lf) fun x => by kernel_rfl
end bigint_Bezout
end
end Go.Q
namespace Go.Q
open Go Go.RowKit
open Go.Rx (br bd sIdx sCat sCut iQuo iRem iShl)
noncomputable section
namespace bigint_Lcm
def f (lf : Nat) (a0 : ByteArray) (a1 : ByteArray) : Option (ByteArray × Int × Unit) :=
 bd (bigint_pair.f lf a0 a1) fun r1 =>
 br (r1.2.2.1 != 0) (
 some ((⟨#[]⟩ : ByteArray), r1.2.2.1, ())) (
 br (((r1.1.2.1.length : Nat) : Int) == 0) (
 some ((⟨#[48]⟩ : ByteArray), 0, ())) (
 br (((r1.2.1.2.1.length : Nat) : Int) == 0) (
 some ((⟨#[48]⟩ : ByteArray), 0, ())) (
 bd (bigint_common.f lf r1.1.2.1 r1.2.1.2.1) fun r2 =>
 bd (bigint_divide.f lf r1.1.2.1 r2.1) fun r3 =>
 bd (bigint_times.f lf r3.1 r1.2.1.2.1) fun r4 =>
 bd (bigint_written.f lf (false, r4.1, ())) fun r5 =>
 some (r5.1, r5.2.1, ()))))
def E (lf : Nat) : Entry := ⟨[.str, .str], [.str, (.int .i64)], fun x => f lf x.1 x.2.1⟩
theorem ok (lf : Nat) : Ok 222 (E lf) := okT (an := (annsL [])) (lf := lf) (tC (bigint_pair.ok lf) (tC (bigint_written.ok lf) (tC (bigint_divide.ok lf) (tC (bigint_common.ok lf) (tC (bigint_times.ok lf) tN))))) aoN fun x => by kernel_rfl
end bigint_Lcm
end
end Go.Q
namespace Go.Q
open Go Go.RowKit
open Go.Rx (br bd sIdx sCat sCut iQuo iRem iShl)
noncomputable section
namespace ck_c
def c0 : ByteArray := ⟨#[]⟩
def c1 : EX := EX.mk 1 c0 0 []
def c2 : ByteArray := ⟨#[50]⟩
def c3 : EX := EX.mk 0 c2 0 []
def c4 : EX := EX.mk 5 c0 0 [c1, c3]
def c5 : ByteArray := ⟨#[49]⟩
def c6 : EX := EX.mk 0 c5 0 []
def c7 : EX := EX.mk 3 c0 0 [c4, c6]
def c8 : ByteArray := ⟨#[48]⟩
def c9 : ByteArray := ⟨#[57]⟩
def c10 : TV := ((false, c8, c9, ()), (false, c5, c8, ()), ())
def c11 : ByteArray := ⟨#[52]⟩
def c12 : TV := ((false, c2, c11, ()), (false, c5, c8, ()), ())
def c13 : List TV := [c10, c12]
def c14 : TV := ((false, c2, c2, ()), (false, c8, c2, ()), ())
def c15 : ByteArray := ⟨#[49, 56]⟩
def c16 : TV := ((false, c8, c15, ()), (false, c2, c8, ()), ())
def c17 : TV := ((false, c5, c5, ()), (false, c8, c5, ()), ())
def c18 : ByteArray := ⟨#[49, 57]⟩
def c19 : TV := ((false, c5, c18, ()), (false, c2, c5, ()), ())
def c20 : EX := EX.mk 1 c0 1 []
def c21 : EX := EX.mk 6 c0 0 [c1, c20]
def c22 : TV := ((false, c8, c11, ()), (false, c5, c8, ()), ())
def c23 : List TV := [c22, c12]
def c24 : EX := EX.mk 3 c0 0 [c1, c20]
def c25 : ByteArray := ⟨#[53]⟩
def c26 : EX := EX.mk 0 c25 0 []
def c27 : ByteArray := ⟨#[49, 51]⟩
def c28 : TV := ((false, c2, c27, ()), (false, c5, c8, ()), ())
def c29 : TV := ((false, c25, c25, ()), (false, c8, c25, ()), ())
def c30 : ByteArray := ⟨#[45, 50]⟩
def c31 : TV := ((false, c30, c2, ()), (false, c5, c8, ()), ())
def c32 : TV := ((false, c8, c2, ()), (false, c5, c8, ()), ())
def c33 : ByteArray := ⟨#[45, 55]⟩
def c34 : TV := ((false, c33, c11, ()), (false, c5, c8, ()), ())
def c35 : List TV := [c32, c12]
def c36 : EX := EX.mk 5 c0 0 [c3, c1]
def c37 : ByteArray := ⟨#[55]⟩
def c38 : EX := EX.mk 0 c37 0 []
def c39 : TV := ((false, c37, c37, ()), (false, c8, c37, ()), ())
def c40 : TV := ((true, c0, c0, ()), (true, c0, c0, ()), ())
def c41 : List TV := []
def c42 : EX := EX.mk 0 c8 0 []
def c43 : CX := CX.mk 3 [c1, c42] []
def c44 : TV := ((false, c8, c8, ()), (false, c8, c8, ()), ())
def c45 : TV := ((false, c5, c9, ()), (false, c5, c8, ()), ())
def c46 : List TV := [c45, c12]
def c47 : CX := CX.mk 4 [c1, c3] []
def c48 : CX := CX.mk 4 [c38, c1] []
def c49 : CX := CX.mk 8 [] [c47, c48]
def c50 : TV := ((false, c8, c5, ()), (false, c5, c8, ()), ())
def c51 : List TV := [c50, c12]
def c52 : ByteArray := ⟨#[56]⟩
def c53 : TV := ((false, c52, c9, ()), (false, c5, c8, ()), ())
def c54 : List TV := [c53, c12]
def c55 : ByteArray := ⟨#[51]⟩
def c56 : EX := EX.mk 0 c55 0 []
def c57 : TV := ((false, c55, c55, ()), (false, c8, c55, ()), ())
def c58 : EX := EX.mk 6 c0 0 [c1, c3]
def c59 : ByteArray := ⟨#[54]⟩
def c60 : TV := ((false, c59, c37, ()), (false, c5, c8, ()), ())
def c61 : List TV := [c60, c12]
def c62 : EX := EX.mk 4 c0 0 [c1, c6]
def c64 : ByteArray := ⟨#[45, 49]⟩
def c65 : TV := ((false, c64, c52, ()), (false, c5, c8, ()), ())
def c66 : TV := ((false, c55, c25, ()), (false, c5, c8, ()), ())
def c67 : ByteArray := ⟨#[45, 52]⟩
def c68 : TV := ((false, c67, c37, ()), (false, c5, c8, ()), ())
def c69 : List TV := [c66, c12]
end ck_c
end
end Go.Q
