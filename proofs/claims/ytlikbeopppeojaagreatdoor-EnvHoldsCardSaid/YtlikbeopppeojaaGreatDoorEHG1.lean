import Derived.Test.YtlikbeopppeojaaGreatDoorProg
import Derived.KernelRfl
import Derived.Test.YtlikbeopppeojaaGreatDoorEHE3
set_option linter.unusedVariables false
set_option linter.unusedSimpArgs false
set_option linter.unusedSectionVars false
set_option maxRecDepth 100000
namespace Go.Q
open Go Go.RowKit
open Go.Rx (br bd sIdx sCat sCut iQuo iRem iShl)
noncomputable section
namespace stringslite_HasPrefix
def f (lf : Nat) (a0 : ByteArray) (a1 : ByteArray) : Option (Bool × Unit) :=
 br (decide (((a0.size : Nat) : Int) ≥ ((a1.size : Nat) : Int))) (
 bd (sCut a0 none (some ((a1.size : Nat) : Int))) fun r1 =>
 some ((r1.toList == a1.toList), ())) (
 some (false, ()))
def E (lf : Nat) : Entry := ⟨[.str, .str], [.bool], fun x => f lf x.1 x.2.1⟩
theorem ok (lf : Nat) : Ok 300 (E lf) := okT (an := (annsL [])) (lf := lf) tN aoN fun x => by kernel_rfl
end stringslite_HasPrefix
namespace stringslite_CutPrefix
def f (lf : Nat) (a0 : ByteArray) (a1 : ByteArray) : Option (ByteArray × Bool × Unit) :=
 bd (stringslite_HasPrefix.f lf a0 a1) fun r1 =>
 br (!r1.1) (
 some (a0, false, ())) (
 bd (sCut a0 (some ((a1.size : Nat) : Int)) none) fun r2 =>
 some (r2, true, ()))
def E (lf : Nat) : Entry := ⟨[.str, .str], [.str, .bool], fun x => f lf x.1 x.2.1⟩
theorem ok (lf : Nat) : Ok 283 (E lf) := okT (an := (annsL [])) (lf := lf) (tC (stringslite_HasPrefix.ok lf) tN) aoN fun x => by kernel_rfl
end stringslite_CutPrefix
namespace stringslite_TrimPrefix
def f (lf : Nat) (a0 : ByteArray) (a1 : ByteArray) : Option (ByteArray × Unit) :=
 bd (stringslite_HasPrefix.f lf a0 a1) fun r1 =>
 br r1.1 (
 bd (sCut a0 (some ((a1.size : Nat) : Int)) none) fun r2 =>
 some (r2, ())) (
 some (a0, ()))
def E (lf : Nat) : Entry := ⟨[.str, .str], [.str], fun x => f lf x.1 x.2.1⟩
theorem ok (lf : Nat) : Ok 232 (E lf) := okT (an := (annsL [])) (lf := lf) (tC (stringslite_HasPrefix.ok lf) tN) aoN fun x => by kernel_rfl
end stringslite_TrimPrefix
end
end Go.Q
namespace Go.Q
open Go Go.RowKit
open Go.Rx (br bd sIdx sCat sCut iQuo iRem iShl)
noncomputable section
namespace strings_CutPrefix
def f (lf : Nat) (a0 : ByteArray) (a1 : ByteArray) : Option (ByteArray × Bool × Unit) :=
 bd (stringslite_CutPrefix.f lf a0 a1) fun r1 =>
 some (r1.1, r1.2.1, ())
def E (lf : Nat) : Entry := ⟨[.str, .str], [.str, .bool], fun x => f lf x.1 x.2.1⟩
theorem ok (lf : Nat) : Ok 225 (E lf) := okT (an := (annsL [])) (lf := lf) (tC (stringslite_CutPrefix.ok lf) tN) aoN fun x => by kernel_rfl
end strings_CutPrefix
namespace strings_TrimPrefix
def f (lf : Nat) (a0 : ByteArray) (a1 : ByteArray) : Option (ByteArray × Unit) :=
 bd (stringslite_TrimPrefix.f lf a0 a1) fun r1 =>
 some (r1.1, ())
def E (lf : Nat) : Entry := ⟨[.str, .str], [.str], fun x => f lf x.1 x.2.1⟩
theorem ok (lf : Nat) : Ok 160 (E lf) := okT (an := (annsL [])) (lf := lf) (tC (stringslite_TrimPrefix.ok lf) tN) aoN fun x => by kernel_rfl
end strings_TrimPrefix
end
end Go.Q
namespace Go.Q
open Go.IntKind (i64)
open Go Go.RowKit
open Go.Rx (br bd sIdx sCat sCut iQuo iRem iShl)
noncomputable section
namespace bigint_canonical
def f (lf : Nat) (a0 : ByteArray) : Option (Bool × Unit) :=
 bd (strings_CutPrefix.f lf a0 (⟨#[45]⟩ : ByteArray)) fun r1 =>
 br (r1.1.toList == (⟨#[48]⟩ : ByteArray).toList) (
 some ((!r1.2.1), ())) (
 br (!(r1.1.toList == (⟨#[]⟩ : ByteArray).toList)) (
 bd (sIdx r1.1 0) fun r2 =>
 br (((r2.toNat : Nat) : Int) != 48) (
 bd (B.Trim.f lf r1.1 (⟨#[48, 49, 50, 51, 52, 53, 54, 55, 56, 57]⟩ : ByteArray)) fun r3 =>
 some ((r3.1.toList == (⟨#[]⟩ : ByteArray).toList), ())) (
 some (false, ()))) (
 some (false, ())))
def E (lf : Nat) : Entry := ⟨[.str], [.bool], fun x => f lf x.1⟩
theorem ok (lf : Nat) : Ok 149 (E lf) := okT (an := (annsL [])) (lf := lf) (tC (strings_CutPrefix.ok lf) (tC (B.Trim.ok lf) tN)) aoN fun x => by kernel_rfl
end bigint_canonical
namespace bigint_digits
def f (lf : Nat) (a0 : ByteArray) : Option (Int × Unit) :=
 bd (strings_TrimPrefix.f lf a0 (⟨#[45]⟩ : ByteArray)) fun r1 =>
 some (((r1.1.size : Nat) : Int), ())
def E (lf : Nat) : Entry := ⟨[.str], [(.int .i64)], fun x => f lf x.1⟩
theorem ok (lf : Nat) : Ok 150 (E lf) := okT (an := (annsL [])) (lf := lf) (tC (strings_TrimPrefix.ok lf) tN) aoN fun x => by kernel_rfl
end bigint_digits
namespace bigint_Check
def f (lf : Nat) (a0 : ByteArray) : Option (Int × Unit) :=
 bd (bigint_canonical.f lf a0) fun r1 =>
 br (!r1.1) (
 some (3, ())) (
 bd (bigint_digits.f lf a0) fun r2 =>
 br (decide (r2.1 > 4096)) (
 some (10, ())) (
 some (0, ())))
def E (lf : Nat) : Entry := ⟨[.str], [(.int .i64)], fun x => f lf x.1⟩
theorem ok (lf : Nat) : Ok 90 (E lf) := okT (an := (annsL [])) (lf := lf) (tC (bigint_canonical.ok lf) (tC (bigint_digits.ok lf) tN)) aoN fun x => by kernel_rfl
end bigint_Check
namespace bigint_trim
def anns : FuncId → FA := annsL [(310, ⟨annOf [(0, ⟨kx 21 [0], [], []⟩, ⟨kx 21 [0, 2], [], []⟩)], none, []⟩)]
def r0 {ρ : Type} (lf : Nat) (v0 : List Int) (K : (List Int) → Option ρ) (E0 : (List Int) → Option ρ) : Option ρ :=
 br (decide (((v0.length : Nat) : Int) > 0)) (
 bd (idxL v0 (i64.wrap (((v0.length : Nat) : Int) - 1))) fun y1 =>
 br (y1 == 0) (
 bd (cutL v0 none (some (i64.wrap (((v0.length : Nat) : Int) - 1)))) fun q2 =>
 K q2) (
 E0 v0)) (
 E0 v0)
def l0 (lf : Nat) : Nat → (List Int) → Option (((List Int) × Unit) × Unit)
 | 0, _ => none
 | n + 1, v0 => r0 lf v0 (l0 lf n) (fun w0 => some ((w0, ()), ()))
def sh0 : ShS := ⟨[.s (.sl (.int .i64)), .a 20], []⟩
def S0 (p : (List Int) × Unit) : St := sh0.b p
def xh0 : ShS := ⟨[.s (.sl (.int .i64)), .a 20], []⟩
def o0 (y : ((List Int) × Unit) × Unit) : Alt := .one (.exit 0) (xh0.b (y.1.1, ()))
def tb (lf : Nat) : List (FuncId × Entry) := []
def s13_310 (lf : Nat) : List (Nat × (St → Option LTE)) := [(0, sumE sh0 fun (p : (List Int) × Unit) => ⟨((List Int) × Unit) × Unit, l0 lf (lf + 40) p.1, o0⟩)]
def ls (lf : Nat) : List (Nat × FuncId × Sums) := [(13, 310, sumsL (s13_310 lf))]
def it0 {ρ : Type} (lf n : Nat) (st : St) (k : KE ρ) : Option ρ := itG anns (ls lf) (tb lf) lf 13 310 0 0 (sumsL (s13_310 lf)) n st k
theorem t0 {ρ : Type} (lf n : Nat) (v0 : List Int) (k : KE ρ) : it0 lf (n + 1) (S0 (v0, ())) k = r0 lf v0 (fun x0 => it0 lf n (S0 (x0, ())) k) (fun w0 => k (.exit 0) (xh0.b (w0, ()))) := by kernel_rfl
theorem u0 {ρ : Type} (lf : Nat) (k : KE ρ) : ∀ (n : Nat) (v0 : List Int), it0 lf n (S0 (v0, ())) k = bd (l0 lf n v0) fun y => altK k (o0 y)
 | 0, _ => by rw [l0, bd_none]; rfl
 | n + 1, v0 => by
  rw [t0]; simp only [l0, r0, u0 lf k n, bd_br, bd_bd, bd_some', bd_none, br_t, br_f, o0, altK]
theorem sl (lf : Nat) : SL anns (ls lf) (tb lf) lf (ls lf) := slC (laC (fun _ => by kernel_rfl) (fun _ (x : (List Int) × Unit) k => leq_of (u0 lf k (lf + 40) x.1)) laN) slN
def f (lf : Nat) (a0 : List Int) : Option ((List Int) × Unit) :=
 bd (l0 lf (lf + 40) a0) fun z3 =>
 some (z3.1.1, ())
def E (lf : Nat) : Entry := ⟨[(.sl (.int .i64))], [(.sl (.int .i64))], fun x => f lf x.1⟩
theorem ok (lf : Nat) : Ok 310 (E lf) := okL tN (aoC aoN) (sl lf) fun x => by kernel_rfl
end bigint_trim
namespace bigint_read
def anns : FuncId → FA := annsL [(331, ⟨annOf [(0, ⟨kx 13 [2], [], []⟩, ⟨[], [], []⟩)], none, []⟩), (332, ⟨annOf [(0, ⟨kx 26 [0, 1, 3], [⟨.ref 2 0, (.int .i64), 3⟩], []⟩, ⟨kx 26 [], [⟨.ref 2 0, (.int .i64), 3⟩], []⟩)], none, []⟩)]
def r0 {ρ : Type} (lf : Nat) (v1 : Bool) (v2 : ByteArray) (v0 : Int) (v3 : List Int) (K : Int → (List Int) → Option ρ) (E0 : (List Int) → Option ρ) : Option ρ :=
 br (decide (v0 > 0)) (
 bd (sCut v2 (some (if (i64.wrap (v0 - 9)) > 0 then (i64.wrap (v0 - 9)) else 0)) (some v0)) fun r2 =>
 bd (B.Atoi.f lf r2) fun r3 =>
 bd (apL true 8 v3 [r3.1]) fun q4 =>
 K (i64.wrap (v0 - 9)) q4) (
 E0 v3)
def l0 (lf : Nat) (v1 : Bool) (v2 : ByteArray) : Nat → Int → (List Int) → Option (((List Int) × Unit) × Unit)
 | 0, _, _ => none
 | n + 1, v0, v3 => r0 lf v1 v2 v0 v3 (l0 lf v1 v2 n) (fun w0 => some ((w0, ()), ()))
def sh0 : ShS := ⟨[.s (.yld 3), .s (.ptr 1 0), .a 1, .s (.int .i64), .a 22], [.cells [.s .bool, .s .nil] 229, .cells [.s .str] 9, .cells [.s (.row 4)] 227, .rnd [.a 2, .s (.ptr 2 0), .a 10] 331 0 .ready none, .row (.int .i64) 3 false]⟩
def S0 (p : Int × Bool × ByteArray × (List Int) × Unit) : St := sh0.b p
def xh0 : ShS := ⟨[.a 26], [.cells [.s .bool, .s .nil] 229, .cells [.s .str] 9, .cells [.s (.row 4)] 227, .rnd [.a 2, .s (.ptr 2 0), .a 10] 331 0 .ready none, .row (.int .i64) 3 false]⟩
def o0 (v1 : Bool) (v2 : ByteArray) (y : ((List Int) × Unit) × Unit) : Alt := .one (.exit 0) (xh0.b (v1, v2, y.1.1, ()))
def tb (lf : Nat) : List (FuncId × Entry) := [(225, strings_CutPrefix.E lf), (310, bigint_trim.E lf), (333, B.Atoi.E lf)]
def s10_332 (lf : Nat) : List (Nat × (St → Option LTE)) := [(0, sumE sh0 fun (p : Int × Bool × ByteArray × (List Int) × Unit) => ⟨((List Int) × Unit) × Unit, l0 lf p.2.1 p.2.2.1 (lf + 40) p.1 p.2.2.2.1, o0 p.2.1 p.2.2.1⟩)]
def ls (lf : Nat) : List (Nat × FuncId × Sums) := [(10, 332, sumsL (s10_332 lf))]
def it0 {ρ : Type} (lf n : Nat) (st : St) (k : KE ρ) : Option ρ := itG anns (ls lf) (tb lf) lf 10 332 0 4 (sumsL (s10_332 lf)) n st k
theorem t0 {ρ : Type} (lf n : Nat) (v0 : Int) (v1 : Bool) (v2 : ByteArray) (v3 : List Int) (k : KE ρ) : it0 lf (n + 1) (S0 (v0, v1, v2, v3, ())) k = r0 lf v1 v2 v0 v3 (fun x0 x1 => it0 lf n (S0 (x0, v1, v2, x1, ())) k) (fun w0 => k (.exit 0) (xh0.b (v1, v2, w0, ()))) := by kernel_rfl
theorem u0 {ρ : Type} (lf : Nat) (v1 : Bool) (v2 : ByteArray) (k : KE ρ) : ∀ (n : Nat) (v0 : Int) (v3 : List Int), it0 lf n (S0 (v0, v1, v2, v3, ())) k = bd (l0 lf v1 v2 n v0 v3) fun y => altK k (o0 v1 v2 y)
 | 0, _, _ => by rw [l0, bd_none]; rfl
 | n + 1, v0, v3 => by
  rw [t0]; simp only [l0, r0, u0 lf v1 v2 k n, bd_br, bd_bd, bd_some', bd_none, br_t, br_f, o0, altK]
theorem sl (lf : Nat) : SL anns (ls lf) (tb lf) lf (ls lf) := slC (laC (fun _ => by kernel_rfl) (fun _ (x : Int × Bool × ByteArray × (List Int) × Unit) k => leq_of (u0 lf x.2.1 x.2.2.1 k (lf + 40) x.1 x.2.2.2.1)) laN) slN
def f (lf : Nat) (a0 : ByteArray) : Option (TB × Unit) :=
 bd (strings_CutPrefix.f lf a0 (⟨#[45]⟩ : ByteArray)) fun r1 =>
 bd (l0 lf false r1.1 (lf + 40) ((r1.1.size : Nat) : Int) []) fun z5 =>
 bd (bigint_trim.f lf z5.1.1) fun r6 =>
 some ((r1.2.1, r6.1, ()), ())
def E (lf : Nat) : Entry := ⟨[.str], [yB], fun x => f lf x.1⟩
theorem ok (lf : Nat) : Ok 291 (E lf) := okL (tC (strings_CutPrefix.ok lf) (tC (bigint_trim.ok lf) (tC (B.Atoi.ok lf) tN))) (aoC (aoC aoN)) (sl lf) fun x => by kernel_rfl
end bigint_read
namespace bigint_pair
def f (lf : Nat) (a0 : ByteArray) (a1 : ByteArray) : Option (TB × TB × Int × Unit) :=
 bd (bigint_Check.f lf a0) fun r1 =>
 br (r1.1 != 0) (
 some ((false, [], ()), (false, [], ()), r1.1, ())) (
 bd (bigint_Check.f lf a1) fun r2 =>
 br (r2.1 != 0) (
 some ((false, [], ()), (false, [], ()), r2.1, ())) (
 bd (bigint_read.f lf a0) fun r3 =>
 bd (bigint_read.f lf a1) fun r4 =>
 some (r3.1, r4.1, 0, ())))
def E (lf : Nat) : Entry := ⟨[.str, .str], [yB, yB, (.int .i64)], fun x => f lf x.1 x.2.1⟩
theorem ok (lf : Nat) : Ok 229 (E lf) := okT (an := (annsL [])) (lf := lf) (tC (bigint_Check.ok lf) (tC (bigint_read.ok lf) tN)) aoN fun x => by kernel_rfl
end bigint_pair
namespace bigint_sign
def f (lf : Nat) (a0 : TB) : Option (Int × Unit) :=
 br (((a0.2.1.length : Nat) : Int) == 0) (
 some (0, ())) (
 br a0.1 (
 some ((-1), ())) (
 some (1, ())))
def E (lf : Nat) : Entry := ⟨[yB], [(.int .i64)], fun x => f lf x.1⟩
theorem ok (lf : Nat) : Ok 241 (E lf) := okT (an := (annsL [])) (lf := lf) tN aoN fun x => by kernel_rfl
end bigint_sign
namespace bigint_plus
def anns : FuncId → FA := annsL [(292, ⟨annOf [(0, ⟨kx 54 [0, 1, 5, 6, 20, 21], [], []⟩, ⟨kx 54 [4, 5], [], []⟩)], none, []⟩)]
def r0 {ρ : Type} (lf : Nat) (v0 v1 : List Int) (v3 : Int) (v2 v4 : Int) (v5 : List Int) (K : Int → Int → (List Int) → Option ρ) (E0 : (List Int) → Option ρ) : Option ρ :=
 br (decide (v4 < v3)) (
 br (decide (v4 < ((v0.length : Nat) : Int))) (
 bd (idxL v0 v4) fun y2 =>
 br (decide (v4 < ((v1.length : Nat) : Int))) (
 bd (idxL v1 v4) fun y3 =>
 bd (iRem (i64.wrap ((i64.wrap (v2 + y2)) + y3)) 1000000000) fun r4 =>
 bd (iQuo .i64 (i64.wrap ((i64.wrap (v2 + y2)) + y3)) 1000000000) fun r5 =>
 bd (idxB v5.length v4) fun j6 =>
 bd (upE v5 j6 fun _ => some r4) fun q7 =>
 K r5 (i64.wrap (v4 + 1)) q7) (
 bd (iRem (i64.wrap (v2 + y2)) 1000000000) fun r9 =>
 bd (iQuo .i64 (i64.wrap (v2 + y2)) 1000000000) fun r10 =>
 bd (idxB v5.length v4) fun j11 =>
 bd (upE v5 j11 fun _ => some r9) fun q12 =>
 K r10 (i64.wrap (v4 + 1)) q12)) (
 br (decide (v4 < ((v1.length : Nat) : Int))) (
 bd (idxL v1 v4) fun y14 =>
 bd (iRem (i64.wrap (v2 + y14)) 1000000000) fun r15 =>
 bd (iQuo .i64 (i64.wrap (v2 + y14)) 1000000000) fun r16 =>
 bd (idxB v5.length v4) fun j17 =>
 bd (upE v5 j17 fun _ => some r15) fun q18 =>
 K r16 (i64.wrap (v4 + 1)) q18) (
 bd (iRem v2 1000000000) fun r20 =>
 bd (iQuo .i64 v2 1000000000) fun r21 =>
 bd (idxB v5.length v4) fun j22 =>
 bd (upE v5 j22 fun _ => some r20) fun q23 =>
 K r21 (i64.wrap (v4 + 1)) q23))) (
 E0 v5)
def l0 (lf : Nat) (v0 v1 : List Int) (v3 : Int) : Nat → Int → Int → (List Int) → Option (((List Int) × Unit) × Unit)
 | 0, _, _, _ => none
 | n + 1, v2, v4, v5 => r0 lf v0 v1 v3 v2 v4 v5 (l0 lf v0 v1 v3 n) (fun w0 => some ((w0, ()), ()))
def sh0 : ShS := ⟨[.s (.sl (.int .i64)), .s (.sl (.int .i64)), .a 3, .s (.row 0), .s (.int .i64), .a 13, .s (.int .i64), .s (.int .i64), .a 32], [.row (.int .i64) 3 false]⟩
def S0 (p : (List Int) × (List Int) × Int × Int × Int × (List Int) × Unit) : St := sh0.b p
def xh0 : ShS := ⟨[.a 5, .s (.row 0), .a 48], [.row (.int .i64) 3 false]⟩
def o0 (v0 v1 : List Int) (v3 : Int) (y : ((List Int) × Unit) × Unit) : Alt := .one (.exit 0) (xh0.b (y.1.1, ()))
def tb (lf : Nat) : List (FuncId × Entry) := [(310, bigint_trim.E lf)]
def s13_292 (lf : Nat) : List (Nat × (St → Option LTE)) := [(0, sumE sh0 fun (p : (List Int) × (List Int) × Int × Int × Int × (List Int) × Unit) => ⟨((List Int) × Unit) × Unit, l0 lf p.1 p.2.1 p.2.2.2.1 (lf + 40) p.2.2.1 p.2.2.2.2.1 p.2.2.2.2.2.1, o0 p.1 p.2.1 p.2.2.2.1⟩)]
def ls (lf : Nat) : List (Nat × FuncId × Sums) := [(13, 292, sumsL (s13_292 lf))]
def it0 {ρ : Type} (lf n : Nat) (st : St) (k : KE ρ) : Option ρ := itG anns (ls lf) (tb lf) lf 13 292 0 1 (sumsL (s13_292 lf)) n st k
theorem t0 {ρ : Type} (lf n : Nat) (v0 v1 : List Int) (v2 v3 v4 : Int) (v5 : List Int) (k : KE ρ) : it0 lf (n + 1) (S0 (v0, v1, v2, v3, v4, v5, ())) k = r0 lf v0 v1 v3 v2 v4 v5 (fun x0 x1 x2 => it0 lf n (S0 (v0, v1, x0, v3, x1, x2, ())) k) (fun w0 => k (.exit 0) (xh0.b (w0, ()))) := by kernel_rfl
theorem u0 {ρ : Type} (lf : Nat) (v0 v1 : List Int) (v3 : Int) (k : KE ρ) : ∀ (n : Nat) (v2 v4 : Int) (v5 : List Int), it0 lf n (S0 (v0, v1, v2, v3, v4, v5, ())) k = bd (l0 lf v0 v1 v3 n v2 v4 v5) fun y => altK k (o0 v0 v1 v3 y)
 | 0, _, _, _ => by rw [l0, bd_none]; rfl
 | n + 1, v2, v4, v5 => by
  rw [t0]; simp only [l0, r0, u0 lf v0 v1 v3 k n, bd_br, bd_bd, bd_some', bd_none, br_t, br_f, o0, altK]
theorem sl (lf : Nat) : SL anns (ls lf) (tb lf) lf (ls lf) := slC (laC (fun _ => by kernel_rfl) (fun _ (x : (List Int) × (List Int) × Int × Int × Int × (List Int) × Unit) k => leq_of (u0 lf x.1 x.2.1 x.2.2.2.1 k (lf + 40) x.2.2.1 x.2.2.2.2.1 x.2.2.2.2.2.1)) laN) slN
def f (lf : Nat) (a0 : List Int) (a1 : List Int) : Option ((List Int) × Unit) :=
 br (decide (((a0.length : Nat) : Int) < ((a1.length : Nat) : Int))) (
 bd (mkL (i64.wrap (((a1.length : Nat) : Int) + 1)) (i64.wrap (((a1.length : Nat) : Int) + 1)) 8 0) fun q1 =>
 bd (l0 lf a1 a0 ((q1.length : Nat) : Int) (lf + 40) 0 0 q1) fun z25 =>
 bd (bigint_trim.f lf z25.1.1) fun r26 =>
 some (r26.1, ())) (
 bd (mkL (i64.wrap (((a0.length : Nat) : Int) + 1)) (i64.wrap (((a0.length : Nat) : Int) + 1)) 8 0) fun q27 =>
 bd (l0 lf a0 a1 ((q27.length : Nat) : Int) (lf + 40) 0 0 q27) fun z28 =>
 bd (bigint_trim.f lf z28.1.1) fun r29 =>
 some (r29.1, ()))
def E (lf : Nat) : Entry := ⟨[(.sl (.int .i64)), (.sl (.int .i64))], [(.sl (.int .i64))], fun x => f lf x.1 x.2.1⟩
theorem ok (lf : Nat) : Ok 292 (E lf) := okL (tC (bigint_trim.ok lf) tN) (aoC aoN) (sl lf) fun x => by kernel_rfl
end bigint_plus
namespace bigint_operations_1
def f (lf : Nat) (a0 : TB) (a1 : TB) : Option (Bool × Unit) :=
 some (a0.1, ())
def E (lf : Nat) : Entry := ⟨[yB, yB], [.bool], fun x => f lf x.1 x.2.1⟩
theorem ok (lf : Nat) : Ok 324 (E lf) := okT (an := (annsL [])) (lf := lf) tN aoN fun x => by kernel_rfl
end bigint_operations_1
namespace bigint_minus
def anns : FuncId → FA := annsL [(293, ⟨annOf [(0, ⟨kx 44 [0, 1, 5, 6, 13, 14], [], []⟩, ⟨kx 44 [4, 5], [], []⟩)], none, []⟩)]
def r0 {ρ : Type} (lf : Nat) (v0 v1 : List Int) (v3 : Int) (v2 v4 : Int) (v5 : List Int) (K : Int → Int → (List Int) → Option ρ) (E0 : (List Int) → Option ρ) : Option ρ :=
 br (decide (v4 < v3)) (
 bd (idxL v0 v4) fun y2 =>
 br (decide (v4 < ((v1.length : Nat) : Int))) (
 bd (idxL v1 v4) fun y3 =>
 br (decide ((i64.wrap ((i64.wrap (y2 - v2)) - y3)) < 0)) (
 bd (idxB v5.length v4) fun j4 =>
 bd (upE v5 j4 fun _ => some (i64.wrap ((i64.wrap ((i64.wrap (y2 - v2)) - y3)) + 1000000000))) fun q5 =>
 K 1 (i64.wrap (v4 + 1)) q5) (
 bd (idxB v5.length v4) fun j7 =>
 bd (upE v5 j7 fun _ => some (i64.wrap ((i64.wrap (y2 - v2)) - y3))) fun q8 =>
 K 0 (i64.wrap (v4 + 1)) q8)) (
 br (decide ((i64.wrap (y2 - v2)) < 0)) (
 bd (idxB v5.length v4) fun j10 =>
 bd (upE v5 j10 fun _ => some (i64.wrap ((i64.wrap (y2 - v2)) + 1000000000))) fun q11 =>
 K 1 (i64.wrap (v4 + 1)) q11) (
 bd (idxB v5.length v4) fun j13 =>
 bd (upE v5 j13 fun _ => some (i64.wrap (y2 - v2))) fun q14 =>
 K 0 (i64.wrap (v4 + 1)) q14))) (
 E0 v5)
def l0 (lf : Nat) (v0 v1 : List Int) (v3 : Int) : Nat → Int → Int → (List Int) → Option (((List Int) × Unit) × Unit)
 | 0, _, _, _ => none
 | n + 1, v2, v4, v5 => r0 lf v0 v1 v3 v2 v4 v5 (l0 lf v0 v1 v3 n) (fun w0 => some ((w0, ()), ()))
def sh0 : ShS := ⟨[.s (.sl (.int .i64)), .s (.sl (.int .i64)), .a 3, .s (.row 0), .s (.int .i64), .a 6, .s (.int .i64), .s (.int .i64), .a 29], [.row (.int .i64) 3 false]⟩
def S0 (p : (List Int) × (List Int) × Int × Int × Int × (List Int) × Unit) : St := sh0.b p
def xh0 : ShS := ⟨[.a 5, .s (.row 0), .a 38], [.row (.int .i64) 3 false]⟩
def o0 (v0 v1 : List Int) (v3 : Int) (y : ((List Int) × Unit) × Unit) : Alt := .one (.exit 0) (xh0.b (y.1.1, ()))
def tb (lf : Nat) : List (FuncId × Entry) := [(310, bigint_trim.E lf)]
def s13_293 (lf : Nat) : List (Nat × (St → Option LTE)) := [(0, sumE sh0 fun (p : (List Int) × (List Int) × Int × Int × Int × (List Int) × Unit) => ⟨((List Int) × Unit) × Unit, l0 lf p.1 p.2.1 p.2.2.2.1 (lf + 40) p.2.2.1 p.2.2.2.2.1 p.2.2.2.2.2.1, o0 p.1 p.2.1 p.2.2.2.1⟩)]
def ls (lf : Nat) : List (Nat × FuncId × Sums) := [(13, 293, sumsL (s13_293 lf))]
def it0 {ρ : Type} (lf n : Nat) (st : St) (k : KE ρ) : Option ρ := itG anns (ls lf) (tb lf) lf 13 293 0 1 (sumsL (s13_293 lf)) n st k
theorem t0 {ρ : Type} (lf n : Nat) (v0 v1 : List Int) (v2 v3 v4 : Int) (v5 : List Int) (k : KE ρ) : it0 lf (n + 1) (S0 (v0, v1, v2, v3, v4, v5, ())) k = r0 lf v0 v1 v3 v2 v4 v5 (fun x0 x1 x2 => it0 lf n (S0 (v0, v1, x0, v3, x1, x2, ())) k) (fun w0 => k (.exit 0) (xh0.b (w0, ()))) := by kernel_rfl
theorem u0 {ρ : Type} (lf : Nat) (v0 v1 : List Int) (v3 : Int) (k : KE ρ) : ∀ (n : Nat) (v2 v4 : Int) (v5 : List Int), it0 lf n (S0 (v0, v1, v2, v3, v4, v5, ())) k = bd (l0 lf v0 v1 v3 n v2 v4 v5) fun y => altK k (o0 v0 v1 v3 y)
 | 0, _, _, _ => by rw [l0, bd_none]; rfl
 | n + 1, v2, v4, v5 => by
  rw [t0]; simp only [l0, r0, u0 lf v0 v1 v3 k n, bd_br, bd_bd, bd_some', bd_none, br_t, br_f, o0, altK]
theorem sl (lf : Nat) : SL anns (ls lf) (tb lf) lf (ls lf) := slC (laC (fun _ => by kernel_rfl) (fun _ (x : (List Int) × (List Int) × Int × Int × Int × (List Int) × Unit) k => leq_of (u0 lf x.1 x.2.1 x.2.2.2.1 k (lf + 40) x.2.2.1 x.2.2.2.2.1 x.2.2.2.2.2.1)) laN) slN
def f (lf : Nat) (a0 : List Int) (a1 : List Int) : Option ((List Int) × Unit) :=
 bd (mkL ((a0.length : Nat) : Int) ((a0.length : Nat) : Int) 8 0) fun q1 =>
 bd (l0 lf a0 a1 ((q1.length : Nat) : Int) (lf + 40) 0 0 q1) fun z16 =>
 bd (bigint_trim.f lf z16.1.1) fun r17 =>
 some (r17.1, ())
def E (lf : Nat) : Entry := ⟨[(.sl (.int .i64)), (.sl (.int .i64))], [(.sl (.int .i64))], fun x => f lf x.1 x.2.1⟩
theorem ok (lf : Nat) : Ok 293 (E lf) := okL (tC (bigint_trim.ok lf) tN) (aoC aoN) (sl lf) fun x => by kernel_rfl
end bigint_minus
end
end Go.Q
namespace Go.Q
open Go.IntKind (i64)
open Go Go.RowKit
open Go.Rx (br bd sIdx sCat sCut iQuo iRem iShl)
noncomputable section
namespace bigint_order
def anns : FuncId → FA := annsL [(308, ⟨annOf [(0, ⟨kx 33 [3, 4], [], []⟩, ⟨[], [], []⟩)], none, []⟩), (319, ⟨annOf [(0, ⟨kx 19 [0, 1, 3], [], []⟩, ⟨kx 19 [], [], []⟩)], none, []⟩)]
def r0 {ρ : Type} (lf : Nat) (v1 : List Int) (v2 : Int) (v3 : List Int) (v0 : Int) (K : Int → Option ρ) (E0 : Int → Option ρ) (E1 : Option ρ) : Option ρ :=
 br (decide (v0 ≥ 0)) (
 bd (idxL v3 v0) fun y1 =>
 bd (idxL v1 v0) fun y2 =>
 br (y1 != y2) (
 bd (idxL v1 v0) fun y3 =>
 E0 (i64.wrap (y1 - y3))) (
 K (i64.wrap (v0 - 1)))) (
 E1)
def l0 (lf : Nat) (v1 : List Int) (v2 : Int) (v3 : List Int) : Nat → Int → Option (Bool × (Int × Unit) × (Unit) × Unit)
 | 0, _ => none
 | n + 1, v0 => r0 lf v1 v2 v3 v0 (l0 lf v1 v2 v3 n) (fun w0 => some (true, (w0, ()), ((()), ()))) (some (false, (0, ()), ((()), ())))
def sh0 : ShS := ⟨[.s (.yld 3), .s (.ptr 2 0), .a 1, .s (.int .i64), .a 15], [.cells [.s (.sl (.int .i64))] 227, .cells [.s (.int .i64)] 3, .cells [.s (.sl (.int .i64))] 227, .rnd [.a 3, .s (.ptr 0 0), .s (.ptr 1 0), .a 28] 308 0 .ready none]⟩
def S0 (p : Int × (List Int) × Int × (List Int) × Unit) : St := sh0.b p
def xh0 : ShS := ⟨[.a 19], [.cells [.s (.sl (.int .i64))] 227, .cells [.s (.int .i64)] 3, .cells [.s (.sl (.int .i64))] 227, .rnd [.a 3, .s (.ptr 0 0), .s (.ptr 1 0), .a 28] 308 0 .done (some .ret)]⟩
def xh1 : ShS := ⟨[.a 19], [.cells [.s (.sl (.int .i64))] 227, .cells [.s (.int .i64)] 3, .cells [.s (.sl (.int .i64))] 227, .rnd [.a 3, .s (.ptr 0 0), .s (.ptr 1 0), .a 28] 308 0 .ready none]⟩
def o0 (v1 : List Int) (v2 : Int) (v3 : List Int) (y : Bool × (Int × Unit) × (Unit) × Unit) : Alt := .two y.1 (.one .ret (xh0.b (v1, y.2.1.1, v3, ()))) (.one (.exit 0) (xh1.b (v1, v2, v3, ())))
def tb (lf : Nat) : List (FuncId × Entry) := []
def s12_319 (lf : Nat) : List (Nat × (St → Option LTE)) := [(0, sumE sh0 fun (p : Int × (List Int) × Int × (List Int) × Unit) => ⟨Bool × (Int × Unit) × (Unit) × Unit, l0 lf p.2.1 p.2.2.1 p.2.2.2.1 (lf + 40) p.1, o0 p.2.1 p.2.2.1 p.2.2.2.1⟩)]
def ls (lf : Nat) : List (Nat × FuncId × Sums) := [(12, 319, sumsL (s12_319 lf))]
def it0 {ρ : Type} (lf n : Nat) (st : St) (k : KE ρ) : Option ρ := itG anns (ls lf) (tb lf) lf 12 319 0 4 (sumsL (s12_319 lf)) n st k
theorem t0 {ρ : Type} (lf n : Nat) (v0 : Int) (v1 : List Int) (v2 : Int) (v3 : List Int) (k : KE ρ) : it0 lf (n + 1) (S0 (v0, v1, v2, v3, ())) k = r0 lf v1 v2 v3 v0 (fun x0 => it0 lf n (S0 (x0, v1, v2, v3, ())) k) (fun w0 => k .ret (xh0.b (v1, w0, v3, ()))) (k (.exit 0) (xh1.b (v1, v2, v3, ()))) := by kernel_rfl
theorem u0 {ρ : Type} (lf : Nat) (v1 : List Int) (v2 : Int) (v3 : List Int) (k : KE ρ) : ∀ (n : Nat) (v0 : Int), it0 lf n (S0 (v0, v1, v2, v3, ())) k = bd (l0 lf v1 v2 v3 n v0) fun y => altK k (o0 v1 v2 v3 y)
 | 0, _ => by rw [l0, bd_none]; rfl
 | n + 1, v0 => by
  rw [t0]; simp only [l0, r0, u0 lf v1 v2 v3 k n, bd_br, bd_bd, bd_some', bd_none, br_t, br_f, o0, altK]
theorem sl (lf : Nat) : SL anns (ls lf) (tb lf) lf (ls lf) := slC (laC (fun _ => by kernel_rfl) (fun _ (x : Int × (List Int) × Int × (List Int) × Unit) k => leq_of (u0 lf x.2.1 x.2.2.1 x.2.2.2.1 k (lf + 40) x.1)) laN) slN
def f (lf : Nat) (a0 : List Int) (a1 : List Int) : Option (Int × Unit) :=
 br (((a0.length : Nat) : Int) != ((a1.length : Nat) : Int)) (
 some ((i64.wrap (((a0.length : Nat) : Int) - ((a1.length : Nat) : Int))), ())) (
 bd (l0 lf a1 0 a0 (lf + 40) (i64.wrap (((a0.length : Nat) : Int) - 1))) fun z4 =>
 br z4.1 (
 some (z4.2.1.1, ())) (
 some (0, ())))
def E (lf : Nat) : Entry := ⟨[(.sl (.int .i64)), (.sl (.int .i64))], [(.int .i64)], fun x => f lf x.1 x.2.1⟩
theorem ok (lf : Nat) : Ok 308 (E lf) := okL tN (aoC (aoC aoN)) (sl lf) fun x => by kernel_rfl
end bigint_order
namespace bigint_operations_2
def f (lf : Nat) (a0 : List Int) (a1 : List Int) : Option ((List Int) × Unit) :=
 bd (bigint_order.f lf a0 a1) fun r1 =>
 br (decide (r1.1 < 0)) (
 bd (bigint_minus.f lf a1 a0) fun r2 =>
 some (r2.1, ())) (
 bd (bigint_minus.f lf a0 a1) fun r3 =>
 some (r3.1, ()))
def E (lf : Nat) : Entry := ⟨[(.sl (.int .i64)), (.sl (.int .i64))], [(.sl (.int .i64))], fun x => f lf x.1 x.2.1⟩
theorem ok (lf : Nat) : Ok 325 (E lf) := okT (an := (annsL [])) (lf := lf) (tC (bigint_minus.ok lf) (tC (bigint_order.ok lf) tN)) aoN fun x => by kernel_rfl
end bigint_operations_2
namespace bigint_operations_3
def f (lf : Nat) (a0 : TB) (a1 : TB) : Option (Bool × Unit) :=
 bd (bigint_order.f lf a0.2.1 a1.2.1) fun r1 =>
 some (((decide (r1.1 < 0)) != a0.1), ())
def E (lf : Nat) : Entry := ⟨[yB, yB], [.bool], fun x => f lf x.1 x.2.1⟩
theorem ok (lf : Nat) : Ok 326 (E lf) := okT (an := (annsL [])) (lf := lf) (tC (bigint_order.ok lf) tN) aoN fun x => by kernel_rfl
end bigint_operations_3
namespace bigint_sum
def f (lf : Nat) (a0 : TB) (a1 : TB) : Option (TB × Unit) :=
 br (a0.1 != a1.1) (
 bd (bigint_operations_3.f lf a0 a1) fun r1 =>
 bd (bigint_operations_2.f lf a0.2.1 a1.2.1) fun r2 =>
 some ((r1.1, r2.1, ()), ())) (
 bd (bigint_operations_1.f lf a0 a1) fun r3 =>
 bd (bigint_plus.f lf a0.2.1 a1.2.1) fun r4 =>
 some ((r3.1, r4.1, ()), ()))
def E (lf : Nat) : Entry := ⟨[yB, yB], [yB], fun x => f lf x.1 x.2.1⟩
theorem ok (lf : Nat) : Ok 242 (E lf) := okT (an := (annsL [])) (lf := lf) (tC (bigint_plus.ok lf) (tC (bigint_operations_1.ok lf) (tC (bigint_operations_2.ok lf) (tC (bigint_operations_3.ok lf) tN)))) aoN fun x => by kernel_rfl
end bigint_sum
namespace bigint_negated
def f (lf : Nat) (a0 : TB) : Option (TB × Unit) :=
 some (((!a0.1), a0.2.1, ()), ())
def E (lf : Nat) : Entry := ⟨[yB], [yB], fun x => f lf x.1⟩
theorem ok (lf : Nat) : Ok 243 (E lf) := okT (an := (annsL [])) (lf := lf) tN aoN fun x => by kernel_rfl
end bigint_negated
namespace bigint_Compare
def f (lf : Nat) (a0 : ByteArray) (a1 : ByteArray) : Option (Int × Int × Unit) :=
 bd (bigint_pair.f lf a0 a1) fun r1 =>
 br (r1.2.2.1 != 0) (
 some (0, r1.2.2.1, ())) (
 bd (bigint_negated.f lf r1.2.1) fun r2 =>
 bd (bigint_sum.f lf r1.1 r2.1) fun r3 =>
 bd (bigint_sign.f lf r3.1) fun r4 =>
 some (r4.1, 0, ()))
def E (lf : Nat) : Entry := ⟨[.str, .str], [(.int .i64), (.int .i64)], fun x => f lf x.1 x.2.1⟩
theorem ok (lf : Nat) : Ok 165 (E lf) := okT (an := (annsL [])) (lf := lf) (tC (bigint_pair.ok lf) (tC (bigint_sign.ok lf) (tC (bigint_sum.ok lf) (tC (bigint_negated.ok lf) tN)))) aoN fun x => by kernel_rfl
end bigint_Compare
namespace bigint_number_text
def anns : FuncId → FA := annsL [(231, ⟨annOf [(0, ⟨kx 35 [1, 3], [], []⟩, ⟨[], [], []⟩)], none, []⟩), (299, ⟨annOf [], some (.bString 275 5), []⟩), (318, ⟨annOf [], some (.copyCheck 275), []⟩), (319, ⟨annOf [(0, ⟨kx 19 [0, 1, 3], [⟨.ref 1 1, (.int .u8), 5⟩], []⟩, ⟨kx 19 [], [⟨.ref 1 1, (.int .u8), 5⟩], []⟩)], none, []⟩)]
def r0 {ρ : Type} (lf : Nat) (v1 : Bool) (v2 v3 v4 : List Int) (v0 : Int) (v5 : List Int) (K : Int → (List Int) → Option ρ) (E0 : (List Int) → Option ρ) : Option ρ :=
 br (decide (v0 ≥ 0)) (
 bd (idxL v4 v0) fun y2 =>
 bd (B.Itoa.f lf y2) fun r3 =>
 br (decide (v0 < (i64.wrap (((v2.length : Nat) : Int) - 1)))) (
 bd (B.Repeat.f lf (⟨#[48]⟩ : ByteArray) (i64.wrap (9 - ((r3.1.size : Nat) : Int)))) fun r4 =>
 bd (apL true 1 v5 (sBytes r4.1)) fun q5 =>
 bd (apL true 1 q5 (sBytes r3.1)) fun q6 =>
 K (i64.wrap (v0 - 1)) q6) (
 bd (apL true 1 v5 (sBytes r3.1)) fun q7 =>
 K (i64.wrap (v0 - 1)) q7)) (
 E0 v5)
def l0 (lf : Nat) (v1 : Bool) (v2 v3 v4 : List Int) : Nat → Int → (List Int) → Option (((List Int) × Unit) × Unit)
 | 0, _, _ => none
 | n + 1, v0, v5 => r0 lf v1 v2 v3 v4 v0 v5 (l0 lf v1 v2 v3 v4 n) (fun w0 => some ((w0, ()), ()))
def sh0 : ShS := ⟨[.s (.yld 5), .s (.ptr 4 0), .a 1, .s (.int .i64), .a 15], [.cells [.s .bool, .s (.sl (.int .i64))] 229, .cells [.s (.ptr 1 0), .s (.row 6)] 275, .row (.int .u8) 5 false, .gone, .cells [.s (.sl (.int .i64))] 227, .rnd [.a 1, .s (.ptr 0 0), .a 1, .s (.ptr 1 0), .a 31] 231 0 .ready none, .row (.int .u8) 5 false]⟩
def S0 (p : Int × Bool × (List Int) × (List Int) × (List Int) × (List Int) × Unit) : St := sh0.b p
def xh0 : ShS := ⟨[.a 19], [.cells [.s .bool, .s (.sl (.int .i64))] 229, .cells [.s (.ptr 1 0), .s (.row 6)] 275, .row (.int .u8) 5 false, .gone, .cells [.s (.sl (.int .i64))] 227, .rnd [.a 1, .s (.ptr 0 0), .a 1, .s (.ptr 1 0), .a 31] 231 0 .ready none, .row (.int .u8) 5 false]⟩
def o0 (v1 : Bool) (v2 v3 v4 : List Int) (y : ((List Int) × Unit) × Unit) : Alt := .one (.exit 0) (xh0.b (v1, v2, v3, v4, y.1.1, ()))
def r2 {ρ : Type} (lf : Nat) (v1 : Bool) (v2 v3 : List Int) (v0 : Int) (v4 : List Int) (K : Int → (List Int) → Option ρ) (E0 : Bool → (List Int) → (List Int) → (List Int) → Option ρ) : Option ρ :=
 br (decide (v0 ≥ 0)) (
 bd (idxL v3 v0) fun y16 =>
 bd (B.Itoa.f lf y16) fun r17 =>
 br (decide (v0 < (i64.wrap (((v2.length : Nat) : Int) - 1)))) (
 bd (B.Repeat.f lf (⟨#[48]⟩ : ByteArray) (i64.wrap (9 - ((r17.1.size : Nat) : Int)))) fun r18 =>
 bd (apL true 1 v4 (sBytes r18.1)) fun q19 =>
 bd (apL true 1 q19 (sBytes r17.1)) fun q20 =>
 K (i64.wrap (v0 - 1)) q20) (
 bd (apL true 1 v4 (sBytes r17.1)) fun q21 =>
 K (i64.wrap (v0 - 1)) q21)) (
 E0 v1 v2 v3 v4)
def l2 (lf : Nat) (v1 : Bool) (v2 v3 : List Int) : Nat → Int → (List Int) → Option ((Bool × (List Int) × (List Int) × (List Int) × Unit) × Unit)
 | 0, _, _ => none
 | n + 1, v0, v4 => r2 lf v1 v2 v3 v0 v4 (l2 lf v1 v2 v3 n) (fun w0 w1 w2 w3 => some ((w0, w1, w2, w3, ()), ()))
def sh2 : ShS := ⟨[.s (.yld 3), .s (.ptr 2 0), .a 1, .s (.int .i64), .a 15], [.cells [.s .bool, .s (.sl (.int .i64))] 229, .cells [.s (.ptr 1 0), .s (.row 4)] 275, .cells [.s (.sl (.int .i64))] 227, .rnd [.a 1, .s (.ptr 0 0), .a 1, .s (.ptr 1 0), .a 31] 231 0 .ready none, .row (.int .u8) 5 false]⟩
def S2 (p : Int × Bool × (List Int) × (List Int) × (List Int) × Unit) : St := sh2.b p
def xh1 : ShS := ⟨[.a 19], [.cells [.s .bool, .s (.sl (.int .i64))] 229, .cells [.s (.ptr 1 0), .s (.row 4)] 275, .cells [.s (.sl (.int .i64))] 227, .rnd [.a 1, .s (.ptr 0 0), .a 1, .s (.ptr 1 0), .a 31] 231 0 .ready none, .row (.int .u8) 5 false]⟩
def o2 (v1 : Bool) (v2 v3 : List Int) (y : (Bool × (List Int) × (List Int) × (List Int) × Unit) × Unit) : Alt := .one (.exit 0) (xh1.b (y.1.1, y.1.2.1, y.1.2.2.1, y.1.2.2.2.1, ()))
def r1 {ρ : Type} (lf : Nat) (v0 : Int) (v1 : Bool) (v2 v3 v4 : List Int) (K2 : Int → Bool → (List Int) → (List Int) → (List Int) → Option ρ) (E0 : Bool → (List Int) → (List Int) → (List Int) → Option ρ) : Option ρ :=
 br (decide (v0 ≥ 0)) (
 bd (idxL v3 v0) fun y10 =>
 bd (B.Itoa.f lf y10) fun r11 =>
 br (decide (v0 < (i64.wrap (((v2.length : Nat) : Int) - 1)))) (
 bd (B.Repeat.f lf (⟨#[48]⟩ : ByteArray) (i64.wrap (9 - ((r11.1.size : Nat) : Int)))) fun r12 =>
 bd (apL true 1 v4 (sBytes r12.1)) fun q13 =>
 bd (apL true 1 q13 (sBytes r11.1)) fun q14 =>
 K2 (i64.wrap (v0 - 1)) v1 v2 v3 q14) (
 bd (apL true 1 v4 (sBytes r11.1)) fun q15 =>
 K2 (i64.wrap (v0 - 1)) v1 v2 v3 q15)) (
 E0 v1 v2 v3 v4)
def l1 (lf : Nat) (v0 : Int) (v1 : Bool) (v2 v3 v4 : List Int) : Nat → Option (Bool × (Bool × (List Int) × (List Int) × (List Int) × Unit) × (Bool × (List Int) × (List Int) × (List Int) × Unit) × Unit)
 | 0 => none
 | n + 1 => r1 lf v0 v1 v2 v3 v4 (fun x0 x1 x2 x3 x4 => bd (l2 lf x1 x2 x3 n x0 x4) fun z22 => some (false, (false, [], [], [], ()), ((z22.1.1, z22.1.2.1, z22.1.2.2.1, z22.1.2.2.2.1, ()), ()))) (fun w0 w1 w2 w3 => some (true, (w0, w1, w2, w3, ()), ((false, [], [], [], ()), ())))
def sh1 : ShS := ⟨[.s (.yld 3), .s (.ptr 2 0), .a 1, .s (.int .i64), .a 15], [.cells [.s .bool, .s (.sl (.int .i64))] 229, .cells [.s .nilp, .s (.row 4)] 275, .cells [.s (.sl (.int .i64))] 227, .rnd [.a 1, .s (.ptr 0 0), .a 1, .s (.ptr 1 0), .a 31] 231 0 .ready none, .row (.int .u8) 5 false]⟩
def S1 (p : Int × Bool × (List Int) × (List Int) × (List Int) × Unit) : St := sh1.b p
def xh2 : ShS := ⟨[.a 19], [.cells [.s .bool, .s (.sl (.int .i64))] 229, .cells [.s .nilp, .s (.row 4)] 275, .cells [.s (.sl (.int .i64))] 227, .rnd [.a 1, .s (.ptr 0 0), .a 1, .s (.ptr 1 0), .a 31] 231 0 .ready none, .row (.int .u8) 5 false]⟩
def o1 (v0 : Int) (v1 : Bool) (v2 v3 v4 : List Int) (y : Bool × (Bool × (List Int) × (List Int) × (List Int) × Unit) × (Bool × (List Int) × (List Int) × (List Int) × Unit) × Unit) : Alt := .two y.1 (.one (.exit 0) (xh2.b (y.2.1.1, y.2.1.2.1, y.2.1.2.2.1, y.2.1.2.2.2.1, ()))) (.one (.exit 0) (xh1.b (y.2.2.1.1, y.2.2.1.2.1, y.2.2.1.2.2.1, y.2.2.1.2.2.2.1, ())))
def tb (lf : Nat) : List (FuncId × Entry) := [(296, B.Itoa.E lf), (298, B.Repeat.E lf)]
def s12_319 (lf : Nat) : List (Nat × (St → Option LTE)) := [(0, sumE sh0 fun (p : Int × Bool × (List Int) × (List Int) × (List Int) × (List Int) × Unit) => ⟨((List Int) × Unit) × Unit, l0 lf p.2.1 p.2.2.1 p.2.2.2.1 p.2.2.2.2.1 (lf + 40) p.1 p.2.2.2.2.2.1, o0 p.2.1 p.2.2.1 p.2.2.2.1 p.2.2.2.2.1⟩),
 (0, sumE sh2 fun (p : Int × Bool × (List Int) × (List Int) × (List Int) × Unit) => ⟨(Bool × (List Int) × (List Int) × (List Int) × Unit) × Unit, l2 lf p.2.1 p.2.2.1 p.2.2.2.1 (lf + 40) p.1 p.2.2.2.2.1, o2 p.2.1 p.2.2.1 p.2.2.2.1⟩),
 (0, sumE sh1 fun (p : Int × Bool × (List Int) × (List Int) × (List Int) × Unit) => ⟨Bool × (Bool × (List Int) × (List Int) × (List Int) × Unit) × (Bool × (List Int) × (List Int) × (List Int) × Unit) × Unit, l1 lf p.1 p.2.1 p.2.2.1 p.2.2.2.1 p.2.2.2.2.1 (lf + 40), o1 p.1 p.2.1 p.2.2.1 p.2.2.2.1 p.2.2.2.2.1⟩)]
def ls (lf : Nat) : List (Nat × FuncId × Sums) := [(12, 319, sumsL (s12_319 lf))]
def it0 {ρ : Type} (lf n : Nat) (st : St) (k : KE ρ) : Option ρ := itG anns (ls lf) (tb lf) lf 12 319 0 6 (sumsL (s12_319 lf)) n st k
theorem t0 {ρ : Type} (lf n : Nat) (v0 : Int) (v1 : Bool) (v2 v3 v4 v5 : List Int) (k : KE ρ) : it0 lf (n + 1) (S0 (v0, v1, v2, v3, v4, v5, ())) k = r0 lf v1 v2 v3 v4 v0 v5 (fun x0 x1 => it0 lf n (S0 (x0, v1, v2, v3, v4, x1, ())) k) (fun w0 => k (.exit 0) (xh0.b (v1, v2, v3, v4, w0, ()))) := by kernel_rfl
theorem u0 {ρ : Type} (lf : Nat) (v1 : Bool) (v2 v3 v4 : List Int) (k : KE ρ) : ∀ (n : Nat) (v0 : Int) (v5 : List Int), it0 lf n (S0 (v0, v1, v2, v3, v4, v5, ())) k = bd (l0 lf v1 v2 v3 v4 n v0 v5) fun y => altK k (o0 v1 v2 v3 v4 y)
 | 0, _, _ => by rw [l0, bd_none]; rfl
 | n + 1, v0, v5 => by
  rw [t0]; simp only [l0, r0, u0 lf v1 v2 v3 v4 k n, bd_br, bd_bd, bd_some', bd_none, br_t, br_f, o0, altK]
def it2 {ρ : Type} (lf n : Nat) (st : St) (k : KE ρ) : Option ρ := itG anns (ls lf) (tb lf) lf 12 319 0 4 (sumsL (s12_319 lf)) n st k
theorem t2 {ρ : Type} (lf n : Nat) (v0 : Int) (v1 : Bool) (v2 v3 v4 : List Int) (k : KE ρ) : it2 lf (n + 1) (S2 (v0, v1, v2, v3, v4, ())) k = r2 lf v1 v2 v3 v0 v4 (fun x0 x1 => it2 lf n (S2 (x0, v1, v2, v3, x1, ())) k) (fun w0 w1 w2 w3 => k (.exit 0) (xh1.b (w0, w1, w2, w3, ()))) := by kernel_rfl
theorem u2 {ρ : Type} (lf : Nat) (v1 : Bool) (v2 v3 : List Int) (k : KE ρ) : ∀ (n : Nat) (v0 : Int) (v4 : List Int), it2 lf n (S2 (v0, v1, v2, v3, v4, ())) k = bd (l2 lf v1 v2 v3 n v0 v4) fun y => altK k (o2 v1 v2 v3 y)
 | 0, _, _ => by rw [l2, bd_none]; rfl
 | n + 1, v0, v4 => by
  rw [t2]; simp only [l2, r2, u2 lf v1 v2 v3 k n, bd_br, bd_bd, bd_some', bd_none, br_t, br_f, o2, altK]
def it1 {ρ : Type} (lf n : Nat) (st : St) (k : KE ρ) : Option ρ := itG anns (ls lf) (tb lf) lf 12 319 0 4 (sumsL (s12_319 lf)) n st k
theorem t1 {ρ : Type} (lf n : Nat) (v0 : Int) (v1 : Bool) (v2 v3 v4 : List Int) (k : KE ρ) : it1 lf (n + 1) (S1 (v0, v1, v2, v3, v4, ())) k = r1 lf v0 v1 v2 v3 v4 (fun x0 x1 x2 x3 x4 => it2 lf n (S2 (x0, x1, x2, x3, x4, ())) k) (fun w0 w1 w2 w3 => k (.exit 0) (xh2.b (w0, w1, w2, w3, ()))) := by kernel_rfl
theorem u1 {ρ : Type} (lf : Nat) (v0 : Int) (v1 : Bool) (v2 v3 v4 : List Int) (k : KE ρ) : ∀ (n : Nat), it1 lf n (S1 (v0, v1, v2, v3, v4, ())) k = bd (l1 lf v0 v1 v2 v3 v4 n) fun y => altK k (o1 v0 v1 v2 v3 v4 y)
 | 0 => by rw [l1, bd_none]; rfl
 | n + 1 => by
  rw [t1]; simp only [l1, r1, u2, bd_br, bd_bd, bd_some', bd_none, br_t, br_f, o1, o2, altK]
theorem sl (lf : Nat) : SL anns (ls lf) (tb lf) lf (ls lf) := slC (laC (fun _ => by kernel_rfl) (fun _ (x : Int × Bool × (List Int) × (List Int) × (List Int) × (List Int) × Unit) k => leq_of (u0 lf x.2.1 x.2.2.1 x.2.2.2.1 x.2.2.2.2.1 k (lf + 40) x.1 x.2.2.2.2.2.1)) (laC (fun _ => by kernel_rfl) (fun _ (x : Int × Bool × (List Int) × (List Int) × (List Int) × Unit) k => leq_of (u2 lf x.2.1 x.2.2.1 x.2.2.2.1 k (lf + 40) x.1 x.2.2.2.2.1)) (laC (fun _ => by kernel_rfl) (fun _ (x : Int × Bool × (List Int) × (List Int) × (List Int) × Unit) k => leq_of (u1 lf x.1 x.2.1 x.2.2.1 x.2.2.2.1 x.2.2.2.2.1 k (lf + 40))) laN))) slN
def f (lf : Nat) (a0 : TB) : Option (ByteArray × Unit) :=
 br (((a0.2.1.length : Nat) : Int) == 0) (
 some ((⟨#[48]⟩ : ByteArray), ())) (
 br a0.1 (
 bd (apL true 1 [] [45]) fun q1 =>
 bd (l0 lf a0.1 a0.2.1 [45] a0.2.1 (lf + 40) (i64.wrap (((a0.2.1.length : Nat) : Int) - 1)) q1) fun z8 =>
 bd (if 0 < z8.1.1.length then some (bytesS z8.1.1) else none) fun s9 =>
 some (s9, ())) (
 bd (l1 lf (i64.wrap (((a0.2.1.length : Nat) : Int) - 1)) a0.1 a0.2.1 a0.2.1 [] (lf + 40)) fun z23 =>
 br z23.1 (
 bd (if 0 < z23.2.1.2.2.2.1.length then some (bytesS z23.2.1.2.2.2.1) else none) fun s24 =>
 some (s24, ())) (
 bd (if 0 < z23.2.2.1.2.2.2.1.length then some (bytesS z23.2.2.1.2.2.2.1) else none) fun s25 =>
 some (s25, ()))))
def E (lf : Nat) : Entry := ⟨[yB], [.str], fun x => f lf x.1⟩
theorem ok (lf : Nat) : Ok 231 (E lf) := okL (tC (B.Itoa.ok lf) (tC (B.Repeat.ok lf) tN)) (aoC (aoP bString_ok (aoP copyCheck_ok (aoC aoN)))) (sl lf) fun x => by kernel_rfl
end bigint_number_text
namespace bigint_number_size
def f (lf : Nat) (a0 : TB) : Option (Int × Unit) :=
 br (((a0.2.1.length : Nat) : Int) == 0) (
 some (0, ())) (
 bd (idxL a0.2.1 (i64.wrap (((a0.2.1.length : Nat) : Int) - 1))) fun y1 =>
 bd (B.Itoa.f lf y1) fun r2 =>
 some ((i64.wrap ((i64.wrap ((i64.wrap (((a0.2.1.length : Nat) : Int) - 1)) * 9)) + ((r2.1.size : Nat) : Int))), ()))
def E (lf : Nat) : Entry := ⟨[yB], [(.int .i64)], fun x => f lf x.1⟩
theorem ok (lf : Nat) : Ok 307 (E lf) := okT (an := (annsL [])) (lf := lf) (tC (B.Itoa.ok lf) tN) aoN fun x => by kernel_rfl
end bigint_number_size
namespace bigint_written
def f (lf : Nat) (a0 : TB) : Option (ByteArray × Int × Unit) :=
 bd (bigint_number_size.f lf a0) fun r1 =>
 br (decide (r1.1 > 4096)) (
 some ((⟨#[]⟩ : ByteArray), 10, ())) (
 bd (bigint_number_text.f lf a0) fun r2 =>
 some (r2.1, 0, ()))
def E (lf : Nat) : Entry := ⟨[yB], [.str, (.int .i64)], fun x => f lf x.1⟩
theorem ok (lf : Nat) : Ok 277 (E lf) := okT (an := (annsL [])) (lf := lf) (tC (bigint_number_text.ok lf) (tC (bigint_number_size.ok lf) tN)) aoN fun x => by kernel_rfl
end bigint_written
end
end Go.Q
namespace Go.Q
open Go.IntKind (i64)
open Go Go.RowKit
open Go.Rx (br bd sIdx sCat sCut iQuo iRem iShl)
noncomputable section
namespace bigint_Add
def f (lf : Nat) (a0 : ByteArray) (a1 : ByteArray) : Option (ByteArray × Int × Unit) :=
 bd (bigint_pair.f lf a0 a1) fun r1 =>
 br (r1.2.2.1 != 0) (
 some ((⟨#[]⟩ : ByteArray), r1.2.2.1, ())) (
 bd (bigint_sum.f lf r1.1 r1.2.1) fun r2 =>
 bd (bigint_written.f lf r2.1) fun r3 =>
 some (r3.1, r3.2.1, ()))
def E (lf : Nat) : Entry := ⟨[.str, .str], [.str, (.int .i64)], fun x => f lf x.1 x.2.1⟩
theorem ok (lf : Nat) : Ok 214 (E lf) := okT (an := (annsL [])) (lf := lf) (tC (bigint_pair.ok lf) (tC (bigint_sum.ok lf) (tC (bigint_written.ok lf) tN))) aoN fun x => by kernel_rfl
end bigint_Add
namespace bigint_times
def anns : FuncId → FA := annsL [(282, ⟨annOf [(0, ⟨kx 63 [1, 5, 17, 18, 19], [], []⟩, ⟨kx 63 [4, 5], [], []⟩), (1, ⟨kx 63 [1, 5, 6, 7, 8, 17, 18, 19, 24, 25, 26], [], []⟩, ⟨kx 63 [1, 4, 5, 6, 8, 17, 18, 19], [], []⟩)], none, []⟩)]
def r1 {ρ : Type} (lf : Nat) (v0 : List Int) (v1 v2 : Int) (v4 : List Int) (v5 v6 : Int) (v7 : List Int) (v8 : Int) (v3 v9 : Int) (v10 : List Int) (K : Int → Int → (List Int) → Option ρ) (E0 : Int → (List Int) → Option ρ) : Option ρ :=
 br (decide (v9 < v8)) (
 bd (idxL v7 v9) fun y3 =>
 bd (idxB v10.length (i64.wrap (v1 + v9))) fun j4 =>
 bd (v10[j4]?) fun y5 =>
 bd (iRem (i64.wrap (v3 + (i64.wrap (y5 + (i64.wrap (v2 * y3)))))) 1000000000) fun r6 =>
 bd (iQuo .i64 (i64.wrap (v3 + (i64.wrap (y5 + (i64.wrap (v2 * y3)))))) 1000000000) fun r7 =>
 bd (idxB v10.length (i64.wrap (v1 + v9))) fun j8 =>
 bd (upE v10 j8 fun _ => some r6) fun q9 =>
 K r7 (i64.wrap (v9 + 1)) q9) (
 E0 v3 v10)
def l1 (lf : Nat) (v0 : List Int) (v1 v2 : Int) (v4 : List Int) (v5 v6 : Int) (v7 : List Int) (v8 : Int) : Nat → Int → Int → (List Int) → Option ((Int × (List Int) × Unit) × Unit)
 | 0, _, _, _ => none
 | n + 1, v3, v9, v10 => r1 lf v0 v1 v2 v4 v5 v6 v7 v8 v3 v9 v10 (l1 lf v0 v1 v2 v4 v5 v6 v7 v8 n) (fun w0 w1 => some ((w0, w1, ()), ()))
def sh1 : ShS := ⟨[.a 1, .s (.sl (.int .i64)), .a 3, .s (.row 0), .s (.int .i64), .s (.int .i64), .s (.int .i64), .a 8, .s (.sl (.int .i64)), .s (.int .i64), .s (.int .i64), .a 4, .s (.sl (.int .i64)), .s (.int .i64), .s (.int .i64), .a 36], [.row (.int .i64) 3 false]⟩
def S1 (p : (List Int) × Int × Int × Int × (List Int) × Int × Int × (List Int) × Int × Int × (List Int) × Unit) : St := sh1.b p
def xh0 : ShS := ⟨[.a 1, .s (.sl (.int .i64)), .a 3, .s (.row 0), .s (.int .i64), .a 1, .s (.int .i64), .a 8, .s (.sl (.int .i64)), .s (.int .i64), .s (.int .i64), .a 43], [.row (.int .i64) 3 false]⟩
def o1 (v0 : List Int) (v1 v2 : Int) (v4 : List Int) (v5 v6 : Int) (v7 : List Int) (v8 : Int) (y : (Int × (List Int) × Unit) × Unit) : Alt := .one (.exit 2) (xh0.b (v0, v1, y.1.1, v4, v5, v6, y.1.2.1, ()))
def r0 {ρ : Type} (lf : Nat) (v0 v1 : List Int) (v2 : Int) (v3 : Int) (v4 : List Int) (K : Int → (List Int) → Option ρ) (E0 : (List Int) → Option ρ) : Option ρ :=
 br (decide (v3 < v2)) (
 bd (idxL v1 v3) fun y2 =>
 bd (l1 lf v0 v3 y2 v1 v2 v3 v0 ((v0.length : Nat) : Int) (lf + 40) 0 0 v4) fun z11 =>
 bd (idxB z11.1.2.1.length (i64.wrap (v3 + ((v0.length : Nat) : Int)))) fun j12 =>
 bd (upE z11.1.2.1 j12 fun _ => some z11.1.1) fun q13 =>
 K (i64.wrap (v3 + 1)) q13) (
 E0 v4)
def l0 (lf : Nat) (v0 v1 : List Int) (v2 : Int) : Nat → Int → (List Int) → Option (((List Int) × Unit) × Unit)
 | 0, _, _ => none
 | n + 1, v3, v4 => r0 lf v0 v1 v2 v3 v4 (l0 lf v0 v1 v2 n) (fun w0 => some ((w0, ()), ()))
def sh0 : ShS := ⟨[.a 1, .s (.sl (.int .i64)), .a 3, .s (.row 0), .a 11, .s (.sl (.int .i64)), .s (.int .i64), .s (.int .i64), .a 43], [.row (.int .i64) 3 false]⟩
def S0 (p : (List Int) × (List Int) × Int × Int × (List Int) × Unit) : St := sh0.b p
def xh1 : ShS := ⟨[.a 5, .s (.row 0), .a 57], [.row (.int .i64) 3 false]⟩
def o0 (v0 v1 : List Int) (v2 : Int) (y : ((List Int) × Unit) × Unit) : Alt := .one (.exit 0) (xh1.b (y.1.1, ()))
def tb (lf : Nat) : List (FuncId × Entry) := [(310, bigint_trim.E lf)]
def s13_282 (lf : Nat) : List (Nat × (St → Option LTE)) := [(0, sumE sh0 fun (p : (List Int) × (List Int) × Int × Int × (List Int) × Unit) => ⟨((List Int) × Unit) × Unit, l0 lf p.1 p.2.1 p.2.2.1 (lf + 40) p.2.2.2.1 p.2.2.2.2.1, o0 p.1 p.2.1 p.2.2.1⟩),
 (1, sumE sh1 fun (p : (List Int) × Int × Int × Int × (List Int) × Int × Int × (List Int) × Int × Int × (List Int) × Unit) => ⟨(Int × (List Int) × Unit) × Unit, l1 lf p.1 p.2.1 p.2.2.1 p.2.2.2.2.1 p.2.2.2.2.2.1 p.2.2.2.2.2.2.1 p.2.2.2.2.2.2.2.1 p.2.2.2.2.2.2.2.2.1 (lf + 40) p.2.2.2.1 p.2.2.2.2.2.2.2.2.2.1 p.2.2.2.2.2.2.2.2.2.2.1, o1 p.1 p.2.1 p.2.2.1 p.2.2.2.2.1 p.2.2.2.2.2.1 p.2.2.2.2.2.2.1 p.2.2.2.2.2.2.2.1 p.2.2.2.2.2.2.2.2.1⟩)]
def ls (lf : Nat) : List (Nat × FuncId × Sums) := [(13, 282, sumsL (s13_282 lf))]
def it1 {ρ : Type} (lf n : Nat) (st : St) (k : KE ρ) : Option ρ := itG anns (ls lf) (tb lf) lf 13 282 1 1 (sumsL (s13_282 lf)) n st k
theorem t1 {ρ : Type} (lf n : Nat) (v0 : List Int) (v1 v2 v3 : Int) (v4 : List Int) (v5 v6 : Int) (v7 : List Int) (v8 v9 : Int) (v10 : List Int) (k : KE ρ) : it1 lf (n + 1) (S1 (v0, v1, v2, v3, v4, v5, v6, v7, v8, v9, v10, ())) k = r1 lf v0 v1 v2 v4 v5 v6 v7 v8 v3 v9 v10 (fun x0 x1 x2 => it1 lf n (S1 (v0, v1, v2, x0, v4, v5, v6, v7, v8, x1, x2, ())) k) (fun w0 w1 => k (.exit 2) (xh0.b (v0, v1, w0, v4, v5, v6, w1, ()))) := by kernel_rfl
theorem u1 {ρ : Type} (lf : Nat) (v0 : List Int) (v1 v2 : Int) (v4 : List Int) (v5 v6 : Int) (v7 : List Int) (v8 : Int) (k : KE ρ) : ∀ (n : Nat) (v3 v9 : Int) (v10 : List Int), it1 lf n (S1 (v0, v1, v2, v3, v4, v5, v6, v7, v8, v9, v10, ())) k = bd (l1 lf v0 v1 v2 v4 v5 v6 v7 v8 n v3 v9 v10) fun y => altK k (o1 v0 v1 v2 v4 v5 v6 v7 v8 y)
 | 0, _, _, _ => by rw [l1, bd_none]; rfl
 | n + 1, v3, v9, v10 => by
  rw [t1]; simp only [l1, r1, u1 lf v0 v1 v2 v4 v5 v6 v7 v8 k n, bd_br, bd_bd, bd_some', bd_none, br_t, br_f, o1, altK]
def it0 {ρ : Type} (lf n : Nat) (st : St) (k : KE ρ) : Option ρ := itG anns (ls lf) (tb lf) lf 13 282 0 1 (sumsL (s13_282 lf)) n st k
theorem t0 {ρ : Type} (lf n : Nat) (v0 v1 : List Int) (v2 v3 : Int) (v4 : List Int) (k : KE ρ) : it0 lf (n + 1) (S0 (v0, v1, v2, v3, v4, ())) k = r0 lf v0 v1 v2 v3 v4 (fun x0 x1 => it0 lf n (S0 (v0, v1, v2, x0, x1, ())) k) (fun w0 => k (.exit 0) (xh1.b (w0, ()))) := by kernel_rfl
theorem u0 {ρ : Type} (lf : Nat) (v0 v1 : List Int) (v2 : Int) (k : KE ρ) : ∀ (n : Nat) (v3 : Int) (v4 : List Int), it0 lf n (S0 (v0, v1, v2, v3, v4, ())) k = bd (l0 lf v0 v1 v2 n v3 v4) fun y => altK k (o0 v0 v1 v2 y)
 | 0, _, _ => by rw [l0, bd_none]; rfl
 | n + 1, v3, v4 => by
  rw [t0]; simp only [l0, r0, u0 lf v0 v1 v2 k n, bd_br, bd_bd, bd_some', bd_none, br_t, br_f, o0, altK]
theorem sl (lf : Nat) : SL anns (ls lf) (tb lf) lf (ls lf) := slC (laC (fun _ => by kernel_rfl) (fun _ (x : (List Int) × (List Int) × Int × Int × (List Int) × Unit) k => leq_of (u0 lf x.1 x.2.1 x.2.2.1 k (lf + 40) x.2.2.2.1 x.2.2.2.2.1)) (laC (fun _ => by kernel_rfl) (fun _ (x : (List Int) × Int × Int × Int × (List Int) × Int × Int × (List Int) × Int × Int × (List Int) × Unit) k => leq_of (u1 lf x.1 x.2.1 x.2.2.1 x.2.2.2.2.1 x.2.2.2.2.2.1 x.2.2.2.2.2.2.1 x.2.2.2.2.2.2.2.1 x.2.2.2.2.2.2.2.2.1 k (lf + 40) x.2.2.2.1 x.2.2.2.2.2.2.2.2.2.1 x.2.2.2.2.2.2.2.2.2.2.1)) laN)) slN
def f (lf : Nat) (a0 : List Int) (a1 : List Int) : Option ((List Int) × Unit) :=
 bd (mkL (i64.wrap (((a0.length : Nat) : Int) + ((a1.length : Nat) : Int))) (i64.wrap (((a0.length : Nat) : Int) + ((a1.length : Nat) : Int))) 8 0) fun q1 =>
 bd (l0 lf a1 a0 ((a0.length : Nat) : Int) (lf + 40) 0 q1) fun z15 =>
 bd (bigint_trim.f lf z15.1.1) fun r16 =>
 some (r16.1, ())
def E (lf : Nat) : Entry := ⟨[(.sl (.int .i64)), (.sl (.int .i64))], [(.sl (.int .i64))], fun x => f lf x.1 x.2.1⟩
theorem ok (lf : Nat) : Ok 282 (E lf) := okL (tC (bigint_trim.ok lf) tN) (aoC aoN) (sl lf) fun x => by kernel_rfl
end bigint_times
namespace bigint_short
def anns : FuncId → FA := annsL [(309, ⟨annOf [(0, ⟨kx 33 [3, 6, 7], [], []⟩, ⟨[], [], []⟩)], none, []⟩), (319, ⟨annOf [(0, ⟨kx 19 [0, 1, 3], [], []⟩, ⟨kx 19 [], [], []⟩)], none, []⟩)]
def r0 {ρ : Type} (lf : Nat) (v1 : Int) (v4 : List Int) (v0 : Int) (v2 : List Int) (v3 : Int) (K : Int → (List Int) → Int → Option ρ) (E0 : (List Int) → Int → Option ρ) : Option ρ :=
 br (decide (v0 ≥ 0)) (
 bd (idxL v4 v0) fun y2 =>
 bd (iQuo .i64 (i64.wrap ((i64.wrap (v3 * 1000000000)) + y2)) v1) fun r3 =>
 bd (iRem (i64.wrap ((i64.wrap (v3 * 1000000000)) + y2)) v1) fun r4 =>
 bd (idxB v2.length v0) fun j5 =>
 bd (upE v2 j5 fun _ => some r3) fun q6 =>
 K (i64.wrap (v0 - 1)) q6 r4) (
 E0 v2 v3)
def l0 (lf : Nat) (v1 : Int) (v4 : List Int) : Nat → Int → (List Int) → Int → Option (((List Int) × Int × Unit) × Unit)
 | 0, _, _, _ => none
 | n + 1, v0, v2, v3 => r0 lf v1 v4 v0 v2 v3 (l0 lf v1 v4 n) (fun w0 w1 => some ((w0, w1, ()), ()))
def sh0 : ShS := ⟨[.s (.yld 5), .s (.ptr 4 0), .a 1, .s (.int .i64), .a 15], [.cells [.s (.int .i64)] 3, .row (.int .i64) 3 false, .cells [.s (.row 1)] 227, .cells [.s (.int .i64)] 3, .cells [.s (.sl (.int .i64))] 227, .rnd [.a 3, .s (.ptr 0 0), .a 2, .s (.ptr 2 0), .s (.ptr 3 0), .a 25] 309 0 .ready none]⟩
def S0 (p : Int × Int × (List Int) × Int × (List Int) × Unit) : St := sh0.b p
def xh0 : ShS := ⟨[.a 19], [.cells [.s (.int .i64)] 3, .row (.int .i64) 3 false, .cells [.s (.row 1)] 227, .cells [.s (.int .i64)] 3, .cells [.s (.sl (.int .i64))] 227, .rnd [.a 3, .s (.ptr 0 0), .a 2, .s (.ptr 2 0), .s (.ptr 3 0), .a 25] 309 0 .ready none]⟩
def o0 (v1 : Int) (v4 : List Int) (y : ((List Int) × Int × Unit) × Unit) : Alt := .one (.exit 0) (xh0.b (v1, y.1.1, y.1.2.1, v4, ()))
def tb (lf : Nat) : List (FuncId × Entry) := [(310, bigint_trim.E lf)]
def s12_319 (lf : Nat) : List (Nat × (St → Option LTE)) := [(0, sumE sh0 fun (p : Int × Int × (List Int) × Int × (List Int) × Unit) => ⟨((List Int) × Int × Unit) × Unit, l0 lf p.2.1 p.2.2.2.2.1 (lf + 40) p.1 p.2.2.1 p.2.2.2.1, o0 p.2.1 p.2.2.2.2.1⟩)]
def ls (lf : Nat) : List (Nat × FuncId × Sums) := [(12, 319, sumsL (s12_319 lf))]
def it0 {ρ : Type} (lf n : Nat) (st : St) (k : KE ρ) : Option ρ := itG anns (ls lf) (tb lf) lf 12 319 0 6 (sumsL (s12_319 lf)) n st k
theorem t0 {ρ : Type} (lf n : Nat) (v0 v1 : Int) (v2 : List Int) (v3 : Int) (v4 : List Int) (k : KE ρ) : it0 lf (n + 1) (S0 (v0, v1, v2, v3, v4, ())) k = r0 lf v1 v4 v0 v2 v3 (fun x0 x1 x2 => it0 lf n (S0 (x0, v1, x1, x2, v4, ())) k) (fun w0 w1 => k (.exit 0) (xh0.b (v1, w0, w1, v4, ()))) := by kernel_rfl
theorem u0 {ρ : Type} (lf : Nat) (v1 : Int) (v4 : List Int) (k : KE ρ) : ∀ (n : Nat) (v0 : Int) (v2 : List Int) (v3 : Int), it0 lf n (S0 (v0, v1, v2, v3, v4, ())) k = bd (l0 lf v1 v4 n v0 v2 v3) fun y => altK k (o0 v1 v4 y)
 | 0, _, _, _ => by rw [l0, bd_none]; rfl
 | n + 1, v0, v2, v3 => by
  rw [t0]; simp only [l0, r0, u0 lf v1 v4 k n, bd_br, bd_bd, bd_some', bd_none, br_t, br_f, o0, altK]
theorem sl (lf : Nat) : SL anns (ls lf) (tb lf) lf (ls lf) := slC (laC (fun _ => by kernel_rfl) (fun _ (x : Int × Int × (List Int) × Int × (List Int) × Unit) k => leq_of (u0 lf x.2.1 x.2.2.2.2.1 k (lf + 40) x.1 x.2.2.1 x.2.2.2.1)) laN) slN
def f (lf : Nat) (a0 : List Int) (a1 : Int) : Option ((List Int) × Int × Unit) :=
 bd (mkL ((a0.length : Nat) : Int) ((a0.length : Nat) : Int) 8 0) fun q1 =>
 bd (l0 lf a1 a0 (lf + 40) (i64.wrap (((a0.length : Nat) : Int) - 1)) q1 0) fun z8 =>
 bd (bigint_trim.f lf z8.1.1) fun r9 =>
 some (r9.1, z8.1.2.1, ())
def E (lf : Nat) : Entry := ⟨[(.sl (.int .i64)), (.int .i64)], [(.sl (.int .i64)), (.int .i64)], fun x => f lf x.1 x.2.1⟩
theorem ok (lf : Nat) : Ok 309 (E lf) := okL (tC (bigint_trim.ok lf) tN) (aoC (aoC aoN)) (sl lf) fun x => by kernel_rfl
end bigint_short
end
end Go.Q
