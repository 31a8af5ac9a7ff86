import Derived.Test.YthfphcemoehllaaGreatDoorProg
import Derived.KernelRfl
import Derived.Test.YthfphcemoehllaaGreatDoorE3
set_option linter.unusedVariables false
set_option linter.unusedSimpArgs false
set_option linter.unusedSectionVars false
namespace Go.Q
open Go Go.RowKit
open Go.Rx (br bd sIdx sCat sCut iQuo iRem)
set_option linter.unusedVariables false
set_option linter.unusedSimpArgs false
set_option maxRecDepth 100000
noncomputable section
namespace stringslite_HasPrefix
noncomputable def f (lf : Nat) (a0 : ByteArray) (a1 : ByteArray) : Option (Bool × Unit) :=
 br (decide (((a0.size : Nat) : Int) ≥ ((a1.size : Nat) : Int))) (
 bd (sCut a0 none (some ((a1.size : Nat) : Int))) fun r1 =>
 some ((r1.toList == a1.toList), ())) (
 some (false, ()))
noncomputable def E (lf : Nat) : Entry := ⟨[.str, .str], [.bool], fun x => f lf x.1 x.2.1⟩
theorem ok (lf : Nat) : Ok 199 (E lf) := okT (an := (annsL [])) (lf := lf) tN aoN fun x => by kernel_rfl
end stringslite_HasPrefix
namespace stringslite_CutPrefix
noncomputable def f (lf : Nat) (a0 : ByteArray) (a1 : ByteArray) : Option (ByteArray × Bool × Unit) :=
 bd (stringslite_HasPrefix.f lf a0 a1) fun r1 =>
 br (!r1.1) (
 some (a0, false, ())) (
 bd (sCut a0 (some ((a1.size : Nat) : Int)) none) fun r2 =>
 some (r2, true, ()))
noncomputable def E (lf : Nat) : Entry := ⟨[.str, .str], [.str, .bool], fun x => f lf x.1 x.2.1⟩
theorem ok (lf : Nat) : Ok 175 (E lf) := okT (an := (annsL [])) (lf := lf) (tC (stringslite_HasPrefix.ok lf) tN) aoN fun x => by kernel_rfl
end stringslite_CutPrefix
namespace stringslite_TrimPrefix
noncomputable def f (lf : Nat) (a0 : ByteArray) (a1 : ByteArray) : Option (ByteArray × Unit) :=
 bd (stringslite_HasPrefix.f lf a0 a1) fun r1 =>
 br r1.1 (
 bd (sCut a0 (some ((a1.size : Nat) : Int)) none) fun r2 =>
 some (r2, ())) (
 some (a0, ()))
noncomputable def E (lf : Nat) : Entry := ⟨[.str, .str], [.str], fun x => f lf x.1 x.2.1⟩
theorem ok (lf : Nat) : Ok 187 (E lf) := okT (an := (annsL [])) (lf := lf) (tC (stringslite_HasPrefix.ok lf) tN) aoN fun x => by kernel_rfl
end stringslite_TrimPrefix
end
end Go.Q
namespace Go.Q
open Go Go.RowKit
open Go.Rx (br bd sIdx sCat sCut iQuo iRem)
set_option linter.unusedVariables false
set_option linter.unusedSimpArgs false
set_option maxRecDepth 100000
noncomputable section
namespace strings_CutPrefix
noncomputable def f (lf : Nat) (a0 : ByteArray) (a1 : ByteArray) : Option (ByteArray × Bool × Unit) :=
 bd (stringslite_CutPrefix.f lf a0 a1) fun r1 =>
 some (r1.1, r1.2.1, ())
noncomputable def E (lf : Nat) : Entry := ⟨[.str, .str], [.str, .bool], fun x => f lf x.1 x.2.1⟩
theorem ok (lf : Nat) : Ok 148 (E lf) := okT (an := (annsL [])) (lf := lf) (tC (stringslite_CutPrefix.ok lf) tN) aoN fun x => by kernel_rfl
end strings_CutPrefix
namespace strings_TrimPrefix
noncomputable def f (lf : Nat) (a0 : ByteArray) (a1 : ByteArray) : Option (ByteArray × Unit) :=
 bd (stringslite_TrimPrefix.f lf a0 a1) fun r1 =>
 some (r1.1, ())
noncomputable def E (lf : Nat) : Entry := ⟨[.str, .str], [.str], fun x => f lf x.1 x.2.1⟩
theorem ok (lf : Nat) : Ok 160 (E lf) := okT (an := (annsL [])) (lf := lf) (tC (stringslite_TrimPrefix.ok lf) tN) aoN fun x => by kernel_rfl
end strings_TrimPrefix
end
end Go.Q
namespace Go.Q
open Go.IntKind (i64)
open Go Go.RowKit
open Go.Rx (br bd sIdx sCat sCut iQuo iRem)
set_option linter.unusedVariables false
set_option linter.unusedSimpArgs false
set_option maxRecDepth 100000
noncomputable section
namespace bigint_canonical
noncomputable def f (lf : Nat) (a0 : ByteArray) : Option (Bool × Unit) :=
 bd (strings_CutPrefix.f lf a0 (⟨#[45]⟩ : ByteArray)) fun r1 =>
 br (r1.1.toList == (⟨#[48]⟩ : ByteArray).toList) (
 some ((!r1.2.1), ())) (
 br (!(r1.1.toList == (⟨#[]⟩ : ByteArray).toList)) (
 bd (sIdx r1.1 0) fun r2 =>
 br (((r2.toNat : Nat) : Int) != 48) (
 bd (B.Trim.f lf r1.1 (⟨#[48, 49, 50, 51, 52, 53, 54, 55, 56, 57]⟩ : ByteArray)) fun r3 =>
 some ((r3.1.toList == (⟨#[]⟩ : ByteArray).toList), ())) (
 some (false, ()))) (
 some (false, ())))
noncomputable def E (lf : Nat) : Entry := ⟨[.str], [.bool], fun x => f lf x.1⟩
theorem ok (lf : Nat) : Ok 119 (E lf) := okT (an := (annsL [])) (lf := lf) (tC (strings_CutPrefix.ok lf) (tC (B.Trim.ok lf) tN)) aoN fun x => by kernel_rfl
end bigint_canonical
namespace bigint_digits
noncomputable def f (lf : Nat) (a0 : ByteArray) : Option (Int × Unit) :=
 bd (strings_TrimPrefix.f lf a0 (⟨#[45]⟩ : ByteArray)) fun r1 =>
 some (((r1.1.size : Nat) : Int), ())
noncomputable def E (lf : Nat) : Entry := ⟨[.str], [(.int .i64)], fun x => f lf x.1⟩
theorem ok (lf : Nat) : Ok 120 (E lf) := okT (an := (annsL [])) (lf := lf) (tC (strings_TrimPrefix.ok lf) tN) aoN fun x => by kernel_rfl
end bigint_digits
namespace bigint_Check
noncomputable def f (lf : Nat) (a0 : ByteArray) : Option (Int × Unit) :=
 bd (bigint_canonical.f lf a0) fun r1 =>
 br (!r1.1) (
 some (3, ())) (
 bd (bigint_digits.f lf a0) fun r2 =>
 br (decide (r2.1 > 4096)) (
 some (10, ())) (
 some (0, ())))
noncomputable def E (lf : Nat) : Entry := ⟨[.str], [(.int .i64)], fun x => f lf x.1⟩
theorem ok (lf : Nat) : Ok 77 (E lf) := okT (an := (annsL [])) (lf := lf) (tC (bigint_canonical.ok lf) (tC (bigint_digits.ok lf) tN)) aoN fun x => by kernel_rfl
end bigint_Check
namespace bigint_trim
noncomputable def anns : FuncId → FA := annsL [(149, ⟨annOf [(0, ⟨kx 21 [0], [], []⟩, ⟨kx 21 [0, 2], [], []⟩)], none, []⟩)]
noncomputable def r0 {ρ : Type} (lf : Nat) (v0 : List Int) (K : (List Int) → Option ρ) (E0 : (List Int) → Option ρ) : Option ρ :=
 br (decide (((v0.length : Nat) : Int) > 0)) (
 bd (idxL v0 (i64.wrap (((v0.length : Nat) : Int) - 1))) fun y1 =>
 br (y1 == 0) (
 bd (cutL v0 none (some (i64.wrap (((v0.length : Nat) : Int) - 1)))) fun q2 =>
 K q2) (
 E0 v0)) (
 E0 v0)
noncomputable def l0 (lf : Nat) : Nat → (List Int) → Option (((List Int) × Unit) × Unit)
 | 0, _ => none
 | n + 1, v0 => r0 lf v0 (l0 lf n) (fun w0 => some ((w0, ()), ()))
noncomputable def sh0 : ShS := ⟨[.s (.sl (.int .i64)), .a 20], []⟩
noncomputable def S0 (p : (List Int) × Unit) : St := sh0.b p
noncomputable def xh0 : ShS := ⟨[.s (.sl (.int .i64)), .a 20], []⟩
noncomputable def o0 (y : ((List Int) × Unit) × Unit) : Alt := .one (.exit 0) (xh0.b (y.1.1, ()))
noncomputable def tb (lf : Nat) : List (FuncId × Entry) := []
noncomputable def s13_149 (lf : Nat) : List (Nat × (St → Option LTE)) := [(0, sumE sh0 fun (p : (List Int) × Unit) => ⟨((List Int) × Unit) × Unit, l0 lf (lf + 40) p.1, o0⟩)]
noncomputable def ls (lf : Nat) : List (Nat × FuncId × Sums) := [(13, 149, sumsL (s13_149 lf))]
noncomputable def it0 {ρ : Type} (lf n : Nat) (st : St) (k : KE ρ) : Option ρ := itG anns (ls lf) (tb lf) lf 13 149 0 0 (sumsL (s13_149 lf)) n st k
theorem t0 {ρ : Type} (lf n : Nat) (v0 : List Int) (k : KE ρ) : it0 lf (n + 1) (S0 (v0, ())) k = r0 lf v0 (fun x0 => it0 lf n (S0 (x0, ())) k) (fun w0 => k (.exit 0) (xh0.b (w0, ()))) := by kernel_rfl
theorem u0 {ρ : Type} (lf : Nat) (k : KE ρ) : ∀ (n : Nat) (v0 : List Int), it0 lf n (S0 (v0, ())) k = bd (l0 lf n v0) fun y => altK k (o0 y)
 | 0, _ => by rw [l0, bd_none]; rfl
 | n + 1, v0 => by
  rw [t0]; simp only [l0, r0, u0 lf k n, bd_br, bd_bd, bd_some', bd_none, br_t, br_f, o0, altK]
theorem sl (lf : Nat) : SL anns (ls lf) (tb lf) lf (ls lf) := slC (laC (fun _ => by kernel_rfl) (fun _ (x : (List Int) × Unit) k => leq_of (u0 lf k (lf + 40) x.1)) laN) slN
noncomputable def f (lf : Nat) (a0 : List Int) : Option ((List Int) × Unit) :=
 bd (l0 lf (lf + 40) a0) fun z3 =>
 some (z3.1.1, ())
noncomputable def E (lf : Nat) : Entry := ⟨[(.sl (.int .i64))], [(.sl (.int .i64))], fun x => f lf x.1⟩
theorem ok (lf : Nat) : Ok 149 (E lf) := okL tN (aoC aoN) (sl lf) fun x => by kernel_rfl
end bigint_trim
namespace bigint_read
noncomputable def anns : FuncId → FA := annsL [(176, ⟨annOf [(0, ⟨kx 13 [2], [], []⟩, ⟨[], [], []⟩)], none, []⟩), (177, ⟨annOf [(0, ⟨kx 26 [0, 1, 3], [⟨.ref 2 0, (.int .i64), 3⟩], []⟩, ⟨kx 26 [], [⟨.ref 2 0, (.int .i64), 3⟩], []⟩)], none, []⟩)]
noncomputable def r0 {ρ : Type} (lf : Nat) (v1 : Bool) (v2 : ByteArray) (v0 : Int) (v3 : List Int) (K : Int → (List Int) → Option ρ) (E0 : (List Int) → Option ρ) : Option ρ :=
 br (decide (v0 > 0)) (
 bd (sCut v2 (some (if (i64.wrap (v0 - 9)) > 0 then (i64.wrap (v0 - 9)) else 0)) (some v0)) fun r2 =>
 bd (B.Atoi.f lf r2) fun r3 =>
 bd (apL true 8 v3 [r3.1]) fun q4 =>
 K (i64.wrap (v0 - 9)) q4) (
 E0 v3)
noncomputable def l0 (lf : Nat) (v1 : Bool) (v2 : ByteArray) : Nat → Int → (List Int) → Option (((List Int) × Unit) × Unit)
 | 0, _, _ => none
 | n + 1, v0, v3 => r0 lf v1 v2 v0 v3 (l0 lf v1 v2 n) (fun w0 => some ((w0, ()), ()))
noncomputable def sh0 : ShS := ⟨[.s (.yld 3), .s (.ptr 1 0), .a 1, .s (.int .i64), .a 22], [.cells [.s .bool, .s .nil] 98, .cells [.s .str] 9, .cells [.s (.row 4)] 96, .rnd [.a 2, .s (.ptr 2 0), .a 10] 176 0 .ready none, .row (.int .i64) 3 false]⟩
noncomputable def S0 (p : Int × Bool × ByteArray × (List Int) × Unit) : St := sh0.b p
noncomputable def xh0 : ShS := ⟨[.a 26], [.cells [.s .bool, .s .nil] 98, .cells [.s .str] 9, .cells [.s (.row 4)] 96, .rnd [.a 2, .s (.ptr 2 0), .a 10] 176 0 .ready none, .row (.int .i64) 3 false]⟩
noncomputable def o0 (v1 : Bool) (v2 : ByteArray) (y : ((List Int) × Unit) × Unit) : Alt := .one (.exit 0) (xh0.b (v1, v2, y.1.1, ()))
noncomputable def tb (lf : Nat) : List (FuncId × Entry) := [(148, strings_CutPrefix.E lf), (149, bigint_trim.E lf), (178, B.Atoi.E lf)]
noncomputable def s10_177 (lf : Nat) : List (Nat × (St → Option LTE)) := [(0, sumE sh0 fun (p : Int × Bool × ByteArray × (List Int) × Unit) => ⟨((List Int) × Unit) × Unit, l0 lf p.2.1 p.2.2.1 (lf + 40) p.1 p.2.2.2.1, o0 p.2.1 p.2.2.1⟩)]
noncomputable def ls (lf : Nat) : List (Nat × FuncId × Sums) := [(10, 177, sumsL (s10_177 lf))]
noncomputable def it0 {ρ : Type} (lf n : Nat) (st : St) (k : KE ρ) : Option ρ := itG anns (ls lf) (tb lf) lf 10 177 0 4 (sumsL (s10_177 lf)) n st k
theorem t0 {ρ : Type} (lf n : Nat) (v0 : Int) (v1 : Bool) (v2 : ByteArray) (v3 : List Int) (k : KE ρ) : it0 lf (n + 1) (S0 (v0, v1, v2, v3, ())) k = r0 lf v1 v2 v0 v3 (fun x0 x1 => it0 lf n (S0 (x0, v1, v2, x1, ())) k) (fun w0 => k (.exit 0) (xh0.b (v1, v2, w0, ()))) := by kernel_rfl
theorem u0 {ρ : Type} (lf : Nat) (v1 : Bool) (v2 : ByteArray) (k : KE ρ) : ∀ (n : Nat) (v0 : Int) (v3 : List Int), it0 lf n (S0 (v0, v1, v2, v3, ())) k = bd (l0 lf v1 v2 n v0 v3) fun y => altK k (o0 v1 v2 y)
 | 0, _, _ => by rw [l0, bd_none]; rfl
 | n + 1, v0, v3 => by
  rw [t0]; simp only [l0, r0, u0 lf v1 v2 k n, bd_br, bd_bd, bd_some', bd_none, br_t, br_f, o0, altK]
theorem sl (lf : Nat) : SL anns (ls lf) (tb lf) lf (ls lf) := slC (laC (fun _ => by kernel_rfl) (fun _ (x : Int × Bool × ByteArray × (List Int) × Unit) k => leq_of (u0 lf x.2.1 x.2.2.1 k (lf + 40) x.1 x.2.2.2.1)) laN) slN
noncomputable def f (lf : Nat) (a0 : ByteArray) : Option ((Bool × ((List Int) × Unit)) × Unit) :=
 bd (strings_CutPrefix.f lf a0 (⟨#[45]⟩ : ByteArray)) fun r1 =>
 bd (l0 lf false r1.1 (lf + 40) ((r1.1.size : Nat) : Int) []) fun z5 =>
 bd (bigint_trim.f lf z5.1.1) fun r6 =>
 some ((r1.2.1, r6.1, ()), ())
noncomputable def E (lf : Nat) : Entry := ⟨[.str], [(.pair .bool (.pair (.sl (.int .i64)) .unit))], fun x => f lf x.1⟩
theorem ok (lf : Nat) : Ok 109 (E lf) := okL (tC (strings_CutPrefix.ok lf) (tC (bigint_trim.ok lf) (tC (B.Atoi.ok lf) tN))) (aoC (aoC aoN)) (sl lf) fun x => by kernel_rfl
end bigint_read
namespace bigint_pair
noncomputable def f (lf : Nat) (a0 : ByteArray) (a1 : ByteArray) : Option ((Bool × ((List Int) × Unit)) × (Bool × ((List Int) × Unit)) × Int × Unit) :=
 bd (bigint_Check.f lf a0) fun r1 =>
 br (r1.1 != 0) (
 some ((false, [], ()), (false, [], ()), r1.1, ())) (
 bd (bigint_Check.f lf a1) fun r2 =>
 br (r2.1 != 0) (
 some ((false, [], ()), (false, [], ()), r2.1, ())) (
 bd (bigint_read.f lf a0) fun r3 =>
 bd (bigint_read.f lf a1) fun r4 =>
 some (r3.1, r4.1, 0, ())))
noncomputable def E (lf : Nat) : Entry := ⟨[.str, .str], [(.pair .bool (.pair (.sl (.int .i64)) .unit)), (.pair .bool (.pair (.sl (.int .i64)) .unit)), (.int .i64)], fun x => f lf x.1 x.2.1⟩
theorem ok (lf : Nat) : Ok 72 (E lf) := okT (an := (annsL [])) (lf := lf) (tC (bigint_Check.ok lf) (tC (bigint_read.ok lf) tN)) aoN fun x => by kernel_rfl
end bigint_pair
namespace bigint_sign
noncomputable def f (lf : Nat) (a0 : Bool × ((List Int) × Unit)) : Option (Int × Unit) :=
 br (((a0.2.1.length : Nat) : Int) == 0) (
 some (0, ())) (
 br a0.1 (
 some ((-1), ())) (
 some (1, ())))
noncomputable def E (lf : Nat) : Entry := ⟨[(.pair .bool (.pair (.sl (.int .i64)) .unit))], [(.int .i64)], fun x => f lf x.1⟩
theorem ok (lf : Nat) : Ok 73 (E lf) := okT (an := (annsL [])) (lf := lf) tN aoN fun x => by kernel_rfl
end bigint_sign
namespace bigint_plus
noncomputable def anns : FuncId → FA := annsL [(152, ⟨annOf [(0, ⟨kx 54 [0, 1, 5, 6, 20, 21], [], []⟩, ⟨kx 54 [4, 5], [], []⟩)], none, []⟩)]
noncomputable def r0 {ρ : Type} (lf : Nat) (v0 v1 : List Int) (v3 : Int) (v2 v4 : Int) (v5 : List Int) (K : Int → Int → (List Int) → Option ρ) (E0 : (List Int) → Option ρ) : Option ρ :=
 br (decide (v4 < v3)) (
 br (decide (v4 < ((v0.length : Nat) : Int))) (
 bd (idxL v0 v4) fun y2 =>
 br (decide (v4 < ((v1.length : Nat) : Int))) (
 bd (idxL v1 v4) fun y3 =>
 bd (iRem (i64.wrap ((i64.wrap (v2 + y2)) + y3)) 1000000000) fun r4 =>
 bd (iQuo .i64 (i64.wrap ((i64.wrap (v2 + y2)) + y3)) 1000000000) fun r5 =>
 bd (idxB v5.length v4) fun j6 =>
 bd (upE v5 j6 fun _ => some r4) fun q7 =>
 K r5 (i64.wrap (v4 + 1)) q7) (
 bd (iRem (i64.wrap (v2 + y2)) 1000000000) fun r9 =>
 bd (iQuo .i64 (i64.wrap (v2 + y2)) 1000000000) fun r10 =>
 bd (idxB v5.length v4) fun j11 =>
 bd (upE v5 j11 fun _ => some r9) fun q12 =>
 K r10 (i64.wrap (v4 + 1)) q12)) (
 br (decide (v4 < ((v1.length : Nat) : Int))) (
 bd (idxL v1 v4) fun y14 =>
 bd (iRem (i64.wrap (v2 + y14)) 1000000000) fun r15 =>
 bd (iQuo .i64 (i64.wrap (v2 + y14)) 1000000000) fun r16 =>
 bd (idxB v5.length v4) fun j17 =>
 bd (upE v5 j17 fun _ => some r15) fun q18 =>
 K r16 (i64.wrap (v4 + 1)) q18) (
 bd (iRem v2 1000000000) fun r20 =>
 bd (iQuo .i64 v2 1000000000) fun r21 =>
 bd (idxB v5.length v4) fun j22 =>
 bd (upE v5 j22 fun _ => some r20) fun q23 =>
 K r21 (i64.wrap (v4 + 1)) q23))) (
 E0 v5)
noncomputable def l0 (lf : Nat) (v0 v1 : List Int) (v3 : Int) : Nat → Int → Int → (List Int) → Option (((List Int) × Unit) × Unit)
 | 0, _, _, _ => none
 | n + 1, v2, v4, v5 => r0 lf v0 v1 v3 v2 v4 v5 (l0 lf v0 v1 v3 n) (fun w0 => some ((w0, ()), ()))
noncomputable def sh0 : ShS := ⟨[.s (.sl (.int .i64)), .s (.sl (.int .i64)), .a 3, .s (.row 0), .s (.int .i64), .a 13, .s (.int .i64), .s (.int .i64), .a 32], [.row (.int .i64) 3 false]⟩
noncomputable def S0 (p : (List Int) × (List Int) × Int × Int × Int × (List Int) × Unit) : St := sh0.b p
noncomputable def xh0 : ShS := ⟨[.a 5, .s (.row 0), .a 48], [.row (.int .i64) 3 false]⟩
noncomputable def o0 (v0 v1 : List Int) (v3 : Int) (y : ((List Int) × Unit) × Unit) : Alt := .one (.exit 0) (xh0.b (y.1.1, ()))
noncomputable def tb (lf : Nat) : List (FuncId × Entry) := [(149, bigint_trim.E lf)]
noncomputable def s13_152 (lf : Nat) : List (Nat × (St → Option LTE)) := [(0, sumE sh0 fun (p : (List Int) × (List Int) × Int × Int × Int × (List Int) × Unit) => ⟨((List Int) × Unit) × Unit, l0 lf p.1 p.2.1 p.2.2.2.1 (lf + 40) p.2.2.1 p.2.2.2.2.1 p.2.2.2.2.2.1, o0 p.1 p.2.1 p.2.2.2.1⟩)]
noncomputable def ls (lf : Nat) : List (Nat × FuncId × Sums) := [(13, 152, sumsL (s13_152 lf))]
noncomputable def it0 {ρ : Type} (lf n : Nat) (st : St) (k : KE ρ) : Option ρ := itG anns (ls lf) (tb lf) lf 13 152 0 1 (sumsL (s13_152 lf)) n st k
theorem t0 {ρ : Type} (lf n : Nat) (v0 v1 : List Int) (v2 v3 v4 : Int) (v5 : List Int) (k : KE ρ) : it0 lf (n + 1) (S0 (v0, v1, v2, v3, v4, v5, ())) k = r0 lf v0 v1 v3 v2 v4 v5 (fun x0 x1 x2 => it0 lf n (S0 (v0, v1, x0, v3, x1, x2, ())) k) (fun w0 => k (.exit 0) (xh0.b (w0, ()))) := by kernel_rfl
theorem u0 {ρ : Type} (lf : Nat) (v0 v1 : List Int) (v3 : Int) (k : KE ρ) : ∀ (n : Nat) (v2 v4 : Int) (v5 : List Int), it0 lf n (S0 (v0, v1, v2, v3, v4, v5, ())) k = bd (l0 lf v0 v1 v3 n v2 v4 v5) fun y => altK k (o0 v0 v1 v3 y)
 | 0, _, _, _ => by rw [l0, bd_none]; rfl
 | n + 1, v2, v4, v5 => by
  rw [t0]; simp only [l0, r0, u0 lf v0 v1 v3 k n, bd_br, bd_bd, bd_some', bd_none, br_t, br_f, o0, altK]
theorem sl (lf : Nat) : SL anns (ls lf) (tb lf) lf (ls lf) := slC (laC (fun _ => by kernel_rfl) (fun _ (x : (List Int) × (List Int) × Int × Int × Int × (List Int) × Unit) k => leq_of (u0 lf x.1 x.2.1 x.2.2.2.1 k (lf + 40) x.2.2.1 x.2.2.2.2.1 x.2.2.2.2.2.1)) laN) slN
noncomputable def f (lf : Nat) (a0 : List Int) (a1 : List Int) : Option ((List Int) × Unit) :=
 br (decide (((a0.length : Nat) : Int) < ((a1.length : Nat) : Int))) (
 bd (mkL (i64.wrap (((a1.length : Nat) : Int) + 1)) (i64.wrap (((a1.length : Nat) : Int) + 1)) 8 0) fun q1 =>
 bd (l0 lf a1 a0 ((q1.length : Nat) : Int) (lf + 40) 0 0 q1) fun z25 =>
 bd (bigint_trim.f lf z25.1.1) fun r26 =>
 some (r26.1, ())) (
 bd (mkL (i64.wrap (((a0.length : Nat) : Int) + 1)) (i64.wrap (((a0.length : Nat) : Int) + 1)) 8 0) fun q27 =>
 bd (l0 lf a0 a1 ((q27.length : Nat) : Int) (lf + 40) 0 0 q27) fun z28 =>
 bd (bigint_trim.f lf z28.1.1) fun r29 =>
 some (r29.1, ()))
noncomputable def E (lf : Nat) : Entry := ⟨[(.sl (.int .i64)), (.sl (.int .i64))], [(.sl (.int .i64))], fun x => f lf x.1 x.2.1⟩
theorem ok (lf : Nat) : Ok 152 (E lf) := okL (tC (bigint_trim.ok lf) tN) (aoC aoN) (sl lf) fun x => by kernel_rfl
end bigint_plus
namespace bigint_operations_1
noncomputable def f (lf : Nat) (a0 : Bool × ((List Int) × Unit)) (a1 : Bool × ((List Int) × Unit)) : Option (Bool × Unit) :=
 some (a0.1, ())
noncomputable def E (lf : Nat) : Entry := ⟨[(.pair .bool (.pair (.sl (.int .i64)) .unit)), (.pair .bool (.pair (.sl (.int .i64)) .unit))], [.bool], fun x => f lf x.1 x.2.1⟩
theorem ok (lf : Nat) : Ok 153 (E lf) := okT (an := (annsL [])) (lf := lf) tN aoN fun x => by kernel_rfl
end bigint_operations_1
namespace bigint_order
noncomputable def anns : FuncId → FA := annsL [(155, ⟨annOf [(0, ⟨kx 33 [3, 4], [], []⟩, ⟨[], [], []⟩)], none, []⟩), (202, ⟨annOf [(0, ⟨kx 19 [0, 1, 3], [], []⟩, ⟨kx 19 [], [], []⟩)], none, []⟩)]
noncomputable def r0 {ρ : Type} (lf : Nat) (v1 : List Int) (v2 : Int) (v3 : List Int) (v0 : Int) (K : Int → Option ρ) (E0 : Int → Option ρ) (E1 : Option ρ) : Option ρ :=
 br (decide (v0 ≥ 0)) (
 bd (idxL v3 v0) fun y1 =>
 bd (idxL v1 v0) fun y2 =>
 br (y1 != y2) (
 bd (idxL v1 v0) fun y3 =>
 E0 (i64.wrap (y1 - y3))) (
 K (i64.wrap (v0 - 1)))) (
 E1)
noncomputable def l0 (lf : Nat) (v1 : List Int) (v2 : Int) (v3 : List Int) : Nat → Int → Option (Bool × (Int × Unit) × (Unit) × Unit)
 | 0, _ => none
 | n + 1, v0 => r0 lf v1 v2 v3 v0 (l0 lf v1 v2 v3 n) (fun w0 => some (true, (w0, ()), ((()), ()))) (some (false, (0, ()), ((()), ())))
noncomputable def sh0 : ShS := ⟨[.s (.yld 3), .s (.ptr 2 0), .a 1, .s (.int .i64), .a 15], [.cells [.s (.sl (.int .i64))] 96, .cells [.s (.int .i64)] 3, .cells [.s (.sl (.int .i64))] 96, .rnd [.a 3, .s (.ptr 0 0), .s (.ptr 1 0), .a 28] 155 0 .ready none]⟩
noncomputable def S0 (p : Int × (List Int) × Int × (List Int) × Unit) : St := sh0.b p
noncomputable def xh0 : ShS := ⟨[.a 19], [.cells [.s (.sl (.int .i64))] 96, .cells [.s (.int .i64)] 3, .cells [.s (.sl (.int .i64))] 96, .rnd [.a 3, .s (.ptr 0 0), .s (.ptr 1 0), .a 28] 155 0 .done (some .ret)]⟩
noncomputable def xh1 : ShS := ⟨[.a 19], [.cells [.s (.sl (.int .i64))] 96, .cells [.s (.int .i64)] 3, .cells [.s (.sl (.int .i64))] 96, .rnd [.a 3, .s (.ptr 0 0), .s (.ptr 1 0), .a 28] 155 0 .ready none]⟩
noncomputable def o0 (v1 : List Int) (v2 : Int) (v3 : List Int) (y : Bool × (Int × Unit) × (Unit) × Unit) : Alt := .two y.1 (.one .ret (xh0.b (v1, y.2.1.1, v3, ()))) (.one (.exit 0) (xh1.b (v1, v2, v3, ())))
noncomputable def tb (lf : Nat) : List (FuncId × Entry) := []
noncomputable def s12_202 (lf : Nat) : List (Nat × (St → Option LTE)) := [(0, sumE sh0 fun (p : Int × (List Int) × Int × (List Int) × Unit) => ⟨Bool × (Int × Unit) × (Unit) × Unit, l0 lf p.2.1 p.2.2.1 p.2.2.2.1 (lf + 40) p.1, o0 p.2.1 p.2.2.1 p.2.2.2.1⟩)]
noncomputable def ls (lf : Nat) : List (Nat × FuncId × Sums) := [(12, 202, sumsL (s12_202 lf))]
noncomputable def it0 {ρ : Type} (lf n : Nat) (st : St) (k : KE ρ) : Option ρ := itG anns (ls lf) (tb lf) lf 12 202 0 4 (sumsL (s12_202 lf)) n st k
theorem t0 {ρ : Type} (lf n : Nat) (v0 : Int) (v1 : List Int) (v2 : Int) (v3 : List Int) (k : KE ρ) : it0 lf (n + 1) (S0 (v0, v1, v2, v3, ())) k = r0 lf v1 v2 v3 v0 (fun x0 => it0 lf n (S0 (x0, v1, v2, v3, ())) k) (fun w0 => k .ret (xh0.b (v1, w0, v3, ()))) (k (.exit 0) (xh1.b (v1, v2, v3, ()))) := by kernel_rfl
theorem u0 {ρ : Type} (lf : Nat) (v1 : List Int) (v2 : Int) (v3 : List Int) (k : KE ρ) : ∀ (n : Nat) (v0 : Int), it0 lf n (S0 (v0, v1, v2, v3, ())) k = bd (l0 lf v1 v2 v3 n v0) fun y => altK k (o0 v1 v2 v3 y)
 | 0, _ => by rw [l0, bd_none]; rfl
 | n + 1, v0 => by
  rw [t0]; simp only [l0, r0, u0 lf v1 v2 v3 k n, bd_br, bd_bd, bd_some', bd_none, br_t, br_f, o0, altK]
theorem sl (lf : Nat) : SL anns (ls lf) (tb lf) lf (ls lf) := slC (laC (fun _ => by kernel_rfl) (fun _ (x : Int × (List Int) × Int × (List Int) × Unit) k => leq_of (u0 lf x.2.1 x.2.2.1 x.2.2.2.1 k (lf + 40) x.1)) laN) slN
noncomputable def f (lf : Nat) (a0 : List Int) (a1 : List Int) : Option (Int × Unit) :=
 br (((a0.length : Nat) : Int) != ((a1.length : Nat) : Int)) (
 some ((i64.wrap (((a0.length : Nat) : Int) - ((a1.length : Nat) : Int))), ())) (
 bd (l0 lf a1 0 a0 (lf + 40) (i64.wrap (((a0.length : Nat) : Int) - 1))) fun z4 =>
 br z4.1 (
 some (z4.2.1.1, ())) (
 some (0, ())))
noncomputable def E (lf : Nat) : Entry := ⟨[(.sl (.int .i64)), (.sl (.int .i64))], [(.int .i64)], fun x => f lf x.1 x.2.1⟩
theorem ok (lf : Nat) : Ok 155 (E lf) := okL tN (aoC (aoC aoN)) (sl lf) fun x => by kernel_rfl
end bigint_order
end
end Go.Q
