import Derived.Test.YtfogkflaijhfoaaGreatDoorProg
import Derived.KernelRfl
import Derived.Test.YtfogkflaijhfoaaGreatDoorVWE3
import Derived.Test.YtfogkflaijhfoaaGreatDoorVWG1
import Derived.Test.YtfogkflaijhfoaaGreatDoorVWG2
set_option linter.unusedVariables false
set_option linter.unusedSimpArgs false
set_option linter.unusedSectionVars false
set_option maxRecDepth 100000
namespace Go.Q
open Go.IntKind (i64)
open Go Go.RowKit
open Go.Rx (br bd sIdx sCat sCut iQuo iRem)
noncomputable section
namespace bigint_plus
def anns : FuncId → FA := annsL [(370, ⟨annOf [(0, ⟨kx 54 [0, 1, 5, 6, 20, 21], [], []⟩, ⟨kx 54 [4, 5], [], []⟩)], none, []⟩)]
def r0 {ρ : Type} (lf : Nat) (v0 v1 : List Int) (v3 : Int) (v2 v4 : Int) (v5 : List Int) (K : Int → Int → (List Int) → Option ρ) (E0 : (List Int) → Option ρ) : Option ρ :=
 br (decide (v4 < v3)) (
 br (decide (v4 < ((v0.length : Nat) : Int))) (
 bd (idxL v0 v4) fun y2 =>
 br (decide (v4 < ((v1.length : Nat) : Int))) (
 bd (idxL v1 v4) fun y3 =>
 bd (iRem (i64.wrap ((i64.wrap (v2 + y2)) + y3)) 1000000000) fun r4 =>
 bd (iQuo .i64 (i64.wrap ((i64.wrap (v2 + y2)) + y3)) 1000000000) fun r5 =>
 bd (idxB v5.length v4) fun j6 =>
 bd (upE v5 j6 fun _ => some r4) fun q7 =>
 K r5 (i64.wrap (v4 + 1)) q7) (
 bd (iRem (i64.wrap (v2 + y2)) 1000000000) fun r9 =>
 bd (iQuo .i64 (i64.wrap (v2 + y2)) 1000000000) fun r10 =>
 bd (idxB v5.length v4) fun j11 =>
 bd (upE v5 j11 fun _ => some r9) fun q12 =>
 K r10 (i64.wrap (v4 + 1)) q12)) (
 br (decide (v4 < ((v1.length : Nat) : Int))) (
 bd (idxL v1 v4) fun y14 =>
 bd (iRem (i64.wrap (v2 + y14)) 1000000000) fun r15 =>
 bd (iQuo .i64 (i64.wrap (v2 + y14)) 1000000000) fun r16 =>
 bd (idxB v5.length v4) fun j17 =>
 bd (upE v5 j17 fun _ => some r15) fun q18 =>
 K r16 (i64.wrap (v4 + 1)) q18) (
 bd (iRem v2 1000000000) fun r20 =>
 bd (iQuo .i64 v2 1000000000) fun r21 =>
 bd (idxB v5.length v4) fun j22 =>
 bd (upE v5 j22 fun _ => some r20) fun q23 =>
 K r21 (i64.wrap (v4 + 1)) q23))) (
 E0 v5)
def l0 (lf : Nat) (v0 v1 : List Int) (v3 : Int) : Nat → Int → Int → (List Int) → Option (((List Int) × Unit) × Unit)
 | 0, _, _, _ => none
 | n + 1, v2, v4, v5 => r0 lf v0 v1 v3 v2 v4 v5 (l0 lf v0 v1 v3 n) (fun w0 => some ((w0, ()), ()))
def sh0 : ShS := ⟨[.s (.sl (.int .i64)), .s (.sl (.int .i64)), .a 3, .s (.row 0), .s (.int .i64), .a 13, .s (.int .i64), .s (.int .i64), .a 32], [.row (.int .i64) 3 false]⟩
def S0 (p : (List Int) × (List Int) × Int × Int × Int × (List Int) × Unit) : St := sh0.b p
def xh0 : ShS := ⟨[.a 5, .s (.row 0), .a 48], [.row (.int .i64) 3 false]⟩
def o0 (v0 v1 : List Int) (v3 : Int) (y : ((List Int) × Unit) × Unit) : Alt := .one (.exit 0) (xh0.b (y.1.1, ()))
def tb (lf : Nat) : List (FuncId × Entry) := [(367, bigint_trim.E lf)]
def s13_370 (lf : Nat) : List (Nat × (St → Option LTE)) := [(0, sumE sh0 fun (p : (List Int) × (List Int) × Int × Int × Int × (List Int) × Unit) => ⟨((List Int) × Unit) × Unit, l0 lf p.1 p.2.1 p.2.2.2.1 (lf + 40) p.2.2.1 p.2.2.2.2.1 p.2.2.2.2.2.1, o0 p.1 p.2.1 p.2.2.2.1⟩)]
def ls (lf : Nat) : List (Nat × FuncId × Sums) := [(13, 370, sumsL (s13_370 lf))]
def it0 {ρ : Type} (lf n : Nat) (st : St) (k : KE ρ) : Option ρ := itG anns (ls lf) (tb lf) lf 13 370 0 1 (sumsL (s13_370 lf)) n st k
theorem t0 {ρ : Type} (lf n : Nat) (v0 v1 : List Int) (v2 v3 v4 : Int) (v5 : List Int) (k : KE ρ) : it0 lf (n + 1) (S0 (v0, v1, v2, v3, v4, v5, ())) k = r0 lf v0 v1 v3 v2 v4 v5 (fun x0 x1 x2 => it0 lf n (S0 (v0, v1, x0, v3, x1, x2, ())) k) (fun w0 => k (.exit 0) (xh0.b (w0, ()))) := by kernel_rfl
theorem u0 {ρ : Type} (lf : Nat) (v0 v1 : List Int) (v3 : Int) (k : KE ρ) : ∀ (n : Nat) (v2 v4 : Int) (v5 : List Int), it0 lf n (S0 (v0, v1, v2, v3, v4, v5, ())) k = bd (l0 lf v0 v1 v3 n v2 v4 v5) fun y => altK k (o0 v0 v1 v3 y)
 | 0, _, _, _ => by rw [l0, bd_none]; rfl
 | n + 1, v2, v4, v5 => by
  rw [t0]; simp only [l0, r0, u0 lf v0 v1 v3 k n, bd_br, bd_bd, bd_some', bd_none, br_t, br_f, o0, altK]
theorem sl (lf : Nat) : SL anns (ls lf) (tb lf) lf (ls lf) := slC (laC (fun _ => by kernel_rfl) (fun _ (x : (List Int) × (List Int) × Int × Int × Int × (List Int) × Unit) k => leq_of (u0 lf x.1 x.2.1 x.2.2.2.1 k (lf + 40) x.2.2.1 x.2.2.2.2.1 x.2.2.2.2.2.1)) laN) slN
def f (lf : Nat) (a0 : List Int) (a1 : List Int) : Option ((List Int) × Unit) :=
 br (decide (((a0.length : Nat) : Int) < ((a1.length : Nat) : Int))) (
 bd (mkL (i64.wrap (((a1.length : Nat) : Int) + 1)) (i64.wrap (((a1.length : Nat) : Int) + 1)) 8 0) fun q1 =>
 bd (l0 lf a1 a0 ((q1.length : Nat) : Int) (lf + 40) 0 0 q1) fun z25 =>
 bd (bigint_trim.f lf z25.1.1) fun r26 =>
 some (r26.1, ())) (
 bd (mkL (i64.wrap (((a0.length : Nat) : Int) + 1)) (i64.wrap (((a0.length : Nat) : Int) + 1)) 8 0) fun q27 =>
 bd (l0 lf a0 a1 ((q27.length : Nat) : Int) (lf + 40) 0 0 q27) fun z28 =>
 bd (bigint_trim.f lf z28.1.1) fun r29 =>
 some (r29.1, ()))
def E (lf : Nat) : Entry := ⟨[(.sl (.int .i64)), (.sl (.int .i64))], [(.sl (.int .i64))], fun x => f lf x.1 x.2.1⟩
theorem ok (lf : Nat) : Ok 370 (E lf) := okL (tC (bigint_trim.ok lf) tN) (aoC aoN) (sl lf) fun x => by kernel_rfl
end bigint_plus
namespace bigint_minus
def anns : FuncId → FA := annsL [(374, ⟨annOf [(0, ⟨kx 44 [0, 1, 5, 6, 13, 14], [], []⟩, ⟨kx 44 [4, 5], [], []⟩)], none, []⟩)]
def r0 {ρ : Type} (lf : Nat) (v0 v1 : List Int) (v3 : Int) (v2 v4 : Int) (v5 : List Int) (K : Int → Int → (List Int) → Option ρ) (E0 : (List Int) → Option ρ) : Option ρ :=
 br (decide (v4 < v3)) (
 bd (idxL v0 v4) fun y2 =>
 br (decide (v4 < ((v1.length : Nat) : Int))) (
 bd (idxL v1 v4) fun y3 =>
 br (decide ((i64.wrap ((i64.wrap (y2 - v2)) - y3)) < 0)) (
 bd (idxB v5.length v4) fun j4 =>
 bd (upE v5 j4 fun _ => some (i64.wrap ((i64.wrap ((i64.wrap (y2 - v2)) - y3)) + 1000000000))) fun q5 =>
 K 1 (i64.wrap (v4 + 1)) q5) (
 bd (idxB v5.length v4) fun j7 =>
 bd (upE v5 j7 fun _ => some (i64.wrap ((i64.wrap (y2 - v2)) - y3))) fun q8 =>
 K 0 (i64.wrap (v4 + 1)) q8)) (
 br (decide ((i64.wrap (y2 - v2)) < 0)) (
 bd (idxB v5.length v4) fun j10 =>
 bd (upE v5 j10 fun _ => some (i64.wrap ((i64.wrap (y2 - v2)) + 1000000000))) fun q11 =>
 K 1 (i64.wrap (v4 + 1)) q11) (
 bd (idxB v5.length v4) fun j13 =>
 bd (upE v5 j13 fun _ => some (i64.wrap (y2 - v2))) fun q14 =>
 K 0 (i64.wrap (v4 + 1)) q14))) (
 E0 v5)
def l0 (lf : Nat) (v0 v1 : List Int) (v3 : Int) : Nat → Int → Int → (List Int) → Option (((List Int) × Unit) × Unit)
 | 0, _, _, _ => none
 | n + 1, v2, v4, v5 => r0 lf v0 v1 v3 v2 v4 v5 (l0 lf v0 v1 v3 n) (fun w0 => some ((w0, ()), ()))
def sh0 : ShS := ⟨[.s (.sl (.int .i64)), .s (.sl (.int .i64)), .a 3, .s (.row 0), .s (.int .i64), .a 6, .s (.int .i64), .s (.int .i64), .a 29], [.row (.int .i64) 3 false]⟩
def S0 (p : (List Int) × (List Int) × Int × Int × Int × (List Int) × Unit) : St := sh0.b p
def xh0 : ShS := ⟨[.a 5, .s (.row 0), .a 38], [.row (.int .i64) 3 false]⟩
def o0 (v0 v1 : List Int) (v3 : Int) (y : ((List Int) × Unit) × Unit) : Alt := .one (.exit 0) (xh0.b (y.1.1, ()))
def tb (lf : Nat) : List (FuncId × Entry) := [(367, bigint_trim.E lf)]
def s13_374 (lf : Nat) : List (Nat × (St → Option LTE)) := [(0, sumE sh0 fun (p : (List Int) × (List Int) × Int × Int × Int × (List Int) × Unit) => ⟨((List Int) × Unit) × Unit, l0 lf p.1 p.2.1 p.2.2.2.1 (lf + 40) p.2.2.1 p.2.2.2.2.1 p.2.2.2.2.2.1, o0 p.1 p.2.1 p.2.2.2.1⟩)]
def ls (lf : Nat) : List (Nat × FuncId × Sums) := [(13, 374, sumsL (s13_374 lf))]
def it0 {ρ : Type} (lf n : Nat) (st : St) (k : KE ρ) : Option ρ := itG anns (ls lf) (tb lf) lf 13 374 0 1 (sumsL (s13_374 lf)) n st k
theorem t0 {ρ : Type} (lf n : Nat) (v0 v1 : List Int) (v2 v3 v4 : Int) (v5 : List Int) (k : KE ρ) : it0 lf (n + 1) (S0 (v0, v1, v2, v3, v4, v5, ())) k = r0 lf v0 v1 v3 v2 v4 v5 (fun x0 x1 x2 => it0 lf n (S0 (v0, v1, x0, v3, x1, x2, ())) k) (fun w0 => k (.exit 0) (xh0.b (w0, ()))) := by kernel_rfl
theorem u0 {ρ : Type} (lf : Nat) (v0 v1 : List Int) (v3 : Int) (k : KE ρ) : ∀ (n : Nat) (v2 v4 : Int) (v5 : List Int), it0 lf n (S0 (v0, v1, v2, v3, v4, v5, ())) k = bd (l0 lf v0 v1 v3 n v2 v4 v5) fun y => altK k (o0 v0 v1 v3 y)
 | 0, _, _, _ => by rw [l0, bd_none]; rfl
 | n + 1, v2, v4, v5 => by
  rw [t0]; simp only [l0, r0, u0 lf v0 v1 v3 k n, bd_br, bd_bd, bd_some', bd_none, br_t, br_f, o0, altK]
theorem sl (lf : Nat) : SL anns (ls lf) (tb lf) lf (ls lf) := slC (laC (fun _ => by kernel_rfl) (fun _ (x : (List Int) × (List Int) × Int × Int × Int × (List Int) × Unit) k => leq_of (u0 lf x.1 x.2.1 x.2.2.2.1 k (lf + 40) x.2.2.1 x.2.2.2.2.1 x.2.2.2.2.2.1)) laN) slN
def f (lf : Nat) (a0 : List Int) (a1 : List Int) : Option ((List Int) × Unit) :=
 bd (mkL ((a0.length : Nat) : Int) ((a0.length : Nat) : Int) 8 0) fun q1 =>
 bd (l0 lf a0 a1 ((q1.length : Nat) : Int) (lf + 40) 0 0 q1) fun z16 =>
 bd (bigint_trim.f lf z16.1.1) fun r17 =>
 some (r17.1, ())
def E (lf : Nat) : Entry := ⟨[(.sl (.int .i64)), (.sl (.int .i64))], [(.sl (.int .i64))], fun x => f lf x.1 x.2.1⟩
theorem ok (lf : Nat) : Ok 374 (E lf) := okL (tC (bigint_trim.ok lf) tN) (aoC aoN) (sl lf) fun x => by kernel_rfl
end bigint_minus
namespace bigint_quotient
def f (lf : Nat) (a0 : TB) (a1 : TB) : Option (TB × TB × Unit) :=
 bd (bigint_divide.f lf a0.2.1 a1.2.1) fun r1 =>
 br (a0.1 == a1.1) (
 some ((false, r1.1, ()), (a1.1, r1.2.1, ()), ())) (
 br (decide (((r1.2.1.length : Nat) : Int) > 0)) (
 bd (bigint_plus.f lf r1.1 [1]) fun r2 =>
 bd (bigint_minus.f lf a1.2.1 r1.2.1) fun r3 =>
 some ((true, r2.1, ()), (a1.1, r3.1, ()), ())) (
 some ((true, r1.1, ()), (a1.1, r1.2.1, ()), ())))
def E (lf : Nat) : Entry := ⟨[yB, yB], [yB, yB], fun x => f lf x.1 x.2.1⟩
theorem ok (lf : Nat) : Ok 337 (E lf) := okT (an := (annsL [])) (lf := lf) (tC (bigint_divide.ok lf) (tC (bigint_plus.ok lf) (tC (bigint_minus.ok lf) tN))) aoN fun x => by kernel_rfl
end bigint_quotient
namespace bigint_divided
def f (lf : Nat) (a0 : ByteArray) (a1 : ByteArray) : Option (ByteArray × ByteArray × Int × Unit) :=
 bd (bigint_pair.f lf a0 a1) fun r1 =>
 br (r1.2.2.1 != 0) (
 some ((⟨#[]⟩ : ByteArray), (⟨#[]⟩ : ByteArray), r1.2.2.1, ())) (
 br (((r1.2.1.2.1.length : Nat) : Int) == 0) (
 some ((⟨#[]⟩ : ByteArray), (⟨#[]⟩ : ByteArray), 19, ())) (
 bd (bigint_quotient.f lf r1.1 r1.2.1) fun r2 =>
 bd (bigint_number_text.f lf r2.1) fun r3 =>
 bd (bigint_number_text.f lf r2.2.1) fun r4 =>
 some (r3.1, r4.1, 0, ())))
def E (lf : Nat) : Entry := ⟨[.str, .str], [.str, .str, (.int .i64)], fun x => f lf x.1 x.2.1⟩
theorem ok (lf : Nat) : Ok 279 (E lf) := okT (an := (annsL [])) (lf := lf) (tC (bigint_pair.ok lf) (tC (bigint_number_text.ok lf) (tC (bigint_quotient.ok lf) tN))) aoN fun x => by kernel_rfl
end bigint_divided
namespace bigint_Rem
def f (lf : Nat) (a0 : ByteArray) (a1 : ByteArray) : Option (ByteArray × Int × Unit) :=
 bd (bigint_divided.f lf a0 a1) fun r1 =>
 some (r1.2.1, r1.2.2.1, ())
def E (lf : Nat) : Entry := ⟨[.str, .str], [.str, (.int .i64)], fun x => f lf x.1 x.2.1⟩
theorem ok (lf : Nat) : Ok 186 (E lf) := okT (an := (annsL [])) (lf := lf) (tC (bigint_divided.ok lf) tN) aoN fun x => by kernel_rfl
end bigint_Rem
namespace bigint_Abs
def f (lf : Nat) (a0 : ByteArray) : Option (ByteArray × Int × Unit) :=
 bd (bigint_Check.f lf a0) fun r1 =>
 br (r1.1 != 0) (
 some ((⟨#[]⟩ : ByteArray), r1.1, ())) (
 bd (strings_TrimPrefix.f lf a0 (⟨#[45]⟩ : ByteArray)) fun r2 =>
 some (r2.1, 0, ()))
def E (lf : Nat) : Entry := ⟨[.str], [.str, (.int .i64)], fun x => f lf x.1⟩
theorem ok (lf : Nat) : Ok 207 (E lf) := okT (an := (annsL [])) (lf := lf) (tC (bigint_Check.ok lf) (tC (strings_TrimPrefix.ok lf) tN)) aoN fun x => by kernel_rfl
end bigint_Abs
namespace bigint_common
def anns : FuncId → FA := annsL [(291, ⟨annOf [(0, ⟨kx 19 [0, 1], [], []⟩, ⟨kx 19 [0, 4], [], []⟩)], none, []⟩)]
def r0 {ρ : Type} (lf : Nat) (v0 v1 : List Int) (K : (List Int) → (List Int) → Option ρ) (E0 : (List Int) → Option ρ) : Option ρ :=
 br (decide (((v1.length : Nat) : Int) > 0)) (
 bd (bigint_divide.f lf v0 v1) fun r1 =>
 K v1 r1.2.1) (
 E0 v0)
def l0 (lf : Nat) : Nat → (List Int) → (List Int) → Option (((List Int) × Unit) × Unit)
 | 0, _, _ => none
 | n + 1, v0, v1 => r0 lf v0 v1 (l0 lf n) (fun w0 => some ((w0, ()), ()))
def sh0 : ShS := ⟨[.s (.sl (.int .i64)), .s (.sl (.int .i64)), .a 17], []⟩
def S0 (p : (List Int) × (List Int) × Unit) : St := sh0.b p
def xh0 : ShS := ⟨[.s (.sl (.int .i64)), .a 18], []⟩
def o0 (y : ((List Int) × Unit) × Unit) : Alt := .one (.exit 0) (xh0.b (y.1.1, ()))
def tb (lf : Nat) : List (FuncId × Entry) := [(340, bigint_divide.E lf)]
def s13_291 (lf : Nat) : List (Nat × (St → Option LTE)) := [(0, sumE sh0 fun (p : (List Int) × (List Int) × Unit) => ⟨((List Int) × Unit) × Unit, l0 lf (lf + 40) p.1 p.2.1, o0⟩)]
def ls (lf : Nat) : List (Nat × FuncId × Sums) := [(13, 291, sumsL (s13_291 lf))]
def it0 {ρ : Type} (lf n : Nat) (st : St) (k : KE ρ) : Option ρ := itG anns (ls lf) (tb lf) lf 13 291 0 0 (sumsL (s13_291 lf)) n st k
theorem t0 {ρ : Type} (lf n : Nat) (v0 v1 : List Int) (k : KE ρ) : it0 lf (n + 1) (S0 (v0, v1, ())) k = r0 lf v0 v1 (fun x0 x1 => it0 lf n (S0 (x0, x1, ())) k) (fun w0 => k (.exit 0) (xh0.b (w0, ()))) := by kernel_rfl
theorem u0 {ρ : Type} (lf : Nat) (k : KE ρ) : ∀ (n : Nat) (v0 v1 : List Int), it0 lf n (S0 (v0, v1, ())) k = bd (l0 lf n v0 v1) fun y => altK k (o0 y)
 | 0, _, _ => by rw [l0, bd_none]; rfl
 | n + 1, v0, v1 => by
  rw [t0]; simp only [l0, r0, u0 lf k n, bd_br, bd_bd, bd_some', bd_none, br_t, br_f, o0, altK]
theorem sl (lf : Nat) : SL anns (ls lf) (tb lf) lf (ls lf) := slC (laC (fun _ => by kernel_rfl) (fun _ (x : (List Int) × (List Int) × Unit) k => leq_of (u0 lf k (lf + 40) x.1 x.2.1)) laN) slN
def f (lf : Nat) (a0 : List Int) (a1 : List Int) : Option ((List Int) × Unit) :=
 bd (l0 lf (lf + 40) a0 a1) fun z2 =>
 some (z2.1.1, ())
def E (lf : Nat) : Entry := ⟨[(.sl (.int .i64)), (.sl (.int .i64))], [(.sl (.int .i64))], fun x => f lf x.1 x.2.1⟩
theorem ok (lf : Nat) : Ok 291 (E lf) := okL (tC (bigint_divide.ok lf) tN) (aoC aoN) (sl lf) fun x => by kernel_rfl
end bigint_common
namespace bigint_Gcd
def f (lf : Nat) (a0 : ByteArray) (a1 : ByteArray) : Option (ByteArray × Int × Unit) :=
 bd (bigint_pair.f lf a0 a1) fun r1 =>
 br (r1.2.2.1 != 0) (
 some ((⟨#[]⟩ : ByteArray), r1.2.2.1, ())) (
 bd (bigint_common.f lf r1.1.2.1 r1.2.1.2.1) fun r2 =>
 bd (bigint_number_text.f lf (false, r2.1, ())) fun r3 =>
 some (r3.1, 0, ()))
def E (lf : Nat) : Entry := ⟨[.str, .str], [.str, (.int .i64)], fun x => f lf x.1 x.2.1⟩
theorem ok (lf : Nat) : Ok 210 (E lf) := okT (an := (annsL [])) (lf := lf) (tC (bigint_pair.ok lf) (tC (bigint_common.ok lf) (tC (bigint_number_text.ok lf) tN))) aoN fun x => by kernel_rfl
end bigint_Gcd
namespace bigint_number_size
def f (lf : Nat) (a0 : TB) : Option (Int × Unit) :=
 br (((a0.2.1.length : Nat) : Int) == 0) (
 some (0, ())) (
 bd (idxL a0.2.1 (i64.wrap (((a0.2.1.length : Nat) : Int) - 1))) fun y1 =>
 bd (B.Itoa.f lf y1) fun r2 =>
 some ((i64.wrap ((i64.wrap ((i64.wrap (((a0.2.1.length : Nat) : Int) - 1)) * 9)) + ((r2.1.size : Nat) : Int))), ()))
def E (lf : Nat) : Entry := ⟨[yB], [(.int .i64)], fun x => f lf x.1⟩
theorem ok (lf : Nat) : Ok 334 (E lf) := okT (an := (annsL [])) (lf := lf) (tC (B.Itoa.ok lf) tN) aoN fun x => by kernel_rfl
end bigint_number_size
namespace bigint_written
def f (lf : Nat) (a0 : TB) : Option (ByteArray × Int × Unit) :=
 bd (bigint_number_size.f lf a0) fun r1 =>
 br (decide (r1.1 > 4096)) (
 some ((⟨#[]⟩ : ByteArray), 10, ())) (
 bd (bigint_number_text.f lf a0) fun r2 =>
 some (r2.1, 0, ()))
def E (lf : Nat) : Entry := ⟨[yB], [.str, (.int .i64)], fun x => f lf x.1⟩
theorem ok (lf : Nat) : Ok 275 (E lf) := okT (an := (annsL [])) (lf := lf) (tC (bigint_number_text.ok lf) (tC (bigint_number_size.ok lf) tN)) aoN fun x => by kernel_rfl
end bigint_written
namespace bigint_operations_1
def f (lf : Nat) (a0 : TB) (a1 : TB) : Option (Bool × Unit) :=
 some (a0.1, ())
def E (lf : Nat) : Entry := ⟨[yB, yB], [.bool], fun x => f lf x.1 x.2.1⟩
theorem ok (lf : Nat) : Ok 371 (E lf) := okT (an := (annsL [])) (lf := lf) tN aoN fun x => by kernel_rfl
end bigint_operations_1
namespace bigint_operations_2
def f (lf : Nat) (a0 : List Int) (a1 : List Int) : Option ((List Int) × Unit) :=
 bd (bigint_order.f lf a0 a1) fun r1 =>
 br (decide (r1.1 < 0)) (
 bd (bigint_minus.f lf a1 a0) fun r2 =>
 some (r2.1, ())) (
 bd (bigint_minus.f lf a0 a1) fun r3 =>
 some (r3.1, ()))
def E (lf : Nat) : Entry := ⟨[(.sl (.int .i64)), (.sl (.int .i64))], [(.sl (.int .i64))], fun x => f lf x.1 x.2.1⟩
theorem ok (lf : Nat) : Ok 372 (E lf) := okT (an := (annsL [])) (lf := lf) (tC (bigint_order.ok lf) (tC (bigint_minus.ok lf) tN)) aoN fun x => by kernel_rfl
end bigint_operations_2
namespace bigint_operations_3
def f (lf : Nat) (a0 : TB) (a1 : TB) : Option (Bool × Unit) :=
 bd (bigint_order.f lf a0.2.1 a1.2.1) fun r1 =>
 some (((decide (r1.1 < 0)) != a0.1), ())
def E (lf : Nat) : Entry := ⟨[yB, yB], [.bool], fun x => f lf x.1 x.2.1⟩
theorem ok (lf : Nat) : Ok 375 (E lf) := okT (an := (annsL [])) (lf := lf) (tC (bigint_order.ok lf) tN) aoN fun x => by kernel_rfl
end bigint_operations_3
namespace bigint_sum
def f (lf : Nat) (a0 : TB) (a1 : TB) : Option (TB × Unit) :=
 br (a0.1 != a1.1) (
 bd (bigint_operations_3.f lf a0 a1) fun r1 =>
 bd (bigint_operations_2.f lf a0.2.1 a1.2.1) fun r2 =>
 some ((r1.1, r2.1, ()), ())) (
 bd (bigint_operations_1.f lf a0 a1) fun r3 =>
 bd (bigint_plus.f lf a0.2.1 a1.2.1) fun r4 =>
 some ((r3.1, r4.1, ()), ()))
def E (lf : Nat) : Entry := ⟨[yB, yB], [yB], fun x => f lf x.1 x.2.1⟩
theorem ok (lf : Nat) : Ok 276 (E lf) := okT (an := (annsL [])) (lf := lf) (tC (bigint_plus.ok lf) (tC (bigint_operations_1.ok lf) (tC (bigint_operations_2.ok lf) (tC (bigint_operations_3.ok lf) tN)))) aoN fun x => by kernel_rfl
end bigint_sum
namespace bigint_Add
def f (lf : Nat) (a0 : ByteArray) (a1 : ByteArray) : Option (ByteArray × Int × Unit) :=
 bd (bigint_pair.f lf a0 a1) fun r1 =>
 br (r1.2.2.1 != 0) (
 some ((⟨#[]⟩ : ByteArray), r1.2.2.1, ())) (
 bd (bigint_sum.f lf r1.1 r1.2.1) fun r2 =>
 bd (bigint_written.f lf r2.1) fun r3 =>
 some (r3.1, r3.2.1, ()))
def E (lf : Nat) : Entry := ⟨[.str, .str], [.str, (.int .i64)], fun x => f lf x.1 x.2.1⟩
theorem ok (lf : Nat) : Ok 182 (E lf) := okT (an := (annsL [])) (lf := lf) (tC (bigint_pair.ok lf) (tC (bigint_written.ok lf) (tC (bigint_sum.ok lf) tN))) aoN fun x => by kernel_rfl
end bigint_Add
namespace bigint_negated
def f (lf : Nat) (a0 : TB) : Option (TB × Unit) :=
 some (((!a0.1), a0.2.1, ()), ())
def E (lf : Nat) : Entry := ⟨[yB], [yB], fun x => f lf x.1⟩
theorem ok (lf : Nat) : Ok 277 (E lf) := okT (an := (annsL [])) (lf := lf) tN aoN fun x => by kernel_rfl
end bigint_negated
namespace bigint_sign
def f (lf : Nat) (a0 : TB) : Option (Int × Unit) :=
 br (((a0.2.1.length : Nat) : Int) == 0) (
 some (0, ())) (
 br a0.1 (
 some ((-1), ())) (
 some (1, ())))
def E (lf : Nat) : Entry := ⟨[yB], [(.int .i64)], fun x => f lf x.1⟩
theorem ok (lf : Nat) : Ok 338 (E lf) := okT (an := (annsL [])) (lf := lf) tN aoN fun x => by kernel_rfl
end bigint_sign
end
end Go.Q
namespace Go.Q
open Go Go.RowKit
open Go.Rx (br bd sIdx sCat sCut iQuo iRem)
noncomputable section
namespace bigint_Compare
def f (lf : Nat) (a0 : ByteArray) (a1 : ByteArray) : Option (Int × Int × Unit) :=
 bd (bigint_pair.f lf a0 a1) fun r1 =>
 br (r1.2.2.1 != 0) (
 some (0, r1.2.2.1, ())) (
 bd (bigint_negated.f lf r1.2.1) fun r2 =>
 bd (bigint_sum.f lf r1.1 r2.1) fun r3 =>
 bd (bigint_sign.f lf r3.1) fun r4 =>
 some (r4.1, 0, ()))
def E (lf : Nat) : Entry := ⟨[.str, .str], [(.int .i64), (.int .i64)], fun x => f lf x.1 x.2.1⟩
theorem ok (lf : Nat) : Ok 280 (E lf) := okT (an := (annsL [])) (lf := lf) (tC (bigint_pair.ok lf) (tC (bigint_sum.ok lf) (tC (bigint_negated.ok lf) (tC (bigint_sign.ok lf) tN)))) aoN fun x => by kernel_rfl
end bigint_Compare
namespace bigint_Sub
def f (lf : Nat) (a0 : ByteArray) (a1 : ByteArray) : Option (ByteArray × Int × Unit) :=
 bd (bigint_pair.f lf a0 a1) fun r1 =>
 br (r1.2.2.1 != 0) (
 some ((⟨#[]⟩ : ByteArray), r1.2.2.1, ())) (
 bd (bigint_negated.f lf r1.2.1) fun r2 =>
 bd (bigint_sum.f lf r1.1 r2.1) fun r3 =>
 bd (bigint_written.f lf r3.1) fun r4 =>
 some (r4.1, r4.2.1, ()))
def E (lf : Nat) : Entry := ⟨[.str, .str], [.str, (.int .i64)], fun x => f lf x.1 x.2.1⟩
theorem ok (lf : Nat) : Ok 183 (E lf) := okT (an := (annsL [])) (lf := lf) (tC (bigint_pair.ok lf) (tC (bigint_written.ok lf) (tC (bigint_sum.ok lf) (tC (bigint_negated.ok lf) tN)))) aoN fun x => by kernel_rfl
end bigint_Sub
end
end Go.Q
namespace Go.Q
open Go.IntKind (i64)
open Go Go.RowKit
open Go.Rx (br bd sIdx sCat sCut iQuo iRem)
noncomputable section
namespace interval_finite
def f (lf : Nat) (a0 : ByteArray) : Option (TX × Unit) :=
 some ((0, a0, ()), ())
def E (lf : Nat) : Entry := ⟨[.str], [yX], fun x => f lf x.1⟩
theorem ok (lf : Nat) : Ok 199 (E lf) := okT (an := (annsL [])) (lf := lf) tN aoN fun x => by kernel_rfl
end interval_finite
namespace interval_infinite
def f (lf : Nat) (a0 : Int) : Option (TX × Unit) :=
 some ((a0, (⟨#[]⟩ : ByteArray), ()), ())
def E (lf : Nat) : Entry := ⟨[(.int .i64)], [yX], fun x => f lf x.1⟩
theorem ok (lf : Nat) : Ok 206 (E lf) := okT (an := (annsL [])) (lf := lf) tN aoN fun x => by kernel_rfl
end interval_infinite
namespace interval_none
def f (lf : Nat)  : Option (TS × Unit) :=
 bd (interval_infinite.f lf 1) fun r1 =>
 bd (interval_infinite.f lf (-1)) fun r2 =>
 some ((r1.1, r2.1, ()), ())
def E (lf : Nat) : Entry := ⟨[], [yS], fun x => f lf ⟩
theorem ok (lf : Nat) : Ok 227 (E lf) := okT (an := (annsL [])) (lf := lf) (tC (interval_infinite.ok lf) tN) aoN fun x => by kernel_rfl
end interval_none
namespace interval_of
def f (lf : Nat) (a0 : TI) : Option (TS × Unit) :=
 br a0.1 (
 bd (interval_none.f lf) fun r1 =>
 some (r1.1, ())) (
 bd (interval_infinite.f lf (-1)) fun r2 =>
 bd (interval_infinite.f lf 1) fun r3 =>
 br (!(a0.2.1.toList == (⟨#[]⟩ : ByteArray).toList)) (
 bd (interval_finite.f lf a0.2.1) fun r4 =>
 br (!(a0.2.2.1.toList == (⟨#[]⟩ : ByteArray).toList)) (
 bd (interval_finite.f lf a0.2.2.1) fun r5 =>
 some ((r4.1, r5.1, ()), ())) (
 some ((r4.1, r3.1, ()), ()))) (
 br (!(a0.2.2.1.toList == (⟨#[]⟩ : ByteArray).toList)) (
 bd (interval_finite.f lf a0.2.2.1) fun r6 =>
 some ((r2.1, r6.1, ()), ())) (
 some ((r2.1, r3.1, ()), ()))))
def E (lf : Nat) : Entry := ⟨[yI], [yS], fun x => f lf x.1⟩
theorem ok (lf : Nat) : Ok 175 (E lf) := okT (an := (annsL [])) (lf := lf) (tC (interval_finite.ok lf) (tC (interval_infinite.ok lf) (tC (interval_none.ok lf) tN))) aoN fun x => by kernel_rfl
end interval_of
namespace interval_order
def f (lf : Nat) (a0 : ByteArray) (a1 : ByteArray) : Option (Int × Unit) :=
 bd (bigint_Compare.f lf a0 a1) fun r1 =>
 some (r1.1, ())
def E (lf : Nat) : Entry := ⟨[.str, .str], [(.int .i64)], fun x => f lf x.1 x.2.1⟩
theorem ok (lf : Nat) : Ok 269 (E lf) := okT (an := (annsL [])) (lf := lf) (tC (bigint_Compare.ok lf) tN) aoN fun x => by kernel_rfl
end interval_order
namespace interval_compare
def f (lf : Nat) (a0 : TX) (a1 : TX) : Option (Int × Unit) :=
 br (a0.1 != 0) (
 some ((i64.wrap (a0.1 - a1.1)), ())) (
 br (a1.1 != 0) (
 some ((i64.wrap (a0.1 - a1.1)), ())) (
 bd (interval_order.f lf a0.2.1 a1.2.1) fun r1 =>
 some (r1.1, ())))
def E (lf : Nat) : Entry := ⟨[yX, yX], [(.int .i64)], fun x => f lf x.1 x.2.1⟩
theorem ok (lf : Nat) : Ok 200 (E lf) := okT (an := (annsL [])) (lf := lf) (tC (interval_order.ok lf) tN) aoN fun x => by kernel_rfl
end interval_compare
namespace interval_span_empty
def f (lf : Nat) (a0 : TS) : Option (Bool × Unit) :=
 bd (interval_compare.f lf a0.1 a0.2.1) fun r1 =>
 some ((decide (r1.1 > 0)), ())
def E (lf : Nat) : Entry := ⟨[yS], [.bool], fun x => f lf x.1⟩
theorem ok (lf : Nat) : Ok 205 (E lf) := okT (an := (annsL [])) (lf := lf) (tC (interval_compare.ok lf) tN) aoN fun x => by kernel_rfl
end interval_span_empty
namespace interval_digits
def f (lf : Nat) (a0 : ByteArray) : Option (Int × Unit) :=
 br (decide (((a0.size : Nat) : Int) > 0)) (
 bd (sIdx a0 0) fun r1 =>
 br (((r1.toNat : Nat) : Int) == 45) (
 some ((i64.wrap (((a0.size : Nat) : Int) - 1)), ())) (
 some (((a0.size : Nat) : Int), ()))) (
 some (((a0.size : Nat) : Int), ()))
def E (lf : Nat) : Entry := ⟨[.str], [(.int .i64)], fun x => f lf x.1⟩
theorem ok (lf : Nat) : Ok 332 (E lf) := okT (an := (annsL [])) (lf := lf) tN aoN fun x => by kernel_rfl
end interval_digits
namespace interval_text
def f (lf : Nat) (a0 : TX) : Option (ByteArray × Unit) :=
 br (a0.1 != 0) (
 some ((⟨#[]⟩ : ByteArray), ())) (
 bd (interval_digits.f lf a0.2.1) fun r1 =>
 br (decide (r1.1 > 100)) (
 some ((⟨#[]⟩ : ByteArray), ())) (
 some (a0.2.1, ())))
def E (lf : Nat) : Entry := ⟨[yX], [.str], fun x => f lf x.1⟩
theorem ok (lf : Nat) : Ok 270 (E lf) := okT (an := (annsL [])) (lf := lf) (tC (interval_digits.ok lf) tN) aoN fun x => by kernel_rfl
end interval_text
namespace interval_span_interval
def f (lf : Nat) (a0 : TS) : Option (TI × Unit) :=
 bd (interval_span_empty.f lf a0) fun r1 =>
 br r1.1 (
 some ((true, (⟨#[]⟩ : ByteArray), (⟨#[]⟩ : ByteArray), ()), ())) (
 bd (interval_text.f lf a0.1) fun r2 =>
 bd (interval_text.f lf a0.2.1) fun r3 =>
 some ((false, r2.1, r3.1, ()), ()))
def E (lf : Nat) : Entry := ⟨[yS], [yI], fun x => f lf x.1⟩
theorem ok (lf : Nat) : Ok 176 (E lf) := okT (an := (annsL [])) (lf := lf) (tC (interval_span_empty.ok lf) (tC (interval_text.ok lf) tN)) aoN fun x => by kernel_rfl
end interval_span_interval
namespace interval_number
def f (lf : Nat) (a0 : ByteArray) : Option (Int × Unit) :=
 bd (bigint_Check.f lf a0) fun r1 =>
 br (r1.1 != 0) (
 some (r1.1, ())) (
 bd (interval_digits.f lf a0) fun r2 =>
 br (decide (r2.1 > 100)) (
 some (10, ())) (
 some (0, ())))
def E (lf : Nat) : Entry := ⟨[.str], [(.int .i64)], fun x => f lf x.1⟩
theorem ok (lf : Nat) : Ok 268 (E lf) := okT (an := (annsL [])) (lf := lf) (tC (bigint_Check.ok lf) (tC (interval_digits.ok lf) tN)) aoN fun x => by kernel_rfl
end interval_number
namespace interval_Check
def f (lf : Nat) (a0 : TI) : Option (Int × Unit) :=
 br a0.1 (
 br (!(a0.2.1.toList == (⟨#[]⟩ : ByteArray).toList)) (
 some (3, ())) (
 br (!(a0.2.2.1.toList == (⟨#[]⟩ : ByteArray).toList)) (
 some (3, ())) (
 br (a0.2.1.toList == (⟨#[]⟩ : ByteArray).toList) (
 br (a0.2.2.1.toList == (⟨#[]⟩ : ByteArray).toList) (
 br (!(a0.2.1.toList == (⟨#[]⟩ : ByteArray).toList)) (
 br (!(a0.2.2.1.toList == (⟨#[]⟩ : ByteArray).toList)) (
 bd (interval_order.f lf a0.2.1 a0.2.2.1) fun r1 =>
 br (decide (r1.1 > 0)) (
 some (14, ())) (
 some (0, ()))) (
 some (0, ()))) (
 some (0, ()))) (
 bd (interval_number.f lf a0.2.2.1) fun r2 =>
 br (r2.1 != 0) (
 some (r2.1, ())) (
 br (!(a0.2.1.toList == (⟨#[]⟩ : ByteArray).toList)) (
 br (!(a0.2.2.1.toList == (⟨#[]⟩ : ByteArray).toList)) (
 bd (interval_order.f lf a0.2.1 a0.2.2.1) fun r3 =>
 br (decide (r3.1 > 0)) (
 some (14, ())) (
 some (0, ()))) (
 some (0, ()))) (
 some (0, ()))))) (
 bd (interval_number.f lf a0.2.1) fun r4 =>
 br (r4.1 != 0) (
 some (r4.1, ())) (
 br (a0.2.2.1.toList == (⟨#[]⟩ : ByteArray).toList) (
 br (!(a0.2.1.toList == (⟨#[]⟩ : ByteArray).toList)) (
 br (!(a0.2.2.1.toList == (⟨#[]⟩ : ByteArray).toList)) (
 bd (interval_order.f lf a0.2.1 a0.2.2.1) fun r5 =>
 br (decide (r5.1 > 0)) (
 some (14, ())) (
 some (0, ()))) (
 some (0, ()))) (
 some (0, ()))) (
 bd (interval_number.f lf a0.2.2.1) fun r6 =>
 br (r6.1 != 0) (
 some (r6.1, ())) (
 br (!(a0.2.1.toList == (⟨#[]⟩ : ByteArray).toList)) (
 br (!(a0.2.2.1.toList == (⟨#[]⟩ : ByteArray).toList)) (
 bd (interval_order.f lf a0.2.1 a0.2.2.1) fun r7 =>
 br (decide (r7.1 > 0)) (
 some (14, ())) (
 some (0, ()))) (
 some (0, ()))) (
 some (0, ()))))))))) (
 br (a0.2.1.toList == (⟨#[]⟩ : ByteArray).toList) (
 br (a0.2.2.1.toList == (⟨#[]⟩ : ByteArray).toList) (
 br (!(a0.2.1.toList == (⟨#[]⟩ : ByteArray).toList)) (
 br (!(a0.2.2.1.toList == (⟨#[]⟩ : ByteArray).toList)) (
 bd (interval_order.f lf a0.2.1 a0.2.2.1) fun r8 =>
 br (decide (r8.1 > 0)) (
 some (14, ())) (
 some (0, ()))) (
 some (0, ()))) (
 some (0, ()))) (
 bd (interval_number.f lf a0.2.2.1) fun r9 =>
 br (r9.1 != 0) (
 some (r9.1, ())) (
 br (!(a0.2.1.toList == (⟨#[]⟩ : ByteArray).toList)) (
 br (!(a0.2.2.1.toList == (⟨#[]⟩ : ByteArray).toList)) (
 bd (interval_order.f lf a0.2.1 a0.2.2.1) fun r10 =>
 br (decide (r10.1 > 0)) (
 some (14, ())) (
 some (0, ()))) (
 some (0, ()))) (
 some (0, ()))))) (
 bd (interval_number.f lf a0.2.1) fun r11 =>
 br (r11.1 != 0) (
 some (r11.1, ())) (
 br (a0.2.2.1.toList == (⟨#[]⟩ : ByteArray).toList) (
 br (!(a0.2.1.toList == (⟨#[]⟩ : ByteArray).toList)) (
 br (!(a0.2.2.1.toList == (⟨#[]⟩ : ByteArray).toList)) (
 bd (interval_order.f lf a0.2.1 a0.2.2.1) fun r12 =>
 br (decide (r12.1 > 0)) (
 some (14, ())) (
 some (0, ()))) (
 some (0, ()))) (
 some (0, ()))) (
 bd (interval_number.f lf a0.2.2.1) fun r13 =>
 br (r13.1 != 0) (
 some (r13.1, ())) (
 br (!(a0.2.1.toList == (⟨#[]⟩ : ByteArray).toList)) (
 br (!(a0.2.2.1.toList == (⟨#[]⟩ : ByteArray).toList)) (
 bd (interval_order.f lf a0.2.1 a0.2.2.1) fun r14 =>
 br (decide (r14.1 > 0)) (
 some (14, ())) (
 some (0, ()))) (
 some (0, ()))) (
 some (0, ())))))))
def E (lf : Nat) : Entry := ⟨[yI], [(.int .i64)], fun x => f lf x.1⟩
theorem ok (lf : Nat) : Ok 174 (E lf) := okT (an := (annsL [])) (lf := lf) (tC (interval_number.ok lf) (tC (interval_order.ok lf) tN)) aoN fun x => by kernel_rfl
end interval_Check
namespace interval_least
def f (lf : Nat) (a0 : TX) (a1 : TX) : Option (TX × Unit) :=
 bd (interval_compare.f lf a1 a0) fun r1 =>
 br (decide (r1.1 < 0)) (
 some (a1, ())) (
 some (a0, ()))
def E (lf : Nat) : Entry := ⟨[yX, yX], [yX], fun x => f lf x.1 x.2.1⟩
theorem ok (lf : Nat) : Ok 271 (E lf) := okT (an := (annsL [])) (lf := lf) (tC (interval_compare.ok lf) tN) aoN fun x => by kernel_rfl
end interval_least
namespace interval_most
def f (lf : Nat) (a0 : TX) (a1 : TX) : Option (TX × Unit) :=
 bd (interval_compare.f lf a1 a0) fun r1 =>
 br (decide (r1.1 > 0)) (
 some (a1, ())) (
 some (a0, ()))
def E (lf : Nat) : Entry := ⟨[yX, yX], [yX], fun x => f lf x.1 x.2.1⟩
theorem ok (lf : Nat) : Ok 272 (E lf) := okT (an := (annsL [])) (lf := lf) (tC (interval_compare.ok lf) tN) aoN fun x => by kernel_rfl
end interval_most
namespace interval_span_hull
def f (lf : Nat) (a0 : TS) (a1 : TS) : Option (TS × Unit) :=
 bd (interval_span_empty.f lf a0) fun r1 =>
 br r1.1 (
 some (a1, ())) (
 bd (interval_span_empty.f lf a1) fun r2 =>
 br r2.1 (
 some (a0, ())) (
 bd (interval_least.f lf a0.1 a1.1) fun r3 =>
 bd (interval_most.f lf a0.2.1 a1.2.1) fun r4 =>
 some ((r3.1, r4.1, ()), ())))
def E (lf : Nat) : Entry := ⟨[yS, yS], [yS], fun x => f lf x.1 x.2.1⟩
theorem ok (lf : Nat) : Ok 177 (E lf) := okT (an := (annsL [])) (lf := lf) (tC (interval_span_empty.ok lf) (tC (interval_least.ok lf) (tC (interval_most.ok lf) tN))) aoN fun x => by kernel_rfl
end interval_span_hull
namespace interval_Holds
def f (lf : Nat) (a0 : TI) (a1 : ByteArray) : Option (Bool × Int × Unit) :=
 bd (interval_Check.f lf a0) fun r1 =>
 br (r1.1 != 0) (
 some (false, r1.1, ())) (
 bd (bigint_Check.f lf a1) fun r2 =>
 br (r2.1 != 0) (
 some (false, r2.1, ())) (
 bd (interval_of.f lf a0) fun r3 =>
 bd (interval_finite.f lf a1) fun r4 =>
 bd (interval_compare.f lf r3.1.1 r4.1) fun r5 =>
 br (decide (r5.1 ≤ 0)) (
 bd (interval_compare.f lf r4.1 r3.1.2.1) fun r6 =>
 some ((decide (r6.1 ≤ 0)), 0, ())) (
 some (false, 0, ()))))
def E (lf : Nat) : Entry := ⟨[yI, .str], [.bool, (.int .i64)], fun x => f lf x.1 x.2.1⟩
theorem ok (lf : Nat) : Ok 93 (E lf) := okT (an := (annsL [])) (lf := lf) (tC (bigint_Check.ok lf) (tC (interval_Check.ok lf) (tC (interval_of.ok lf) (tC (interval_finite.ok lf) (tC (interval_compare.ok lf) tN))))) aoN fun x => by kernel_rfl
end interval_Holds
namespace interval_ascending
def anns : FuncId → FA := annsL [(204, ⟨annOf [(0, ⟨kx 34 [0, 9, 10, 11], [], []⟩, ⟨kx 34 [2], [], []⟩)], none, []⟩)]
def r0 {ρ : Type} (lf : Nat) (v0 v1 : List ByteArray) (v2 : Int) (v3 : Int) (K : Int → Option ρ) (E0 : Int → Option ρ) (E1 : Option ρ) : Option ρ :=
 br (decide (v3 < v2)) (
 bd (idxL v1 v3) fun y1 =>
 bd (interval_number.f lf y1) fun r2 =>
 br (r2.1 != 0) (
 E0 r2.1) (
 br (decide (v3 > 0)) (
 bd (idxL v0 (i64.wrap (v3 - 1))) fun y3 =>
 bd (interval_order.f lf y3 y1) fun r4 =>
 br (decide (r4.1 ≥ 0)) (
 E0 14) (
 K (i64.wrap (v3 + 1)))) (
 K (i64.wrap (v3 + 1))))) (
 E1)
def l0 (lf : Nat) (v0 v1 : List ByteArray) (v2 : Int) : Nat → Int → Option (Bool × (Int × Unit) × (Unit) × Unit)
 | 0, _ => none
 | n + 1, v3 => r0 lf v0 v1 v2 v3 (l0 lf v0 v1 v2 n) (fun w0 => some (true, (w0, ()), ((()), ()))) (some (false, (0, ()), ((()), ())))
def sh0 : ShS := ⟨[.s (.sl .str), .a 8, .s (.sl .str), .s (.int .i64), .s (.int .i64), .a 22], []⟩
def S0 (p : (List ByteArray) × (List ByteArray) × Int × Int × Unit) : St := sh0.b p
def xh0 : ShS := ⟨[.a 2, .s (.int .i64), .a 31], []⟩
def xh1 : ShS := ⟨[.a 34], []⟩
def o0 (v0 v1 : List ByteArray) (v2 : Int) (y : Bool × (Int × Unit) × (Unit) × Unit) : Alt := .two y.1 (.one .ret (xh0.b (y.2.1.1, ()))) (.one (.exit 0) (xh1.b (())))
def tb (lf : Nat) : List (FuncId × Entry) := [(268, interval_number.E lf), (269, interval_order.E lf)]
def s13_204 (lf : Nat) : List (Nat × (St → Option LTE)) := [(0, sumE sh0 fun (p : (List ByteArray) × (List ByteArray) × Int × Int × Unit) => ⟨Bool × (Int × Unit) × (Unit) × Unit, l0 lf p.1 p.2.1 p.2.2.1 (lf + 40) p.2.2.2.1, o0 p.1 p.2.1 p.2.2.1⟩)]
def ls (lf : Nat) : List (Nat × FuncId × Sums) := [(13, 204, sumsL (s13_204 lf))]
def it0 {ρ : Type} (lf n : Nat) (st : St) (k : KE ρ) : Option ρ := itG anns (ls lf) (tb lf) lf 13 204 0 0 (sumsL (s13_204 lf)) n st k
theorem t0 {ρ : Type} (lf n : Nat) (v0 v1 : List ByteArray) (v2 v3 : Int) (k : KE ρ) : it0 lf (n + 1) (S0 (v0, v1, v2, v3, ())) k = r0 lf v0 v1 v2 v3 (fun x0 => it0 lf n (S0 (v0, v1, v2, x0, ())) k) (fun w0 => k .ret (xh0.b (w0, ()))) (k (.exit 0) (xh1.b (()))) := by kernel_rfl
theorem u0 {ρ : Type} (lf : Nat) (v0 v1 : List ByteArray) (v2 : Int) (k : KE ρ) : ∀ (n : Nat) (v3 : Int), it0 lf n (S0 (v0, v1, v2, v3, ())) k = bd (l0 lf v0 v1 v2 n v3) fun y => altK k (o0 v0 v1 v2 y)
 | 0, _ => by rw [l0, bd_none]; rfl
 | n + 1, v3 => by
  rw [t0]; simp only [l0, r0, u0 lf v0 v1 v2 k n, bd_br, bd_bd, bd_some', bd_none, br_t, br_f, o0, altK]
theorem sl (lf : Nat) : SL anns (ls lf) (tb lf) lf (ls lf) := slC (laC (fun _ => by kernel_rfl) (fun _ (x : (List ByteArray) × (List ByteArray) × Int × Int × Unit) k => leq_of (u0 lf x.1 x.2.1 x.2.2.1 k (lf + 40) x.2.2.2.1)) laN) slN
def f (lf : Nat) (a0 : List ByteArray) : Option (Int × Unit) :=
 br (decide (((a0.length : Nat) : Int) > 1024)) (
 some (5, ())) (
 bd (l0 lf a0 a0 ((a0.length : Nat) : Int) (lf + 40) 0) fun z5 =>
 br z5.1 (
 some (z5.2.1.1, ())) (
 some (0, ())))
def E (lf : Nat) : Entry := ⟨[(.sl .str)], [(.int .i64)], fun x => f lf x.1⟩
theorem ok (lf : Nat) : Ok 204 (E lf) := okL (tC (interval_number.ok lf) (tC (interval_order.ok lf) tN)) (aoC aoN) (sl lf) fun x => by kernel_rfl
end interval_ascending
end
end Go.Q
