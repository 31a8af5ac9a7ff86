import Derived.Test.YtfogkflaijhfoaaGreatDoorProg
import Derived.KernelRfl
import Derived.Test.YtfogkflaijhfoaaGreatDoorCBE3
import Derived.Test.YtfogkflaijhfoaaGreatDoorCBG3
set_option linter.unusedVariables false
set_option linter.unusedSimpArgs false
set_option linter.unusedSectionVars false
set_option maxRecDepth 100000
namespace Go.Q
open Go.IntKind (i64)
open Go Go.RowKit
open Go.Rx (br bd sIdx sCat sCut iQuo iRem)
noncomputable section
namespace surveyortop_playGcd
def anns : FuncId → FA := annsL [(130, ⟨annOf [(0, ⟨kx 15 [0, 1], [], []⟩, ⟨kx 15 [0, 4], [], []⟩)], none, []⟩)]
def r0 {ρ : Type} (lf : Nat) (v0 v1 : Int) (K : Int → Int → Option ρ) (E0 : Int → Option ρ) : Option ρ :=
 br (v1 != 0) (
 bd (iRem v0 v1) fun r1 =>
 K v1 r1) (
 E0 v0)
def l0 (lf : Nat) : Nat → Int → Int → Option ((Int × Unit) × Unit)
 | 0, _, _ => none
 | n + 1, v0, v1 => r0 lf v0 v1 (l0 lf n) (fun w0 => some ((w0, ()), ()))
def sh0 : ShS := ⟨[.s (.int .i64), .s (.int .i64), .a 13], []⟩
def S0 (p : Int × Int × Unit) : St := sh0.b p
def xh0 : ShS := ⟨[.s (.int .i64), .a 14], []⟩
def o0 (y : (Int × Unit) × Unit) : Alt := .one (.exit 0) (xh0.b (y.1.1, ()))
def tb (lf : Nat) : List (FuncId × Entry) := []
def s13_130 (lf : Nat) : List (Nat × (St → Option LTE)) := [(0, sumE sh0 fun (p : Int × Int × Unit) => ⟨(Int × Unit) × Unit, l0 lf (lf + 40) p.1 p.2.1, o0⟩)]
def ls (lf : Nat) : List (Nat × FuncId × Sums) := [(13, 130, sumsL (s13_130 lf))]
def it0 {ρ : Type} (lf n : Nat) (st : St) (k : KE ρ) : Option ρ := itG anns (ls lf) (tb lf) lf 13 130 0 0 (sumsL (s13_130 lf)) n st k
theorem t0 {ρ : Type} (lf n : Nat) (v0 v1 : Int) (k : KE ρ) : it0 lf (n + 1) (S0 (v0, v1, ())) k = r0 lf v0 v1 (fun x0 x1 => it0 lf n (S0 (x0, x1, ())) k) (fun w0 => k (.exit 0) (xh0.b (w0, ()))) := by kernel_rfl
theorem u0 {ρ : Type} (lf : Nat) (k : KE ρ) : ∀ (n : Nat) (v0 v1 : Int), it0 lf n (S0 (v0, v1, ())) k = bd (l0 lf n v0 v1) fun y => altK k (o0 y)
 | 0, _, _ => by rw [l0, bd_none]; rfl
 | n + 1, v0, v1 => by
  rw [t0]; simp only [l0, r0, u0 lf k n, bd_br, bd_bd, bd_some', bd_none, br_t, br_f, o0, altK]
theorem sl (lf : Nat) : SL anns (ls lf) (tb lf) lf (ls lf) := slC (laC (fun _ => by kernel_rfl) (fun _ (x : Int × Int × Unit) k => leq_of (u0 lf k (lf + 40) x.1 x.2.1)) laN) slN
def f (lf : Nat) (a0 : Int) (a1 : Int) : Option (Int × Unit) :=
 bd (l0 lf (lf + 40) a0 a1) fun z2 =>
 some ((if (i64.wrap (0 - z2.1.1)) > z2.1.1 then (i64.wrap (0 - z2.1.1)) else z2.1.1), ())
def E (lf : Nat) : Entry := ⟨[(.int .i64), (.int .i64)], [(.int .i64)], fun x => f lf x.1 x.2.1⟩
theorem ok (lf : Nat) : Ok 130 (E lf) := okL tN (aoC aoN) (sl lf) fun x => by kernel_rfl
end surveyortop_playGcd
namespace surveyortop_playLeast
def anns : FuncId → FA := annsL [(36, ⟨annOf [(0, ⟨kx 38 [0, 2, 3, 7, 8, 9], [], []⟩, ⟨kx 38 [0, 2, 3], [], []⟩)], none, []⟩)]
def r0 {ρ : Type} (lf : Nat) (v0 v2 : List Int) (v3 : Int) (v5 : Bool) (v6 v7 : ByteArray) (v1 v4 : Int) (K : Int → Int → Option ρ) (E0 : Int → Option ρ) : Option ρ :=
 br (decide (v4 < v3)) (
 bd (idxL v2 v4) fun y1 =>
 bd (idxL v0 0) fun y2 =>
 bd (surveyortop_playGcd.f lf v1 (i64.wrap (y1 - y2))) fun r3 =>
 K r3.1 (i64.wrap (v4 + 1))) (
 E0 v1)
def l0 (lf : Nat) (v0 v2 : List Int) (v3 : Int) (v5 : Bool) (v6 v7 : ByteArray) : Nat → Int → Int → Option ((Int × Unit) × Unit)
 | 0, _, _ => none
 | n + 1, v1, v4 => r0 lf v0 v2 v3 v5 v6 v7 v1 v4 (l0 lf v0 v2 v3 v5 v6 v7 n) (fun w0 => some ((w0, ()), ()))
def sh0 : ShS := ⟨[.s (.sl (.int .i64)), .a 1, .s (.ptr 0 0), .s (.int .i64), .a 3, .s (.sl (.int .i64)), .s (.int .i64), .s (.int .i64), .a 28], [.cells [.s .bool, .s .str, .s .str] 26]⟩
def S0 (p : (List Int) × Int × (List Int) × Int × Int × Bool × ByteArray × ByteArray × Unit) : St := sh0.b p
def xh0 : ShS := ⟨[.s (.sl (.int .i64)), .a 1, .s (.ptr 0 0), .s (.int .i64), .a 34], [.cells [.s .bool, .s .str, .s .str] 26]⟩
def o0 (v0 v2 : List Int) (v3 : Int) (v5 : Bool) (v6 v7 : ByteArray) (y : (Int × Unit) × Unit) : Alt := .one (.exit 0) (xh0.b (v0, y.1.1, v5, v6, v7, ()))
def tb (lf : Nat) : List (FuncId × Entry) := [(123, surveyorref01_Whole.E lf), (130, surveyortop_playGcd.E lf)]
def s13_36 (lf : Nat) : List (Nat × (St → Option LTE)) := [(0, sumE sh0 fun (p : (List Int) × Int × (List Int) × Int × Int × Bool × ByteArray × ByteArray × Unit) => ⟨(Int × Unit) × Unit, l0 lf p.1 p.2.2.1 p.2.2.2.1 p.2.2.2.2.2.1 p.2.2.2.2.2.2.1 p.2.2.2.2.2.2.2.1 (lf + 40) p.2.1 p.2.2.2.2.1, o0 p.1 p.2.2.1 p.2.2.2.1 p.2.2.2.2.2.1 p.2.2.2.2.2.2.1 p.2.2.2.2.2.2.2.1⟩)]
def ls (lf : Nat) : List (Nat × FuncId × Sums) := [(13, 36, sumsL (s13_36 lf))]
def it0 {ρ : Type} (lf n : Nat) (st : St) (k : KE ρ) : Option ρ := itG anns (ls lf) (tb lf) lf 13 36 0 1 (sumsL (s13_36 lf)) n st k
theorem t0 {ρ : Type} (lf n : Nat) (v0 : List Int) (v1 : Int) (v2 : List Int) (v3 v4 : Int) (v5 : Bool) (v6 v7 : ByteArray) (k : KE ρ) : it0 lf (n + 1) (S0 (v0, v1, v2, v3, v4, v5, v6, v7, ())) k = r0 lf v0 v2 v3 v5 v6 v7 v1 v4 (fun x0 x1 => it0 lf n (S0 (v0, x0, v2, v3, x1, v5, v6, v7, ())) k) (fun w0 => k (.exit 0) (xh0.b (v0, w0, v5, v6, v7, ()))) := by kernel_rfl
theorem u0 {ρ : Type} (lf : Nat) (v0 v2 : List Int) (v3 : Int) (v5 : Bool) (v6 v7 : ByteArray) (k : KE ρ) : ∀ (n : Nat) (v1 v4 : Int), it0 lf n (S0 (v0, v1, v2, v3, v4, v5, v6, v7, ())) k = bd (l0 lf v0 v2 v3 v5 v6 v7 n v1 v4) fun y => altK k (o0 v0 v2 v3 v5 v6 v7 y)
 | 0, _, _ => by rw [l0, bd_none]; rfl
 | n + 1, v1, v4 => by
  rw [t0]; simp only [l0, r0, u0 lf v0 v2 v3 v5 v6 v7 k n, bd_br, bd_bd, bd_some', bd_none, br_t, br_f, o0, altK]
theorem sl (lf : Nat) : SL anns (ls lf) (tb lf) lf (ls lf) := slC (laC (fun _ => by kernel_rfl) (fun _ (x : (List Int) × Int × (List Int) × Int × Int × Bool × ByteArray × ByteArray × Unit) k => leq_of (u0 lf x.1 x.2.2.1 x.2.2.2.1 x.2.2.2.2.2.1 x.2.2.2.2.2.2.1 x.2.2.2.2.2.2.2.1 k (lf + 40) x.2.1 x.2.2.2.2.1)) laN) slN
def f (lf : Nat) (a0 : List Int) : Option (TI × Unit) :=
 bd (l0 lf a0 a0 ((a0.length : Nat) : Int) false (⟨#[]⟩ : ByteArray) (⟨#[]⟩ : ByteArray) (lf + 40) 0 0) fun z4 =>
 bd (idxL a0 0) fun y5 =>
 br (decide (z4.1.1 > 0)) (
 bd (iRem y5 z4.1.1) fun r6 =>
 bd (iRem (i64.wrap (r6 + z4.1.1)) z4.1.1) fun r7 =>
 bd (surveyorref01_Whole.f lf z4.1.1) fun r8 =>
 bd (surveyorref01_Whole.f lf r7) fun r9 =>
 some ((false, r8.1, r9.1, ()), ())) (
 bd (surveyorref01_Whole.f lf z4.1.1) fun r10 =>
 bd (surveyorref01_Whole.f lf y5) fun r11 =>
 some ((false, r10.1, r11.1, ()), ()))
def E (lf : Nat) : Entry := ⟨[(.sl (.int .i64))], [yI], fun x => f lf x.1⟩
theorem ok (lf : Nat) : Ok 36 (E lf) := okL (tC (surveyorref01_Whole.ok lf) (tC (surveyortop_playGcd.ok lf) tN)) (aoC aoN) (sl lf) fun x => by kernel_rfl
end surveyortop_playLeast
namespace surveyortop_playValues
def f (lf : Nat)  : Option (Bool × Unit) :=
 bd (value_Make.f lf (false, (⟨#[50]⟩ : ByteArray), (⟨#[54]⟩ : ByteArray), ()) (false, (⟨#[50]⟩ : ByteArray), (⟨#[48]⟩ : ByteArray), ())) fun r1 =>
 bd (value_Of.f lf (⟨#[51]⟩ : ByteArray)) fun r2 =>
 bd (value_Apply.f lf 5 r1.1 r2.1) fun r3 =>
 bd (sign_Mul.f lf 4 1) fun r4 =>
 bd (constant_Of.f lf (⟨#[55]⟩ : ByteArray)) fun r5 =>
 bd (constant_Holds.f lf r5.1 (⟨#[55]⟩ : ByteArray)) fun r6 =>
 br ((i64.wrap ((i64.wrap ((i64.wrap ((i64.wrap ((i64.wrap (r1.2.1 + r2.2.1)) + r3.2.1)) + r4.2.1)) + r5.2.1)) + r6.2.1)) == 0) (
 br r6.1 (
 br (r4.1 == 1) (
 bd (some (((r3.1.1.1 == false) && ((r3.1.1.2.1 == (⟨#[54]⟩ : ByteArray)) && ((r3.1.1.2.2.1 == (⟨#[49, 56]⟩ : ByteArray)) && true))) && (((r3.1.2.1.1 == false) && ((r3.1.2.1.2.1 == (⟨#[54]⟩ : ByteArray)) && ((r3.1.2.1.2.2.1 == (⟨#[48]⟩ : ByteArray)) && true))) && true))) fun r7 =>
 some (r7, ())) (
 some (false, ()))) (
 some (false, ()))) (
 some (false, ()))
def E (lf : Nat) : Entry := ⟨[], [.bool], fun x => f lf ⟩
theorem ok (lf : Nat) : Ok 37 (E lf) := okT (an := (annsL [])) (lf := lf) (tC (value_Apply.ok lf) (tC (value_Make.ok lf) (tC (value_Of.ok lf) (tC (constant_Of.ok lf) (tC (constant_Holds.ok lf) (tC (sign_Mul.ok lf) tN)))))) aoN fun x => by kernel_rfl
end surveyortop_playValues
end
end Go.Q
