import Derived.Test.YtfogkflaijhfoaaGreatDoorProg
import Derived.KernelRfl
import Derived.Test.YtfogkflaijhfoaaGreatDoorTCE3
import Derived.Test.YtfogkflaijhfoaaGreatDoorTCG8
import Derived.Test.YtfogkflaijhfoaaGreatDoorTCG9
set_option linter.unusedVariables false
set_option linter.unusedSimpArgs false
set_option linter.unusedSectionVars false
set_option maxRecDepth 100000
namespace Go.Q
open Go.IntKind (i64)
open Go Go.RowKit
open Go.Rx (br bd sIdx sCat sCut iQuo iRem)
noncomputable section
namespace surveyortop_TopChainsClasses
def anns : FuncId → FA := annsL [(3, ⟨annOf [(0, ⟨kx 101 [3, 4, 5, 19, 20, 21], [], []⟩, ⟨kx 101 [2, 4, 5], [], []⟩)], none, []⟩)]
def r0 {ρ : Type} (lf : Nat) (v2 : List TI) (v3 : Int) (v0 v1 v4 : Int) (v5 : Bool) (v6 v7 : ByteArray) (K : Int → Int → Int → Bool → ByteArray → ByteArray → Option ρ) (E0 : Bool → Int → Int → Bool → ByteArray → ByteArray → Option ρ) (E1 : Int → Int → Bool → ByteArray → ByteArray → Option ρ) : Option ρ :=
 br (decide (v4 < v3)) (
 bd (idxL v2 v4) fun y3 =>
 bd (surveyorref22_Check.f lf y3) fun r4 =>
 br (r4.1 != 0) (
 bd (surveyortop_tryChains.f lf) fun r5 =>
 E0 r5.1 v0 v1 v5 v6 v7) (
 bd (congruence_Join.f lf (v5, v6, v7, ()) y3) fun r6 =>
 bd (congruence_Leq.f lf y3 r6.1) fun r7 =>
 bd (congruence_Leq.f lf (v5, v6, v7, ()) r6.1) fun r8 =>
 br ((i64.wrap ((i64.wrap (r6.2.1 + r7.2.1)) + r8.2.1)) != 0) (
 E0 false v0 v1 v5 v6 v7) (
 br (!r7.1) (
 E0 false v0 v1 v5 v6 v7) (
 br (!r8.1) (
 E0 false v0 v1 v5 v6 v7) (
 bd (surveyorref22_Check.f lf r6.1) fun r9 =>
 br (r9.1 != 0) (
 E0 false v0 v1 v5 v6 v7) (
 bd (some (!((r6.1.1 == v5) && ((r6.1.2.1 == v6) && ((r6.1.2.2.1 == v7) && true))))) fun r10 =>
 br r10 (
 br (!r6.1.1) (
 br (!(r6.1.2.1.toList == (⟨#[48]⟩ : ByteArray).toList)) (
 br v5 (
 bd (surveyortop_tryDigits.f lf r6.1.2.1) fun r11 =>
 K (i64.wrap (v0 + 1)) (i64.wrap ((i64.wrap (v0 + 1)) + r11.1)) (i64.wrap (v4 + 1)) r6.1.1 r6.1.2.1 r6.1.2.2.1) (
 br (v6.toList == (⟨#[48]⟩ : ByteArray).toList) (
 bd (surveyortop_tryDigits.f lf r6.1.2.1) fun r12 =>
 K (i64.wrap (v0 + 1)) (i64.wrap ((i64.wrap (v0 + 1)) + r12.1)) (i64.wrap (v4 + 1)) r6.1.1 r6.1.2.1 r6.1.2.2.1) (
 K (i64.wrap (v0 + 1)) v1 (i64.wrap (v4 + 1)) r6.1.1 r6.1.2.1 r6.1.2.2.1))) (
 K (i64.wrap (v0 + 1)) v1 (i64.wrap (v4 + 1)) r6.1.1 r6.1.2.1 r6.1.2.2.1)) (
 K (i64.wrap (v0 + 1)) v1 (i64.wrap (v4 + 1)) r6.1.1 r6.1.2.1 r6.1.2.2.1)) (
 K v0 v1 (i64.wrap (v4 + 1)) r6.1.1 r6.1.2.1 r6.1.2.2.1))))))) (
 E1 v0 v1 v5 v6 v7)
def l0 (lf : Nat) (v2 : List TI) (v3 : Int) : Nat → Int → Int → Int → Bool → ByteArray → ByteArray → Option (Bool × (Bool × Int × Int × Bool × ByteArray × ByteArray × Unit) × (Int × Int × Bool × ByteArray × ByteArray × Unit) × Unit)
 | 0, _, _, _, _, _, _ => none
 | n + 1, v0, v1, v4, v5, v6, v7 => r0 lf v2 v3 v0 v1 v4 v5 v6 v7 (l0 lf v2 v3 n) (fun w0 w1 w2 w3 w4 w5 => some (true, (w0, w1, w2, w3, w4, w5, ()), ((0, 0, false, (⟨#[]⟩ : ByteArray), (⟨#[]⟩ : ByteArray), ()), ()))) (fun w0 w1 w2 w3 w4 => some (false, (false, 0, 0, false, (⟨#[]⟩ : ByteArray), (⟨#[]⟩ : ByteArray), ()), ((w0, w1, w2, w3, w4, ()), ())))
def sh0 : ShS := ⟨[.a 3, .s (.ptr 0 0), .s (.int .i64), .s (.int .i64), .a 13, .s (.sl yI), .s (.int .i64), .s (.int .i64), .a 79], [.cells [.s .bool, .s .str, .s .str] 26]⟩
def S0 (p : Int × Int × (List TI) × Int × Int × Bool × ByteArray × ByteArray × Unit) : St := sh0.b p
def xh0 : ShS := ⟨[.a 2, .s .bool, .a 1, .s (.int .i64), .s (.int .i64), .a 95], [.cells [.s .bool, .s .str, .s .str] 26]⟩
def xh1 : ShS := ⟨[.a 4, .s (.int .i64), .s (.int .i64), .a 95], [.cells [.s .bool, .s .str, .s .str] 26]⟩
def o0 (v2 : List TI) (v3 : Int) (y : Bool × (Bool × Int × Int × Bool × ByteArray × ByteArray × Unit) × (Int × Int × Bool × ByteArray × ByteArray × Unit) × Unit) : Alt := .two y.1 (.one .ret (xh0.b (y.2.1.1, y.2.1.2.1, y.2.1.2.2.1, y.2.1.2.2.2.1, y.2.1.2.2.2.2.1, y.2.1.2.2.2.2.2.1, ()))) (.one (.exit 0) (xh1.b (y.2.2.1.1, y.2.2.1.2.1, y.2.2.1.2.2.1, y.2.2.1.2.2.2.1, y.2.2.1.2.2.2.2.1, ())))
def tb (lf : Nat) : List (FuncId × Entry) := [(15, surveyortop_tryChains.E lf), (16, surveyorref22_Empty.E lf), (17, surveyorref22_Check.E lf), (18, congruence_Join.E lf), (19, congruence_Leq.E lf), (20, surveyortop_tryDigits.E lf)]
def s13_3 (lf : Nat) : List (Nat × (St → Option LTE)) := [(0, sumE sh0 fun (p : Int × Int × (List TI) × Int × Int × Bool × ByteArray × ByteArray × Unit) => ⟨Bool × (Bool × Int × Int × Bool × ByteArray × ByteArray × Unit) × (Int × Int × Bool × ByteArray × ByteArray × Unit) × Unit, l0 lf p.2.2.1 p.2.2.2.1 (lf + 40) p.1 p.2.1 p.2.2.2.2.1 p.2.2.2.2.2.1 p.2.2.2.2.2.2.1 p.2.2.2.2.2.2.2.1, o0 p.2.2.1 p.2.2.2.1⟩)]
def ls (lf : Nat) : List (Nat × FuncId × Sums) := [(13, 3, sumsL (s13_3 lf))]
def it0 {ρ : Type} (lf n : Nat) (st : St) (k : KE ρ) : Option ρ := itG anns (ls lf) (tb lf) lf 13 3 0 1 (sumsL (s13_3 lf)) n st k
theorem t0 {ρ : Type} (lf n : Nat) (v0 v1 : Int) (v2 : List TI) (v3 v4 : Int) (v5 : Bool) (v6 v7 : ByteArray) (k : KE ρ) : it0 lf (n + 1) (S0 (v0, v1, v2, v3, v4, v5, v6, v7, ())) k = r0 lf v2 v3 v0 v1 v4 v5 v6 v7 (fun x0 x1 x2 x3 x4 x5 => it0 lf n (S0 (x0, x1, v2, v3, x2, x3, x4, x5, ())) k) (fun w0 w1 w2 w3 w4 w5 => k .ret (xh0.b (w0, w1, w2, w3, w4, w5, ()))) (fun w0 w1 w2 w3 w4 => k (.exit 0) (xh1.b (w0, w1, w2, w3, w4, ()))) := by kernel_rfl
theorem u0 {ρ : Type} (lf : Nat) (v2 : List TI) (v3 : Int) (k : KE ρ) : ∀ (n : Nat) (v0 v1 v4 : Int) (v5 : Bool) (v6 v7 : ByteArray), it0 lf n (S0 (v0, v1, v2, v3, v4, v5, v6, v7, ())) k = bd (l0 lf v2 v3 n v0 v1 v4 v5 v6 v7) fun y => altK k (o0 v2 v3 y)
 | 0, _, _, _, _, _, _ => by rw [l0, bd_none]; rfl
 | n + 1, v0, v1, v4, v5, v6, v7 => by
  rw [t0]; simp only [l0, r0, u0 lf v2 v3 k n, bd_br, bd_bd, bd_some', bd_none, br_t, br_f, o0, altK]
theorem sl (lf : Nat) : SL anns (ls lf) (tb lf) lf (ls lf) := slC (laC (fun _ => by kernel_rfl) (fun _ (x : Int × Int × (List TI) × Int × Int × Bool × ByteArray × ByteArray × Unit) k => leq_of (u0 lf x.2.2.1 x.2.2.2.1 k (lf + 40) x.1 x.2.1 x.2.2.2.2.1 x.2.2.2.2.2.1 x.2.2.2.2.2.2.1 x.2.2.2.2.2.2.2.1)) laN) slN
def f (lf : Nat) (a0 : List TI) : Option (Bool × Unit) :=
 br (decide (((a0.length : Nat) : Int) > 100)) (
 bd (surveyortop_tryChains.f lf) fun r1 =>
 some (r1.1, ())) (
 bd (surveyorref22_Empty.f lf) fun r2 =>
 bd (l0 lf a0 ((a0.length : Nat) : Int) (lf + 40) 0 2 0 r2.1.1 r2.1.2.1 r2.1.2.2.1) fun z13 =>
 br z13.1 (
 some (z13.2.1.1, ())) (
 br (decide (z13.2.2.1.1 ≤ z13.2.2.1.2.1)) (
 bd (surveyortop_tryChains.f lf) fun r14 =>
 some (r14.1, ())) (
 some (false, ()))))
def E (lf : Nat) : Entry := ⟨[(.sl yI)], [.bool], fun x => f lf x.1⟩
theorem ok (lf : Nat) : Ok 3 (E lf) := okL (tC (surveyortop_tryChains.ok lf) (tC (surveyorref22_Empty.ok lf) (tC (surveyorref22_Check.ok lf) (tC (congruence_Join.ok lf) (tC (congruence_Leq.ok lf) (tC (surveyortop_tryDigits.ok lf) tN)))))) (aoC aoN) (sl lf) fun x => by kernel_rfl
end surveyortop_TopChainsClasses
end
end Go.Q
