import Derived.Test.YtniehiachpcdeaaGreatDoorProg
import Derived.KernelRfl
import Derived.Test.YtniehiachpcdeaaGreatDoorTVE3
import Derived.Test.YtniehiachpcdeaaGreatDoorTVG5
import Derived.Test.YtniehiachpcdeaaGreatDoorTVG6
import Derived.Test.YtniehiachpcdeaaGreatDoorTVG7
import Derived.Test.YtniehiachpcdeaaGreatDoorTVG8
set_option linter.unusedVariables false
set_option linter.unusedSimpArgs false
set_option linter.unusedSectionVars false
set_option maxRecDepth 100000
namespace Go.Q
open Go.IntKind (i64)
open Go Go.RowKit
open Go.Rx (br bd sIdx sCat sCut iQuo iRem)
noncomputable section
namespace surveyortop_TopChainsValues
def anns : FuncId → FA := annsL [(8, ⟨annOf [(0, ⟨kx 79 [3, 4, 20, 21, 22], [], []⟩, ⟨kx 79 [2, 4], [], []⟩)], none, []⟩)]
def r0 {ρ : Type} (lf : Nat) (v1 : List TV) (v2 : Int) (v0 v3 : Int) (v4 : Bool) (v5 v6 : ByteArray) (v7 : Bool) (v8 v9 : ByteArray) (K : Int → Int → Bool → ByteArray → ByteArray → Bool → ByteArray → ByteArray → Option ρ) (E0 : Bool → Int → Bool → ByteArray → ByteArray → Bool → ByteArray → ByteArray → Option ρ) (E1 : Int → Bool → ByteArray → ByteArray → Bool → ByteArray → ByteArray → Option ρ) : Option ρ :=
 br (decide (v3 < v2)) (
 bd (idxL v1 v3) fun y3 =>
 bd (surveyorref23_Check.f lf y3) fun r4 =>
 br (r4.1 != 0) (
 bd (surveyortop_tryChains.f lf) fun r5 =>
 E0 r5.1 v0 v4 v5 v6 v7 v8 v9) (
 bd (surveyortop_trySize.f lf y3) fun r6 =>
 br (decide (r6.1 > 1000)) (
 bd (surveyortop_tryChains.f lf) fun r7 =>
 E0 r7.1 v0 v4 v5 v6 v7 v8 v9) (
 bd (value_Widen.f lf ((v4, v5, v6, ()), (v7, v8, v9, ()), ()) y3 []) fun r8 =>
 bd (value_Leq.f lf y3 r8.1) fun r9 =>
 bd (value_Leq.f lf ((v4, v5, v6, ()), (v7, v8, v9, ()), ()) r8.1) fun r10 =>
 br ((i64.wrap ((i64.wrap (r8.2.1 + r9.2.1)) + r10.2.1)) != 0) (
 E0 false v0 v4 v5 v6 v7 v8 v9) (
 br (!r9.1) (
 E0 false v0 v4 v5 v6 v7 v8 v9) (
 br (!r10.1) (
 E0 false v0 v4 v5 v6 v7 v8 v9) (
 bd (some (!(((r8.1.1.1 == v4) && ((r8.1.1.2.1 == v5) && ((r8.1.1.2.2.1 == v6) && true))) && (((r8.1.2.1.1 == v7) && ((r8.1.2.1.2.1 == v8) && ((r8.1.2.1.2.2.1 == v9) && true))) && true)))) fun r11 =>
 br r11 (
 K (i64.wrap (v0 + 1)) (i64.wrap (v3 + 1)) r8.1.1.1 r8.1.1.2.1 r8.1.1.2.2.1 r8.1.2.1.1 r8.1.2.1.2.1 r8.1.2.1.2.2.1) (
 K v0 (i64.wrap (v3 + 1)) r8.1.1.1 r8.1.1.2.1 r8.1.1.2.2.1 r8.1.2.1.1 r8.1.2.1.2.1 r8.1.2.1.2.2.1))))))) (
 E1 v0 v4 v5 v6 v7 v8 v9)
def l0 (lf : Nat) (v1 : List TV) (v2 : Int) : Nat → Int → Int → Bool → ByteArray → ByteArray → Bool → ByteArray → ByteArray → Option (Bool × (Bool × Int × Bool × ByteArray × ByteArray × Bool × ByteArray × ByteArray × Unit) × (Int × Bool × ByteArray × ByteArray × Bool × ByteArray × ByteArray × Unit) × Unit)
 | 0, _, _, _, _, _, _, _, _ => none
 | n + 1, v0, v3, v4, v5, v6, v7, v8, v9 => r0 lf v1 v2 v0 v3 v4 v5 v6 v7 v8 v9 (l0 lf v1 v2 n) (fun w0 w1 w2 w3 w4 w5 w6 w7 => some (true, (w0, w1, w2, w3, w4, w5, w6, w7, ()), ((0, false, (⟨#[]⟩ : ByteArray), (⟨#[]⟩ : ByteArray), false, (⟨#[]⟩ : ByteArray), (⟨#[]⟩ : ByteArray), ()), ()))) (fun w0 w1 w2 w3 w4 w5 w6 => some (false, (false, 0, false, (⟨#[]⟩ : ByteArray), (⟨#[]⟩ : ByteArray), false, (⟨#[]⟩ : ByteArray), (⟨#[]⟩ : ByteArray), ()), ((w0, w1, w2, w3, w4, w5, w6, ()), ())))
def sh0 : ShS := ⟨[.a 3, .s (.ptr 0 0), .s (.int .i64), .a 15, .s (.sl yV), .s (.int .i64), .s (.int .i64), .a 56], [.cells [.s .bool, .s .str, .s .str, .s .bool, .s .str, .s .str] 29]⟩
def S0 (p : Int × (List TV) × Int × Int × Bool × ByteArray × ByteArray × Bool × ByteArray × ByteArray × Unit) : St := sh0.b p
def xh0 : ShS := ⟨[.a 2, .s .bool, .a 1, .s (.int .i64), .a 74], [.cells [.s .bool, .s .str, .s .str, .s .bool, .s .str, .s .str] 29]⟩
def xh1 : ShS := ⟨[.a 4, .s (.int .i64), .a 74], [.cells [.s .bool, .s .str, .s .str, .s .bool, .s .str, .s .str] 29]⟩
def o0 (v1 : List TV) (v2 : Int) (y : Bool × (Bool × Int × Bool × ByteArray × ByteArray × Bool × ByteArray × ByteArray × Unit) × (Int × Bool × ByteArray × ByteArray × Bool × ByteArray × ByteArray × Unit) × Unit) : Alt := .two y.1 (.one .ret (xh0.b (y.2.1.1, y.2.1.2.1, y.2.1.2.2.1, y.2.1.2.2.2.1, y.2.1.2.2.2.2.1, y.2.1.2.2.2.2.2.1, y.2.1.2.2.2.2.2.2.1, y.2.1.2.2.2.2.2.2.2.1, ()))) (.one (.exit 0) (xh1.b (y.2.2.1.1, y.2.2.1.2.1, y.2.2.1.2.2.1, y.2.2.1.2.2.2.1, y.2.2.1.2.2.2.2.1, y.2.2.1.2.2.2.2.2.1, y.2.2.1.2.2.2.2.2.2.1, ())))
def tb (lf : Nat) : List (FuncId × Entry) := [(43, surveyorref23_Check.E lf), (46, surveyortop_tryChains.E lf), (47, surveyorref22_Empty.E lf), (48, surveyortop_trySize.E lf), (49, value_Widen.E lf), (50, value_Leq.E lf)]
def s13_8 (lf : Nat) : List (Nat × (St → Option LTE)) := [(0, sumE sh0 fun (p : Int × (List TV) × Int × Int × Bool × ByteArray × ByteArray × Bool × ByteArray × ByteArray × Unit) => ⟨Bool × (Bool × Int × Bool × ByteArray × ByteArray × Bool × ByteArray × ByteArray × Unit) × (Int × Bool × ByteArray × ByteArray × Bool × ByteArray × ByteArray × Unit) × Unit, l0 lf p.2.1 p.2.2.1 (lf + 40) p.1 p.2.2.2.1 p.2.2.2.2.1 p.2.2.2.2.2.1 p.2.2.2.2.2.2.1 p.2.2.2.2.2.2.2.1 p.2.2.2.2.2.2.2.2.1 p.2.2.2.2.2.2.2.2.2.1, o0 p.2.1 p.2.2.1⟩)]
def ls (lf : Nat) : List (Nat × FuncId × Sums) := [(13, 8, sumsL (s13_8 lf))]
def it0 {ρ : Type} (lf n : Nat) (st : St) (k : KE ρ) : Option ρ := itG anns (ls lf) (tb lf) lf 13 8 0 1 (sumsL (s13_8 lf)) n st k
theorem t0 {ρ : Type} (lf n : Nat) (v0 : Int) (v1 : List TV) (v2 v3 : Int) (v4 : Bool) (v5 v6 : ByteArray) (v7 : Bool) (v8 v9 : ByteArray) (k : KE ρ) : it0 lf (n + 1) (S0 (v0, v1, v2, v3, v4, v5, v6, v7, v8, v9, ())) k = r0 lf v1 v2 v0 v3 v4 v5 v6 v7 v8 v9 (fun x0 x1 x2 x3 x4 x5 x6 x7 => it0 lf n (S0 (x0, v1, v2, x1, x2, x3, x4, x5, x6, x7, ())) k) (fun w0 w1 w2 w3 w4 w5 w6 w7 => k .ret (xh0.b (w0, w1, w2, w3, w4, w5, w6, w7, ()))) (fun w0 w1 w2 w3 w4 w5 w6 => k (.exit 0) (xh1.b (w0, w1, w2, w3, w4, w5, w6, ()))) := by kernel_rfl
theorem u0 {ρ : Type} (lf : Nat) (v1 : List TV) (v2 : Int) (k : KE ρ) : ∀ (n : Nat) (v0 v3 : Int) (v4 : Bool) (v5 v6 : ByteArray) (v7 : Bool) (v8 v9 : ByteArray), it0 lf n (S0 (v0, v1, v2, v3, v4, v5, v6, v7, v8, v9, ())) k = bd (l0 lf v1 v2 n v0 v3 v4 v5 v6 v7 v8 v9) fun y => altK k (o0 v1 v2 y)
 | 0, _, _, _, _, _, _, _, _ => by rw [l0, bd_none]; rfl
 | n + 1, v0, v3, v4, v5, v6, v7, v8, v9 => by
  rw [t0]; simp only [l0, r0, u0 lf v1 v2 k n, bd_br, bd_bd, bd_some', bd_none, br_t, br_f, o0, altK]
theorem sl (lf : Nat) : SL anns (ls lf) (tb lf) lf (ls lf) := slC (laC (fun _ => by kernel_rfl) (fun _ (x : Int × (List TV) × Int × Int × Bool × ByteArray × ByteArray × Bool × ByteArray × ByteArray × Unit) k => leq_of (u0 lf x.2.1 x.2.2.1 k (lf + 40) x.1 x.2.2.2.1 x.2.2.2.2.1 x.2.2.2.2.2.1 x.2.2.2.2.2.2.1 x.2.2.2.2.2.2.2.1 x.2.2.2.2.2.2.2.2.1 x.2.2.2.2.2.2.2.2.2.1)) laN) slN
def f (lf : Nat) (a0 : List TV) : Option (Bool × Unit) :=
 br (decide (((a0.length : Nat) : Int) > 100)) (
 bd (surveyortop_tryChains.f lf) fun r1 =>
 some (r1.1, ())) (
 bd (surveyorref22_Empty.f lf) fun r2 =>
 bd (l0 lf a0 ((a0.length : Nat) : Int) (lf + 40) 0 0 true (⟨#[]⟩ : ByteArray) (⟨#[]⟩ : ByteArray) r2.1.1 r2.1.2.1 r2.1.2.2.1) fun z12 =>
 br z12.1 (
 some (z12.2.1.1, ())) (
 br (decide (z12.2.2.1.1 ≤ 20)) (
 bd (surveyortop_tryChains.f lf) fun r13 =>
 some (r13.1, ())) (
 some (false, ()))))
def E (lf : Nat) : Entry := ⟨[(.sl yV)], [.bool], fun x => f lf x.1⟩
theorem ok (lf : Nat) : Ok 8 (E lf) := okL (tC (surveyorref23_Check.ok lf) (tC (surveyortop_tryChains.ok lf) (tC (surveyorref22_Empty.ok lf) (tC (surveyortop_trySize.ok lf) (tC (value_Widen.ok lf) (tC (value_Leq.ok lf) tN)))))) (aoC aoN) (sl lf) fun x => by kernel_rfl
end surveyortop_TopChainsValues
end
end Go.Q
