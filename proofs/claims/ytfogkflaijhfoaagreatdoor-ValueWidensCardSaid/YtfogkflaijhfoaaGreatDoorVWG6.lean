import Derived.Test.YtfogkflaijhfoaaGreatDoorProg
import Derived.KernelRfl
import Derived.Test.YtfogkflaijhfoaaGreatDoorVWE3
import Derived.Test.YtfogkflaijhfoaaGreatDoorVWG1
import Derived.Test.YtfogkflaijhfoaaGreatDoorVWG3
import Derived.Test.YtfogkflaijhfoaaGreatDoorVWG4
import Derived.Test.YtfogkflaijhfoaaGreatDoorVWG5
set_option linter.unusedVariables false
set_option linter.unusedSimpArgs false
set_option linter.unusedSectionVars false
set_option maxRecDepth 100000
namespace Go.Q
open Go.IntKind (i64)
open Go Go.RowKit
open Go.Rx (br bd sIdx sCat sCut iQuo iRem)
noncomputable section
namespace surveyorref01_times
def anns : FuncId → FA := annsL [(160, ⟨annOf [(0, ⟨kx 63 [0, 1, 5, 6], [], []⟩, ⟨kx 63 [4, 5], [], []⟩), (1, ⟨kx 63 [0, 1, 5, 6, 7, 8], [], []⟩, ⟨kx 63 [0, 1, 4, 5, 6, 7], [], []⟩)], none, []⟩)]
def r1 {ρ : Type} (lf : Nat) (v0 v1 : List Int) (v2 : Int) (v3 v4 : Int) (v5 : List Int) (K : Int → Int → (List Int) → Option ρ) (E0 : Int → (List Int) → Option ρ) : Option ρ :=
 br (decide (v4 < ((v1.length : Nat) : Int))) (
 bd (idxB v5.length (i64.wrap (v2 + v4))) fun j2 =>
 bd (v5[j2]?) fun y3 =>
 bd (idxL v0 v2) fun y4 =>
 bd (idxL v1 v4) fun y5 =>
 bd (iRem (i64.wrap (v3 + (i64.wrap (y3 + (i64.wrap (y4 * y5)))))) 10) fun r6 =>
 bd (idxB v5.length (i64.wrap (v2 + v4))) fun j7 =>
 bd (upE v5 j7 fun _ => some r6) fun q8 =>
 bd (iQuo .i64 (i64.wrap (v3 + (i64.wrap (y3 + (i64.wrap (y4 * y5)))))) 10) fun r10 =>
 K r10 (i64.wrap (v4 + 1)) q8) (
 E0 v3 v5)
def l1 (lf : Nat) (v0 v1 : List Int) (v2 : Int) : Nat → Int → Int → (List Int) → Option ((Int × (List Int) × Unit) × Unit)
 | 0, _, _, _ => none
 | n + 1, v3, v4, v5 => r1 lf v0 v1 v2 v3 v4 v5 (l1 lf v0 v1 v2 n) (fun w0 w1 => some ((w0, w1, ()), ()))
def sh1 : ShS := ⟨[.s (.sl (.int .i64)), .s (.sl (.int .i64)), .a 3, .s (.row 0), .s (.int .i64), .s (.int .i64), .s (.int .i64), .a 54], [.row (.int .i64) 3 false]⟩
def S1 (p : (List Int) × (List Int) × Int × Int × Int × (List Int) × Unit) : St := sh1.b p
def xh0 : ShS := ⟨[.s (.sl (.int .i64)), .s (.sl (.int .i64)), .a 3, .s (.row 0), .s (.int .i64), .s (.int .i64), .a 55], [.row (.int .i64) 3 false]⟩
def o1 (v0 v1 : List Int) (v2 : Int) (y : (Int × (List Int) × Unit) × Unit) : Alt := .one (.exit 2) (xh0.b (v0, v1, v2, y.1.1, y.1.2.1, ()))
def r0 {ρ : Type} (lf : Nat) (v0 v1 : List Int) (v2 : Int) (v3 : List Int) (K : Int → (List Int) → Option ρ) (E0 : (List Int) → Option ρ) : Option ρ :=
 br (decide (v2 < ((v0.length : Nat) : Int))) (
 bd (l1 lf v0 v1 v2 (lf + 40) 0 0 v3) fun z11 =>
 bd (idxB z11.1.2.1.length (i64.wrap (v2 + ((v1.length : Nat) : Int)))) fun j12 =>
 bd (upE z11.1.2.1 j12 fun _ => some z11.1.1) fun q13 =>
 K (i64.wrap (v2 + 1)) q13) (
 E0 v3)
def l0 (lf : Nat) (v0 v1 : List Int) : Nat → Int → (List Int) → Option (((List Int) × Unit) × Unit)
 | 0, _, _ => none
 | n + 1, v2, v3 => r0 lf v0 v1 v2 v3 (l0 lf v0 v1 n) (fun w0 => some ((w0, ()), ()))
def sh0 : ShS := ⟨[.s (.sl (.int .i64)), .s (.sl (.int .i64)), .a 3, .s (.row 0), .s (.int .i64), .a 56], [.row (.int .i64) 3 false]⟩
def S0 (p : (List Int) × (List Int) × Int × (List Int) × Unit) : St := sh0.b p
def xh1 : ShS := ⟨[.a 5, .s (.row 0), .a 57], [.row (.int .i64) 3 false]⟩
def o0 (v0 v1 : List Int) (y : ((List Int) × Unit) × Unit) : Alt := .one (.exit 0) (xh1.b (y.1.1, ()))
def tb (lf : Nat) : List (FuncId × Entry) := [(139, surveyorref01_cut.E lf)]
def s13_160 (lf : Nat) : List (Nat × (St → Option LTE)) := [(0, sumE sh0 fun (p : (List Int) × (List Int) × Int × (List Int) × Unit) => ⟨((List Int) × Unit) × Unit, l0 lf p.1 p.2.1 (lf + 40) p.2.2.1 p.2.2.2.1, o0 p.1 p.2.1⟩),
 (1, sumE sh1 fun (p : (List Int) × (List Int) × Int × Int × Int × (List Int) × Unit) => ⟨(Int × (List Int) × Unit) × Unit, l1 lf p.1 p.2.1 p.2.2.1 (lf + 40) p.2.2.2.1 p.2.2.2.2.1 p.2.2.2.2.2.1, o1 p.1 p.2.1 p.2.2.1⟩)]
def ls (lf : Nat) : List (Nat × FuncId × Sums) := [(13, 160, sumsL (s13_160 lf))]
def it1 {ρ : Type} (lf n : Nat) (st : St) (k : KE ρ) : Option ρ := itG anns (ls lf) (tb lf) lf 13 160 1 1 (sumsL (s13_160 lf)) n st k
theorem t1 {ρ : Type} (lf n : Nat) (v0 v1 : List Int) (v2 v3 v4 : Int) (v5 : List Int) (k : KE ρ) : it1 lf (n + 1) (S1 (v0, v1, v2, v3, v4, v5, ())) k = r1 lf v0 v1 v2 v3 v4 v5 (fun x0 x1 x2 => it1 lf n (S1 (v0, v1, v2, x0, x1, x2, ())) k) (fun w0 w1 => k (.exit 2) (xh0.b (v0, v1, v2, w0, w1, ()))) := by kernel_rfl
theorem u1 {ρ : Type} (lf : Nat) (v0 v1 : List Int) (v2 : Int) (k : KE ρ) : ∀ (n : Nat) (v3 v4 : Int) (v5 : List Int), it1 lf n (S1 (v0, v1, v2, v3, v4, v5, ())) k = bd (l1 lf v0 v1 v2 n v3 v4 v5) fun y => altK k (o1 v0 v1 v2 y)
 | 0, _, _, _ => by rw [l1, bd_none]; rfl
 | n + 1, v3, v4, v5 => by
  rw [t1]; simp only [l1, r1, u1 lf v0 v1 v2 k n, bd_br, bd_bd, bd_some', bd_none, br_t, br_f, o1, altK]
def it0 {ρ : Type} (lf n : Nat) (st : St) (k : KE ρ) : Option ρ := itG anns (ls lf) (tb lf) lf 13 160 0 1 (sumsL (s13_160 lf)) n st k
theorem t0 {ρ : Type} (lf n : Nat) (v0 v1 : List Int) (v2 : Int) (v3 : List Int) (k : KE ρ) : it0 lf (n + 1) (S0 (v0, v1, v2, v3, ())) k = r0 lf v0 v1 v2 v3 (fun x0 x1 => it0 lf n (S0 (v0, v1, x0, x1, ())) k) (fun w0 => k (.exit 0) (xh1.b (w0, ()))) := by kernel_rfl
theorem u0 {ρ : Type} (lf : Nat) (v0 v1 : List Int) (k : KE ρ) : ∀ (n : Nat) (v2 : Int) (v3 : List Int), it0 lf n (S0 (v0, v1, v2, v3, ())) k = bd (l0 lf v0 v1 n v2 v3) fun y => altK k (o0 v0 v1 y)
 | 0, _, _ => by rw [l0, bd_none]; rfl
 | n + 1, v2, v3 => by
  rw [t0]; simp only [l0, r0, u0 lf v0 v1 k n, bd_br, bd_bd, bd_some', bd_none, br_t, br_f, o0, altK]
theorem sl (lf : Nat) : SL anns (ls lf) (tb lf) lf (ls lf) := slC (laC (fun _ => by kernel_rfl) (fun _ (x : (List Int) × (List Int) × Int × (List Int) × Unit) k => leq_of (u0 lf x.1 x.2.1 k (lf + 40) x.2.2.1 x.2.2.2.1)) (laC (fun _ => by kernel_rfl) (fun _ (x : (List Int) × (List Int) × Int × Int × Int × (List Int) × Unit) k => leq_of (u1 lf x.1 x.2.1 x.2.2.1 k (lf + 40) x.2.2.2.1 x.2.2.2.2.1 x.2.2.2.2.2.1)) laN)) slN
def f (lf : Nat) (a0 : List Int) (a1 : List Int) : Option ((List Int) × Unit) :=
 bd (mkL (i64.wrap (((a0.length : Nat) : Int) + ((a1.length : Nat) : Int))) (i64.wrap (((a0.length : Nat) : Int) + ((a1.length : Nat) : Int))) 8 0) fun q1 =>
 bd (l0 lf a0 a1 (lf + 40) 0 q1) fun z15 =>
 bd (surveyorref01_cut.f lf z15.1.1) fun r16 =>
 some (r16.1, ())
def E (lf : Nat) : Entry := ⟨[(.sl (.int .i64)), (.sl (.int .i64))], [(.sl (.int .i64))], fun x => f lf x.1 x.2.1⟩
theorem ok (lf : Nat) : Ok 160 (E lf) := okL (tC (surveyorref01_cut.ok lf) tN) (aoC aoN) (sl lf) fun x => by kernel_rfl
end surveyorref01_times
namespace surveyorref01_Product
def f (lf : Nat) (a0 : ByteArray) (a1 : ByteArray) : Option (ByteArray × Unit) :=
 bd (surveyorref01_Digits.f lf a0) fun r1 =>
 bd (surveyorref01_Digits.f lf a1) fun r2 =>
 br (decide ((i64.wrap (r1.1 + r2.1)) ≤ 18)) (
 bd (surveyorref01_number.f lf a0) fun r3 =>
 bd (surveyorref01_number.f lf a1) fun r4 =>
 bd (surveyorref01_Whole.f lf (i64.wrap (r3.1 * r4.1))) fun r5 =>
 some (r5.1, ())) (
 bd (surveyorref01_digits.f lf a0) fun r6 =>
 bd (surveyorref01_digits.f lf a1) fun r7 =>
 bd (surveyorref01_times.f lf r6.1 r7.1) fun r8 =>
 bd (surveyorref01_Negative.f lf a0) fun r9 =>
 bd (surveyorref01_Negative.f lf a1) fun r10 =>
 bd (surveyorref01_made.f lf r8.1 (r9.1 != r10.1)) fun r11 =>
 some (r11.1, ()))
def E (lf : Nat) : Entry := ⟨[.str, .str], [.str], fun x => f lf x.1 x.2.1⟩
theorem ok (lf : Nat) : Ok 67 (E lf) := okT (an := (annsL [])) (lf := lf) (tC (surveyorref01_Digits.ok lf) (tC (surveyorref01_Whole.ok lf) (tC (surveyorref01_digits.ok lf) (tC (surveyorref01_number.ok lf) (tC (surveyorref01_Negative.ok lf) (tC (surveyorref01_made.ok lf) (tC (surveyorref01_times.ok lf) tN))))))) aoN fun x => by kernel_rfl
end surveyorref01_Product
namespace surveyorref01_floor
def f (lf : Nat) (a0 : Int) (a1 : Int) : Option (Int × Unit) :=
 bd (iQuo .i64 a0 a1) fun r1 =>
 bd (iRem a0 a1) fun r2 =>
 br (r2 != 0) (
 br ((decide (a0 < 0)) != (decide (a1 < 0))) (
 some ((i64.wrap (r1 - 1)), ())) (
 some (r1, ()))) (
 some (r1, ()))
def E (lf : Nat) : Entry := ⟨[(.int .i64), (.int .i64)], [(.int .i64)], fun x => f lf x.1 x.2.1⟩
theorem ok (lf : Nat) : Ok 161 (E lf) := okT (an := (annsL [])) (lf := lf) tN aoN fun x => by kernel_rfl
end surveyorref01_floor
namespace surveyorref01_split
def anns : FuncId → FA := annsL [(162, ⟨annOf [(0, ⟨kx 56 [0, 1, 7, 8, 9], [], []⟩, ⟨kx 56 [4, 5, 7, 8], [], []⟩), (1, ⟨kx 56 [0, 1, 7, 8, 9], [], []⟩, ⟨kx 56 [0, 1, 4, 5, 7, 8, 9], [], []⟩)], none, []⟩)]
def r1 {ρ : Type} (lf : Nat) (v0 v1 : List Int) (v3 : Int) (v5 v6 : List Int) (v2 v4 : List Int) (K : (List Int) → (List Int) → Option ρ) (E0 : (List Int) → (List Int) → Option ρ) : Option ρ :=
 bd (surveyorref01_order.f lf v2 v1) fun r7 =>
 br (decide (r7.1 ≥ 0)) (
 bd (surveyorref01_minus.f lf v2 v1) fun r8 =>
 bd (idxB v4.length v3) fun j9 =>
 bd (v4[j9]?) fun y10 =>
 bd (idxB v4.length v3) fun j11 =>
 bd (upE v4 j11 fun _ => some (i64.wrap (y10 + 1))) fun q12 =>
 K r8.1 q12) (
 E0 v2 v4)
def l1 (lf : Nat) (v0 v1 : List Int) (v3 : Int) (v5 v6 : List Int) : Nat → (List Int) → (List Int) → Option (((List Int) × (List Int) × Unit) × Unit)
 | 0, _, _ => none
 | n + 1, v2, v4 => r1 lf v0 v1 v3 v5 v6 v2 v4 (l1 lf v0 v1 v3 v5 v6 n) (fun w0 w1 => some ((w0, w1, ()), ()))
def sh1 : ShS := ⟨[.s (.sl (.int .i64)), .s (.sl (.int .i64)), .a 5, .s (.row 0), .s (.sl (.int .i64)), .s (.int .i64), .a 46], [.row (.int .i64) 3 false, .gone, .row (.int .i64) 3 false, .gone, .row (.int .i64) 3 true]⟩
def S1 (p : (List Int) × (List Int) × (List Int) × Int × (List Int) × (List Int) × (List Int) × Unit) : St := sh1.b p
def xh0 : ShS := ⟨[.s (.sl (.int .i64)), .s (.sl (.int .i64)), .a 5, .s (.row 0), .s (.sl (.int .i64)), .s (.int .i64), .a 46], [.row (.int .i64) 3 false, .gone, .row (.int .i64) 3 false, .gone, .row (.int .i64) 3 true]⟩
def o1 (v0 v1 : List Int) (v3 : Int) (v5 v6 : List Int) (y : ((List Int) × (List Int) × Unit) × Unit) : Alt := .one (.exit 2) (xh0.b (v0, v1, y.1.1, v3, y.1.2.1, v5, v6, ()))
def r2 {ρ : Type} (lf : Nat) (v0 v1 v5 : List Int) (v2 : List Int) (v3 : Int) (v4 : List Int) (K : (List Int) → Int → (List Int) → Option ρ) (E0 : (List Int) → (List Int) → (List Int) → Option ρ) : Option ρ :=
 br (decide (v3 ≥ 0)) (
 bd (idxL v0 v3) fun y15 =>
 bd (apL true 8 [y15] v2) fun q16 =>
 bd (surveyorref01_cut.f lf q16) fun r17 =>
 bd (l1 lf v0 v1 v3 v5 q16 (lf + 40) r17.1 v4) fun z18 =>
 K z18.1.1 (i64.wrap (v3 - 1)) z18.1.2.1) (
 E0 v2 v4 v5)
def l2 (lf : Nat) (v0 v1 v5 : List Int) : Nat → (List Int) → Int → (List Int) → Option (((List Int) × (List Int) × (List Int) × Unit) × Unit)
 | 0, _, _, _ => none
 | n + 1, v2, v3, v4 => r2 lf v0 v1 v5 v2 v3 v4 (l2 lf v0 v1 v5 n) (fun w0 w1 w2 => some ((w0, w1, w2, ()), ()))
def sh2 : ShS := ⟨[.s (.sl (.int .i64)), .s (.sl (.int .i64)), .a 5, .s (.row 0), .s (.sl (.int .i64)), .s (.int .i64), .a 46], [.row (.int .i64) 3 false, .gone, .row (.int .i64) 3 false]⟩
def S2 (p : (List Int) × (List Int) × (List Int) × Int × (List Int) × (List Int) × Unit) : St := sh2.b p
def xh1 : ShS := ⟨[.a 7, .s (.row 0), .s (.sl (.int .i64)), .a 47], [.row (.int .i64) 3 false, .gone, .row (.int .i64) 3 false]⟩
def o2 (v0 v1 v5 : List Int) (y : ((List Int) × (List Int) × (List Int) × Unit) × Unit) : Alt := .one (.exit 0) (xh1.b (y.1.1, y.1.2.1, y.1.2.2.1, ()))
def r0 {ρ : Type} (lf : Nat) (v0 v1 : List Int) (v2 : Int) (v3 v4 : List Int) (K2 : (List Int) → (List Int) → (List Int) → Int → (List Int) → (List Int) → Option ρ) (E0 : (List Int) → (List Int) → Option ρ) : Option ρ :=
 br (decide (v2 ≥ 0)) (
 bd (idxL v0 v2) fun y4 =>
 bd (apL true 8 [y4] v4) fun q5 =>
 bd (surveyorref01_cut.f lf q5) fun r6 =>
 bd (l1 lf v0 v1 v2 v4 q5 (lf + 40) r6.1 v3) fun z14 =>
 K2 v0 v1 z14.1.1 (i64.wrap (v2 - 1)) z14.1.2.1 v4) (
 E0 v3 v4)
def l0 (lf : Nat) (v0 v1 : List Int) (v2 : Int) (v3 v4 : List Int) : Nat → Option (Bool × ((List Int) × (List Int) × Unit) × ((List Int) × (List Int) × (List Int) × Unit) × Unit)
 | 0 => none
 | n + 1 => r0 lf v0 v1 v2 v3 v4 (fun x0 x1 x2 x3 x4 x5 => bd (l2 lf x0 x1 x5 n x2 x3 x4) fun z19 => some (false, ([], [], ()), ((z19.1.1, z19.1.2.1, z19.1.2.2.1, ()), ()))) (fun w0 w1 => some (true, (w0, w1, ()), (([], [], [], ()), ())))
def sh0 : ShS := ⟨[.s (.sl (.int .i64)), .s (.sl (.int .i64)), .a 5, .s (.row 0), .s (.row 2), .s (.int .i64), .a 46], [.row (.int .i64) 3 false, .gone, .row (.int .i64) 3 false]⟩
def S0 (p : (List Int) × (List Int) × Int × (List Int) × (List Int) × Unit) : St := sh0.b p
def xh2 : ShS := ⟨[.a 7, .s (.row 0), .s (.row 2), .a 47], [.row (.int .i64) 3 false, .gone, .row (.int .i64) 3 false]⟩
def o0 (v0 v1 : List Int) (v2 : Int) (v3 v4 : List Int) (y : Bool × ((List Int) × (List Int) × Unit) × ((List Int) × (List Int) × (List Int) × Unit) × Unit) : Alt := .two y.1 (.one (.exit 0) (xh2.b (y.2.1.1, y.2.1.2.1, ()))) (.one (.exit 0) (xh1.b (y.2.2.1.1, y.2.2.1.2.1, y.2.2.1.2.2.1, ())))
def tb (lf : Nat) : List (FuncId × Entry) := [(138, surveyorref01_order.E lf), (139, surveyorref01_cut.E lf), (159, surveyorref01_minus.E lf)]
def s13_162 (lf : Nat) : List (Nat × (St → Option LTE)) := [(0, sumE sh2 fun (p : (List Int) × (List Int) × (List Int) × Int × (List Int) × (List Int) × Unit) => ⟨((List Int) × (List Int) × (List Int) × Unit) × Unit, l2 lf p.1 p.2.1 p.2.2.2.2.2.1 (lf + 40) p.2.2.1 p.2.2.2.1 p.2.2.2.2.1, o2 p.1 p.2.1 p.2.2.2.2.2.1⟩),
 (0, sumE sh0 fun (p : (List Int) × (List Int) × Int × (List Int) × (List Int) × Unit) => ⟨Bool × ((List Int) × (List Int) × Unit) × ((List Int) × (List Int) × (List Int) × Unit) × Unit, l0 lf p.1 p.2.1 p.2.2.1 p.2.2.2.1 p.2.2.2.2.1 (lf + 40), o0 p.1 p.2.1 p.2.2.1 p.2.2.2.1 p.2.2.2.2.1⟩),
 (1, sumE sh1 fun (p : (List Int) × (List Int) × (List Int) × Int × (List Int) × (List Int) × (List Int) × Unit) => ⟨((List Int) × (List Int) × Unit) × Unit, l1 lf p.1 p.2.1 p.2.2.2.1 p.2.2.2.2.2.1 p.2.2.2.2.2.2.1 (lf + 40) p.2.2.1 p.2.2.2.2.1, o1 p.1 p.2.1 p.2.2.2.1 p.2.2.2.2.2.1 p.2.2.2.2.2.2.1⟩)]
def ls (lf : Nat) : List (Nat × FuncId × Sums) := [(13, 162, sumsL (s13_162 lf))]
def it1 {ρ : Type} (lf n : Nat) (st : St) (k : KE ρ) : Option ρ := itG anns (ls lf) (tb lf) lf 13 162 1 5 (sumsL (s13_162 lf)) n st k
theorem t1 {ρ : Type} (lf n : Nat) (v0 v1 v2 : List Int) (v3 : Int) (v4 v5 v6 : List Int) (k : KE ρ) : it1 lf (n + 1) (S1 (v0, v1, v2, v3, v4, v5, v6, ())) k = r1 lf v0 v1 v3 v5 v6 v2 v4 (fun x0 x1 => it1 lf n (S1 (v0, v1, x0, v3, x1, v5, v6, ())) k) (fun w0 w1 => k (.exit 2) (xh0.b (v0, v1, w0, v3, w1, v5, v6, ()))) := by kernel_rfl
theorem u1 {ρ : Type} (lf : Nat) (v0 v1 : List Int) (v3 : Int) (v5 v6 : List Int) (k : KE ρ) : ∀ (n : Nat) (v2 v4 : List Int), it1 lf n (S1 (v0, v1, v2, v3, v4, v5, v6, ())) k = bd (l1 lf v0 v1 v3 v5 v6 n v2 v4) fun y => altK k (o1 v0 v1 v3 v5 v6 y)
 | 0, _, _ => by rw [l1, bd_none]; rfl
 | n + 1, v2, v4 => by
  rw [t1]; simp only [l1, r1, u1 lf v0 v1 v3 v5 v6 k n, bd_br, bd_bd, bd_some', bd_none, br_t, br_f, o1, altK]
def it2 {ρ : Type} (lf n : Nat) (st : St) (k : KE ρ) : Option ρ := itG anns (ls lf) (tb lf) lf 13 162 0 3 (sumsL (s13_162 lf)) n st k
theorem t2 {ρ : Type} (lf n : Nat) (v0 v1 v2 : List Int) (v3 : Int) (v4 v5 : List Int) (k : KE ρ) : it2 lf (n + 1) (S2 (v0, v1, v2, v3, v4, v5, ())) k = r2 lf v0 v1 v5 v2 v3 v4 (fun x0 x1 x2 => it2 lf n (S2 (v0, v1, x0, x1, x2, v5, ())) k) (fun w0 w1 w2 => k (.exit 0) (xh1.b (w0, w1, w2, ()))) := by kernel_rfl
theorem u2 {ρ : Type} (lf : Nat) (v0 v1 v5 : List Int) (k : KE ρ) : ∀ (n : Nat) (v2 : List Int) (v3 : Int) (v4 : List Int), it2 lf n (S2 (v0, v1, v2, v3, v4, v5, ())) k = bd (l2 lf v0 v1 v5 n v2 v3 v4) fun y => altK k (o2 v0 v1 v5 y)
 | 0, _, _, _ => by rw [l2, bd_none]; rfl
 | n + 1, v2, v3, v4 => by
  rw [t2]; simp only [l2, r2, u2 lf v0 v1 v5 k n, bd_br, bd_bd, bd_some', bd_none, br_t, br_f, o2, altK]
def it0 {ρ : Type} (lf n : Nat) (st : St) (k : KE ρ) : Option ρ := itG anns (ls lf) (tb lf) lf 13 162 0 3 (sumsL (s13_162 lf)) n st k
theorem t0 {ρ : Type} (lf n : Nat) (v0 v1 : List Int) (v2 : Int) (v3 v4 : List Int) (k : KE ρ) : it0 lf (n + 1) (S0 (v0, v1, v2, v3, v4, ())) k = r0 lf v0 v1 v2 v3 v4 (fun x0 x1 x2 x3 x4 x5 => it2 lf n (S2 (x0, x1, x2, x3, x4, x5, ())) k) (fun w0 w1 => k (.exit 0) (xh2.b (w0, w1, ()))) := by kernel_rfl
theorem u0 {ρ : Type} (lf : Nat) (v0 v1 : List Int) (v2 : Int) (v3 v4 : List Int) (k : KE ρ) : ∀ (n : Nat), it0 lf n (S0 (v0, v1, v2, v3, v4, ())) k = bd (l0 lf v0 v1 v2 v3 v4 n) fun y => altK k (o0 v0 v1 v2 v3 v4 y)
 | 0 => by rw [l0, bd_none]; rfl
 | n + 1 => by
  rw [t0]; simp only [l0, r0, u2, bd_br, bd_bd, bd_some', bd_none, br_t, br_f, o0, o2, altK]
theorem sl (lf : Nat) : SL anns (ls lf) (tb lf) lf (ls lf) := slC (laC (fun _ => by kernel_rfl) (fun _ (x : (List Int) × (List Int) × (List Int) × Int × (List Int) × (List Int) × Unit) k => leq_of (u2 lf x.1 x.2.1 x.2.2.2.2.2.1 k (lf + 40) x.2.2.1 x.2.2.2.1 x.2.2.2.2.1)) (laC (fun _ => by kernel_rfl) (fun _ (x : (List Int) × (List Int) × Int × (List Int) × (List Int) × Unit) k => leq_of (u0 lf x.1 x.2.1 x.2.2.1 x.2.2.2.1 x.2.2.2.2.1 k (lf + 40))) (laC (fun _ => by kernel_rfl) (fun _ (x : (List Int) × (List Int) × (List Int) × Int × (List Int) × (List Int) × (List Int) × Unit) k => leq_of (u1 lf x.1 x.2.1 x.2.2.2.1 x.2.2.2.2.2.1 x.2.2.2.2.2.2.1 k (lf + 40) x.2.2.1 x.2.2.2.2.1)) laN))) slN
def f (lf : Nat) (a0 : List Int) (a1 : List Int) : Option ((List Int) × (List Int) × Unit) :=
 bd (mkL (if (i64.wrap ((i64.wrap (((a0.length : Nat) : Int) - ((a1.length : Nat) : Int))) + 1)) > 0 then (i64.wrap ((i64.wrap (((a0.length : Nat) : Int) - ((a1.length : Nat) : Int))) + 1)) else 0) (if (i64.wrap ((i64.wrap (((a0.length : Nat) : Int) - ((a1.length : Nat) : Int))) + 1)) > 0 then (i64.wrap ((i64.wrap (((a0.length : Nat) : Int) - ((a1.length : Nat) : Int))) + 1)) else 0) 8 0) fun q1 =>
 bd (cutL a0 (some (if (i64.wrap ((i64.wrap (((a0.length : Nat) : Int) - ((a1.length : Nat) : Int))) + 1)) > 0 then (i64.wrap ((i64.wrap (((a0.length : Nat) : Int) - ((a1.length : Nat) : Int))) + 1)) else 0)) none) fun q2 =>
 bd (apL true 8 [] q2) fun q3 =>
 bd (l0 lf a0 a1 (i64.wrap ((if (i64.wrap ((i64.wrap (((a0.length : Nat) : Int) - ((a1.length : Nat) : Int))) + 1)) > 0 then (i64.wrap ((i64.wrap (((a0.length : Nat) : Int) - ((a1.length : Nat) : Int))) + 1)) else 0) - 1)) q1 q3 (lf + 40)) fun z20 =>
 br z20.1 (
 bd (surveyorref01_cut.f lf z20.2.1.1) fun r21 =>
 some (r21.1, z20.2.1.2.1, ())) (
 bd (surveyorref01_cut.f lf z20.2.2.1.2.1) fun r22 =>
 some (r22.1, z20.2.2.1.1, ()))
def E (lf : Nat) : Entry := ⟨[(.sl (.int .i64)), (.sl (.int .i64))], [(.sl (.int .i64)), (.sl (.int .i64))], fun x => f lf x.1 x.2.1⟩
theorem ok (lf : Nat) : Ok 162 (E lf) := okL (tC (surveyorref01_order.ok lf) (tC (surveyorref01_cut.ok lf) (tC (surveyorref01_minus.ok lf) tN))) (aoC aoN) (sl lf) fun x => by kernel_rfl
end surveyorref01_split
end
end Go.Q
namespace Go.Q
open Go Go.RowKit
open Go.Rx (br bd sIdx sCat sCut iQuo iRem)
noncomputable section
namespace surveyorref01_Floor
def f (lf : Nat) (a0 : ByteArray) (a1 : ByteArray) : Option (ByteArray × Unit) :=
 bd (surveyorref01_short.f lf a0 17) fun r1 =>
 br r1.1 (
 bd (surveyorref01_short.f lf a1 17) fun r2 =>
 br r2.1 (
 bd (surveyorref01_number.f lf a0) fun r3 =>
 bd (surveyorref01_number.f lf a1) fun r4 =>
 bd (surveyorref01_floor.f lf r3.1 r4.1) fun r5 =>
 bd (surveyorref01_Whole.f lf r5.1) fun r6 =>
 some (r6.1, ())) (
 bd (surveyorref01_digits.f lf a0) fun r7 =>
 bd (surveyorref01_cut.f lf r7.1) fun r8 =>
 bd (surveyorref01_digits.f lf a1) fun r9 =>
 bd (surveyorref01_cut.f lf r9.1) fun r10 =>
 bd (surveyorref01_split.f lf r8.1 r10.1) fun r11 =>
 bd (surveyorref01_Negative.f lf a0) fun r12 =>
 bd (surveyorref01_Negative.f lf a1) fun r13 =>
 bd (surveyorref01_made.f lf r11.1 (r12.1 != r13.1)) fun r14 =>
 bd (surveyorref01_Negative.f lf a0) fun r15 =>
 bd (surveyorref01_Negative.f lf a1) fun r16 =>
 br (r15.1 != r16.1) (
 br (decide (((r11.2.1.length : Nat) : Int) > 0)) (
 bd (surveyorref01_Diff.f lf r14.1 (⟨#[49]⟩ : ByteArray)) fun r17 =>
 some (r17.1, ())) (
 some (r14.1, ()))) (
 some (r14.1, ())))) (
 bd (surveyorref01_digits.f lf a0) fun r18 =>
 bd (surveyorref01_cut.f lf r18.1) fun r19 =>
 bd (surveyorref01_digits.f lf a1) fun r20 =>
 bd (surveyorref01_cut.f lf r20.1) fun r21 =>
 bd (surveyorref01_split.f lf r19.1 r21.1) fun r22 =>
 bd (surveyorref01_Negative.f lf a0) fun r23 =>
 bd (surveyorref01_Negative.f lf a1) fun r24 =>
 bd (surveyorref01_made.f lf r22.1 (r23.1 != r24.1)) fun r25 =>
 bd (surveyorref01_Negative.f lf a0) fun r26 =>
 bd (surveyorref01_Negative.f lf a1) fun r27 =>
 br (r26.1 != r27.1) (
 br (decide (((r22.2.1.length : Nat) : Int) > 0)) (
 bd (surveyorref01_Diff.f lf r25.1 (⟨#[49]⟩ : ByteArray)) fun r28 =>
 some (r28.1, ())) (
 some (r25.1, ()))) (
 some (r25.1, ())))
def E (lf : Nat) : Entry := ⟨[.str, .str], [.str], fun x => f lf x.1 x.2.1⟩
theorem ok (lf : Nat) : Ok 68 (E lf) := okT (an := (annsL [])) (lf := lf) (tC (surveyorref01_Diff.ok lf) (tC (surveyorref01_Whole.ok lf) (tC (surveyorref01_cut.ok lf) (tC (surveyorref01_digits.ok lf) (tC (surveyorref01_short.ok lf) (tC (surveyorref01_number.ok lf) (tC (surveyorref01_Negative.ok lf) (tC (surveyorref01_made.ok lf) (tC (surveyorref01_floor.ok lf) (tC (surveyorref01_split.ok lf) tN)))))))))) aoN fun x => by kernel_rfl
end surveyorref01_Floor
namespace surveyorref01_Rest
def f (lf : Nat) (a0 : ByteArray) (a1 : ByteArray) : Option (ByteArray × Unit) :=
 bd (surveyorref01_Floor.f lf a0 a1) fun r1 =>
 bd (surveyorref01_Product.f lf a1 r1.1) fun r2 =>
 bd (surveyorref01_Diff.f lf a0 r2.1) fun r3 =>
 some (r3.1, ())
def E (lf : Nat) : Entry := ⟨[.str, .str], [.str], fun x => f lf x.1 x.2.1⟩
theorem ok (lf : Nat) : Ok 69 (E lf) := okT (an := (annsL [])) (lf := lf) (tC (surveyorref01_Diff.ok lf) (tC (surveyorref01_Product.ok lf) (tC (surveyorref01_Floor.ok lf) tN))) aoN fun x => by kernel_rfl
end surveyorref01_Rest
namespace surveyorref01_Magnitude
def f (lf : Nat) (a0 : ByteArray) : Option (ByteArray × Unit) :=
 bd (surveyorref01_Negative.f lf a0) fun r1 =>
 br r1.1 (
 bd (sCut a0 (some 1) none) fun r2 =>
 some (r2, ())) (
 some (a0, ()))
def E (lf : Nat) : Entry := ⟨[.str], [.str], fun x => f lf x.1⟩
theorem ok (lf : Nat) : Ok 347 (E lf) := okT (an := (annsL [])) (lf := lf) (tC (surveyorref01_Negative.ok lf) tN) aoN fun x => by kernel_rfl
end surveyorref01_Magnitude
namespace surveyorref01_Common
def anns : FuncId → FA := annsL [(298, ⟨annOf [(0, ⟨kx 18 [5, 6], [], []⟩, ⟨kx 18 [4, 5], [], []⟩)], none, []⟩)]
def r0 {ρ : Type} (lf : Nat) (v0 v1 : ByteArray) (K : ByteArray → ByteArray → Option ρ) (E0 : ByteArray → Option ρ) : Option ρ :=
 br (!(v1.toList == (⟨#[48]⟩ : ByteArray).toList)) (
 bd (surveyorref01_Rest.f lf v0 v1) fun r3 =>
 K v1 r3.1) (
 E0 v0)
def l0 (lf : Nat) : Nat → ByteArray → ByteArray → Option ((ByteArray × Unit) × Unit)
 | 0, _, _ => none
 | n + 1, v0, v1 => r0 lf v0 v1 (l0 lf n) (fun w0 => some ((w0, ()), ()))
def sh0 : ShS := ⟨[.a 5, .s .str, .s .str, .a 11], []⟩
def S0 (p : ByteArray × ByteArray × Unit) : St := sh0.b p
def xh0 : ShS := ⟨[.a 5, .s .str, .a 12], []⟩
def o0 (y : (ByteArray × Unit) × Unit) : Alt := .one (.exit 0) (xh0.b (y.1.1, ()))
def tb (lf : Nat) : List (FuncId × Entry) := [(69, surveyorref01_Rest.E lf), (347, surveyorref01_Magnitude.E lf)]
def s13_298 (lf : Nat) : List (Nat × (St → Option LTE)) := [(0, sumE sh0 fun (p : ByteArray × ByteArray × Unit) => ⟨(ByteArray × Unit) × Unit, l0 lf (lf + 40) p.1 p.2.1, o0⟩)]
def ls (lf : Nat) : List (Nat × FuncId × Sums) := [(13, 298, sumsL (s13_298 lf))]
def it0 {ρ : Type} (lf n : Nat) (st : St) (k : KE ρ) : Option ρ := itG anns (ls lf) (tb lf) lf 13 298 0 0 (sumsL (s13_298 lf)) n st k
theorem t0 {ρ : Type} (lf n : Nat) (v0 v1 : ByteArray) (k : KE ρ) : it0 lf (n + 1) (S0 (v0, v1, ())) k = r0 lf v0 v1 (fun x0 x1 => it0 lf n (S0 (x0, x1, ())) k) (fun w0 => k (.exit 0) (xh0.b (w0, ()))) := by kernel_rfl
theorem u0 {ρ : Type} (lf : Nat) (k : KE ρ) : ∀ (n : Nat) (v0 v1 : ByteArray), it0 lf n (S0 (v0, v1, ())) k = bd (l0 lf n v0 v1) fun y => altK k (o0 y)
 | 0, _, _ => by rw [l0, bd_none]; rfl
 | n + 1, v0, v1 => by
  rw [t0]; simp only [l0, r0, u0 lf k n, bd_br, bd_bd, bd_some', bd_none, br_t, br_f, o0, altK]
theorem sl (lf : Nat) : SL anns (ls lf) (tb lf) lf (ls lf) := slC (laC (fun _ => by kernel_rfl) (fun _ (x : ByteArray × ByteArray × Unit) k => leq_of (u0 lf k (lf + 40) x.1 x.2.1)) laN) slN
def f (lf : Nat) (a0 : ByteArray) (a1 : ByteArray) : Option (ByteArray × Unit) :=
 bd (surveyorref01_Magnitude.f lf a0) fun r1 =>
 bd (surveyorref01_Magnitude.f lf a1) fun r2 =>
 bd (l0 lf (lf + 40) r1.1 r2.1) fun z4 =>
 some (z4.1.1, ())
def E (lf : Nat) : Entry := ⟨[.str, .str], [.str], fun x => f lf x.1 x.2.1⟩
theorem ok (lf : Nat) : Ok 298 (E lf) := okL (tC (surveyorref01_Rest.ok lf) (tC (surveyorref01_Magnitude.ok lf) tN)) (aoC aoN) (sl lf) fun x => by kernel_rfl
end surveyorref01_Common
end
end Go.Q
namespace Go.Q
open Go Go.RowKit
open Go.Rx (br bd sIdx sCat sCut iQuo iRem)
noncomputable section
namespace api_Int
def f (lf : Nat) (a0 : ByteArray) (a1 : Int) : Option (ByteArray × Unit) :=
 some (a0, ())
def E (lf : Nat) : Entry := ⟨[.str, (.int .i64)], [.str], fun x => f lf x.1 x.2.1⟩
theorem ok (lf : Nat) : Ok 202 (E lf) := okT (an := (annsL [])) (lf := lf) tN aoN fun x => by kernel_rfl
end api_Int
end
end Go.Q
namespace Go.Q
open Go Go.RowKit
open Go.Rx (br bd sIdx sCat sCut iQuo iRem)
noncomputable section
namespace congruence_long
def f (lf : Nat) (a0 : ByteArray) : Option (Bool × Unit) :=
 bd (strings_TrimPrefix.f lf a0 (⟨#[45]⟩ : ByteArray)) fun r1 =>
 some ((decide (((r1.1.size : Nat) : Int) > 100)), ())
def E (lf : Nat) : Entry := ⟨[.str], [.bool], fun x => f lf x.1⟩
theorem ok (lf : Nat) : Ok 208 (E lf) := okT (an := (annsL [])) (lf := lf) (tC (strings_TrimPrefix.ok lf) tN) aoN fun x => by kernel_rfl
end congruence_long
namespace congruence_Top
def f (lf : Nat)  : Option (TI × Unit) :=
 some ((false, (⟨#[49]⟩ : ByteArray), (⟨#[48]⟩ : ByteArray), ()), ())
def E (lf : Nat) : Entry := ⟨[], [yI], fun x => f lf ⟩
theorem ok (lf : Nat) : Ok 209 (E lf) := okT (an := (annsL [])) (lf := lf) tN aoN fun x => by kernel_rfl
end congruence_Top
namespace congruence_class
def f (lf : Nat) (a0 : ByteArray) (a1 : ByteArray) : Option (TI × Unit) :=
 bd (bigint_Abs.f lf a0) fun r1 =>
 bd (api_Int.f lf r1.1 r1.2.1) fun r2 =>
 br (!(r2.1.toList == (⟨#[48]⟩ : ByteArray).toList)) (
 bd (bigint_Rem.f lf a1 r2.1) fun r3 =>
 bd (api_Int.f lf r3.1 r3.2.1) fun r4 =>
 bd (congruence_long.f lf r2.1) fun r5 =>
 br r5.1 (
 bd (congruence_Top.f lf) fun r6 =>
 some (r6.1, ())) (
 bd (congruence_long.f lf r4.1) fun r7 =>
 br r7.1 (
 bd (congruence_Top.f lf) fun r8 =>
 some (r8.1, ())) (
 some ((false, r2.1, r4.1, ()), ())))) (
 bd (congruence_long.f lf r2.1) fun r9 =>
 br r9.1 (
 bd (congruence_Top.f lf) fun r10 =>
 some (r10.1, ())) (
 bd (congruence_long.f lf a1) fun r11 =>
 br r11.1 (
 bd (congruence_Top.f lf) fun r12 =>
 some (r12.1, ())) (
 some ((false, r2.1, a1, ()), ()))))
def E (lf : Nat) : Entry := ⟨[.str, .str], [yI], fun x => f lf x.1 x.2.1⟩
theorem ok (lf : Nat) : Ok 100 (E lf) := okT (an := (annsL [])) (lf := lf) (tC (bigint_Rem.ok lf) (tC (api_Int.ok lf) (tC (bigint_Abs.ok lf) (tC (congruence_long.ok lf) (tC (congruence_Top.ok lf) tN))))) aoN fun x => by kernel_rfl
end congruence_class
namespace congruence_gcd
def f (lf : Nat) (a0 : ByteArray) (a1 : ByteArray) : Option (ByteArray × Unit) :=
 bd (bigint_Gcd.f lf a0 a1) fun r1 =>
 bd (api_Int.f lf r1.1 r1.2.1) fun r2 =>
 some (r2.1, ())
def E (lf : Nat) : Entry := ⟨[.str, .str], [.str], fun x => f lf x.1 x.2.1⟩
theorem ok (lf : Nat) : Ok 101 (E lf) := okT (an := (annsL [])) (lf := lf) (tC (api_Int.ok lf) (tC (bigint_Gcd.ok lf) tN)) aoN fun x => by kernel_rfl
end congruence_gcd
namespace congruence_number
def f (lf : Nat) (a0 : ByteArray) : Option (Int × Unit) :=
 bd (bigint_Check.f lf a0) fun r1 =>
 br (r1.1 == 10) (
 some (10, ())) (
 br (r1.1 == 0) (
 bd (congruence_long.f lf a0) fun r2 =>
 br r2.1 (
 some (10, ())) (
 br (r1.1 != 0) (
 some (r1.1, ())) (
 some (0, ())))) (
 br (r1.1 != 0) (
 some (r1.1, ())) (
 some (0, ()))))
def E (lf : Nat) : Entry := ⟨[.str], [(.int .i64)], fun x => f lf x.1⟩
theorem ok (lf : Nat) : Ok 289 (E lf) := okT (an := (annsL [])) (lf := lf) (tC (bigint_Check.ok lf) (tC (congruence_long.ok lf) tN)) aoN fun x => by kernel_rfl
end congruence_number
namespace congruence_sure_int
def f (lf : Nat) (a0 : Int) (a1 : Int) : Option (Int × Unit) :=
 some (a0, ())
def E (lf : Nat) : Entry := ⟨[(.int .i64), (.int .i64)], [(.int .i64)], fun x => f lf x.1 x.2.1⟩
theorem ok (lf : Nat) : Ok 339 (E lf) := okT (an := (annsL [])) (lf := lf) tN aoN fun x => by kernel_rfl
end congruence_sure_int
namespace congruence_less
def f (lf : Nat) (a0 : ByteArray) (a1 : ByteArray) : Option (Bool × Unit) :=
 bd (bigint_Compare.f lf a0 a1) fun r1 =>
 bd (congruence_sure_int.f lf r1.1 r1.2.1) fun r2 =>
 some ((decide (r2.1 < 0)), ())
def E (lf : Nat) : Entry := ⟨[.str, .str], [.bool], fun x => f lf x.1 x.2.1⟩
theorem ok (lf : Nat) : Ok 290 (E lf) := okT (an := (annsL [])) (lf := lf) (tC (bigint_Compare.ok lf) (tC (congruence_sure_int.ok lf) tN)) aoN fun x => by kernel_rfl
end congruence_less
namespace congruence_Check
def f (lf : Nat) (a0 : TI) : Option (Int × Unit) :=
 br a0.1 (
 br (!(a0.2.1.toList == (⟨#[]⟩ : ByteArray).toList)) (
 some (3, ())) (
 br (!(a0.2.2.1.toList == (⟨#[]⟩ : ByteArray).toList)) (
 some (3, ())) (
 some (0, ())))) (
 bd (congruence_number.f lf a0.2.1) fun r1 =>
 br (r1.1 != 0) (
 some (r1.1, ())) (
 bd (congruence_number.f lf a0.2.2.1) fun r2 =>
 br (r2.1 != 0) (
 some (r2.1, ())) (
 bd (congruence_less.f lf a0.2.1 (⟨#[48]⟩ : ByteArray)) fun r3 =>
 br r3.1 (
 some (2, ())) (
 br (!(a0.2.1.toList == (⟨#[48]⟩ : ByteArray).toList)) (
 bd (congruence_less.f lf a0.2.2.1 (⟨#[48]⟩ : ByteArray)) fun r4 =>
 br r4.1 (
 some (2, ())) (
 bd (congruence_less.f lf a0.2.2.1 a0.2.1) fun r5 =>
 br (!r5.1) (
 some (2, ())) (
 some (0, ())))) (
 some (0, ()))))))
def E (lf : Nat) : Entry := ⟨[yI], [(.int .i64)], fun x => f lf x.1⟩
theorem ok (lf : Nat) : Ok 201 (E lf) := okT (an := (annsL [])) (lf := lf) (tC (congruence_number.ok lf) (tC (congruence_less.ok lf) tN)) aoN fun x => by kernel_rfl
end congruence_Check
namespace congruence_both
def f (lf : Nat) (a0 : TI) (a1 : TI) : Option (Int × Unit) :=
 bd (congruence_Check.f lf a0) fun r1 =>
 br (r1.1 != 0) (
 some (r1.1, ())) (
 bd (congruence_Check.f lf a1) fun r2 =>
 some (r2.1, ()))
def E (lf : Nat) : Entry := ⟨[yI, yI], [(.int .i64)], fun x => f lf x.1 x.2.1⟩
theorem ok (lf : Nat) : Ok 99 (E lf) := okT (an := (annsL [])) (lf := lf) (tC (congruence_Check.ok lf) tN) aoN fun x => by kernel_rfl
end congruence_both
namespace congruence_sub
def f (lf : Nat) (a0 : ByteArray) (a1 : ByteArray) : Option (ByteArray × Unit) :=
 bd (bigint_Sub.f lf a0 a1) fun r1 =>
 bd (api_Int.f lf r1.1 r1.2.1) fun r2 =>
 some (r2.1, ())
def E (lf : Nat) : Entry := ⟨[.str, .str], [.str], fun x => f lf x.1 x.2.1⟩
theorem ok (lf : Nat) : Ok 102 (E lf) := okT (an := (annsL [])) (lf := lf) (tC (bigint_Sub.ok lf) (tC (api_Int.ok lf) tN)) aoN fun x => by kernel_rfl
end congruence_sub
namespace congruence_modulo
def f (lf : Nat) (a0 : ByteArray) (a1 : ByteArray) (a2 : ByteArray) : Option (ByteArray × Int × Unit) :=
 bd (bigint_Rem.f lf a0 a2) fun r1 =>
 br (r1.2.1 != 0) (
 some ((⟨#[]⟩ : ByteArray), r1.2.1, ())) (
 bd (bigint_Rem.f lf a1 a2) fun r2 =>
 br (r2.2.1 != 0) (
 some ((⟨#[]⟩ : ByteArray), r2.2.1, ())) (
 bd (congruence_sub.f lf r1.1 r2.1) fun r3 =>
 bd (bigint_Rem.f lf r3.1 a2) fun r4 =>
 some (r4.1, r4.2.1, ())))
def E (lf : Nat) : Entry := ⟨[.str, .str, .str], [.str, (.int .i64)], fun x => f lf x.1 x.2.1 x.2.2.1⟩
theorem ok (lf : Nat) : Ok 351 (E lf) := okT (an := (annsL [])) (lf := lf) (tC (congruence_sub.ok lf) (tC (bigint_Rem.ok lf) tN)) aoN fun x => by kernel_rfl
end congruence_modulo
namespace congruence_Least
def f (lf : Nat) (a0 : TI) (a1 : ByteArray) : Option (ByteArray × Int × Unit) :=
 bd (congruence_Check.f lf a0) fun r1 =>
 br (r1.1 != 0) (
 some ((⟨#[]⟩ : ByteArray), r1.1, ())) (
 bd (bigint_Check.f lf a1) fun r2 =>
 br (r2.1 != 0) (
 some ((⟨#[]⟩ : ByteArray), r2.1, ())) (
 br a0.1 (
 some ((⟨#[]⟩ : ByteArray), 16, ())) (
 br (!(a0.2.1.toList == (⟨#[48]⟩ : ByteArray).toList)) (
 bd (congruence_modulo.f lf a0.2.2.1 a1 a0.2.1) fun r3 =>
 br (r3.2.1 != 0) (
 some ((⟨#[]⟩ : ByteArray), r3.2.1, ())) (
 bd (bigint_Add.f lf a1 r3.1) fun r4 =>
 some (r4.1, r4.2.1, ()))) (
 bd (congruence_less.f lf a0.2.2.1 a1) fun r5 =>
 br r5.1 (
 some ((⟨#[]⟩ : ByteArray), 6, ())) (
 some (a0.2.2.1, 0, ()))))))
def E (lf : Nat) : Entry := ⟨[yI, .str], [.str, (.int .i64)], fun x => f lf x.1 x.2.1⟩
theorem ok (lf : Nat) : Ok 312 (E lf) := okT (an := (annsL [])) (lf := lf) (tC (bigint_Check.ok lf) (tC (bigint_Add.ok lf) (tC (congruence_Check.ok lf) (tC (congruence_less.ok lf) (tC (congruence_modulo.ok lf) tN))))) aoN fun x => by kernel_rfl
end congruence_Least
namespace congruence_Greatest
def f (lf : Nat) (a0 : TI) (a1 : ByteArray) : Option (ByteArray × Int × Unit) :=
 bd (congruence_Check.f lf a0) fun r1 =>
 br (r1.1 != 0) (
 some ((⟨#[]⟩ : ByteArray), r1.1, ())) (
 bd (bigint_Check.f lf a1) fun r2 =>
 br (r2.1 != 0) (
 some ((⟨#[]⟩ : ByteArray), r2.1, ())) (
 br a0.1 (
 some ((⟨#[]⟩ : ByteArray), 16, ())) (
 br (!(a0.2.1.toList == (⟨#[48]⟩ : ByteArray).toList)) (
 bd (congruence_modulo.f lf a1 a0.2.2.1 a0.2.1) fun r3 =>
 br (r3.2.1 != 0) (
 some ((⟨#[]⟩ : ByteArray), r3.2.1, ())) (
 bd (bigint_Sub.f lf a1 r3.1) fun r4 =>
 some (r4.1, r4.2.1, ()))) (
 bd (congruence_less.f lf a1 a0.2.2.1) fun r5 =>
 br r5.1 (
 some ((⟨#[]⟩ : ByteArray), 6, ())) (
 some (a0.2.2.1, 0, ()))))))
def E (lf : Nat) : Entry := ⟨[yI, .str], [.str, (.int .i64)], fun x => f lf x.1 x.2.1⟩
theorem ok (lf : Nat) : Ok 313 (E lf) := okT (an := (annsL [])) (lf := lf) (tC (bigint_Check.ok lf) (tC (bigint_Sub.ok lf) (tC (congruence_Check.ok lf) (tC (congruence_less.ok lf) (tC (congruence_modulo.ok lf) tN))))) aoN fun x => by kernel_rfl
end congruence_Greatest
namespace congruence_Join
def f (lf : Nat) (a0 : TI) (a1 : TI) : Option (TI × Int × Unit) :=
 bd (congruence_both.f lf a0 a1) fun r1 =>
 br (r1.1 != 0) (
 some ((false, (⟨#[]⟩ : ByteArray), (⟨#[]⟩ : ByteArray), ()), r1.1, ())) (
 br a0.1 (
 some (a1, 0, ())) (
 br a1.1 (
 some (a0, 0, ())) (
 bd (congruence_gcd.f lf a0.2.1 a1.2.1) fun r2 =>
 bd (congruence_sub.f lf a0.2.2.1 a1.2.2.1) fun r3 =>
 bd (congruence_gcd.f lf r2.1 r3.1) fun r4 =>
 bd (congruence_class.f lf r4.1 a0.2.2.1) fun r5 =>
 some (r5.1, 0, ()))))
def E (lf : Nat) : Entry := ⟨[yI, yI], [yI, (.int .i64)], fun x => f lf x.1 x.2.1⟩
theorem ok (lf : Nat) : Ok 18 (E lf) := okT (an := (annsL [])) (lf := lf) (tC (congruence_both.ok lf) (tC (congruence_class.ok lf) (tC (congruence_gcd.ok lf) (tC (congruence_sub.ok lf) tN)))) aoN fun x => by kernel_rfl
end congruence_Join
end
end Go.Q
namespace Go.Q
open Go Go.RowKit
open Go.Rx (br bd sIdx sCat sCut iQuo iRem)
noncomputable section
namespace surveyorref22_Few
def f (lf : Nat) (a0 : TI) : Option (Bool × Unit) :=
 bd (surveyorref01_Few.f lf a0.2.1) fun r1 =>
 br r1.1 (
 bd (surveyorref01_Few.f lf a0.2.2.1) fun r2 =>
 some (r2.1, ())) (
 some (false, ()))
def E (lf : Nat) : Entry := ⟨[yI], [.bool], fun x => f lf x.1⟩
theorem ok (lf : Nat) : Ok 106 (E lf) := okT (an := (annsL [])) (lf := lf) (tC (surveyorref01_Few.ok lf) tN) aoN fun x => by kernel_rfl
end surveyorref22_Few
namespace surveyorref22_Empty
def f (lf : Nat)  : Option (TI × Unit) :=
 some ((true, (⟨#[]⟩ : ByteArray), (⟨#[]⟩ : ByteArray), ()), ())
def E (lf : Nat) : Entry := ⟨[], [yI], fun x => f lf ⟩
theorem ok (lf : Nat) : Ok 16 (E lf) := okT (an := (annsL [])) (lf := lf) tN aoN fun x => by kernel_rfl
end surveyorref22_Empty
namespace surveyorref22_number
def f (lf : Nat) (a0 : ByteArray) : Option (Int × Unit) :=
 bd (surveyorref01_Form.f lf a0) fun r1 =>
 br (!r1.1) (
 some (3, ())) (
 bd (surveyorref01_Digits.f lf a0) fun r2 =>
 br (decide (r2.1 > 100)) (
 some (10, ())) (
 some (0, ())))
def E (lf : Nat) : Entry := ⟨[.str], [(.int .i64)], fun x => f lf x.1⟩
theorem ok (lf : Nat) : Ok 96 (E lf) := okT (an := (annsL [])) (lf := lf) (tC (surveyorref01_Digits.ok lf) (tC (surveyorref01_Form.ok lf) tN)) aoN fun x => by kernel_rfl
end surveyorref22_number
namespace surveyorref22_Check
def f (lf : Nat) (a0 : TI) : Option (Int × Unit) :=
 br a0.1 (
 br (!(a0.2.1.toList == (⟨#[]⟩ : ByteArray).toList)) (
 some (3, ())) (
 br (!(a0.2.2.1.toList == (⟨#[]⟩ : ByteArray).toList)) (
 some (3, ())) (
 some (0, ())))) (
 bd (surveyorref22_number.f lf a0.2.1) fun r1 =>
 br (r1.1 != 0) (
 some (r1.1, ())) (
 bd (surveyorref22_number.f lf a0.2.2.1) fun r2 =>
 br (r2.1 != 0) (
 some (r2.1, ())) (
 bd (surveyorref01_Sign.f lf a0.2.1) fun r3 =>
 br (decide (r3.1 < 0)) (
 some (2, ())) (
 br (!(a0.2.1.toList == (⟨#[48]⟩ : ByteArray).toList)) (
 bd (surveyorref01_Sign.f lf a0.2.2.1) fun r4 =>
 br (decide (r4.1 < 0)) (
 some (2, ())) (
 bd (surveyorref01_Less.f lf a0.2.2.1 a0.2.1) fun r5 =>
 br (!r5.1) (
 some (2, ())) (
 some (0, ())))) (
 some (0, ()))))))
def E (lf : Nat) : Entry := ⟨[yI], [(.int .i64)], fun x => f lf x.1⟩
theorem ok (lf : Nat) : Ok 17 (E lf) := okT (an := (annsL [])) (lf := lf) (tC (surveyorref22_number.ok lf) (tC (surveyorref01_Sign.ok lf) (tC (surveyorref01_Less.ok lf) tN))) aoN fun x => by kernel_rfl
end surveyorref22_Check
namespace surveyorref22_Top
def f (lf : Nat)  : Option (TI × Unit) :=
 some ((false, (⟨#[49]⟩ : ByteArray), (⟨#[48]⟩ : ByteArray), ()), ())
def E (lf : Nat) : Entry := ⟨[], [yI], fun x => f lf ⟩
theorem ok (lf : Nat) : Ok 137 (E lf) := okT (an := (annsL [])) (lf := lf) tN aoN fun x => by kernel_rfl
end surveyorref22_Top
namespace surveyorref22_Class
def f (lf : Nat) (a0 : ByteArray) (a1 : ByteArray) : Option (TI × Unit) :=
 bd (surveyorref01_Magnitude.f lf a0) fun r1 =>
 br (!(a0.toList == (⟨#[48]⟩ : ByteArray).toList)) (
 bd (surveyorref01_Rest.f lf a1 r1.1) fun r2 =>
 bd (surveyorref01_Digits.f lf r1.1) fun r3 =>
 br (decide (r3.1 > 100)) (
 bd (surveyorref22_Top.f lf) fun r4 =>
 some (r4.1, ())) (
 bd (surveyorref01_Digits.f lf r2.1) fun r5 =>
 br (decide (r5.1 > 100)) (
 bd (surveyorref22_Top.f lf) fun r6 =>
 some (r6.1, ())) (
 some ((false, r1.1, r2.1, ()), ())))) (
 bd (surveyorref01_Digits.f lf r1.1) fun r7 =>
 br (decide (r7.1 > 100)) (
 bd (surveyorref22_Top.f lf) fun r8 =>
 some (r8.1, ())) (
 bd (surveyorref01_Digits.f lf a1) fun r9 =>
 br (decide (r9.1 > 100)) (
 bd (surveyorref22_Top.f lf) fun r10 =>
 some (r10.1, ())) (
 some ((false, r1.1, a1, ()), ()))))
def E (lf : Nat) : Entry := ⟨[.str, .str], [yI], fun x => f lf x.1 x.2.1⟩
theorem ok (lf : Nat) : Ok 297 (E lf) := okT (an := (annsL [])) (lf := lf) (tC (surveyorref01_Rest.ok lf) (tC (surveyorref01_Digits.ok lf) (tC (surveyorref22_Top.ok lf) (tC (surveyorref01_Magnitude.ok lf) tN)))) aoN fun x => by kernel_rfl
end surveyorref22_Class
namespace surveyorref22_Single
def f (lf : Nat) (a0 : ByteArray) : Option (TI × Unit) :=
 bd (surveyorref22_Class.f lf (⟨#[48]⟩ : ByteArray) a0) fun r1 =>
 some (r1.1, ())
def E (lf : Nat) : Entry := ⟨[.str], [yI], fun x => f lf x.1⟩
theorem ok (lf : Nat) : Ok 243 (E lf) := okT (an := (annsL [])) (lf := lf) (tC (surveyorref22_Class.ok lf) tN) aoN fun x => by kernel_rfl
end surveyorref22_Single
namespace surveyorref22_Above
def f (lf : Nat) (a0 : TI) (a1 : ByteArray) : Option (ByteArray × Bool × Unit) :=
 br (a0.2.1.toList == (⟨#[48]⟩ : ByteArray).toList) (
 bd (surveyorref01_Less.f lf a0.2.2.1 a1) fun r1 =>
 br r1.1 (
 some ((⟨#[]⟩ : ByteArray), false, ())) (
 some (a0.2.2.1, true, ()))) (
 bd (surveyorref01_Diff.f lf a0.2.2.1 a1) fun r2 =>
 bd (surveyorref01_Rest.f lf r2.1 a0.2.1) fun r3 =>
 bd (surveyorref01_Sum.f lf a1 r3.1) fun r4 =>
 some (r4.1, true, ()))
def E (lf : Nat) : Entry := ⟨[yI, .str], [.str, .bool], fun x => f lf x.1 x.2.1⟩
theorem ok (lf : Nat) : Ok 233 (E lf) := okT (an := (annsL [])) (lf := lf) (tC (surveyorref01_Sum.ok lf) (tC (surveyorref01_Diff.ok lf) (tC (surveyorref01_Rest.ok lf) (tC (surveyorref01_Less.ok lf) tN)))) aoN fun x => by kernel_rfl
end surveyorref22_Above
namespace surveyorref22_Negative
def f (lf : Nat) (a0 : TI) : Option (TI × Unit) :=
 br a0.1 (
 some (a0, ())) (
 bd (surveyorref01_Negated.f lf a0.2.2.1) fun r1 =>
 bd (surveyorref22_Class.f lf a0.2.1 r1.1) fun r2 =>
 some (r2.1, ()))
def E (lf : Nat) : Entry := ⟨[yI], [yI], fun x => f lf x.1⟩
theorem ok (lf : Nat) : Ok 258 (E lf) := okT (an := (annsL [])) (lf := lf) (tC (surveyorref01_Negated.ok lf) (tC (surveyorref22_Class.ok lf) tN)) aoN fun x => by kernel_rfl
end surveyorref22_Negative
namespace surveyorref22_Below
def f (lf : Nat) (a0 : TI) (a1 : ByteArray) : Option (ByteArray × Bool × Unit) :=
 bd (surveyorref22_Negative.f lf a0) fun r1 =>
 bd (surveyorref01_Negated.f lf a1) fun r2 =>
 bd (surveyorref22_Above.f lf r1.1 r2.1) fun r3 =>
 br (!r3.2.1) (
 some ((⟨#[]⟩ : ByteArray), false, ())) (
 bd (surveyorref01_Negated.f lf r3.1) fun r4 =>
 some (r4.1, true, ()))
def E (lf : Nat) : Entry := ⟨[yI, .str], [.str, .bool], fun x => f lf x.1 x.2.1⟩
theorem ok (lf : Nat) : Ok 234 (E lf) := okT (an := (annsL [])) (lf := lf) (tC (surveyorref01_Negated.ok lf) (tC (surveyorref22_Above.ok lf) (tC (surveyorref22_Negative.ok lf) tN))) aoN fun x => by kernel_rfl
end surveyorref22_Below
namespace surveyorref22_Joined
def f (lf : Nat) (a0 : TI) (a1 : TI) : Option (TI × Unit) :=
 br a0.1 (
 some (a1, ())) (
 br a1.1 (
 some (a0, ())) (
 bd (surveyorref01_Common.f lf a0.2.1 a1.2.1) fun r1 =>
 bd (surveyorref01_Diff.f lf a0.2.2.1 a1.2.2.1) fun r2 =>
 bd (surveyorref01_Common.f lf r1.1 r2.1) fun r3 =>
 bd (surveyorref22_Class.f lf r3.1 a0.2.2.1) fun r4 =>
 some (r4.1, ())))
def E (lf : Nat) : Entry := ⟨[yI, yI], [yI], fun x => f lf x.1 x.2.1⟩
theorem ok (lf : Nat) : Ok 245 (E lf) := okT (an := (annsL [])) (lf := lf) (tC (surveyorref01_Diff.ok lf) (tC (surveyorref22_Class.ok lf) (tC (surveyorref01_Common.ok lf) tN))) aoN fun x => by kernel_rfl
end surveyorref22_Joined
end
end Go.Q
