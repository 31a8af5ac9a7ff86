import Derived.Test.YthfphcemoehllaaGreatDoorProg
import Derived.KernelRfl
import Derived.Test.YthfphcemoehllaaGreatDoorCoG6
import Derived.Test.YthfphcemoehllaaGreatDoorE3
set_option linter.unusedVariables false
set_option linter.unusedSimpArgs false
set_option linter.unusedSectionVars false
namespace Go.Q
open Go.IntKind (i64)
open Go Go.RowKit
open Go.Rx (br bd sIdx sCat sCut iQuo iRem)
set_option linter.unusedVariables false
set_option linter.unusedSimpArgs false
set_option maxRecDepth 100000
noncomputable section
namespace surveyorref01_number
noncomputable def anns : FuncId → FA := annsL [(209, ⟨annOf [(0, ⟨kx 28 [0, 3, 4], [], []⟩, ⟨kx 28 [0, 2, 3], [], []⟩)], none, []⟩)]
noncomputable def r0 {ρ : Type} (lf : Nat) (v0 : ByteArray) (v1 v2 : Int) (K : Int → Int → Option ρ) (E0 : Int → Option ρ) : Option ρ :=
 br (decide (v2 < ((v0.size : Nat) : Int))) (
 bd (sIdx v0 v2) fun r1 =>
 br (((r1.toNat : Nat) : Int) != 45) (
 bd (sIdx v0 v2) fun r2 =>
 K (i64.wrap ((i64.wrap (v1 * 10)) + (i64.wrap (IntKind.u8.wrap (((r2.toNat : Nat) : Int) - 48))))) (i64.wrap (v2 + 1))) (
 K v1 (i64.wrap (v2 + 1)))) (
 E0 v1)
noncomputable def l0 (lf : Nat) (v0 : ByteArray) : Nat → Int → Int → Option ((Int × Unit) × Unit)
 | 0, _, _ => none
 | n + 1, v1, v2 => r0 lf v0 v1 v2 (l0 lf v0 n) (fun w0 => some ((w0, ()), ()))
noncomputable def sh0 : ShS := ⟨[.s .str, .a 2, .s (.int .i64), .s (.int .i64), .a 23], []⟩
noncomputable def S0 (p : ByteArray × Int × Int × Unit) : St := sh0.b p
noncomputable def xh0 : ShS := ⟨[.s .str, .a 2, .s (.int .i64), .a 24], []⟩
noncomputable def o0 (v0 : ByteArray) (y : (Int × Unit) × Unit) : Alt := .one (.exit 0) (xh0.b (v0, y.1.1, ()))
noncomputable def tb (lf : Nat) : List (FuncId × Entry) := [(89, surveyorref01_Negative.E lf)]
noncomputable def s13_209 (lf : Nat) : List (Nat × (St → Option LTE)) := [(0, sumE sh0 fun (p : ByteArray × Int × Int × Unit) => ⟨(Int × Unit) × Unit, l0 lf p.1 (lf + 40) p.2.1 p.2.2.1, o0 p.1⟩)]
noncomputable def ls (lf : Nat) : List (Nat × FuncId × Sums) := [(13, 209, sumsL (s13_209 lf))]
noncomputable def it0 {ρ : Type} (lf n : Nat) (st : St) (k : KE ρ) : Option ρ := itG anns (ls lf) (tb lf) lf 13 209 0 0 (sumsL (s13_209 lf)) n st k
theorem t0 {ρ : Type} (lf n : Nat) (v0 : ByteArray) (v1 v2 : Int) (k : KE ρ) : it0 lf (n + 1) (S0 (v0, v1, v2, ())) k = r0 lf v0 v1 v2 (fun x0 x1 => it0 lf n (S0 (v0, x0, x1, ())) k) (fun w0 => k (.exit 0) (xh0.b (v0, w0, ()))) := by kernel_rfl
theorem u0 {ρ : Type} (lf : Nat) (v0 : ByteArray) (k : KE ρ) : ∀ (n : Nat) (v1 v2 : Int), it0 lf n (S0 (v0, v1, v2, ())) k = bd (l0 lf v0 n v1 v2) fun y => altK k (o0 v0 y)
 | 0, _, _ => by rw [l0, bd_none]; rfl
 | n + 1, v1, v2 => by
  rw [t0]; simp only [l0, r0, u0 lf v0 k n, bd_br, bd_bd, bd_some', bd_none, br_t, br_f, o0, altK]
theorem sl (lf : Nat) : SL anns (ls lf) (tb lf) lf (ls lf) := slC (laC (fun _ => by kernel_rfl) (fun _ (x : ByteArray × Int × Int × Unit) k => leq_of (u0 lf x.1 k (lf + 40) x.2.1 x.2.2.1)) laN) slN
noncomputable def f (lf : Nat) (a0 : ByteArray) : Option (Int × Unit) :=
 bd (l0 lf a0 (lf + 40) 0 0) fun z3 =>
 bd (surveyorref01_Negative.f lf a0) fun r4 =>
 br r4.1 (
 some ((i64.wrap (0 - z3.1.1)), ())) (
 some (z3.1.1, ()))
noncomputable def E (lf : Nat) : Entry := ⟨[.str], [(.int .i64)], fun x => f lf x.1⟩
theorem ok (lf : Nat) : Ok 209 (E lf) := okL (tC (surveyorref01_Negative.ok lf) tN) (aoC aoN) (sl lf) fun x => by kernel_rfl
end surveyorref01_number
namespace surveyorref01_made
noncomputable def anns : FuncId → FA := annsL [(210, ⟨annOf [(0, ⟨kx 34 [0, 5, 6], [⟨.tmp 5, (.int .u8), 5⟩], []⟩, ⟨kx 34 [4, 5], [⟨.tmp 5, (.int .u8), 5⟩], []⟩)], none, []⟩)]
noncomputable def r0 {ρ : Type} (lf : Nat) (v0 v2 : List Int) (v1 : Int) (v3 : List Int) (K : Int → (List Int) → Option ρ) (E0 : (List Int) → Option ρ) : Option ρ :=
 br (decide (v1 ≥ 0)) (
 bd (idxL v0 v1) fun y3 =>
 bd (apL true 1 v3 [(IntKind.u8.wrap (i64.wrap (48 + y3)))]) fun q4 =>
 K (i64.wrap (v1 - 1)) q4) (
 E0 v3)
noncomputable def l0 (lf : Nat) (v0 v2 : List Int) : Nat → Int → (List Int) → Option (((List Int) × Unit) × Unit)
 | 0, _, _ => none
 | n + 1, v1, v3 => r0 lf v0 v2 v1 v3 (l0 lf v0 v2 n) (fun w0 => some ((w0, ()), ()))
noncomputable def sh0 : ShS := ⟨[.s (.sl (.int .i64)), .a 4, .s (.row 2), .s (.int .i64), .a 27], [.row (.int .u8) 5 false, .gone, .row (.int .u8) 5 false]⟩
noncomputable def S0 (p : (List Int) × Int × (List Int) × (List Int) × Unit) : St := sh0.b p
noncomputable def xh0 : ShS := ⟨[.a 5, .s (.row 2), .a 28], [.row (.int .u8) 5 false, .gone, .row (.int .u8) 5 false]⟩
noncomputable def o0 (v0 v2 : List Int) (y : ((List Int) × Unit) × Unit) : Alt := .one (.exit 0) (xh0.b (v2, y.1.1, ()))
noncomputable def r1 {ρ : Type} (lf : Nat) (v0 : List Int) (v1 : Int) (v2 : List Int) (K : Int → (List Int) → Option ρ) (E0 : (List Int) → Option ρ) : Option ρ :=
 br (decide (v1 ≥ 0)) (
 bd (idxL v0 v1) fun y7 =>
 bd (apL true 1 v2 [(IntKind.u8.wrap (i64.wrap (48 + y7)))]) fun q8 =>
 K (i64.wrap (v1 - 1)) q8) (
 E0 v2)
noncomputable def l1 (lf : Nat) (v0 : List Int) : Nat → Int → (List Int) → Option (((List Int) × Unit) × Unit)
 | 0, _, _ => none
 | n + 1, v1, v2 => r1 lf v0 v1 v2 (l1 lf v0 n) (fun w0 => some ((w0, ()), ()))
noncomputable def sh1 : ShS := ⟨[.s (.sl (.int .i64)), .a 4, .s (.row 0), .s (.int .i64), .a 27], [.row (.int .u8) 5 false]⟩
noncomputable def S1 (p : (List Int) × Int × (List Int) × Unit) : St := sh1.b p
noncomputable def xh1 : ShS := ⟨[.a 5, .s (.row 0), .a 28], [.row (.int .u8) 5 false]⟩
noncomputable def o1 (v0 : List Int) (y : ((List Int) × Unit) × Unit) : Alt := .one (.exit 0) (xh1.b (y.1.1, ()))
noncomputable def tb (lf : Nat) : List (FuncId × Entry) := [(146, surveyorref01_cut.E lf)]
noncomputable def s13_210 (lf : Nat) : List (Nat × (St → Option LTE)) := [(0, sumE sh0 fun (p : (List Int) × Int × (List Int) × (List Int) × Unit) => ⟨((List Int) × Unit) × Unit, l0 lf p.1 p.2.2.1 (lf + 40) p.2.1 p.2.2.2.1, o0 p.1 p.2.2.1⟩),
 (0, sumE sh1 fun (p : (List Int) × Int × (List Int) × Unit) => ⟨((List Int) × Unit) × Unit, l1 lf p.1 (lf + 40) p.2.1 p.2.2.1, o1 p.1⟩)]
noncomputable def ls (lf : Nat) : List (Nat × FuncId × Sums) := [(13, 210, sumsL (s13_210 lf))]
noncomputable def it0 {ρ : Type} (lf n : Nat) (st : St) (k : KE ρ) : Option ρ := itG anns (ls lf) (tb lf) lf 13 210 0 2 (sumsL (s13_210 lf)) n st k
theorem t0 {ρ : Type} (lf n : Nat) (v0 : List Int) (v1 : Int) (v2 v3 : List Int) (k : KE ρ) : it0 lf (n + 1) (S0 (v0, v1, v2, v3, ())) k = r0 lf v0 v2 v1 v3 (fun x0 x1 => it0 lf n (S0 (v0, x0, v2, x1, ())) k) (fun w0 => k (.exit 0) (xh0.b (v2, w0, ()))) := by kernel_rfl
theorem u0 {ρ : Type} (lf : Nat) (v0 v2 : List Int) (k : KE ρ) : ∀ (n : Nat) (v1 : Int) (v3 : List Int), it0 lf n (S0 (v0, v1, v2, v3, ())) k = bd (l0 lf v0 v2 n v1 v3) fun y => altK k (o0 v0 v2 y)
 | 0, _, _ => by rw [l0, bd_none]; rfl
 | n + 1, v1, v3 => by
  rw [t0]; simp only [l0, r0, u0 lf v0 v2 k n, bd_br, bd_bd, bd_some', bd_none, br_t, br_f, o0, altK]
noncomputable def it1 {ρ : Type} (lf n : Nat) (st : St) (k : KE ρ) : Option ρ := itG anns (ls lf) (tb lf) lf 13 210 0 0 (sumsL (s13_210 lf)) n st k
theorem t1 {ρ : Type} (lf n : Nat) (v0 : List Int) (v1 : Int) (v2 : List Int) (k : KE ρ) : it1 lf (n + 1) (S1 (v0, v1, v2, ())) k = r1 lf v0 v1 v2 (fun x0 x1 => it1 lf n (S1 (v0, x0, x1, ())) k) (fun w0 => k (.exit 0) (xh1.b (w0, ()))) := by kernel_rfl
theorem u1 {ρ : Type} (lf : Nat) (v0 : List Int) (k : KE ρ) : ∀ (n : Nat) (v1 : Int) (v2 : List Int), it1 lf n (S1 (v0, v1, v2, ())) k = bd (l1 lf v0 n v1 v2) fun y => altK k (o1 v0 y)
 | 0, _, _ => by rw [l1, bd_none]; rfl
 | n + 1, v1, v2 => by
  rw [t1]; simp only [l1, r1, u1 lf v0 k n, bd_br, bd_bd, bd_some', bd_none, br_t, br_f, o1, altK]
theorem sl (lf : Nat) : SL anns (ls lf) (tb lf) lf (ls lf) := slC (laC (fun _ => by kernel_rfl) (fun _ (x : (List Int) × Int × (List Int) × (List Int) × Unit) k => leq_of (u0 lf x.1 x.2.2.1 k (lf + 40) x.2.1 x.2.2.2.1)) (laC (fun _ => by kernel_rfl) (fun _ (x : (List Int) × Int × (List Int) × Unit) k => leq_of (u1 lf x.1 k (lf + 40) x.2.1 x.2.2.1)) laN)) slN
noncomputable def f (lf : Nat) (a0 : List Int) (a1 : Bool) : Option (ByteArray × Unit) :=
 bd (surveyorref01_cut.f lf a0) fun r1 =>
 br (((r1.1.length : Nat) : Int) == 0) (
 some ((⟨#[48]⟩ : ByteArray), ())) (
 br a1 (
 bd (apL true 1 [] [45]) fun q2 =>
 bd (l0 lf r1.1 [45] (lf + 40) (i64.wrap (((r1.1.length : Nat) : Int) - 1)) q2) fun z5 =>
 bd (if true = true then some (bytesS z5.1.1) else none) fun s6 =>
 some (s6, ())) (
 bd (l1 lf r1.1 (lf + 40) (i64.wrap (((r1.1.length : Nat) : Int) - 1)) []) fun z9 =>
 bd (if true = true then some (bytesS z9.1.1) else none) fun s10 =>
 some (s10, ())))
noncomputable def E (lf : Nat) : Entry := ⟨[(.sl (.int .i64)), .bool], [.str], fun x => f lf x.1 x.2.1⟩
theorem ok (lf : Nat) : Ok 210 (E lf) := okL (tC (surveyorref01_cut.ok lf) tN) (aoC aoN) (sl lf) fun x => by kernel_rfl
end surveyorref01_made
namespace surveyorref01_at
noncomputable def f (lf : Nat) (a0 : List Int) (a1 : Int) : Option (Int × Unit) :=
 br (decide (a1 < ((a0.length : Nat) : Int))) (
 bd (idxL a0 a1) fun y1 =>
 some (y1, ())) (
 some (0, ()))
noncomputable def E (lf : Nat) : Entry := ⟨[(.sl (.int .i64)), (.int .i64)], [(.int .i64)], fun x => f lf x.1 x.2.1⟩
theorem ok (lf : Nat) : Ok 232 (E lf) := okT (an := (annsL [])) (lf := lf) tN aoN fun x => by kernel_rfl
end surveyorref01_at
namespace surveyorref01_plus
noncomputable def anns : FuncId → FA := annsL [(211, ⟨annOf [(0, ⟨kx 36 [0, 1, 5, 6, 7], [⟨.tmp 5, (.int .i64), 3⟩], []⟩, ⟨kx 36 [4, 5], [⟨.tmp 5, (.int .i64), 3⟩], []⟩)], none, []⟩)]
noncomputable def r0 {ρ : Type} (lf : Nat) (v0 v1 : List Int) (v2 v3 : Int) (v4 : List Int) (K : Int → Int → (List Int) → Option ρ) (E0 : (List Int) → Option ρ) : Option ρ :=
 br (decide (v3 < (i64.wrap ((if ((v1.length : Nat) : Int) > ((v0.length : Nat) : Int) then ((v1.length : Nat) : Int) else ((v0.length : Nat) : Int)) + 1)))) (
 bd (surveyorref01_at.f lf v0 v3) fun r1 =>
 bd (surveyorref01_at.f lf v1 v3) fun r2 =>
 bd (iRem (i64.wrap (v2 + (i64.wrap (r1.1 + r2.1)))) 10) fun r3 =>
 bd (apL true 8 v4 [r3]) fun q4 =>
 bd (iQuo .i64 (i64.wrap (v2 + (i64.wrap (r1.1 + r2.1)))) 10) fun r5 =>
 K r5 (i64.wrap (v3 + 1)) q4) (
 E0 v4)
noncomputable def l0 (lf : Nat) (v0 v1 : List Int) : Nat → Int → Int → (List Int) → Option (((List Int) × Unit) × Unit)
 | 0, _, _, _ => none
 | n + 1, v2, v3, v4 => r0 lf v0 v1 v2 v3 v4 (l0 lf v0 v1 n) (fun w0 => some ((w0, ()), ()))
noncomputable def sh0 : ShS := ⟨[.s (.sl (.int .i64)), .s (.sl (.int .i64)), .a 3, .s (.row 0), .s (.int .i64), .s (.int .i64), .a 28], [.row (.int .i64) 3 false]⟩
noncomputable def S0 (p : (List Int) × (List Int) × Int × Int × (List Int) × Unit) : St := sh0.b p
noncomputable def xh0 : ShS := ⟨[.a 5, .s (.row 0), .a 30], [.row (.int .i64) 3 false]⟩
noncomputable def o0 (v0 v1 : List Int) (y : ((List Int) × Unit) × Unit) : Alt := .one (.exit 0) (xh0.b (y.1.1, ()))
noncomputable def tb (lf : Nat) : List (FuncId × Entry) := [(146, surveyorref01_cut.E lf), (232, surveyorref01_at.E lf)]
noncomputable def s13_211 (lf : Nat) : List (Nat × (St → Option LTE)) := [(0, sumE sh0 fun (p : (List Int) × (List Int) × Int × Int × (List Int) × Unit) => ⟨((List Int) × Unit) × Unit, l0 lf p.1 p.2.1 (lf + 40) p.2.2.1 p.2.2.2.1 p.2.2.2.2.1, o0 p.1 p.2.1⟩)]
noncomputable def ls (lf : Nat) : List (Nat × FuncId × Sums) := [(13, 211, sumsL (s13_211 lf))]
noncomputable def it0 {ρ : Type} (lf n : Nat) (st : St) (k : KE ρ) : Option ρ := itG anns (ls lf) (tb lf) lf 13 211 0 0 (sumsL (s13_211 lf)) n st k
theorem t0 {ρ : Type} (lf n : Nat) (v0 v1 : List Int) (v2 v3 : Int) (v4 : List Int) (k : KE ρ) : it0 lf (n + 1) (S0 (v0, v1, v2, v3, v4, ())) k = r0 lf v0 v1 v2 v3 v4 (fun x0 x1 x2 => it0 lf n (S0 (v0, v1, x0, x1, x2, ())) k) (fun w0 => k (.exit 0) (xh0.b (w0, ()))) := by kernel_rfl
theorem u0 {ρ : Type} (lf : Nat) (v0 v1 : List Int) (k : KE ρ) : ∀ (n : Nat) (v2 v3 : Int) (v4 : List Int), it0 lf n (S0 (v0, v1, v2, v3, v4, ())) k = bd (l0 lf v0 v1 n v2 v3 v4) fun y => altK k (o0 v0 v1 y)
 | 0, _, _, _ => by rw [l0, bd_none]; rfl
 | n + 1, v2, v3, v4 => by
  rw [t0]; simp only [l0, r0, u0 lf v0 v1 k n, bd_br, bd_bd, bd_some', bd_none, br_t, br_f, o0, altK]
theorem sl (lf : Nat) : SL anns (ls lf) (tb lf) lf (ls lf) := slC (laC (fun _ => by kernel_rfl) (fun _ (x : (List Int) × (List Int) × Int × Int × (List Int) × Unit) k => leq_of (u0 lf x.1 x.2.1 k (lf + 40) x.2.2.1 x.2.2.2.1 x.2.2.2.2.1)) laN) slN
noncomputable def f (lf : Nat) (a0 : List Int) (a1 : List Int) : Option ((List Int) × Unit) :=
 bd (l0 lf a0 a1 (lf + 40) 0 0 []) fun z6 =>
 bd (surveyorref01_cut.f lf z6.1.1) fun r7 =>
 some (r7.1, ())
noncomputable def E (lf : Nat) : Entry := ⟨[(.sl (.int .i64)), (.sl (.int .i64))], [(.sl (.int .i64))], fun x => f lf x.1 x.2.1⟩
theorem ok (lf : Nat) : Ok 211 (E lf) := okL (tC (surveyorref01_cut.ok lf) (tC (surveyorref01_at.ok lf) tN)) (aoC aoN) (sl lf) fun x => by kernel_rfl
end surveyorref01_plus
namespace surveyorref01_minus
noncomputable def anns : FuncId → FA := annsL [(212, ⟨annOf [(0, ⟨kx 35 [0, 1, 5, 6, 7], [⟨.tmp 5, (.int .i64), 3⟩], []⟩, ⟨kx 35 [4, 5], [⟨.tmp 5, (.int .i64), 3⟩], []⟩)], none, []⟩)]
noncomputable def r0 {ρ : Type} (lf : Nat) (v0 v1 : List Int) (v2 v3 : Int) (v4 : List Int) (K : Int → Int → (List Int) → Option ρ) (E0 : (List Int) → Option ρ) : Option ρ :=
 br (decide (v3 < ((v0.length : Nat) : Int))) (
 bd (idxL v0 v3) fun y1 =>
 bd (surveyorref01_at.f lf v1 v3) fun r2 =>
 br (decide ((i64.wrap ((i64.wrap (y1 - r2.1)) - v2)) < 0)) (
 bd (apL true 8 v4 [(i64.wrap ((i64.wrap ((i64.wrap (y1 - r2.1)) - v2)) + 10))]) fun q3 =>
 K 1 (i64.wrap (v3 + 1)) q3) (
 bd (apL true 8 v4 [(i64.wrap ((i64.wrap (y1 - r2.1)) - v2))]) fun q4 =>
 K 0 (i64.wrap (v3 + 1)) q4)) (
 E0 v4)
noncomputable def l0 (lf : Nat) (v0 v1 : List Int) : Nat → Int → Int → (List Int) → Option (((List Int) × Unit) × Unit)
 | 0, _, _, _ => none
 | n + 1, v2, v3, v4 => r0 lf v0 v1 v2 v3 v4 (l0 lf v0 v1 n) (fun w0 => some ((w0, ()), ()))
noncomputable def sh0 : ShS := ⟨[.s (.sl (.int .i64)), .s (.sl (.int .i64)), .a 3, .s (.row 0), .s (.int .i64), .s (.int .i64), .a 27], [.row (.int .i64) 3 false]⟩
noncomputable def S0 (p : (List Int) × (List Int) × Int × Int × (List Int) × Unit) : St := sh0.b p
noncomputable def xh0 : ShS := ⟨[.a 5, .s (.row 0), .a 29], [.row (.int .i64) 3 false]⟩
noncomputable def o0 (v0 v1 : List Int) (y : ((List Int) × Unit) × Unit) : Alt := .one (.exit 0) (xh0.b (y.1.1, ()))
noncomputable def tb (lf : Nat) : List (FuncId × Entry) := [(146, surveyorref01_cut.E lf), (232, surveyorref01_at.E lf)]
noncomputable def s13_212 (lf : Nat) : List (Nat × (St → Option LTE)) := [(0, sumE sh0 fun (p : (List Int) × (List Int) × Int × Int × (List Int) × Unit) => ⟨((List Int) × Unit) × Unit, l0 lf p.1 p.2.1 (lf + 40) p.2.2.1 p.2.2.2.1 p.2.2.2.2.1, o0 p.1 p.2.1⟩)]
noncomputable def ls (lf : Nat) : List (Nat × FuncId × Sums) := [(13, 212, sumsL (s13_212 lf))]
noncomputable def it0 {ρ : Type} (lf n : Nat) (st : St) (k : KE ρ) : Option ρ := itG anns (ls lf) (tb lf) lf 13 212 0 0 (sumsL (s13_212 lf)) n st k
theorem t0 {ρ : Type} (lf n : Nat) (v0 v1 : List Int) (v2 v3 : Int) (v4 : List Int) (k : KE ρ) : it0 lf (n + 1) (S0 (v0, v1, v2, v3, v4, ())) k = r0 lf v0 v1 v2 v3 v4 (fun x0 x1 x2 => it0 lf n (S0 (v0, v1, x0, x1, x2, ())) k) (fun w0 => k (.exit 0) (xh0.b (w0, ()))) := by kernel_rfl
theorem u0 {ρ : Type} (lf : Nat) (v0 v1 : List Int) (k : KE ρ) : ∀ (n : Nat) (v2 v3 : Int) (v4 : List Int), it0 lf n (S0 (v0, v1, v2, v3, v4, ())) k = bd (l0 lf v0 v1 n v2 v3 v4) fun y => altK k (o0 v0 v1 y)
 | 0, _, _, _ => by rw [l0, bd_none]; rfl
 | n + 1, v2, v3, v4 => by
  rw [t0]; simp only [l0, r0, u0 lf v0 v1 k n, bd_br, bd_bd, bd_some', bd_none, br_t, br_f, o0, altK]
theorem sl (lf : Nat) : SL anns (ls lf) (tb lf) lf (ls lf) := slC (laC (fun _ => by kernel_rfl) (fun _ (x : (List Int) × (List Int) × Int × Int × (List Int) × Unit) k => leq_of (u0 lf x.1 x.2.1 k (lf + 40) x.2.2.1 x.2.2.2.1 x.2.2.2.2.1)) laN) slN
noncomputable def f (lf : Nat) (a0 : List Int) (a1 : List Int) : Option ((List Int) × Unit) :=
 bd (l0 lf a0 a1 (lf + 40) 0 0 []) fun z5 =>
 bd (surveyorref01_cut.f lf z5.1.1) fun r6 =>
 some (r6.1, ())
noncomputable def E (lf : Nat) : Entry := ⟨[(.sl (.int .i64)), (.sl (.int .i64))], [(.sl (.int .i64))], fun x => f lf x.1 x.2.1⟩
theorem ok (lf : Nat) : Ok 212 (E lf) := okL (tC (surveyorref01_cut.ok lf) (tC (surveyorref01_at.ok lf) tN)) (aoC aoN) (sl lf) fun x => by kernel_rfl
end surveyorref01_minus
namespace surveyorref01_Sum
noncomputable def f (lf : Nat) (a0 : ByteArray) (a1 : ByteArray) : Option (ByteArray × Unit) :=
 bd (surveyorref01_short.f lf a0 17) fun r1 =>
 br r1.1 (
 bd (surveyorref01_short.f lf a1 17) fun r2 =>
 br r2.1 (
 bd (surveyorref01_number.f lf a0) fun r3 =>
 bd (surveyorref01_number.f lf a1) fun r4 =>
 bd (surveyorref01_Whole.f lf (i64.wrap (r3.1 + r4.1))) fun r5 =>
 some (r5.1, ())) (
 bd (surveyorref01_digits.f lf a0) fun r6 =>
 bd (surveyorref01_digits.f lf a1) fun r7 =>
 bd (surveyorref01_Negative.f lf a0) fun r8 =>
 bd (surveyorref01_Negative.f lf a1) fun r9 =>
 br (r8.1 == r9.1) (
 bd (surveyorref01_plus.f lf r6.1 r7.1) fun r10 =>
 bd (surveyorref01_Negative.f lf a0) fun r11 =>
 bd (surveyorref01_made.f lf r10.1 r11.1) fun r12 =>
 some (r12.1, ())) (
 bd (surveyorref01_cut.f lf r6.1) fun r13 =>
 bd (surveyorref01_cut.f lf r7.1) fun r14 =>
 bd (surveyorref01_order.f lf r13.1 r14.1) fun r15 =>
 br (decide (r15.1 ≥ 0)) (
 bd (surveyorref01_minus.f lf r6.1 r7.1) fun r16 =>
 bd (surveyorref01_Negative.f lf a0) fun r17 =>
 bd (surveyorref01_made.f lf r16.1 r17.1) fun r18 =>
 some (r18.1, ())) (
 bd (surveyorref01_minus.f lf r7.1 r6.1) fun r19 =>
 bd (surveyorref01_Negative.f lf a1) fun r20 =>
 bd (surveyorref01_made.f lf r19.1 r20.1) fun r21 =>
 some (r21.1, ()))))) (
 bd (surveyorref01_digits.f lf a0) fun r22 =>
 bd (surveyorref01_digits.f lf a1) fun r23 =>
 bd (surveyorref01_Negative.f lf a0) fun r24 =>
 bd (surveyorref01_Negative.f lf a1) fun r25 =>
 br (r24.1 == r25.1) (
 bd (surveyorref01_plus.f lf r22.1 r23.1) fun r26 =>
 bd (surveyorref01_Negative.f lf a0) fun r27 =>
 bd (surveyorref01_made.f lf r26.1 r27.1) fun r28 =>
 some (r28.1, ())) (
 bd (surveyorref01_cut.f lf r22.1) fun r29 =>
 bd (surveyorref01_cut.f lf r23.1) fun r30 =>
 bd (surveyorref01_order.f lf r29.1 r30.1) fun r31 =>
 br (decide (r31.1 ≥ 0)) (
 bd (surveyorref01_minus.f lf r22.1 r23.1) fun r32 =>
 bd (surveyorref01_Negative.f lf a0) fun r33 =>
 bd (surveyorref01_made.f lf r32.1 r33.1) fun r34 =>
 some (r34.1, ())) (
 bd (surveyorref01_minus.f lf r23.1 r22.1) fun r35 =>
 bd (surveyorref01_Negative.f lf a1) fun r36 =>
 bd (surveyorref01_made.f lf r35.1 r36.1) fun r37 =>
 some (r37.1, ()))))
noncomputable def E (lf : Nat) : Entry := ⟨[.str, .str], [.str], fun x => f lf x.1 x.2.1⟩
theorem ok (lf : Nat) : Ok 188 (E lf) := okT (an := (annsL [])) (lf := lf) (tC (surveyorref01_Negative.ok lf) (tC (surveyorref01_order.ok lf) (tC (surveyorref01_cut.ok lf) (tC (surveyorref01_digits.ok lf) (tC (surveyorref01_short.ok lf) (tC (surveyorref01_Whole.ok lf) (tC (surveyorref01_number.ok lf) (tC (surveyorref01_made.ok lf) (tC (surveyorref01_plus.ok lf) (tC (surveyorref01_minus.ok lf) tN)))))))))) aoN fun x => by kernel_rfl
end surveyorref01_Sum
end
end Go.Q
