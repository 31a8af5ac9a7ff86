import Derived.Test.YtlikbeopppeojaaGreatDoorProg
import Derived.KernelRfl
import Derived.Test.YtlikbeopppeojaaGreatDoorEHE3
import Derived.Test.YtlikbeopppeojaaGreatDoorEHG4
set_option linter.unusedVariables false
set_option linter.unusedSimpArgs false
set_option linter.unusedSectionVars false
set_option maxRecDepth 100000
namespace Go.Q
open Go.IntKind (i64)
open Go Go.RowKit
open Go.Rx (br bd sIdx sCat sCut iQuo iRem iShl)
noncomputable section
namespace surveyorref01_number
def anns : FuncId → FA := annsL [(249, ⟨annOf [(0, ⟨kx 28 [0, 3, 4], [], []⟩, ⟨kx 28 [0, 2, 3], [], []⟩)], none, []⟩)]
def r0 {ρ : Type} (lf : Nat) (v0 : ByteArray) (v1 v2 : Int) (K : Int → Int → Option ρ) (E0 : Int → Option ρ) : Option ρ :=
 br (decide (v2 < ((v0.size : Nat) : Int))) (
 bd (sIdx v0 v2) fun r1 =>
 br (((r1.toNat : Nat) : Int) != 45) (
 bd (sIdx v0 v2) fun r2 =>
 K (i64.wrap ((i64.wrap (v1 * 10)) + (i64.wrap (IntKind.u8.wrap (((r2.toNat : Nat) : Int) - 48))))) (i64.wrap (v2 + 1))) (
 K v1 (i64.wrap (v2 + 1)))) (
 E0 v1)
def l0 (lf : Nat) (v0 : ByteArray) : Nat → Int → Int → Option ((Int × Unit) × Unit)
 | 0, _, _ => none
 | n + 1, v1, v2 => r0 lf v0 v1 v2 (l0 lf v0 n) (fun w0 => some ((w0, ()), ()))
def sh0 : ShS := ⟨[.s .str, .a 2, .s (.int .i64), .s (.int .i64), .a 23], []⟩
def S0 (p : ByteArray × Int × Int × Unit) : St := sh0.b p
def xh0 : ShS := ⟨[.s .str, .a 2, .s (.int .i64), .a 24], []⟩
def o0 (v0 : ByteArray) (y : (Int × Unit) × Unit) : Alt := .one (.exit 0) (xh0.b (v0, y.1.1, ()))
def tb (lf : Nat) : List (FuncId × Entry) := [(97, surveyorref01_Negative.E lf)]
def s13_249 (lf : Nat) : List (Nat × (St → Option LTE)) := [(0, sumE sh0 fun (p : ByteArray × Int × Int × Unit) => ⟨(Int × Unit) × Unit, l0 lf p.1 (lf + 40) p.2.1 p.2.2.1, o0 p.1⟩)]
def ls (lf : Nat) : List (Nat × FuncId × Sums) := [(13, 249, sumsL (s13_249 lf))]
def it0 {ρ : Type} (lf n : Nat) (st : St) (k : KE ρ) : Option ρ := itG anns (ls lf) (tb lf) lf 13 249 0 0 (sumsL (s13_249 lf)) n st k
theorem t0 {ρ : Type} (lf n : Nat) (v0 : ByteArray) (v1 v2 : Int) (k : KE ρ) : it0 lf (n + 1) (S0 (v0, v1, v2, ())) k = r0 lf v0 v1 v2 (fun x0 x1 => it0 lf n (S0 (v0, x0, x1, ())) k) (fun w0 => k (.exit 0) (xh0.b (v0, w0, ()))) := by kernel_rfl
theorem u0 {ρ : Type} (lf : Nat) (v0 : ByteArray) (k : KE ρ) : ∀ (n : Nat) (v1 v2 : Int), it0 lf n (S0 (v0, v1, v2, ())) k = bd (l0 lf v0 n v1 v2) fun y => altK k (o0 v0 y)
 | 0, _, _ => by rw [l0, bd_none]; rfl
 | n + 1, v1, v2 => by
  rw [t0]; simp only [l0, r0, u0 lf v0 k n, bd_br, bd_bd, bd_some', bd_none, br_t, br_f, o0, altK]
theorem sl (lf : Nat) : SL anns (ls lf) (tb lf) lf (ls lf) := slC (laC (fun _ => by kernel_rfl) (fun _ (x : ByteArray × Int × Int × Unit) k => leq_of (u0 lf x.1 k (lf + 40) x.2.1 x.2.2.1)) laN) slN
def f (lf : Nat) (a0 : ByteArray) : Option (Int × Unit) :=
 bd (l0 lf a0 (lf + 40) 0 0) fun z3 =>
 bd (surveyorref01_Negative.f lf a0) fun r4 =>
 br r4.1 (
 some ((i64.wrap (0 - z3.1.1)), ())) (
 some (z3.1.1, ()))
def E (lf : Nat) : Entry := ⟨[.str], [(.int .i64)], fun x => f lf x.1⟩
theorem ok (lf : Nat) : Ok 249 (E lf) := okL (tC (surveyorref01_Negative.ok lf) tN) (aoC aoN) (sl lf) fun x => by kernel_rfl
end surveyorref01_number
namespace surveyorref01_made
def anns : FuncId → FA := annsL [(250, ⟨annOf [(0, ⟨kx 34 [0, 5, 6], [⟨.tmp 5, (.int .u8), 5⟩], []⟩, ⟨kx 34 [4, 5], [⟨.tmp 5, (.int .u8), 5⟩], []⟩)], none, []⟩)]
def r0 {ρ : Type} (lf : Nat) (v0 v2 : List Int) (v1 : Int) (v3 : List Int) (K : Int → (List Int) → Option ρ) (E0 : (List Int) → Option ρ) : Option ρ :=
 br (decide (v1 ≥ 0)) (
 bd (idxL v0 v1) fun y3 =>
 bd (apL true 1 v3 [(IntKind.u8.wrap (i64.wrap (48 + y3)))]) fun q4 =>
 K (i64.wrap (v1 - 1)) q4) (
 E0 v3)
def l0 (lf : Nat) (v0 v2 : List Int) : Nat → Int → (List Int) → Option (((List Int) × Unit) × Unit)
 | 0, _, _ => none
 | n + 1, v1, v3 => r0 lf v0 v2 v1 v3 (l0 lf v0 v2 n) (fun w0 => some ((w0, ()), ()))
def sh0 : ShS := ⟨[.s (.sl (.int .i64)), .a 4, .s (.row 2), .s (.int .i64), .a 27], [.row (.int .u8) 5 false, .gone, .row (.int .u8) 5 false]⟩
def S0 (p : (List Int) × Int × (List Int) × (List Int) × Unit) : St := sh0.b p
def xh0 : ShS := ⟨[.a 5, .s (.row 2), .a 28], [.row (.int .u8) 5 false, .gone, .row (.int .u8) 5 false]⟩
def o0 (v0 v2 : List Int) (y : ((List Int) × Unit) × Unit) : Alt := .one (.exit 0) (xh0.b (v2, y.1.1, ()))
def r1 {ρ : Type} (lf : Nat) (v0 : List Int) (v1 : Int) (v2 : List Int) (K : Int → (List Int) → Option ρ) (E0 : (List Int) → Option ρ) : Option ρ :=
 br (decide (v1 ≥ 0)) (
 bd (idxL v0 v1) fun y7 =>
 bd (apL true 1 v2 [(IntKind.u8.wrap (i64.wrap (48 + y7)))]) fun q8 =>
 K (i64.wrap (v1 - 1)) q8) (
 E0 v2)
def l1 (lf : Nat) (v0 : List Int) : Nat → Int → (List Int) → Option (((List Int) × Unit) × Unit)
 | 0, _, _ => none
 | n + 1, v1, v2 => r1 lf v0 v1 v2 (l1 lf v0 n) (fun w0 => some ((w0, ()), ()))
def sh1 : ShS := ⟨[.s (.sl (.int .i64)), .a 4, .s (.row 0), .s (.int .i64), .a 27], [.row (.int .u8) 5 false]⟩
def S1 (p : (List Int) × Int × (List Int) × Unit) : St := sh1.b p
def xh1 : ShS := ⟨[.a 5, .s (.row 0), .a 28], [.row (.int .u8) 5 false]⟩
def o1 (v0 : List Int) (y : ((List Int) × Unit) × Unit) : Alt := .one (.exit 0) (xh1.b (y.1.1, ()))
def tb (lf : Nat) : List (FuncId × Entry) := [(245, surveyorref01_cut.E lf)]
def s13_250 (lf : Nat) : List (Nat × (St → Option LTE)) := [(0, sumE sh0 fun (p : (List Int) × Int × (List Int) × (List Int) × Unit) => ⟨((List Int) × Unit) × Unit, l0 lf p.1 p.2.2.1 (lf + 40) p.2.1 p.2.2.2.1, o0 p.1 p.2.2.1⟩),
 (0, sumE sh1 fun (p : (List Int) × Int × (List Int) × Unit) => ⟨((List Int) × Unit) × Unit, l1 lf p.1 (lf + 40) p.2.1 p.2.2.1, o1 p.1⟩)]
def ls (lf : Nat) : List (Nat × FuncId × Sums) := [(13, 250, sumsL (s13_250 lf))]
def it0 {ρ : Type} (lf n : Nat) (st : St) (k : KE ρ) : Option ρ := itG anns (ls lf) (tb lf) lf 13 250 0 2 (sumsL (s13_250 lf)) n st k
theorem t0 {ρ : Type} (lf n : Nat) (v0 : List Int) (v1 : Int) (v2 v3 : List Int) (k : KE ρ) : it0 lf (n + 1) (S0 (v0, v1, v2, v3, ())) k = r0 lf v0 v2 v1 v3 (fun x0 x1 => it0 lf n (S0 (v0, x0, v2, x1, ())) k) (fun w0 => k (.exit 0) (xh0.b (v2, w0, ()))) := by kernel_rfl
theorem u0 {ρ : Type} (lf : Nat) (v0 v2 : List Int) (k : KE ρ) : ∀ (n : Nat) (v1 : Int) (v3 : List Int), it0 lf n (S0 (v0, v1, v2, v3, ())) k = bd (l0 lf v0 v2 n v1 v3) fun y => altK k (o0 v0 v2 y)
 | 0, _, _ => by rw [l0, bd_none]; rfl
 | n + 1, v1, v3 => by
  rw [t0]; simp only [l0, r0, u0 lf v0 v2 k n, bd_br, bd_bd, bd_some', bd_none, br_t, br_f, o0, altK]
def it1 {ρ : Type} (lf n : Nat) (st : St) (k : KE ρ) : Option ρ := itG anns (ls lf) (tb lf) lf 13 250 0 0 (sumsL (s13_250 lf)) n st k
theorem t1 {ρ : Type} (lf n : Nat) (v0 : List Int) (v1 : Int) (v2 : List Int) (k : KE ρ) : it1 lf (n + 1) (S1 (v0, v1, v2, ())) k = r1 lf v0 v1 v2 (fun x0 x1 => it1 lf n (S1 (v0, x0, x1, ())) k) (fun w0 => k (.exit 0) (xh1.b (w0, ()))) := by kernel_rfl
theorem u1 {ρ : Type} (lf : Nat) (v0 : List Int) (k : KE ρ) : ∀ (n : Nat) (v1 : Int) (v2 : List Int), it1 lf n (S1 (v0, v1, v2, ())) k = bd (l1 lf v0 n v1 v2) fun y => altK k (o1 v0 y)
 | 0, _, _ => by rw [l1, bd_none]; rfl
 | n + 1, v1, v2 => by
  rw [t1]; simp only [l1, r1, u1 lf v0 k n, bd_br, bd_bd, bd_some', bd_none, br_t, br_f, o1, altK]
theorem sl (lf : Nat) : SL anns (ls lf) (tb lf) lf (ls lf) := slC (laC (fun _ => by kernel_rfl) (fun _ (x : (List Int) × Int × (List Int) × (List Int) × Unit) k => leq_of (u0 lf x.1 x.2.2.1 k (lf + 40) x.2.1 x.2.2.2.1)) (laC (fun _ => by kernel_rfl) (fun _ (x : (List Int) × Int × (List Int) × Unit) k => leq_of (u1 lf x.1 k (lf + 40) x.2.1 x.2.2.1)) laN)) slN
def f (lf : Nat) (a0 : List Int) (a1 : Bool) : Option (ByteArray × Unit) :=
 bd (surveyorref01_cut.f lf a0) fun r1 =>
 br (((r1.1.length : Nat) : Int) == 0) (
 some ((⟨#[48]⟩ : ByteArray), ())) (
 br a1 (
 bd (apL true 1 [] [45]) fun q2 =>
 bd (l0 lf r1.1 [45] (lf + 40) (i64.wrap (((r1.1.length : Nat) : Int) - 1)) q2) fun z5 =>
 bd (if true = true then some (bytesS z5.1.1) else none) fun s6 =>
 some (s6, ())) (
 bd (l1 lf r1.1 (lf + 40) (i64.wrap (((r1.1.length : Nat) : Int) - 1)) []) fun z9 =>
 bd (if true = true then some (bytesS z9.1.1) else none) fun s10 =>
 some (s10, ())))
def E (lf : Nat) : Entry := ⟨[(.sl (.int .i64)), .bool], [.str], fun x => f lf x.1 x.2.1⟩
theorem ok (lf : Nat) : Ok 250 (E lf) := okL (tC (surveyorref01_cut.ok lf) tN) (aoC aoN) (sl lf) fun x => by kernel_rfl
end surveyorref01_made
namespace surveyorref01_at
def f (lf : Nat) (a0 : List Int) (a1 : Int) : Option (Int × Unit) :=
 br (decide (a1 < ((a0.length : Nat) : Int))) (
 bd (idxL a0 a1) fun y1 =>
 some (y1, ())) (
 some (0, ()))
def E (lf : Nat) : Entry := ⟨[(.sl (.int .i64)), (.int .i64)], [(.int .i64)], fun x => f lf x.1 x.2.1⟩
theorem ok (lf : Nat) : Ok 305 (E lf) := okT (an := (annsL [])) (lf := lf) tN aoN fun x => by kernel_rfl
end surveyorref01_at
namespace surveyorref01_plus
def anns : FuncId → FA := annsL [(251, ⟨annOf [(0, ⟨kx 36 [0, 1, 5, 6, 7], [⟨.tmp 5, (.int .i64), 3⟩], []⟩, ⟨kx 36 [4, 5], [⟨.tmp 5, (.int .i64), 3⟩], []⟩)], none, []⟩)]
def r0 {ρ : Type} (lf : Nat) (v0 v1 : List Int) (v2 v3 : Int) (v4 : List Int) (K : Int → Int → (List Int) → Option ρ) (E0 : (List Int) → Option ρ) : Option ρ :=
 br (decide (v3 < (i64.wrap ((if ((v1.length : Nat) : Int) > ((v0.length : Nat) : Int) then ((v1.length : Nat) : Int) else ((v0.length : Nat) : Int)) + 1)))) (
 bd (surveyorref01_at.f lf v0 v3) fun r1 =>
 bd (surveyorref01_at.f lf v1 v3) fun r2 =>
 bd (iRem (i64.wrap (v2 + (i64.wrap (r1.1 + r2.1)))) 10) fun r3 =>
 bd (apL true 8 v4 [r3]) fun q4 =>
 bd (iQuo .i64 (i64.wrap (v2 + (i64.wrap (r1.1 + r2.1)))) 10) fun r5 =>
 K r5 (i64.wrap (v3 + 1)) q4) (
 E0 v4)
def l0 (lf : Nat) (v0 v1 : List Int) : Nat → Int → Int → (List Int) → Option (((List Int) × Unit) × Unit)
 | 0, _, _, _ => none
 | n + 1, v2, v3, v4 => r0 lf v0 v1 v2 v3 v4 (l0 lf v0 v1 n) (fun w0 => some ((w0, ()), ()))
def sh0 : ShS := ⟨[.s (.sl (.int .i64)), .s (.sl (.int .i64)), .a 3, .s (.row 0), .s (.int .i64), .s (.int .i64), .a 28], [.row (.int .i64) 3 false]⟩
def S0 (p : (List Int) × (List Int) × Int × Int × (List Int) × Unit) : St := sh0.b p
def xh0 : ShS := ⟨[.a 5, .s (.row 0), .a 30], [.row (.int .i64) 3 false]⟩
def o0 (v0 v1 : List Int) (y : ((List Int) × Unit) × Unit) : Alt := .one (.exit 0) (xh0.b (y.1.1, ()))
def tb (lf : Nat) : List (FuncId × Entry) := [(245, surveyorref01_cut.E lf), (305, surveyorref01_at.E lf)]
def s13_251 (lf : Nat) : List (Nat × (St → Option LTE)) := [(0, sumE sh0 fun (p : (List Int) × (List Int) × Int × Int × (List Int) × Unit) => ⟨((List Int) × Unit) × Unit, l0 lf p.1 p.2.1 (lf + 40) p.2.2.1 p.2.2.2.1 p.2.2.2.2.1, o0 p.1 p.2.1⟩)]
def ls (lf : Nat) : List (Nat × FuncId × Sums) := [(13, 251, sumsL (s13_251 lf))]
def it0 {ρ : Type} (lf n : Nat) (st : St) (k : KE ρ) : Option ρ := itG anns (ls lf) (tb lf) lf 13 251 0 0 (sumsL (s13_251 lf)) n st k
theorem t0 {ρ : Type} (lf n : Nat) (v0 v1 : List Int) (v2 v3 : Int) (v4 : List Int) (k : KE ρ) : it0 lf (n + 1) (S0 (v0, v1, v2, v3, v4, ())) k = r0 lf v0 v1 v2 v3 v4 (fun x0 x1 x2 => it0 lf n (S0 (v0, v1, x0, x1, x2, ())) k) (fun w0 => k (.exit 0) (xh0.b (w0, ()))) := by kernel_rfl
theorem u0 {ρ : Type} (lf : Nat) (v0 v1 : List Int) (k : KE ρ) : ∀ (n : Nat) (v2 v3 : Int) (v4 : List Int), it0 lf n (S0 (v0, v1, v2, v3, v4, ())) k = bd (l0 lf v0 v1 n v2 v3 v4) fun y => altK k (o0 v0 v1 y)
 | 0, _, _, _ => by rw [l0, bd_none]; rfl
 | n + 1, v2, v3, v4 => by
  rw [t0]; simp only [l0, r0, u0 lf v0 v1 k n, bd_br, bd_bd, bd_some', bd_none, br_t, br_f, o0, altK]
theorem sl (lf : Nat) : SL anns (ls lf) (tb lf) lf (ls lf) := slC (laC (fun _ => by kernel_rfl) (fun _ (x : (List Int) × (List Int) × Int × Int × (List Int) × Unit) k => leq_of (u0 lf x.1 x.2.1 k (lf + 40) x.2.2.1 x.2.2.2.1 x.2.2.2.2.1)) laN) slN
def f (lf : Nat) (a0 : List Int) (a1 : List Int) : Option ((List Int) × Unit) :=
 bd (l0 lf a0 a1 (lf + 40) 0 0 []) fun z6 =>
 bd (surveyorref01_cut.f lf z6.1.1) fun r7 =>
 some (r7.1, ())
def E (lf : Nat) : Entry := ⟨[(.sl (.int .i64)), (.sl (.int .i64))], [(.sl (.int .i64))], fun x => f lf x.1 x.2.1⟩
theorem ok (lf : Nat) : Ok 251 (E lf) := okL (tC (surveyorref01_cut.ok lf) (tC (surveyorref01_at.ok lf) tN)) (aoC aoN) (sl lf) fun x => by kernel_rfl
end surveyorref01_plus
namespace surveyorref01_minus
def anns : FuncId → FA := annsL [(252, ⟨annOf [(0, ⟨kx 35 [0, 1, 5, 6, 7], [⟨.tmp 5, (.int .i64), 3⟩], []⟩, ⟨kx 35 [4, 5], [⟨.tmp 5, (.int .i64), 3⟩], []⟩)], none, []⟩)]
def r0 {ρ : Type} (lf : Nat) (v0 v1 : List Int) (v2 v3 : Int) (v4 : List Int) (K : Int → Int → (List Int) → Option ρ) (E0 : (List Int) → Option ρ) : Option ρ :=
 br (decide (v3 < ((v0.length : Nat) : Int))) (
 bd (idxL v0 v3) fun y1 =>
 bd (surveyorref01_at.f lf v1 v3) fun r2 =>
 br (decide ((i64.wrap ((i64.wrap (y1 - r2.1)) - v2)) < 0)) (
 bd (apL true 8 v4 [(i64.wrap ((i64.wrap ((i64.wrap (y1 - r2.1)) - v2)) + 10))]) fun q3 =>
 K 1 (i64.wrap (v3 + 1)) q3) (
 bd (apL true 8 v4 [(i64.wrap ((i64.wrap (y1 - r2.1)) - v2))]) fun q4 =>
 K 0 (i64.wrap (v3 + 1)) q4)) (
 E0 v4)
def l0 (lf : Nat) (v0 v1 : List Int) : Nat → Int → Int → (List Int) → Option (((List Int) × Unit) × Unit)
 | 0, _, _, _ => none
 | n + 1, v2, v3, v4 => r0 lf v0 v1 v2 v3 v4 (l0 lf v0 v1 n) (fun w0 => some ((w0, ()), ()))
def sh0 : ShS := ⟨[.s (.sl (.int .i64)), .s (.sl (.int .i64)), .a 3, .s (.row 0), .s (.int .i64), .s (.int .i64), .a 27], [.row (.int .i64) 3 false]⟩
def S0 (p : (List Int) × (List Int) × Int × Int × (List Int) × Unit) : St := sh0.b p
def xh0 : ShS := ⟨[.a 5, .s (.row 0), .a 29], [.row (.int .i64) 3 false]⟩
def o0 (v0 v1 : List Int) (y : ((List Int) × Unit) × Unit) : Alt := .one (.exit 0) (xh0.b (y.1.1, ()))
def tb (lf : Nat) : List (FuncId × Entry) := [(245, surveyorref01_cut.E lf), (305, surveyorref01_at.E lf)]
def s13_252 (lf : Nat) : List (Nat × (St → Option LTE)) := [(0, sumE sh0 fun (p : (List Int) × (List Int) × Int × Int × (List Int) × Unit) => ⟨((List Int) × Unit) × Unit, l0 lf p.1 p.2.1 (lf + 40) p.2.2.1 p.2.2.2.1 p.2.2.2.2.1, o0 p.1 p.2.1⟩)]
def ls (lf : Nat) : List (Nat × FuncId × Sums) := [(13, 252, sumsL (s13_252 lf))]
def it0 {ρ : Type} (lf n : Nat) (st : St) (k : KE ρ) : Option ρ := itG anns (ls lf) (tb lf) lf 13 252 0 0 (sumsL (s13_252 lf)) n st k
theorem t0 {ρ : Type} (lf n : Nat) (v0 v1 : List Int) (v2 v3 : Int) (v4 : List Int) (k : KE ρ) : it0 lf (n + 1) (S0 (v0, v1, v2, v3, v4, ())) k = r0 lf v0 v1 v2 v3 v4 (fun x0 x1 x2 => it0 lf n (S0 (v0, v1, x0, x1, x2, ())) k) (fun w0 => k (.exit 0) (xh0.b (w0, ()))) := by kernel_rfl
theorem u0 {ρ : Type} (lf : Nat) (v0 v1 : List Int) (k : KE ρ) : ∀ (n : Nat) (v2 v3 : Int) (v4 : List Int), it0 lf n (S0 (v0, v1, v2, v3, v4, ())) k = bd (l0 lf v0 v1 n v2 v3 v4) fun y => altK k (o0 v0 v1 y)
 | 0, _, _, _ => by rw [l0, bd_none]; rfl
 | n + 1, v2, v3, v4 => by
  rw [t0]; simp only [l0, r0, u0 lf v0 v1 k n, bd_br, bd_bd, bd_some', bd_none, br_t, br_f, o0, altK]
theorem sl (lf : Nat) : SL anns (ls lf) (tb lf) lf (ls lf) := slC (laC (fun _ => by kernel_rfl) (fun _ (x : (List Int) × (List Int) × Int × Int × (List Int) × Unit) k => leq_of (u0 lf x.1 x.2.1 k (lf + 40) x.2.2.1 x.2.2.2.1 x.2.2.2.2.1)) laN) slN
def f (lf : Nat) (a0 : List Int) (a1 : List Int) : Option ((List Int) × Unit) :=
 bd (l0 lf a0 a1 (lf + 40) 0 0 []) fun z5 =>
 bd (surveyorref01_cut.f lf z5.1.1) fun r6 =>
 some (r6.1, ())
def E (lf : Nat) : Entry := ⟨[(.sl (.int .i64)), (.sl (.int .i64))], [(.sl (.int .i64))], fun x => f lf x.1 x.2.1⟩
theorem ok (lf : Nat) : Ok 252 (E lf) := okL (tC (surveyorref01_cut.ok lf) (tC (surveyorref01_at.ok lf) tN)) (aoC aoN) (sl lf) fun x => by kernel_rfl
end surveyorref01_minus
namespace surveyorref01_Sum
def f (lf : Nat) (a0 : ByteArray) (a1 : ByteArray) : Option (ByteArray × Unit) :=
 bd (surveyorref01_short.f lf a0 17) fun r1 =>
 br r1.1 (
 bd (surveyorref01_short.f lf a1 17) fun r2 =>
 br r2.1 (
 bd (surveyorref01_number.f lf a0) fun r3 =>
 bd (surveyorref01_number.f lf a1) fun r4 =>
 bd (surveyorref01_Whole.f lf (i64.wrap (r3.1 + r4.1))) fun r5 =>
 some (r5.1, ())) (
 bd (surveyorref01_digits.f lf a0) fun r6 =>
 bd (surveyorref01_digits.f lf a1) fun r7 =>
 bd (surveyorref01_Negative.f lf a0) fun r8 =>
 bd (surveyorref01_Negative.f lf a1) fun r9 =>
 br (r8.1 == r9.1) (
 bd (surveyorref01_plus.f lf r6.1 r7.1) fun r10 =>
 bd (surveyorref01_Negative.f lf a0) fun r11 =>
 bd (surveyorref01_made.f lf r10.1 r11.1) fun r12 =>
 some (r12.1, ())) (
 bd (surveyorref01_cut.f lf r6.1) fun r13 =>
 bd (surveyorref01_cut.f lf r7.1) fun r14 =>
 bd (surveyorref01_order.f lf r13.1 r14.1) fun r15 =>
 br (decide (r15.1 ≥ 0)) (
 bd (surveyorref01_minus.f lf r6.1 r7.1) fun r16 =>
 bd (surveyorref01_Negative.f lf a0) fun r17 =>
 bd (surveyorref01_made.f lf r16.1 r17.1) fun r18 =>
 some (r18.1, ())) (
 bd (surveyorref01_minus.f lf r7.1 r6.1) fun r19 =>
 bd (surveyorref01_Negative.f lf a1) fun r20 =>
 bd (surveyorref01_made.f lf r19.1 r20.1) fun r21 =>
 some (r21.1, ()))))) (
 bd (surveyorref01_digits.f lf a0) fun r22 =>
 bd (surveyorref01_digits.f lf a1) fun r23 =>
 bd (surveyorref01_Negative.f lf a0) fun r24 =>
 bd (surveyorref01_Negative.f lf a1) fun r25 =>
 br (r24.1 == r25.1) (
 bd (surveyorref01_plus.f lf r22.1 r23.1) fun r26 =>
 bd (surveyorref01_Negative.f lf a0) fun r27 =>
 bd (surveyorref01_made.f lf r26.1 r27.1) fun r28 =>
 some (r28.1, ())) (
 bd (surveyorref01_cut.f lf r22.1) fun r29 =>
 bd (surveyorref01_cut.f lf r23.1) fun r30 =>
 bd (surveyorref01_order.f lf r29.1 r30.1) fun r31 =>
 br (decide (r31.1 ≥ 0)) (
 bd (surveyorref01_minus.f lf r22.1 r23.1) fun r32 =>
 bd (surveyorref01_Negative.f lf a0) fun r33 =>
 bd (surveyorref01_made.f lf r32.1 r33.1) fun r34 =>
 some (r34.1, ())) (
 bd (surveyorref01_minus.f lf r23.1 r22.1) fun r35 =>
 bd (surveyorref01_Negative.f lf a1) fun r36 =>
 bd (surveyorref01_made.f lf r35.1 r36.1) fun r37 =>
 some (r37.1, ()))))
def E (lf : Nat) : Entry := ⟨[.str, .str], [.str], fun x => f lf x.1 x.2.1⟩
theorem ok (lf : Nat) : Ok 170 (E lf) := okT (an := (annsL [])) (lf := lf) (tC (surveyorref01_Negative.ok lf) (tC (surveyorref01_order.ok lf) (tC (surveyorref01_cut.ok lf) (tC (surveyorref01_digits.ok lf) (tC (surveyorref01_short.ok lf) (tC (surveyorref01_Whole.ok lf) (tC (surveyorref01_number.ok lf) (tC (surveyorref01_made.ok lf) (tC (surveyorref01_plus.ok lf) (tC (surveyorref01_minus.ok lf) tN)))))))))) aoN fun x => by kernel_rfl
end surveyorref01_Sum
namespace surveyorref01_Negated
def f (lf : Nat) (a0 : ByteArray) : Option (ByteArray × Unit) :=
 br (a0.toList == (⟨#[48]⟩ : ByteArray).toList) (
 some (a0, ())) (
 bd (surveyorref01_Negative.f lf a0) fun r1 =>
 br r1.1 (
 bd (sCut a0 (some 1) none) fun r2 =>
 some (r2, ())) (
 bd (sCat (⟨#[45]⟩ : ByteArray) a0) fun r3 =>
 some (r3, ())))
def E (lf : Nat) : Entry := ⟨[.str], [.str], fun x => f lf x.1⟩
theorem ok (lf : Nat) : Ok 172 (E lf) := okT (an := (annsL [])) (lf := lf) (tC (surveyorref01_Negative.ok lf) tN) aoN fun x => by kernel_rfl
end surveyorref01_Negated
namespace surveyorref01_Diff
def f (lf : Nat) (a0 : ByteArray) (a1 : ByteArray) : Option (ByteArray × Unit) :=
 bd (surveyorref01_Negated.f lf a1) fun r1 =>
 bd (surveyorref01_Sum.f lf a0 r1.1) fun r2 =>
 some (r2.1, ())
def E (lf : Nat) : Entry := ⟨[.str, .str], [.str], fun x => f lf x.1 x.2.1⟩
theorem ok (lf : Nat) : Ok 157 (E lf) := okT (an := (annsL [])) (lf := lf) (tC (surveyorref01_Sum.ok lf) (tC (surveyorref01_Negated.ok lf) tN)) aoN fun x => by kernel_rfl
end surveyorref01_Diff
end
end Go.Q
namespace Go.Q
open Go.IntKind (i64)
open Go Go.RowKit
open Go.Rx (br bd sIdx sCat sCut iQuo iRem iShl)
noncomputable section
namespace surveyorref01_times
def anns : FuncId → FA := annsL [(301, ⟨annOf [(0, ⟨kx 63 [0, 1, 5, 6], [], []⟩, ⟨kx 63 [4, 5], [], []⟩), (1, ⟨kx 63 [0, 1, 5, 6, 7, 8], [], []⟩, ⟨kx 63 [0, 1, 4, 5, 6, 7], [], []⟩)], none, []⟩)]
def r1 {ρ : Type} (lf : Nat) (v0 v1 : List Int) (v2 : Int) (v3 v4 : Int) (v5 : List Int) (K : Int → Int → (List Int) → Option ρ) (E0 : Int → (List Int) → Option ρ) : Option ρ :=
 br (decide (v4 < ((v1.length : Nat) : Int))) (
 bd (idxB v5.length (i64.wrap (v2 + v4))) fun j2 =>
 bd (v5[j2]?) fun y3 =>
 bd (idxL v0 v2) fun y4 =>
 bd (idxL v1 v4) fun y5 =>
 bd (iRem (i64.wrap (v3 + (i64.wrap (y3 + (i64.wrap (y4 * y5)))))) 10) fun r6 =>
 bd (idxB v5.length (i64.wrap (v2 + v4))) fun j7 =>
 bd (upE v5 j7 fun _ => some r6) fun q8 =>
 bd (iQuo .i64 (i64.wrap (v3 + (i64.wrap (y3 + (i64.wrap (y4 * y5)))))) 10) fun r10 =>
 K r10 (i64.wrap (v4 + 1)) q8) (
 E0 v3 v5)
def l1 (lf : Nat) (v0 v1 : List Int) (v2 : Int) : Nat → Int → Int → (List Int) → Option ((Int × (List Int) × Unit) × Unit)
 | 0, _, _, _ => none
 | n + 1, v3, v4, v5 => r1 lf v0 v1 v2 v3 v4 v5 (l1 lf v0 v1 v2 n) (fun w0 w1 => some ((w0, w1, ()), ()))
def sh1 : ShS := ⟨[.s (.sl (.int .i64)), .s (.sl (.int .i64)), .a 3, .s (.row 0), .s (.int .i64), .s (.int .i64), .s (.int .i64), .a 54], [.row (.int .i64) 3 false]⟩
def S1 (p : (List Int) × (List Int) × Int × Int × Int × (List Int) × Unit) : St := sh1.b p
def xh0 : ShS := ⟨[.s (.sl (.int .i64)), .s (.sl (.int .i64)), .a 3, .s (.row 0), .s (.int .i64), .s (.int .i64), .a 55], [.row (.int .i64) 3 false]⟩
def o1 (v0 v1 : List Int) (v2 : Int) (y : (Int × (List Int) × Unit) × Unit) : Alt := .one (.exit 2) (xh0.b (v0, v1, v2, y.1.1, y.1.2.1, ()))
def r0 {ρ : Type} (lf : Nat) (v0 v1 : List Int) (v2 : Int) (v3 : List Int) (K : Int → (List Int) → Option ρ) (E0 : (List Int) → Option ρ) : Option ρ :=
 br (decide (v2 < ((v0.length : Nat) : Int))) (
 bd (l1 lf v0 v1 v2 (lf + 40) 0 0 v3) fun z11 =>
 bd (idxB z11.1.2.1.length (i64.wrap (v2 + ((v1.length : Nat) : Int)))) fun j12 =>
 bd (upE z11.1.2.1 j12 fun _ => some z11.1.1) fun q13 =>
 K (i64.wrap (v2 + 1)) q13) (
 E0 v3)
def l0 (lf : Nat) (v0 v1 : List Int) : Nat → Int → (List Int) → Option (((List Int) × Unit) × Unit)
 | 0, _, _ => none
 | n + 1, v2, v3 => r0 lf v0 v1 v2 v3 (l0 lf v0 v1 n) (fun w0 => some ((w0, ()), ()))
def sh0 : ShS := ⟨[.s (.sl (.int .i64)), .s (.sl (.int .i64)), .a 3, .s (.row 0), .s (.int .i64), .a 56], [.row (.int .i64) 3 false]⟩
def S0 (p : (List Int) × (List Int) × Int × (List Int) × Unit) : St := sh0.b p
def xh1 : ShS := ⟨[.a 5, .s (.row 0), .a 57], [.row (.int .i64) 3 false]⟩
def o0 (v0 v1 : List Int) (y : ((List Int) × Unit) × Unit) : Alt := .one (.exit 0) (xh1.b (y.1.1, ()))
def tb (lf : Nat) : List (FuncId × Entry) := [(245, surveyorref01_cut.E lf)]
def s13_301 (lf : Nat) : List (Nat × (St → Option LTE)) := [(0, sumE sh0 fun (p : (List Int) × (List Int) × Int × (List Int) × Unit) => ⟨((List Int) × Unit) × Unit, l0 lf p.1 p.2.1 (lf + 40) p.2.2.1 p.2.2.2.1, o0 p.1 p.2.1⟩),
 (1, sumE sh1 fun (p : (List Int) × (List Int) × Int × Int × Int × (List Int) × Unit) => ⟨(Int × (List Int) × Unit) × Unit, l1 lf p.1 p.2.1 p.2.2.1 (lf + 40) p.2.2.2.1 p.2.2.2.2.1 p.2.2.2.2.2.1, o1 p.1 p.2.1 p.2.2.1⟩)]
def ls (lf : Nat) : List (Nat × FuncId × Sums) := [(13, 301, sumsL (s13_301 lf))]
def it1 {ρ : Type} (lf n : Nat) (st : St) (k : KE ρ) : Option ρ := itG anns (ls lf) (tb lf) lf 13 301 1 1 (sumsL (s13_301 lf)) n st k
theorem t1 {ρ : Type} (lf n : Nat) (v0 v1 : List Int) (v2 v3 v4 : Int) (v5 : List Int) (k : KE ρ) : it1 lf (n + 1) (S1 (v0, v1, v2, v3, v4, v5, ())) k = r1 lf v0 v1 v2 v3 v4 v5 (fun x0 x1 x2 => it1 lf n (S1 (v0, v1, v2, x0, x1, x2, ())) k) (fun w0 w1 => k (.exit 2) (xh0.b (v0, v1, v2, w0, w1, ()))) := by kernel_rfl
theorem u1 {ρ : Type} (lf : Nat) (v0 v1 : List Int) (v2 : Int) (k : KE ρ) : ∀ (n : Nat) (v3 v4 : Int) (v5 : List Int), it1 lf n (S1 (v0, v1, v2, v3, v4, v5, ())) k = bd (l1 lf v0 v1 v2 n v3 v4 v5) fun y => altK k (o1 v0 v1 v2 y)
 | 0, _, _, _ => by rw [l1, bd_none]; rfl
 | n + 1, v3, v4, v5 => by
  rw [t1]; simp only [l1, r1, u1 lf v0 v1 v2 k n, bd_br, bd_bd, bd_some', bd_none, br_t, br_f, o1, altK]
def it0 {ρ : Type} (lf n : Nat) (st : St) (k : KE ρ) : Option ρ := itG anns (ls lf) (tb lf) lf 13 301 0 1 (sumsL (s13_301 lf)) n st k
theorem t0 {ρ : Type} (lf n : Nat) (v0 v1 : List Int) (v2 : Int) (v3 : List Int) (k : KE ρ) : it0 lf (n + 1) (S0 (v0, v1, v2, v3, ())) k = r0 lf v0 v1 v2 v3 (fun x0 x1 => it0 lf n (S0 (v0, v1, x0, x1, ())) k) (fun w0 => k (.exit 0) (xh1.b (w0, ()))) := by kernel_rfl
theorem u0 {ρ : Type} (lf : Nat) (v0 v1 : List Int) (k : KE ρ) : ∀ (n : Nat) (v2 : Int) (v3 : List Int), it0 lf n (S0 (v0, v1, v2, v3, ())) k = bd (l0 lf v0 v1 n v2 v3) fun y => altK k (o0 v0 v1 y)
 | 0, _, _ => by rw [l0, bd_none]; rfl
 | n + 1, v2, v3 => by
  rw [t0]; simp only [l0, r0, u0 lf v0 v1 k n, bd_br, bd_bd, bd_some', bd_none, br_t, br_f, o0, altK]
theorem sl (lf : Nat) : SL anns (ls lf) (tb lf) lf (ls lf) := slC (laC (fun _ => by kernel_rfl) (fun _ (x : (List Int) × (List Int) × Int × (List Int) × Unit) k => leq_of (u0 lf x.1 x.2.1 k (lf + 40) x.2.2.1 x.2.2.2.1)) (laC (fun _ => by kernel_rfl) (fun _ (x : (List Int) × (List Int) × Int × Int × Int × (List Int) × Unit) k => leq_of (u1 lf x.1 x.2.1 x.2.2.1 k (lf + 40) x.2.2.2.1 x.2.2.2.2.1 x.2.2.2.2.2.1)) laN)) slN
def f (lf : Nat) (a0 : List Int) (a1 : List Int) : Option ((List Int) × Unit) :=
 bd (mkL (i64.wrap (((a0.length : Nat) : Int) + ((a1.length : Nat) : Int))) (i64.wrap (((a0.length : Nat) : Int) + ((a1.length : Nat) : Int))) 8 0) fun q1 =>
 bd (l0 lf a0 a1 (lf + 40) 0 q1) fun z15 =>
 bd (surveyorref01_cut.f lf z15.1.1) fun r16 =>
 some (r16.1, ())
def E (lf : Nat) : Entry := ⟨[(.sl (.int .i64)), (.sl (.int .i64))], [(.sl (.int .i64))], fun x => f lf x.1 x.2.1⟩
theorem ok (lf : Nat) : Ok 301 (E lf) := okL (tC (surveyorref01_cut.ok lf) tN) (aoC aoN) (sl lf) fun x => by kernel_rfl
end surveyorref01_times
namespace surveyorref01_Product
def f (lf : Nat) (a0 : ByteArray) (a1 : ByteArray) : Option (ByteArray × Unit) :=
 bd (surveyorref01_Digits.f lf a0) fun r1 =>
 bd (surveyorref01_Digits.f lf a1) fun r2 =>
 br (decide ((i64.wrap (r1.1 + r2.1)) ≤ 18)) (
 bd (surveyorref01_number.f lf a0) fun r3 =>
 bd (surveyorref01_number.f lf a1) fun r4 =>
 bd (surveyorref01_Whole.f lf (i64.wrap (r3.1 * r4.1))) fun r5 =>
 some (r5.1, ())) (
 bd (surveyorref01_digits.f lf a0) fun r6 =>
 bd (surveyorref01_digits.f lf a1) fun r7 =>
 bd (surveyorref01_times.f lf r6.1 r7.1) fun r8 =>
 bd (surveyorref01_Negative.f lf a0) fun r9 =>
 bd (surveyorref01_Negative.f lf a1) fun r10 =>
 bd (surveyorref01_made.f lf r8.1 (r9.1 != r10.1)) fun r11 =>
 some (r11.1, ()))
def E (lf : Nat) : Entry := ⟨[.str, .str], [.str], fun x => f lf x.1 x.2.1⟩
theorem ok (lf : Nat) : Ok 233 (E lf) := okT (an := (annsL [])) (lf := lf) (tC (surveyorref01_Digits.ok lf) (tC (surveyorref01_Negative.ok lf) (tC (surveyorref01_digits.ok lf) (tC (surveyorref01_Whole.ok lf) (tC (surveyorref01_number.ok lf) (tC (surveyorref01_made.ok lf) (tC (surveyorref01_times.ok lf) tN))))))) aoN fun x => by kernel_rfl
end surveyorref01_Product
namespace surveyorref01_floor
def f (lf : Nat) (a0 : Int) (a1 : Int) : Option (Int × Unit) :=
 bd (iQuo .i64 a0 a1) fun r1 =>
 bd (iRem a0 a1) fun r2 =>
 br (r2 != 0) (
 br ((decide (a0 < 0)) != (decide (a1 < 0))) (
 some ((i64.wrap (r1 - 1)), ())) (
 some (r1, ()))) (
 some (r1, ()))
def E (lf : Nat) : Entry := ⟨[(.int .i64), (.int .i64)], [(.int .i64)], fun x => f lf x.1 x.2.1⟩
theorem ok (lf : Nat) : Ok 302 (E lf) := okT (an := (annsL [])) (lf := lf) tN aoN fun x => by kernel_rfl
end surveyorref01_floor
namespace surveyorref01_split
def anns : FuncId → FA := annsL [(303, ⟨annOf [(0, ⟨kx 56 [0, 1, 7, 8, 9], [], []⟩, ⟨kx 56 [4, 5, 7, 8], [], []⟩), (1, ⟨kx 56 [0, 1, 7, 8, 9], [], []⟩, ⟨kx 56 [0, 1, 4, 5, 7, 8, 9], [], []⟩)], none, []⟩)]
def r1 {ρ : Type} (lf : Nat) (v0 v1 : List Int) (v3 : Int) (v5 v6 : List Int) (v2 v4 : List Int) (K : (List Int) → (List Int) → Option ρ) (E0 : (List Int) → (List Int) → Option ρ) : Option ρ :=
 bd (surveyorref01_order.f lf v2 v1) fun r7 =>
 br (decide (r7.1 ≥ 0)) (
 bd (surveyorref01_minus.f lf v2 v1) fun r8 =>
 bd (idxB v4.length v3) fun j9 =>
 bd (v4[j9]?) fun y10 =>
 bd (idxB v4.length v3) fun j11 =>
 bd (upE v4 j11 fun _ => some (i64.wrap (y10 + 1))) fun q12 =>
 K r8.1 q12) (
 E0 v2 v4)
def l1 (lf : Nat) (v0 v1 : List Int) (v3 : Int) (v5 v6 : List Int) : Nat → (List Int) → (List Int) → Option (((List Int) × (List Int) × Unit) × Unit)
 | 0, _, _ => none
 | n + 1, v2, v4 => r1 lf v0 v1 v3 v5 v6 v2 v4 (l1 lf v0 v1 v3 v5 v6 n) (fun w0 w1 => some ((w0, w1, ()), ()))
def sh1 : ShS := ⟨[.s (.sl (.int .i64)), .s (.sl (.int .i64)), .a 5, .s (.row 0), .s (.sl (.int .i64)), .s (.int .i64), .a 46], [.row (.int .i64) 3 false, .gone, .row (.int .i64) 3 false, .gone, .row (.int .i64) 3 true]⟩
def S1 (p : (List Int) × (List Int) × (List Int) × Int × (List Int) × (List Int) × (List Int) × Unit) : St := sh1.b p
def xh0 : ShS := ⟨[.s (.sl (.int .i64)), .s (.sl (.int .i64)), .a 5, .s (.row 0), .s (.sl (.int .i64)), .s (.int .i64), .a 46], [.row (.int .i64) 3 false, .gone, .row (.int .i64) 3 false, .gone, .row (.int .i64) 3 true]⟩
def o1 (v0 v1 : List Int) (v3 : Int) (v5 v6 : List Int) (y : ((List Int) × (List Int) × Unit) × Unit) : Alt := .one (.exit 2) (xh0.b (v0, v1, y.1.1, v3, y.1.2.1, v5, v6, ()))
def r2 {ρ : Type} (lf : Nat) (v0 v1 v5 : List Int) (v2 : List Int) (v3 : Int) (v4 : List Int) (K : (List Int) → Int → (List Int) → Option ρ) (E0 : (List Int) → (List Int) → (List Int) → Option ρ) : Option ρ :=
 br (decide (v3 ≥ 0)) (
 bd (idxL v0 v3) fun y15 =>
 bd (apL true 8 [y15] v2) fun q16 =>
 bd (surveyorref01_cut.f lf q16) fun r17 =>
 bd (l1 lf v0 v1 v3 v5 q16 (lf + 40) r17.1 v4) fun z18 =>
 K z18.1.1 (i64.wrap (v3 - 1)) z18.1.2.1) (
 E0 v2 v4 v5)
def l2 (lf : Nat) (v0 v1 v5 : List Int) : Nat → (List Int) → Int → (List Int) → Option (((List Int) × (List Int) × (List Int) × Unit) × Unit)
 | 0, _, _, _ => none
 | n + 1, v2, v3, v4 => r2 lf v0 v1 v5 v2 v3 v4 (l2 lf v0 v1 v5 n) (fun w0 w1 w2 => some ((w0, w1, w2, ()), ()))
def sh2 : ShS := ⟨[.s (.sl (.int .i64)), .s (.sl (.int .i64)), .a 5, .s (.row 0), .s (.sl (.int .i64)), .s (.int .i64), .a 46], [.row (.int .i64) 3 false, .gone, .row (.int .i64) 3 false]⟩
def S2 (p : (List Int) × (List Int) × (List Int) × Int × (List Int) × (List Int) × Unit) : St := sh2.b p
def xh1 : ShS := ⟨[.a 7, .s (.row 0), .s (.sl (.int .i64)), .a 47], [.row (.int .i64) 3 false, .gone, .row (.int .i64) 3 false]⟩
def o2 (v0 v1 v5 : List Int) (y : ((List Int) × (List Int) × (List Int) × Unit) × Unit) : Alt := .one (.exit 0) (xh1.b (y.1.1, y.1.2.1, y.1.2.2.1, ()))
def r0 {ρ : Type} (lf : Nat) (v0 v1 : List Int) (v2 : Int) (v3 v4 : List Int) (K2 : (List Int) → (List Int) → (List Int) → Int → (List Int) → (List Int) → Option ρ) (E0 : (List Int) → (List Int) → Option ρ) : Option ρ :=
 br (decide (v2 ≥ 0)) (
 bd (idxL v0 v2) fun y4 =>
 bd (apL true 8 [y4] v4) fun q5 =>
 bd (surveyorref01_cut.f lf q5) fun r6 =>
 bd (l1 lf v0 v1 v2 v4 q5 (lf + 40) r6.1 v3) fun z14 =>
 K2 v0 v1 z14.1.1 (i64.wrap (v2 - 1)) z14.1.2.1 v4) (
 E0 v3 v4)
def l0 (lf : Nat) (v0 v1 : List Int) (v2 : Int) (v3 v4 : List Int) : Nat → Option (Bool × ((List Int) × (List Int) × Unit) × ((List Int) × (List Int) × (List Int) × Unit) × Unit)
 | 0 => none
 | n + 1 => r0 lf v0 v1 v2 v3 v4 (fun x0 x1 x2 x3 x4 x5 => bd (l2 lf x0 x1 x5 n x2 x3 x4) fun z19 => some (false, ([], [], ()), ((z19.1.1, z19.1.2.1, z19.1.2.2.1, ()), ()))) (fun w0 w1 => some (true, (w0, w1, ()), (([], [], [], ()), ())))
def sh0 : ShS := ⟨[.s (.sl (.int .i64)), .s (.sl (.int .i64)), .a 5, .s (.row 0), .s (.row 2), .s (.int .i64), .a 46], [.row (.int .i64) 3 false, .gone, .row (.int .i64) 3 false]⟩
def S0 (p : (List Int) × (List Int) × Int × (List Int) × (List Int) × Unit) : St := sh0.b p
def xh2 : ShS := ⟨[.a 7, .s (.row 0), .s (.row 2), .a 47], [.row (.int .i64) 3 false, .gone, .row (.int .i64) 3 false]⟩
def o0 (v0 v1 : List Int) (v2 : Int) (v3 v4 : List Int) (y : Bool × ((List Int) × (List Int) × Unit) × ((List Int) × (List Int) × (List Int) × Unit) × Unit) : Alt := .two y.1 (.one (.exit 0) (xh2.b (y.2.1.1, y.2.1.2.1, ()))) (.one (.exit 0) (xh1.b (y.2.2.1.1, y.2.2.1.2.1, y.2.2.1.2.2.1, ())))
def tb (lf : Nat) : List (FuncId × Entry) := [(244, surveyorref01_order.E lf), (245, surveyorref01_cut.E lf), (252, surveyorref01_minus.E lf)]
def s13_303 (lf : Nat) : List (Nat × (St → Option LTE)) := [(0, sumE sh2 fun (p : (List Int) × (List Int) × (List Int) × Int × (List Int) × (List Int) × Unit) => ⟨((List Int) × (List Int) × (List Int) × Unit) × Unit, l2 lf p.1 p.2.1 p.2.2.2.2.2.1 (lf + 40) p.2.2.1 p.2.2.2.1 p.2.2.2.2.1, o2 p.1 p.2.1 p.2.2.2.2.2.1⟩),
 (0, sumE sh0 fun (p : (List Int) × (List Int) × Int × (List Int) × (List Int) × Unit) => ⟨Bool × ((List Int) × (List Int) × Unit) × ((List Int) × (List Int) × (List Int) × Unit) × Unit, l0 lf p.1 p.2.1 p.2.2.1 p.2.2.2.1 p.2.2.2.2.1 (lf + 40), o0 p.1 p.2.1 p.2.2.1 p.2.2.2.1 p.2.2.2.2.1⟩),
 (1, sumE sh1 fun (p : (List Int) × (List Int) × (List Int) × Int × (List Int) × (List Int) × (List Int) × Unit) => ⟨((List Int) × (List Int) × Unit) × Unit, l1 lf p.1 p.2.1 p.2.2.2.1 p.2.2.2.2.2.1 p.2.2.2.2.2.2.1 (lf + 40) p.2.2.1 p.2.2.2.2.1, o1 p.1 p.2.1 p.2.2.2.1 p.2.2.2.2.2.1 p.2.2.2.2.2.2.1⟩)]
def ls (lf : Nat) : List (Nat × FuncId × Sums) := [(13, 303, sumsL (s13_303 lf))]
def it1 {ρ : Type} (lf n : Nat) (st : St) (k : KE ρ) : Option ρ := itG anns (ls lf) (tb lf) lf 13 303 1 5 (sumsL (s13_303 lf)) n st k
theorem t1 {ρ : Type} (lf n : Nat) (v0 v1 v2 : List Int) (v3 : Int) (v4 v5 v6 : List Int) (k : KE ρ) : it1 lf (n + 1) (S1 (v0, v1, v2, v3, v4, v5, v6, ())) k = r1 lf v0 v1 v3 v5 v6 v2 v4 (fun x0 x1 => it1 lf n (S1 (v0, v1, x0, v3, x1, v5, v6, ())) k) (fun w0 w1 => k (.exit 2) (xh0.b (v0, v1, w0, v3, w1, v5, v6, ()))) := by kernel_rfl
theorem u1 {ρ : Type} (lf : Nat) (v0 v1 : List Int) (v3 : Int) (v5 v6 : List Int) (k : KE ρ) : ∀ (n : Nat) (v2 v4 : List Int), it1 lf n (S1 (v0, v1, v2, v3, v4, v5, v6, ())) k = bd (l1 lf v0 v1 v3 v5 v6 n v2 v4) fun y => altK k (o1 v0 v1 v3 v5 v6 y)
 | 0, _, _ => by rw [l1, bd_none]; rfl
 | n + 1, v2, v4 => by
  rw [t1]; simp only [l1, r1, u1 lf v0 v1 v3 v5 v6 k n, bd_br, bd_bd, bd_some', bd_none, br_t, br_f, o1, altK]
def it2 {ρ : Type} (lf n : Nat) (st : St) (k : KE ρ) : Option ρ := itG anns (ls lf) (tb lf) lf 13 303 0 3 (sumsL (s13_303 lf)) n st k
theorem t2 {ρ : Type} (lf n : Nat) (v0 v1 v2 : List Int) (v3 : Int) (v4 v5 : List Int) (k : KE ρ) : it2 lf (n + 1) (S2 (v0, v1, v2, v3, v4, v5, ())) k = r2 lf v0 v1 v5 v2 v3 v4 (fun x0 x1 x2 => it2 lf n (S2 (v0, v1, x0, x1, x2, v5, ())) k) (fun w0 w1 w2 => k (.exit 0) (xh1.b (w0, w1, w2, ()))) := by kernel_rfl
theorem u2 {ρ : Type} (lf : Nat) (v0 v1 v5 : List Int) (k : KE ρ) : ∀ (n : Nat) (v2 : List Int) (v3 : Int) (v4 : List Int), it2 lf n (S2 (v0, v1, v2, v3, v4, v5, ())) k = bd (l2 lf v0 v1 v5 n v2 v3 v4) fun y => altK k (o2 v0 v1 v5 y)
 | 0, _, _, _ => by rw [l2, bd_none]; rfl
 | n + 1, v2, v3, v4 => by
  rw [t2]; simp only [l2, r2, u2 lf v0 v1 v5 k n, bd_br, bd_bd, bd_some', bd_none, br_t, br_f, o2, altK]
def it0 {ρ : Type} (lf n : Nat) (st : St) (k : KE ρ) : Option ρ := itG anns (ls lf) (tb lf) lf 13 303 0 3 (sumsL (s13_303 lf)) n st k
theorem t0 {ρ : Type} (lf n : Nat) (v0 v1 : List Int) (v2 : Int) (v3 v4 : List Int) (k : KE ρ) : it0 lf (n + 1) (S0 (v0, v1, v2, v3, v4, ())) k = r0 lf v0 v1 v2 v3 v4 (fun x0 x1 x2 x3 x4 x5 => it2 lf n (S2 (x0, x1, x2, x3, x4, x5, ())) k) (fun w0 w1 => k (.exit 0) (xh2.b (w0, w1, ()))) := by kernel_rfl
theorem u0 {ρ : Type} (lf : Nat) (v0 v1 : List Int) (v2 : Int) (v3 v4 : List Int) (k : KE ρ) : ∀ (n : Nat), it0 lf n (S0 (v0, v1, v2, v3, v4, ())) k = bd (l0 lf v0 v1 v2 v3 v4 n) fun y => altK k (o0 v0 v1 v2 v3 v4 y)
 | 0 => by rw [l0, bd_none]; rfl
 | n + 1 => by
  rw [t0]; simp only [l0, r0, u2, bd_br, bd_bd, bd_some', bd_none, br_t, br_f, o0, o2, altK]
theorem sl (lf : Nat) : SL anns (ls lf) (tb lf) lf (ls lf) := slC (laC (fun _ => by kernel_rfl) (fun _ (x : (List Int) × (List Int) × (List Int) × Int × (List Int) × (List Int) × Unit) k => leq_of (u2 lf x.1 x.2.1 x.2.2.2.2.2.1 k (lf + 40) x.2.2.1 x.2.2.2.1 x.2.2.2.2.1)) (laC (fun _ => by kernel_rfl) (fun _ (x : (List Int) × (List Int) × Int × (List Int) × (List Int) × Unit) k => leq_of (u0 lf x.1 x.2.1 x.2.2.1 x.2.2.2.1 x.2.2.2.2.1 k (lf + 40))) (laC (fun _ => by kernel_rfl) (fun _ (x : (List Int) × (List Int) × (List Int) × Int × (List Int) × (List Int) × (List Int) × Unit) k => leq_of (u1 lf x.1 x.2.1 x.2.2.2.1 x.2.2.2.2.2.1 x.2.2.2.2.2.2.1 k (lf + 40) x.2.2.1 x.2.2.2.2.1)) laN))) slN
def f (lf : Nat) (a0 : List Int) (a1 : List Int) : Option ((List Int) × (List Int) × Unit) :=
 bd (mkL (if (i64.wrap ((i64.wrap (((a0.length : Nat) : Int) - ((a1.length : Nat) : Int))) + 1)) > 0 then (i64.wrap ((i64.wrap (((a0.length : Nat) : Int) - ((a1.length : Nat) : Int))) + 1)) else 0) (if (i64.wrap ((i64.wrap (((a0.length : Nat) : Int) - ((a1.length : Nat) : Int))) + 1)) > 0 then (i64.wrap ((i64.wrap (((a0.length : Nat) : Int) - ((a1.length : Nat) : Int))) + 1)) else 0) 8 0) fun q1 =>
 bd (cutL a0 (some (if (i64.wrap ((i64.wrap (((a0.length : Nat) : Int) - ((a1.length : Nat) : Int))) + 1)) > 0 then (i64.wrap ((i64.wrap (((a0.length : Nat) : Int) - ((a1.length : Nat) : Int))) + 1)) else 0)) none) fun q2 =>
 bd (apL true 8 [] q2) fun q3 =>
 bd (l0 lf a0 a1 (i64.wrap ((if (i64.wrap ((i64.wrap (((a0.length : Nat) : Int) - ((a1.length : Nat) : Int))) + 1)) > 0 then (i64.wrap ((i64.wrap (((a0.length : Nat) : Int) - ((a1.length : Nat) : Int))) + 1)) else 0) - 1)) q1 q3 (lf + 40)) fun z20 =>
 br z20.1 (
 bd (surveyorref01_cut.f lf z20.2.1.1) fun r21 =>
 some (r21.1, z20.2.1.2.1, ())) (
 bd (surveyorref01_cut.f lf z20.2.2.1.2.1) fun r22 =>
 some (r22.1, z20.2.2.1.1, ()))
def E (lf : Nat) : Entry := ⟨[(.sl (.int .i64)), (.sl (.int .i64))], [(.sl (.int .i64)), (.sl (.int .i64))], fun x => f lf x.1 x.2.1⟩
theorem ok (lf : Nat) : Ok 303 (E lf) := okL (tC (surveyorref01_order.ok lf) (tC (surveyorref01_cut.ok lf) (tC (surveyorref01_minus.ok lf) tN))) (aoC aoN) (sl lf) fun x => by kernel_rfl
end surveyorref01_split
end
end Go.Q
namespace Go.Q
open Go Go.RowKit
open Go.Rx (br bd sIdx sCat sCut iQuo iRem iShl)
noncomputable section
namespace surveyorref01_Floor
def f (lf : Nat) (a0 : ByteArray) (a1 : ByteArray) : Option (ByteArray × Unit) :=
 bd (surveyorref01_short.f lf a0 17) fun r1 =>
 br r1.1 (
 bd (surveyorref01_short.f lf a1 17) fun r2 =>
 br r2.1 (
 bd (surveyorref01_number.f lf a0) fun r3 =>
 bd (surveyorref01_number.f lf a1) fun r4 =>
 bd (surveyorref01_floor.f lf r3.1 r4.1) fun r5 =>
 bd (surveyorref01_Whole.f lf r5.1) fun r6 =>
 some (r6.1, ())) (
 bd (surveyorref01_digits.f lf a0) fun r7 =>
 bd (surveyorref01_cut.f lf r7.1) fun r8 =>
 bd (surveyorref01_digits.f lf a1) fun r9 =>
 bd (surveyorref01_cut.f lf r9.1) fun r10 =>
 bd (surveyorref01_split.f lf r8.1 r10.1) fun r11 =>
 bd (surveyorref01_Negative.f lf a0) fun r12 =>
 bd (surveyorref01_Negative.f lf a1) fun r13 =>
 bd (surveyorref01_made.f lf r11.1 (r12.1 != r13.1)) fun r14 =>
 bd (surveyorref01_Negative.f lf a0) fun r15 =>
 bd (surveyorref01_Negative.f lf a1) fun r16 =>
 br (r15.1 != r16.1) (
 br (decide (((r11.2.1.length : Nat) : Int) > 0)) (
 bd (surveyorref01_Diff.f lf r14.1 (⟨#[49]⟩ : ByteArray)) fun r17 =>
 some (r17.1, ())) (
 some (r14.1, ()))) (
 some (r14.1, ())))) (
 bd (surveyorref01_digits.f lf a0) fun r18 =>
 bd (surveyorref01_cut.f lf r18.1) fun r19 =>
 bd (surveyorref01_digits.f lf a1) fun r20 =>
 bd (surveyorref01_cut.f lf r20.1) fun r21 =>
 bd (surveyorref01_split.f lf r19.1 r21.1) fun r22 =>
 bd (surveyorref01_Negative.f lf a0) fun r23 =>
 bd (surveyorref01_Negative.f lf a1) fun r24 =>
 bd (surveyorref01_made.f lf r22.1 (r23.1 != r24.1)) fun r25 =>
 bd (surveyorref01_Negative.f lf a0) fun r26 =>
 bd (surveyorref01_Negative.f lf a1) fun r27 =>
 br (r26.1 != r27.1) (
 br (decide (((r22.2.1.length : Nat) : Int) > 0)) (
 bd (surveyorref01_Diff.f lf r25.1 (⟨#[49]⟩ : ByteArray)) fun r28 =>
 some (r28.1, ())) (
 some (r25.1, ()))) (
 some (r25.1, ())))
def E (lf : Nat) : Entry := ⟨[.str, .str], [.str], fun x => f lf x.1 x.2.1⟩
theorem ok (lf : Nat) : Ok 234 (E lf) := okT (an := (annsL [])) (lf := lf) (tC (surveyorref01_Negative.ok lf) (tC (surveyorref01_Diff.ok lf) (tC (surveyorref01_cut.ok lf) (tC (surveyorref01_digits.ok lf) (tC (surveyorref01_short.ok lf) (tC (surveyorref01_Whole.ok lf) (tC (surveyorref01_number.ok lf) (tC (surveyorref01_made.ok lf) (tC (surveyorref01_floor.ok lf) (tC (surveyorref01_split.ok lf) tN)))))))))) aoN fun x => by kernel_rfl
end surveyorref01_Floor
namespace surveyorref01_Rest
def f (lf : Nat) (a0 : ByteArray) (a1 : ByteArray) : Option (ByteArray × Unit) :=
 bd (surveyorref01_Floor.f lf a0 a1) fun r1 =>
 bd (surveyorref01_Product.f lf a1 r1.1) fun r2 =>
 bd (surveyorref01_Diff.f lf a0 r2.1) fun r3 =>
 some (r3.1, ())
def E (lf : Nat) : Entry := ⟨[.str, .str], [.str], fun x => f lf x.1 x.2.1⟩
theorem ok (lf : Nat) : Ok 162 (E lf) := okT (an := (annsL [])) (lf := lf) (tC (surveyorref01_Diff.ok lf) (tC (surveyorref01_Product.ok lf) (tC (surveyorref01_Floor.ok lf) tN))) aoN fun x => by kernel_rfl
end surveyorref01_Rest
end
end Go.Q
namespace Go.Q
open Go Go.RowKit
open Go.Rx (br bd sIdx sCat sCut iQuo iRem iShl)
noncomputable section
namespace bits_Mul64
def f (lf : Nat) (a0 : Int) (a1 : Int) : Option (Int × Int × Unit) :=
 some ((IntKind.u64.wrap ((IntKind.u64.wrap ((IntKind.u64.wrap ((a0.fdiv (2 ^ 32)) * (a1.fdiv (2 ^ 32)))) + ((IntKind.u64.wrap ((IntKind.u64.wrap ((a0.fdiv (2 ^ 32)) * (IntKind.u64.wrap ((BitVec.ofInt IntKind.u64.bits a1 &&& BitVec.ofInt IntKind.u64.bits 4294967295).toNat)))) + ((IntKind.u64.wrap ((IntKind.u64.wrap ((BitVec.ofInt IntKind.u64.bits a0 &&& BitVec.ofInt IntKind.u64.bits 4294967295).toNat)) * (IntKind.u64.wrap ((BitVec.ofInt IntKind.u64.bits a1 &&& BitVec.ofInt IntKind.u64.bits 4294967295).toNat)))).fdiv (2 ^ 32)))).fdiv (2 ^ 32)))) + ((IntKind.u64.wrap ((IntKind.u64.wrap ((BitVec.ofInt IntKind.u64.bits (IntKind.u64.wrap ((IntKind.u64.wrap ((a0.fdiv (2 ^ 32)) * (IntKind.u64.wrap ((BitVec.ofInt IntKind.u64.bits a1 &&& BitVec.ofInt IntKind.u64.bits 4294967295).toNat)))) + ((IntKind.u64.wrap ((IntKind.u64.wrap ((BitVec.ofInt IntKind.u64.bits a0 &&& BitVec.ofInt IntKind.u64.bits 4294967295).toNat)) * (IntKind.u64.wrap ((BitVec.ofInt IntKind.u64.bits a1 &&& BitVec.ofInt IntKind.u64.bits 4294967295).toNat)))).fdiv (2 ^ 32)))) &&& BitVec.ofInt IntKind.u64.bits 4294967295).toNat)) + (IntKind.u64.wrap ((IntKind.u64.wrap ((BitVec.ofInt IntKind.u64.bits a0 &&& BitVec.ofInt IntKind.u64.bits 4294967295).toNat)) * (a1.fdiv (2 ^ 32)))))).fdiv (2 ^ 32)))), (IntKind.u64.wrap (a0 * a1)), ())
def E (lf : Nat) : Entry := ⟨[(.int .u64), (.int .u64)], [(.int .u64), (.int .u64)], fun x => f lf x.1 x.2.1⟩
theorem ok (lf : Nat) : Ok 159 (E lf) := okT (an := (annsL [])) (lf := lf) tN aoN fun x => by kernel_rfl
end bits_Mul64
namespace bits_Mul
def f (lf : Nat) (a0 : Int) (a1 : Int) : Option (Int × Int × Unit) :=
 bd (bits_Mul64.f lf a0 a1) fun r1 =>
 some (r1.1, r1.2.1, ())
def E (lf : Nat) : Entry := ⟨[(.int .u64), (.int .u64)], [(.int .u64), (.int .u64)], fun x => f lf x.1 x.2.1⟩
theorem ok (lf : Nat) : Ok 100 (E lf) := okT (an := (annsL [])) (lf := lf) (tC (bits_Mul64.ok lf) tN) aoN fun x => by kernel_rfl
end bits_Mul
end
end Go.Q
namespace Go.Q
open Go.IntKind (i64)
open Go Go.RowKit
open Go.Rx (br bd sIdx sCat sCut iQuo iRem iShl)
noncomputable section
namespace api_Int
def f (lf : Nat) (a0 : ByteArray) (a1 : Int) : Option (ByteArray × Unit) :=
 some (a0, ())
def E (lf : Nat) : Entry := ⟨[.str, (.int .i64)], [.str], fun x => f lf x.1 x.2.1⟩
theorem ok (lf : Nat) : Ok 95 (E lf) := okT (an := (annsL [])) (lf := lf) tN aoN fun x => by kernel_rfl
end api_Int
namespace api_ValueR
def anns : FuncId → FA := annsL [(63, ⟨annOf [(0, ⟨kx 48 [7, 8], [], []⟩, ⟨kx 48 [4, 7], [], []⟩)], none, []⟩)]
def r0 {ρ : Type} (lf : Nat) (v0 : Int) (v1 : List TV) (K : Int → (List TV) → Option ρ) (E0 : (List TV) → Option ρ) : Option ρ :=
 br (decide (v0 < ((v1.length : Nat) : Int))) (
 bd (cutB v1.length (some v0) none) fun p4 =>
 bd (cutB v1.length none (some v0)) fun p5 =>
 bd (cpL (decide (0 + p5.2 ≤ v1.length)) (0 + p4.1) p4.2 v1 ((v1.drop 0).take p5.2)) fun r6 =>
 K (i64.wrap (v0 + ((r6.1 : Nat) : Int))) r6.2) (
 E0 v1)
def l0 (lf : Nat) : Nat → Int → (List TV) → Option (((List TV) × Unit) × Unit)
 | 0, _, _ => none
 | n + 1, v0, v1 => r0 lf v0 v1 (l0 lf n) (fun w0 => some ((w0, ()), ()))
def sh0 : ShS := ⟨[.a 7, .s (.row 0), .s (.int .i64), .a 39], [.row yV 47 false]⟩
def S0 (p : Int × (List TV) × Unit) : St := sh0.b p
def xh0 : ShS := ⟨[.a 7, .s (.row 0), .a 40], [.row yV 47 false]⟩
def o0 (y : ((List TV) × Unit) × Unit) : Alt := .one (.exit 0) (xh0.b (y.1.1, ()))
def tb (lf : Nat) : List (FuncId × Entry) := [(100, bits_Mul.E lf)]
def s13_63 (lf : Nat) : List (Nat × (St → Option LTE)) := [(0, sumE sh0 fun (p : Int × (List TV) × Unit) => ⟨((List TV) × Unit) × Unit, l0 lf (lf + 40) p.1 p.2.1, o0⟩)]
def ls (lf : Nat) : List (Nat × FuncId × Sums) := [(13, 63, sumsL (s13_63 lf))]
def it0 {ρ : Type} (lf n : Nat) (st : St) (k : KE ρ) : Option ρ := itG anns (ls lf) (tb lf) lf 13 63 0 1 (sumsL (s13_63 lf)) n st k
theorem t0 {ρ : Type} (lf n : Nat) (v0 : Int) (v1 : List TV) (k : KE ρ) : it0 lf (n + 1) (S0 (v0, v1, ())) k = r0 lf v0 v1 (fun x0 x1 => it0 lf n (S0 (x0, x1, ())) k) (fun w0 => k (.exit 0) (xh0.b (w0, ()))) := by kernel_rfl
theorem u0 {ρ : Type} (lf : Nat) (k : KE ρ) : ∀ (n : Nat) (v0 : Int) (v1 : List TV), it0 lf n (S0 (v0, v1, ())) k = bd (l0 lf n v0 v1) fun y => altK k (o0 y)
 | 0, _, _ => by rw [l0, bd_none]; rfl
 | n + 1, v0, v1 => by
  rw [t0]; simp only [l0, r0, u0 lf k n, bd_br, bd_bd, bd_some', bd_none, br_t, br_f, o0, altK]
theorem sl (lf : Nat) : SL anns (ls lf) (tb lf) lf (ls lf) := slC (laC (fun _ => by kernel_rfl) (fun _ (x : Int × (List TV) × Unit) k => leq_of (u0 lf k (lf + 40) x.1 x.2.1)) laN) slN
def f (lf : Nat) (a0 : List TV) (a1 : Int) : Option ((List TV) × Unit) :=
 br (decide (a1 < 0)) (
 none) (
 bd (bits_Mul.f lf (IntKind.u64.wrap ((a0.length : Nat) : Int)) (IntKind.u64.wrap a1)) fun r1 =>
 br (decide (r1.1 > 0)) (
 none) (
 br (decide (r1.2.1 > 9223372036854775807)) (
 none) (
 bd (mkL (i64.wrap r1.2.1) (i64.wrap r1.2.1) 80 ((false, (⟨#[]⟩ : ByteArray), (⟨#[]⟩ : ByteArray), ()), (false, (⟨#[]⟩ : ByteArray), (⟨#[]⟩ : ByteArray), ()), ())) fun q2 =>
 bd (cpL true 0 q2.length q2 a0) fun r3 =>
 bd (l0 lf (lf + 40) ((r3.1 : Nat) : Int) r3.2) fun z7 =>
 some (z7.1.1, ()))))
def E (lf : Nat) : Entry := ⟨[(.sl yV), (.int .i64)], [(.sl yV)], fun x => f lf x.1 x.2.1⟩
theorem ok (lf : Nat) : Ok 63 (E lf) := okL (tC (bits_Mul.ok lf) tN) (aoC aoN) (sl lf) fun x => by kernel_rfl
end api_ValueR
namespace api_Value
def f (lf : Nat) (a0 : TV) (a1 : Int) : Option (TV × Unit) :=
 some (a0, ())
def E (lf : Nat) : Entry := ⟨[yV, (.int .i64)], [yV], fun x => f lf x.1 x.2.1⟩
theorem ok (lf : Nat) : Ok 66 (E lf) := okT (an := (annsL [])) (lf := lf) tN aoN fun x => by kernel_rfl
end api_Value
end
end Go.Q
