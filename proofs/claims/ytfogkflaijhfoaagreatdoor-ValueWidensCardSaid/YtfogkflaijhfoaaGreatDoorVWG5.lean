import Derived.Test.YtfogkflaijhfoaaGreatDoorProg
import Derived.KernelRfl
import Derived.Test.YtfogkflaijhfoaaGreatDoorVWE3
import Derived.Test.YtfogkflaijhfoaaGreatDoorVWG4
set_option linter.unusedVariables false
set_option linter.unusedSimpArgs false
set_option linter.unusedSectionVars false
set_option maxRecDepth 100000
namespace Go.Q
open Go.IntKind (i64)
open Go Go.RowKit
open Go.Rx (br bd sIdx sCat sCut iQuo iRem)
noncomputable section
namespace surveyorref21_Few
def f (lf : Nat) (a0 : TI) (a1 : TI) : Option (Bool × Unit) :=
 br (decide (((a0.2.1.size : Nat) : Int) ≤ 450)) (
 br (decide (((a0.2.2.1.size : Nat) : Int) ≤ 450)) (
 br (decide (((a1.2.1.size : Nat) : Int) ≤ 450)) (
 some ((decide (((a1.2.2.1.size : Nat) : Int) ≤ 450)), ())) (
 some (false, ()))) (
 some (false, ()))) (
 some (false, ()))
def E (lf : Nat) : Entry := ⟨[yI, yI], [.bool], fun x => f lf x.1 x.2.1⟩
theorem ok (lf : Nat) : Ok 105 (E lf) := okT (an := (annsL [])) (lf := lf) tN aoN fun x => by kernel_rfl
end surveyorref21_Few
namespace surveyorref21_None
def f (lf : Nat)  : Option (TI × Unit) :=
 some ((true, (⟨#[]⟩ : ByteArray), (⟨#[]⟩ : ByteArray), ()), ())
def E (lf : Nat) : Entry := ⟨[], [yI], fun x => f lf ⟩
theorem ok (lf : Nat) : Ok 212 (E lf) := okT (an := (annsL [])) (lf := lf) tN aoN fun x => by kernel_rfl
end surveyorref21_None
namespace surveyorref21_bound
def f (lf : Nat) (a0 : ByteArray) : Option (Int × Unit) :=
 br (a0.toList == (⟨#[]⟩ : ByteArray).toList) (
 some (0, ())) (
 bd (surveyorref06_Number.f lf a0) fun r1 =>
 some (r1.1, ()))
def E (lf : Nat) : Entry := ⟨[.str], [(.int .i64)], fun x => f lf x.1⟩
theorem ok (lf : Nat) : Ok 232 (E lf) := okT (an := (annsL [])) (lf := lf) (tC (surveyorref06_Number.ok lf) tN) aoN fun x => by kernel_rfl
end surveyorref21_bound
namespace surveyorref21_Check
def f (lf : Nat) (a0 : TI) : Option (Int × Unit) :=
 br a0.1 (
 br (!(a0.2.1.toList == (⟨#[]⟩ : ByteArray).toList)) (
 some (3, ())) (
 br (!(a0.2.2.1.toList == (⟨#[]⟩ : ByteArray).toList)) (
 some (3, ())) (
 bd (surveyorref21_bound.f lf a0.2.1) fun r1 =>
 br (r1.1 != 0) (
 some (r1.1, ())) (
 bd (surveyorref21_bound.f lf a0.2.2.1) fun r2 =>
 br (r2.1 != 0) (
 some (r2.1, ())) (
 br (!(a0.2.1.toList == (⟨#[]⟩ : ByteArray).toList)) (
 br (!(a0.2.2.1.toList == (⟨#[]⟩ : ByteArray).toList)) (
 bd (surveyorref01_Less.f lf a0.2.2.1 a0.2.1) fun r3 =>
 br r3.1 (
 some (14, ())) (
 some (0, ()))) (
 some (0, ()))) (
 some (0, ()))))))) (
 bd (surveyorref21_bound.f lf a0.2.1) fun r4 =>
 br (r4.1 != 0) (
 some (r4.1, ())) (
 bd (surveyorref21_bound.f lf a0.2.2.1) fun r5 =>
 br (r5.1 != 0) (
 some (r5.1, ())) (
 br (!(a0.2.1.toList == (⟨#[]⟩ : ByteArray).toList)) (
 br (!(a0.2.2.1.toList == (⟨#[]⟩ : ByteArray).toList)) (
 bd (surveyorref01_Less.f lf a0.2.2.1 a0.2.1) fun r6 =>
 br r6.1 (
 some (14, ())) (
 some (0, ()))) (
 some (0, ()))) (
 some (0, ())))))
def E (lf : Nat) : Entry := ⟨[yI], [(.int .i64)], fun x => f lf x.1⟩
theorem ok (lf : Nat) : Ok 120 (E lf) := okT (an := (annsL [])) (lf := lf) (tC (surveyorref01_Less.ok lf) (tC (surveyorref21_bound.ok lf) tN)) aoN fun x => by kernel_rfl
end surveyorref21_Check
namespace surveyorref21_In
def f (lf : Nat) (a0 : TI) (a1 : ByteArray) : Option (Bool × Unit) :=
 br (!a0.1) (
 br (a0.2.1.toList == (⟨#[]⟩ : ByteArray).toList) (
 br (a0.2.2.1.toList == (⟨#[]⟩ : ByteArray).toList) (
 some (true, ())) (
 bd (surveyorref01_Less.f lf a0.2.2.1 a1) fun r1 =>
 some ((!r1.1), ()))) (
 bd (surveyorref01_Less.f lf a1 a0.2.1) fun r2 =>
 br (!r2.1) (
 br (a0.2.2.1.toList == (⟨#[]⟩ : ByteArray).toList) (
 some (true, ())) (
 bd (surveyorref01_Less.f lf a0.2.2.1 a1) fun r3 =>
 some ((!r3.1), ()))) (
 some (false, ())))) (
 some (false, ()))
def E (lf : Nat) : Entry := ⟨[yI, .str], [.bool], fun x => f lf x.1 x.2.1⟩
theorem ok (lf : Nat) : Ok 180 (E lf) := okT (an := (annsL [])) (lf := lf) (tC (surveyorref01_Less.ok lf) tN) aoN fun x => by kernel_rfl
end surveyorref21_In
namespace surveyorref21_clip
def f (lf : Nat) (a0 : ByteArray) : Option (ByteArray × Unit) :=
 br (!(a0.toList == (⟨#[]⟩ : ByteArray).toList)) (
 bd (surveyorref01_Digits.f lf a0) fun r1 =>
 br (decide (r1.1 > 100)) (
 some ((⟨#[]⟩ : ByteArray), ())) (
 some (a0, ()))) (
 some (a0, ()))
def E (lf : Nat) : Entry := ⟨[.str], [.str], fun x => f lf x.1⟩
theorem ok (lf : Nat) : Ok 317 (E lf) := okT (an := (annsL [])) (lf := lf) (tC (surveyorref01_Digits.ok lf) tN) aoN fun x => by kernel_rfl
end surveyorref21_clip
namespace surveyorref21_Range
def f (lf : Nat) (a0 : ByteArray) (a1 : ByteArray) : Option (TI × Unit) :=
 br (!(a0.toList == (⟨#[]⟩ : ByteArray).toList)) (
 br (!(a1.toList == (⟨#[]⟩ : ByteArray).toList)) (
 bd (surveyorref01_Less.f lf a1 a0) fun r1 =>
 br r1.1 (
 bd (surveyorref21_None.f lf) fun r2 =>
 some (r2.1, ())) (
 bd (surveyorref21_clip.f lf a0) fun r3 =>
 bd (surveyorref21_clip.f lf a1) fun r4 =>
 some ((false, r3.1, r4.1, ()), ()))) (
 bd (surveyorref21_clip.f lf a0) fun r5 =>
 bd (surveyorref21_clip.f lf a1) fun r6 =>
 some ((false, r5.1, r6.1, ()), ()))) (
 bd (surveyorref21_clip.f lf a0) fun r7 =>
 bd (surveyorref21_clip.f lf a1) fun r8 =>
 some ((false, r7.1, r8.1, ()), ()))
def E (lf : Nat) : Entry := ⟨[.str, .str], [yI], fun x => f lf x.1 x.2.1⟩
theorem ok (lf : Nat) : Ok 235 (E lf) := okT (an := (annsL [])) (lf := lf) (tC (surveyorref01_Less.ok lf) (tC (surveyorref21_None.ok lf) (tC (surveyorref21_clip.ok lf) tN))) aoN fun x => by kernel_rfl
end surveyorref21_Range
namespace surveyorref21_least
def f (lf : Nat) (a0 : ByteArray) (a1 : ByteArray) : Option (ByteArray × Unit) :=
 br (a0.toList == (⟨#[]⟩ : ByteArray).toList) (
 some ((⟨#[]⟩ : ByteArray), ())) (
 br (a1.toList == (⟨#[]⟩ : ByteArray).toList) (
 some ((⟨#[]⟩ : ByteArray), ())) (
 bd (surveyorref01_Less.f lf a1 a0) fun r1 =>
 br r1.1 (
 some (a1, ())) (
 some (a0, ()))))
def E (lf : Nat) : Entry := ⟨[.str, .str], [.str], fun x => f lf x.1 x.2.1⟩
theorem ok (lf : Nat) : Ok 325 (E lf) := okT (an := (annsL [])) (lf := lf) (tC (surveyorref01_Less.ok lf) tN) aoN fun x => by kernel_rfl
end surveyorref21_least
namespace surveyorref21_greatest
def f (lf : Nat) (a0 : ByteArray) (a1 : ByteArray) : Option (ByteArray × Unit) :=
 br (a0.toList == (⟨#[]⟩ : ByteArray).toList) (
 some ((⟨#[]⟩ : ByteArray), ())) (
 br (a1.toList == (⟨#[]⟩ : ByteArray).toList) (
 some ((⟨#[]⟩ : ByteArray), ())) (
 bd (surveyorref01_Less.f lf a0 a1) fun r1 =>
 br r1.1 (
 some (a1, ())) (
 some (a0, ()))))
def E (lf : Nat) : Entry := ⟨[.str, .str], [.str], fun x => f lf x.1 x.2.1⟩
theorem ok (lf : Nat) : Ok 326 (E lf) := okT (an := (annsL [])) (lf := lf) (tC (surveyorref01_Less.ok lf) tN) aoN fun x => by kernel_rfl
end surveyorref21_greatest
namespace surveyorref21_Joined
def f (lf : Nat) (a0 : TI) (a1 : TI) : Option (TI × Unit) :=
 br a0.1 (
 some (a1, ())) (
 br a1.1 (
 some (a0, ())) (
 bd (surveyorref21_least.f lf a0.2.1 a1.2.1) fun r1 =>
 bd (surveyorref21_greatest.f lf a0.2.2.1 a1.2.2.1) fun r2 =>
 bd (surveyorref21_Range.f lf r1.1 r2.1) fun r3 =>
 some (r3.1, ())))
def E (lf : Nat) : Entry := ⟨[yI, yI], [yI], fun x => f lf x.1 x.2.1⟩
theorem ok (lf : Nat) : Ok 251 (E lf) := okT (an := (annsL [])) (lf := lf) (tC (surveyorref21_Range.ok lf) (tC (surveyorref21_least.ok lf) (tC (surveyorref21_greatest.ok lf) tN))) aoN fun x => by kernel_rfl
end surveyorref21_Joined
namespace surveyorref21_Thresholds
def anns : FuncId → FA := annsL [(141, ⟨annOf [(0, ⟨kx 37 [0, 3], [], []⟩, ⟨kx 37 [2], [], []⟩)], none, []⟩)]
def r0 {ρ : Type} (lf : Nat) (v0 : List ByteArray) (v1 : Int) (K : Int → Option ρ) (E0 : Int → Option ρ) (E1 : Option ρ) : Option ρ :=
 br (decide (v1 < ((v0.length : Nat) : Int))) (
 bd (idxL v0 v1) fun y1 =>
 bd (surveyorref06_Number.f lf y1) fun r2 =>
 br (r2.1 != 0) (
 E0 r2.1) (
 br (decide (v1 > 0)) (
 bd (idxL v0 (i64.wrap (v1 - 1))) fun y3 =>
 bd (idxL v0 v1) fun y4 =>
 bd (surveyorref01_Less.f lf y3 y4) fun r5 =>
 br (!r5.1) (
 E0 14) (
 K (i64.wrap (v1 + 1)))) (
 K (i64.wrap (v1 + 1))))) (
 E1)
def l0 (lf : Nat) (v0 : List ByteArray) : Nat → Int → Option (Bool × (Int × Unit) × (Unit) × Unit)
 | 0, _ => none
 | n + 1, v1 => r0 lf v0 v1 (l0 lf v0 n) (fun w0 => some (true, (w0, ()), ((()), ()))) (some (false, (0, ()), ((()), ())))
def sh0 : ShS := ⟨[.s (.sl .str), .a 2, .s (.int .i64), .a 33], []⟩
def S0 (p : (List ByteArray) × Int × Unit) : St := sh0.b p
def xh0 : ShS := ⟨[.a 2, .s (.int .i64), .a 34], []⟩
def xh1 : ShS := ⟨[.a 37], []⟩
def o0 (v0 : List ByteArray) (y : Bool × (Int × Unit) × (Unit) × Unit) : Alt := .two y.1 (.one .ret (xh0.b (y.2.1.1, ()))) (.one (.exit 0) (xh1.b (())))
def tb (lf : Nat) : List (FuncId × Entry) := [(98, surveyorref01_Less.E lf), (179, surveyorref06_Number.E lf)]
def s13_141 (lf : Nat) : List (Nat × (St → Option LTE)) := [(0, sumE sh0 fun (p : (List ByteArray) × Int × Unit) => ⟨Bool × (Int × Unit) × (Unit) × Unit, l0 lf p.1 (lf + 40) p.2.1, o0 p.1⟩)]
def ls (lf : Nat) : List (Nat × FuncId × Sums) := [(13, 141, sumsL (s13_141 lf))]
def it0 {ρ : Type} (lf n : Nat) (st : St) (k : KE ρ) : Option ρ := itG anns (ls lf) (tb lf) lf 13 141 0 0 (sumsL (s13_141 lf)) n st k
theorem t0 {ρ : Type} (lf n : Nat) (v0 : List ByteArray) (v1 : Int) (k : KE ρ) : it0 lf (n + 1) (S0 (v0, v1, ())) k = r0 lf v0 v1 (fun x0 => it0 lf n (S0 (v0, x0, ())) k) (fun w0 => k .ret (xh0.b (w0, ()))) (k (.exit 0) (xh1.b (()))) := by kernel_rfl
theorem u0 {ρ : Type} (lf : Nat) (v0 : List ByteArray) (k : KE ρ) : ∀ (n : Nat) (v1 : Int), it0 lf n (S0 (v0, v1, ())) k = bd (l0 lf v0 n v1) fun y => altK k (o0 v0 y)
 | 0, _ => by rw [l0, bd_none]; rfl
 | n + 1, v1 => by
  rw [t0]; simp only [l0, r0, u0 lf v0 k n, bd_br, bd_bd, bd_some', bd_none, br_t, br_f, o0, altK]
theorem sl (lf : Nat) : SL anns (ls lf) (tb lf) lf (ls lf) := slC (laC (fun _ => by kernel_rfl) (fun _ (x : (List ByteArray) × Int × Unit) k => leq_of (u0 lf x.1 k (lf + 40) x.2.1)) laN) slN
def f (lf : Nat) (a0 : List ByteArray) : Option (Int × Unit) :=
 br (decide (((a0.length : Nat) : Int) > 1024)) (
 some (5, ())) (
 bd (l0 lf a0 (lf + 40) 0) fun z6 =>
 br z6.1 (
 some (z6.2.1.1, ())) (
 some (0, ())))
def E (lf : Nat) : Entry := ⟨[(.sl .str)], [(.int .i64)], fun x => f lf x.1⟩
theorem ok (lf : Nat) : Ok 141 (E lf) := okL (tC (surveyorref01_Less.ok lf) (tC (surveyorref06_Number.ok lf) tN)) (aoC aoN) (sl lf) fun x => by kernel_rfl
end surveyorref21_Thresholds
namespace surveyorref21_Below
def anns : FuncId → FA := annsL [(323, ⟨annOf [(0, ⟨kx 29 [0, 1, 5, 6], [], []⟩, ⟨kx 29 [4, 5], [], []⟩)], none, []⟩)]
def r0 {ρ : Type} (lf : Nat) (v0 : List ByteArray) (v1 : ByteArray) (v2 : ByteArray) (v3 : Int) (K : ByteArray → Int → Option ρ) (E0 : ByteArray → Option ρ) : Option ρ :=
 br (decide (v3 < ((v0.length : Nat) : Int))) (
 br (!(v1.toList == (⟨#[]⟩ : ByteArray).toList)) (
 bd (idxL v0 v3) fun y1 =>
 bd (surveyorref01_Less.f lf v1 y1) fun r2 =>
 br (!r2.1) (
 bd (idxL v0 v3) fun y3 =>
 K y3 (i64.wrap (v3 + 1))) (
 K v2 (i64.wrap (v3 + 1)))) (
 K v2 (i64.wrap (v3 + 1)))) (
 E0 v2)
def l0 (lf : Nat) (v0 : List ByteArray) (v1 : ByteArray) : Nat → ByteArray → Int → Option ((ByteArray × Unit) × Unit)
 | 0, _, _ => none
 | n + 1, v2, v3 => r0 lf v0 v1 v2 v3 (l0 lf v0 v1 n) (fun w0 => some ((w0, ()), ()))
def sh0 : ShS := ⟨[.s (.sl .str), .s .str, .a 3, .s .str, .s (.int .i64), .a 22], []⟩
def S0 (p : (List ByteArray) × ByteArray × ByteArray × Int × Unit) : St := sh0.b p
def xh0 : ShS := ⟨[.a 5, .s .str, .a 23], []⟩
def o0 (v0 : List ByteArray) (v1 : ByteArray) (y : (ByteArray × Unit) × Unit) : Alt := .one (.exit 0) (xh0.b (y.1.1, ()))
def tb (lf : Nat) : List (FuncId × Entry) := [(98, surveyorref01_Less.E lf)]
def s13_323 (lf : Nat) : List (Nat × (St → Option LTE)) := [(0, sumE sh0 fun (p : (List ByteArray) × ByteArray × ByteArray × Int × Unit) => ⟨(ByteArray × Unit) × Unit, l0 lf p.1 p.2.1 (lf + 40) p.2.2.1 p.2.2.2.1, o0 p.1 p.2.1⟩)]
def ls (lf : Nat) : List (Nat × FuncId × Sums) := [(13, 323, sumsL (s13_323 lf))]
def it0 {ρ : Type} (lf n : Nat) (st : St) (k : KE ρ) : Option ρ := itG anns (ls lf) (tb lf) lf 13 323 0 0 (sumsL (s13_323 lf)) n st k
theorem t0 {ρ : Type} (lf n : Nat) (v0 : List ByteArray) (v1 v2 : ByteArray) (v3 : Int) (k : KE ρ) : it0 lf (n + 1) (S0 (v0, v1, v2, v3, ())) k = r0 lf v0 v1 v2 v3 (fun x0 x1 => it0 lf n (S0 (v0, v1, x0, x1, ())) k) (fun w0 => k (.exit 0) (xh0.b (w0, ()))) := by kernel_rfl
theorem u0 {ρ : Type} (lf : Nat) (v0 : List ByteArray) (v1 : ByteArray) (k : KE ρ) : ∀ (n : Nat) (v2 : ByteArray) (v3 : Int), it0 lf n (S0 (v0, v1, v2, v3, ())) k = bd (l0 lf v0 v1 n v2 v3) fun y => altK k (o0 v0 v1 y)
 | 0, _, _ => by rw [l0, bd_none]; rfl
 | n + 1, v2, v3 => by
  rw [t0]; simp only [l0, r0, u0 lf v0 v1 k n, bd_br, bd_bd, bd_some', bd_none, br_t, br_f, o0, altK]
theorem sl (lf : Nat) : SL anns (ls lf) (tb lf) lf (ls lf) := slC (laC (fun _ => by kernel_rfl) (fun _ (x : (List ByteArray) × ByteArray × ByteArray × Int × Unit) k => leq_of (u0 lf x.1 x.2.1 k (lf + 40) x.2.2.1 x.2.2.2.1)) laN) slN
def f (lf : Nat) (a0 : List ByteArray) (a1 : ByteArray) : Option (ByteArray × Unit) :=
 bd (l0 lf a0 a1 (lf + 40) (⟨#[]⟩ : ByteArray) 0) fun z4 =>
 some (z4.1.1, ())
def E (lf : Nat) : Entry := ⟨[(.sl .str), .str], [.str], fun x => f lf x.1 x.2.1⟩
theorem ok (lf : Nat) : Ok 323 (E lf) := okL (tC (surveyorref01_Less.ok lf) tN) (aoC aoN) (sl lf) fun x => by kernel_rfl
end surveyorref21_Below
namespace surveyorref21_Above
def anns : FuncId → FA := annsL [(324, ⟨annOf [(0, ⟨kx 27 [0, 1, 5], [], []⟩, ⟨kx 27 [4], [], []⟩)], none, []⟩)]
def r0 {ρ : Type} (lf : Nat) (v0 : List ByteArray) (v1 : ByteArray) (v2 : Int) (K : Int → Option ρ) (E0 : ByteArray → Option ρ) (E1 : Option ρ) : Option ρ :=
 br (decide (v2 < ((v0.length : Nat) : Int))) (
 br (!(v1.toList == (⟨#[]⟩ : ByteArray).toList)) (
 bd (idxL v0 v2) fun y1 =>
 bd (surveyorref01_Less.f lf y1 v1) fun r2 =>
 br (!r2.1) (
 bd (idxL v0 v2) fun y3 =>
 E0 y3) (
 K (i64.wrap (v2 + 1)))) (
 K (i64.wrap (v2 + 1)))) (
 E1)
def l0 (lf : Nat) (v0 : List ByteArray) (v1 : ByteArray) : Nat → Int → Option (Bool × (ByteArray × Unit) × (Unit) × Unit)
 | 0, _ => none
 | n + 1, v2 => r0 lf v0 v1 v2 (l0 lf v0 v1 n) (fun w0 => some (true, (w0, ()), ((()), ()))) (some (false, ((⟨#[]⟩ : ByteArray), ()), ((()), ())))
def sh0 : ShS := ⟨[.s (.sl .str), .s .str, .a 3, .s (.int .i64), .a 21], []⟩
def S0 (p : (List ByteArray) × ByteArray × Int × Unit) : St := sh0.b p
def xh0 : ShS := ⟨[.a 4, .s .str, .a 22], []⟩
def xh1 : ShS := ⟨[.a 27], []⟩
def o0 (v0 : List ByteArray) (v1 : ByteArray) (y : Bool × (ByteArray × Unit) × (Unit) × Unit) : Alt := .two y.1 (.one .ret (xh0.b (y.2.1.1, ()))) (.one (.exit 0) (xh1.b (())))
def tb (lf : Nat) : List (FuncId × Entry) := [(98, surveyorref01_Less.E lf)]
def s13_324 (lf : Nat) : List (Nat × (St → Option LTE)) := [(0, sumE sh0 fun (p : (List ByteArray) × ByteArray × Int × Unit) => ⟨Bool × (ByteArray × Unit) × (Unit) × Unit, l0 lf p.1 p.2.1 (lf + 40) p.2.2.1, o0 p.1 p.2.1⟩)]
def ls (lf : Nat) : List (Nat × FuncId × Sums) := [(13, 324, sumsL (s13_324 lf))]
def it0 {ρ : Type} (lf n : Nat) (st : St) (k : KE ρ) : Option ρ := itG anns (ls lf) (tb lf) lf 13 324 0 0 (sumsL (s13_324 lf)) n st k
theorem t0 {ρ : Type} (lf n : Nat) (v0 : List ByteArray) (v1 : ByteArray) (v2 : Int) (k : KE ρ) : it0 lf (n + 1) (S0 (v0, v1, v2, ())) k = r0 lf v0 v1 v2 (fun x0 => it0 lf n (S0 (v0, v1, x0, ())) k) (fun w0 => k .ret (xh0.b (w0, ()))) (k (.exit 0) (xh1.b (()))) := by kernel_rfl
theorem u0 {ρ : Type} (lf : Nat) (v0 : List ByteArray) (v1 : ByteArray) (k : KE ρ) : ∀ (n : Nat) (v2 : Int), it0 lf n (S0 (v0, v1, v2, ())) k = bd (l0 lf v0 v1 n v2) fun y => altK k (o0 v0 v1 y)
 | 0, _ => by rw [l0, bd_none]; rfl
 | n + 1, v2 => by
  rw [t0]; simp only [l0, r0, u0 lf v0 v1 k n, bd_br, bd_bd, bd_some', bd_none, br_t, br_f, o0, altK]
theorem sl (lf : Nat) : SL anns (ls lf) (tb lf) lf (ls lf) := slC (laC (fun _ => by kernel_rfl) (fun _ (x : (List ByteArray) × ByteArray × Int × Unit) k => leq_of (u0 lf x.1 x.2.1 k (lf + 40) x.2.2.1)) laN) slN
def f (lf : Nat) (a0 : List ByteArray) (a1 : ByteArray) : Option (ByteArray × Unit) :=
 bd (l0 lf a0 a1 (lf + 40) 0) fun z4 =>
 br z4.1 (
 some (z4.2.1.1, ())) (
 some ((⟨#[]⟩ : ByteArray), ()))
def E (lf : Nat) : Entry := ⟨[(.sl .str), .str], [.str], fun x => f lf x.1 x.2.1⟩
theorem ok (lf : Nat) : Ok 324 (E lf) := okL (tC (surveyorref01_Less.ok lf) tN) (aoC aoN) (sl lf) fun x => by kernel_rfl
end surveyorref21_Above
namespace surveyorref21_Widened
def f (lf : Nat) (a0 : TI) (a1 : TI) (a2 : List ByteArray) : Option (TI × Unit) :=
 br a0.1 (
 some (a1, ())) (
 br a1.1 (
 some (a0, ())) (
 bd (surveyorref21_Joined.f lf a0 a1) fun r1 =>
 br (!(r1.1.2.1.toList == a0.2.1.toList)) (
 bd (surveyorref21_Below.f lf a2 r1.1.2.1) fun r2 =>
 br (!(r1.1.2.2.1.toList == a0.2.2.1.toList)) (
 bd (surveyorref21_Above.f lf a2 r1.1.2.2.1) fun r3 =>
 some ((r1.1.1, r2.1, r3.1, ()), ())) (
 some ((r1.1.1, r2.1, r1.1.2.2.1, ()), ()))) (
 br (!(r1.1.2.2.1.toList == a0.2.2.1.toList)) (
 bd (surveyorref21_Above.f lf a2 r1.1.2.2.1) fun r4 =>
 some ((r1.1.1, r1.1.2.1, r4.1, ()), ())) (
 some (r1.1, ())))))
def E (lf : Nat) : Entry := ⟨[yI, yI, (.sl .str)], [yI], fun x => f lf x.1 x.2.1 x.2.2.1⟩
theorem ok (lf : Nat) : Ok 244 (E lf) := okT (an := (annsL [])) (lf := lf) (tC (surveyorref21_Joined.ok lf) (tC (surveyorref21_Below.ok lf) (tC (surveyorref21_Above.ok lf) tN))) aoN fun x => by kernel_rfl
end surveyorref21_Widened
namespace surveyorref21_Narrowed
def f (lf : Nat) (a0 : TI) (a1 : TI) : Option (TI × Unit) :=
 br a0.1 (
 bd (surveyorref21_None.f lf) fun r1 =>
 some (r1.1, ())) (
 br a1.1 (
 bd (surveyorref21_None.f lf) fun r2 =>
 some (r2.1, ())) (
 br (a0.2.1.toList == (⟨#[]⟩ : ByteArray).toList) (
 br (a0.2.2.1.toList == (⟨#[]⟩ : ByteArray).toList) (
 bd (surveyorref21_Range.f lf a1.2.1 a1.2.2.1) fun r3 =>
 some (r3.1, ())) (
 bd (surveyorref21_Range.f lf a1.2.1 a0.2.2.1) fun r4 =>
 some (r4.1, ()))) (
 br (a0.2.2.1.toList == (⟨#[]⟩ : ByteArray).toList) (
 bd (surveyorref21_Range.f lf a0.2.1 a1.2.2.1) fun r5 =>
 some (r5.1, ())) (
 bd (surveyorref21_Range.f lf a0.2.1 a0.2.2.1) fun r6 =>
 some (r6.1, ())))))
def E (lf : Nat) : Entry := ⟨[yI, yI], [yI], fun x => f lf x.1 x.2.1⟩
theorem ok (lf : Nat) : Ok 247 (E lf) := okT (an := (annsL [])) (lf := lf) (tC (surveyorref21_None.ok lf) (tC (surveyorref21_Range.ok lf) tN)) aoN fun x => by kernel_rfl
end surveyorref21_Narrowed
end
end Go.Q
namespace Go.Q
open Go Go.RowKit
open Go.Rx (br bd sIdx sCat sCut iQuo iRem)
noncomputable section
namespace surveyorref21_Text
def f (lf : Nat) (a0 : TI) : Option (ByteArray × Unit) :=
 br a0.1 (
 some ((⟨#[101, 109, 112, 116, 121]⟩ : ByteArray), ())) (
 br (a0.2.1.toList == (⟨#[]⟩ : ByteArray).toList) (
 br (a0.2.2.1.toList == (⟨#[]⟩ : ByteArray).toList) (
 bd (sCat (⟨#[91]⟩ : ByteArray) (⟨#[45, 105, 110, 102]⟩ : ByteArray)) fun r1 =>
 bd (sCat r1 (⟨#[44, 32]⟩ : ByteArray)) fun r2 =>
 bd (sCat r2 (⟨#[43, 105, 110, 102]⟩ : ByteArray)) fun r3 =>
 bd (sCat r3 (⟨#[93]⟩ : ByteArray)) fun r4 =>
 some (r4, ())) (
 bd (sCat (⟨#[91]⟩ : ByteArray) (⟨#[45, 105, 110, 102]⟩ : ByteArray)) fun r5 =>
 bd (sCat r5 (⟨#[44, 32]⟩ : ByteArray)) fun r6 =>
 bd (sCat r6 a0.2.2.1) fun r7 =>
 bd (sCat r7 (⟨#[93]⟩ : ByteArray)) fun r8 =>
 some (r8, ()))) (
 br (a0.2.2.1.toList == (⟨#[]⟩ : ByteArray).toList) (
 bd (sCat (⟨#[91]⟩ : ByteArray) a0.2.1) fun r9 =>
 bd (sCat r9 (⟨#[44, 32]⟩ : ByteArray)) fun r10 =>
 bd (sCat r10 (⟨#[43, 105, 110, 102]⟩ : ByteArray)) fun r11 =>
 bd (sCat r11 (⟨#[93]⟩ : ByteArray)) fun r12 =>
 some (r12, ())) (
 bd (sCat (⟨#[91]⟩ : ByteArray) a0.2.1) fun r13 =>
 bd (sCat r13 (⟨#[44, 32]⟩ : ByteArray)) fun r14 =>
 bd (sCat r14 a0.2.2.1) fun r15 =>
 bd (sCat r15 (⟨#[93]⟩ : ByteArray)) fun r16 =>
 some (r16, ()))))
def E (lf : Nat) : Entry := ⟨[yI], [.str], fun x => f lf x.1⟩
theorem ok (lf : Nat) : Ok 248 (E lf) := okT (an := (annsL [])) (lf := lf) tN aoN fun x => by kernel_rfl
end surveyorref21_Text
end
end Go.Q
namespace Go.Q
open Go.IntKind (i64)
open Go Go.RowKit
open Go.Rx (br bd sIdx sCat sCut iQuo iRem)
noncomputable section
namespace surveyorref01_number
def anns : FuncId → FA := annsL [(155, ⟨annOf [(0, ⟨kx 28 [0, 3, 4], [], []⟩, ⟨kx 28 [0, 2, 3], [], []⟩)], none, []⟩)]
def r0 {ρ : Type} (lf : Nat) (v0 : ByteArray) (v1 v2 : Int) (K : Int → Int → Option ρ) (E0 : Int → Option ρ) : Option ρ :=
 br (decide (v2 < ((v0.size : Nat) : Int))) (
 bd (sIdx v0 v2) fun r1 =>
 br (((r1.toNat : Nat) : Int) != 45) (
 bd (sIdx v0 v2) fun r2 =>
 K (i64.wrap ((i64.wrap (v1 * 10)) + (i64.wrap (IntKind.u8.wrap (((r2.toNat : Nat) : Int) - 48))))) (i64.wrap (v2 + 1))) (
 K v1 (i64.wrap (v2 + 1)))) (
 E0 v1)
def l0 (lf : Nat) (v0 : ByteArray) : Nat → Int → Int → Option ((Int × Unit) × Unit)
 | 0, _, _ => none
 | n + 1, v1, v2 => r0 lf v0 v1 v2 (l0 lf v0 n) (fun w0 => some ((w0, ()), ()))
def sh0 : ShS := ⟨[.s .str, .a 2, .s (.int .i64), .s (.int .i64), .a 23], []⟩
def S0 (p : ByteArray × Int × Int × Unit) : St := sh0.b p
def xh0 : ShS := ⟨[.s .str, .a 2, .s (.int .i64), .a 24], []⟩
def o0 (v0 : ByteArray) (y : (Int × Unit) × Unit) : Alt := .one (.exit 0) (xh0.b (v0, y.1.1, ()))
def tb (lf : Nat) : List (FuncId × Entry) := [(156, surveyorref01_Negative.E lf)]
def s13_155 (lf : Nat) : List (Nat × (St → Option LTE)) := [(0, sumE sh0 fun (p : ByteArray × Int × Int × Unit) => ⟨(Int × Unit) × Unit, l0 lf p.1 (lf + 40) p.2.1 p.2.2.1, o0 p.1⟩)]
def ls (lf : Nat) : List (Nat × FuncId × Sums) := [(13, 155, sumsL (s13_155 lf))]
def it0 {ρ : Type} (lf n : Nat) (st : St) (k : KE ρ) : Option ρ := itG anns (ls lf) (tb lf) lf 13 155 0 0 (sumsL (s13_155 lf)) n st k
theorem t0 {ρ : Type} (lf n : Nat) (v0 : ByteArray) (v1 v2 : Int) (k : KE ρ) : it0 lf (n + 1) (S0 (v0, v1, v2, ())) k = r0 lf v0 v1 v2 (fun x0 x1 => it0 lf n (S0 (v0, x0, x1, ())) k) (fun w0 => k (.exit 0) (xh0.b (v0, w0, ()))) := by kernel_rfl
theorem u0 {ρ : Type} (lf : Nat) (v0 : ByteArray) (k : KE ρ) : ∀ (n : Nat) (v1 v2 : Int), it0 lf n (S0 (v0, v1, v2, ())) k = bd (l0 lf v0 n v1 v2) fun y => altK k (o0 v0 y)
 | 0, _, _ => by rw [l0, bd_none]; rfl
 | n + 1, v1, v2 => by
  rw [t0]; simp only [l0, r0, u0 lf v0 k n, bd_br, bd_bd, bd_some', bd_none, br_t, br_f, o0, altK]
theorem sl (lf : Nat) : SL anns (ls lf) (tb lf) lf (ls lf) := slC (laC (fun _ => by kernel_rfl) (fun _ (x : ByteArray × Int × Int × Unit) k => leq_of (u0 lf x.1 k (lf + 40) x.2.1 x.2.2.1)) laN) slN
def f (lf : Nat) (a0 : ByteArray) : Option (Int × Unit) :=
 bd (l0 lf a0 (lf + 40) 0 0) fun z3 =>
 bd (surveyorref01_Negative.f lf a0) fun r4 =>
 br r4.1 (
 some ((i64.wrap (0 - z3.1.1)), ())) (
 some (z3.1.1, ()))
def E (lf : Nat) : Entry := ⟨[.str], [(.int .i64)], fun x => f lf x.1⟩
theorem ok (lf : Nat) : Ok 155 (E lf) := okL (tC (surveyorref01_Negative.ok lf) tN) (aoC aoN) (sl lf) fun x => by kernel_rfl
end surveyorref01_number
namespace surveyorref01_made
def anns : FuncId → FA := annsL [(157, ⟨annOf [(0, ⟨kx 34 [0, 5, 6], [⟨.tmp 5, (.int .u8), 5⟩], []⟩, ⟨kx 34 [4, 5], [⟨.tmp 5, (.int .u8), 5⟩], []⟩)], none, []⟩)]
def r0 {ρ : Type} (lf : Nat) (v0 v2 : List Int) (v1 : Int) (v3 : List Int) (K : Int → (List Int) → Option ρ) (E0 : (List Int) → Option ρ) : Option ρ :=
 br (decide (v1 ≥ 0)) (
 bd (idxL v0 v1) fun y3 =>
 bd (apL true 1 v3 [(IntKind.u8.wrap (i64.wrap (48 + y3)))]) fun q4 =>
 K (i64.wrap (v1 - 1)) q4) (
 E0 v3)
def l0 (lf : Nat) (v0 v2 : List Int) : Nat → Int → (List Int) → Option (((List Int) × Unit) × Unit)
 | 0, _, _ => none
 | n + 1, v1, v3 => r0 lf v0 v2 v1 v3 (l0 lf v0 v2 n) (fun w0 => some ((w0, ()), ()))
def sh0 : ShS := ⟨[.s (.sl (.int .i64)), .a 4, .s (.row 2), .s (.int .i64), .a 27], [.row (.int .u8) 5 false, .gone, .row (.int .u8) 5 false]⟩
def S0 (p : (List Int) × Int × (List Int) × (List Int) × Unit) : St := sh0.b p
def xh0 : ShS := ⟨[.a 5, .s (.row 2), .a 28], [.row (.int .u8) 5 false, .gone, .row (.int .u8) 5 false]⟩
def o0 (v0 v2 : List Int) (y : ((List Int) × Unit) × Unit) : Alt := .one (.exit 0) (xh0.b (v2, y.1.1, ()))
def r1 {ρ : Type} (lf : Nat) (v0 : List Int) (v1 : Int) (v2 : List Int) (K : Int → (List Int) → Option ρ) (E0 : (List Int) → Option ρ) : Option ρ :=
 br (decide (v1 ≥ 0)) (
 bd (idxL v0 v1) fun y7 =>
 bd (apL true 1 v2 [(IntKind.u8.wrap (i64.wrap (48 + y7)))]) fun q8 =>
 K (i64.wrap (v1 - 1)) q8) (
 E0 v2)
def l1 (lf : Nat) (v0 : List Int) : Nat → Int → (List Int) → Option (((List Int) × Unit) × Unit)
 | 0, _, _ => none
 | n + 1, v1, v2 => r1 lf v0 v1 v2 (l1 lf v0 n) (fun w0 => some ((w0, ()), ()))
def sh1 : ShS := ⟨[.s (.sl (.int .i64)), .a 4, .s (.row 0), .s (.int .i64), .a 27], [.row (.int .u8) 5 false]⟩
def S1 (p : (List Int) × Int × (List Int) × Unit) : St := sh1.b p
def xh1 : ShS := ⟨[.a 5, .s (.row 0), .a 28], [.row (.int .u8) 5 false]⟩
def o1 (v0 : List Int) (y : ((List Int) × Unit) × Unit) : Alt := .one (.exit 0) (xh1.b (y.1.1, ()))
def tb (lf : Nat) : List (FuncId × Entry) := [(139, surveyorref01_cut.E lf)]
def s13_157 (lf : Nat) : List (Nat × (St → Option LTE)) := [(0, sumE sh0 fun (p : (List Int) × Int × (List Int) × (List Int) × Unit) => ⟨((List Int) × Unit) × Unit, l0 lf p.1 p.2.2.1 (lf + 40) p.2.1 p.2.2.2.1, o0 p.1 p.2.2.1⟩),
 (0, sumE sh1 fun (p : (List Int) × Int × (List Int) × Unit) => ⟨((List Int) × Unit) × Unit, l1 lf p.1 (lf + 40) p.2.1 p.2.2.1, o1 p.1⟩)]
def ls (lf : Nat) : List (Nat × FuncId × Sums) := [(13, 157, sumsL (s13_157 lf))]
def it0 {ρ : Type} (lf n : Nat) (st : St) (k : KE ρ) : Option ρ := itG anns (ls lf) (tb lf) lf 13 157 0 2 (sumsL (s13_157 lf)) n st k
theorem t0 {ρ : Type} (lf n : Nat) (v0 : List Int) (v1 : Int) (v2 v3 : List Int) (k : KE ρ) : it0 lf (n + 1) (S0 (v0, v1, v2, v3, ())) k = r0 lf v0 v2 v1 v3 (fun x0 x1 => it0 lf n (S0 (v0, x0, v2, x1, ())) k) (fun w0 => k (.exit 0) (xh0.b (v2, w0, ()))) := by kernel_rfl
theorem u0 {ρ : Type} (lf : Nat) (v0 v2 : List Int) (k : KE ρ) : ∀ (n : Nat) (v1 : Int) (v3 : List Int), it0 lf n (S0 (v0, v1, v2, v3, ())) k = bd (l0 lf v0 v2 n v1 v3) fun y => altK k (o0 v0 v2 y)
 | 0, _, _ => by rw [l0, bd_none]; rfl
 | n + 1, v1, v3 => by
  rw [t0]; simp only [l0, r0, u0 lf v0 v2 k n, bd_br, bd_bd, bd_some', bd_none, br_t, br_f, o0, altK]
def it1 {ρ : Type} (lf n : Nat) (st : St) (k : KE ρ) : Option ρ := itG anns (ls lf) (tb lf) lf 13 157 0 0 (sumsL (s13_157 lf)) n st k
theorem t1 {ρ : Type} (lf n : Nat) (v0 : List Int) (v1 : Int) (v2 : List Int) (k : KE ρ) : it1 lf (n + 1) (S1 (v0, v1, v2, ())) k = r1 lf v0 v1 v2 (fun x0 x1 => it1 lf n (S1 (v0, x0, x1, ())) k) (fun w0 => k (.exit 0) (xh1.b (w0, ()))) := by kernel_rfl
theorem u1 {ρ : Type} (lf : Nat) (v0 : List Int) (k : KE ρ) : ∀ (n : Nat) (v1 : Int) (v2 : List Int), it1 lf n (S1 (v0, v1, v2, ())) k = bd (l1 lf v0 n v1 v2) fun y => altK k (o1 v0 y)
 | 0, _, _ => by rw [l1, bd_none]; rfl
 | n + 1, v1, v2 => by
  rw [t1]; simp only [l1, r1, u1 lf v0 k n, bd_br, bd_bd, bd_some', bd_none, br_t, br_f, o1, altK]
theorem sl (lf : Nat) : SL anns (ls lf) (tb lf) lf (ls lf) := slC (laC (fun _ => by kernel_rfl) (fun _ (x : (List Int) × Int × (List Int) × (List Int) × Unit) k => leq_of (u0 lf x.1 x.2.2.1 k (lf + 40) x.2.1 x.2.2.2.1)) (laC (fun _ => by kernel_rfl) (fun _ (x : (List Int) × Int × (List Int) × Unit) k => leq_of (u1 lf x.1 k (lf + 40) x.2.1 x.2.2.1)) laN)) slN
def f (lf : Nat) (a0 : List Int) (a1 : Bool) : Option (ByteArray × Unit) :=
 bd (surveyorref01_cut.f lf a0) fun r1 =>
 br (((r1.1.length : Nat) : Int) == 0) (
 some ((⟨#[48]⟩ : ByteArray), ())) (
 br a1 (
 bd (apL true 1 [] [45]) fun q2 =>
 bd (l0 lf r1.1 [45] (lf + 40) (i64.wrap (((r1.1.length : Nat) : Int) - 1)) q2) fun z5 =>
 bd (if true = true then some (bytesS z5.1.1) else none) fun s6 =>
 some (s6, ())) (
 bd (l1 lf r1.1 (lf + 40) (i64.wrap (((r1.1.length : Nat) : Int) - 1)) []) fun z9 =>
 bd (if true = true then some (bytesS z9.1.1) else none) fun s10 =>
 some (s10, ())))
def E (lf : Nat) : Entry := ⟨[(.sl (.int .i64)), .bool], [.str], fun x => f lf x.1 x.2.1⟩
theorem ok (lf : Nat) : Ok 157 (E lf) := okL (tC (surveyorref01_cut.ok lf) tN) (aoC aoN) (sl lf) fun x => by kernel_rfl
end surveyorref01_made
namespace surveyorref01_at
def f (lf : Nat) (a0 : List Int) (a1 : Int) : Option (Int × Unit) :=
 br (decide (a1 < ((a0.length : Nat) : Int))) (
 bd (idxL a0 a1) fun y1 =>
 some (y1, ())) (
 some (0, ()))
def E (lf : Nat) : Entry := ⟨[(.sl (.int .i64)), (.int .i64)], [(.int .i64)], fun x => f lf x.1 x.2.1⟩
theorem ok (lf : Nat) : Ok 259 (E lf) := okT (an := (annsL [])) (lf := lf) tN aoN fun x => by kernel_rfl
end surveyorref01_at
namespace surveyorref01_plus
def anns : FuncId → FA := annsL [(158, ⟨annOf [(0, ⟨kx 36 [0, 1, 5, 6, 7], [⟨.tmp 5, (.int .i64), 3⟩], []⟩, ⟨kx 36 [4, 5], [⟨.tmp 5, (.int .i64), 3⟩], []⟩)], none, []⟩)]
def r0 {ρ : Type} (lf : Nat) (v0 v1 : List Int) (v2 v3 : Int) (v4 : List Int) (K : Int → Int → (List Int) → Option ρ) (E0 : (List Int) → Option ρ) : Option ρ :=
 br (decide (v3 < (i64.wrap ((if ((v1.length : Nat) : Int) > ((v0.length : Nat) : Int) then ((v1.length : Nat) : Int) else ((v0.length : Nat) : Int)) + 1)))) (
 bd (surveyorref01_at.f lf v0 v3) fun r1 =>
 bd (surveyorref01_at.f lf v1 v3) fun r2 =>
 bd (iRem (i64.wrap (v2 + (i64.wrap (r1.1 + r2.1)))) 10) fun r3 =>
 bd (apL true 8 v4 [r3]) fun q4 =>
 bd (iQuo .i64 (i64.wrap (v2 + (i64.wrap (r1.1 + r2.1)))) 10) fun r5 =>
 K r5 (i64.wrap (v3 + 1)) q4) (
 E0 v4)
def l0 (lf : Nat) (v0 v1 : List Int) : Nat → Int → Int → (List Int) → Option (((List Int) × Unit) × Unit)
 | 0, _, _, _ => none
 | n + 1, v2, v3, v4 => r0 lf v0 v1 v2 v3 v4 (l0 lf v0 v1 n) (fun w0 => some ((w0, ()), ()))
def sh0 : ShS := ⟨[.s (.sl (.int .i64)), .s (.sl (.int .i64)), .a 3, .s (.row 0), .s (.int .i64), .s (.int .i64), .a 28], [.row (.int .i64) 3 false]⟩
def S0 (p : (List Int) × (List Int) × Int × Int × (List Int) × Unit) : St := sh0.b p
def xh0 : ShS := ⟨[.a 5, .s (.row 0), .a 30], [.row (.int .i64) 3 false]⟩
def o0 (v0 v1 : List Int) (y : ((List Int) × Unit) × Unit) : Alt := .one (.exit 0) (xh0.b (y.1.1, ()))
def tb (lf : Nat) : List (FuncId × Entry) := [(139, surveyorref01_cut.E lf), (259, surveyorref01_at.E lf)]
def s13_158 (lf : Nat) : List (Nat × (St → Option LTE)) := [(0, sumE sh0 fun (p : (List Int) × (List Int) × Int × Int × (List Int) × Unit) => ⟨((List Int) × Unit) × Unit, l0 lf p.1 p.2.1 (lf + 40) p.2.2.1 p.2.2.2.1 p.2.2.2.2.1, o0 p.1 p.2.1⟩)]
def ls (lf : Nat) : List (Nat × FuncId × Sums) := [(13, 158, sumsL (s13_158 lf))]
def it0 {ρ : Type} (lf n : Nat) (st : St) (k : KE ρ) : Option ρ := itG anns (ls lf) (tb lf) lf 13 158 0 0 (sumsL (s13_158 lf)) n st k
theorem t0 {ρ : Type} (lf n : Nat) (v0 v1 : List Int) (v2 v3 : Int) (v4 : List Int) (k : KE ρ) : it0 lf (n + 1) (S0 (v0, v1, v2, v3, v4, ())) k = r0 lf v0 v1 v2 v3 v4 (fun x0 x1 x2 => it0 lf n (S0 (v0, v1, x0, x1, x2, ())) k) (fun w0 => k (.exit 0) (xh0.b (w0, ()))) := by kernel_rfl
theorem u0 {ρ : Type} (lf : Nat) (v0 v1 : List Int) (k : KE ρ) : ∀ (n : Nat) (v2 v3 : Int) (v4 : List Int), it0 lf n (S0 (v0, v1, v2, v3, v4, ())) k = bd (l0 lf v0 v1 n v2 v3 v4) fun y => altK k (o0 v0 v1 y)
 | 0, _, _, _ => by rw [l0, bd_none]; rfl
 | n + 1, v2, v3, v4 => by
  rw [t0]; simp only [l0, r0, u0 lf v0 v1 k n, bd_br, bd_bd, bd_some', bd_none, br_t, br_f, o0, altK]
theorem sl (lf : Nat) : SL anns (ls lf) (tb lf) lf (ls lf) := slC (laC (fun _ => by kernel_rfl) (fun _ (x : (List Int) × (List Int) × Int × Int × (List Int) × Unit) k => leq_of (u0 lf x.1 x.2.1 k (lf + 40) x.2.2.1 x.2.2.2.1 x.2.2.2.2.1)) laN) slN
def f (lf : Nat) (a0 : List Int) (a1 : List Int) : Option ((List Int) × Unit) :=
 bd (l0 lf a0 a1 (lf + 40) 0 0 []) fun z6 =>
 bd (surveyorref01_cut.f lf z6.1.1) fun r7 =>
 some (r7.1, ())
def E (lf : Nat) : Entry := ⟨[(.sl (.int .i64)), (.sl (.int .i64))], [(.sl (.int .i64))], fun x => f lf x.1 x.2.1⟩
theorem ok (lf : Nat) : Ok 158 (E lf) := okL (tC (surveyorref01_cut.ok lf) (tC (surveyorref01_at.ok lf) tN)) (aoC aoN) (sl lf) fun x => by kernel_rfl
end surveyorref01_plus
namespace surveyorref01_minus
def anns : FuncId → FA := annsL [(159, ⟨annOf [(0, ⟨kx 35 [0, 1, 5, 6, 7], [⟨.tmp 5, (.int .i64), 3⟩], []⟩, ⟨kx 35 [4, 5], [⟨.tmp 5, (.int .i64), 3⟩], []⟩)], none, []⟩)]
def r0 {ρ : Type} (lf : Nat) (v0 v1 : List Int) (v2 v3 : Int) (v4 : List Int) (K : Int → Int → (List Int) → Option ρ) (E0 : (List Int) → Option ρ) : Option ρ :=
 br (decide (v3 < ((v0.length : Nat) : Int))) (
 bd (idxL v0 v3) fun y1 =>
 bd (surveyorref01_at.f lf v1 v3) fun r2 =>
 br (decide ((i64.wrap ((i64.wrap (y1 - r2.1)) - v2)) < 0)) (
 bd (apL true 8 v4 [(i64.wrap ((i64.wrap ((i64.wrap (y1 - r2.1)) - v2)) + 10))]) fun q3 =>
 K 1 (i64.wrap (v3 + 1)) q3) (
 bd (apL true 8 v4 [(i64.wrap ((i64.wrap (y1 - r2.1)) - v2))]) fun q4 =>
 K 0 (i64.wrap (v3 + 1)) q4)) (
 E0 v4)
def l0 (lf : Nat) (v0 v1 : List Int) : Nat → Int → Int → (List Int) → Option (((List Int) × Unit) × Unit)
 | 0, _, _, _ => none
 | n + 1, v2, v3, v4 => r0 lf v0 v1 v2 v3 v4 (l0 lf v0 v1 n) (fun w0 => some ((w0, ()), ()))
def sh0 : ShS := ⟨[.s (.sl (.int .i64)), .s (.sl (.int .i64)), .a 3, .s (.row 0), .s (.int .i64), .s (.int .i64), .a 27], [.row (.int .i64) 3 false]⟩
def S0 (p : (List Int) × (List Int) × Int × Int × (List Int) × Unit) : St := sh0.b p
def xh0 : ShS := ⟨[.a 5, .s (.row 0), .a 29], [.row (.int .i64) 3 false]⟩
def o0 (v0 v1 : List Int) (y : ((List Int) × Unit) × Unit) : Alt := .one (.exit 0) (xh0.b (y.1.1, ()))
def tb (lf : Nat) : List (FuncId × Entry) := [(139, surveyorref01_cut.E lf), (259, surveyorref01_at.E lf)]
def s13_159 (lf : Nat) : List (Nat × (St → Option LTE)) := [(0, sumE sh0 fun (p : (List Int) × (List Int) × Int × Int × (List Int) × Unit) => ⟨((List Int) × Unit) × Unit, l0 lf p.1 p.2.1 (lf + 40) p.2.2.1 p.2.2.2.1 p.2.2.2.2.1, o0 p.1 p.2.1⟩)]
def ls (lf : Nat) : List (Nat × FuncId × Sums) := [(13, 159, sumsL (s13_159 lf))]
def it0 {ρ : Type} (lf n : Nat) (st : St) (k : KE ρ) : Option ρ := itG anns (ls lf) (tb lf) lf 13 159 0 0 (sumsL (s13_159 lf)) n st k
theorem t0 {ρ : Type} (lf n : Nat) (v0 v1 : List Int) (v2 v3 : Int) (v4 : List Int) (k : KE ρ) : it0 lf (n + 1) (S0 (v0, v1, v2, v3, v4, ())) k = r0 lf v0 v1 v2 v3 v4 (fun x0 x1 x2 => it0 lf n (S0 (v0, v1, x0, x1, x2, ())) k) (fun w0 => k (.exit 0) (xh0.b (w0, ()))) := by kernel_rfl
theorem u0 {ρ : Type} (lf : Nat) (v0 v1 : List Int) (k : KE ρ) : ∀ (n : Nat) (v2 v3 : Int) (v4 : List Int), it0 lf n (S0 (v0, v1, v2, v3, v4, ())) k = bd (l0 lf v0 v1 n v2 v3 v4) fun y => altK k (o0 v0 v1 y)
 | 0, _, _, _ => by rw [l0, bd_none]; rfl
 | n + 1, v2, v3, v4 => by
  rw [t0]; simp only [l0, r0, u0 lf v0 v1 k n, bd_br, bd_bd, bd_some', bd_none, br_t, br_f, o0, altK]
theorem sl (lf : Nat) : SL anns (ls lf) (tb lf) lf (ls lf) := slC (laC (fun _ => by kernel_rfl) (fun _ (x : (List Int) × (List Int) × Int × Int × (List Int) × Unit) k => leq_of (u0 lf x.1 x.2.1 k (lf + 40) x.2.2.1 x.2.2.2.1 x.2.2.2.2.1)) laN) slN
def f (lf : Nat) (a0 : List Int) (a1 : List Int) : Option ((List Int) × Unit) :=
 bd (l0 lf a0 a1 (lf + 40) 0 0 []) fun z5 =>
 bd (surveyorref01_cut.f lf z5.1.1) fun r6 =>
 some (r6.1, ())
def E (lf : Nat) : Entry := ⟨[(.sl (.int .i64)), (.sl (.int .i64))], [(.sl (.int .i64))], fun x => f lf x.1 x.2.1⟩
theorem ok (lf : Nat) : Ok 159 (E lf) := okL (tC (surveyorref01_cut.ok lf) (tC (surveyorref01_at.ok lf) tN)) (aoC aoN) (sl lf) fun x => by kernel_rfl
end surveyorref01_minus
namespace surveyorref01_Sum
def f (lf : Nat) (a0 : ByteArray) (a1 : ByteArray) : Option (ByteArray × Unit) :=
 bd (surveyorref01_short.f lf a0 17) fun r1 =>
 br r1.1 (
 bd (surveyorref01_short.f lf a1 17) fun r2 =>
 br r2.1 (
 bd (surveyorref01_number.f lf a0) fun r3 =>
 bd (surveyorref01_number.f lf a1) fun r4 =>
 bd (surveyorref01_Whole.f lf (i64.wrap (r3.1 + r4.1))) fun r5 =>
 some (r5.1, ())) (
 bd (surveyorref01_digits.f lf a0) fun r6 =>
 bd (surveyorref01_digits.f lf a1) fun r7 =>
 bd (surveyorref01_Negative.f lf a0) fun r8 =>
 bd (surveyorref01_Negative.f lf a1) fun r9 =>
 br (r8.1 == r9.1) (
 bd (surveyorref01_plus.f lf r6.1 r7.1) fun r10 =>
 bd (surveyorref01_Negative.f lf a0) fun r11 =>
 bd (surveyorref01_made.f lf r10.1 r11.1) fun r12 =>
 some (r12.1, ())) (
 bd (surveyorref01_cut.f lf r6.1) fun r13 =>
 bd (surveyorref01_cut.f lf r7.1) fun r14 =>
 bd (surveyorref01_order.f lf r13.1 r14.1) fun r15 =>
 br (decide (r15.1 ≥ 0)) (
 bd (surveyorref01_minus.f lf r6.1 r7.1) fun r16 =>
 bd (surveyorref01_Negative.f lf a0) fun r17 =>
 bd (surveyorref01_made.f lf r16.1 r17.1) fun r18 =>
 some (r18.1, ())) (
 bd (surveyorref01_minus.f lf r7.1 r6.1) fun r19 =>
 bd (surveyorref01_Negative.f lf a1) fun r20 =>
 bd (surveyorref01_made.f lf r19.1 r20.1) fun r21 =>
 some (r21.1, ()))))) (
 bd (surveyorref01_digits.f lf a0) fun r22 =>
 bd (surveyorref01_digits.f lf a1) fun r23 =>
 bd (surveyorref01_Negative.f lf a0) fun r24 =>
 bd (surveyorref01_Negative.f lf a1) fun r25 =>
 br (r24.1 == r25.1) (
 bd (surveyorref01_plus.f lf r22.1 r23.1) fun r26 =>
 bd (surveyorref01_Negative.f lf a0) fun r27 =>
 bd (surveyorref01_made.f lf r26.1 r27.1) fun r28 =>
 some (r28.1, ())) (
 bd (surveyorref01_cut.f lf r22.1) fun r29 =>
 bd (surveyorref01_cut.f lf r23.1) fun r30 =>
 bd (surveyorref01_order.f lf r29.1 r30.1) fun r31 =>
 br (decide (r31.1 ≥ 0)) (
 bd (surveyorref01_minus.f lf r22.1 r23.1) fun r32 =>
 bd (surveyorref01_Negative.f lf a0) fun r33 =>
 bd (surveyorref01_made.f lf r32.1 r33.1) fun r34 =>
 some (r34.1, ())) (
 bd (surveyorref01_minus.f lf r23.1 r22.1) fun r35 =>
 bd (surveyorref01_Negative.f lf a1) fun r36 =>
 bd (surveyorref01_made.f lf r35.1 r36.1) fun r37 =>
 some (r37.1, ()))))
def E (lf : Nat) : Entry := ⟨[.str, .str], [.str], fun x => f lf x.1 x.2.1⟩
theorem ok (lf : Nat) : Ok 65 (E lf) := okT (an := (annsL [])) (lf := lf) (tC (surveyorref01_Whole.ok lf) (tC (surveyorref01_order.ok lf) (tC (surveyorref01_cut.ok lf) (tC (surveyorref01_digits.ok lf) (tC (surveyorref01_short.ok lf) (tC (surveyorref01_number.ok lf) (tC (surveyorref01_Negative.ok lf) (tC (surveyorref01_made.ok lf) (tC (surveyorref01_plus.ok lf) (tC (surveyorref01_minus.ok lf) tN)))))))))) aoN fun x => by kernel_rfl
end surveyorref01_Sum
namespace surveyorref01_Negated
def f (lf : Nat) (a0 : ByteArray) : Option (ByteArray × Unit) :=
 br (a0.toList == (⟨#[48]⟩ : ByteArray).toList) (
 some (a0, ())) (
 bd (surveyorref01_Negative.f lf a0) fun r1 =>
 br r1.1 (
 bd (sCut a0 (some 1) none) fun r2 =>
 some (r2, ())) (
 bd (sCat (⟨#[45]⟩ : ByteArray) a0) fun r3 =>
 some (r3, ())))
def E (lf : Nat) : Entry := ⟨[.str], [.str], fun x => f lf x.1⟩
theorem ok (lf : Nat) : Ok 70 (E lf) := okT (an := (annsL [])) (lf := lf) (tC (surveyorref01_Negative.ok lf) tN) aoN fun x => by kernel_rfl
end surveyorref01_Negated
namespace surveyorref01_Diff
def f (lf : Nat) (a0 : ByteArray) (a1 : ByteArray) : Option (ByteArray × Unit) :=
 bd (surveyorref01_Negated.f lf a1) fun r1 =>
 bd (surveyorref01_Sum.f lf a0 r1.1) fun r2 =>
 some (r2.1, ())
def E (lf : Nat) : Entry := ⟨[.str, .str], [.str], fun x => f lf x.1 x.2.1⟩
theorem ok (lf : Nat) : Ok 66 (E lf) := okT (an := (annsL [])) (lf := lf) (tC (surveyorref01_Sum.ok lf) (tC (surveyorref01_Negated.ok lf) tN)) aoN fun x => by kernel_rfl
end surveyorref01_Diff
end
end Go.Q
