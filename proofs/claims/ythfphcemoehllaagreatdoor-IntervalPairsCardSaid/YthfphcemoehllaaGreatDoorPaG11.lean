import Derived.Test.YthfphcemoehllaaGreatDoorProg
import Derived.KernelRfl
import Derived.Test.YthfphcemoehllaaGreatDoorE3
import Derived.Test.YthfphcemoehllaaGreatDoorPaG6
set_option linter.unusedVariables false
set_option linter.unusedSimpArgs false
set_option linter.unusedSectionVars false
namespace Go.Q
open Go Go.RowKit
open Go.Rx (br bd sIdx sCat sCut iQuo iRem)
set_option linter.unusedVariables false
set_option linter.unusedSimpArgs false
set_option maxRecDepth 100000
noncomputable section
namespace surveyorref21_Few
noncomputable def f (lf : Nat) (a0 : (Bool × (ByteArray × (ByteArray × Unit)))) (a1 : (Bool × (ByteArray × (ByteArray × Unit)))) : Option (Bool × Unit) :=
 br (decide (((a0.2.1.size : Nat) : Int) ≤ 450)) (
 br (decide (((a0.2.2.1.size : Nat) : Int) ≤ 450)) (
 br (decide (((a1.2.1.size : Nat) : Int) ≤ 450)) (
 some ((decide (((a1.2.2.1.size : Nat) : Int) ≤ 450)), ())) (
 some (false, ()))) (
 some (false, ()))) (
 some (false, ()))
noncomputable def E (lf : Nat) : Entry := ⟨[(.pair .bool (.pair .str (.pair .str .unit))), (.pair .bool (.pair .str (.pair .str .unit)))], [.bool], fun x => f lf x.1 x.2.1⟩
theorem ok (lf : Nat) : Ok 11 (E lf) := okT (an := (annsL [])) (lf := lf) tN aoN fun x => by kernel_rfl
end surveyorref21_Few
namespace surveyorref21_Thresholds
noncomputable def anns : FuncId → FA := annsL [(20, ⟨annOf [(0, ⟨kx 37 [0, 3], [], []⟩, ⟨kx 37 [2], [], []⟩)], none, []⟩)]
noncomputable def r0 {ρ : Type} (lf : Nat) (v0 : (List ByteArray)) (v1 : Int) (K : Int → Option ρ) (E0 : Int → Option ρ) (E1 : Option ρ) : Option ρ :=
 br (decide (v1 < ((v0.length : Nat) : Int))) (
 bd (idxL v0 v1) fun y1 =>
 bd (surveyorref06_Number.f lf y1) fun r2 =>
 br (r2.1 != 0) (
 E0 r2.1) (
 br (decide (v1 > 0)) (
 bd (idxL v0 (IntKind.i64.wrap (v1 - 1))) fun y3 =>
 bd (idxL v0 v1) fun y4 =>
 bd (surveyorref01_Less.f lf y3 y4) fun r5 =>
 br (!r5.1) (
 E0 14) (
 K (IntKind.i64.wrap (v1 + 1)))) (
 K (IntKind.i64.wrap (v1 + 1))))) (
 E1)
noncomputable def l0 (lf : Nat) (v0 : (List ByteArray)) : Nat → Int → Option (Bool × (Int × Unit) × (Unit) × Unit)
 | 0, _ => none
 | n + 1, v1 => r0 lf v0 v1 (l0 lf v0 n) (fun w0 => some (true, (w0, ()), ((()), ()))) (some (false, (0, ()), ((()), ())))
noncomputable def sh0 : ShS := ⟨[.s (.sl .str), .a 2, .s (.int .i64), .a 33], []⟩
noncomputable def S0 (p : (List ByteArray) × Int × Unit) : St := sh0.b p
noncomputable def xh0 : ShS := ⟨[.a 2, .s (.int .i64), .a 34], []⟩
noncomputable def xh1 : ShS := ⟨[.a 37], []⟩
noncomputable def o0 (v0 : (List ByteArray)) (y : Bool × (Int × Unit) × (Unit) × Unit) : Alt := .two y.1 (.one .ret (xh0.b (y.2.1.1, ()))) (.one (.exit 0) (xh1.b (())))
noncomputable def tb (lf : Nat) : List (FuncId × Entry) := [(68, surveyorref01_Less.E lf), (69, surveyorref06_Number.E lf)]
noncomputable def s13_20 (lf : Nat) : List (Nat × (St → Option LTE)) := [(0, sumE sh0 fun (p : ((List ByteArray) × Int × Unit)) => ⟨Bool × (Int × Unit) × (Unit) × Unit, l0 lf p.1 (lf + 40) p.2.1, o0 p.1⟩)]
noncomputable def ls (lf : Nat) : List (Nat × FuncId × Sums) := [(13, 20, sumsL (s13_20 lf))]
noncomputable def it0 {ρ : Type} (lf n : Nat) (st : St) (k : KE ρ) : Option ρ := itG anns (ls lf) (tb lf) lf 13 20 0 0 (sumsL (s13_20 lf)) n st k
theorem t0 {ρ : Type} (lf n : Nat) (v0 : (List ByteArray)) (v1 : Int) (k : KE ρ) : it0 lf (n + 1) (S0 (v0, v1, ())) k = r0 lf v0 v1 (fun x0 => it0 lf n (S0 (v0, x0, ())) k) (fun w0 => k .ret (xh0.b (w0, ()))) (k (.exit 0) (xh1.b (()))) := by kernel_rfl
theorem u0 {ρ : Type} (lf : Nat) (v0 : (List ByteArray)) (k : KE ρ) : ∀ (n : Nat) (v1 : Int), it0 lf n (S0 (v0, v1, ())) k = bd (l0 lf v0 n v1) fun y => altK k (o0 v0 y)
 | 0, _ => by rw [l0, bd_none]; rfl
 | n + 1, v1 => by
  rw [t0]; simp only [l0, r0, u0 lf v0 k n, bd_br, bd_bd, bd_some', bd_none, br_t, br_f, o0, altK]
theorem sl (lf : Nat) : SL anns (ls lf) (tb lf) lf (ls lf) := slC (laC (fun _ => by kernel_rfl) (fun _ (x : ((List ByteArray) × Int × Unit)) k => leq_of (u0 lf x.1 k (lf + 40) x.2.1)) laN) slN
noncomputable def f (lf : Nat) (a0 : (List ByteArray)) : Option (Int × Unit) :=
 br (decide (((a0.length : Nat) : Int) > 1024)) (
 some (5, ())) (
 bd (l0 lf a0 (lf + 40) 0) fun z6 =>
 br z6.1 (
 some (z6.2.1.1, ())) (
 some (0, ())))
noncomputable def E (lf : Nat) : Entry := ⟨[(.sl .str)], [(.int .i64)], fun x => f lf x.1⟩
theorem ok (lf : Nat) : Ok 20 (E lf) := okL (tC (surveyorref01_Less.ok lf) (tC (surveyorref06_Number.ok lf) tN)) (aoC aoN) (sl lf) fun x => by kernel_rfl
end surveyorref21_Thresholds
namespace surveyorref21_bound
noncomputable def f (lf : Nat) (a0 : ByteArray) : Option (Int × Unit) :=
 br (a0.toList == (⟨#[]⟩ : ByteArray).toList) (
 some (0, ())) (
 bd (surveyorref06_Number.f lf a0) fun r1 =>
 some (r1.1, ()))
noncomputable def E (lf : Nat) : Entry := ⟨[.str], [(.int .i64)], fun x => f lf x.1⟩
theorem ok (lf : Nat) : Ok 67 (E lf) := okT (an := (annsL [])) (lf := lf) (tC (surveyorref06_Number.ok lf) tN) aoN fun x => by kernel_rfl
end surveyorref21_bound
namespace surveyorref21_Check
noncomputable def f (lf : Nat) (a0 : (Bool × (ByteArray × (ByteArray × Unit)))) : Option (Int × Unit) :=
 br a0.1 (
 br (!(a0.2.1.toList == (⟨#[]⟩ : ByteArray).toList)) (
 some (3, ())) (
 br (!(a0.2.2.1.toList == (⟨#[]⟩ : ByteArray).toList)) (
 some (3, ())) (
 bd (surveyorref21_bound.f lf a0.2.1) fun r1 =>
 br (r1.1 != 0) (
 some (r1.1, ())) (
 bd (surveyorref21_bound.f lf a0.2.2.1) fun r2 =>
 br (r2.1 != 0) (
 some (r2.1, ())) (
 br (!(a0.2.1.toList == (⟨#[]⟩ : ByteArray).toList)) (
 br (!(a0.2.2.1.toList == (⟨#[]⟩ : ByteArray).toList)) (
 bd (surveyorref01_Less.f lf a0.2.2.1 a0.2.1) fun r3 =>
 br r3.1 (
 some (14, ())) (
 some (0, ()))) (
 some (0, ()))) (
 some (0, ()))))))) (
 bd (surveyorref21_bound.f lf a0.2.1) fun r4 =>
 br (r4.1 != 0) (
 some (r4.1, ())) (
 bd (surveyorref21_bound.f lf a0.2.2.1) fun r5 =>
 br (r5.1 != 0) (
 some (r5.1, ())) (
 br (!(a0.2.1.toList == (⟨#[]⟩ : ByteArray).toList)) (
 br (!(a0.2.2.1.toList == (⟨#[]⟩ : ByteArray).toList)) (
 bd (surveyorref01_Less.f lf a0.2.2.1 a0.2.1) fun r6 =>
 br r6.1 (
 some (14, ())) (
 some (0, ()))) (
 some (0, ()))) (
 some (0, ())))))
noncomputable def E (lf : Nat) : Entry := ⟨[(.pair .bool (.pair .str (.pair .str .unit)))], [(.int .i64)], fun x => f lf x.1⟩
theorem ok (lf : Nat) : Ok 19 (E lf) := okT (an := (annsL [])) (lf := lf) (tC (surveyorref21_bound.ok lf) (tC (surveyorref01_Less.ok lf) tN)) aoN fun x => by kernel_rfl
end surveyorref21_Check
namespace surveyorref21_both
noncomputable def f (lf : Nat) (a0 : (Bool × (ByteArray × (ByteArray × Unit)))) (a1 : (Bool × (ByteArray × (ByteArray × Unit)))) : Option (Int × Unit) :=
 bd (surveyorref21_Check.f lf a0) fun r1 =>
 br (r1.1 != 0) (
 some (r1.1, ())) (
 bd (surveyorref21_Check.f lf a1) fun r2 =>
 some (r2.1, ()))
noncomputable def E (lf : Nat) : Entry := ⟨[(.pair .bool (.pair .str (.pair .str .unit))), (.pair .bool (.pair .str (.pair .str .unit)))], [(.int .i64)], fun x => f lf x.1 x.2.1⟩
theorem ok (lf : Nat) : Ok 60 (E lf) := okT (an := (annsL [])) (lf := lf) (tC (surveyorref21_Check.ok lf) tN) aoN fun x => by kernel_rfl
end surveyorref21_both
namespace surveyorref21_None
noncomputable def f (lf : Nat)  : Option ((Bool × (ByteArray × (ByteArray × Unit))) × Unit) :=
 some ((true, (⟨#[]⟩ : ByteArray), (⟨#[]⟩ : ByteArray), ()), ())
noncomputable def E (lf : Nat) : Entry := ⟨[], [(.pair .bool (.pair .str (.pair .str .unit)))], fun x => f lf ⟩
theorem ok (lf : Nat) : Ok 107 (E lf) := okT (an := (annsL [])) (lf := lf) tN aoN fun x => by kernel_rfl
end surveyorref21_None
namespace surveyorref21_clip
noncomputable def f (lf : Nat) (a0 : ByteArray) : Option (ByteArray × Unit) :=
 br (!(a0.toList == (⟨#[]⟩ : ByteArray).toList)) (
 bd (surveyorref01_Digits.f lf a0) fun r1 =>
 br (decide (r1.1 > 100)) (
 some ((⟨#[]⟩ : ByteArray), ())) (
 some (a0, ()))) (
 some (a0, ()))
noncomputable def E (lf : Nat) : Entry := ⟨[.str], [.str], fun x => f lf x.1⟩
theorem ok (lf : Nat) : Ok 134 (E lf) := okT (an := (annsL [])) (lf := lf) (tC (surveyorref01_Digits.ok lf) tN) aoN fun x => by kernel_rfl
end surveyorref21_clip
namespace surveyorref21_Range
noncomputable def f (lf : Nat) (a0 : ByteArray) (a1 : ByteArray) : Option ((Bool × (ByteArray × (ByteArray × Unit))) × Unit) :=
 br (!(a0.toList == (⟨#[]⟩ : ByteArray).toList)) (
 br (!(a1.toList == (⟨#[]⟩ : ByteArray).toList)) (
 bd (surveyorref01_Less.f lf a1 a0) fun r1 =>
 br r1.1 (
 bd (surveyorref21_None.f lf) fun r2 =>
 some (r2.1, ())) (
 bd (surveyorref21_clip.f lf a0) fun r3 =>
 bd (surveyorref21_clip.f lf a1) fun r4 =>
 some ((false, r3.1, r4.1, ()), ()))) (
 bd (surveyorref21_clip.f lf a0) fun r5 =>
 bd (surveyorref21_clip.f lf a1) fun r6 =>
 some ((false, r5.1, r6.1, ()), ()))) (
 bd (surveyorref21_clip.f lf a0) fun r7 =>
 bd (surveyorref21_clip.f lf a1) fun r8 =>
 some ((false, r7.1, r8.1, ()), ()))
noncomputable def E (lf : Nat) : Entry := ⟨[.str, .str], [(.pair .bool (.pair .str (.pair .str .unit)))], fun x => f lf x.1 x.2.1⟩
theorem ok (lf : Nat) : Ok 86 (E lf) := okT (an := (annsL [])) (lf := lf) (tC (surveyorref01_Less.ok lf) (tC (surveyorref21_None.ok lf) (tC (surveyorref21_clip.ok lf) tN))) aoN fun x => by kernel_rfl
end surveyorref21_Range
namespace surveyorref21_least
noncomputable def f (lf : Nat) (a0 : ByteArray) (a1 : ByteArray) : Option (ByteArray × Unit) :=
 br (a0.toList == (⟨#[]⟩ : ByteArray).toList) (
 some ((⟨#[]⟩ : ByteArray), ())) (
 br (a1.toList == (⟨#[]⟩ : ByteArray).toList) (
 some ((⟨#[]⟩ : ByteArray), ())) (
 bd (surveyorref01_Less.f lf a1 a0) fun r1 =>
 br r1.1 (
 some (a1, ())) (
 some (a0, ()))))
noncomputable def E (lf : Nat) : Entry := ⟨[.str, .str], [.str], fun x => f lf x.1 x.2.1⟩
theorem ok (lf : Nat) : Ok 121 (E lf) := okT (an := (annsL [])) (lf := lf) (tC (surveyorref01_Less.ok lf) tN) aoN fun x => by kernel_rfl
end surveyorref21_least
namespace surveyorref21_greatest
noncomputable def f (lf : Nat) (a0 : ByteArray) (a1 : ByteArray) : Option (ByteArray × Unit) :=
 br (a0.toList == (⟨#[]⟩ : ByteArray).toList) (
 some ((⟨#[]⟩ : ByteArray), ())) (
 br (a1.toList == (⟨#[]⟩ : ByteArray).toList) (
 some ((⟨#[]⟩ : ByteArray), ())) (
 bd (surveyorref01_Less.f lf a0 a1) fun r1 =>
 br r1.1 (
 some (a1, ())) (
 some (a0, ()))))
noncomputable def E (lf : Nat) : Entry := ⟨[.str, .str], [.str], fun x => f lf x.1 x.2.1⟩
theorem ok (lf : Nat) : Ok 122 (E lf) := okT (an := (annsL [])) (lf := lf) (tC (surveyorref01_Less.ok lf) tN) aoN fun x => by kernel_rfl
end surveyorref21_greatest
namespace surveyorref21_Joined
noncomputable def f (lf : Nat) (a0 : (Bool × (ByteArray × (ByteArray × Unit)))) (a1 : (Bool × (ByteArray × (ByteArray × Unit)))) : Option ((Bool × (ByteArray × (ByteArray × Unit))) × Unit) :=
 br a0.1 (
 some (a1, ())) (
 br a1.1 (
 some (a0, ())) (
 bd (surveyorref21_least.f lf a0.2.1 a1.2.1) fun r1 =>
 bd (surveyorref21_greatest.f lf a0.2.2.1 a1.2.2.1) fun r2 =>
 bd (surveyorref21_Range.f lf r1.1 r2.1) fun r3 =>
 some (r3.1, ())))
noncomputable def E (lf : Nat) : Entry := ⟨[(.pair .bool (.pair .str (.pair .str .unit))), (.pair .bool (.pair .str (.pair .str .unit)))], [(.pair .bool (.pair .str (.pair .str .unit)))], fun x => f lf x.1 x.2.1⟩
theorem ok (lf : Nat) : Ok 79 (E lf) := okT (an := (annsL [])) (lf := lf) (tC (surveyorref21_Range.ok lf) (tC (surveyorref21_least.ok lf) (tC (surveyorref21_greatest.ok lf) tN))) aoN fun x => by kernel_rfl
end surveyorref21_Joined
namespace surveyorref21_Below
noncomputable def anns : FuncId → FA := annsL [(104, ⟨annOf [(0, ⟨kx 29 [0, 1, 5, 6], [], []⟩, ⟨kx 29 [4, 5], [], []⟩)], none, []⟩)]
noncomputable def r0 {ρ : Type} (lf : Nat) (v0 : (List ByteArray)) (v1 : ByteArray) (v2 : ByteArray) (v3 : Int) (K : ByteArray → Int → Option ρ) (E0 : ByteArray → Option ρ) : Option ρ :=
 br (decide (v3 < ((v0.length : Nat) : Int))) (
 br (!(v1.toList == (⟨#[]⟩ : ByteArray).toList)) (
 bd (idxL v0 v3) fun y1 =>
 bd (surveyorref01_Less.f lf v1 y1) fun r2 =>
 br (!r2.1) (
 bd (idxL v0 v3) fun y3 =>
 K y3 (IntKind.i64.wrap (v3 + 1))) (
 K v2 (IntKind.i64.wrap (v3 + 1)))) (
 K v2 (IntKind.i64.wrap (v3 + 1)))) (
 E0 v2)
noncomputable def l0 (lf : Nat) (v0 : (List ByteArray)) (v1 : ByteArray) : Nat → ByteArray → Int → Option ((ByteArray × Unit) × Unit)
 | 0, _, _ => none
 | n + 1, v2, v3 => r0 lf v0 v1 v2 v3 (l0 lf v0 v1 n) (fun w0 => some ((w0, ()), ()))
noncomputable def sh0 : ShS := ⟨[.s (.sl .str), .s .str, .a 3, .s .str, .s (.int .i64), .a 22], []⟩
noncomputable def S0 (p : (List ByteArray) × ByteArray × ByteArray × Int × Unit) : St := sh0.b p
noncomputable def xh0 : ShS := ⟨[.a 5, .s .str, .a 23], []⟩
noncomputable def o0 (v0 : (List ByteArray)) (v1 : ByteArray) (y : (ByteArray × Unit) × Unit) : Alt := .one (.exit 0) (xh0.b (y.1.1, ()))
noncomputable def tb (lf : Nat) : List (FuncId × Entry) := [(68, surveyorref01_Less.E lf)]
noncomputable def s13_104 (lf : Nat) : List (Nat × (St → Option LTE)) := [(0, sumE sh0 fun (p : ((List ByteArray) × ByteArray × ByteArray × Int × Unit)) => ⟨(ByteArray × Unit) × Unit, l0 lf p.1 p.2.1 (lf + 40) p.2.2.1 p.2.2.2.1, o0 p.1 p.2.1⟩)]
noncomputable def ls (lf : Nat) : List (Nat × FuncId × Sums) := [(13, 104, sumsL (s13_104 lf))]
noncomputable def it0 {ρ : Type} (lf n : Nat) (st : St) (k : KE ρ) : Option ρ := itG anns (ls lf) (tb lf) lf 13 104 0 0 (sumsL (s13_104 lf)) n st k
theorem t0 {ρ : Type} (lf n : Nat) (v0 : (List ByteArray)) (v1 v2 : ByteArray) (v3 : Int) (k : KE ρ) : it0 lf (n + 1) (S0 (v0, v1, v2, v3, ())) k = r0 lf v0 v1 v2 v3 (fun x0 x1 => it0 lf n (S0 (v0, v1, x0, x1, ())) k) (fun w0 => k (.exit 0) (xh0.b (w0, ()))) := by kernel_rfl
theorem u0 {ρ : Type} (lf : Nat) (v0 : (List ByteArray)) (v1 : ByteArray) (k : KE ρ) : ∀ (n : Nat) (v2 : ByteArray) (v3 : Int), it0 lf n (S0 (v0, v1, v2, v3, ())) k = bd (l0 lf v0 v1 n v2 v3) fun y => altK k (o0 v0 v1 y)
 | 0, _, _ => by rw [l0, bd_none]; rfl
 | n + 1, v2, v3 => by
  rw [t0]; simp only [l0, r0, u0 lf v0 v1 k n, bd_br, bd_bd, bd_some', bd_none, br_t, br_f, o0, altK]
theorem sl (lf : Nat) : SL anns (ls lf) (tb lf) lf (ls lf) := slC (laC (fun _ => by kernel_rfl) (fun _ (x : ((List ByteArray) × ByteArray × ByteArray × Int × Unit)) k => leq_of (u0 lf x.1 x.2.1 k (lf + 40) x.2.2.1 x.2.2.2.1)) laN) slN
noncomputable def f (lf : Nat) (a0 : (List ByteArray)) (a1 : ByteArray) : Option (ByteArray × Unit) :=
 bd (l0 lf a0 a1 (lf + 40) (⟨#[]⟩ : ByteArray) 0) fun z4 =>
 some (z4.1.1, ())
noncomputable def E (lf : Nat) : Entry := ⟨[(.sl .str), .str], [.str], fun x => f lf x.1 x.2.1⟩
theorem ok (lf : Nat) : Ok 104 (E lf) := okL (tC (surveyorref01_Less.ok lf) tN) (aoC aoN) (sl lf) fun x => by kernel_rfl
end surveyorref21_Below
namespace surveyorref21_Above
noncomputable def anns : FuncId → FA := annsL [(105, ⟨annOf [(0, ⟨kx 27 [0, 1, 5], [], []⟩, ⟨kx 27 [4], [], []⟩)], none, []⟩)]
noncomputable def r0 {ρ : Type} (lf : Nat) (v0 : (List ByteArray)) (v1 : ByteArray) (v2 : Int) (K : Int → Option ρ) (E0 : ByteArray → Option ρ) (E1 : Option ρ) : Option ρ :=
 br (decide (v2 < ((v0.length : Nat) : Int))) (
 br (!(v1.toList == (⟨#[]⟩ : ByteArray).toList)) (
 bd (idxL v0 v2) fun y1 =>
 bd (surveyorref01_Less.f lf y1 v1) fun r2 =>
 br (!r2.1) (
 bd (idxL v0 v2) fun y3 =>
 E0 y3) (
 K (IntKind.i64.wrap (v2 + 1)))) (
 K (IntKind.i64.wrap (v2 + 1)))) (
 E1)
noncomputable def l0 (lf : Nat) (v0 : (List ByteArray)) (v1 : ByteArray) : Nat → Int → Option (Bool × (ByteArray × Unit) × (Unit) × Unit)
 | 0, _ => none
 | n + 1, v2 => r0 lf v0 v1 v2 (l0 lf v0 v1 n) (fun w0 => some (true, (w0, ()), ((()), ()))) (some (false, ((⟨#[]⟩ : ByteArray), ()), ((()), ())))
noncomputable def sh0 : ShS := ⟨[.s (.sl .str), .s .str, .a 3, .s (.int .i64), .a 21], []⟩
noncomputable def S0 (p : (List ByteArray) × ByteArray × Int × Unit) : St := sh0.b p
noncomputable def xh0 : ShS := ⟨[.a 4, .s .str, .a 22], []⟩
noncomputable def xh1 : ShS := ⟨[.a 27], []⟩
noncomputable def o0 (v0 : (List ByteArray)) (v1 : ByteArray) (y : Bool × (ByteArray × Unit) × (Unit) × Unit) : Alt := .two y.1 (.one .ret (xh0.b (y.2.1.1, ()))) (.one (.exit 0) (xh1.b (())))
noncomputable def tb (lf : Nat) : List (FuncId × Entry) := [(68, surveyorref01_Less.E lf)]
noncomputable def s13_105 (lf : Nat) : List (Nat × (St → Option LTE)) := [(0, sumE sh0 fun (p : ((List ByteArray) × ByteArray × Int × Unit)) => ⟨Bool × (ByteArray × Unit) × (Unit) × Unit, l0 lf p.1 p.2.1 (lf + 40) p.2.2.1, o0 p.1 p.2.1⟩)]
noncomputable def ls (lf : Nat) : List (Nat × FuncId × Sums) := [(13, 105, sumsL (s13_105 lf))]
noncomputable def it0 {ρ : Type} (lf n : Nat) (st : St) (k : KE ρ) : Option ρ := itG anns (ls lf) (tb lf) lf 13 105 0 0 (sumsL (s13_105 lf)) n st k
theorem t0 {ρ : Type} (lf n : Nat) (v0 : (List ByteArray)) (v1 : ByteArray) (v2 : Int) (k : KE ρ) : it0 lf (n + 1) (S0 (v0, v1, v2, ())) k = r0 lf v0 v1 v2 (fun x0 => it0 lf n (S0 (v0, v1, x0, ())) k) (fun w0 => k .ret (xh0.b (w0, ()))) (k (.exit 0) (xh1.b (()))) := by kernel_rfl
theorem u0 {ρ : Type} (lf : Nat) (v0 : (List ByteArray)) (v1 : ByteArray) (k : KE ρ) : ∀ (n : Nat) (v2 : Int), it0 lf n (S0 (v0, v1, v2, ())) k = bd (l0 lf v0 v1 n v2) fun y => altK k (o0 v0 v1 y)
 | 0, _ => by rw [l0, bd_none]; rfl
 | n + 1, v2 => by
  rw [t0]; simp only [l0, r0, u0 lf v0 v1 k n, bd_br, bd_bd, bd_some', bd_none, br_t, br_f, o0, altK]
theorem sl (lf : Nat) : SL anns (ls lf) (tb lf) lf (ls lf) := slC (laC (fun _ => by kernel_rfl) (fun _ (x : ((List ByteArray) × ByteArray × Int × Unit)) k => leq_of (u0 lf x.1 x.2.1 k (lf + 40) x.2.2.1)) laN) slN
noncomputable def f (lf : Nat) (a0 : (List ByteArray)) (a1 : ByteArray) : Option (ByteArray × Unit) :=
 bd (l0 lf a0 a1 (lf + 40) 0) fun z4 =>
 br z4.1 (
 some (z4.2.1.1, ())) (
 some ((⟨#[]⟩ : ByteArray), ()))
noncomputable def E (lf : Nat) : Entry := ⟨[(.sl .str), .str], [.str], fun x => f lf x.1 x.2.1⟩
theorem ok (lf : Nat) : Ok 105 (E lf) := okL (tC (surveyorref01_Less.ok lf) tN) (aoC aoN) (sl lf) fun x => by kernel_rfl
end surveyorref21_Above
namespace surveyorref21_Widened
noncomputable def f (lf : Nat) (a0 : (Bool × (ByteArray × (ByteArray × Unit)))) (a1 : (Bool × (ByteArray × (ByteArray × Unit)))) (a2 : (List ByteArray)) : Option ((Bool × (ByteArray × (ByteArray × Unit))) × Unit) :=
 br a0.1 (
 some (a1, ())) (
 br a1.1 (
 some (a0, ())) (
 bd (surveyorref21_Joined.f lf a0 a1) fun r1 =>
 br (!(r1.1.2.1.toList == a0.2.1.toList)) (
 bd (surveyorref21_Below.f lf a2 r1.1.2.1) fun r2 =>
 br (!(r1.1.2.2.1.toList == a0.2.2.1.toList)) (
 bd (surveyorref21_Above.f lf a2 r1.1.2.2.1) fun r3 =>
 some ((r1.1.1, r2.1, r3.1, ()), ())) (
 some ((r1.1.1, r2.1, r1.1.2.2.1, ()), ()))) (
 br (!(r1.1.2.2.1.toList == a0.2.2.1.toList)) (
 bd (surveyorref21_Above.f lf a2 r1.1.2.2.1) fun r4 =>
 some ((r1.1.1, r1.1.2.1, r4.1, ()), ())) (
 some (r1.1, ())))))
noncomputable def E (lf : Nat) : Entry := ⟨[(.pair .bool (.pair .str (.pair .str .unit))), (.pair .bool (.pair .str (.pair .str .unit))), (.sl .str)], [(.pair .bool (.pair .str (.pair .str .unit)))], fun x => f lf x.1 x.2.1 x.2.2.1⟩
theorem ok (lf : Nat) : Ok 61 (E lf) := okT (an := (annsL [])) (lf := lf) (tC (surveyorref21_Joined.ok lf) (tC (surveyorref21_Below.ok lf) (tC (surveyorref21_Above.ok lf) tN))) aoN fun x => by kernel_rfl
end surveyorref21_Widened
namespace surveyorref21_Widen
noncomputable def f (lf : Nat) (a0 : (Bool × (ByteArray × (ByteArray × Unit)))) (a1 : (Bool × (ByteArray × (ByteArray × Unit)))) (a2 : (List ByteArray)) : Option ((Bool × (ByteArray × (ByteArray × Unit))) × Int × Unit) :=
 bd (surveyorref21_both.f lf a0 a1) fun r1 =>
 br (r1.1 != 0) (
 some ((false, (⟨#[]⟩ : ByteArray), (⟨#[]⟩ : ByteArray), ()), r1.1, ())) (
 bd (surveyorref21_Thresholds.f lf a2) fun r2 =>
 br (r2.1 != 0) (
 some ((false, (⟨#[]⟩ : ByteArray), (⟨#[]⟩ : ByteArray), ()), r2.1, ())) (
 bd (surveyorref21_Widened.f lf a0 a1 a2) fun r3 =>
 some (r3.1, 0, ())))
noncomputable def E (lf : Nat) : Entry := ⟨[(.pair .bool (.pair .str (.pair .str .unit))), (.pair .bool (.pair .str (.pair .str .unit))), (.sl .str)], [(.pair .bool (.pair .str (.pair .str .unit))), (.int .i64)], fun x => f lf x.1 x.2.1 x.2.2.1⟩
theorem ok (lf : Nat) : Ok 14 (E lf) := okT (an := (annsL [])) (lf := lf) (tC (surveyorref21_Thresholds.ok lf) (tC (surveyorref21_both.ok lf) (tC (surveyorref21_Widened.ok lf) tN))) aoN fun x => by kernel_rfl
end surveyorref21_Widen
namespace surveyorref21_Narrowed
noncomputable def f (lf : Nat) (a0 : (Bool × (ByteArray × (ByteArray × Unit)))) (a1 : (Bool × (ByteArray × (ByteArray × Unit)))) : Option ((Bool × (ByteArray × (ByteArray × Unit))) × Unit) :=
 br a0.1 (
 bd (surveyorref21_None.f lf) fun r1 =>
 some (r1.1, ())) (
 br a1.1 (
 bd (surveyorref21_None.f lf) fun r2 =>
 some (r2.1, ())) (
 br (a0.2.1.toList == (⟨#[]⟩ : ByteArray).toList) (
 br (a0.2.2.1.toList == (⟨#[]⟩ : ByteArray).toList) (
 bd (surveyorref21_Range.f lf a1.2.1 a1.2.2.1) fun r3 =>
 some (r3.1, ())) (
 bd (surveyorref21_Range.f lf a1.2.1 a0.2.2.1) fun r4 =>
 some (r4.1, ()))) (
 br (a0.2.2.1.toList == (⟨#[]⟩ : ByteArray).toList) (
 bd (surveyorref21_Range.f lf a0.2.1 a1.2.2.1) fun r5 =>
 some (r5.1, ())) (
 bd (surveyorref21_Range.f lf a0.2.1 a0.2.2.1) fun r6 =>
 some (r6.1, ())))))
noncomputable def E (lf : Nat) : Entry := ⟨[(.pair .bool (.pair .str (.pair .str .unit))), (.pair .bool (.pair .str (.pair .str .unit)))], [(.pair .bool (.pair .str (.pair .str .unit)))], fun x => f lf x.1 x.2.1⟩
theorem ok (lf : Nat) : Ok 65 (E lf) := okT (an := (annsL [])) (lf := lf) (tC (surveyorref21_Range.ok lf) (tC (surveyorref21_None.ok lf) tN)) aoN fun x => by kernel_rfl
end surveyorref21_Narrowed
namespace surveyorref21_Narrow
noncomputable def f (lf : Nat) (a0 : (Bool × (ByteArray × (ByteArray × Unit)))) (a1 : (Bool × (ByteArray × (ByteArray × Unit)))) : Option ((Bool × (ByteArray × (ByteArray × Unit))) × Int × Unit) :=
 bd (surveyorref21_both.f lf a0 a1) fun r1 =>
 br (r1.1 != 0) (
 some ((false, (⟨#[]⟩ : ByteArray), (⟨#[]⟩ : ByteArray), ()), r1.1, ())) (
 bd (surveyorref21_Narrowed.f lf a0 a1) fun r2 =>
 some (r2.1, 0, ()))
noncomputable def E (lf : Nat) : Entry := ⟨[(.pair .bool (.pair .str (.pair .str .unit))), (.pair .bool (.pair .str (.pair .str .unit)))], [(.pair .bool (.pair .str (.pair .str .unit))), (.int .i64)], fun x => f lf x.1 x.2.1⟩
theorem ok (lf : Nat) : Ok 16 (E lf) := okT (an := (annsL [])) (lf := lf) (tC (surveyorref21_both.ok lf) (tC (surveyorref21_Narrowed.ok lf) tN)) aoN fun x => by kernel_rfl
end surveyorref21_Narrow
namespace surveyorref21_Text
noncomputable def f (lf : Nat) (a0 : (Bool × (ByteArray × (ByteArray × Unit)))) : Option (ByteArray × Unit) :=
 br a0.1 (
 some ((⟨#[101, 109, 112, 116, 121]⟩ : ByteArray), ())) (
 br (a0.2.1.toList == (⟨#[]⟩ : ByteArray).toList) (
 br (a0.2.2.1.toList == (⟨#[]⟩ : ByteArray).toList) (
 bd (sCat (⟨#[91]⟩ : ByteArray) (⟨#[45, 105, 110, 102]⟩ : ByteArray)) fun r1 =>
 bd (sCat r1 (⟨#[44, 32]⟩ : ByteArray)) fun r2 =>
 bd (sCat r2 (⟨#[43, 105, 110, 102]⟩ : ByteArray)) fun r3 =>
 bd (sCat r3 (⟨#[93]⟩ : ByteArray)) fun r4 =>
 some (r4, ())) (
 bd (sCat (⟨#[91]⟩ : ByteArray) (⟨#[45, 105, 110, 102]⟩ : ByteArray)) fun r5 =>
 bd (sCat r5 (⟨#[44, 32]⟩ : ByteArray)) fun r6 =>
 bd (sCat r6 a0.2.2.1) fun r7 =>
 bd (sCat r7 (⟨#[93]⟩ : ByteArray)) fun r8 =>
 some (r8, ()))) (
 br (a0.2.2.1.toList == (⟨#[]⟩ : ByteArray).toList) (
 bd (sCat (⟨#[91]⟩ : ByteArray) a0.2.1) fun r9 =>
 bd (sCat r9 (⟨#[44, 32]⟩ : ByteArray)) fun r10 =>
 bd (sCat r10 (⟨#[43, 105, 110, 102]⟩ : ByteArray)) fun r11 =>
 bd (sCat r11 (⟨#[93]⟩ : ByteArray)) fun r12 =>
 some (r12, ())) (
 bd (sCat (⟨#[91]⟩ : ByteArray) a0.2.1) fun r13 =>
 bd (sCat r13 (⟨#[44, 32]⟩ : ByteArray)) fun r14 =>
 bd (sCat r14 a0.2.2.1) fun r15 =>
 bd (sCat r15 (⟨#[93]⟩ : ByteArray)) fun r16 =>
 some (r16, ()))))
noncomputable def E (lf : Nat) : Entry := ⟨[(.pair .bool (.pair .str (.pair .str .unit)))], [.str], fun x => f lf x.1⟩
theorem ok (lf : Nat) : Ok 66 (E lf) := okT (an := (annsL [])) (lf := lf) tN aoN fun x => by kernel_rfl
end surveyorref21_Text
namespace surveyorref21_Format
noncomputable def f (lf : Nat) (a0 : (Bool × (ByteArray × (ByteArray × Unit)))) : Option (ByteArray × Int × Unit) :=
 bd (surveyorref21_Check.f lf a0) fun r1 =>
 br (r1.1 != 0) (
 some ((⟨#[]⟩ : ByteArray), r1.1, ())) (
 bd (surveyorref21_Text.f lf a0) fun r2 =>
 some (r2.1, 0, ()))
noncomputable def E (lf : Nat) : Entry := ⟨[(.pair .bool (.pair .str (.pair .str .unit)))], [.str, (.int .i64)], fun x => f lf x.1⟩
theorem ok (lf : Nat) : Ok 18 (E lf) := okT (an := (annsL [])) (lf := lf) (tC (surveyorref21_Check.ok lf) (tC (surveyorref21_Text.ok lf) tN)) aoN fun x => by kernel_rfl
end surveyorref21_Format
namespace surveyorref21_In
noncomputable def f (lf : Nat) (a0 : (Bool × (ByteArray × (ByteArray × Unit)))) (a1 : ByteArray) : Option (Bool × Unit) :=
 br (!a0.1) (
 br (a0.2.1.toList == (⟨#[]⟩ : ByteArray).toList) (
 br (a0.2.2.1.toList == (⟨#[]⟩ : ByteArray).toList) (
 some (true, ())) (
 bd (surveyorref01_Less.f lf a0.2.2.1 a1) fun r1 =>
 some ((!r1.1), ()))) (
 bd (surveyorref01_Less.f lf a1 a0.2.1) fun r2 =>
 br (!r2.1) (
 br (a0.2.2.1.toList == (⟨#[]⟩ : ByteArray).toList) (
 some (true, ())) (
 bd (surveyorref01_Less.f lf a0.2.2.1 a1) fun r3 =>
 some ((!r3.1), ()))) (
 some (false, ())))) (
 some (false, ()))
noncomputable def E (lf : Nat) : Entry := ⟨[(.pair .bool (.pair .str (.pair .str .unit))), .str], [.bool], fun x => f lf x.1 x.2.1⟩
theorem ok (lf : Nat) : Ok 28 (E lf) := okT (an := (annsL [])) (lf := lf) (tC (surveyorref01_Less.ok lf) tN) aoN fun x => by kernel_rfl
end surveyorref21_In
namespace surveyorref21_Inside
noncomputable def f (lf : Nat) (a0 : (Bool × (ByteArray × (ByteArray × Unit)))) (a1 : (Bool × (ByteArray × (ByteArray × Unit)))) : Option (Bool × Unit) :=
 br a0.1 (
 some (a0.1, ())) (
 br a1.1 (
 some (a0.1, ())) (
 br (a1.2.1.toList == (⟨#[]⟩ : ByteArray).toList) (
 br (a1.2.2.1.toList == (⟨#[]⟩ : ByteArray).toList) (
 some (true, ())) (
 br (!(a0.2.2.1.toList == (⟨#[]⟩ : ByteArray).toList)) (
 bd (surveyorref01_Less.f lf a1.2.2.1 a0.2.2.1) fun r1 =>
 some ((!r1.1), ())) (
 some (false, ())))) (
 br (!(a0.2.1.toList == (⟨#[]⟩ : ByteArray).toList)) (
 bd (surveyorref01_Less.f lf a0.2.1 a1.2.1) fun r2 =>
 br (a1.2.2.1.toList == (⟨#[]⟩ : ByteArray).toList) (
 br (!r2.1) (
 some (true, ())) (
 some (false, ()))) (
 br (!(a0.2.2.1.toList == (⟨#[]⟩ : ByteArray).toList)) (
 bd (surveyorref01_Less.f lf a1.2.2.1 a0.2.2.1) fun r3 =>
 br (!r2.1) (
 some ((!r3.1), ())) (
 some (false, ()))) (
 br (!r2.1) (
 some (false, ())) (
 some (false, ()))))) (
 br (a1.2.2.1.toList == (⟨#[]⟩ : ByteArray).toList) (
 some (false, ())) (
 br (!(a0.2.2.1.toList == (⟨#[]⟩ : ByteArray).toList)) (
 bd (surveyorref01_Less.f lf a1.2.2.1 a0.2.2.1) fun r4 =>
 some (false, ())) (
 some (false, ())))))))
noncomputable def E (lf : Nat) : Entry := ⟨[(.pair .bool (.pair .str (.pair .str .unit))), (.pair .bool (.pair .str (.pair .str .unit)))], [.bool], fun x => f lf x.1 x.2.1⟩
theorem ok (lf : Nat) : Ok 78 (E lf) := okT (an := (annsL [])) (lf := lf) (tC (surveyorref01_Less.ok lf) tN) aoN fun x => by kernel_rfl
end surveyorref21_Inside
namespace surveyorref21_Leq
noncomputable def f (lf : Nat) (a0 : (Bool × (ByteArray × (ByteArray × Unit)))) (a1 : (Bool × (ByteArray × (ByteArray × Unit)))) : Option (Bool × Int × Unit) :=
 bd (surveyorref21_both.f lf a0 a1) fun r1 =>
 br (r1.1 != 0) (
 some (false, r1.1, ())) (
 bd (surveyorref21_Inside.f lf a0 a1) fun r2 =>
 some (r2.1, 0, ()))
noncomputable def E (lf : Nat) : Entry := ⟨[(.pair .bool (.pair .str (.pair .str .unit))), (.pair .bool (.pair .str (.pair .str .unit)))], [.bool, (.int .i64)], fun x => f lf x.1 x.2.1⟩
theorem ok (lf : Nat) : Ok 32 (E lf) := okT (an := (annsL [])) (lf := lf) (tC (surveyorref21_both.ok lf) (tC (surveyorref21_Inside.ok lf) tN)) aoN fun x => by kernel_rfl
end surveyorref21_Leq
namespace surveyorref21_Join
noncomputable def f (lf : Nat) (a0 : (Bool × (ByteArray × (ByteArray × Unit)))) (a1 : (Bool × (ByteArray × (ByteArray × Unit)))) : Option ((Bool × (ByteArray × (ByteArray × Unit))) × Int × Unit) :=
 bd (surveyorref21_both.f lf a0 a1) fun r1 =>
 br (r1.1 != 0) (
 some ((false, (⟨#[]⟩ : ByteArray), (⟨#[]⟩ : ByteArray), ()), r1.1, ())) (
 bd (surveyorref21_Joined.f lf a0 a1) fun r2 =>
 some (r2.1, 0, ()))
noncomputable def E (lf : Nat) : Entry := ⟨[(.pair .bool (.pair .str (.pair .str .unit))), (.pair .bool (.pair .str (.pair .str .unit)))], [(.pair .bool (.pair .str (.pair .str .unit))), (.int .i64)], fun x => f lf x.1 x.2.1⟩
theorem ok (lf : Nat) : Ok 33 (E lf) := okT (an := (annsL [])) (lf := lf) (tC (surveyorref21_both.ok lf) (tC (surveyorref21_Joined.ok lf) tN)) aoN fun x => by kernel_rfl
end surveyorref21_Join
namespace surveyorref21_lower
noncomputable def f (lf : Nat) (a0 : ByteArray) (a1 : ByteArray) : Option (ByteArray × Unit) :=
 br (a0.toList == (⟨#[]⟩ : ByteArray).toList) (
 some (a1, ())) (
 br (a1.toList == (⟨#[]⟩ : ByteArray).toList) (
 some (a0, ())) (
 bd (surveyorref21_greatest.f lf a0 a1) fun r1 =>
 some (r1.1, ())))
noncomputable def E (lf : Nat) : Entry := ⟨[.str, .str], [.str], fun x => f lf x.1 x.2.1⟩
theorem ok (lf : Nat) : Ok 123 (E lf) := okT (an := (annsL [])) (lf := lf) (tC (surveyorref21_greatest.ok lf) tN) aoN fun x => by kernel_rfl
end surveyorref21_lower
namespace surveyorref21_upper
noncomputable def f (lf : Nat) (a0 : ByteArray) (a1 : ByteArray) : Option (ByteArray × Unit) :=
 br (a0.toList == (⟨#[]⟩ : ByteArray).toList) (
 some (a1, ())) (
 br (a1.toList == (⟨#[]⟩ : ByteArray).toList) (
 some (a0, ())) (
 bd (surveyorref21_least.f lf a0 a1) fun r1 =>
 some (r1.1, ())))
noncomputable def E (lf : Nat) : Entry := ⟨[.str, .str], [.str], fun x => f lf x.1 x.2.1⟩
theorem ok (lf : Nat) : Ok 124 (E lf) := okT (an := (annsL [])) (lf := lf) (tC (surveyorref21_least.ok lf) tN) aoN fun x => by kernel_rfl
end surveyorref21_upper
namespace surveyorref21_Met
noncomputable def f (lf : Nat) (a0 : (Bool × (ByteArray × (ByteArray × Unit)))) (a1 : (Bool × (ByteArray × (ByteArray × Unit)))) : Option ((Bool × (ByteArray × (ByteArray × Unit))) × Unit) :=
 br a0.1 (
 bd (surveyorref21_None.f lf) fun r1 =>
 some (r1.1, ())) (
 br a1.1 (
 bd (surveyorref21_None.f lf) fun r2 =>
 some (r2.1, ())) (
 bd (surveyorref21_lower.f lf a0.2.1 a1.2.1) fun r3 =>
 bd (surveyorref21_upper.f lf a0.2.2.1 a1.2.2.1) fun r4 =>
 bd (surveyorref21_Range.f lf r3.1 r4.1) fun r5 =>
 some (r5.1, ())))
noncomputable def E (lf : Nat) : Entry := ⟨[(.pair .bool (.pair .str (.pair .str .unit))), (.pair .bool (.pair .str (.pair .str .unit)))], [(.pair .bool (.pair .str (.pair .str .unit)))], fun x => f lf x.1 x.2.1⟩
theorem ok (lf : Nat) : Ok 80 (E lf) := okT (an := (annsL [])) (lf := lf) (tC (surveyorref21_Range.ok lf) (tC (surveyorref21_None.ok lf) (tC (surveyorref21_lower.ok lf) (tC (surveyorref21_upper.ok lf) tN)))) aoN fun x => by kernel_rfl
end surveyorref21_Met
namespace surveyorref21_Meet
noncomputable def f (lf : Nat) (a0 : (Bool × (ByteArray × (ByteArray × Unit)))) (a1 : (Bool × (ByteArray × (ByteArray × Unit)))) : Option ((Bool × (ByteArray × (ByteArray × Unit))) × Int × Unit) :=
 bd (surveyorref21_both.f lf a0 a1) fun r1 =>
 br (r1.1 != 0) (
 some ((false, (⟨#[]⟩ : ByteArray), (⟨#[]⟩ : ByteArray), ()), r1.1, ())) (
 bd (surveyorref21_Met.f lf a0 a1) fun r2 =>
 some (r2.1, 0, ()))
noncomputable def E (lf : Nat) : Entry := ⟨[(.pair .bool (.pair .str (.pair .str .unit))), (.pair .bool (.pair .str (.pair .str .unit)))], [(.pair .bool (.pair .str (.pair .str .unit))), (.int .i64)], fun x => f lf x.1 x.2.1⟩
theorem ok (lf : Nat) : Ok 34 (E lf) := okT (an := (annsL [])) (lf := lf) (tC (surveyorref21_both.ok lf) (tC (surveyorref21_Met.ok lf) tN)) aoN fun x => by kernel_rfl
end surveyorref21_Meet
namespace surveyorref21_negated
noncomputable def f (lf : Nat) (a0 : ByteArray) : Option (ByteArray × Unit) :=
 br (a0.toList == (⟨#[]⟩ : ByteArray).toList) (
 some ((⟨#[]⟩ : ByteArray), ())) (
 bd (surveyorref01_Negated.f lf a0) fun r1 =>
 some (r1.1, ()))
noncomputable def E (lf : Nat) : Entry := ⟨[.str], [.str], fun x => f lf x.1⟩
theorem ok (lf : Nat) : Ok 126 (E lf) := okT (an := (annsL [])) (lf := lf) (tC (surveyorref01_Negated.ok lf) tN) aoN fun x => by kernel_rfl
end surveyorref21_negated
namespace surveyorref21_Turned
noncomputable def f (lf : Nat) (a0 : (Bool × (ByteArray × (ByteArray × Unit)))) : Option ((Bool × (ByteArray × (ByteArray × Unit))) × Unit) :=
 br a0.1 (
 some (a0, ())) (
 bd (surveyorref21_negated.f lf a0.2.2.1) fun r1 =>
 bd (surveyorref21_negated.f lf a0.2.1) fun r2 =>
 bd (surveyorref21_Range.f lf r1.1 r2.1) fun r3 =>
 some (r3.1, ()))
noncomputable def E (lf : Nat) : Entry := ⟨[(.pair .bool (.pair .str (.pair .str .unit)))], [(.pair .bool (.pair .str (.pair .str .unit)))], fun x => f lf x.1⟩
theorem ok (lf : Nat) : Ok 82 (E lf) := okT (an := (annsL [])) (lf := lf) (tC (surveyorref21_Range.ok lf) (tC (surveyorref21_negated.ok lf) tN)) aoN fun x => by kernel_rfl
end surveyorref21_Turned
namespace surveyorref21_Neg
noncomputable def f (lf : Nat) (a0 : (Bool × (ByteArray × (ByteArray × Unit)))) : Option ((Bool × (ByteArray × (ByteArray × Unit))) × Int × Unit) :=
 bd (surveyorref21_Check.f lf a0) fun r1 =>
 br (r1.1 != 0) (
 some ((false, (⟨#[]⟩ : ByteArray), (⟨#[]⟩ : ByteArray), ()), r1.1, ())) (
 bd (surveyorref21_Turned.f lf a0) fun r2 =>
 some (r2.1, 0, ()))
noncomputable def E (lf : Nat) : Entry := ⟨[(.pair .bool (.pair .str (.pair .str .unit)))], [(.pair .bool (.pair .str (.pair .str .unit))), (.int .i64)], fun x => f lf x.1⟩
theorem ok (lf : Nat) : Ok 36 (E lf) := okT (an := (annsL [])) (lf := lf) (tC (surveyorref21_Check.ok lf) (tC (surveyorref21_Turned.ok lf) tN)) aoN fun x => by kernel_rfl
end surveyorref21_Neg
namespace surveyorref21_Make
noncomputable def f (lf : Nat) (a0 : ByteArray) (a1 : ByteArray) : Option ((Bool × (ByteArray × (ByteArray × Unit))) × Int × Unit) :=
 br (!(a0.toList == (⟨#[]⟩ : ByteArray).toList)) (
 bd (surveyorref01_Check.f lf a0) fun r1 =>
 br (r1.1 != 0) (
 some ((false, (⟨#[]⟩ : ByteArray), (⟨#[]⟩ : ByteArray), ()), r1.1, ())) (
 br (!(a1.toList == (⟨#[]⟩ : ByteArray).toList)) (
 bd (surveyorref01_Check.f lf a1) fun r2 =>
 br (r2.1 != 0) (
 some ((false, (⟨#[]⟩ : ByteArray), (⟨#[]⟩ : ByteArray), ()), r2.1, ())) (
 bd (surveyorref21_Range.f lf a0 a1) fun r3 =>
 some (r3.1, 0, ()))) (
 bd (surveyorref21_Range.f lf a0 a1) fun r4 =>
 some (r4.1, 0, ())))) (
 br (!(a1.toList == (⟨#[]⟩ : ByteArray).toList)) (
 bd (surveyorref01_Check.f lf a1) fun r5 =>
 br (r5.1 != 0) (
 some ((false, (⟨#[]⟩ : ByteArray), (⟨#[]⟩ : ByteArray), ()), r5.1, ())) (
 bd (surveyorref21_Range.f lf a0 a1) fun r6 =>
 some (r6.1, 0, ()))) (
 bd (surveyorref21_Range.f lf a0 a1) fun r7 =>
 some (r7.1, 0, ())))
noncomputable def E (lf : Nat) : Entry := ⟨[.str, .str], [(.pair .bool (.pair .str (.pair .str .unit))), (.int .i64)], fun x => f lf x.1 x.2.1⟩
theorem ok (lf : Nat) : Ok 41 (E lf) := okT (an := (annsL [])) (lf := lf) (tC (surveyorref01_Check.ok lf) (tC (surveyorref21_Range.ok lf) tN)) aoN fun x => by kernel_rfl
end surveyorref21_Make
namespace surveyorref21_Holds
noncomputable def f (lf : Nat) (a0 : (Bool × (ByteArray × (ByteArray × Unit)))) (a1 : ByteArray) : Option (Bool × Int × Unit) :=
 bd (surveyorref21_Check.f lf a0) fun r1 =>
 br (r1.1 != 0) (
 some (false, r1.1, ())) (
 bd (surveyorref01_Check.f lf a1) fun r2 =>
 br (r2.1 != 0) (
 some (false, r2.1, ())) (
 bd (surveyorref21_In.f lf a0 a1) fun r3 =>
 some (r3.1, 0, ())))
noncomputable def E (lf : Nat) : Entry := ⟨[(.pair .bool (.pair .str (.pair .str .unit))), .str], [.bool, (.int .i64)], fun x => f lf x.1 x.2.1⟩
theorem ok (lf : Nat) : Ok 42 (E lf) := okT (an := (annsL [])) (lf := lf) (tC (surveyorref21_Check.ok lf) (tC (surveyorref01_Check.ok lf) (tC (surveyorref21_In.ok lf) tN))) aoN fun x => by kernel_rfl
end surveyorref21_Holds
end
end Go.Q
