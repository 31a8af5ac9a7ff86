import Derived.Test.YtniehiachpcdeaaGreatDoorProg
import Derived.KernelRfl
import Derived.Test.YtniehiachpcdeaaGreatDoorTVE3
import Derived.Test.YtniehiachpcdeaaGreatDoorTVG1
import Derived.Test.YtniehiachpcdeaaGreatDoorTVG3
set_option linter.unusedVariables false
set_option linter.unusedSimpArgs false
set_option linter.unusedSectionVars false
set_option maxRecDepth 100000
namespace Go.Q
open Go.IntKind (i64)
open Go Go.RowKit
open Go.Rx (br bd sIdx sCat sCut iQuo iRem)
noncomputable section
namespace interval_Widen
def anns : FuncId → FA := annsL [(105, ⟨annOf [(0, ⟨kx 103 [2, 6, 10, 12, 13, 57, 58, 59], [], [0, 1, 3, 5]⟩, ⟨kx 103 [2, 6, 7, 10, 12, 13], [], [0, 1, 3, 5]⟩), (1, ⟨kx 103 [2, 6, 12, 16, 17], [], [4]⟩, ⟨kx 103 [6, 7, 12, 16], [], [4]⟩)], none, []⟩)]
def r0 {ρ : Type} (lf : Nat) (v0 v1 : List ByteArray) (v2 : Int) (v4 : Bool) (v5 v6 : ByteArray) (v7 : Int) (v8 : ByteArray) (v9 : Int) (v10 : ByteArray) (v11 : Int) (v12 : ByteArray) (v13 : Int) (v14 : ByteArray) (v3 v15 : Int) (v16 : ByteArray) (K : Int → Int → ByteArray → Option ρ) (E0 : Int → ByteArray → Option ρ) : Option ρ :=
 br (decide (v3 < v2)) (
 bd (idxL v1 v3) fun y14 =>
 bd (interval_finite.f lf y14) fun r15 =>
 bd (interval_compare.f lf r15.1 (v11, v12, ())) fun r16 =>
 br (decide (r16.1 ≤ 0)) (
 bd (interval_finite.f lf y14) fun r17 =>
 K (i64.wrap (v3 + 1)) r17.1.1 r17.1.2.1) (
 K (i64.wrap (v3 + 1)) v15 v16)) (
 E0 v15 v16)
def l0 (lf : Nat) (v0 v1 : List ByteArray) (v2 : Int) (v4 : Bool) (v5 v6 : ByteArray) (v7 : Int) (v8 : ByteArray) (v9 : Int) (v10 : ByteArray) (v11 : Int) (v12 : ByteArray) (v13 : Int) (v14 : ByteArray) : Nat → Int → Int → ByteArray → Option ((Int × ByteArray × Unit) × Unit)
 | 0, _, _, _ => none
 | n + 1, v3, v15, v16 => r0 lf v0 v1 v2 v4 v5 v6 v7 v8 v9 v10 v11 v12 v13 v14 v3 v15 v16 (l0 lf v0 v1 v2 v4 v5 v6 v7 v8 v9 v10 v11 v12 v13 v14 n) (fun w0 w1 => some ((w0, w1, ()), ()))
def sh0 : ShS := ⟨[.a 2, .s (.sl .str), .a 3, .s (.ptr 2 0), .a 3, .s (.ptr 4 0), .a 1, .s (.ptr 6 0), .s (.ptr 7 0), .a 43, .s (.sl .str), .s (.int .i64), .s (.int .i64), .a 43], [.gone, .gone, .cells [.s .bool, .s .str, .s .str] 25, .gone, .cells [.s (.int .i64), .s .str, .s (.int .i64), .s .str] 189, .gone, .cells [.s (.int .i64), .s .str, .s (.int .i64), .s .str] 189, .cells [.s (.int .i64), .s .str] 187]⟩
def S0 (p : (List ByteArray) × (List ByteArray) × Int × Int × Bool × ByteArray × ByteArray × Int × ByteArray × Int × ByteArray × Int × ByteArray × Int × ByteArray × Int × ByteArray × Unit) : St := sh0.b p
def xh0 : ShS := ⟨[.a 2, .s (.sl .str), .a 3, .s (.ptr 2 0), .a 3, .s (.ptr 4 0), .a 1, .s (.ptr 6 0), .s (.ptr 7 0), .a 89], [.gone, .gone, .cells [.s .bool, .s .str, .s .str] 25, .gone, .cells [.s (.int .i64), .s .str, .s (.int .i64), .s .str] 189, .gone, .cells [.s (.int .i64), .s .str, .s (.int .i64), .s .str] 189, .cells [.s (.int .i64), .s .str] 187]⟩
def o0 (v0 v1 : List ByteArray) (v2 : Int) (v4 : Bool) (v5 v6 : ByteArray) (v7 : Int) (v8 : ByteArray) (v9 : Int) (v10 : ByteArray) (v11 : Int) (v12 : ByteArray) (v13 : Int) (v14 : ByteArray) (y : (Int × ByteArray × Unit) × Unit) : Alt := .one (.exit 0) (xh0.b (v0, v4, v5, v6, v7, v8, v9, v10, v11, v12, v13, v14, y.1.1, y.1.2.1, ()))
def r1 {ρ : Type} (lf : Nat) (v0 : List ByteArray) (v2 : Bool) (v3 v4 : ByteArray) (v5 : Int) (v6 : ByteArray) (v7 : Int) (v8 : ByteArray) (v9 : Int) (v10 : ByteArray) (v1 v11 : Int) (v12 : ByteArray) (K : Int → Int → ByteArray → Option ρ) (E0 : Int → ByteArray → Option ρ) : Option ρ :=
 br (decide (v1 ≥ 0)) (
 bd (idxL v0 v1) fun y21 =>
 bd (interval_finite.f lf y21) fun r22 =>
 bd (interval_compare.f lf r22.1 (v7, v8, ())) fun r23 =>
 br (decide (r23.1 ≥ 0)) (
 K (i64.wrap (v1 - 1)) r22.1.1 r22.1.2.1) (
 K (i64.wrap (v1 - 1)) v11 v12)) (
 E0 v11 v12)
def l1 (lf : Nat) (v0 : List ByteArray) (v2 : Bool) (v3 v4 : ByteArray) (v5 : Int) (v6 : ByteArray) (v7 : Int) (v8 : ByteArray) (v9 : Int) (v10 : ByteArray) : Nat → Int → Int → ByteArray → Option ((Int × ByteArray × Unit) × Unit)
 | 0, _, _, _ => none
 | n + 1, v1, v11, v12 => r1 lf v0 v2 v3 v4 v5 v6 v7 v8 v9 v10 v1 v11 v12 (l1 lf v0 v2 v3 v4 v5 v6 v7 v8 v9 v10 n) (fun w0 w1 => some ((w0, w1, ()), ()))
def sh1 : ShS := ⟨[.a 2, .s (.sl .str), .a 3, .s (.ptr 2 0), .a 5, .s (.ptr 6 0), .a 3, .s (.ptr 8 0), .s (.int .i64), .a 85], [.gone, .gone, .cells [.s .bool, .s .str, .s .str] 25, .gone, .gone, .gone, .cells [.s (.int .i64), .s .str, .s (.int .i64), .s .str] 189, .cells [.s (.int .i64), .s .str] 187, .cells [.s (.int .i64), .s .str] 187]⟩
def S1 (p : (List ByteArray) × Int × Bool × ByteArray × ByteArray × Int × ByteArray × Int × ByteArray × Int × ByteArray × Int × ByteArray × Unit) : St := sh1.b p
def xh1 : ShS := ⟨[.a 6, .s (.ptr 2 0), .a 5, .s (.ptr 6 0), .a 3, .s (.ptr 8 0), .a 86], [.gone, .gone, .cells [.s .bool, .s .str, .s .str] 25, .gone, .gone, .gone, .cells [.s (.int .i64), .s .str, .s (.int .i64), .s .str] 189, .cells [.s (.int .i64), .s .str] 187, .cells [.s (.int .i64), .s .str] 187]⟩
def o1 (v0 : List ByteArray) (v2 : Bool) (v3 v4 : ByteArray) (v5 : Int) (v6 : ByteArray) (v7 : Int) (v8 : ByteArray) (v9 : Int) (v10 : ByteArray) (y : (Int × ByteArray × Unit) × Unit) : Alt := .one (.exit 2) (xh1.b (v2, v3, v4, v5, v6, v7, v8, v9, v10, y.1.1, y.1.2.1, ()))
def r2 {ρ : Type} (lf : Nat) (v0 : List ByteArray) (v2 : Bool) (v3 v4 : ByteArray) (v5 : Bool) (v6 v7 : ByteArray) (v8 : Bool) (v9 v10 : ByteArray) (v11 : List TI) (v12 : Int) (v13 : ByteArray) (v14 : Int) (v15 : ByteArray) (v16 : Int) (v17 : ByteArray) (v18 : Int) (v19 : ByteArray) (v1 v20 : Int) (v21 : ByteArray) (K : Int → Int → ByteArray → Option ρ) (E0 : Int → ByteArray → Option ρ) : Option ρ :=
 br (decide (v1 ≥ 0)) (
 bd (idxL v0 v1) fun y29 =>
 bd (interval_finite.f lf y29) fun r30 =>
 bd (interval_compare.f lf r30.1 (v18, v19, ())) fun r31 =>
 br (decide (r31.1 ≥ 0)) (
 K (i64.wrap (v1 - 1)) r30.1.1 r30.1.2.1) (
 K (i64.wrap (v1 - 1)) v20 v21)) (
 E0 v20 v21)
def l2 (lf : Nat) (v0 : List ByteArray) (v2 : Bool) (v3 v4 : ByteArray) (v5 : Bool) (v6 v7 : ByteArray) (v8 : Bool) (v9 v10 : ByteArray) (v11 : List TI) (v12 : Int) (v13 : ByteArray) (v14 : Int) (v15 : ByteArray) (v16 : Int) (v17 : ByteArray) (v18 : Int) (v19 : ByteArray) : Nat → Int → Int → ByteArray → Option ((Int × ByteArray × Unit) × Unit)
 | 0, _, _, _ => none
 | n + 1, v1, v20, v21 => r2 lf v0 v2 v3 v4 v5 v6 v7 v8 v9 v10 v11 v12 v13 v14 v15 v16 v17 v18 v19 v1 v20 v21 (l2 lf v0 v2 v3 v4 v5 v6 v7 v8 v9 v10 v11 v12 v13 v14 v15 v16 v17 v18 v19 n) (fun w0 w1 => some ((w0, w1, ()), ()))
def sh2 : ShS := ⟨[.a 2, .s (.sl .str), .a 3, .s (.ptr 2 0), .a 5, .s (.ptr 6 0), .a 3, .s (.ptr 7 0), .s (.int .i64), .a 85], [.cells [.s .bool, .s .str, .s .str] 25, .cells [.s .bool, .s .str, .s .str] 25, .cells [.s .bool, .s .str, .s .str] 25, .row yI 25 false, .gone, .cells [.s (.int .i64), .s .str, .s (.int .i64), .s .str] 189, .cells [.s (.int .i64), .s .str, .s (.int .i64), .s .str] 189, .cells [.s (.int .i64), .s .str] 187]⟩
def S2 (p : (List ByteArray) × Int × Bool × ByteArray × ByteArray × Bool × ByteArray × ByteArray × Bool × ByteArray × ByteArray × (List TI) × Int × ByteArray × Int × ByteArray × Int × ByteArray × Int × ByteArray × Int × ByteArray × Unit) : St := sh2.b p
def xh2 : ShS := ⟨[.a 6, .s (.ptr 2 0), .a 5, .s (.ptr 6 0), .a 3, .s (.ptr 7 0), .a 86], [.cells [.s .bool, .s .str, .s .str] 25, .cells [.s .bool, .s .str, .s .str] 25, .cells [.s .bool, .s .str, .s .str] 25, .row yI 25 false, .gone, .cells [.s (.int .i64), .s .str, .s (.int .i64), .s .str] 189, .cells [.s (.int .i64), .s .str, .s (.int .i64), .s .str] 189, .cells [.s (.int .i64), .s .str] 187]⟩
def o2 (v0 : List ByteArray) (v2 : Bool) (v3 v4 : ByteArray) (v5 : Bool) (v6 v7 : ByteArray) (v8 : Bool) (v9 v10 : ByteArray) (v11 : List TI) (v12 : Int) (v13 : ByteArray) (v14 : Int) (v15 : ByteArray) (v16 : Int) (v17 : ByteArray) (v18 : Int) (v19 : ByteArray) (y : (Int × ByteArray × Unit) × Unit) : Alt := .one (.exit 2) (xh2.b (v2, v3, v4, v5, v6, v7, v8, v9, v10, v11, v12, v13, v14, v15, v16, v17, v18, v19, y.1.1, y.1.2.1, ()))
def tb (lf : Nat) : List (FuncId × Entry) := [(159, interval_ascending.E lf), (160, interval_of.E lf), (161, interval_span_empty.E lf), (162, interval_span_hull.E lf), (163, interval_span_interval.E lf), (164, interval_compare.E lf), (165, interval_infinite.E lf), (166, interval_finite.E lf), (205, interval_Check.E lf)]
def s13_105 (lf : Nat) : List (Nat × (St → Option LTE)) := [(0, sumE sh0 fun (p : (List ByteArray) × (List ByteArray) × Int × Int × Bool × ByteArray × ByteArray × Int × ByteArray × Int × ByteArray × Int × ByteArray × Int × ByteArray × Int × ByteArray × Unit) => ⟨(Int × ByteArray × Unit) × Unit, l0 lf p.1 p.2.1 p.2.2.1 p.2.2.2.2.1 p.2.2.2.2.2.1 p.2.2.2.2.2.2.1 p.2.2.2.2.2.2.2.1 p.2.2.2.2.2.2.2.2.1 p.2.2.2.2.2.2.2.2.2.1 p.2.2.2.2.2.2.2.2.2.2.1 p.2.2.2.2.2.2.2.2.2.2.2.1 p.2.2.2.2.2.2.2.2.2.2.2.2.1 p.2.2.2.2.2.2.2.2.2.2.2.2.2.1 p.2.2.2.2.2.2.2.2.2.2.2.2.2.2.1 (lf + 40) p.2.2.2.1 p.2.2.2.2.2.2.2.2.2.2.2.2.2.2.2.1 p.2.2.2.2.2.2.2.2.2.2.2.2.2.2.2.2.1, o0 p.1 p.2.1 p.2.2.1 p.2.2.2.2.1 p.2.2.2.2.2.1 p.2.2.2.2.2.2.1 p.2.2.2.2.2.2.2.1 p.2.2.2.2.2.2.2.2.1 p.2.2.2.2.2.2.2.2.2.1 p.2.2.2.2.2.2.2.2.2.2.1 p.2.2.2.2.2.2.2.2.2.2.2.1 p.2.2.2.2.2.2.2.2.2.2.2.2.1 p.2.2.2.2.2.2.2.2.2.2.2.2.2.1 p.2.2.2.2.2.2.2.2.2.2.2.2.2.2.1⟩),
 (1, sumE sh1 fun (p : (List ByteArray) × Int × Bool × ByteArray × ByteArray × Int × ByteArray × Int × ByteArray × Int × ByteArray × Int × ByteArray × Unit) => ⟨(Int × ByteArray × Unit) × Unit, l1 lf p.1 p.2.2.1 p.2.2.2.1 p.2.2.2.2.1 p.2.2.2.2.2.1 p.2.2.2.2.2.2.1 p.2.2.2.2.2.2.2.1 p.2.2.2.2.2.2.2.2.1 p.2.2.2.2.2.2.2.2.2.1 p.2.2.2.2.2.2.2.2.2.2.1 (lf + 40) p.2.1 p.2.2.2.2.2.2.2.2.2.2.2.1 p.2.2.2.2.2.2.2.2.2.2.2.2.1, o1 p.1 p.2.2.1 p.2.2.2.1 p.2.2.2.2.1 p.2.2.2.2.2.1 p.2.2.2.2.2.2.1 p.2.2.2.2.2.2.2.1 p.2.2.2.2.2.2.2.2.1 p.2.2.2.2.2.2.2.2.2.1 p.2.2.2.2.2.2.2.2.2.2.1⟩),
 (1, sumE sh2 fun (p : (List ByteArray) × Int × Bool × ByteArray × ByteArray × Bool × ByteArray × ByteArray × Bool × ByteArray × ByteArray × (List TI) × Int × ByteArray × Int × ByteArray × Int × ByteArray × Int × ByteArray × Int × ByteArray × Unit) => ⟨(Int × ByteArray × Unit) × Unit, l2 lf p.1 p.2.2.1 p.2.2.2.1 p.2.2.2.2.1 p.2.2.2.2.2.1 p.2.2.2.2.2.2.1 p.2.2.2.2.2.2.2.1 p.2.2.2.2.2.2.2.2.1 p.2.2.2.2.2.2.2.2.2.1 p.2.2.2.2.2.2.2.2.2.2.1 p.2.2.2.2.2.2.2.2.2.2.2.1 p.2.2.2.2.2.2.2.2.2.2.2.2.1 p.2.2.2.2.2.2.2.2.2.2.2.2.2.1 p.2.2.2.2.2.2.2.2.2.2.2.2.2.2.1 p.2.2.2.2.2.2.2.2.2.2.2.2.2.2.2.1 p.2.2.2.2.2.2.2.2.2.2.2.2.2.2.2.2.1 p.2.2.2.2.2.2.2.2.2.2.2.2.2.2.2.2.2.1 p.2.2.2.2.2.2.2.2.2.2.2.2.2.2.2.2.2.2.1 p.2.2.2.2.2.2.2.2.2.2.2.2.2.2.2.2.2.2.2.1 (lf + 40) p.2.1 p.2.2.2.2.2.2.2.2.2.2.2.2.2.2.2.2.2.2.2.2.1 p.2.2.2.2.2.2.2.2.2.2.2.2.2.2.2.2.2.2.2.2.2.1, o2 p.1 p.2.2.1 p.2.2.2.1 p.2.2.2.2.1 p.2.2.2.2.2.1 p.2.2.2.2.2.2.1 p.2.2.2.2.2.2.2.1 p.2.2.2.2.2.2.2.2.1 p.2.2.2.2.2.2.2.2.2.1 p.2.2.2.2.2.2.2.2.2.2.1 p.2.2.2.2.2.2.2.2.2.2.2.1 p.2.2.2.2.2.2.2.2.2.2.2.2.1 p.2.2.2.2.2.2.2.2.2.2.2.2.2.1 p.2.2.2.2.2.2.2.2.2.2.2.2.2.2.1 p.2.2.2.2.2.2.2.2.2.2.2.2.2.2.2.1 p.2.2.2.2.2.2.2.2.2.2.2.2.2.2.2.2.1 p.2.2.2.2.2.2.2.2.2.2.2.2.2.2.2.2.2.1 p.2.2.2.2.2.2.2.2.2.2.2.2.2.2.2.2.2.2.1 p.2.2.2.2.2.2.2.2.2.2.2.2.2.2.2.2.2.2.2.1⟩)]
def ls (lf : Nat) : List (Nat × FuncId × Sums) := [(13, 105, sumsL (s13_105 lf))]
def it0 {ρ : Type} (lf n : Nat) (st : St) (k : KE ρ) : Option ρ := itG anns (ls lf) (tb lf) lf 13 105 0 8 (sumsL (s13_105 lf)) n st k
theorem t0 {ρ : Type} (lf n : Nat) (v0 v1 : List ByteArray) (v2 v3 : Int) (v4 : Bool) (v5 v6 : ByteArray) (v7 : Int) (v8 : ByteArray) (v9 : Int) (v10 : ByteArray) (v11 : Int) (v12 : ByteArray) (v13 : Int) (v14 : ByteArray) (v15 : Int) (v16 : ByteArray) (k : KE ρ) : it0 lf (n + 1) (S0 (v0, v1, v2, v3, v4, v5, v6, v7, v8, v9, v10, v11, v12, v13, v14, v15, v16, ())) k = r0 lf v0 v1 v2 v4 v5 v6 v7 v8 v9 v10 v11 v12 v13 v14 v3 v15 v16 (fun x0 x1 x2 => it0 lf n (S0 (v0, v1, v2, x0, v4, v5, v6, v7, v8, v9, v10, v11, v12, v13, v14, x1, x2, ())) k) (fun w0 w1 => k (.exit 0) (xh0.b (v0, v4, v5, v6, v7, v8, v9, v10, v11, v12, v13, v14, w0, w1, ()))) := by kernel_rfl
theorem u0 {ρ : Type} (lf : Nat) (v0 v1 : List ByteArray) (v2 : Int) (v4 : Bool) (v5 v6 : ByteArray) (v7 : Int) (v8 : ByteArray) (v9 : Int) (v10 : ByteArray) (v11 : Int) (v12 : ByteArray) (v13 : Int) (v14 : ByteArray) (k : KE ρ) : ∀ (n : Nat) (v3 v15 : Int) (v16 : ByteArray), it0 lf n (S0 (v0, v1, v2, v3, v4, v5, v6, v7, v8, v9, v10, v11, v12, v13, v14, v15, v16, ())) k = bd (l0 lf v0 v1 v2 v4 v5 v6 v7 v8 v9 v10 v11 v12 v13 v14 n v3 v15 v16) fun y => altK k (o0 v0 v1 v2 v4 v5 v6 v7 v8 v9 v10 v11 v12 v13 v14 y)
 | 0, _, _, _ => by rw [l0, bd_none]; rfl
 | n + 1, v3, v15, v16 => by
  rw [t0]; simp only [l0, r0, u0 lf v0 v1 v2 v4 v5 v6 v7 v8 v9 v10 v11 v12 v13 v14 k n, bd_br, bd_bd, bd_some', bd_none, br_t, br_f, o0, altK]
def it1 {ρ : Type} (lf n : Nat) (st : St) (k : KE ρ) : Option ρ := itG anns (ls lf) (tb lf) lf 13 105 1 9 (sumsL (s13_105 lf)) n st k
theorem t1 {ρ : Type} (lf n : Nat) (v0 : List ByteArray) (v1 : Int) (v2 : Bool) (v3 v4 : ByteArray) (v5 : Int) (v6 : ByteArray) (v7 : Int) (v8 : ByteArray) (v9 : Int) (v10 : ByteArray) (v11 : Int) (v12 : ByteArray) (k : KE ρ) : it1 lf (n + 1) (S1 (v0, v1, v2, v3, v4, v5, v6, v7, v8, v9, v10, v11, v12, ())) k = r1 lf v0 v2 v3 v4 v5 v6 v7 v8 v9 v10 v1 v11 v12 (fun x0 x1 x2 => it1 lf n (S1 (v0, x0, v2, v3, v4, v5, v6, v7, v8, v9, v10, x1, x2, ())) k) (fun w0 w1 => k (.exit 2) (xh1.b (v2, v3, v4, v5, v6, v7, v8, v9, v10, w0, w1, ()))) := by kernel_rfl
theorem u1 {ρ : Type} (lf : Nat) (v0 : List ByteArray) (v2 : Bool) (v3 v4 : ByteArray) (v5 : Int) (v6 : ByteArray) (v7 : Int) (v8 : ByteArray) (v9 : Int) (v10 : ByteArray) (k : KE ρ) : ∀ (n : Nat) (v1 v11 : Int) (v12 : ByteArray), it1 lf n (S1 (v0, v1, v2, v3, v4, v5, v6, v7, v8, v9, v10, v11, v12, ())) k = bd (l1 lf v0 v2 v3 v4 v5 v6 v7 v8 v9 v10 n v1 v11 v12) fun y => altK k (o1 v0 v2 v3 v4 v5 v6 v7 v8 v9 v10 y)
 | 0, _, _, _ => by rw [l1, bd_none]; rfl
 | n + 1, v1, v11, v12 => by
  rw [t1]; simp only [l1, r1, u1 lf v0 v2 v3 v4 v5 v6 v7 v8 v9 v10 k n, bd_br, bd_bd, bd_some', bd_none, br_t, br_f, o1, altK]
def it2 {ρ : Type} (lf n : Nat) (st : St) (k : KE ρ) : Option ρ := itG anns (ls lf) (tb lf) lf 13 105 1 8 (sumsL (s13_105 lf)) n st k
theorem t2 {ρ : Type} (lf n : Nat) (v0 : List ByteArray) (v1 : Int) (v2 : Bool) (v3 v4 : ByteArray) (v5 : Bool) (v6 v7 : ByteArray) (v8 : Bool) (v9 v10 : ByteArray) (v11 : List TI) (v12 : Int) (v13 : ByteArray) (v14 : Int) (v15 : ByteArray) (v16 : Int) (v17 : ByteArray) (v18 : Int) (v19 : ByteArray) (v20 : Int) (v21 : ByteArray) (k : KE ρ) : it2 lf (n + 1) (S2 (v0, v1, v2, v3, v4, v5, v6, v7, v8, v9, v10, v11, v12, v13, v14, v15, v16, v17, v18, v19, v20, v21, ())) k = r2 lf v0 v2 v3 v4 v5 v6 v7 v8 v9 v10 v11 v12 v13 v14 v15 v16 v17 v18 v19 v1 v20 v21 (fun x0 x1 x2 => it2 lf n (S2 (v0, x0, v2, v3, v4, v5, v6, v7, v8, v9, v10, v11, v12, v13, v14, v15, v16, v17, v18, v19, x1, x2, ())) k) (fun w0 w1 => k (.exit 2) (xh2.b (v2, v3, v4, v5, v6, v7, v8, v9, v10, v11, v12, v13, v14, v15, v16, v17, v18, v19, w0, w1, ()))) := by kernel_rfl
theorem u2 {ρ : Type} (lf : Nat) (v0 : List ByteArray) (v2 : Bool) (v3 v4 : ByteArray) (v5 : Bool) (v6 v7 : ByteArray) (v8 : Bool) (v9 v10 : ByteArray) (v11 : List TI) (v12 : Int) (v13 : ByteArray) (v14 : Int) (v15 : ByteArray) (v16 : Int) (v17 : ByteArray) (v18 : Int) (v19 : ByteArray) (k : KE ρ) : ∀ (n : Nat) (v1 v20 : Int) (v21 : ByteArray), it2 lf n (S2 (v0, v1, v2, v3, v4, v5, v6, v7, v8, v9, v10, v11, v12, v13, v14, v15, v16, v17, v18, v19, v20, v21, ())) k = bd (l2 lf v0 v2 v3 v4 v5 v6 v7 v8 v9 v10 v11 v12 v13 v14 v15 v16 v17 v18 v19 n v1 v20 v21) fun y => altK k (o2 v0 v2 v3 v4 v5 v6 v7 v8 v9 v10 v11 v12 v13 v14 v15 v16 v17 v18 v19 y)
 | 0, _, _, _ => by rw [l2, bd_none]; rfl
 | n + 1, v1, v20, v21 => by
  rw [t2]; simp only [l2, r2, u2 lf v0 v2 v3 v4 v5 v6 v7 v8 v9 v10 v11 v12 v13 v14 v15 v16 v17 v18 v19 k n, bd_br, bd_bd, bd_some', bd_none, br_t, br_f, o2, altK]
theorem sl (lf : Nat) : SL anns (ls lf) (tb lf) lf (ls lf) := slC (laC (fun _ => by kernel_rfl) (fun _ (x : (List ByteArray) × (List ByteArray) × Int × Int × Bool × ByteArray × ByteArray × Int × ByteArray × Int × ByteArray × Int × ByteArray × Int × ByteArray × Int × ByteArray × Unit) k => leq_of (u0 lf x.1 x.2.1 x.2.2.1 x.2.2.2.2.1 x.2.2.2.2.2.1 x.2.2.2.2.2.2.1 x.2.2.2.2.2.2.2.1 x.2.2.2.2.2.2.2.2.1 x.2.2.2.2.2.2.2.2.2.1 x.2.2.2.2.2.2.2.2.2.2.1 x.2.2.2.2.2.2.2.2.2.2.2.1 x.2.2.2.2.2.2.2.2.2.2.2.2.1 x.2.2.2.2.2.2.2.2.2.2.2.2.2.1 x.2.2.2.2.2.2.2.2.2.2.2.2.2.2.1 k (lf + 40) x.2.2.2.1 x.2.2.2.2.2.2.2.2.2.2.2.2.2.2.2.1 x.2.2.2.2.2.2.2.2.2.2.2.2.2.2.2.2.1)) (laC (fun _ => by kernel_rfl) (fun _ (x : (List ByteArray) × Int × Bool × ByteArray × ByteArray × Int × ByteArray × Int × ByteArray × Int × ByteArray × Int × ByteArray × Unit) k => leq_of (u1 lf x.1 x.2.2.1 x.2.2.2.1 x.2.2.2.2.1 x.2.2.2.2.2.1 x.2.2.2.2.2.2.1 x.2.2.2.2.2.2.2.1 x.2.2.2.2.2.2.2.2.1 x.2.2.2.2.2.2.2.2.2.1 x.2.2.2.2.2.2.2.2.2.2.1 k (lf + 40) x.2.1 x.2.2.2.2.2.2.2.2.2.2.2.1 x.2.2.2.2.2.2.2.2.2.2.2.2.1)) (laC (fun _ => by kernel_rfl) (fun _ (x : (List ByteArray) × Int × Bool × ByteArray × ByteArray × Bool × ByteArray × ByteArray × Bool × ByteArray × ByteArray × (List TI) × Int × ByteArray × Int × ByteArray × Int × ByteArray × Int × ByteArray × Int × ByteArray × Unit) k => leq_of (u2 lf x.1 x.2.2.1 x.2.2.2.1 x.2.2.2.2.1 x.2.2.2.2.2.1 x.2.2.2.2.2.2.1 x.2.2.2.2.2.2.2.1 x.2.2.2.2.2.2.2.2.1 x.2.2.2.2.2.2.2.2.2.1 x.2.2.2.2.2.2.2.2.2.2.1 x.2.2.2.2.2.2.2.2.2.2.2.1 x.2.2.2.2.2.2.2.2.2.2.2.2.1 x.2.2.2.2.2.2.2.2.2.2.2.2.2.1 x.2.2.2.2.2.2.2.2.2.2.2.2.2.2.1 x.2.2.2.2.2.2.2.2.2.2.2.2.2.2.2.1 x.2.2.2.2.2.2.2.2.2.2.2.2.2.2.2.2.1 x.2.2.2.2.2.2.2.2.2.2.2.2.2.2.2.2.2.1 x.2.2.2.2.2.2.2.2.2.2.2.2.2.2.2.2.2.2.1 x.2.2.2.2.2.2.2.2.2.2.2.2.2.2.2.2.2.2.2.1 k (lf + 40) x.2.1 x.2.2.2.2.2.2.2.2.2.2.2.2.2.2.2.2.2.2.2.2.1 x.2.2.2.2.2.2.2.2.2.2.2.2.2.2.2.2.2.2.2.2.2.1)) laN))) slN
def f (lf : Nat) (a0 : TI) (a1 : TI) (a2 : List ByteArray) : Option (TI × Int × Unit) :=
 bd (interval_Check.f lf a0) fun r1 =>
 br (r1.1 != 0) (
 br (r1.1 != 0) (
 some ((false, (⟨#[]⟩ : ByteArray), (⟨#[]⟩ : ByteArray), ()), r1.1, ())) (
 bd (interval_ascending.f lf a2) fun r2 =>
 br (r2.1 != 0) (
 some ((false, (⟨#[]⟩ : ByteArray), (⟨#[]⟩ : ByteArray), ()), r2.1, ())) (
 bd (interval_of.f lf a0) fun r3 =>
 bd (interval_of.f lf a1) fun r4 =>
 bd (interval_span_empty.f lf r3.1) fun r5 =>
 br r5.1 (
 bd (interval_span_hull.f lf r3.1 r4.1) fun r6 =>
 bd (interval_span_interval.f lf r6.1) fun r7 =>
 some (r7.1, 0, ())) (
 bd (interval_span_empty.f lf r4.1) fun r8 =>
 br r8.1 (
 bd (interval_span_hull.f lf r3.1 r4.1) fun r9 =>
 bd (interval_span_interval.f lf r9.1) fun r10 =>
 some (r10.1, 0, ())) (
 bd (interval_span_hull.f lf r3.1 r4.1) fun r11 =>
 bd (interval_compare.f lf r11.1.1 r3.1.1) fun r12 =>
 br (r12.1 != 0) (
 bd (interval_infinite.f lf (-1)) fun r13 =>
 bd (l0 lf a2 a2 ((a2.length : Nat) : Int) false (⟨#[]⟩ : ByteArray) (⟨#[]⟩ : ByteArray) r3.1.1.1 r3.1.1.2.1 r3.1.2.1.1 r3.1.2.1.2.1 r11.1.1.1 r11.1.1.2.1 r11.1.2.1.1 r11.1.2.1.2.1 (lf + 40) 0 r13.1.1 r13.1.2.1) fun z18 =>
 bd (interval_compare.f lf r11.1.2.1 r3.1.2.1) fun r19 =>
 br (r19.1 != 0) (
 bd (interval_infinite.f lf 1) fun r20 =>
 bd (l1 lf a2 false (⟨#[]⟩ : ByteArray) (⟨#[]⟩ : ByteArray) z18.1.1 z18.1.2.1 r11.1.2.1.1 r11.1.2.1.2.1 z18.1.1 z18.1.2.1 (lf + 40) (i64.wrap (((a2.length : Nat) : Int) - 1)) r20.1.1 r20.1.2.1) fun z24 =>
 bd (interval_span_interval.f lf (z18.1, z24.1, ())) fun r25 =>
 some (r25.1, 0, ())) (
 bd (interval_span_interval.f lf (z18.1, r11.1.2.1, ())) fun r26 =>
 some (r26.1, 0, ()))) (
 bd (interval_compare.f lf r11.1.2.1 r3.1.2.1) fun r27 =>
 br (r27.1 != 0) (
 bd (interval_infinite.f lf 1) fun r28 =>
 bd (l2 lf a2 a0.1 a0.2.1 a0.2.2.1 a1.1 a1.2.1 a1.2.2.1 false (⟨#[]⟩ : ByteArray) (⟨#[]⟩ : ByteArray) [a0, a1] r4.1.1.1 r4.1.1.2.1 r4.1.2.1.1 r4.1.2.1.2.1 r11.1.1.1 r11.1.1.2.1 r11.1.2.1.1 r11.1.2.1.2.1 (lf + 40) (i64.wrap (((a2.length : Nat) : Int) - 1)) r28.1.1 r28.1.2.1) fun z32 =>
 bd (interval_span_interval.f lf (r11.1.1, z32.1, ())) fun r33 =>
 some (r33.1, 0, ())) (
 bd (interval_span_interval.f lf r11.1) fun r34 =>
 some (r34.1, 0, ())))))))) (
 bd (interval_Check.f lf a1) fun r35 =>
 br (r35.1 != 0) (
 br (r35.1 != 0) (
 some ((false, (⟨#[]⟩ : ByteArray), (⟨#[]⟩ : ByteArray), ()), r35.1, ())) (
 bd (interval_ascending.f lf a2) fun r36 =>
 br (r36.1 != 0) (
 some ((false, (⟨#[]⟩ : ByteArray), (⟨#[]⟩ : ByteArray), ()), r36.1, ())) (
 bd (interval_of.f lf a0) fun r37 =>
 bd (interval_of.f lf a1) fun r38 =>
 bd (interval_span_empty.f lf r37.1) fun r39 =>
 br r39.1 (
 bd (interval_span_hull.f lf r37.1 r38.1) fun r40 =>
 bd (interval_span_interval.f lf r40.1) fun r41 =>
 some (r41.1, 0, ())) (
 bd (interval_span_empty.f lf r38.1) fun r42 =>
 br r42.1 (
 bd (interval_span_hull.f lf r37.1 r38.1) fun r43 =>
 bd (interval_span_interval.f lf r43.1) fun r44 =>
 some (r44.1, 0, ())) (
 bd (interval_span_hull.f lf r37.1 r38.1) fun r45 =>
 bd (interval_compare.f lf r45.1.1 r37.1.1) fun r46 =>
 br (r46.1 != 0) (
 bd (interval_infinite.f lf (-1)) fun r47 =>
 bd (l0 lf a2 a2 ((a2.length : Nat) : Int) false (⟨#[]⟩ : ByteArray) (⟨#[]⟩ : ByteArray) r37.1.1.1 r37.1.1.2.1 r37.1.2.1.1 r37.1.2.1.2.1 r45.1.1.1 r45.1.1.2.1 r45.1.2.1.1 r45.1.2.1.2.1 (lf + 40) 0 r47.1.1 r47.1.2.1) fun z48 =>
 bd (interval_compare.f lf r45.1.2.1 r37.1.2.1) fun r49 =>
 br (r49.1 != 0) (
 bd (interval_infinite.f lf 1) fun r50 =>
 bd (l1 lf a2 false (⟨#[]⟩ : ByteArray) (⟨#[]⟩ : ByteArray) z48.1.1 z48.1.2.1 r45.1.2.1.1 r45.1.2.1.2.1 z48.1.1 z48.1.2.1 (lf + 40) (i64.wrap (((a2.length : Nat) : Int) - 1)) r50.1.1 r50.1.2.1) fun z51 =>
 bd (interval_span_interval.f lf (z48.1, z51.1, ())) fun r52 =>
 some (r52.1, 0, ())) (
 bd (interval_span_interval.f lf (z48.1, r45.1.2.1, ())) fun r53 =>
 some (r53.1, 0, ()))) (
 bd (interval_compare.f lf r45.1.2.1 r37.1.2.1) fun r54 =>
 br (r54.1 != 0) (
 bd (interval_infinite.f lf 1) fun r55 =>
 bd (l2 lf a2 a0.1 a0.2.1 a0.2.2.1 a1.1 a1.2.1 a1.2.2.1 false (⟨#[]⟩ : ByteArray) (⟨#[]⟩ : ByteArray) [a0, a1] r38.1.1.1 r38.1.1.2.1 r38.1.2.1.1 r38.1.2.1.2.1 r45.1.1.1 r45.1.1.2.1 r45.1.2.1.1 r45.1.2.1.2.1 (lf + 40) (i64.wrap (((a2.length : Nat) : Int) - 1)) r55.1.1 r55.1.2.1) fun z56 =>
 bd (interval_span_interval.f lf (r45.1.1, z56.1, ())) fun r57 =>
 some (r57.1, 0, ())) (
 bd (interval_span_interval.f lf r45.1) fun r58 =>
 some (r58.1, 0, ())))))))) (
 bd (interval_ascending.f lf a2) fun r59 =>
 br (r59.1 != 0) (
 some ((false, (⟨#[]⟩ : ByteArray), (⟨#[]⟩ : ByteArray), ()), r59.1, ())) (
 bd (interval_of.f lf a0) fun r60 =>
 bd (interval_of.f lf a1) fun r61 =>
 bd (interval_span_empty.f lf r60.1) fun r62 =>
 br r62.1 (
 bd (interval_span_hull.f lf r60.1 r61.1) fun r63 =>
 bd (interval_span_interval.f lf r63.1) fun r64 =>
 some (r64.1, 0, ())) (
 bd (interval_span_empty.f lf r61.1) fun r65 =>
 br r65.1 (
 bd (interval_span_hull.f lf r60.1 r61.1) fun r66 =>
 bd (interval_span_interval.f lf r66.1) fun r67 =>
 some (r67.1, 0, ())) (
 bd (interval_span_hull.f lf r60.1 r61.1) fun r68 =>
 bd (interval_compare.f lf r68.1.1 r60.1.1) fun r69 =>
 br (r69.1 != 0) (
 bd (interval_infinite.f lf (-1)) fun r70 =>
 bd (l0 lf a2 a2 ((a2.length : Nat) : Int) false (⟨#[]⟩ : ByteArray) (⟨#[]⟩ : ByteArray) r60.1.1.1 r60.1.1.2.1 r60.1.2.1.1 r60.1.2.1.2.1 r68.1.1.1 r68.1.1.2.1 r68.1.2.1.1 r68.1.2.1.2.1 (lf + 40) 0 r70.1.1 r70.1.2.1) fun z71 =>
 bd (interval_compare.f lf r68.1.2.1 r60.1.2.1) fun r72 =>
 br (r72.1 != 0) (
 bd (interval_infinite.f lf 1) fun r73 =>
 bd (l1 lf a2 false (⟨#[]⟩ : ByteArray) (⟨#[]⟩ : ByteArray) z71.1.1 z71.1.2.1 r68.1.2.1.1 r68.1.2.1.2.1 z71.1.1 z71.1.2.1 (lf + 40) (i64.wrap (((a2.length : Nat) : Int) - 1)) r73.1.1 r73.1.2.1) fun z74 =>
 bd (interval_span_interval.f lf (z71.1, z74.1, ())) fun r75 =>
 some (r75.1, 0, ())) (
 bd (interval_span_interval.f lf (z71.1, r68.1.2.1, ())) fun r76 =>
 some (r76.1, 0, ()))) (
 bd (interval_compare.f lf r68.1.2.1 r60.1.2.1) fun r77 =>
 br (r77.1 != 0) (
 bd (interval_infinite.f lf 1) fun r78 =>
 bd (l2 lf a2 a0.1 a0.2.1 a0.2.2.1 a1.1 a1.2.1 a1.2.2.1 false (⟨#[]⟩ : ByteArray) (⟨#[]⟩ : ByteArray) [a0, a1] r61.1.1.1 r61.1.1.2.1 r61.1.2.1.1 r61.1.2.1.2.1 r68.1.1.1 r68.1.1.2.1 r68.1.2.1.1 r68.1.2.1.2.1 (lf + 40) (i64.wrap (((a2.length : Nat) : Int) - 1)) r78.1.1 r78.1.2.1) fun z79 =>
 bd (interval_span_interval.f lf (r68.1.1, z79.1, ())) fun r80 =>
 some (r80.1, 0, ())) (
 bd (interval_span_interval.f lf r68.1) fun r81 =>
 some (r81.1, 0, ()))))))))
def E (lf : Nat) : Entry := ⟨[yI, yI, (.sl .str)], [yI, (.int .i64)], fun x => f lf x.1 x.2.1 x.2.2.1⟩
theorem ok (lf : Nat) : Ok 105 (E lf) := okL (tC (interval_ascending.ok lf) (tC (interval_of.ok lf) (tC (interval_span_empty.ok lf) (tC (interval_span_hull.ok lf) (tC (interval_span_interval.ok lf) (tC (interval_compare.ok lf) (tC (interval_infinite.ok lf) (tC (interval_finite.ok lf) (tC (interval_Check.ok lf) tN))))))))) (aoC aoN) (sl lf) fun x => by kernel_rfl
end interval_Widen
end
end Go.Q
namespace Go.Q
open Go Go.RowKit
open Go.Rx (br bd sIdx sCat sCut iQuo iRem)
noncomputable section
namespace interval_Holds
def f (lf : Nat) (a0 : TI) (a1 : ByteArray) : Option (Bool × Int × Unit) :=
 bd (interval_Check.f lf a0) fun r1 =>
 br (r1.1 != 0) (
 some (false, r1.1, ())) (
 bd (bigint_Check.f lf a1) fun r2 =>
 br (r2.1 != 0) (
 some (false, r2.1, ())) (
 bd (interval_of.f lf a0) fun r3 =>
 bd (interval_finite.f lf a1) fun r4 =>
 bd (interval_compare.f lf r3.1.1 r4.1) fun r5 =>
 br (decide (r5.1 ≤ 0)) (
 bd (interval_compare.f lf r4.1 r3.1.2.1) fun r6 =>
 some ((decide (r6.1 ≤ 0)), 0, ())) (
 some (false, 0, ()))))
def E (lf : Nat) : Entry := ⟨[yI, .str], [.bool, (.int .i64)], fun x => f lf x.1 x.2.1⟩
theorem ok (lf : Nat) : Ok 144 (E lf) := okT (an := (annsL [])) (lf := lf) (tC (bigint_Check.ok lf) (tC (interval_of.ok lf) (tC (interval_compare.ok lf) (tC (interval_finite.ok lf) (tC (interval_Check.ok lf) tN))))) aoN fun x => by kernel_rfl
end interval_Holds
namespace interval_Leq
def f (lf : Nat) (a0 : TI) (a1 : TI) : Option (Bool × Int × Unit) :=
 bd (interval_Check.f lf a0) fun r1 =>
 br (r1.1 != 0) (
 br (r1.1 != 0) (
 some (false, r1.1, ())) (
 bd (interval_of.f lf a0) fun r2 =>
 bd (interval_of.f lf a1) fun r3 =>
 bd (interval_span_empty.f lf r2.1) fun r4 =>
 br r4.1 (
 some (true, 0, ())) (
 bd (interval_compare.f lf r3.1.1 r2.1.1) fun r5 =>
 br (decide (r5.1 ≤ 0)) (
 bd (interval_compare.f lf r2.1.2.1 r3.1.2.1) fun r6 =>
 some ((decide (r6.1 ≤ 0)), 0, ())) (
 some (false, 0, ()))))) (
 bd (interval_Check.f lf a1) fun r7 =>
 br (r7.1 != 0) (
 br (r7.1 != 0) (
 some (false, r7.1, ())) (
 bd (interval_of.f lf a0) fun r8 =>
 bd (interval_of.f lf a1) fun r9 =>
 bd (interval_span_empty.f lf r8.1) fun r10 =>
 br r10.1 (
 some (true, 0, ())) (
 bd (interval_compare.f lf r9.1.1 r8.1.1) fun r11 =>
 br (decide (r11.1 ≤ 0)) (
 bd (interval_compare.f lf r8.1.2.1 r9.1.2.1) fun r12 =>
 some ((decide (r12.1 ≤ 0)), 0, ())) (
 some (false, 0, ()))))) (
 bd (interval_of.f lf a0) fun r13 =>
 bd (interval_of.f lf a1) fun r14 =>
 bd (interval_span_empty.f lf r13.1) fun r15 =>
 br r15.1 (
 some (true, 0, ())) (
 bd (interval_compare.f lf r14.1.1 r13.1.1) fun r16 =>
 br (decide (r16.1 ≤ 0)) (
 bd (interval_compare.f lf r13.1.2.1 r14.1.2.1) fun r17 =>
 some ((decide (r17.1 ≤ 0)), 0, ())) (
 some (false, 0, ())))))
def E (lf : Nat) : Entry := ⟨[yI, yI], [.bool, (.int .i64)], fun x => f lf x.1 x.2.1⟩
theorem ok (lf : Nat) : Ok 110 (E lf) := okT (an := (annsL [])) (lf := lf) (tC (interval_of.ok lf) (tC (interval_span_empty.ok lf) (tC (interval_compare.ok lf) (tC (interval_Check.ok lf) tN)))) aoN fun x => by kernel_rfl
end interval_Leq
end
end Go.Q
namespace Go.Q
open Go.IntKind (i64)
open Go Go.RowKit
open Go.Rx (br bd sIdx sCat sCut iQuo iRem)
noncomputable section
namespace surveyorref01_plus
def anns : FuncId → FA := annsL [(236, ⟨annOf [(0, ⟨kx 36 [0, 1, 5, 6, 7], [⟨.tmp 5, (.int .i64), 3⟩], []⟩, ⟨kx 36 [4, 5], [⟨.tmp 5, (.int .i64), 3⟩], []⟩)], none, []⟩)]
def r0 {ρ : Type} (lf : Nat) (v0 v1 : List Int) (v2 v3 : Int) (v4 : List Int) (K : Int → Int → (List Int) → Option ρ) (E0 : (List Int) → Option ρ) : Option ρ :=
 br (decide (v3 < (i64.wrap ((if ((v1.length : Nat) : Int) > ((v0.length : Nat) : Int) then ((v1.length : Nat) : Int) else ((v0.length : Nat) : Int)) + 1)))) (
 bd (surveyorref01_at.f lf v0 v3) fun r1 =>
 bd (surveyorref01_at.f lf v1 v3) fun r2 =>
 bd (iRem (i64.wrap (v2 + (i64.wrap (r1.1 + r2.1)))) 10) fun r3 =>
 bd (apL true 8 v4 [r3]) fun q4 =>
 bd (iQuo .i64 (i64.wrap (v2 + (i64.wrap (r1.1 + r2.1)))) 10) fun r5 =>
 K r5 (i64.wrap (v3 + 1)) q4) (
 E0 v4)
def l0 (lf : Nat) (v0 v1 : List Int) : Nat → Int → Int → (List Int) → Option (((List Int) × Unit) × Unit)
 | 0, _, _, _ => none
 | n + 1, v2, v3, v4 => r0 lf v0 v1 v2 v3 v4 (l0 lf v0 v1 n) (fun w0 => some ((w0, ()), ()))
def sh0 : ShS := ⟨[.s (.sl (.int .i64)), .s (.sl (.int .i64)), .a 3, .s (.row 0), .s (.int .i64), .s (.int .i64), .a 28], [.row (.int .i64) 3 false]⟩
def S0 (p : (List Int) × (List Int) × Int × Int × (List Int) × Unit) : St := sh0.b p
def xh0 : ShS := ⟨[.a 5, .s (.row 0), .a 30], [.row (.int .i64) 3 false]⟩
def o0 (v0 v1 : List Int) (y : ((List Int) × Unit) × Unit) : Alt := .one (.exit 0) (xh0.b (y.1.1, ()))
def tb (lf : Nat) : List (FuncId × Entry) := [(238, surveyorref01_cut.E lf), (290, surveyorref01_at.E lf)]
def s13_236 (lf : Nat) : List (Nat × (St → Option LTE)) := [(0, sumE sh0 fun (p : (List Int) × (List Int) × Int × Int × (List Int) × Unit) => ⟨((List Int) × Unit) × Unit, l0 lf p.1 p.2.1 (lf + 40) p.2.2.1 p.2.2.2.1 p.2.2.2.2.1, o0 p.1 p.2.1⟩)]
def ls (lf : Nat) : List (Nat × FuncId × Sums) := [(13, 236, sumsL (s13_236 lf))]
def it0 {ρ : Type} (lf n : Nat) (st : St) (k : KE ρ) : Option ρ := itG anns (ls lf) (tb lf) lf 13 236 0 0 (sumsL (s13_236 lf)) n st k
theorem t0 {ρ : Type} (lf n : Nat) (v0 v1 : List Int) (v2 v3 : Int) (v4 : List Int) (k : KE ρ) : it0 lf (n + 1) (S0 (v0, v1, v2, v3, v4, ())) k = r0 lf v0 v1 v2 v3 v4 (fun x0 x1 x2 => it0 lf n (S0 (v0, v1, x0, x1, x2, ())) k) (fun w0 => k (.exit 0) (xh0.b (w0, ()))) := by kernel_rfl
theorem u0 {ρ : Type} (lf : Nat) (v0 v1 : List Int) (k : KE ρ) : ∀ (n : Nat) (v2 v3 : Int) (v4 : List Int), it0 lf n (S0 (v0, v1, v2, v3, v4, ())) k = bd (l0 lf v0 v1 n v2 v3 v4) fun y => altK k (o0 v0 v1 y)
 | 0, _, _, _ => by rw [l0, bd_none]; rfl
 | n + 1, v2, v3, v4 => by
  rw [t0]; simp only [l0, r0, u0 lf v0 v1 k n, bd_br, bd_bd, bd_some', bd_none, br_t, br_f, o0, altK]
theorem sl (lf : Nat) : SL anns (ls lf) (tb lf) lf (ls lf) := slC (laC (fun _ => by kernel_rfl) (fun _ (x : (List Int) × (List Int) × Int × Int × (List Int) × Unit) k => leq_of (u0 lf x.1 x.2.1 k (lf + 40) x.2.2.1 x.2.2.2.1 x.2.2.2.2.1)) laN) slN
def f (lf : Nat) (a0 : List Int) (a1 : List Int) : Option ((List Int) × Unit) :=
 bd (l0 lf a0 a1 (lf + 40) 0 0 []) fun z6 =>
 bd (surveyorref01_cut.f lf z6.1.1) fun r7 =>
 some (r7.1, ())
def E (lf : Nat) : Entry := ⟨[(.sl (.int .i64)), (.sl (.int .i64))], [(.sl (.int .i64))], fun x => f lf x.1 x.2.1⟩
theorem ok (lf : Nat) : Ok 236 (E lf) := okL (tC (surveyorref01_cut.ok lf) (tC (surveyorref01_at.ok lf) tN)) (aoC aoN) (sl lf) fun x => by kernel_rfl
end surveyorref01_plus
namespace surveyorref01_order
def anns : FuncId → FA := annsL [(237, ⟨annOf [(0, ⟨kx 41 [0, 1, 5], [], []⟩, ⟨kx 41 [4], [], []⟩)], none, []⟩)]
def r0 {ρ : Type} (lf : Nat) (v0 v1 : List Int) (v2 : Int) (K : Int → Option ρ) (E0 : Int → Option ρ) (E1 : Option ρ) : Option ρ :=
 br (decide (v2 ≥ 0)) (
 bd (idxL v0 v2) fun y1 =>
 bd (idxL v1 v2) fun y2 =>
 br (y1 != y2) (
 bd (idxL v0 v2) fun y3 =>
 bd (idxL v1 v2) fun y4 =>
 br (decide (y3 < y4)) (
 E0 (-1)) (
 E0 1)) (
 K (i64.wrap (v2 - 1)))) (
 E1)
def l0 (lf : Nat) (v0 v1 : List Int) : Nat → Int → Option (Bool × (Int × Unit) × (Unit) × Unit)
 | 0, _ => none
 | n + 1, v2 => r0 lf v0 v1 v2 (l0 lf v0 v1 n) (fun w0 => some (true, (w0, ()), ((()), ()))) (some (false, (0, ()), ((()), ())))
def sh0 : ShS := ⟨[.s (.sl (.int .i64)), .s (.sl (.int .i64)), .a 3, .s (.int .i64), .a 35], []⟩
def S0 (p : (List Int) × (List Int) × Int × Unit) : St := sh0.b p
def xh0 : ShS := ⟨[.a 4, .s (.int .i64), .a 36], []⟩
def xh1 : ShS := ⟨[.a 41], []⟩
def o0 (v0 v1 : List Int) (y : Bool × (Int × Unit) × (Unit) × Unit) : Alt := .two y.1 (.one .ret (xh0.b (y.2.1.1, ()))) (.one (.exit 0) (xh1.b (())))
def tb (lf : Nat) : List (FuncId × Entry) := []
def s13_237 (lf : Nat) : List (Nat × (St → Option LTE)) := [(0, sumE sh0 fun (p : (List Int) × (List Int) × Int × Unit) => ⟨Bool × (Int × Unit) × (Unit) × Unit, l0 lf p.1 p.2.1 (lf + 40) p.2.2.1, o0 p.1 p.2.1⟩)]
def ls (lf : Nat) : List (Nat × FuncId × Sums) := [(13, 237, sumsL (s13_237 lf))]
def it0 {ρ : Type} (lf n : Nat) (st : St) (k : KE ρ) : Option ρ := itG anns (ls lf) (tb lf) lf 13 237 0 0 (sumsL (s13_237 lf)) n st k
theorem t0 {ρ : Type} (lf n : Nat) (v0 v1 : List Int) (v2 : Int) (k : KE ρ) : it0 lf (n + 1) (S0 (v0, v1, v2, ())) k = r0 lf v0 v1 v2 (fun x0 => it0 lf n (S0 (v0, v1, x0, ())) k) (fun w0 => k .ret (xh0.b (w0, ()))) (k (.exit 0) (xh1.b (()))) := by kernel_rfl
theorem u0 {ρ : Type} (lf : Nat) (v0 v1 : List Int) (k : KE ρ) : ∀ (n : Nat) (v2 : Int), it0 lf n (S0 (v0, v1, v2, ())) k = bd (l0 lf v0 v1 n v2) fun y => altK k (o0 v0 v1 y)
 | 0, _ => by rw [l0, bd_none]; rfl
 | n + 1, v2 => by
  rw [t0]; simp only [l0, r0, u0 lf v0 v1 k n, bd_br, bd_bd, bd_some', bd_none, br_t, br_f, o0, altK]
theorem sl (lf : Nat) : SL anns (ls lf) (tb lf) lf (ls lf) := slC (laC (fun _ => by kernel_rfl) (fun _ (x : (List Int) × (List Int) × Int × Unit) k => leq_of (u0 lf x.1 x.2.1 k (lf + 40) x.2.2.1)) laN) slN
def f (lf : Nat) (a0 : List Int) (a1 : List Int) : Option (Int × Unit) :=
 br (((a0.length : Nat) : Int) != ((a1.length : Nat) : Int)) (
 br (decide (((a0.length : Nat) : Int) < ((a1.length : Nat) : Int))) (
 some ((-1), ())) (
 some (1, ()))) (
 bd (l0 lf a0 a1 (lf + 40) (i64.wrap (((a0.length : Nat) : Int) - 1))) fun z5 =>
 br z5.1 (
 some (z5.2.1.1, ())) (
 some (0, ())))
def E (lf : Nat) : Entry := ⟨[(.sl (.int .i64)), (.sl (.int .i64))], [(.int .i64)], fun x => f lf x.1 x.2.1⟩
theorem ok (lf : Nat) : Ok 237 (E lf) := okL tN (aoC aoN) (sl lf) fun x => by kernel_rfl
end surveyorref01_order
namespace surveyorref01_minus
def anns : FuncId → FA := annsL [(239, ⟨annOf [(0, ⟨kx 35 [0, 1, 5, 6, 7], [⟨.tmp 5, (.int .i64), 3⟩], []⟩, ⟨kx 35 [4, 5], [⟨.tmp 5, (.int .i64), 3⟩], []⟩)], none, []⟩)]
def r0 {ρ : Type} (lf : Nat) (v0 v1 : List Int) (v2 v3 : Int) (v4 : List Int) (K : Int → Int → (List Int) → Option ρ) (E0 : (List Int) → Option ρ) : Option ρ :=
 br (decide (v3 < ((v0.length : Nat) : Int))) (
 bd (idxL v0 v3) fun y1 =>
 bd (surveyorref01_at.f lf v1 v3) fun r2 =>
 br (decide ((i64.wrap ((i64.wrap (y1 - r2.1)) - v2)) < 0)) (
 bd (apL true 8 v4 [(i64.wrap ((i64.wrap ((i64.wrap (y1 - r2.1)) - v2)) + 10))]) fun q3 =>
 K 1 (i64.wrap (v3 + 1)) q3) (
 bd (apL true 8 v4 [(i64.wrap ((i64.wrap (y1 - r2.1)) - v2))]) fun q4 =>
 K 0 (i64.wrap (v3 + 1)) q4)) (
 E0 v4)
def l0 (lf : Nat) (v0 v1 : List Int) : Nat → Int → Int → (List Int) → Option (((List Int) × Unit) × Unit)
 | 0, _, _, _ => none
 | n + 1, v2, v3, v4 => r0 lf v0 v1 v2 v3 v4 (l0 lf v0 v1 n) (fun w0 => some ((w0, ()), ()))
def sh0 : ShS := ⟨[.s (.sl (.int .i64)), .s (.sl (.int .i64)), .a 3, .s (.row 0), .s (.int .i64), .s (.int .i64), .a 27], [.row (.int .i64) 3 false]⟩
def S0 (p : (List Int) × (List Int) × Int × Int × (List Int) × Unit) : St := sh0.b p
def xh0 : ShS := ⟨[.a 5, .s (.row 0), .a 29], [.row (.int .i64) 3 false]⟩
def o0 (v0 v1 : List Int) (y : ((List Int) × Unit) × Unit) : Alt := .one (.exit 0) (xh0.b (y.1.1, ()))
def tb (lf : Nat) : List (FuncId × Entry) := [(238, surveyorref01_cut.E lf), (290, surveyorref01_at.E lf)]
def s13_239 (lf : Nat) : List (Nat × (St → Option LTE)) := [(0, sumE sh0 fun (p : (List Int) × (List Int) × Int × Int × (List Int) × Unit) => ⟨((List Int) × Unit) × Unit, l0 lf p.1 p.2.1 (lf + 40) p.2.2.1 p.2.2.2.1 p.2.2.2.2.1, o0 p.1 p.2.1⟩)]
def ls (lf : Nat) : List (Nat × FuncId × Sums) := [(13, 239, sumsL (s13_239 lf))]
def it0 {ρ : Type} (lf n : Nat) (st : St) (k : KE ρ) : Option ρ := itG anns (ls lf) (tb lf) lf 13 239 0 0 (sumsL (s13_239 lf)) n st k
theorem t0 {ρ : Type} (lf n : Nat) (v0 v1 : List Int) (v2 v3 : Int) (v4 : List Int) (k : KE ρ) : it0 lf (n + 1) (S0 (v0, v1, v2, v3, v4, ())) k = r0 lf v0 v1 v2 v3 v4 (fun x0 x1 x2 => it0 lf n (S0 (v0, v1, x0, x1, x2, ())) k) (fun w0 => k (.exit 0) (xh0.b (w0, ()))) := by kernel_rfl
theorem u0 {ρ : Type} (lf : Nat) (v0 v1 : List Int) (k : KE ρ) : ∀ (n : Nat) (v2 v3 : Int) (v4 : List Int), it0 lf n (S0 (v0, v1, v2, v3, v4, ())) k = bd (l0 lf v0 v1 n v2 v3 v4) fun y => altK k (o0 v0 v1 y)
 | 0, _, _, _ => by rw [l0, bd_none]; rfl
 | n + 1, v2, v3, v4 => by
  rw [t0]; simp only [l0, r0, u0 lf v0 v1 k n, bd_br, bd_bd, bd_some', bd_none, br_t, br_f, o0, altK]
theorem sl (lf : Nat) : SL anns (ls lf) (tb lf) lf (ls lf) := slC (laC (fun _ => by kernel_rfl) (fun _ (x : (List Int) × (List Int) × Int × Int × (List Int) × Unit) k => leq_of (u0 lf x.1 x.2.1 k (lf + 40) x.2.2.1 x.2.2.2.1 x.2.2.2.2.1)) laN) slN
def f (lf : Nat) (a0 : List Int) (a1 : List Int) : Option ((List Int) × Unit) :=
 bd (l0 lf a0 a1 (lf + 40) 0 0 []) fun z5 =>
 bd (surveyorref01_cut.f lf z5.1.1) fun r6 =>
 some (r6.1, ())
def E (lf : Nat) : Entry := ⟨[(.sl (.int .i64)), (.sl (.int .i64))], [(.sl (.int .i64))], fun x => f lf x.1 x.2.1⟩
theorem ok (lf : Nat) : Ok 239 (E lf) := okL (tC (surveyorref01_cut.ok lf) (tC (surveyorref01_at.ok lf) tN)) (aoC aoN) (sl lf) fun x => by kernel_rfl
end surveyorref01_minus
namespace surveyorref01_Sum
def f (lf : Nat) (a0 : ByteArray) (a1 : ByteArray) : Option (ByteArray × Unit) :=
 bd (surveyorref01_short.f lf a0 17) fun r1 =>
 br r1.1 (
 bd (surveyorref01_short.f lf a1 17) fun r2 =>
 br r2.1 (
 bd (surveyorref01_number.f lf a0) fun r3 =>
 bd (surveyorref01_number.f lf a1) fun r4 =>
 bd (surveyorref01_Whole.f lf (i64.wrap (r3.1 + r4.1))) fun r5 =>
 some (r5.1, ())) (
 bd (surveyorref01_digits.f lf a0) fun r6 =>
 bd (surveyorref01_digits.f lf a1) fun r7 =>
 bd (surveyorref01_Negative.f lf a0) fun r8 =>
 bd (surveyorref01_Negative.f lf a1) fun r9 =>
 br (r8.1 == r9.1) (
 bd (surveyorref01_plus.f lf r6.1 r7.1) fun r10 =>
 bd (surveyorref01_Negative.f lf a0) fun r11 =>
 bd (surveyorref01_made.f lf r10.1 r11.1) fun r12 =>
 some (r12.1, ())) (
 bd (surveyorref01_cut.f lf r6.1) fun r13 =>
 bd (surveyorref01_cut.f lf r7.1) fun r14 =>
 bd (surveyorref01_order.f lf r13.1 r14.1) fun r15 =>
 br (decide (r15.1 ≥ 0)) (
 bd (surveyorref01_minus.f lf r6.1 r7.1) fun r16 =>
 bd (surveyorref01_Negative.f lf a0) fun r17 =>
 bd (surveyorref01_made.f lf r16.1 r17.1) fun r18 =>
 some (r18.1, ())) (
 bd (surveyorref01_minus.f lf r7.1 r6.1) fun r19 =>
 bd (surveyorref01_Negative.f lf a1) fun r20 =>
 bd (surveyorref01_made.f lf r19.1 r20.1) fun r21 =>
 some (r21.1, ()))))) (
 bd (surveyorref01_digits.f lf a0) fun r22 =>
 bd (surveyorref01_digits.f lf a1) fun r23 =>
 bd (surveyorref01_Negative.f lf a0) fun r24 =>
 bd (surveyorref01_Negative.f lf a1) fun r25 =>
 br (r24.1 == r25.1) (
 bd (surveyorref01_plus.f lf r22.1 r23.1) fun r26 =>
 bd (surveyorref01_Negative.f lf a0) fun r27 =>
 bd (surveyorref01_made.f lf r26.1 r27.1) fun r28 =>
 some (r28.1, ())) (
 bd (surveyorref01_cut.f lf r22.1) fun r29 =>
 bd (surveyorref01_cut.f lf r23.1) fun r30 =>
 bd (surveyorref01_order.f lf r29.1 r30.1) fun r31 =>
 br (decide (r31.1 ≥ 0)) (
 bd (surveyorref01_minus.f lf r22.1 r23.1) fun r32 =>
 bd (surveyorref01_Negative.f lf a0) fun r33 =>
 bd (surveyorref01_made.f lf r32.1 r33.1) fun r34 =>
 some (r34.1, ())) (
 bd (surveyorref01_minus.f lf r23.1 r22.1) fun r35 =>
 bd (surveyorref01_Negative.f lf a1) fun r36 =>
 bd (surveyorref01_made.f lf r35.1 r36.1) fun r37 =>
 some (r37.1, ()))))
def E (lf : Nat) : Entry := ⟨[.str, .str], [.str], fun x => f lf x.1 x.2.1⟩
theorem ok (lf : Nat) : Ok 184 (E lf) := okT (an := (annsL [])) (lf := lf) (tC (surveyorref01_Whole.ok lf) (tC (surveyorref01_Negative.ok lf) (tC (surveyorref01_short.ok lf) (tC (surveyorref01_number.ok lf) (tC (surveyorref01_digits.ok lf) (tC (surveyorref01_made.ok lf) (tC (surveyorref01_plus.ok lf) (tC (surveyorref01_order.ok lf) (tC (surveyorref01_cut.ok lf) (tC (surveyorref01_minus.ok lf) tN)))))))))) aoN fun x => by kernel_rfl
end surveyorref01_Sum
namespace surveyorref01_Negated
def f (lf : Nat) (a0 : ByteArray) : Option (ByteArray × Unit) :=
 br (a0.toList == (⟨#[48]⟩ : ByteArray).toList) (
 some (a0, ())) (
 bd (surveyorref01_Negative.f lf a0) fun r1 =>
 br r1.1 (
 bd (sCut a0 (some 1) none) fun r2 =>
 some (r2, ())) (
 bd (sCat (⟨#[45]⟩ : ByteArray) a0) fun r3 =>
 some (r3, ())))
def E (lf : Nat) : Entry := ⟨[.str], [.str], fun x => f lf x.1⟩
theorem ok (lf : Nat) : Ok 187 (E lf) := okT (an := (annsL [])) (lf := lf) (tC (surveyorref01_Negative.ok lf) tN) aoN fun x => by kernel_rfl
end surveyorref01_Negated
namespace surveyorref01_Diff
def f (lf : Nat) (a0 : ByteArray) (a1 : ByteArray) : Option (ByteArray × Unit) :=
 bd (surveyorref01_Negated.f lf a1) fun r1 =>
 bd (surveyorref01_Sum.f lf a0 r1.1) fun r2 =>
 some (r2.1, ())
def E (lf : Nat) : Entry := ⟨[.str, .str], [.str], fun x => f lf x.1 x.2.1⟩
theorem ok (lf : Nat) : Ok 154 (E lf) := okT (an := (annsL [])) (lf := lf) (tC (surveyorref01_Sum.ok lf) (tC (surveyorref01_Negated.ok lf) tN)) aoN fun x => by kernel_rfl
end surveyorref01_Diff
namespace surveyorref01_times
def anns : FuncId → FA := annsL [(291, ⟨annOf [(0, ⟨kx 63 [0, 1, 5, 6], [], []⟩, ⟨kx 63 [4, 5], [], []⟩), (1, ⟨kx 63 [0, 1, 5, 6, 7, 8], [], []⟩, ⟨kx 63 [0, 1, 4, 5, 6, 7], [], []⟩)], none, []⟩)]
def r1 {ρ : Type} (lf : Nat) (v0 v1 : List Int) (v2 : Int) (v3 v4 : Int) (v5 : List Int) (K : Int → Int → (List Int) → Option ρ) (E0 : Int → (List Int) → Option ρ) : Option ρ :=
 br (decide (v4 < ((v1.length : Nat) : Int))) (
 bd (idxB v5.length (i64.wrap (v2 + v4))) fun j2 =>
 bd (v5[j2]?) fun y3 =>
 bd (idxL v0 v2) fun y4 =>
 bd (idxL v1 v4) fun y5 =>
 bd (iRem (i64.wrap (v3 + (i64.wrap (y3 + (i64.wrap (y4 * y5)))))) 10) fun r6 =>
 bd (idxB v5.length (i64.wrap (v2 + v4))) fun j7 =>
 bd (upE v5 j7 fun _ => some r6) fun q8 =>
 bd (iQuo .i64 (i64.wrap (v3 + (i64.wrap (y3 + (i64.wrap (y4 * y5)))))) 10) fun r10 =>
 K r10 (i64.wrap (v4 + 1)) q8) (
 E0 v3 v5)
def l1 (lf : Nat) (v0 v1 : List Int) (v2 : Int) : Nat → Int → Int → (List Int) → Option ((Int × (List Int) × Unit) × Unit)
 | 0, _, _, _ => none
 | n + 1, v3, v4, v5 => r1 lf v0 v1 v2 v3 v4 v5 (l1 lf v0 v1 v2 n) (fun w0 w1 => some ((w0, w1, ()), ()))
def sh1 : ShS := ⟨[.s (.sl (.int .i64)), .s (.sl (.int .i64)), .a 3, .s (.row 0), .s (.int .i64), .s (.int .i64), .s (.int .i64), .a 54], [.row (.int .i64) 3 false]⟩
def S1 (p : (List Int) × (List Int) × Int × Int × Int × (List Int) × Unit) : St := sh1.b p
def xh0 : ShS := ⟨[.s (.sl (.int .i64)), .s (.sl (.int .i64)), .a 3, .s (.row 0), .s (.int .i64), .s (.int .i64), .a 55], [.row (.int .i64) 3 false]⟩
def o1 (v0 v1 : List Int) (v2 : Int) (y : (Int × (List Int) × Unit) × Unit) : Alt := .one (.exit 2) (xh0.b (v0, v1, v2, y.1.1, y.1.2.1, ()))
def r0 {ρ : Type} (lf : Nat) (v0 v1 : List Int) (v2 : Int) (v3 : List Int) (K : Int → (List Int) → Option ρ) (E0 : (List Int) → Option ρ) : Option ρ :=
 br (decide (v2 < ((v0.length : Nat) : Int))) (
 bd (l1 lf v0 v1 v2 (lf + 40) 0 0 v3) fun z11 =>
 bd (idxB z11.1.2.1.length (i64.wrap (v2 + ((v1.length : Nat) : Int)))) fun j12 =>
 bd (upE z11.1.2.1 j12 fun _ => some z11.1.1) fun q13 =>
 K (i64.wrap (v2 + 1)) q13) (
 E0 v3)
def l0 (lf : Nat) (v0 v1 : List Int) : Nat → Int → (List Int) → Option (((List Int) × Unit) × Unit)
 | 0, _, _ => none
 | n + 1, v2, v3 => r0 lf v0 v1 v2 v3 (l0 lf v0 v1 n) (fun w0 => some ((w0, ()), ()))
def sh0 : ShS := ⟨[.s (.sl (.int .i64)), .s (.sl (.int .i64)), .a 3, .s (.row 0), .s (.int .i64), .a 56], [.row (.int .i64) 3 false]⟩
def S0 (p : (List Int) × (List Int) × Int × (List Int) × Unit) : St := sh0.b p
def xh1 : ShS := ⟨[.a 5, .s (.row 0), .a 57], [.row (.int .i64) 3 false]⟩
def o0 (v0 v1 : List Int) (y : ((List Int) × Unit) × Unit) : Alt := .one (.exit 0) (xh1.b (y.1.1, ()))
def tb (lf : Nat) : List (FuncId × Entry) := [(238, surveyorref01_cut.E lf)]
def s13_291 (lf : Nat) : List (Nat × (St → Option LTE)) := [(0, sumE sh0 fun (p : (List Int) × (List Int) × Int × (List Int) × Unit) => ⟨((List Int) × Unit) × Unit, l0 lf p.1 p.2.1 (lf + 40) p.2.2.1 p.2.2.2.1, o0 p.1 p.2.1⟩),
 (1, sumE sh1 fun (p : (List Int) × (List Int) × Int × Int × Int × (List Int) × Unit) => ⟨(Int × (List Int) × Unit) × Unit, l1 lf p.1 p.2.1 p.2.2.1 (lf + 40) p.2.2.2.1 p.2.2.2.2.1 p.2.2.2.2.2.1, o1 p.1 p.2.1 p.2.2.1⟩)]
def ls (lf : Nat) : List (Nat × FuncId × Sums) := [(13, 291, sumsL (s13_291 lf))]
def it1 {ρ : Type} (lf n : Nat) (st : St) (k : KE ρ) : Option ρ := itG anns (ls lf) (tb lf) lf 13 291 1 1 (sumsL (s13_291 lf)) n st k
theorem t1 {ρ : Type} (lf n : Nat) (v0 v1 : List Int) (v2 v3 v4 : Int) (v5 : List Int) (k : KE ρ) : it1 lf (n + 1) (S1 (v0, v1, v2, v3, v4, v5, ())) k = r1 lf v0 v1 v2 v3 v4 v5 (fun x0 x1 x2 => it1 lf n (S1 (v0, v1, v2, x0, x1, x2, ())) k) (fun w0 w1 => k (.exit 2) (xh0.b (v0, v1, v2, w0, w1, ()))) := by kernel_rfl
theorem u1 {ρ : Type} (lf : Nat) (v0 v1 : List Int) (v2 : Int) (k : KE ρ) : ∀ (n : Nat) (v3 v4 : Int) (v5 : List Int), it1 lf n (S1 (v0, v1, v2, v3, v4, v5, ())) k = bd (l1 lf v0 v1 v2 n v3 v4 v5) fun y => altK k (o1 v0 v1 v2 y)
 | 0, _, _, _ => by rw [l1, bd_none]; rfl
 | n + 1, v3, v4, v5 => by
  rw [t1]; simp only [l1, r1, u1 lf v0 v1 v2 k n, bd_br, bd_bd, bd_some', bd_none, br_t, br_f, o1, altK]
def it0 {ρ : Type} (lf n : Nat) (st : St) (k : KE ρ) : Option ρ := itG anns (ls lf) (tb lf) lf 13 291 0 1 (sumsL (s13_291 lf)) n st k
theorem t0 {ρ : Type} (lf n : Nat) (v0 v1 : List Int) (v2 : Int) (v3 : List Int) (k : KE ρ) : it0 lf (n + 1) (S0 (v0, v1, v2, v3, ())) k = r0 lf v0 v1 v2 v3 (fun x0 x1 => it0 lf n (S0 (v0, v1, x0, x1, ())) k) (fun w0 => k (.exit 0) (xh1.b (w0, ()))) := by kernel_rfl
theorem u0 {ρ : Type} (lf : Nat) (v0 v1 : List Int) (k : KE ρ) : ∀ (n : Nat) (v2 : Int) (v3 : List Int), it0 lf n (S0 (v0, v1, v2, v3, ())) k = bd (l0 lf v0 v1 n v2 v3) fun y => altK k (o0 v0 v1 y)
 | 0, _, _ => by rw [l0, bd_none]; rfl
 | n + 1, v2, v3 => by
  rw [t0]; simp only [l0, r0, u0 lf v0 v1 k n, bd_br, bd_bd, bd_some', bd_none, br_t, br_f, o0, altK]
theorem sl (lf : Nat) : SL anns (ls lf) (tb lf) lf (ls lf) := slC (laC (fun _ => by kernel_rfl) (fun _ (x : (List Int) × (List Int) × Int × (List Int) × Unit) k => leq_of (u0 lf x.1 x.2.1 k (lf + 40) x.2.2.1 x.2.2.2.1)) (laC (fun _ => by kernel_rfl) (fun _ (x : (List Int) × (List Int) × Int × Int × Int × (List Int) × Unit) k => leq_of (u1 lf x.1 x.2.1 x.2.2.1 k (lf + 40) x.2.2.2.1 x.2.2.2.2.1 x.2.2.2.2.2.1)) laN)) slN
def f (lf : Nat) (a0 : List Int) (a1 : List Int) : Option ((List Int) × Unit) :=
 bd (mkL (i64.wrap (((a0.length : Nat) : Int) + ((a1.length : Nat) : Int))) (i64.wrap (((a0.length : Nat) : Int) + ((a1.length : Nat) : Int))) 8 0) fun q1 =>
 bd (l0 lf a0 a1 (lf + 40) 0 q1) fun z15 =>
 bd (surveyorref01_cut.f lf z15.1.1) fun r16 =>
 some (r16.1, ())
def E (lf : Nat) : Entry := ⟨[(.sl (.int .i64)), (.sl (.int .i64))], [(.sl (.int .i64))], fun x => f lf x.1 x.2.1⟩
theorem ok (lf : Nat) : Ok 291 (E lf) := okL (tC (surveyorref01_cut.ok lf) tN) (aoC aoN) (sl lf) fun x => by kernel_rfl
end surveyorref01_times
end
end Go.Q
