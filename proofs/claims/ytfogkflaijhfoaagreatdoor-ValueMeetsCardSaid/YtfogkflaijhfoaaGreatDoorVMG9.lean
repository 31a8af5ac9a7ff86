import Derived.Test.YtfogkflaijhfoaaGreatDoorProg
import Derived.KernelRfl
import Derived.Test.YtfogkflaijhfoaaGreatDoorVME3
import Derived.Test.YtfogkflaijhfoaaGreatDoorVMG4
import Derived.Test.YtfogkflaijhfoaaGreatDoorVMG6
import Derived.Test.YtfogkflaijhfoaaGreatDoorVMG7
import Derived.Test.YtfogkflaijhfoaaGreatDoorVMG8
set_option linter.unusedVariables false
set_option linter.unusedSimpArgs false
set_option linter.unusedSectionVars false
set_option maxRecDepth 100000
namespace Go.Q
open Go.IntKind (i64)
open Go Go.RowKit
open Go.Rx (br bd sIdx sCat sCut iQuo iRem)
noncomputable section
namespace surveyorlaw23_ValueMeets
def anns : FuncId → FA := annsL [(12, ⟨annOf [(0, ⟨kx 192 [2, 3, 4, 69, 70, 71], [], []⟩, ⟨kx 192 [2, 3, 4, 6], [], []⟩), (1, ⟨kx 192 [155, 156, 157], [], [0, 1, 2, 3, 4]⟩, ⟨kx 192 [6], [], [0, 1, 2, 3, 4]⟩), (2, ⟨kx 192 [24, 155, 156, 157, 167, 168, 169], [], []⟩, ⟨kx 192 [6, 155, 156, 157], [], []⟩)], none, []⟩)]
def r0 {ρ : Type} (lf : Nat) (v0 : ByteArray) (v1 : Int) (v3 : Bool) (v4 v5 : ByteArray) (v6 : Bool) (v7 v8 : ByteArray) (v9 : Bool) (v10 v11 : ByteArray) (v12 : Bool) (v13 v14 : ByteArray) (v15 : List ByteArray) (v2 : Int) (K : Int → Option ρ) (E0 : Bool → Option ρ) (E1 : Option ρ) : Option ρ :=
 br (decide (v2 < v1)) (
 bd (idxB v15.length v2) fun j9 =>
 bd (v15[j9]?) fun y10 =>
 br (decide (((y10.size : Nat) : Int) > 40)) (
 bd (surveyorlaw23_awake.f lf) fun r11 =>
 E0 r11.1) (
 K (i64.wrap (v2 + 1)))) (
 E1)
def l0 (lf : Nat) (v0 : ByteArray) (v1 : Int) (v3 : Bool) (v4 v5 : ByteArray) (v6 : Bool) (v7 v8 : ByteArray) (v9 : Bool) (v10 v11 : ByteArray) (v12 : Bool) (v13 v14 : ByteArray) (v15 : List ByteArray) : Nat → Int → Option (Bool × (Bool × Unit) × (Unit) × Unit)
 | 0, _ => none
 | n + 1, v2 => r0 lf v0 v1 v3 v4 v5 v6 v7 v8 v9 v10 v11 v12 v13 v14 v15 v2 (l0 lf v0 v1 v3 v4 v5 v6 v7 v8 v9 v10 v11 v12 v13 v14 v15 n) (fun w0 => some (true, (w0, ()), ((()), ()))) (some (false, (false, ()), ((()), ())))
def sh0 : ShS := ⟨[.a 2, .s .str, .s (.ptr 0 0), .s (.ptr 1 0), .a 64, .s (.row 2), .s (.int .i64), .s (.int .i64), .a 120], [.cells [.s .bool, .s .str, .s .str, .s .bool, .s .str, .s .str] 39, .cells [.s .bool, .s .str, .s .str, .s .bool, .s .str, .s .str] 39, .row .str 24 false]⟩
def S0 (p : ByteArray × Int × Int × Bool × ByteArray × ByteArray × Bool × ByteArray × ByteArray × Bool × ByteArray × ByteArray × Bool × ByteArray × ByteArray × (List ByteArray) × Unit) : St := sh0.b p
def xh0 : ShS := ⟨[.a 2, .s .str, .s (.ptr 0 0), .s (.ptr 1 0), .a 1, .s .bool, .a 185], [.cells [.s .bool, .s .str, .s .str, .s .bool, .s .str, .s .str] 39, .cells [.s .bool, .s .str, .s .str, .s .bool, .s .str, .s .str] 39, .row .str 24 false]⟩
def xh1 : ShS := ⟨[.a 2, .s .str, .s (.ptr 0 0), .s (.ptr 1 0), .a 187], [.cells [.s .bool, .s .str, .s .str, .s .bool, .s .str, .s .str] 39, .cells [.s .bool, .s .str, .s .str, .s .bool, .s .str, .s .str] 39, .row .str 24 false]⟩
def o0 (v0 : ByteArray) (v1 : Int) (v3 : Bool) (v4 v5 : ByteArray) (v6 : Bool) (v7 v8 : ByteArray) (v9 : Bool) (v10 v11 : ByteArray) (v12 : Bool) (v13 v14 : ByteArray) (v15 : List ByteArray) (y : Bool × (Bool × Unit) × (Unit) × Unit) : Alt := .two y.1 (.one .ret (xh0.b (v0, y.2.1.1, v3, v4, v5, v6, v7, v8, v9, v10, v11, v12, v13, v14, v15, ()))) (.one (.exit 0) (xh1.b (v0, v3, v4, v5, v6, v7, v8, v9, v10, v11, v12, v13, v14, v15, ())))
def r2 {ρ : Type} (lf : Nat) (v0 v1 v2 : Int) (v4 : List TV) (v5 : Bool) (v6 v7 : ByteArray) (v8 : Bool) (v9 v10 : ByteArray) (v11 : List ByteArray) (v3 : Int) (K : Int → Option ρ) (E0 : Option ρ) (E1 : Option ρ) : Option ρ :=
 br (decide (v3 < v2)) (
 bd (idxB v11.length v3) fun j22 =>
 bd (v11[j22]?) fun y23 =>
 bd (value_Holds.f lf ((v5, v6, v7, ()), (v8, v9, v10, ()), ()) y23) fun r24 =>
 br (!(y23.toList == (⟨#[]⟩ : ByteArray).toList)) (
 br (r24.2.1 != 0) (
 E0) (
 br (!r24.1) (
 E0) (
 K (i64.wrap (v3 + 1))))) (
 K (i64.wrap (v3 + 1)))) (
 E1)
def l2 (lf : Nat) (v0 v1 v2 : Int) (v4 : List TV) (v5 : Bool) (v6 v7 : ByteArray) (v8 : Bool) (v9 v10 : ByteArray) (v11 : List ByteArray) : Nat → Int → Option (Bool × (Unit) × (Unit) × Unit)
 | 0, _ => none
 | n + 1, v3 => r2 lf v0 v1 v2 v4 v5 v6 v7 v8 v9 v10 v11 v3 (l2 lf v0 v1 v2 v4 v5 v6 v7 v8 v9 v10 v11 n) (some (true, (()), ((()), ()))) (some (false, (()), ((()), ())))
def sh2 : ShS := ⟨[.a 24, .s (.ptr 6 0), .a 130, .s (.row 5), .s (.int .i64), .s (.int .i64), .a 9, .s (.row 7), .s (.int .i64), .s (.int .i64), .a 22], [.gone, .gone, .gone, .gone, .gone, .row yV 39 false, .cells [.s .bool, .s .str, .s .str, .s .bool, .s .str, .s .str] 39, .row .str 24 false]⟩
def S2 (p : Int × Int × Int × Int × (List TV) × Bool × ByteArray × ByteArray × Bool × ByteArray × ByteArray × (List ByteArray) × Unit) : St := sh2.b p
def xh2 : ShS := ⟨[.a 6, .s .bool, .a 148, .s (.row 5), .s (.int .i64), .s (.int .i64), .a 34], [.gone, .gone, .gone, .gone, .gone, .row yV 39 false, .cells [.s .bool, .s .str, .s .str, .s .bool, .s .str, .s .str] 39, .row .str 24 false]⟩
def xh3 : ShS := ⟨[.a 155, .s (.row 5), .s (.int .i64), .s (.int .i64), .a 34], [.gone, .gone, .gone, .gone, .gone, .row yV 39 false, .cells [.s .bool, .s .str, .s .str, .s .bool, .s .str, .s .str] 39, .row .str 24 false]⟩
def o2 (v0 v1 v2 : Int) (v4 : List TV) (v5 : Bool) (v6 v7 : ByteArray) (v8 : Bool) (v9 v10 : ByteArray) (v11 : List ByteArray) (y : Bool × (Unit) × (Unit) × Unit) : Alt := .two y.1 (.one .ret (xh2.b (false, v0, v1, v4, v5, v6, v7, v8, v9, v10, v11, ()))) (.one (.exit 4) (xh3.b (v0, v1, v4, v5, v6, v7, v8, v9, v10, v11, ())))
def r1 {ρ : Type} (lf : Nat) (v0 : Int) (v2 : List TV) (v1 : Int) (K : Int → Option ρ) (E0 : Option ρ) (E1 : Option ρ) : Option ρ :=
 br (decide (v1 < v0)) (
 bd (idxB v2.length v1) fun j20 =>
 bd (v2[j20]?) fun y21 =>
 bd (l2 lf v0 v1 2 v2 y21.1.1 y21.1.2.1 y21.1.2.2.1 y21.2.1.1 y21.2.1.2.1 y21.2.1.2.2.1 [y21.1.2.1, y21.1.2.2.1] (lf + 40) 0) fun z25 =>
 br z25.1 (
 E0) (
 K (i64.wrap (v1 + 1)))) (
 E1)
def l1 (lf : Nat) (v0 : Int) (v2 : List TV) : Nat → Int → Option (Bool × (Unit) × (Unit) × Unit)
 | 0, _ => none
 | n + 1, v1 => r1 lf v0 v2 v1 (l1 lf v0 v2 n) (some (true, (()), ((()), ()))) (some (false, (()), ((()), ())))
def sh1 : ShS := ⟨[.a 155, .s (.row 5), .s (.int .i64), .s (.int .i64), .a 34], [.gone, .gone, .gone, .gone, .gone, .row yV 39 false]⟩
def S1 (p : Int × Int × (List TV) × Unit) : St := sh1.b p
def xh4 : ShS := ⟨[.a 6, .s .bool, .a 185], [.gone, .gone, .gone, .gone, .gone, .row yV 39 false]⟩
def xh5 : ShS := ⟨[.a 192], [.gone, .gone, .gone, .gone, .gone, .row yV 39 false]⟩
def o1 (v0 : Int) (v2 : List TV) (y : Bool × (Unit) × (Unit) × Unit) : Alt := .two y.1 (.one .ret (xh4.b (false, v2, ()))) (.one (.exit 2) (xh5.b (v2, ())))
def tb (lf : Nat) : List (FuncId × Entry) := [(21, surveyorref23_Few.E lf), (22, surveyorlaw23_awake.E lf), (28, surveyorref01_Check.E lf), (31, value_Leq.E lf), (38, surveyorref01_Few.E lf), (43, value_Holds.E lf), (59, value_Join.E lf), (61, value_Meet.E lf), (71, surveyorref23_Checks.E lf)]
def s13_12 (lf : Nat) : List (Nat × (St → Option LTE)) := [(0, sumE sh0 fun (p : ByteArray × Int × Int × Bool × ByteArray × ByteArray × Bool × ByteArray × ByteArray × Bool × ByteArray × ByteArray × Bool × ByteArray × ByteArray × (List ByteArray) × Unit) => ⟨Bool × (Bool × Unit) × (Unit) × Unit, l0 lf p.1 p.2.1 p.2.2.2.1 p.2.2.2.2.1 p.2.2.2.2.2.1 p.2.2.2.2.2.2.1 p.2.2.2.2.2.2.2.1 p.2.2.2.2.2.2.2.2.1 p.2.2.2.2.2.2.2.2.2.1 p.2.2.2.2.2.2.2.2.2.2.1 p.2.2.2.2.2.2.2.2.2.2.2.1 p.2.2.2.2.2.2.2.2.2.2.2.2.1 p.2.2.2.2.2.2.2.2.2.2.2.2.2.1 p.2.2.2.2.2.2.2.2.2.2.2.2.2.2.1 p.2.2.2.2.2.2.2.2.2.2.2.2.2.2.2.1 (lf + 40) p.2.2.1, o0 p.1 p.2.1 p.2.2.2.1 p.2.2.2.2.1 p.2.2.2.2.2.1 p.2.2.2.2.2.2.1 p.2.2.2.2.2.2.2.1 p.2.2.2.2.2.2.2.2.1 p.2.2.2.2.2.2.2.2.2.1 p.2.2.2.2.2.2.2.2.2.2.1 p.2.2.2.2.2.2.2.2.2.2.2.1 p.2.2.2.2.2.2.2.2.2.2.2.2.1 p.2.2.2.2.2.2.2.2.2.2.2.2.2.1 p.2.2.2.2.2.2.2.2.2.2.2.2.2.2.1 p.2.2.2.2.2.2.2.2.2.2.2.2.2.2.2.1⟩),
 (1, sumE sh1 fun (p : Int × Int × (List TV) × Unit) => ⟨Bool × (Unit) × (Unit) × Unit, l1 lf p.1 p.2.2.1 (lf + 40) p.2.1, o1 p.1 p.2.2.1⟩),
 (2, sumE sh2 fun (p : Int × Int × Int × Int × (List TV) × Bool × ByteArray × ByteArray × Bool × ByteArray × ByteArray × (List ByteArray) × Unit) => ⟨Bool × (Unit) × (Unit) × Unit, l2 lf p.1 p.2.1 p.2.2.1 p.2.2.2.2.1 p.2.2.2.2.2.1 p.2.2.2.2.2.2.1 p.2.2.2.2.2.2.2.1 p.2.2.2.2.2.2.2.2.1 p.2.2.2.2.2.2.2.2.2.1 p.2.2.2.2.2.2.2.2.2.2.1 p.2.2.2.2.2.2.2.2.2.2.2.1 (lf + 40) p.2.2.2.1, o2 p.1 p.2.1 p.2.2.1 p.2.2.2.2.1 p.2.2.2.2.2.1 p.2.2.2.2.2.2.1 p.2.2.2.2.2.2.2.1 p.2.2.2.2.2.2.2.2.1 p.2.2.2.2.2.2.2.2.2.1 p.2.2.2.2.2.2.2.2.2.2.1 p.2.2.2.2.2.2.2.2.2.2.2.1⟩)]
def ls (lf : Nat) : List (Nat × FuncId × Sums) := [(13, 12, sumsL (s13_12 lf))]
def it0 {ρ : Type} (lf n : Nat) (st : St) (k : KE ρ) : Option ρ := itG anns (ls lf) (tb lf) lf 13 12 0 3 (sumsL (s13_12 lf)) n st k
theorem t0 {ρ : Type} (lf n : Nat) (v0 : ByteArray) (v1 v2 : Int) (v3 : Bool) (v4 v5 : ByteArray) (v6 : Bool) (v7 v8 : ByteArray) (v9 : Bool) (v10 v11 : ByteArray) (v12 : Bool) (v13 v14 : ByteArray) (v15 : List ByteArray) (k : KE ρ) : it0 lf (n + 1) (S0 (v0, v1, v2, v3, v4, v5, v6, v7, v8, v9, v10, v11, v12, v13, v14, v15, ())) k = r0 lf v0 v1 v3 v4 v5 v6 v7 v8 v9 v10 v11 v12 v13 v14 v15 v2 (fun x0 => it0 lf n (S0 (v0, v1, x0, v3, v4, v5, v6, v7, v8, v9, v10, v11, v12, v13, v14, v15, ())) k) (fun w0 => k .ret (xh0.b (v0, w0, v3, v4, v5, v6, v7, v8, v9, v10, v11, v12, v13, v14, v15, ()))) (k (.exit 0) (xh1.b (v0, v3, v4, v5, v6, v7, v8, v9, v10, v11, v12, v13, v14, v15, ()))) := by kernel_rfl
theorem u0 {ρ : Type} (lf : Nat) (v0 : ByteArray) (v1 : Int) (v3 : Bool) (v4 v5 : ByteArray) (v6 : Bool) (v7 v8 : ByteArray) (v9 : Bool) (v10 v11 : ByteArray) (v12 : Bool) (v13 v14 : ByteArray) (v15 : List ByteArray) (k : KE ρ) : ∀ (n : Nat) (v2 : Int), it0 lf n (S0 (v0, v1, v2, v3, v4, v5, v6, v7, v8, v9, v10, v11, v12, v13, v14, v15, ())) k = bd (l0 lf v0 v1 v3 v4 v5 v6 v7 v8 v9 v10 v11 v12 v13 v14 v15 n v2) fun y => altK k (o0 v0 v1 v3 v4 v5 v6 v7 v8 v9 v10 v11 v12 v13 v14 v15 y)
 | 0, _ => by rw [l0, bd_none]; rfl
 | n + 1, v2 => by
  rw [t0]; simp only [l0, r0, u0 lf v0 v1 v3 v4 v5 v6 v7 v8 v9 v10 v11 v12 v13 v14 v15 k n, bd_br, bd_bd, bd_some', bd_none, br_t, br_f, o0, altK]
def it2 {ρ : Type} (lf n : Nat) (st : St) (k : KE ρ) : Option ρ := itG anns (ls lf) (tb lf) lf 13 12 2 8 (sumsL (s13_12 lf)) n st k
theorem t2 {ρ : Type} (lf n : Nat) (v0 v1 v2 v3 : Int) (v4 : List TV) (v5 : Bool) (v6 v7 : ByteArray) (v8 : Bool) (v9 v10 : ByteArray) (v11 : List ByteArray) (k : KE ρ) : it2 lf (n + 1) (S2 (v0, v1, v2, v3, v4, v5, v6, v7, v8, v9, v10, v11, ())) k = r2 lf v0 v1 v2 v4 v5 v6 v7 v8 v9 v10 v11 v3 (fun x0 => it2 lf n (S2 (v0, v1, v2, x0, v4, v5, v6, v7, v8, v9, v10, v11, ())) k) (k .ret (xh2.b (false, v0, v1, v4, v5, v6, v7, v8, v9, v10, v11, ()))) (k (.exit 4) (xh3.b (v0, v1, v4, v5, v6, v7, v8, v9, v10, v11, ()))) := by kernel_rfl
theorem u2 {ρ : Type} (lf : Nat) (v0 v1 v2 : Int) (v4 : List TV) (v5 : Bool) (v6 v7 : ByteArray) (v8 : Bool) (v9 v10 : ByteArray) (v11 : List ByteArray) (k : KE ρ) : ∀ (n : Nat) (v3 : Int), it2 lf n (S2 (v0, v1, v2, v3, v4, v5, v6, v7, v8, v9, v10, v11, ())) k = bd (l2 lf v0 v1 v2 v4 v5 v6 v7 v8 v9 v10 v11 n v3) fun y => altK k (o2 v0 v1 v2 v4 v5 v6 v7 v8 v9 v10 v11 y)
 | 0, _ => by rw [l2, bd_none]; rfl
 | n + 1, v3 => by
  rw [t2]; simp only [l2, r2, u2 lf v0 v1 v2 v4 v5 v6 v7 v8 v9 v10 v11 k n, bd_br, bd_bd, bd_some', bd_none, br_t, br_f, o2, altK]
def it1 {ρ : Type} (lf n : Nat) (st : St) (k : KE ρ) : Option ρ := itG anns (ls lf) (tb lf) lf 13 12 1 6 (sumsL (s13_12 lf)) n st k
theorem t1 {ρ : Type} (lf n : Nat) (v0 v1 : Int) (v2 : List TV) (k : KE ρ) : it1 lf (n + 1) (S1 (v0, v1, v2, ())) k = r1 lf v0 v2 v1 (fun x0 => it1 lf n (S1 (v0, x0, v2, ())) k) (k .ret (xh4.b (false, v2, ()))) (k (.exit 2) (xh5.b (v2, ()))) := by kernel_rfl
theorem u1 {ρ : Type} (lf : Nat) (v0 : Int) (v2 : List TV) (k : KE ρ) : ∀ (n : Nat) (v1 : Int), it1 lf n (S1 (v0, v1, v2, ())) k = bd (l1 lf v0 v2 n v1) fun y => altK k (o1 v0 v2 y)
 | 0, _ => by rw [l1, bd_none]; rfl
 | n + 1, v1 => by
  rw [t1]; simp only [l1, r1, u1 lf v0 v2 k n, bd_br, bd_bd, bd_some', bd_none, br_t, br_f, o1, altK]
theorem sl (lf : Nat) : SL anns (ls lf) (tb lf) lf (ls lf) := slC (laC (fun _ => by kernel_rfl) (fun _ (x : ByteArray × Int × Int × Bool × ByteArray × ByteArray × Bool × ByteArray × ByteArray × Bool × ByteArray × ByteArray × Bool × ByteArray × ByteArray × (List ByteArray) × Unit) k => leq_of (u0 lf x.1 x.2.1 x.2.2.2.1 x.2.2.2.2.1 x.2.2.2.2.2.1 x.2.2.2.2.2.2.1 x.2.2.2.2.2.2.2.1 x.2.2.2.2.2.2.2.2.1 x.2.2.2.2.2.2.2.2.2.1 x.2.2.2.2.2.2.2.2.2.2.1 x.2.2.2.2.2.2.2.2.2.2.2.1 x.2.2.2.2.2.2.2.2.2.2.2.2.1 x.2.2.2.2.2.2.2.2.2.2.2.2.2.1 x.2.2.2.2.2.2.2.2.2.2.2.2.2.2.1 x.2.2.2.2.2.2.2.2.2.2.2.2.2.2.2.1 k (lf + 40) x.2.2.1)) (laC (fun _ => by kernel_rfl) (fun _ (x : Int × Int × (List TV) × Unit) k => leq_of (u1 lf x.1 x.2.2.1 k (lf + 40) x.2.1)) (laC (fun _ => by kernel_rfl) (fun _ (x : Int × Int × Int × Int × (List TV) × Bool × ByteArray × ByteArray × Bool × ByteArray × ByteArray × (List ByteArray) × Unit) k => leq_of (u2 lf x.1 x.2.1 x.2.2.1 x.2.2.2.2.1 x.2.2.2.2.2.1 x.2.2.2.2.2.2.1 x.2.2.2.2.2.2.2.1 x.2.2.2.2.2.2.2.2.1 x.2.2.2.2.2.2.2.2.2.1 x.2.2.2.2.2.2.2.2.2.2.1 x.2.2.2.2.2.2.2.2.2.2.2.1 k (lf + 40) x.2.2.2.1)) laN))) slN
def f (lf : Nat) (a0 : TV) (a1 : TV) (a2 : ByteArray) : Option (Bool × Unit) :=
 bd (surveyorref23_Few.f lf a0 a1) fun r1 =>
 br (!r1.1) (
 bd (surveyorlaw23_awake.f lf) fun r2 =>
 some (r2.1, ())) (
 bd (surveyorref23_Checks.f lf a0 a1) fun r3 =>
 br (r3.1 != 0) (
 bd (surveyorlaw23_awake.f lf) fun r4 =>
 some (r4.1, ())) (
 bd (surveyorref01_Few.f lf a2) fun r5 =>
 br (!r5.1) (
 bd (surveyorlaw23_awake.f lf) fun r6 =>
 some (r6.1, ())) (
 bd (surveyorref01_Check.f lf a2) fun r7 =>
 br (r7.1 != 0) (
 bd (surveyorlaw23_awake.f lf) fun r8 =>
 some (r8.1, ())) (
 bd (l0 lf a2 7 a0.1.1 a0.1.2.1 a0.1.2.2.1 a0.2.1.1 a0.2.1.2.1 a0.2.1.2.2.1 a1.1.1 a1.1.2.1 a1.1.2.2.1 a1.2.1.1 a1.2.1.2.1 a1.2.1.2.2.1 [a0.1.2.1, a0.1.2.2.1, a1.1.2.1, a1.1.2.2.1, a0.2.1.2.1, a1.2.1.2.1, a2] (lf + 40) 0) fun z12 =>
 br z12.1 (
 some (z12.2.1.1, ())) (
 bd (value_Meet.f lf a0 a1) fun r13 =>
 bd (value_Join.f lf a0 a1) fun r14 =>
 bd (value_Holds.f lf a0 a2) fun r15 =>
 bd (value_Holds.f lf a1 a2) fun r16 =>
 bd (value_Holds.f lf r13.1 a2) fun r17 =>
 bd (value_Leq.f lf r13.1 a0) fun r18 =>
 bd (value_Leq.f lf a0 r14.1) fun r19 =>
 br ((i64.wrap ((i64.wrap ((i64.wrap ((i64.wrap ((i64.wrap ((i64.wrap (r13.2.1 + r14.2.1)) + r15.2.1)) + r16.2.1)) + r17.2.1)) + r18.2.1)) + r19.2.1)) != 0) (
 some (false, ())) (
 br r15.1 (
 br (r17.1 != r16.1) (
 some (false, ())) (
 br (!r18.1) (
 some (false, ())) (
 br (!r19.1) (
 some (false, ())) (
 bd (l1 lf 3 [a0, r13.1, r14.1] (lf + 40) 0) fun z26 =>
 br z26.1 (
 some (false, ())) (
 bd (surveyorlaw23_awake.f lf) fun r27 =>
 some (r27.1, ())))))) (
 br (r17.1 != false) (
 some (false, ())) (
 br (!r18.1) (
 some (false, ())) (
 br (!r19.1) (
 some (false, ())) (
 bd (l1 lf 3 [a0, r13.1, r14.1] (lf + 40) 0) fun z28 =>
 br z28.1 (
 some (false, ())) (
 bd (surveyorlaw23_awake.f lf) fun r29 =>
 some (r29.1, ()))))))))))))
def E (lf : Nat) : Entry := ⟨[yV, yV, .str], [.bool], fun x => f lf x.1 x.2.1 x.2.2.1⟩
theorem ok (lf : Nat) : Ok 12 (E lf) := okL (tC (surveyorref23_Few.ok lf) (tC (surveyorlaw23_awake.ok lf) (tC (surveyorref01_Check.ok lf) (tC (value_Leq.ok lf) (tC (surveyorref01_Few.ok lf) (tC (value_Holds.ok lf) (tC (value_Join.ok lf) (tC (value_Meet.ok lf) (tC (surveyorref23_Checks.ok lf) tN))))))))) (aoC aoN) (sl lf) fun x => by kernel_rfl
end surveyorlaw23_ValueMeets
end
end Go.Q
