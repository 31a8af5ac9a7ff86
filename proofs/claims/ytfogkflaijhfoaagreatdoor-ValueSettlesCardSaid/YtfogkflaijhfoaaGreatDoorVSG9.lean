import Derived.Test.YtfogkflaijhfoaaGreatDoorProg
import Derived.KernelRfl
import Derived.Test.YtfogkflaijhfoaaGreatDoorVSE3
import Derived.Test.YtfogkflaijhfoaaGreatDoorVSG4
import Derived.Test.YtfogkflaijhfoaaGreatDoorVSG6
import Derived.Test.YtfogkflaijhfoaaGreatDoorVSG7
import Derived.Test.YtfogkflaijhfoaaGreatDoorVSG8
set_option linter.unusedVariables false
set_option linter.unusedSimpArgs false
set_option linter.unusedSectionVars false
set_option maxRecDepth 100000
namespace Go.Q
open Go.IntKind (i64)
open Go Go.RowKit
open Go.Rx (br bd sIdx sCat sCut iQuo iRem)
noncomputable section
namespace surveyorlaw23_ValueSettles
def anns : FuncId → FA := annsL [(5, ⟨annOf [(0, ⟨kx 180 [1, 2, 3, 46, 47, 48], [], []⟩, ⟨kx 180 [1, 2, 3, 6], [], []⟩), (1, ⟨kx 180 [1, 2, 3, 91, 92, 93], [], [2]⟩, ⟨kx 180 [1, 2, 3, 6], [], [2]⟩), (3, ⟨kx 180 [1, 2, 3, 11, 107, 109, 110, 111], [], []⟩, ⟨kx 180 [1, 2, 3, 6, 11, 107], [], []⟩)], none, []⟩)]
def r0 {ρ : Type} (lf : Nat) (v0 : List TV) (v1 : List ByteArray) (v2 : Int) (v4 : Bool) (v5 v6 : ByteArray) (v7 : Bool) (v8 v9 : ByteArray) (v10 : List TV) (v3 : Int) (K : Int → Option ρ) (E0 : Bool → Option ρ) (E1 : Option ρ) : Option ρ :=
 br (decide (v3 < v2)) (
 bd (idxB v10.length v3) fun j9 =>
 bd (v10[j9]?) fun y10 =>
 bd (surveyorref23_Few.f lf y10 y10) fun r11 =>
 br (!r11.1) (
 bd (surveyorlaw23_awake.f lf) fun r12 =>
 E0 r12.1) (
 bd (surveyorref23_Check.f lf y10) fun r13 =>
 br (r13.1 != 0) (
 bd (surveyorlaw23_awake.f lf) fun r14 =>
 E0 r14.1) (
 br (decide (((y10.2.1.2.1.size : Nat) : Int) > 6)) (
 bd (surveyorlaw23_awake.f lf) fun r15 =>
 E0 r15.1) (
 br (decide (((y10.2.1.2.2.1.size : Nat) : Int) > 6)) (
 bd (surveyorlaw23_awake.f lf) fun r16 =>
 E0 r16.1) (
 br (decide (((y10.1.2.1.size : Nat) : Int) > 6)) (
 bd (surveyorlaw23_awake.f lf) fun r17 =>
 E0 r17.1) (
 br (decide (((y10.1.2.2.1.size : Nat) : Int) > 6)) (
 bd (surveyorlaw23_awake.f lf) fun r18 =>
 E0 r18.1) (
 K (i64.wrap (v3 + 1))))))))) (
 E1)
def l0 (lf : Nat) (v0 : List TV) (v1 : List ByteArray) (v2 : Int) (v4 : Bool) (v5 v6 : ByteArray) (v7 : Bool) (v8 v9 : ByteArray) (v10 : List TV) : Nat → Int → Option (Bool × (Bool × Unit) × (Unit) × Unit)
 | 0, _ => none
 | n + 1, v3 => r0 lf v0 v1 v2 v4 v5 v6 v7 v8 v9 v10 v3 (l0 lf v0 v1 v2 v4 v5 v6 v7 v8 v9 v10 n) (fun w0 => some (true, (w0, ()), ((()), ()))) (some (false, (false, ()), ((()), ())))
def sh0 : ShS := ⟨[.a 1, .s (.sl yV), .s (.sl .str), .s (.ptr 0 0), .a 42, .s (.row 2), .s (.int .i64), .s (.int .i64), .a 131], [.cells [.s .bool, .s .str, .s .str, .s .bool, .s .str, .s .str] 39, .gone, .row yV 39 false]⟩
def S0 (p : (List TV) × (List ByteArray) × Int × Int × Bool × ByteArray × ByteArray × Bool × ByteArray × ByteArray × (List TV) × Unit) : St := sh0.b p
def xh0 : ShS := ⟨[.a 1, .s (.sl yV), .s (.sl .str), .s (.ptr 0 0), .a 2, .s .bool, .a 173], [.cells [.s .bool, .s .str, .s .str, .s .bool, .s .str, .s .str] 39, .gone, .row yV 39 false]⟩
def xh1 : ShS := ⟨[.a 1, .s (.sl yV), .s (.sl .str), .s (.ptr 0 0), .a 176], [.cells [.s .bool, .s .str, .s .str, .s .bool, .s .str, .s .str] 39, .gone, .row yV 39 false]⟩
def o0 (v0 : List TV) (v1 : List ByteArray) (v2 : Int) (v4 : Bool) (v5 v6 : ByteArray) (v7 : Bool) (v8 v9 : ByteArray) (v10 : List TV) (y : Bool × (Bool × Unit) × (Unit) × Unit) : Alt := .two y.1 (.one .ret (xh0.b (v0, v1, y.2.1.1, v4, v5, v6, v7, v8, v9, v10, ()))) (.one (.exit 0) (xh1.b (v0, v1, v4, v5, v6, v7, v8, v9, v10, ())))
def r1 {ρ : Type} (lf : Nat) (v0 : List TV) (v1 v2 : List ByteArray) (v3 : Int) (v5 : Bool) (v6 v7 : ByteArray) (v8 : Bool) (v9 v10 : ByteArray) (v4 : Int) (K : Int → Option ρ) (E0 : Bool → Option ρ) (E1 : Option ρ) : Option ρ :=
 br (decide (v4 < v3)) (
 bd (idxL v2 v4) fun y20 =>
 bd (surveyorref01_Check.f lf y20) fun r21 =>
 br (r21.1 != 0) (
 bd (surveyorlaw23_awake.f lf) fun r22 =>
 E0 r22.1) (
 br (decide (((y20.size : Nat) : Int) > 6)) (
 bd (surveyorlaw23_awake.f lf) fun r23 =>
 E0 r23.1) (
 K (i64.wrap (v4 + 1))))) (
 E1)
def l1 (lf : Nat) (v0 : List TV) (v1 v2 : List ByteArray) (v3 : Int) (v5 : Bool) (v6 v7 : ByteArray) (v8 : Bool) (v9 v10 : ByteArray) : Nat → Int → Option (Bool × (Bool × Unit) × (Unit) × Unit)
 | 0, _ => none
 | n + 1, v4 => r1 lf v0 v1 v2 v3 v5 v6 v7 v8 v9 v10 v4 (l1 lf v0 v1 v2 v3 v5 v6 v7 v8 v9 v10 n) (fun w0 => some (true, (w0, ()), ((()), ()))) (some (false, (false, ()), ((()), ())))
def sh1 : ShS := ⟨[.a 1, .s (.sl yV), .s (.sl .str), .s (.ptr 0 0), .a 87, .s (.sl .str), .s (.int .i64), .s (.int .i64), .a 86], [.cells [.s .bool, .s .str, .s .str, .s .bool, .s .str, .s .str] 39, .gone, .gone]⟩
def S1 (p : (List TV) × (List ByteArray) × (List ByteArray) × Int × Int × Bool × ByteArray × ByteArray × Bool × ByteArray × ByteArray × Unit) : St := sh1.b p
def xh2 : ShS := ⟨[.a 1, .s (.sl yV), .s (.sl .str), .s (.ptr 0 0), .a 2, .s .bool, .a 173], [.cells [.s .bool, .s .str, .s .str, .s .bool, .s .str, .s .str] 39, .gone, .gone]⟩
def xh3 : ShS := ⟨[.a 1, .s (.sl yV), .s (.sl .str), .s (.ptr 0 0), .a 176], [.cells [.s .bool, .s .str, .s .str, .s .bool, .s .str, .s .str] 39, .gone, .gone]⟩
def o1 (v0 : List TV) (v1 v2 : List ByteArray) (v3 : Int) (v5 : Bool) (v6 v7 : ByteArray) (v8 : Bool) (v9 v10 : ByteArray) (y : Bool × (Bool × Unit) × (Unit) × Unit) : Alt := .two y.1 (.one .ret (xh2.b (v0, v1, y.2.1.1, v5, v6, v7, v8, v9, v10, ()))) (.one (.exit 2) (xh3.b (v0, v1, v5, v6, v7, v8, v9, v10, ())))
def r2 {ρ : Type} (lf : Nat) (v0 : List TV) (v1 : List ByteArray) (v3 : Int) (v4 : List TV) (v5 : Int) (v2 v6 : Int) (v7 : Bool) (v8 v9 : ByteArray) (v10 : Bool) (v11 v12 : ByteArray) (K : Int → Int → Bool → ByteArray → ByteArray → Bool → ByteArray → ByteArray → Option ρ) (E0 : Bool → Int → Bool → ByteArray → ByteArray → Bool → ByteArray → ByteArray → Option ρ) (E1 : Int → Bool → ByteArray → ByteArray → Bool → ByteArray → ByteArray → Option ρ) : Option ρ :=
 br (decide (v6 < v5)) (
 bd (idxL v4 v6) fun y25 =>
 bd (value_Widen.f lf ((v7, v8, v9, ()), (v10, v11, v12, ()), ()) y25 v1) fun r26 =>
 br (r26.2.1 != 0) (
 br (r26.2.1 == 14) (
 bd (surveyorlaw23_awake.f lf) fun r27 =>
 E0 r27.1 v2 v7 v8 v9 v10 v11 v12) (
 E0 false v2 v7 v8 v9 v10 v11 v12)) (
 bd (value_Leq.f lf ((v7, v8, v9, ()), (v10, v11, v12, ()), ()) r26.1) fun r28 =>
 bd (value_Leq.f lf y25 r26.1) fun r29 =>
 br (r28.2.1 != 0) (
 E0 false v2 v7 v8 v9 v10 v11 v12) (
 br (r29.2.1 != 0) (
 E0 false v2 v7 v8 v9 v10 v11 v12) (
 br (!r28.1) (
 E0 false v2 v7 v8 v9 v10 v11 v12) (
 br (!r29.1) (
 E0 false v2 v7 v8 v9 v10 v11 v12) (
 bd (some (!(((r26.1.1.1 == v7) && ((r26.1.1.2.1 == v8) && ((r26.1.1.2.2.1 == v9) && true))) && (((r26.1.2.1.1 == v10) && ((r26.1.2.1.2.1 == v11) && ((r26.1.2.1.2.2.1 == v12) && true))) && true)))) fun r30 =>
 br r30 (
 K (i64.wrap (v2 + 1)) (i64.wrap (v6 + 1)) r26.1.1.1 r26.1.1.2.1 r26.1.1.2.2.1 r26.1.2.1.1 r26.1.2.1.2.1 r26.1.2.1.2.2.1) (
 K v2 (i64.wrap (v6 + 1)) r26.1.1.1 r26.1.1.2.1 r26.1.1.2.2.1 r26.1.2.1.1 r26.1.2.1.2.1 r26.1.2.1.2.2.1))))))) (
 E1 v2 v7 v8 v9 v10 v11 v12)
def l2 (lf : Nat) (v0 : List TV) (v1 : List ByteArray) (v3 : Int) (v4 : List TV) (v5 : Int) : Nat → Int → Int → Bool → ByteArray → ByteArray → Bool → ByteArray → ByteArray → Option (Bool × (Bool × Int × Bool × ByteArray × ByteArray × Bool × ByteArray × ByteArray × Unit) × (Int × Bool × ByteArray × ByteArray × Bool × ByteArray × ByteArray × Unit) × Unit)
 | 0, _, _, _, _, _, _, _, _ => none
 | n + 1, v2, v6, v7, v8, v9, v10, v11, v12 => r2 lf v0 v1 v3 v4 v5 v2 v6 v7 v8 v9 v10 v11 v12 (l2 lf v0 v1 v3 v4 v5 n) (fun w0 w1 w2 w3 w4 w5 w6 w7 => some (true, (w0, w1, w2, w3, w4, w5, w6, w7, ()), ((0, false, (⟨#[]⟩ : ByteArray), (⟨#[]⟩ : ByteArray), false, (⟨#[]⟩ : ByteArray), (⟨#[]⟩ : ByteArray), ()), ()))) (fun w0 w1 w2 w3 w4 w5 w6 => some (false, (false, 0, false, (⟨#[]⟩ : ByteArray), (⟨#[]⟩ : ByteArray), false, (⟨#[]⟩ : ByteArray), (⟨#[]⟩ : ByteArray), ()), ((w0, w1, w2, w3, w4, w5, w6, ()), ())))
def sh2 : ShS := ⟨[.a 1, .s (.sl yV), .s (.sl .str), .s (.ptr 0 0), .a 7, .s (.int .i64), .a 95, .s (.int .i64), .a 1, .s (.sl yV), .s (.int .i64), .s (.int .i64), .a 68], [.cells [.s .bool, .s .str, .s .str, .s .bool, .s .str, .s .str] 39, .gone, .gone]⟩
def S2 (p : (List TV) × (List ByteArray) × Int × Int × (List TV) × Int × Int × Bool × ByteArray × ByteArray × Bool × ByteArray × ByteArray × Unit) : St := sh2.b p
def xh4 : ShS := ⟨[.a 1, .s (.sl yV), .s (.sl .str), .s (.ptr 0 0), .a 2, .s .bool, .a 4, .s (.int .i64), .a 95, .s (.int .i64), .a 72], [.cells [.s .bool, .s .str, .s .str, .s .bool, .s .str, .s .str] 39, .gone, .gone]⟩
def xh5 : ShS := ⟨[.a 1, .s (.sl yV), .s (.sl .str), .s (.ptr 0 0), .a 7, .s (.int .i64), .a 95, .s (.int .i64), .a 72], [.cells [.s .bool, .s .str, .s .str, .s .bool, .s .str, .s .str] 39, .gone, .gone]⟩
def o2 (v0 : List TV) (v1 : List ByteArray) (v3 : Int) (v4 : List TV) (v5 : Int) (y : Bool × (Bool × Int × Bool × ByteArray × ByteArray × Bool × ByteArray × ByteArray × Unit) × (Int × Bool × ByteArray × ByteArray × Bool × ByteArray × ByteArray × Unit) × Unit) : Alt := .two y.1 (.one .ret (xh4.b (v0, v1, y.2.1.1, y.2.1.2.1, v3, y.2.1.2.2.1, y.2.1.2.2.2.1, y.2.1.2.2.2.2.1, y.2.1.2.2.2.2.2.1, y.2.1.2.2.2.2.2.2.1, y.2.1.2.2.2.2.2.2.2.1, ()))) (.one (.exit 6) (xh5.b (v0, v1, y.2.2.1.1, v3, y.2.2.1.2.1, y.2.2.1.2.2.1, y.2.2.1.2.2.2.1, y.2.2.1.2.2.2.2.1, y.2.2.1.2.2.2.2.2.1, y.2.2.1.2.2.2.2.2.2.1, ())))
def tb (lf : Nat) : List (FuncId × Entry) := [(17, surveyorref22_Check.E lf), (21, surveyorref23_Few.E lf), (22, surveyorlaw23_awake.E lf), (27, surveyorlaw23_few.E lf), (28, surveyorref01_Check.E lf), (29, surveyorref23_Check.E lf), (30, value_Widen.E lf), (31, value_Leq.E lf)]
def s13_5 (lf : Nat) : List (Nat × (St → Option LTE)) := [(0, sumE sh0 fun (p : (List TV) × (List ByteArray) × Int × Int × Bool × ByteArray × ByteArray × Bool × ByteArray × ByteArray × (List TV) × Unit) => ⟨Bool × (Bool × Unit) × (Unit) × Unit, l0 lf p.1 p.2.1 p.2.2.1 p.2.2.2.2.1 p.2.2.2.2.2.1 p.2.2.2.2.2.2.1 p.2.2.2.2.2.2.2.1 p.2.2.2.2.2.2.2.2.1 p.2.2.2.2.2.2.2.2.2.1 p.2.2.2.2.2.2.2.2.2.2.1 (lf + 40) p.2.2.2.1, o0 p.1 p.2.1 p.2.2.1 p.2.2.2.2.1 p.2.2.2.2.2.1 p.2.2.2.2.2.2.1 p.2.2.2.2.2.2.2.1 p.2.2.2.2.2.2.2.2.1 p.2.2.2.2.2.2.2.2.2.1 p.2.2.2.2.2.2.2.2.2.2.1⟩),
 (1, sumE sh1 fun (p : (List TV) × (List ByteArray) × (List ByteArray) × Int × Int × Bool × ByteArray × ByteArray × Bool × ByteArray × ByteArray × Unit) => ⟨Bool × (Bool × Unit) × (Unit) × Unit, l1 lf p.1 p.2.1 p.2.2.1 p.2.2.2.1 p.2.2.2.2.2.1 p.2.2.2.2.2.2.1 p.2.2.2.2.2.2.2.1 p.2.2.2.2.2.2.2.2.1 p.2.2.2.2.2.2.2.2.2.1 p.2.2.2.2.2.2.2.2.2.2.1 (lf + 40) p.2.2.2.2.1, o1 p.1 p.2.1 p.2.2.1 p.2.2.2.1 p.2.2.2.2.2.1 p.2.2.2.2.2.2.1 p.2.2.2.2.2.2.2.1 p.2.2.2.2.2.2.2.2.1 p.2.2.2.2.2.2.2.2.2.1 p.2.2.2.2.2.2.2.2.2.2.1⟩),
 (3, sumE sh2 fun (p : (List TV) × (List ByteArray) × Int × Int × (List TV) × Int × Int × Bool × ByteArray × ByteArray × Bool × ByteArray × ByteArray × Unit) => ⟨Bool × (Bool × Int × Bool × ByteArray × ByteArray × Bool × ByteArray × ByteArray × Unit) × (Int × Bool × ByteArray × ByteArray × Bool × ByteArray × ByteArray × Unit) × Unit, l2 lf p.1 p.2.1 p.2.2.2.1 p.2.2.2.2.1 p.2.2.2.2.2.1 (lf + 40) p.2.2.1 p.2.2.2.2.2.2.1 p.2.2.2.2.2.2.2.1 p.2.2.2.2.2.2.2.2.1 p.2.2.2.2.2.2.2.2.2.1 p.2.2.2.2.2.2.2.2.2.2.1 p.2.2.2.2.2.2.2.2.2.2.2.1 p.2.2.2.2.2.2.2.2.2.2.2.2.1, o2 p.1 p.2.1 p.2.2.2.1 p.2.2.2.2.1 p.2.2.2.2.2.1⟩)]
def ls (lf : Nat) : List (Nat × FuncId × Sums) := [(13, 5, sumsL (s13_5 lf))]
def it0 {ρ : Type} (lf n : Nat) (st : St) (k : KE ρ) : Option ρ := itG anns (ls lf) (tb lf) lf 13 5 0 3 (sumsL (s13_5 lf)) n st k
theorem t0 {ρ : Type} (lf n : Nat) (v0 : List TV) (v1 : List ByteArray) (v2 v3 : Int) (v4 : Bool) (v5 v6 : ByteArray) (v7 : Bool) (v8 v9 : ByteArray) (v10 : List TV) (k : KE ρ) : it0 lf (n + 1) (S0 (v0, v1, v2, v3, v4, v5, v6, v7, v8, v9, v10, ())) k = r0 lf v0 v1 v2 v4 v5 v6 v7 v8 v9 v10 v3 (fun x0 => it0 lf n (S0 (v0, v1, v2, x0, v4, v5, v6, v7, v8, v9, v10, ())) k) (fun w0 => k .ret (xh0.b (v0, v1, w0, v4, v5, v6, v7, v8, v9, v10, ()))) (k (.exit 0) (xh1.b (v0, v1, v4, v5, v6, v7, v8, v9, v10, ()))) := by kernel_rfl
theorem u0 {ρ : Type} (lf : Nat) (v0 : List TV) (v1 : List ByteArray) (v2 : Int) (v4 : Bool) (v5 v6 : ByteArray) (v7 : Bool) (v8 v9 : ByteArray) (v10 : List TV) (k : KE ρ) : ∀ (n : Nat) (v3 : Int), it0 lf n (S0 (v0, v1, v2, v3, v4, v5, v6, v7, v8, v9, v10, ())) k = bd (l0 lf v0 v1 v2 v4 v5 v6 v7 v8 v9 v10 n v3) fun y => altK k (o0 v0 v1 v2 v4 v5 v6 v7 v8 v9 v10 y)
 | 0, _ => by rw [l0, bd_none]; rfl
 | n + 1, v3 => by
  rw [t0]; simp only [l0, r0, u0 lf v0 v1 v2 v4 v5 v6 v7 v8 v9 v10 k n, bd_br, bd_bd, bd_some', bd_none, br_t, br_f, o0, altK]
def it1 {ρ : Type} (lf n : Nat) (st : St) (k : KE ρ) : Option ρ := itG anns (ls lf) (tb lf) lf 13 5 1 3 (sumsL (s13_5 lf)) n st k
theorem t1 {ρ : Type} (lf n : Nat) (v0 : List TV) (v1 v2 : List ByteArray) (v3 v4 : Int) (v5 : Bool) (v6 v7 : ByteArray) (v8 : Bool) (v9 v10 : ByteArray) (k : KE ρ) : it1 lf (n + 1) (S1 (v0, v1, v2, v3, v4, v5, v6, v7, v8, v9, v10, ())) k = r1 lf v0 v1 v2 v3 v5 v6 v7 v8 v9 v10 v4 (fun x0 => it1 lf n (S1 (v0, v1, v2, v3, x0, v5, v6, v7, v8, v9, v10, ())) k) (fun w0 => k .ret (xh2.b (v0, v1, w0, v5, v6, v7, v8, v9, v10, ()))) (k (.exit 2) (xh3.b (v0, v1, v5, v6, v7, v8, v9, v10, ()))) := by kernel_rfl
theorem u1 {ρ : Type} (lf : Nat) (v0 : List TV) (v1 v2 : List ByteArray) (v3 : Int) (v5 : Bool) (v6 v7 : ByteArray) (v8 : Bool) (v9 v10 : ByteArray) (k : KE ρ) : ∀ (n : Nat) (v4 : Int), it1 lf n (S1 (v0, v1, v2, v3, v4, v5, v6, v7, v8, v9, v10, ())) k = bd (l1 lf v0 v1 v2 v3 v5 v6 v7 v8 v9 v10 n v4) fun y => altK k (o1 v0 v1 v2 v3 v5 v6 v7 v8 v9 v10 y)
 | 0, _ => by rw [l1, bd_none]; rfl
 | n + 1, v4 => by
  rw [t1]; simp only [l1, r1, u1 lf v0 v1 v2 v3 v5 v6 v7 v8 v9 v10 k n, bd_br, bd_bd, bd_some', bd_none, br_t, br_f, o1, altK]
def it2 {ρ : Type} (lf n : Nat) (st : St) (k : KE ρ) : Option ρ := itG anns (ls lf) (tb lf) lf 13 5 3 3 (sumsL (s13_5 lf)) n st k
theorem t2 {ρ : Type} (lf n : Nat) (v0 : List TV) (v1 : List ByteArray) (v2 v3 : Int) (v4 : List TV) (v5 v6 : Int) (v7 : Bool) (v8 v9 : ByteArray) (v10 : Bool) (v11 v12 : ByteArray) (k : KE ρ) : it2 lf (n + 1) (S2 (v0, v1, v2, v3, v4, v5, v6, v7, v8, v9, v10, v11, v12, ())) k = r2 lf v0 v1 v3 v4 v5 v2 v6 v7 v8 v9 v10 v11 v12 (fun x0 x1 x2 x3 x4 x5 x6 x7 => it2 lf n (S2 (v0, v1, x0, v3, v4, v5, x1, x2, x3, x4, x5, x6, x7, ())) k) (fun w0 w1 w2 w3 w4 w5 w6 w7 => k .ret (xh4.b (v0, v1, w0, w1, v3, w2, w3, w4, w5, w6, w7, ()))) (fun w0 w1 w2 w3 w4 w5 w6 => k (.exit 6) (xh5.b (v0, v1, w0, v3, w1, w2, w3, w4, w5, w6, ()))) := by kernel_rfl
theorem u2 {ρ : Type} (lf : Nat) (v0 : List TV) (v1 : List ByteArray) (v3 : Int) (v4 : List TV) (v5 : Int) (k : KE ρ) : ∀ (n : Nat) (v2 v6 : Int) (v7 : Bool) (v8 v9 : ByteArray) (v10 : Bool) (v11 v12 : ByteArray), it2 lf n (S2 (v0, v1, v2, v3, v4, v5, v6, v7, v8, v9, v10, v11, v12, ())) k = bd (l2 lf v0 v1 v3 v4 v5 n v2 v6 v7 v8 v9 v10 v11 v12) fun y => altK k (o2 v0 v1 v3 v4 v5 y)
 | 0, _, _, _, _, _, _, _, _ => by rw [l2, bd_none]; rfl
 | n + 1, v2, v6, v7, v8, v9, v10, v11, v12 => by
  rw [t2]; simp only [l2, r2, u2 lf v0 v1 v3 v4 v5 k n, bd_br, bd_bd, bd_some', bd_none, br_t, br_f, o2, altK]
theorem sl (lf : Nat) : SL anns (ls lf) (tb lf) lf (ls lf) := slC (laC (fun _ => by kernel_rfl) (fun _ (x : (List TV) × (List ByteArray) × Int × Int × Bool × ByteArray × ByteArray × Bool × ByteArray × ByteArray × (List TV) × Unit) k => leq_of (u0 lf x.1 x.2.1 x.2.2.1 x.2.2.2.2.1 x.2.2.2.2.2.1 x.2.2.2.2.2.2.1 x.2.2.2.2.2.2.2.1 x.2.2.2.2.2.2.2.2.1 x.2.2.2.2.2.2.2.2.2.1 x.2.2.2.2.2.2.2.2.2.2.1 k (lf + 40) x.2.2.2.1)) (laC (fun _ => by kernel_rfl) (fun _ (x : (List TV) × (List ByteArray) × (List ByteArray) × Int × Int × Bool × ByteArray × ByteArray × Bool × ByteArray × ByteArray × Unit) k => leq_of (u1 lf x.1 x.2.1 x.2.2.1 x.2.2.2.1 x.2.2.2.2.2.1 x.2.2.2.2.2.2.1 x.2.2.2.2.2.2.2.1 x.2.2.2.2.2.2.2.2.1 x.2.2.2.2.2.2.2.2.2.1 x.2.2.2.2.2.2.2.2.2.2.1 k (lf + 40) x.2.2.2.2.1)) (laC (fun _ => by kernel_rfl) (fun _ (x : (List TV) × (List ByteArray) × Int × Int × (List TV) × Int × Int × Bool × ByteArray × ByteArray × Bool × ByteArray × ByteArray × Unit) k => leq_of (u2 lf x.1 x.2.1 x.2.2.2.1 x.2.2.2.2.1 x.2.2.2.2.2.1 k (lf + 40) x.2.2.1 x.2.2.2.2.2.2.1 x.2.2.2.2.2.2.2.1 x.2.2.2.2.2.2.2.2.1 x.2.2.2.2.2.2.2.2.2.1 x.2.2.2.2.2.2.2.2.2.2.1 x.2.2.2.2.2.2.2.2.2.2.2.1 x.2.2.2.2.2.2.2.2.2.2.2.2.1)) laN))) slN
def f (lf : Nat) (a0 : TV) (a1 : List TV) (a2 : List ByteArray) : Option (Bool × Unit) :=
 br (((a1.length : Nat) : Int) == 0) (
 bd (surveyorlaw23_awake.f lf) fun r1 =>
 some (r1.1, ())) (
 br (decide (((a1.length : Nat) : Int) > 6)) (
 bd (surveyorlaw23_awake.f lf) fun r2 =>
 some (r2.1, ())) (
 bd (surveyorlaw23_few.f lf a2) fun r3 =>
 br (!r3.1) (
 bd (surveyorlaw23_awake.f lf) fun r4 =>
 some (r4.1, ())) (
 br (decide (((a2.length : Nat) : Int) > 6)) (
 bd (surveyorlaw23_awake.f lf) fun r5 =>
 some (r5.1, ())) (
 bd (surveyorref01_Check.f lf (⟨#[48]⟩ : ByteArray)) fun r6 =>
 br (r6.1 != 0) (
 bd (surveyorlaw23_awake.f lf) fun r7 =>
 some (r7.1, ())) (
 bd (apL true 80 [a0] a1) fun q8 =>
 bd (l0 lf a1 a2 ((q8.length : Nat) : Int) a0.1.1 a0.1.2.1 a0.1.2.2.1 a0.2.1.1 a0.2.1.2.1 a0.2.1.2.2.1 q8 (lf + 40) 0) fun z19 =>
 br z19.1 (
 some (z19.2.1.1, ())) (
 bd (l1 lf a1 a2 a2 ((a2.length : Nat) : Int) a0.1.1 a0.1.2.1 a0.1.2.2.1 a0.2.1.1 a0.2.1.2.1 a0.2.1.2.2.1 (lf + 40) 0) fun z24 =>
 br z24.1 (
 some (z24.2.1.1, ())) (
 bd (l2 lf a1 a2 0 a1 ((a1.length : Nat) : Int) (lf + 40) 0 0 a0.1.1 a0.1.2.1 a0.1.2.2.1 a0.2.1.1 a0.2.1.2.1 a0.2.1.2.2.1) fun z31 =>
 br z31.1 (
 some (z31.2.1.1, ())) (
 bd (l2 lf a1 a2 1 a1 ((a1.length : Nat) : Int) (lf + 40) z31.2.2.1.1 0 z31.2.2.1.2.1 z31.2.2.1.2.2.1 z31.2.2.1.2.2.2.1 z31.2.2.1.2.2.2.2.1 z31.2.2.1.2.2.2.2.2.1 z31.2.2.1.2.2.2.2.2.2.1) fun z32 =>
 br z32.1 (
 some (z32.2.1.1, ())) (
 bd (l2 lf a1 a2 2 a1 ((a1.length : Nat) : Int) (lf + 40) z32.2.2.1.1 0 z32.2.2.1.2.1 z32.2.2.1.2.2.1 z32.2.2.1.2.2.2.1 z32.2.2.1.2.2.2.2.1 z32.2.2.1.2.2.2.2.2.1 z32.2.2.1.2.2.2.2.2.2.1) fun z33 =>
 br z33.1 (
 some (z33.2.1.1, ())) (
 bd (l2 lf a1 a2 3 a1 ((a1.length : Nat) : Int) (lf + 40) z33.2.2.1.1 0 z33.2.2.1.2.1 z33.2.2.1.2.2.1 z33.2.2.1.2.2.2.1 z33.2.2.1.2.2.2.2.1 z33.2.2.1.2.2.2.2.2.1 z33.2.2.1.2.2.2.2.2.2.1) fun z34 =>
 br z34.1 (
 some (z34.2.1.1, ())) (
 br (decide (z34.2.2.1.1 ≤ (i64.wrap (24 + (i64.wrap ((i64.wrap (2 * (i64.wrap (((a2.length : Nat) : Int) + 1)))) * 24)))))) (
 bd (surveyorref22_Check.f lf (z34.2.2.1.2.2.2.2.1, z34.2.2.1.2.2.2.2.2.1, z34.2.2.1.2.2.2.2.2.2.1, ())) fun r35 =>
 br (r35.1 == 0) (
 bd (surveyorlaw23_awake.f lf) fun r36 =>
 some (r36.1, ())) (
 some (false, ()))) (
 some (false, ())))))))))))))
def E (lf : Nat) : Entry := ⟨[yV, (.sl yV), (.sl .str)], [.bool], fun x => f lf x.1 x.2.1 x.2.2.1⟩
theorem ok (lf : Nat) : Ok 5 (E lf) := okL (tC (surveyorref22_Check.ok lf) (tC (surveyorref23_Few.ok lf) (tC (surveyorlaw23_awake.ok lf) (tC (surveyorlaw23_few.ok lf) (tC (surveyorref01_Check.ok lf) (tC (surveyorref23_Check.ok lf) (tC (value_Widen.ok lf) (tC (value_Leq.ok lf) tN)))))))) (aoC aoN) (sl lf) fun x => by kernel_rfl
end surveyorlaw23_ValueSettles
end
end Go.Q
