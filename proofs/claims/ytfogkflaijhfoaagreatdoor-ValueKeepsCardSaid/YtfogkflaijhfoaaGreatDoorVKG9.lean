import Derived.Test.YtfogkflaijhfoaaGreatDoorProg
import Derived.KernelRfl
import Derived.Test.YtfogkflaijhfoaaGreatDoorVKE3
import Derived.Test.YtfogkflaijhfoaaGreatDoorVKG4
import Derived.Test.YtfogkflaijhfoaaGreatDoorVKG7
import Derived.Test.YtfogkflaijhfoaaGreatDoorVKG8
set_option linter.unusedVariables false
set_option linter.unusedSimpArgs false
set_option linter.unusedSectionVars false
set_option maxRecDepth 100000
namespace Go.Q
open Go.IntKind (i64)
open Go Go.RowKit
open Go.Rx (br bd sIdx sCat sCut iQuo iRem)
noncomputable section
namespace surveyorlaw23_ValueKeeps
def anns : FuncId → FA := annsL [(8, ⟨annOf [(0, ⟨kx 96 [3, 4, 5, 50], [], []⟩, ⟨kx 96 [6], [], [4]⟩)], none, []⟩)]
def r0 {ρ : Type} (lf : Nat) (v0 : Bool) (v1 v2 : ByteArray) (v3 : Bool) (v4 v5 : ByteArray) (v6 : Bool) (v7 v8 : ByteArray) (v9 : Bool) (v10 v11 v12 v13 : ByteArray) (v14 v15 v16 v17 : Bool) (v18 : List Nat) (K : (List Nat) → Option ρ) (E0 : Option ρ) (E1 : Option ρ) : Option ρ :=
 chsF (
 E0) [
  (!v18.contains 0,
 bd (value_Refine.f lf 2 ((v0, v1, v2, ()), (v3, v4, v5, ()), ()) ((v6, v7, v8, ()), (v9, v10, v11, ()), ())) fun r8 =>
 bd (value_Holds.f lf r8.1 v12) fun r9 =>
 bd (value_Holds.f lf r8.2.1 v13) fun r10 =>
 br ((i64.wrap ((i64.wrap (r8.2.2.1 + r9.2.1)) + r10.2.1)) != 0) (
 E1) (
 br v14 (
 br (!r9.1) (
 E1) (
 br (!r10.1) (
 E1) (
 K (0 :: v18)))) (
 K (0 :: v18)))),
  (!v18.contains 1,
 bd (value_Refine.f lf 3 ((v0, v1, v2, ()), (v3, v4, v5, ()), ()) ((v6, v7, v8, ()), (v9, v10, v11, ()), ())) fun r11 =>
 bd (value_Holds.f lf r11.1 v12) fun r12 =>
 bd (value_Holds.f lf r11.2.1 v13) fun r13 =>
 br ((i64.wrap ((i64.wrap (r11.2.2.1 + r12.2.1)) + r13.2.1)) != 0) (
 E1) (
 br v15 (
 br (!r12.1) (
 E1) (
 br (!r13.1) (
 E1) (
 K (1 :: v18)))) (
 K (1 :: v18)))),
  (!v18.contains 2,
 bd (value_Refine.f lf 4 ((v0, v1, v2, ()), (v3, v4, v5, ()), ()) ((v6, v7, v8, ()), (v9, v10, v11, ()), ())) fun r14 =>
 bd (value_Holds.f lf r14.1 v12) fun r15 =>
 bd (value_Holds.f lf r14.2.1 v13) fun r16 =>
 br ((i64.wrap ((i64.wrap (r14.2.2.1 + r15.2.1)) + r16.2.1)) != 0) (
 E1) (
 br v16 (
 br (!r15.1) (
 E1) (
 br (!r16.1) (
 E1) (
 K (2 :: v18)))) (
 K (2 :: v18)))),
  (!v18.contains 3,
 bd (value_Refine.f lf 5 ((v0, v1, v2, ()), (v3, v4, v5, ()), ()) ((v6, v7, v8, ()), (v9, v10, v11, ()), ())) fun r17 =>
 bd (value_Holds.f lf r17.1 v12) fun r18 =>
 bd (value_Holds.f lf r17.2.1 v13) fun r19 =>
 br ((i64.wrap ((i64.wrap (r17.2.2.1 + r18.2.1)) + r19.2.1)) != 0) (
 E1) (
 br v17 (
 br (!r18.1) (
 E1) (
 br (!r19.1) (
 E1) (
 K (3 :: v18)))) (
 K (3 :: v18))))]
def l0 (lf : Nat) (v0 : Bool) (v1 v2 : ByteArray) (v3 : Bool) (v4 v5 : ByteArray) (v6 : Bool) (v7 v8 : ByteArray) (v9 : Bool) (v10 v11 v12 v13 : ByteArray) (v14 v15 v16 v17 : Bool) : Nat → (List Nat) → Option (Bool × (Unit) × (Unit) × Unit)
 | 0, _ => none
 | n + 1, v18 => r0 lf v0 v1 v2 v3 v4 v5 v6 v7 v8 v9 v10 v11 v12 v13 v14 v15 v16 v17 v18 (l0 lf v0 v1 v2 v3 v4 v5 v6 v7 v8 v9 v10 v11 v12 v13 v14 v15 v16 v17 n) (some (true, (()), ((()), ()))) (some (false, (()), ((()), ())))
def sh0 : ShS := ⟨[.a 3, .s (.ptr 0 0), .s (.ptr 1 0), .s (.ptr 2 0), .a 44, .s (.ptr 4 0), .a 45], [.cells [.s .bool, .s .str, .s .str, .s .bool, .s .str, .s .str] 39, .cells [.s .bool, .s .str, .s .str, .s .bool, .s .str, .s .str] 39, .cells [.s .str, .s .str] 76, .map .i64 [2, 3, 4, 5] [.s .bool, .s .bool, .s .bool, .s .bool], .iter 3 4]⟩
def S0 (p : Bool × ByteArray × ByteArray × Bool × ByteArray × ByteArray × Bool × ByteArray × ByteArray × Bool × ByteArray × ByteArray × ByteArray × ByteArray × Bool × Bool × Bool × Bool × (List Nat) × Unit) : St := sh0.b p
def xh0 : ShS := ⟨[.a 96], [.cells [.s .bool, .s .str, .s .str, .s .bool, .s .str, .s .str] 39, .cells [.s .bool, .s .str, .s .str, .s .bool, .s .str, .s .str] 39, .cells [.s .str, .s .str] 76, .map .i64 [2, 3, 4, 5] [.s .bool, .s .bool, .s .bool, .s .bool], .gone]⟩
def xh1 : ShS := ⟨[.a 6, .s .bool, .a 89], [.cells [.s .bool, .s .str, .s .str, .s .bool, .s .str, .s .str] 39, .cells [.s .bool, .s .str, .s .str, .s .bool, .s .str, .s .str] 39, .cells [.s .str, .s .str] 76, .map .i64 [2, 3, 4, 5] [.s .bool, .s .bool, .s .bool, .s .bool], .gone]⟩
def o0 (v0 : Bool) (v1 v2 : ByteArray) (v3 : Bool) (v4 v5 : ByteArray) (v6 : Bool) (v7 v8 : ByteArray) (v9 : Bool) (v10 v11 v12 v13 : ByteArray) (v14 v15 v16 v17 : Bool) (y : Bool × (Unit) × (Unit) × Unit) : Alt := .two y.1 (.one (.exit 0) (xh0.b (v0, v1, v2, v3, v4, v5, v6, v7, v8, v9, v10, v11, v12, v13, v14, v15, v16, v17, ()))) (.one .ret (xh1.b (false, v0, v1, v2, v3, v4, v5, v6, v7, v8, v9, v10, v11, v12, v13, v14, v15, v16, v17, ())))
def tb (lf : Nat) : List (FuncId × Entry) := [(22, surveyorlaw23_awake.E lf), (25, value_Refine.E lf), (43, value_Holds.E lf), (48, surveyorlaw23_right.E lf), (49, surveyorlaw23_short.E lf), (50, surveyorref01_Order.E lf)]
def s13_8 (lf : Nat) : List (Nat × (St → Option LTE)) := [(0, sumE sh0 fun (p : Bool × ByteArray × ByteArray × Bool × ByteArray × ByteArray × Bool × ByteArray × ByteArray × Bool × ByteArray × ByteArray × ByteArray × ByteArray × Bool × Bool × Bool × Bool × (List Nat) × Unit) => ⟨Bool × (Unit) × (Unit) × Unit, l0 lf p.1 p.2.1 p.2.2.1 p.2.2.2.1 p.2.2.2.2.1 p.2.2.2.2.2.1 p.2.2.2.2.2.2.1 p.2.2.2.2.2.2.2.1 p.2.2.2.2.2.2.2.2.1 p.2.2.2.2.2.2.2.2.2.1 p.2.2.2.2.2.2.2.2.2.2.1 p.2.2.2.2.2.2.2.2.2.2.2.1 p.2.2.2.2.2.2.2.2.2.2.2.2.1 p.2.2.2.2.2.2.2.2.2.2.2.2.2.1 p.2.2.2.2.2.2.2.2.2.2.2.2.2.2.1 p.2.2.2.2.2.2.2.2.2.2.2.2.2.2.2.1 p.2.2.2.2.2.2.2.2.2.2.2.2.2.2.2.2.1 p.2.2.2.2.2.2.2.2.2.2.2.2.2.2.2.2.2.1 (lf + 40) p.2.2.2.2.2.2.2.2.2.2.2.2.2.2.2.2.2.2.1, o0 p.1 p.2.1 p.2.2.1 p.2.2.2.1 p.2.2.2.2.1 p.2.2.2.2.2.1 p.2.2.2.2.2.2.1 p.2.2.2.2.2.2.2.1 p.2.2.2.2.2.2.2.2.1 p.2.2.2.2.2.2.2.2.2.1 p.2.2.2.2.2.2.2.2.2.2.1 p.2.2.2.2.2.2.2.2.2.2.2.1 p.2.2.2.2.2.2.2.2.2.2.2.2.1 p.2.2.2.2.2.2.2.2.2.2.2.2.2.1 p.2.2.2.2.2.2.2.2.2.2.2.2.2.2.1 p.2.2.2.2.2.2.2.2.2.2.2.2.2.2.2.1 p.2.2.2.2.2.2.2.2.2.2.2.2.2.2.2.2.1 p.2.2.2.2.2.2.2.2.2.2.2.2.2.2.2.2.2.1⟩)]
def ls (lf : Nat) : List (Nat × FuncId × Sums) := [(13, 8, sumsL (s13_8 lf))]
def it0 {ρ : Type} (lf n : Nat) (st : St) (k : KE ρ) : Option ρ := itG anns (ls lf) (tb lf) lf 13 8 0 5 (sumsL (s13_8 lf)) n st k
theorem t0 {ρ : Type} (lf n : Nat) (v0 : Bool) (v1 v2 : ByteArray) (v3 : Bool) (v4 v5 : ByteArray) (v6 : Bool) (v7 v8 : ByteArray) (v9 : Bool) (v10 v11 v12 v13 : ByteArray) (v14 v15 v16 v17 : Bool) (v18 : List Nat) (k : KE ρ) : it0 lf (n + 1) (S0 (v0, v1, v2, v3, v4, v5, v6, v7, v8, v9, v10, v11, v12, v13, v14, v15, v16, v17, v18, ())) k = r0 lf v0 v1 v2 v3 v4 v5 v6 v7 v8 v9 v10 v11 v12 v13 v14 v15 v16 v17 v18 (fun x0 => it0 lf n (S0 (v0, v1, v2, v3, v4, v5, v6, v7, v8, v9, v10, v11, v12, v13, v14, v15, v16, v17, x0, ())) k) (k (.exit 0) (xh0.b (v0, v1, v2, v3, v4, v5, v6, v7, v8, v9, v10, v11, v12, v13, v14, v15, v16, v17, ()))) (k .ret (xh1.b (false, v0, v1, v2, v3, v4, v5, v6, v7, v8, v9, v10, v11, v12, v13, v14, v15, v16, v17, ()))) := by kernel_rfl
theorem u0 {ρ : Type} (lf : Nat) (v0 : Bool) (v1 v2 : ByteArray) (v3 : Bool) (v4 v5 : ByteArray) (v6 : Bool) (v7 v8 : ByteArray) (v9 : Bool) (v10 v11 v12 v13 : ByteArray) (v14 v15 v16 v17 : Bool) (k : KE ρ) : ∀ (n : Nat) (v18 : List Nat), LeO (bd (l0 lf v0 v1 v2 v3 v4 v5 v6 v7 v8 v9 v10 v11 v12 v13 v14 v15 v16 v17 n v18) fun y => altK k (o0 v0 v1 v2 v3 v4 v5 v6 v7 v8 v9 v10 v11 v12 v13 v14 v15 v16 v17 y)) (it0 lf n (S0 (v0, v1, v2, v3, v4, v5, v6, v7, v8, v9, v10, v11, v12, v13, v14, v15, v16, v17, v18, ())) k)
 | 0, _ => by rw [l0, bd_none]; exact LeO.none _
 | n + 1, v18 => by
  rw [t0, l0, r0, r0]
  refine LeO.chsF (by (simp only [bd_br, bd_bd, bd_some', bd_none, br_t, br_f, o0, altK]; repeat' (first | exact LeO.refl _ | exact u0 lf v0 v1 v2 v3 v4 v5 v6 v7 v8 v9 v10 v11 v12 v13 v14 v15 v16 v17 k n _ | apply LeO.br | (apply LeO.bd; intro _)))) ?_
  refine LeL.cons _ _ _ _ _ (by (simp only [bd_br, bd_bd, bd_some', bd_none, br_t, br_f, o0, altK]; repeat' (first | exact LeO.refl _ | exact u0 lf v0 v1 v2 v3 v4 v5 v6 v7 v8 v9 v10 v11 v12 v13 v14 v15 v16 v17 k n _ | apply LeO.br | (apply LeO.bd; intro _)))) ?_
  refine LeL.cons _ _ _ _ _ (by (simp only [bd_br, bd_bd, bd_some', bd_none, br_t, br_f, o0, altK]; repeat' (first | exact LeO.refl _ | exact u0 lf v0 v1 v2 v3 v4 v5 v6 v7 v8 v9 v10 v11 v12 v13 v14 v15 v16 v17 k n _ | apply LeO.br | (apply LeO.bd; intro _)))) ?_
  refine LeL.cons _ _ _ _ _ (by (simp only [bd_br, bd_bd, bd_some', bd_none, br_t, br_f, o0, altK]; repeat' (first | exact LeO.refl _ | exact u0 lf v0 v1 v2 v3 v4 v5 v6 v7 v8 v9 v10 v11 v12 v13 v14 v15 v16 v17 k n _ | apply LeO.br | (apply LeO.bd; intro _)))) ?_
  refine LeL.cons _ _ _ _ _ (by (simp only [bd_br, bd_bd, bd_some', bd_none, br_t, br_f, o0, altK]; repeat' (first | exact LeO.refl _ | exact u0 lf v0 v1 v2 v3 v4 v5 v6 v7 v8 v9 v10 v11 v12 v13 v14 v15 v16 v17 k n _ | apply LeO.br | (apply LeO.bd; intro _)))) ?_
  exact .nil
theorem sl (lf : Nat) : SL anns (ls lf) (tb lf) lf (ls lf) := slC (laC (fun _ => by kernel_rfl) (fun _ (x : Bool × ByteArray × ByteArray × Bool × ByteArray × ByteArray × Bool × ByteArray × ByteArray × Bool × ByteArray × ByteArray × ByteArray × ByteArray × Bool × Bool × Bool × Bool × (List Nat) × Unit) k => u0 lf x.1 x.2.1 x.2.2.1 x.2.2.2.1 x.2.2.2.2.1 x.2.2.2.2.2.1 x.2.2.2.2.2.2.1 x.2.2.2.2.2.2.2.1 x.2.2.2.2.2.2.2.2.1 x.2.2.2.2.2.2.2.2.2.1 x.2.2.2.2.2.2.2.2.2.2.1 x.2.2.2.2.2.2.2.2.2.2.2.1 x.2.2.2.2.2.2.2.2.2.2.2.2.1 x.2.2.2.2.2.2.2.2.2.2.2.2.2.1 x.2.2.2.2.2.2.2.2.2.2.2.2.2.2.1 x.2.2.2.2.2.2.2.2.2.2.2.2.2.2.2.1 x.2.2.2.2.2.2.2.2.2.2.2.2.2.2.2.2.1 x.2.2.2.2.2.2.2.2.2.2.2.2.2.2.2.2.2.1 k (lf + 40) x.2.2.2.2.2.2.2.2.2.2.2.2.2.2.2.2.2.2.1) laN) slN
def f (lf : Nat) (a0 : TV) (a1 : TV) (a2 : ByteArray × (ByteArray × Unit)) : Option (Bool × Unit) :=
 bd (surveyorlaw23_right.f lf a0 a1 a2) fun r1 =>
 br (!r1.1) (
 bd (surveyorlaw23_awake.f lf) fun r2 =>
 some (r2.1, ())) (
 bd (surveyorlaw23_short.f lf a2.1) fun r3 =>
 br (!r3.1) (
 bd (surveyorlaw23_awake.f lf) fun r4 =>
 some (r4.1, ())) (
 bd (surveyorlaw23_short.f lf a2.2.1) fun r5 =>
 br (!r5.1) (
 bd (surveyorlaw23_awake.f lf) fun r6 =>
 some (r6.1, ())) (
 bd (surveyorref01_Order.f lf a2.1 a2.2.1) fun r7 =>
 bd (l0 lf a0.1.1 a0.1.2.1 a0.1.2.2.1 a0.2.1.1 a0.2.1.2.1 a0.2.1.2.2.1 a1.1.1 a1.1.2.1 a1.1.2.2.1 a1.2.1.1 a1.2.1.2.1 a1.2.1.2.2.1 a2.1 a2.2.1 (r7.1 == 0) (r7.1 != 0) (decide (r7.1 < 0)) (decide (r7.1 ≤ 0)) (lf + 40) []) fun z20 =>
 br z20.1 (
 bd (surveyorlaw23_awake.f lf) fun r21 =>
 some (r21.1, ())) (
 some (false, ())))))
def E (lf : Nat) : Entry := ⟨[yV, yV, (.pair .str (.pair .str .unit))], [.bool], fun x => f lf x.1 x.2.1 x.2.2.1⟩
theorem ok (lf : Nat) : Ok 8 (E lf) := okL (tC (surveyorlaw23_awake.ok lf) (tC (value_Refine.ok lf) (tC (value_Holds.ok lf) (tC (surveyorlaw23_right.ok lf) (tC (surveyorlaw23_short.ok lf) (tC (surveyorref01_Order.ok lf) tN)))))) (aoC aoN) (sl lf) fun x => by kernel_rfl
end surveyorlaw23_ValueKeeps
end
end Go.Q
