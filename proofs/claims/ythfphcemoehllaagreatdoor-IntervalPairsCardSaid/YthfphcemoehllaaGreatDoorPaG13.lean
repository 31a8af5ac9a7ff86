import Derived.Test.YthfphcemoehllaaGreatDoorProg
import Derived.KernelRfl
import Derived.Test.YthfphcemoehllaaGreatDoorE3
import Derived.Test.YthfphcemoehllaaGreatDoorPaG10
import Derived.Test.YthfphcemoehllaaGreatDoorPaG11
import Derived.Test.YthfphcemoehllaaGreatDoorPaG12
import Derived.Test.YthfphcemoehllaaGreatDoorPaG2
import Derived.Test.YthfphcemoehllaaGreatDoorPaG6
import Derived.Test.YthfphcemoehllaaGreatDoorPaG8
set_option linter.unusedVariables false
set_option linter.unusedSimpArgs false
set_option linter.unusedSectionVars false
namespace Go.Q
open Go Go.RowKit
open Go.Rx (br bd sIdx sCat sCut iQuo iRem)
set_option linter.unusedVariables false
set_option linter.unusedSimpArgs false
set_option maxRecDepth 100000
noncomputable section
namespace surveyorlaw21_IntervalPairs
noncomputable def anns : FuncId → FA := annsL [(6, ⟨annOf [(0, ⟨kx 124 [3, 4, 5, 69], [], []⟩, ⟨kx 124 [6], [], [4]⟩)], none, []⟩)]
noncomputable def r0 {ρ : Type} (lf : Nat) (v0 : Bool) (v1 v2 : ByteArray) (v3 : Bool) (v4 v5 v6 v7 : ByteArray) (v8 v9 v10 v11 : Bool) (v12 : (List Nat)) (K : (List Nat) → Option ρ) (E0 : Option ρ) (E1 : Option ρ) : Option ρ :=
 chsF (
 E0) [
  (!v12.contains 0,
 bd (interval_Refine.f lf 2 (v0, v1, v2, ()) (v3, v4, v5, ())) fun r12 =>
 br (r12.2.2.1 != 0) (
 E1) (
 bd (interval_Holds.f lf r12.1 v6) fun r13 =>
 bd (interval_Holds.f lf r12.2.1 v7) fun r14 =>
 br (r13.2.1 != 0) (
 E1) (
 br (r14.2.1 != 0) (
 E1) (
 br v8 (
 br (!r13.1) (
 E1) (
 br (!r14.1) (
 E1) (
 br (r12.1.1 != r12.2.1.1) (
 E1) (
 K (0 :: v12))))) (
 br (r12.1.1 != r12.2.1.1) (
 E1) (
 K (0 :: v12))))))),
  (!v12.contains 1,
 bd (interval_Refine.f lf 3 (v0, v1, v2, ()) (v3, v4, v5, ())) fun r15 =>
 br (r15.2.2.1 != 0) (
 E1) (
 bd (interval_Holds.f lf r15.1 v6) fun r16 =>
 bd (interval_Holds.f lf r15.2.1 v7) fun r17 =>
 br (r16.2.1 != 0) (
 E1) (
 br (r17.2.1 != 0) (
 E1) (
 br v9 (
 br (!r16.1) (
 E1) (
 br (!r17.1) (
 E1) (
 br (r15.1.1 != r15.2.1.1) (
 E1) (
 K (1 :: v12))))) (
 br (r15.1.1 != r15.2.1.1) (
 E1) (
 K (1 :: v12))))))),
  (!v12.contains 2,
 bd (interval_Refine.f lf 4 (v0, v1, v2, ()) (v3, v4, v5, ())) fun r18 =>
 br (r18.2.2.1 != 0) (
 E1) (
 bd (interval_Holds.f lf r18.1 v6) fun r19 =>
 bd (interval_Holds.f lf r18.2.1 v7) fun r20 =>
 br (r19.2.1 != 0) (
 E1) (
 br (r20.2.1 != 0) (
 E1) (
 br v10 (
 br (!r19.1) (
 E1) (
 br (!r20.1) (
 E1) (
 br (r18.1.1 != r18.2.1.1) (
 E1) (
 K (2 :: v12))))) (
 br (r18.1.1 != r18.2.1.1) (
 E1) (
 K (2 :: v12))))))),
  (!v12.contains 3,
 bd (interval_Refine.f lf 5 (v0, v1, v2, ()) (v3, v4, v5, ())) fun r21 =>
 br (r21.2.2.1 != 0) (
 E1) (
 bd (interval_Holds.f lf r21.1 v6) fun r22 =>
 bd (interval_Holds.f lf r21.2.1 v7) fun r23 =>
 br (r22.2.1 != 0) (
 E1) (
 br (r23.2.1 != 0) (
 E1) (
 br v11 (
 br (!r22.1) (
 E1) (
 br (!r23.1) (
 E1) (
 br (r21.1.1 != r21.2.1.1) (
 E1) (
 K (3 :: v12))))) (
 br (r21.1.1 != r21.2.1.1) (
 E1) (
 K (3 :: v12)))))))]
noncomputable def l0 (lf : Nat) (v0 : Bool) (v1 v2 : ByteArray) (v3 : Bool) (v4 v5 v6 v7 : ByteArray) (v8 v9 v10 v11 : Bool) : Nat → (List Nat) → Option (Bool × (Unit) × (Unit) × Unit)
 | 0, _ => none
 | n + 1, v12 => r0 lf v0 v1 v2 v3 v4 v5 v6 v7 v8 v9 v10 v11 v12 (l0 lf v0 v1 v2 v3 v4 v5 v6 v7 v8 v9 v10 v11 n) (some (true, (()), ((()), ()))) (some (false, (()), ((()), ())))
noncomputable def sh0 : ShS := ⟨[.a 3, .s (.ptr 0 0), .s (.ptr 1 0), .s (.ptr 2 0), .a 63, .s (.ptr 4 0), .a 54], [.cells [.s .bool, .s .str, .s .str] 24, .cells [.s .bool, .s .str, .s .str] 24, .cells [.s .str, .s .str] 47, .map .i64 [2, 3, 4, 5] [.s .bool, .s .bool, .s .bool, .s .bool], .iter 3 4]⟩
noncomputable def S0 (p : Bool × ByteArray × ByteArray × Bool × ByteArray × ByteArray × ByteArray × ByteArray × Bool × Bool × Bool × Bool × (List Nat) × Unit) : St := sh0.b p
noncomputable def xh0 : ShS := ⟨[.a 124], [.cells [.s .bool, .s .str, .s .str] 24, .cells [.s .bool, .s .str, .s .str] 24, .cells [.s .str, .s .str] 47, .map .i64 [2, 3, 4, 5] [.s .bool, .s .bool, .s .bool, .s .bool], .gone]⟩
noncomputable def xh1 : ShS := ⟨[.a 6, .s .bool, .a 117], [.cells [.s .bool, .s .str, .s .str] 24, .cells [.s .bool, .s .str, .s .str] 24, .cells [.s .str, .s .str] 47, .map .i64 [2, 3, 4, 5] [.s .bool, .s .bool, .s .bool, .s .bool], .gone]⟩
noncomputable def o0 (v0 : Bool) (v1 v2 : ByteArray) (v3 : Bool) (v4 v5 v6 v7 : ByteArray) (v8 v9 v10 v11 : Bool) (y : Bool × (Unit) × (Unit) × Unit) : Alt := .two y.1 (.one (.exit 0) (xh0.b (v0, v1, v2, v3, v4, v5, v6, v7, v8, v9, v10, v11, ()))) (.one .ret (xh1.b (false, v0, v1, v2, v3, v4, v5, v6, v7, v8, v9, v10, v11, ())))
noncomputable def tb (lf : Nat) : List (FuncId × Entry) := [(12, surveyorlaw21_awake.E lf), (23, surveyorlaw21_right.E lf), (27, surveyorref01_Check.E lf), (28, surveyorref21_In.E lf), (29, bigint_Compare.E lf), (30, interval_Refine.E lf), (31, interval_Holds.E lf)]
noncomputable def s13_6 (lf : Nat) : List (Nat × (St → Option LTE)) := [(0, sumE sh0 fun (p : (Bool × ByteArray × ByteArray × Bool × ByteArray × ByteArray × ByteArray × ByteArray × Bool × Bool × Bool × Bool × (List Nat) × Unit)) => ⟨Bool × (Unit) × (Unit) × Unit, l0 lf p.1 p.2.1 p.2.2.1 p.2.2.2.1 p.2.2.2.2.1 p.2.2.2.2.2.1 p.2.2.2.2.2.2.1 p.2.2.2.2.2.2.2.1 p.2.2.2.2.2.2.2.2.1 p.2.2.2.2.2.2.2.2.2.1 p.2.2.2.2.2.2.2.2.2.2.1 p.2.2.2.2.2.2.2.2.2.2.2.1 (lf + 40) p.2.2.2.2.2.2.2.2.2.2.2.2.1, o0 p.1 p.2.1 p.2.2.1 p.2.2.2.1 p.2.2.2.2.1 p.2.2.2.2.2.1 p.2.2.2.2.2.2.1 p.2.2.2.2.2.2.2.1 p.2.2.2.2.2.2.2.2.1 p.2.2.2.2.2.2.2.2.2.1 p.2.2.2.2.2.2.2.2.2.2.1 p.2.2.2.2.2.2.2.2.2.2.2.1⟩)]
noncomputable def ls (lf : Nat) : List (Nat × FuncId × Sums) := [(13, 6, sumsL (s13_6 lf))]
noncomputable def it0 {ρ : Type} (lf n : Nat) (st : St) (k : KE ρ) : Option ρ := itG anns (ls lf) (tb lf) lf 13 6 0 5 (sumsL (s13_6 lf)) n st k
theorem t0 {ρ : Type} (lf n : Nat) (v0 : Bool) (v1 v2 : ByteArray) (v3 : Bool) (v4 v5 v6 v7 : ByteArray) (v8 v9 v10 v11 : Bool) (v12 : (List Nat)) (k : KE ρ) : it0 lf (n + 1) (S0 (v0, v1, v2, v3, v4, v5, v6, v7, v8, v9, v10, v11, v12, ())) k = r0 lf v0 v1 v2 v3 v4 v5 v6 v7 v8 v9 v10 v11 v12 (fun x0 => it0 lf n (S0 (v0, v1, v2, v3, v4, v5, v6, v7, v8, v9, v10, v11, x0, ())) k) (k (.exit 0) (xh0.b (v0, v1, v2, v3, v4, v5, v6, v7, v8, v9, v10, v11, ()))) (k .ret (xh1.b (false, v0, v1, v2, v3, v4, v5, v6, v7, v8, v9, v10, v11, ()))) := by kernel_rfl
theorem u0 {ρ : Type} (lf : Nat) (v0 : Bool) (v1 v2 : ByteArray) (v3 : Bool) (v4 v5 v6 v7 : ByteArray) (v8 v9 v10 v11 : Bool) (k : KE ρ) : ∀ (n : Nat) (v12 : (List Nat)), LeO (bd (l0 lf v0 v1 v2 v3 v4 v5 v6 v7 v8 v9 v10 v11 n v12) fun y => altK k (o0 v0 v1 v2 v3 v4 v5 v6 v7 v8 v9 v10 v11 y)) (it0 lf n (S0 (v0, v1, v2, v3, v4, v5, v6, v7, v8, v9, v10, v11, v12, ())) k)
 | 0, _ => by rw [l0, bd_none]; exact LeO.none _
 | n + 1, v12 => by
  rw [t0, l0, r0, r0]
  refine LeO.chsF (by (simp only [bd_br, bd_bd, bd_some', bd_none, br_t, br_f, o0, altK]; repeat' (first | exact LeO.refl _ | exact u0 lf v0 v1 v2 v3 v4 v5 v6 v7 v8 v9 v10 v11 k n _ | apply LeO.br | (apply LeO.bd; intro _)))) ?_
  refine LeL.cons _ _ _ _ _ (by (simp only [bd_br, bd_bd, bd_some', bd_none, br_t, br_f, o0, altK]; repeat' (first | exact LeO.refl _ | exact u0 lf v0 v1 v2 v3 v4 v5 v6 v7 v8 v9 v10 v11 k n _ | apply LeO.br | (apply LeO.bd; intro _)))) ?_
  refine LeL.cons _ _ _ _ _ (by (simp only [bd_br, bd_bd, bd_some', bd_none, br_t, br_f, o0, altK]; repeat' (first | exact LeO.refl _ | exact u0 lf v0 v1 v2 v3 v4 v5 v6 v7 v8 v9 v10 v11 k n _ | apply LeO.br | (apply LeO.bd; intro _)))) ?_
  refine LeL.cons _ _ _ _ _ (by (simp only [bd_br, bd_bd, bd_some', bd_none, br_t, br_f, o0, altK]; repeat' (first | exact LeO.refl _ | exact u0 lf v0 v1 v2 v3 v4 v5 v6 v7 v8 v9 v10 v11 k n _ | apply LeO.br | (apply LeO.bd; intro _)))) ?_
  refine LeL.cons _ _ _ _ _ (by (simp only [bd_br, bd_bd, bd_some', bd_none, br_t, br_f, o0, altK]; repeat' (first | exact LeO.refl _ | exact u0 lf v0 v1 v2 v3 v4 v5 v6 v7 v8 v9 v10 v11 k n _ | apply LeO.br | (apply LeO.bd; intro _)))) ?_
  exact .nil
theorem sl (lf : Nat) : SL anns (ls lf) (tb lf) lf (ls lf) := slC (laC (fun _ => by kernel_rfl) (fun _ (x : (Bool × ByteArray × ByteArray × Bool × ByteArray × ByteArray × ByteArray × ByteArray × Bool × Bool × Bool × Bool × (List Nat) × Unit)) k => u0 lf x.1 x.2.1 x.2.2.1 x.2.2.2.1 x.2.2.2.2.1 x.2.2.2.2.2.1 x.2.2.2.2.2.2.1 x.2.2.2.2.2.2.2.1 x.2.2.2.2.2.2.2.2.1 x.2.2.2.2.2.2.2.2.2.1 x.2.2.2.2.2.2.2.2.2.2.1 x.2.2.2.2.2.2.2.2.2.2.2.1 k (lf + 40) x.2.2.2.2.2.2.2.2.2.2.2.2.1) laN) slN
noncomputable def f (lf : Nat) (a0 : (Bool × (ByteArray × (ByteArray × Unit)))) (a1 : (Bool × (ByteArray × (ByteArray × Unit)))) (a2 : (ByteArray × (ByteArray × Unit))) : Option (Bool × Unit) :=
 bd (surveyorlaw21_right.f lf a0 a1) fun r1 =>
 br (!r1.1) (
 bd (surveyorlaw21_awake.f lf) fun r2 =>
 some (r2.1, ())) (
 bd (surveyorref01_Check.f lf a2.1) fun r3 =>
 br (r3.1 != 0) (
 bd (surveyorlaw21_awake.f lf) fun r4 =>
 some (r4.1, ())) (
 bd (surveyorref01_Check.f lf a2.2.1) fun r5 =>
 br (r5.1 != 0) (
 bd (surveyorlaw21_awake.f lf) fun r6 =>
 some (r6.1, ())) (
 bd (surveyorref21_In.f lf a0 a2.1) fun r7 =>
 br (!r7.1) (
 bd (surveyorlaw21_awake.f lf) fun r8 =>
 some (r8.1, ())) (
 bd (surveyorref21_In.f lf a1 a2.2.1) fun r9 =>
 br (!r9.1) (
 bd (surveyorlaw21_awake.f lf) fun r10 =>
 some (r10.1, ())) (
 bd (bigint_Compare.f lf a2.1 a2.2.1) fun r11 =>
 br (r11.2.1 != 0) (
 some (false, ())) (
 bd (l0 lf a0.1 a0.2.1 a0.2.2.1 a1.1 a1.2.1 a1.2.2.1 a2.1 a2.2.1 (r11.1 == 0) (r11.1 != 0) (decide (r11.1 < 0)) (decide (r11.1 ≤ 0)) (lf + 40) []) fun z24 =>
 br z24.1 (
 bd (surveyorlaw21_awake.f lf) fun r25 =>
 some (r25.1, ())) (
 some (false, ()))))))))
noncomputable def E (lf : Nat) : Entry := ⟨[(.pair .bool (.pair .str (.pair .str .unit))), (.pair .bool (.pair .str (.pair .str .unit))), (.pair .str (.pair .str .unit))], [.bool], fun x => f lf x.1 x.2.1 x.2.2.1⟩
theorem ok (lf : Nat) : Ok 6 (E lf) := okL (tC (surveyorlaw21_awake.ok lf) (tC (surveyorlaw21_right.ok lf) (tC (surveyorref01_Check.ok lf) (tC (surveyorref21_In.ok lf) (tC (bigint_Compare.ok lf) (tC (interval_Refine.ok lf) (tC (interval_Holds.ok lf) tN))))))) (aoC aoN) (sl lf) fun x => by kernel_rfl
end surveyorlaw21_IntervalPairs
end
end Go.Q
