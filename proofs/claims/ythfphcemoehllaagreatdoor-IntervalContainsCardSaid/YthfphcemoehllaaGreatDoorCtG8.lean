import Derived.Test.YthfphcemoehllaaGreatDoorProg
import Derived.KernelRfl
import Derived.Test.YthfphcemoehllaaGreatDoorCtG1
import Derived.Test.YthfphcemoehllaaGreatDoorCtG3
import Derived.Test.YthfphcemoehllaaGreatDoorCtG6
import Derived.Test.YthfphcemoehllaaGreatDoorCtG7
import Derived.Test.YthfphcemoehllaaGreatDoorE3
set_option linter.unusedVariables false
set_option linter.unusedSimpArgs false
set_option linter.unusedSectionVars false
namespace Go.Q
open Go.IntKind (i64)
open Go Go.RowKit
open Go.Rx (br bd sIdx sCat sCut iQuo iRem)
set_option linter.unusedVariables false
set_option linter.unusedSimpArgs false
set_option maxRecDepth 100000
noncomputable section
namespace surveyorlaw21_IntervalContains
noncomputable def anns : FuncId → FA := annsL [(10, ⟨annOf [(0, ⟨kx 129 [3, 4, 5, 7], [], []⟩, ⟨kx 129 [3, 5, 6], [], []⟩)], none, []⟩)]
noncomputable def r0 {ρ : Type} (lf : Nat) (v1 : Bool) (v2 v3 : ByteArray) (v4 : Bool) (v5 v6 v7 v8 : ByteArray) (v0 : Int) (K : Int → Option ρ) (E0 : Option ρ) (E1 : Option ρ) : Option ρ :=
 br (decide (v0 ≤ 7)) (
 bd (surveyorlaw21_value.f lf v0 v7 v8) fun r15 =>
 bd (surveyorlaw21_apply.f lf v0 (v1, v2, v3, ()) (v4, v5, v6, ())) fun r16 =>
 br (r16.2.1 != 0) (
 E0) (
 bd (interval_Holds.f lf r16.1 r15.1) fun r17 =>
 br r15.2.1 (
 br (r17.2.1 != 0) (
 E0) (
 br (!r17.1) (
 E0) (
 K (i64.wrap (v0 + 1))))) (
 K (i64.wrap (v0 + 1))))) (
 E1)
noncomputable def l0 (lf : Nat) (v1 : Bool) (v2 v3 : ByteArray) (v4 : Bool) (v5 v6 v7 v8 : ByteArray) : Nat → Int → Option (Bool × (Unit) × (Unit) × Unit)
 | 0, _ => none
 | n + 1, v0 => r0 lf v1 v2 v3 v4 v5 v6 v7 v8 v0 (l0 lf v1 v2 v3 v4 v5 v6 v7 v8 n) (some (true, (()), ((()), ()))) (some (false, (()), ((()), ())))
noncomputable def sh0 : ShS := ⟨[.a 3, .s (.ptr 0 0), .s (.ptr 1 0), .s (.ptr 2 0), .a 1, .s (.int .i64), .a 121], [.cells [.s .bool, .s .str, .s .str] 24, .cells [.s .bool, .s .str, .s .str] 24, .cells [.s .str, .s .str] 47]⟩
noncomputable def S0 (p : Int × Bool × ByteArray × ByteArray × Bool × ByteArray × ByteArray × ByteArray × ByteArray × Unit) : St := sh0.b p
noncomputable def xh0 : ShS := ⟨[.a 3, .s (.ptr 0 0), .a 1, .s (.ptr 2 0), .s .bool, .a 122], [.cells [.s .bool, .s .str, .s .str] 24, .cells [.s .bool, .s .str, .s .str] 24, .cells [.s .str, .s .str] 47]⟩
noncomputable def xh1 : ShS := ⟨[.a 3, .s (.ptr 0 0), .a 1, .s (.ptr 2 0), .a 123], [.cells [.s .bool, .s .str, .s .str] 24, .cells [.s .bool, .s .str, .s .str] 24, .cells [.s .str, .s .str] 47]⟩
noncomputable def o0 (v1 : Bool) (v2 v3 : ByteArray) (v4 : Bool) (v5 v6 v7 v8 : ByteArray) (y : Bool × (Unit) × (Unit) × Unit) : Alt := .two y.1 (.one .ret (xh0.b (false, v1, v2, v3, v4, v5, v6, v7, v8, ()))) (.one (.exit 0) (xh1.b (v1, v2, v3, v4, v5, v6, v7, v8, ())))
noncomputable def tb (lf : Nat) : List (FuncId × Entry) := [(12, surveyorlaw21_awake.E lf), (23, surveyorlaw21_right.E lf), (27, surveyorref01_Check.E lf), (28, surveyorref21_In.E lf), (31, interval_Holds.E lf), (35, interval_Neg.E lf), (37, surveyorlaw21_apply.E lf), (45, surveyorref01_Digits.E lf), (46, surveyorlaw21_value.E lf), (47, bigint_Neg.E lf)]
noncomputable def s13_10 (lf : Nat) : List (Nat × (St → Option LTE)) := [(0, sumE sh0 fun (p : Int × Bool × ByteArray × ByteArray × Bool × ByteArray × ByteArray × ByteArray × ByteArray × Unit) => ⟨Bool × (Unit) × (Unit) × Unit, l0 lf p.2.1 p.2.2.1 p.2.2.2.1 p.2.2.2.2.1 p.2.2.2.2.2.1 p.2.2.2.2.2.2.1 p.2.2.2.2.2.2.2.1 p.2.2.2.2.2.2.2.2.1 (lf + 40) p.1, o0 p.2.1 p.2.2.1 p.2.2.2.1 p.2.2.2.2.1 p.2.2.2.2.2.1 p.2.2.2.2.2.2.1 p.2.2.2.2.2.2.2.1 p.2.2.2.2.2.2.2.2.1⟩)]
noncomputable def ls (lf : Nat) : List (Nat × FuncId × Sums) := [(13, 10, sumsL (s13_10 lf))]
noncomputable def it0 {ρ : Type} (lf n : Nat) (st : St) (k : KE ρ) : Option ρ := itG anns (ls lf) (tb lf) lf 13 10 0 3 (sumsL (s13_10 lf)) n st k
theorem t0 {ρ : Type} (lf n : Nat) (v0 : Int) (v1 : Bool) (v2 v3 : ByteArray) (v4 : Bool) (v5 v6 v7 v8 : ByteArray) (k : KE ρ) : it0 lf (n + 1) (S0 (v0, v1, v2, v3, v4, v5, v6, v7, v8, ())) k = r0 lf v1 v2 v3 v4 v5 v6 v7 v8 v0 (fun x0 => it0 lf n (S0 (x0, v1, v2, v3, v4, v5, v6, v7, v8, ())) k) (k .ret (xh0.b (false, v1, v2, v3, v4, v5, v6, v7, v8, ()))) (k (.exit 0) (xh1.b (v1, v2, v3, v4, v5, v6, v7, v8, ()))) := by kernel_rfl
theorem u0 {ρ : Type} (lf : Nat) (v1 : Bool) (v2 v3 : ByteArray) (v4 : Bool) (v5 v6 v7 v8 : ByteArray) (k : KE ρ) : ∀ (n : Nat) (v0 : Int), it0 lf n (S0 (v0, v1, v2, v3, v4, v5, v6, v7, v8, ())) k = bd (l0 lf v1 v2 v3 v4 v5 v6 v7 v8 n v0) fun y => altK k (o0 v1 v2 v3 v4 v5 v6 v7 v8 y)
 | 0, _ => by rw [l0, bd_none]; rfl
 | n + 1, v0 => by
  rw [t0]; simp only [l0, r0, u0 lf v1 v2 v3 v4 v5 v6 v7 v8 k n, bd_br, bd_bd, bd_some', bd_none, br_t, br_f, o0, altK]
theorem sl (lf : Nat) : SL anns (ls lf) (tb lf) lf (ls lf) := slC (laC (fun _ => by kernel_rfl) (fun _ (x : Int × Bool × ByteArray × ByteArray × Bool × ByteArray × ByteArray × ByteArray × ByteArray × Unit) k => leq_of (u0 lf x.2.1 x.2.2.1 x.2.2.2.1 x.2.2.2.2.1 x.2.2.2.2.2.1 x.2.2.2.2.2.2.1 x.2.2.2.2.2.2.2.1 x.2.2.2.2.2.2.2.2.1 k (lf + 40) x.1)) laN) slN
noncomputable def f (lf : Nat) (a0 : Bool × (ByteArray × (ByteArray × Unit))) (a1 : Bool × (ByteArray × (ByteArray × Unit))) (a2 : ByteArray × (ByteArray × Unit)) : Option (Bool × Unit) :=
 bd (surveyorlaw21_right.f lf a0 a1) fun r1 =>
 br (!r1.1) (
 bd (surveyorlaw21_awake.f lf) fun r2 =>
 some (r2.1, ())) (
 bd (surveyorref01_Check.f lf a2.1) fun r3 =>
 br (r3.1 != 0) (
 bd (surveyorlaw21_awake.f lf) fun r4 =>
 some (r4.1, ())) (
 bd (surveyorref01_Check.f lf a2.2.1) fun r5 =>
 br (r5.1 != 0) (
 bd (surveyorlaw21_awake.f lf) fun r6 =>
 some (r6.1, ())) (
 bd (surveyorref21_In.f lf a0 a2.1) fun r7 =>
 br (!r7.1) (
 bd (surveyorlaw21_awake.f lf) fun r8 =>
 some (r8.1, ())) (
 bd (surveyorref21_In.f lf a1 a2.2.1) fun r9 =>
 br (!r9.1) (
 bd (surveyorlaw21_awake.f lf) fun r10 =>
 some (r10.1, ())) (
 bd (surveyorref01_Digits.f lf a2.1) fun r11 =>
 br (decide (r11.1 > 1000)) (
 bd (surveyorlaw21_awake.f lf) fun r12 =>
 some (r12.1, ())) (
 bd (surveyorref01_Digits.f lf a2.2.1) fun r13 =>
 br (decide (r13.1 > 1000)) (
 bd (surveyorlaw21_awake.f lf) fun r14 =>
 some (r14.1, ())) (
 bd (l0 lf a0.1 a0.2.1 a0.2.2.1 a1.1 a1.2.1 a1.2.2.1 a2.1 a2.2.1 (lf + 40) 3) fun z18 =>
 br z18.1 (
 some (false, ())) (
 bd (interval_Neg.f lf a0) fun r19 =>
 bd (bigint_Neg.f lf a2.1) fun r20 =>
 bd (interval_Holds.f lf r19.1 r20.1) fun r21 =>
 br ((i64.wrap ((i64.wrap (r19.2.1 + r20.2.1)) + r21.2.1)) == 0) (
 br r21.1 (
 bd (surveyorlaw21_awake.f lf) fun r22 =>
 some (r22.1, ())) (
 some (false, ()))) (
 some (false, ()))))))))))
noncomputable def E (lf : Nat) : Entry := ⟨[(.pair .bool (.pair .str (.pair .str .unit))), (.pair .bool (.pair .str (.pair .str .unit))), (.pair .str (.pair .str .unit))], [.bool], fun x => f lf x.1 x.2.1 x.2.2.1⟩
theorem ok (lf : Nat) : Ok 10 (E lf) := okL (tC (surveyorlaw21_awake.ok lf) (tC (surveyorlaw21_right.ok lf) (tC (surveyorref01_Check.ok lf) (tC (surveyorref21_In.ok lf) (tC (interval_Holds.ok lf) (tC (interval_Neg.ok lf) (tC (surveyorlaw21_apply.ok lf) (tC (surveyorref01_Digits.ok lf) (tC (surveyorlaw21_value.ok lf) (tC (bigint_Neg.ok lf) tN)))))))))) (aoC aoN) (sl lf) fun x => by kernel_rfl
end surveyorlaw21_IntervalContains
end
end Go.Q
