import Derived.Test.YtfogkflaijhfoaaGreatDoorProg
import Derived.KernelRfl
import Derived.Test.YtfogkflaijhfoaaGreatDoorVWE3
import Derived.Test.YtfogkflaijhfoaaGreatDoorVWG4
import Derived.Test.YtfogkflaijhfoaaGreatDoorVWG7
set_option linter.unusedVariables false
set_option linter.unusedSimpArgs false
set_option linter.unusedSectionVars false
set_option maxRecDepth 100000
namespace Go.Q
open Go.IntKind (i64)
open Go Go.RowKit
open Go.Rx (br bd sIdx sCat sCut iQuo iRem)
noncomputable section
namespace surveyorlaw23_set
def f (lf : Nat) (a0 : ByteArray) (a1 : ByteArray) (a2 : ByteArray) (a3 : ByteArray) : Option (TV × Unit) :=
 some (((false, a0, a1, ()), (false, a2, a3, ()), ()), ())
def E (lf : Nat) : Entry := ⟨[.str, .str, .str, .str], [yV], fun x => f lf x.1 x.2.1 x.2.2.1 x.2.2.2.1⟩
theorem ok (lf : Nat) : Ok 107 (E lf) := okT (an := (annsL [])) (lf := lf) tN aoN fun x => by kernel_rfl
end surveyorlaw23_set
namespace surveyorlaw23_awake
def f (lf : Nat)  : Option (Bool × Unit) :=
 bd (value_Make.f lf (false, (⟨#[49]⟩ : ByteArray), (⟨#[49, 49]⟩ : ByteArray), ()) (false, (⟨#[52]⟩ : ByteArray), (⟨#[48]⟩ : ByteArray), ())) fun r1 =>
 bd (value_Make.f lf (false, (⟨#[53]⟩ : ByteArray), (⟨#[55]⟩ : ByteArray), ()) (false, (⟨#[52]⟩ : ByteArray), (⟨#[48]⟩ : ByteArray), ())) fun r2 =>
 bd (value_Make.f lf (false, (⟨#[51]⟩ : ByteArray), (⟨#[54]⟩ : ByteArray), ()) (false, (⟨#[52]⟩ : ByteArray), (⟨#[48]⟩ : ByteArray), ())) fun r3 =>
 br ((i64.wrap ((i64.wrap (r1.2.1 + r2.2.1)) + r3.2.1)) != 0) (
 some (false, ())) (
 bd (surveyorlaw23_set.f lf (⟨#[52]⟩ : ByteArray) (⟨#[56]⟩ : ByteArray) (⟨#[52]⟩ : ByteArray) (⟨#[48]⟩ : ByteArray)) fun r4 =>
 bd (some (!(((r1.1.1.1 == r4.1.1.1) && ((r1.1.1.2.1 == r4.1.1.2.1) && ((r1.1.1.2.2.1 == r4.1.1.2.2.1) && true))) && (((r1.1.2.1.1 == r4.1.2.1.1) && ((r1.1.2.1.2.1 == r4.1.2.1.2.1) && ((r1.1.2.1.2.2.1 == r4.1.2.1.2.2.1) && true))) && true)))) fun r5 =>
 br r5 (
 some (false, ())) (
 bd (surveyorref23_Empty.f lf) fun r6 =>
 bd (some (!(((r2.1.1.1 == r6.1.1.1) && ((r2.1.1.2.1 == r6.1.1.2.1) && ((r2.1.1.2.2.1 == r6.1.1.2.2.1) && true))) && (((r2.1.2.1.1 == r6.1.2.1.1) && ((r2.1.2.1.2.1 == r6.1.2.1.2.1) && ((r2.1.2.1.2.2.1 == r6.1.2.1.2.2.1) && true))) && true)))) fun r7 =>
 br r7 (
 some (false, ())) (
 bd (surveyorlaw23_set.f lf (⟨#[52]⟩ : ByteArray) (⟨#[52]⟩ : ByteArray) (⟨#[48]⟩ : ByteArray) (⟨#[52]⟩ : ByteArray)) fun r8 =>
 bd (some (!(((r3.1.1.1 == r8.1.1.1) && ((r3.1.1.2.1 == r8.1.1.2.1) && ((r3.1.1.2.2.1 == r8.1.1.2.2.1) && true))) && (((r3.1.2.1.1 == r8.1.2.1.1) && ((r3.1.2.1.2.1 == r8.1.2.1.2.1) && ((r3.1.2.1.2.2.1 == r8.1.2.1.2.2.1) && true))) && true)))) fun r9 =>
 br r9 (
 some (false, ())) (
 bd (value_Of.f lf (⟨#[51]⟩ : ByteArray)) fun r10 =>
 bd (surveyorlaw23_set.f lf (⟨#[48]⟩ : ByteArray) (⟨#[49]⟩ : ByteArray) (⟨#[49]⟩ : ByteArray) (⟨#[48]⟩ : ByteArray)) fun r11 =>
 bd (value_Apply.f lf 3 r1.1 r11.1) fun r12 =>
 bd (value_Apply.f lf 5 r1.1 r10.1) fun r13 =>
 bd (value_Apply.f lf 6 r1.1 r3.1) fun r14 =>
 br ((i64.wrap ((i64.wrap ((i64.wrap (r10.2.1 + r12.2.1)) + r13.2.1)) + r14.2.1)) != 0) (
 some (false, ())) (
 bd (surveyorlaw23_set.f lf (⟨#[52]⟩ : ByteArray) (⟨#[57]⟩ : ByteArray) (⟨#[49]⟩ : ByteArray) (⟨#[48]⟩ : ByteArray)) fun r15 =>
 bd (some (!(((r12.1.1.1 == r15.1.1.1) && ((r12.1.1.2.1 == r15.1.1.2.1) && ((r12.1.1.2.2.1 == r15.1.1.2.2.1) && true))) && (((r12.1.2.1.1 == r15.1.2.1.1) && ((r12.1.2.1.2.1 == r15.1.2.1.2.1) && ((r12.1.2.1.2.2.1 == r15.1.2.1.2.2.1) && true))) && true)))) fun r16 =>
 br r16 (
 some (false, ())) (
 bd (surveyorlaw23_set.f lf (⟨#[49, 50]⟩ : ByteArray) (⟨#[50, 52]⟩ : ByteArray) (⟨#[49, 50]⟩ : ByteArray) (⟨#[48]⟩ : ByteArray)) fun r17 =>
 bd (some (!(((r13.1.1.1 == r17.1.1.1) && ((r13.1.1.2.1 == r17.1.1.2.1) && ((r13.1.1.2.2.1 == r17.1.1.2.2.1) && true))) && (((r13.1.2.1.1 == r17.1.2.1.1) && ((r13.1.2.1.2.1 == r17.1.2.1.2.1) && ((r13.1.2.1.2.2.1 == r17.1.2.1.2.2.1) && true))) && true)))) fun r18 =>
 br r18 (
 some (false, ())) (
 bd (surveyorlaw23_set.f lf (⟨#[49]⟩ : ByteArray) (⟨#[50]⟩ : ByteArray) (⟨#[49]⟩ : ByteArray) (⟨#[48]⟩ : ByteArray)) fun r19 =>
 bd (some (!(((r14.1.1.1 == r19.1.1.1) && ((r14.1.1.2.1 == r19.1.1.2.1) && ((r14.1.1.2.2.1 == r19.1.1.2.2.1) && true))) && (((r14.1.2.1.1 == r19.1.2.1.1) && ((r14.1.2.1.2.1 == r19.1.2.1.2.1) && ((r14.1.2.1.2.2.1 == r19.1.2.1.2.2.1) && true))) && true)))) fun r20 =>
 br r20 (
 some (false, ())) (
 bd (surveyorlaw23_set.f lf (⟨#[56]⟩ : ByteArray) (⟨#[56]⟩ : ByteArray) (⟨#[48]⟩ : ByteArray) (⟨#[56]⟩ : ByteArray)) fun r21 =>
 bd (value_Refine.f lf 4 r1.1 r21.1) fun r22 =>
 bd (value_Refine.f lf 3 r1.1 r3.1) fun r23 =>
 bd (surveyorlaw23_set.f lf (⟨#[49, 50]⟩ : ByteArray) (⟨#[49, 50]⟩ : ByteArray) (⟨#[48]⟩ : ByteArray) (⟨#[49, 50]⟩ : ByteArray)) fun r24 =>
 bd (value_Widen.f lf r1.1 r24.1 []) fun r25 =>
 bd (surveyorlaw23_set.f lf (⟨#[49, 50]⟩ : ByteArray) (⟨#[49, 50]⟩ : ByteArray) (⟨#[48]⟩ : ByteArray) (⟨#[49, 50]⟩ : ByteArray)) fun r26 =>
 bd (value_Widen.f lf r1.1 r26.1 [(⟨#[49, 52]⟩ : ByteArray)]) fun r27 =>
 bd (value_Format.f lf r25.1) fun r28 =>
 br ((i64.wrap ((i64.wrap ((i64.wrap ((i64.wrap (r22.2.2.1 + r23.2.2.1)) + r25.2.1)) + r27.2.1)) + r28.2.1)) == 0) (
 bd (some (((r22.1.1.1 == r3.1.1.1) && ((r22.1.1.2.1 == r3.1.1.2.1) && ((r22.1.1.2.2.1 == r3.1.1.2.2.1) && true))) && (((r22.1.2.1.1 == r3.1.2.1.1) && ((r22.1.2.1.2.1 == r3.1.2.1.2.1) && ((r22.1.2.1.2.2.1 == r3.1.2.1.2.2.1) && true))) && true))) fun r29 =>
 br r29 (
 bd (surveyorlaw23_set.f lf (⟨#[56]⟩ : ByteArray) (⟨#[56]⟩ : ByteArray) (⟨#[48]⟩ : ByteArray) (⟨#[56]⟩ : ByteArray)) fun r30 =>
 bd (some (((r23.1.1.1 == r30.1.1.1) && ((r23.1.1.2.1 == r30.1.1.2.1) && ((r23.1.1.2.2.1 == r30.1.1.2.2.1) && true))) && (((r23.1.2.1.1 == r30.1.2.1.1) && ((r23.1.2.1.2.1 == r30.1.2.1.2.1) && ((r23.1.2.1.2.2.1 == r30.1.2.1.2.2.1) && true))) && true))) fun r31 =>
 br r31 (
 bd (surveyorlaw23_set.f lf (⟨#[52]⟩ : ByteArray) (⟨#[49, 50]⟩ : ByteArray) (⟨#[52]⟩ : ByteArray) (⟨#[48]⟩ : ByteArray)) fun r32 =>
 bd (some (((r27.1.1.1 == r32.1.1.1) && ((r27.1.1.2.1 == r32.1.1.2.1) && ((r27.1.1.2.2.1 == r32.1.1.2.2.1) && true))) && (((r27.1.2.1.1 == r32.1.2.1.1) && ((r27.1.2.1.2.1 == r32.1.2.1.2.1) && ((r27.1.2.1.2.2.1 == r32.1.2.1.2.2.1) && true))) && true))) fun r33 =>
 br r33 (
 some ((r28.1.toList == (⟨#[91, 52, 44, 32, 43, 105, 110, 102, 93, 32, 109, 111, 100, 32, 52, 32, 61, 32, 48]⟩ : ByteArray).toList), ())) (
 some (false, ()))) (
 some (false, ()))) (
 some (false, ()))) (
 some (false, ()))))))))))
def E (lf : Nat) : Entry := ⟨[], [.bool], fun x => f lf ⟩
theorem ok (lf : Nat) : Ok 22 (E lf) := okT (an := (annsL [])) (lf := lf) (tC (value_Apply.ok lf) (tC (value_Refine.ok lf) (tC (value_Widen.ok lf) (tC (value_Make.ok lf) (tC (value_Of.ok lf) (tC (value_Format.ok lf) (tC (surveyorlaw23_set.ok lf) (tC (surveyorref23_Empty.ok lf) tN)))))))) aoN fun x => by kernel_rfl
end surveyorlaw23_awake
namespace surveyorlaw23_few
def anns : FuncId → FA := annsL [(27, ⟨annOf [(0, ⟨kx 18 [0, 5, 6, 7], [], []⟩, ⟨kx 18 [0, 2], [], []⟩)], none, []⟩)]
def r0 {ρ : Type} (lf : Nat) (v0 v1 : List ByteArray) (v2 : Int) (v3 : Int) (K : Int → Option ρ) (E0 : Option ρ) (E1 : Option ρ) : Option ρ :=
 br (decide (v3 < v2)) (
 bd (idxL v1 v3) fun y1 =>
 bd (surveyorref01_Few.f lf y1) fun r2 =>
 br (!r2.1) (
 E0) (
 K (i64.wrap (v3 + 1)))) (
 E1)
def l0 (lf : Nat) (v0 v1 : List ByteArray) (v2 : Int) : Nat → Int → Option (Bool × (Unit) × (Unit) × Unit)
 | 0, _ => none
 | n + 1, v3 => r0 lf v0 v1 v2 v3 (l0 lf v0 v1 v2 n) (some (true, (()), ((()), ()))) (some (false, (()), ((()), ())))
def sh0 : ShS := ⟨[.s (.sl .str), .a 4, .s (.sl .str), .s (.int .i64), .s (.int .i64), .a 10], []⟩
def S0 (p : (List ByteArray) × (List ByteArray) × Int × Int × Unit) : St := sh0.b p
def xh0 : ShS := ⟨[.s (.sl .str), .a 1, .s .bool, .a 15], []⟩
def xh1 : ShS := ⟨[.s (.sl .str), .a 17], []⟩
def o0 (v0 v1 : List ByteArray) (v2 : Int) (y : Bool × (Unit) × (Unit) × Unit) : Alt := .two y.1 (.one .ret (xh0.b (v0, false, ()))) (.one (.exit 0) (xh1.b (v0, ())))
def tb (lf : Nat) : List (FuncId × Entry) := [(38, surveyorref01_Few.E lf)]
def s13_27 (lf : Nat) : List (Nat × (St → Option LTE)) := [(0, sumE sh0 fun (p : (List ByteArray) × (List ByteArray) × Int × Int × Unit) => ⟨Bool × (Unit) × (Unit) × Unit, l0 lf p.1 p.2.1 p.2.2.1 (lf + 40) p.2.2.2.1, o0 p.1 p.2.1 p.2.2.1⟩)]
def ls (lf : Nat) : List (Nat × FuncId × Sums) := [(13, 27, sumsL (s13_27 lf))]
def it0 {ρ : Type} (lf n : Nat) (st : St) (k : KE ρ) : Option ρ := itG anns (ls lf) (tb lf) lf 13 27 0 0 (sumsL (s13_27 lf)) n st k
theorem t0 {ρ : Type} (lf n : Nat) (v0 v1 : List ByteArray) (v2 v3 : Int) (k : KE ρ) : it0 lf (n + 1) (S0 (v0, v1, v2, v3, ())) k = r0 lf v0 v1 v2 v3 (fun x0 => it0 lf n (S0 (v0, v1, v2, x0, ())) k) (k .ret (xh0.b (v0, false, ()))) (k (.exit 0) (xh1.b (v0, ()))) := by kernel_rfl
theorem u0 {ρ : Type} (lf : Nat) (v0 v1 : List ByteArray) (v2 : Int) (k : KE ρ) : ∀ (n : Nat) (v3 : Int), it0 lf n (S0 (v0, v1, v2, v3, ())) k = bd (l0 lf v0 v1 v2 n v3) fun y => altK k (o0 v0 v1 v2 y)
 | 0, _ => by rw [l0, bd_none]; rfl
 | n + 1, v3 => by
  rw [t0]; simp only [l0, r0, u0 lf v0 v1 v2 k n, bd_br, bd_bd, bd_some', bd_none, br_t, br_f, o0, altK]
theorem sl (lf : Nat) : SL anns (ls lf) (tb lf) lf (ls lf) := slC (laC (fun _ => by kernel_rfl) (fun _ (x : (List ByteArray) × (List ByteArray) × Int × Int × Unit) k => leq_of (u0 lf x.1 x.2.1 x.2.2.1 k (lf + 40) x.2.2.2.1)) laN) slN
def f (lf : Nat) (a0 : List ByteArray) : Option (Bool × Unit) :=
 bd (l0 lf a0 a0 ((a0.length : Nat) : Int) (lf + 40) 0) fun z3 =>
 br z3.1 (
 some (false, ())) (
 some ((decide (((a0.length : Nat) : Int) ≤ 40)), ()))
def E (lf : Nat) : Entry := ⟨[(.sl .str)], [.bool], fun x => f lf x.1⟩
theorem ok (lf : Nat) : Ok 27 (E lf) := okL (tC (surveyorref01_Few.ok lf) tN) (aoC aoN) (sl lf) fun x => by kernel_rfl
end surveyorlaw23_few
end
end Go.Q
