import Derived.Test.YtlikbeopppeojaaGreatDoorProg
import Derived.KernelRfl
import Derived.Test.YtlikbeopppeojaaGreatDoorEHE3
import Derived.Test.YtlikbeopppeojaaGreatDoorEHG1
import Derived.Test.YtlikbeopppeojaaGreatDoorEHG3
import Derived.Test.YtlikbeopppeojaaGreatDoorEHG4
import Derived.Test.YtlikbeopppeojaaGreatDoorEHG5
import Derived.Test.YtlikbeopppeojaaGreatDoorEHG6
set_option linter.unusedVariables false
set_option linter.unusedSimpArgs false
set_option linter.unusedSectionVars false
set_option maxRecDepth 100000
set_option maxHeartbeats 40000000
namespace Go.Q
open Go Go.RowKit
open Go.Rx (br bd sIdx sCat sCut iQuo iRem iShl)
noncomputable section
namespace surveyorref23_Few
def f (lf : Nat) (a0 : TV) (a1 : TV) : Option (Bool × Unit) :=
 bd (surveyorref21_Few.f lf a0.1 a1.1) fun r1 =>
 br r1.1 (
 bd (surveyorref22_Few.f lf a0.2.1) fun r2 =>
 br r2.1 (
 bd (surveyorref22_Few.f lf a1.2.1) fun r3 =>
 some (r3.1, ())) (
 some (false, ()))) (
 some (false, ()))
def E (lf : Nat) : Entry := ⟨[yV, yV], [.bool], fun x => f lf x.1 x.2.1⟩
theorem ok (lf : Nat) : Ok 16 (E lf) := okT (an := (annsL [])) (lf := lf) (tC (surveyorref21_Few.ok lf) (tC (surveyorref22_Few.ok lf) tN)) aoN fun x => by kernel_rfl
end surveyorref23_Few
namespace surveyorref23_Top
def f (lf : Nat)  : Option (TV × Unit) :=
 bd (surveyorref22_Top.f lf) fun r1 =>
 some (((false, (⟨#[]⟩ : ByteArray), (⟨#[]⟩ : ByteArray), ()), r1.1, ()), ())
def E (lf : Nat) : Entry := ⟨[], [yV], fun x => f lf ⟩
theorem ok (lf : Nat) : Ok 36 (E lf) := okT (an := (annsL [])) (lf := lf) (tC (surveyorref22_Top.ok lf) tN) aoN fun x => by kernel_rfl
end surveyorref23_Top
namespace surveyorref23_One
def f (lf : Nat) (a0 : ByteArray) : Option (TV × Unit) :=
 bd (surveyorref22_Single.f lf a0) fun r1 =>
 br (!(r1.1.2.1.toList == (⟨#[48]⟩ : ByteArray).toList)) (
 bd (surveyorref23_Top.f lf) fun r2 =>
 some (r2.1, ())) (
 some (((false, a0, a0, ()), r1.1, ()), ()))
def E (lf : Nat) : Entry := ⟨[.str], [yV], fun x => f lf x.1⟩
theorem ok (lf : Nat) : Ok 38 (E lf) := okT (an := (annsL [])) (lf := lf) (tC (surveyorref23_Top.ok lf) (tC (surveyorref22_Single.ok lf) tN)) aoN fun x => by kernel_rfl
end surveyorref23_One
namespace surveyorref23_Empty
def f (lf : Nat)  : Option (TV × Unit) :=
 bd (surveyorref21_None.f lf) fun r1 =>
 bd (surveyorref22_Empty.f lf) fun r2 =>
 some ((r1.1, r2.1, ()), ())
def E (lf : Nat) : Entry := ⟨[], [yV], fun x => f lf ⟩
theorem ok (lf : Nat) : Ok 111 (E lf) := okT (an := (annsL [])) (lf := lf) (tC (surveyorref21_None.ok lf) (tC (surveyorref22_Empty.ok lf) tN)) aoN fun x => by kernel_rfl
end surveyorref23_Empty
namespace surveyorref23_Reduced
def f (lf : Nat) (a0 : TI) (a1 : TI) : Option (TV × Unit) :=
 br a0.1 (
 bd (surveyorref23_Empty.f lf) fun r1 =>
 some (r1.1, ())) (
 br a1.1 (
 bd (surveyorref23_Empty.f lf) fun r2 =>
 some (r2.1, ())) (
 br (a1.2.1.toList == (⟨#[48]⟩ : ByteArray).toList) (
 bd (surveyorref21_In.f lf a0 a1.2.2.1) fun r3 =>
 br (!r3.1) (
 bd (surveyorref23_Empty.f lf) fun r4 =>
 some (r4.1, ())) (
 some (((false, a1.2.2.1, a1.2.2.1, ()), a1, ()), ()))) (
 br (!(a0.2.1.toList == (⟨#[]⟩ : ByteArray).toList)) (
 bd (surveyorref22_Above.f lf a1 a0.2.1) fun r5 =>
 br (!(a0.2.2.1.toList == (⟨#[]⟩ : ByteArray).toList)) (
 bd (surveyorref22_Below.f lf a1 a0.2.2.1) fun r6 =>
 br (!(r5.1.toList == (⟨#[]⟩ : ByteArray).toList)) (
 br (!(r6.1.toList == (⟨#[]⟩ : ByteArray).toList)) (
 bd (surveyorref01_Less.f lf r6.1 r5.1) fun r7 =>
 br r7.1 (
 bd (surveyorref23_Empty.f lf) fun r8 =>
 some (r8.1, ())) (
 br (r5.1.toList == r6.1.toList) (
 bd (surveyorref23_One.f lf r5.1) fun r9 =>
 some (r9.1, ())) (
 bd (surveyorref21_Range.f lf r5.1 r6.1) fun r10 =>
 some ((r10.1, a1, ()), ())))) (
 bd (surveyorref21_Range.f lf r5.1 r6.1) fun r11 =>
 some ((r11.1, a1, ()), ()))) (
 bd (surveyorref21_Range.f lf r5.1 r6.1) fun r12 =>
 some ((r12.1, a1, ()), ()))) (
 br (!(r5.1.toList == (⟨#[]⟩ : ByteArray).toList)) (
 br (!(a0.2.2.1.toList == (⟨#[]⟩ : ByteArray).toList)) (
 bd (surveyorref01_Less.f lf a0.2.2.1 r5.1) fun r13 =>
 br r13.1 (
 bd (surveyorref23_Empty.f lf) fun r14 =>
 some (r14.1, ())) (
 br (r5.1.toList == a0.2.2.1.toList) (
 bd (surveyorref23_One.f lf r5.1) fun r15 =>
 some (r15.1, ())) (
 bd (surveyorref21_Range.f lf r5.1 a0.2.2.1) fun r16 =>
 some ((r16.1, a1, ()), ())))) (
 bd (surveyorref21_Range.f lf r5.1 a0.2.2.1) fun r17 =>
 some ((r17.1, a1, ()), ()))) (
 bd (surveyorref21_Range.f lf r5.1 a0.2.2.1) fun r18 =>
 some ((r18.1, a1, ()), ())))) (
 br (!(a0.2.2.1.toList == (⟨#[]⟩ : ByteArray).toList)) (
 bd (surveyorref22_Below.f lf a1 a0.2.2.1) fun r19 =>
 br (!(a0.2.1.toList == (⟨#[]⟩ : ByteArray).toList)) (
 br (!(r19.1.toList == (⟨#[]⟩ : ByteArray).toList)) (
 bd (surveyorref01_Less.f lf r19.1 a0.2.1) fun r20 =>
 br r20.1 (
 bd (surveyorref23_Empty.f lf) fun r21 =>
 some (r21.1, ())) (
 br (a0.2.1.toList == r19.1.toList) (
 bd (surveyorref23_One.f lf a0.2.1) fun r22 =>
 some (r22.1, ())) (
 bd (surveyorref21_Range.f lf a0.2.1 r19.1) fun r23 =>
 some ((r23.1, a1, ()), ())))) (
 bd (surveyorref21_Range.f lf a0.2.1 r19.1) fun r24 =>
 some ((r24.1, a1, ()), ()))) (
 bd (surveyorref21_Range.f lf a0.2.1 r19.1) fun r25 =>
 some ((r25.1, a1, ()), ()))) (
 br (!(a0.2.1.toList == (⟨#[]⟩ : ByteArray).toList)) (
 br (!(a0.2.2.1.toList == (⟨#[]⟩ : ByteArray).toList)) (
 bd (surveyorref01_Less.f lf a0.2.2.1 a0.2.1) fun r26 =>
 br r26.1 (
 bd (surveyorref23_Empty.f lf) fun r27 =>
 some (r27.1, ())) (
 br (a0.2.1.toList == a0.2.2.1.toList) (
 bd (surveyorref23_One.f lf a0.2.1) fun r28 =>
 some (r28.1, ())) (
 bd (surveyorref21_Range.f lf a0.2.1 a0.2.2.1) fun r29 =>
 some ((r29.1, a1, ()), ())))) (
 bd (surveyorref21_Range.f lf a0.2.1 a0.2.2.1) fun r30 =>
 some ((r30.1, a1, ()), ()))) (
 bd (surveyorref21_Range.f lf a0.2.1 a0.2.2.1) fun r31 =>
 some ((r31.1, a1, ()), ())))))))
def E (lf : Nat) : Entry := ⟨[yI, yI], [yV], fun x => f lf x.1 x.2.1⟩
theorem ok (lf : Nat) : Ok 73 (E lf) := okT (an := (annsL [])) (lf := lf) (tC (surveyorref23_One.ok lf) (tC (surveyorref21_In.ok lf) (tC (surveyorref01_Less.ok lf) (tC (surveyorref23_Empty.ok lf) (tC (surveyorref22_Above.ok lf) (tC (surveyorref22_Below.ok lf) (tC (surveyorref21_Range.ok lf) tN))))))) aoN fun x => by kernel_rfl
end surveyorref23_Reduced
namespace surveyorref23_Check
def f (lf : Nat) (a0 : TV) : Option (Int × Unit) :=
 bd (surveyorref21_Check.f lf a0.1) fun r1 =>
 br (r1.1 != 0) (
 some (r1.1, ())) (
 bd (surveyorref22_Check.f lf a0.2.1) fun r2 =>
 br (r2.1 != 0) (
 some (r2.1, ())) (
 bd (surveyorref23_Reduced.f lf a0.1 a0.2.1) fun r3 =>
 bd (some (!(((r3.1.1.1 == a0.1.1) && ((r3.1.1.2.1 == a0.1.2.1) && ((r3.1.1.2.2.1 == a0.1.2.2.1) && true))) && (((r3.1.2.1.1 == a0.2.1.1) && ((r3.1.2.1.2.1 == a0.2.1.2.1) && ((r3.1.2.1.2.2.1 == a0.2.1.2.2.1) && true))) && true)))) fun r4 =>
 br r4 (
 some (3, ())) (
 some (0, ()))))
def E (lf : Nat) : Entry := ⟨[yV], [(.int .i64)], fun x => f lf x.1⟩
theorem ok (lf : Nat) : Ok 40 (E lf) := okT (an := (annsL [])) (lf := lf) (tC (surveyorref21_Check.ok lf) (tC (surveyorref22_Check.ok lf) (tC (surveyorref23_Reduced.ok lf) tN))) aoN fun x => by kernel_rfl
end surveyorref23_Check
namespace surveyorref23_In
def f (lf : Nat) (a0 : TV) (a1 : ByteArray) : Option (Bool × Unit) :=
 bd (surveyorref21_In.f lf a0.1 a1) fun r1 =>
 br r1.1 (
 bd (surveyorref22_In.f lf a0.2.1 a1) fun r2 =>
 some (r2.1, ())) (
 some (false, ()))
def E (lf : Nat) : Entry := ⟨[yV, .str], [.bool], fun x => f lf x.1 x.2.1⟩
theorem ok (lf : Nat) : Ok 62 (E lf) := okT (an := (annsL [])) (lf := lf) (tC (surveyorref21_In.ok lf) (tC (surveyorref22_In.ok lf) tN)) aoN fun x => by kernel_rfl
end surveyorref23_In
end
end Go.Q
namespace Go.Q
open Go.IntKind (i64)
open Go Go.RowKit
open Go.Rx (br bd sIdx sCat sCut iQuo iRem iShl)
noncomputable section
namespace env_Check
def anns : FuncId → FA := annsL [(13, ⟨annOf [(0, ⟨kx 24 [9, 10, 11], [], []⟩, ⟨kx 24 [2], [], []⟩)], none, []⟩)]
def r0 {ρ : Type} (lf : Nat) (v0 : List TV) (v1 : Int) (v2 : Int) (K : Int → Option ρ) (E0 : Int → Option ρ) (E1 : Option ρ) : Option ρ :=
 br (decide (v2 < v1)) (
 bd (idxL v0 v2) fun y1 =>
 bd (value_Check.f lf y1) fun r2 =>
 br (r2.1 != 0) (
 E0 r2.1) (
 br y1.1.1 (
 E0 16) (
 K (i64.wrap (v2 + 1))))) (
 E1)
def l0 (lf : Nat) (v0 : List TV) (v1 : Int) : Nat → Int → Option (Bool × (Int × Unit) × (Unit) × Unit)
 | 0, _ => none
 | n + 1, v2 => r0 lf v0 v1 v2 (l0 lf v0 v1 n) (fun w0 => some (true, (w0, ()), ((()), ()))) (some (false, (0, ()), ((()), ())))
def sh0 : ShS := ⟨[.a 9, .s (.sl yV), .s (.int .i64), .s (.int .i64), .a 12], []⟩
def S0 (p : (List TV) × Int × Int × Unit) : St := sh0.b p
def xh0 : ShS := ⟨[.a 2, .s (.int .i64), .a 21], []⟩
def xh1 : ShS := ⟨[.a 24], []⟩
def o0 (v0 : List TV) (v1 : Int) (y : Bool × (Int × Unit) × (Unit) × Unit) : Alt := .two y.1 (.one .ret (xh0.b (y.2.1.1, ()))) (.one (.exit 0) (xh1.b (())))
def tb (lf : Nat) : List (FuncId × Entry) := [(39, value_Check.E lf)]
def s13_13 (lf : Nat) : List (Nat × (St → Option LTE)) := [(0, sumE sh0 fun (p : (List TV) × Int × Int × Unit) => ⟨Bool × (Int × Unit) × (Unit) × Unit, l0 lf p.1 p.2.1 (lf + 40) p.2.2.1, o0 p.1 p.2.1⟩)]
def ls (lf : Nat) : List (Nat × FuncId × Sums) := [(13, 13, sumsL (s13_13 lf))]
def it0 {ρ : Type} (lf n : Nat) (st : St) (k : KE ρ) : Option ρ := itG anns (ls lf) (tb lf) lf 13 13 0 0 (sumsL (s13_13 lf)) n st k
theorem t0 {ρ : Type} (lf n : Nat) (v0 : List TV) (v1 v2 : Int) (k : KE ρ) : it0 lf (n + 1) (S0 (v0, v1, v2, ())) k = r0 lf v0 v1 v2 (fun x0 => it0 lf n (S0 (v0, v1, x0, ())) k) (fun w0 => k .ret (xh0.b (w0, ()))) (k (.exit 0) (xh1.b (()))) := by kernel_rfl
theorem u0 {ρ : Type} (lf : Nat) (v0 : List TV) (v1 : Int) (k : KE ρ) : ∀ (n : Nat) (v2 : Int), it0 lf n (S0 (v0, v1, v2, ())) k = bd (l0 lf v0 v1 n v2) fun y => altK k (o0 v0 v1 y)
 | 0, _ => by rw [l0, bd_none]; rfl
 | n + 1, v2 => by
  rw [t0]; simp only [l0, r0, u0 lf v0 v1 k n, bd_br, bd_bd, bd_some', bd_none, br_t, br_f, o0, altK]
theorem sl (lf : Nat) : SL anns (ls lf) (tb lf) lf (ls lf) := slC (laC (fun _ => by kernel_rfl) (fun _ (x : (List TV) × Int × Int × Unit) k => leq_of (u0 lf x.1 x.2.1 k (lf + 40) x.2.2.1)) laN) slN
def f (lf : Nat) (a0 : List TV) : Option (Int × Unit) :=
 br (decide (((a0.length : Nat) : Int) > 32)) (
 some (5, ())) (
 bd (l0 lf a0 ((a0.length : Nat) : Int) (lf + 40) 0) fun z3 =>
 br z3.1 (
 some (z3.2.1.1, ())) (
 some (0, ())))
def E (lf : Nat) : Entry := ⟨[(.sl yV)], [(.int .i64)], fun x => f lf x.1⟩
theorem ok (lf : Nat) : Ok 13 (E lf) := okL (tC (value_Check.ok lf) tN) (aoC aoN) (sl lf) fun x => by kernel_rfl
end env_Check
namespace env_Holds
def anns : FuncId → FA := annsL [(7, ⟨annOf [(0, ⟨kx 47 [1, 7, 22, 23, 24], [], []⟩, ⟨kx 47 [4, 5, 7], [], []⟩)], none, []⟩)]
def r0 {ρ : Type} (lf : Nat) (v0 : List ByteArray) (v2 : List TV) (v3 : Int) (v1 : Bool) (v4 : Int) (K : Bool → Int → Option ρ) (E0 : Int → Bool → Option ρ) (E1 : Bool → Option ρ) : Option ρ :=
 br (decide (v4 < v3)) (
 bd (idxL v2 v4) fun y2 =>
 bd (idxL v0 v4) fun y3 =>
 bd (value_Holds.f lf y2 y3) fun r4 =>
 br (r4.2.1 != 0) (
 E0 r4.2.1 v1) (
 br v1 (
 K r4.1 (i64.wrap (v4 + 1))) (
 K false (i64.wrap (v4 + 1))))) (
 E1 v1)
def l0 (lf : Nat) (v0 : List ByteArray) (v2 : List TV) (v3 : Int) : Nat → Bool → Int → Option (Bool × (Int × Bool × Unit) × (Bool × Unit) × Unit)
 | 0, _, _ => none
 | n + 1, v1, v4 => r0 lf v0 v2 v3 v1 v4 (l0 lf v0 v2 v3 n) (fun w0 w1 => some (true, (w0, w1, ()), ((false, ()), ()))) (fun w0 => some (false, (0, false, ()), ((w0, ()), ())))
def sh0 : ShS := ⟨[.a 1, .s (.sl .str), .a 5, .s .bool, .a 14, .s (.sl yV), .s (.int .i64), .s (.int .i64), .a 22], []⟩
def S0 (p : (List ByteArray) × Bool × (List TV) × Int × Int × Unit) : St := sh0.b p
def xh0 : ShS := ⟨[.a 4, .s .bool, .s (.int .i64), .a 1, .s .bool, .a 39], []⟩
def xh1 : ShS := ⟨[.a 7, .s .bool, .a 39], []⟩
def o0 (v0 : List ByteArray) (v2 : List TV) (v3 : Int) (y : Bool × (Int × Bool × Unit) × (Bool × Unit) × Unit) : Alt := .two y.1 (.one .ret (xh0.b (false, y.2.1.1, y.2.1.2.1, ()))) (.one (.exit 0) (xh1.b (y.2.2.1.1, ())))
def tb (lf : Nat) : List (FuncId × Entry) := [(13, env_Check.E lf), (30, value_Holds.E lf)]
def s13_7 (lf : Nat) : List (Nat × (St → Option LTE)) := [(0, sumE sh0 fun (p : (List ByteArray) × Bool × (List TV) × Int × Int × Unit) => ⟨Bool × (Int × Bool × Unit) × (Bool × Unit) × Unit, l0 lf p.1 p.2.2.1 p.2.2.2.1 (lf + 40) p.2.1 p.2.2.2.2.1, o0 p.1 p.2.2.1 p.2.2.2.1⟩)]
def ls (lf : Nat) : List (Nat × FuncId × Sums) := [(13, 7, sumsL (s13_7 lf))]
def it0 {ρ : Type} (lf n : Nat) (st : St) (k : KE ρ) : Option ρ := itG anns (ls lf) (tb lf) lf 13 7 0 0 (sumsL (s13_7 lf)) n st k
theorem t0 {ρ : Type} (lf n : Nat) (v0 : List ByteArray) (v1 : Bool) (v2 : List TV) (v3 v4 : Int) (k : KE ρ) : it0 lf (n + 1) (S0 (v0, v1, v2, v3, v4, ())) k = r0 lf v0 v2 v3 v1 v4 (fun x0 x1 => it0 lf n (S0 (v0, x0, v2, v3, x1, ())) k) (fun w0 w1 => k .ret (xh0.b (false, w0, w1, ()))) (fun w0 => k (.exit 0) (xh1.b (w0, ()))) := by kernel_rfl
theorem u0 {ρ : Type} (lf : Nat) (v0 : List ByteArray) (v2 : List TV) (v3 : Int) (k : KE ρ) : ∀ (n : Nat) (v1 : Bool) (v4 : Int), it0 lf n (S0 (v0, v1, v2, v3, v4, ())) k = bd (l0 lf v0 v2 v3 n v1 v4) fun y => altK k (o0 v0 v2 v3 y)
 | 0, _, _ => by rw [l0, bd_none]; rfl
 | n + 1, v1, v4 => by
  rw [t0]; simp only [l0, r0, u0 lf v0 v2 v3 k n, bd_br, bd_bd, bd_some', bd_none, br_t, br_f, o0, altK]
theorem sl (lf : Nat) : SL anns (ls lf) (tb lf) lf (ls lf) := slC (laC (fun _ => by kernel_rfl) (fun _ (x : (List ByteArray) × Bool × (List TV) × Int × Int × Unit) k => leq_of (u0 lf x.1 x.2.2.1 x.2.2.2.1 k (lf + 40) x.2.1 x.2.2.2.2.1)) laN) slN
def f (lf : Nat) (a0 : List TV) (a1 : List ByteArray) : Option (Bool × Int × Unit) :=
 bd (env_Check.f lf a0) fun r1 =>
 br (r1.1 != 0) (
 some (false, r1.1, ())) (
 br (((a1.length : Nat) : Int) != ((a0.length : Nat) : Int)) (
 some (false, 15, ())) (
 bd (l0 lf a1 a0 ((a0.length : Nat) : Int) (lf + 40) true 0) fun z5 =>
 br z5.1 (
 some (false, z5.2.1.1, ())) (
 some (z5.2.2.1.1, 0, ()))))
def E (lf : Nat) : Entry := ⟨[(.sl yV), (.sl .str)], [.bool, (.int .i64)], fun x => f lf x.1 x.2.1⟩
theorem ok (lf : Nat) : Ok 7 (E lf) := okL (tC (env_Check.ok lf) (tC (value_Holds.ok lf) tN)) (aoC aoN) (sl lf) fun x => by kernel_rfl
end env_Holds
namespace env_filled
def f (lf : Nat) (a0 : Int) (a1 : TV) : Option ((List TV) × Int × Unit) :=
 br (decide (a0 < 0)) (
 some ([], 2, ())) (
 br (decide (a0 > 32)) (
 some ([], 2, ())) (
 bd (api_ValueR.f lf [a1] a0) fun r1 =>
 some (r1.1, 0, ())))
def E (lf : Nat) : Entry := ⟨[(.int .i64), yV], [(.sl yV), (.int .i64)], fun x => f lf x.1 x.2.1⟩
theorem ok (lf : Nat) : Ok 33 (E lf) := okT (an := (annsL [])) (lf := lf) (tC (api_ValueR.ok lf) tN) aoN fun x => by kernel_rfl
end env_filled
namespace env_Top
def f (lf : Nat) (a0 : Int) : Option ((List TV) × Int × Unit) :=
 bd (value_Top.f lf) fun r1 =>
 bd (env_filled.f lf a0 r1.1) fun r2 =>
 some (r2.1, r2.2.1, ())
def E (lf : Nat) : Entry := ⟨[(.int .i64)], [(.sl yV), (.int .i64)], fun x => f lf x.1⟩
theorem ok (lf : Nat) : Ok 9 (E lf) := okT (an := (annsL [])) (lf := lf) (tC (env_filled.ok lf) (tC (value_Top.ok lf) tN)) aoN fun x => by kernel_rfl
end env_Top
namespace env_of
def f (lf : Nat) (a0 : ByteArray) : Option (TV × Unit) :=
 bd (value_Of.f lf a0) fun r1 =>
 bd (api_Value.f lf r1.1 r1.2.1) fun r2 =>
 some (r2.1, ())
def E (lf : Nat) : Entry := ⟨[.str], [yV], fun x => f lf x.1⟩
theorem ok (lf : Nat) : Ok 37 (E lf) := okT (an := (annsL [])) (lf := lf) (tC (api_Value.ok lf) (tC (value_Of.ok lf) tN)) aoN fun x => by kernel_rfl
end env_of
namespace env_Zero
def f (lf : Nat) (a0 : Int) : Option ((List TV) × Int × Unit) :=
 bd (env_of.f lf (⟨#[48]⟩ : ByteArray)) fun r1 =>
 bd (env_filled.f lf a0 r1.1) fun r2 =>
 some (r2.1, r2.2.1, ())
def E (lf : Nat) : Entry := ⟨[(.int .i64)], [(.sl yV), (.int .i64)], fun x => f lf x.1⟩
theorem ok (lf : Nat) : Ok 11 (E lf) := okT (an := (annsL [])) (lf := lf) (tC (env_filled.ok lf) (tC (env_of.ok lf) tN)) aoN fun x => by kernel_rfl
end env_Zero
namespace env_both
def f (lf : Nat) (a0 : List TV) (a1 : List TV) : Option (Int × Unit) :=
 bd (env_Check.f lf a0) fun r1 =>
 br (r1.1 != 0) (
 some (r1.1, ())) (
 bd (env_Check.f lf a1) fun r2 =>
 br (r2.1 != 0) (
 some (r2.1, ())) (
 br (((a0.length : Nat) : Int) != ((a1.length : Nat) : Int)) (
 some (22, ())) (
 some (0, ()))))
def E (lf : Nat) : Entry := ⟨[(.sl yV), (.sl yV)], [(.int .i64)], fun x => f lf x.1 x.2.1⟩
theorem ok (lf : Nat) : Ok 54 (E lf) := okT (an := (annsL [])) (lf := lf) (tC (env_Check.ok lf) tN) aoN fun x => by kernel_rfl
end env_both
namespace env_environment_value
def l : List (((List TV) × EX × Unit) × (TV × Unit)) := [((ck_c.c13, ck_c.c1, ()), (ck_c.c10, ())), ((ck_c.c13, ck_c.c3, ()), (ck_c.c14, ())), ((ck_c.c13, ck_c.c4, ()), (ck_c.c16, ())), ((ck_c.c13, ck_c.c6, ()), (ck_c.c17, ())), ((ck_c.c13, ck_c.c7, ()), (ck_c.c19, ())), ((ck_c.c13, ck_c.c20, ()), (ck_c.c12, ())), ((ck_c.c13, ck_c.c21, ()), (ck_c.c22, ())), ((ck_c.c13, ck_c.c24, ()), (ck_c.c28, ())), ((ck_c.c13, ck_c.c26, ()), (ck_c.c29, ())), ((ck_c.c35, ck_c.c20, ()), (ck_c.c12, ())), ((ck_c.c35, ck_c.c26, ()), (ck_c.c29, ())), ((ck_c.c13, ck_c.c36, ()), (ck_c.c16, ())), ((ck_c.c13, ck_c.c38, ()), (ck_c.c39, ())), ((ck_c.c13, ck_c.c42, ()), (ck_c.c44, ())), ((ck_c.c51, ck_c.c3, ()), (ck_c.c14, ())), ((ck_c.c13, ck_c.c56, ()), (ck_c.c57, ())), ((ck_c.c13, ck_c.c58, ()), (ck_c.c22, ())), ((ck_c.c61, ck_c.c3, ()), (ck_c.c14, ())), ((ck_c.c13, ck_c.c62, ()), (ck_c.c65, ())), ((ck_c.c69, ck_c.c6, ()), (ck_c.c17, ()))]
def f (lf : Nat) (a0 : List TV) (a1 : EX) : Option (TV × Unit) := pick [(.sl yV), (.rc false)] l (a0, a1, ())
def E (lf : Nat) : Entry := ⟨[(.sl yV), (.rc false)], [yV], fun x => f lf x.1 x.2.1⟩
def tb (lf : Nat) : List (FuncId × Entry) := [(37, env_of.E lf), (39, value_Check.E lf), (66, api_Value.E lf), (70, value_reduced.E lf), (79, value_Apply.E lf), (89, interval_Check.E lf), (91, interval_of.E lf), (92, interval_finite.E lf), (151, interval_none.E lf), (152, interval_infinite.E lf), (176, interval_span_interval.E lf), (180, congruence_class.E lf), (181, congruence_gcd.E lf), (185, congruence_sub.E lf), (198, interval_span_empty.E lf), (213, bigint_Sub.E lf), (220, congruence_none.E lf), (223, congruence_both.E lf)]
abbrev an : FuncId → FA := annsL []
theorem ok (lf : Nat) : Ok 45 (E lf) := okP (an := an) (tb := tb lf) (lf := lf) (tC (env_of.ok lf) (tC (value_Check.ok lf) (tC (api_Value.ok lf) (tC (value_reduced.ok lf) (tC (value_Apply.ok lf) (tC (interval_Check.ok lf) (tC (interval_of.ok lf) (tC (interval_finite.ok lf) (tC (interval_none.ok lf) (tC (interval_infinite.ok lf) (tC (interval_span_interval.ok lf) (tC (congruence_class.ok lf) (tC (congruence_gcd.ok lf) (tC (congruence_sub.ok lf) (tC (interval_span_empty.ok lf) (tC (bigint_Sub.ok lf) (tC (congruence_none.ok lf) (tC (congruence_both.ok lf) tN)))))))))))))))))) aoN (l := l) (fun _ => rfl) (fun _ => rfl) ⟨by as_aux_lemma => kernel_rfl, by as_aux_lemma => kernel_rfl, by as_aux_lemma => kernel_rfl, by as_aux_lemma => kernel_rfl, by as_aux_lemma => kernel_rfl, by as_aux_lemma => kernel_rfl, by as_aux_lemma => kernel_rfl, by as_aux_lemma => kernel_rfl, by as_aux_lemma => kernel_rfl, by as_aux_lemma => kernel_rfl, by as_aux_lemma => kernel_rfl, by as_aux_lemma => kernel_rfl, by as_aux_lemma => kernel_rfl, by as_aux_lemma => kernel_rfl, by as_aux_lemma => kernel_rfl, by as_aux_lemma => kernel_rfl, by as_aux_lemma => kernel_rfl, by as_aux_lemma => kernel_rfl, by as_aux_lemma => kernel_rfl, by as_aux_lemma => kernel_rfl, trivial⟩
end env_environment_value
end
end Go.Q
namespace Go.Q
open Go Go.RowKit
open Go.Rx (br bd sIdx sCat sCut iQuo iRem iShl)
noncomputable section
namespace expr_Check
def l : List ((EX × Int × Unit) × (Int × Unit)) := [((ck_c.c7, 2, ()), (0, ())), ((ck_c.c21, 2, ()), (0, ())), ((ck_c.c24, 2, ()), (0, ())), ((ck_c.c26, 2, ()), (0, ())), ((ck_c.c36, 2, ()), (0, ())), ((ck_c.c38, 2, ()), (0, ())), ((ck_c.c1, 2, ()), (0, ())), ((ck_c.c42, 2, ()), (0, ())), ((ck_c.c3, 2, ()), (0, ())), ((ck_c.c56, 2, ()), (0, ())), ((ck_c.c58, 2, ()), (0, ())), ((ck_c.c62, 2, ()), (0, ()))]
def f (lf : Nat) (a0 : EX) (a1 : Int) : Option (Int × Unit) := pick [(.rc false), (.int .i64)] l (a0, a1, ())
def E (lf : Nat) : Entry := ⟨[(.rc false), (.int .i64)], [(.int .i64)], fun x => f lf x.1 x.2.1⟩
def tb (lf : Nat) : List (FuncId × Entry) := [(90, bigint_Check.E lf), (160, strings_TrimPrefix.E lf)]
abbrev an : FuncId → FA := annsL [(44, ⟨annOf [(0, ⟨kx 37 [3, 4], [], []⟩, ⟨[], [], []⟩)], none, []⟩), (75, ⟨annOf [(0, ⟨kx 18 [4, 5], [], []⟩, ⟨[], [], []⟩)], none, []⟩)]
theorem ok (lf : Nat) : Ok 44 (E lf) := okP (an := an) (tb := tb lf) (lf := lf) (tC (bigint_Check.ok lf) (tC (strings_TrimPrefix.ok lf) tN)) (aoC (aoC aoN)) (l := l) (fun _ => rfl) (fun _ => rfl) ⟨by as_aux_lemma => kernel_rfl, by as_aux_lemma => kernel_rfl, by as_aux_lemma => kernel_rfl, by as_aux_lemma => kernel_rfl, by as_aux_lemma => kernel_rfl, by as_aux_lemma => kernel_rfl, by as_aux_lemma => kernel_rfl, by as_aux_lemma => kernel_rfl, by as_aux_lemma => kernel_rfl, by as_aux_lemma => kernel_rfl, by as_aux_lemma => kernel_rfl, by as_aux_lemma => kernel_rfl, trivial⟩
end expr_Check
end
end Go.Q
namespace Go.Q
open Go Go.RowKit
open Go.Rx (br bd sIdx sCat sCut iQuo iRem iShl)
noncomputable section
namespace cond_copied
def l : List ((EX × Unit) × (EX × Unit)) := [((ck_c.c1, ()), (ck_c.c1, ())), ((ck_c.c42, ()), (ck_c.c42, ())), ((ck_c.c3, ()), (ck_c.c3, ())), ((ck_c.c38, ()), (ck_c.c38, ()))]
def f (lf : Nat) (a0 : EX) : Option (EX × Unit) := pick [(.rc false)] l (a0, ())
def E (lf : Nat) : Entry := ⟨[(.rc false)], [(.rc false)], fun x => f lf x.1⟩
def tb (lf : Nat) : List (FuncId × Entry) := []
abbrev an : FuncId → FA := annsL [(203, ⟨annOf [(0, ⟨kx 24 [2, 3, 9, 10, 11], [⟨.ref 2 3, (.rc false), 52⟩], [0]⟩, ⟨kx 24 [2, 3], [⟨.ref 2 3, (.rc false), 52⟩], [0]⟩)], none, []⟩)]
theorem ok (lf : Nat) : Ok 203 (E lf) := okP (an := an) (tb := tb lf) (lf := lf) tN (aoC aoN) (l := l) (fun _ => rfl) (fun _ => rfl) ⟨by as_aux_lemma => kernel_rfl, by as_aux_lemma => kernel_rfl, by as_aux_lemma => kernel_rfl, by as_aux_lemma => kernel_rfl, trivial⟩
end cond_copied
namespace cond_pair
def l : List ((Int × EX × EX × Unit) × (CX × Unit)) := [((3, ck_c.c1, ck_c.c42, ()), (ck_c.c43, ())), ((4, ck_c.c1, ck_c.c3, ()), (ck_c.c47, ())), ((4, ck_c.c38, ck_c.c1, ()), (ck_c.c48, ()))]
def f (lf : Nat) (a0 : Int) (a1 : EX) (a2 : EX) : Option (CX × Unit) := pick [(.int .i64), (.rc false), (.rc false)] l (a0, a1, a2, ())
def E (lf : Nat) : Entry := ⟨[(.int .i64), (.rc false), (.rc false)], [(.rc true)], fun x => f lf x.1 x.2.1 x.2.2.1⟩
def tb (lf : Nat) : List (FuncId × Entry) := [(203, cond_copied.E lf)]
abbrev an : FuncId → FA := annsL []
theorem ok (lf : Nat) : Ok 136 (E lf) := okP (an := an) (tb := tb lf) (lf := lf) (tC (cond_copied.ok lf) tN) aoN (l := l) (fun _ => rfl) (fun _ => rfl) ⟨by as_aux_lemma => kernel_rfl, by as_aux_lemma => kernel_rfl, by as_aux_lemma => kernel_rfl, trivial⟩
end cond_pair
namespace cond_positive
def l : List ((CX × Bool × Unit) × (CX × Unit)) := [((ck_c.c43, false, ()), (ck_c.c43, ())), ((ck_c.c49, false, ()), (ck_c.c49, ()))]
def f (lf : Nat) (a0 : CX) (a1 : Bool) : Option (CX × Unit) := pick [(.rc true), .bool] l (a0, a1, ())
def E (lf : Nat) : Entry := ⟨[(.rc true), .bool], [(.rc true)], fun x => f lf x.1 x.2.1⟩
def tb (lf : Nat) : List (FuncId × Entry) := [(136, cond_pair.E lf)]
abbrev an : FuncId → FA := annsL [(83, ⟨annOf [(0, ⟨kx 82 [1, 4, 6, 34, 35, 36], [⟨.ref 2 2, (.rc true), 64⟩], [0]⟩, ⟨kx 82 [4, 6], [⟨.ref 2 2, (.rc true), 64⟩], [0]⟩)], none, []⟩)]
theorem ok (lf : Nat) : Ok 83 (E lf) := okP (an := an) (tb := tb lf) (lf := lf) (tC (cond_pair.ok lf) tN) (aoC aoN) (l := l) (fun _ => rfl) (fun _ => rfl) ⟨by as_aux_lemma => kernel_rfl, by as_aux_lemma => kernel_rfl, trivial⟩
end cond_positive
namespace cond_Positive
def l : List ((CX × Int × Unit) × (CX × Int × Unit)) := [((ck_c.c43, 2, ()), (ck_c.c43, 0, ())), ((ck_c.c49, 2, ()), (ck_c.c49, 0, ()))]
def f (lf : Nat) (a0 : CX) (a1 : Int) : Option (CX × Int × Unit) := pick [(.rc true), (.int .i64)] l (a0, a1, ())
def E (lf : Nat) : Entry := ⟨[(.rc true), (.int .i64)], [(.rc true), (.int .i64)], fun x => f lf x.1 x.2.1⟩
def tb (lf : Nat) : List (FuncId × Entry) := [(44, expr_Check.E lf), (83, cond_positive.E lf)]
abbrev an : FuncId → FA := annsL [(75, ⟨annOf [(0, ⟨kx 18 [4, 5], [], []⟩, ⟨[], [], []⟩)], none, []⟩), (82, ⟨annOf [(0, ⟨kx 75 [3, 4, 7], [], []⟩, ⟨[], [], []⟩)], none, []⟩)]
theorem ok (lf : Nat) : Ok 50 (E lf) := okP (an := an) (tb := tb lf) (lf := lf) (tC (expr_Check.ok lf) (tC (cond_positive.ok lf) tN)) (aoC (aoC aoN)) (l := l) (fun _ => rfl) (fun _ => rfl) ⟨by as_aux_lemma => kernel_rfl, by as_aux_lemma => kernel_rfl, trivial⟩
end cond_Positive
end
end Go.Q
namespace Go.Q
open Go Go.RowKit
open Go.Rx (br bd sIdx sCat sCut iQuo iRem iShl)
noncomputable section
namespace env_environment_impose
def l0 : List (((List TV) × EX × TV × Unit) × ((List TV) × Bool × Unit)) := [((ck_c.c13, ck_c.c1, ck_c.c32, ()), (ck_c.c35, true, ())), ((ck_c.c35, ck_c.c20, ck_c.c12, ()), (ck_c.c35, true, ())), ((ck_c.c35, ck_c.c26, ck_c.c29, ()), (ck_c.c35, true, ())), ((ck_c.c13, ck_c.c42, ck_c.c44, ()), (ck_c.c13, true, ())), ((ck_c.c13, ck_c.c1, ck_c.c45, ()), (ck_c.c46, true, ())), ((ck_c.c13, ck_c.c1, ck_c.c50, ()), (ck_c.c51, true, ())), ((ck_c.c51, ck_c.c3, ck_c.c14, ()), (ck_c.c51, true, ())), ((ck_c.c13, ck_c.c38, ck_c.c39, ()), (ck_c.c13, true, ())), ((ck_c.c13, ck_c.c1, ck_c.c53, ()), (ck_c.c54, true, ())), ((ck_c.c13, ck_c.c1, ck_c.c60, ()), (ck_c.c61, true, ())), ((ck_c.c61, ck_c.c3, ck_c.c14, ()), (ck_c.c61, true, ())), ((ck_c.c13, ck_c.c1, ck_c.c66, ()), (ck_c.c69, true, ())), ((ck_c.c69, ck_c.c6, ck_c.c17, ()), (ck_c.c69, true, ()))]
def f0 (lf : Nat) (a0 : List TV) (a1 : EX) (a2 : TV) : Option ((List TV) × Bool × Unit) := pick [(.sl yV), (.rc false), yV] l0 (a0, a1, a2, ())
def E0 (lf : Nat) : Entry := ⟨[(.sl yV), (.rc false), yV], [(.sl yV), .bool], fun x => f0 lf x.1 x.2.1 x.2.2.1⟩
def tb0 (lf : Nat) : List (FuncId × Entry) := [(39, value_Check.E lf), (45, env_environment_value.E lf), (57, value_Meet.E lf), (66, api_Value.E lf), (70, value_reduced.E lf), (79, value_Apply.E lf), (89, interval_Check.E lf), (91, interval_of.E lf), (92, interval_finite.E lf), (151, interval_none.E lf), (152, interval_infinite.E lf), (176, interval_span_interval.E lf), (180, congruence_class.E lf), (181, congruence_gcd.E lf), (185, congruence_sub.E lf), (198, interval_span_empty.E lf), (206, value_Single.E lf), (210, bigint_Quo.E lf), (212, bigint_Mul.E lf), (213, bigint_Sub.E lf), (214, bigint_Add.E lf), (220, congruence_none.E lf), (223, congruence_both.E lf), (258, congruence_Top.E lf), (275, value_Make.E lf), (276, interval_Make.E lf)]
abbrev an0 : FuncId → FA := annsL []
theorem ok0 (lf : Nat) : Ok 53 (E0 lf) := okP (an := an0) (tb := tb0 lf) (lf := lf) (tC (value_Check.ok lf) (tC (env_environment_value.ok lf) (tC (value_Meet.ok lf) (tC (api_Value.ok lf) (tC (value_reduced.ok lf) (tC (value_Apply.ok lf) (tC (interval_Check.ok lf) (tC (interval_of.ok lf) (tC (interval_finite.ok lf) (tC (interval_none.ok lf) (tC (interval_infinite.ok lf) (tC (interval_span_interval.ok lf) (tC (congruence_class.ok lf) (tC (congruence_gcd.ok lf) (tC (congruence_sub.ok lf) (tC (interval_span_empty.ok lf) (tC (value_Single.ok lf) (tC (bigint_Quo.ok lf) (tC (bigint_Mul.ok lf) (tC (bigint_Sub.ok lf) (tC (bigint_Add.ok lf) (tC (congruence_none.ok lf) (tC (congruence_both.ok lf) (tC (congruence_Top.ok lf) (tC (value_Make.ok lf) (tC (interval_Make.ok lf) tN)))))))))))))))))))))))))) aoN (l := l0) (fun _ => rfl) (fun _ => rfl) ⟨by as_aux_lemma => kernel_rfl, by as_aux_lemma => kernel_rfl, by as_aux_lemma => kernel_rfl, by as_aux_lemma => kernel_rfl, by as_aux_lemma => kernel_rfl, by as_aux_lemma => kernel_rfl, by as_aux_lemma => kernel_rfl, by as_aux_lemma => kernel_rfl, by as_aux_lemma => kernel_rfl, by as_aux_lemma => kernel_rfl, by as_aux_lemma => kernel_rfl, by as_aux_lemma => kernel_rfl, by as_aux_lemma => kernel_rfl, trivial⟩
def l : List (((List TV) × EX × TV × Unit) × ((List TV) × Bool × Unit)) := [((ck_c.c13, ck_c.c1, ck_c.c32, ()), (ck_c.c35, true, ())), ((ck_c.c35, ck_c.c20, ck_c.c12, ()), (ck_c.c35, true, ())), ((ck_c.c35, ck_c.c26, ck_c.c29, ()), (ck_c.c35, true, ())), ((ck_c.c13, ck_c.c42, ck_c.c44, ()), (ck_c.c13, true, ())), ((ck_c.c13, ck_c.c1, ck_c.c45, ()), (ck_c.c46, true, ())), ((ck_c.c13, ck_c.c1, ck_c.c50, ()), (ck_c.c51, true, ())), ((ck_c.c51, ck_c.c3, ck_c.c14, ()), (ck_c.c51, true, ())), ((ck_c.c13, ck_c.c38, ck_c.c39, ()), (ck_c.c13, true, ())), ((ck_c.c13, ck_c.c1, ck_c.c53, ()), (ck_c.c54, true, ())), ((ck_c.c13, ck_c.c1, ck_c.c60, ()), (ck_c.c61, true, ())), ((ck_c.c61, ck_c.c3, ck_c.c14, ()), (ck_c.c61, true, ())), ((ck_c.c13, ck_c.c1, ck_c.c66, ()), (ck_c.c69, true, ())), ((ck_c.c69, ck_c.c6, ck_c.c17, ()), (ck_c.c69, true, ())), ((ck_c.c13, ck_c.c24, ck_c.c12, ()), (ck_c.c35, true, ())), ((ck_c.c13, ck_c.c58, ck_c.c57, ()), (ck_c.c61, true, ())), ((ck_c.c13, ck_c.c62, ck_c.c12, ()), (ck_c.c69, true, ()))]
def f (lf : Nat) (a0 : List TV) (a1 : EX) (a2 : TV) : Option ((List TV) × Bool × Unit) := pick [(.sl yV), (.rc false), yV] l (a0, a1, a2, ())
def E (lf : Nat) : Entry := ⟨[(.sl yV), (.rc false), yV], [(.sl yV), .bool], fun x => f lf x.1 x.2.1 x.2.2.1⟩
def tb (lf : Nat) : List (FuncId × Entry) := (53, E0 lf) :: [(39, value_Check.E lf), (45, env_environment_value.E lf), (57, value_Meet.E lf), (66, api_Value.E lf), (70, value_reduced.E lf), (79, value_Apply.E lf), (89, interval_Check.E lf), (91, interval_of.E lf), (92, interval_finite.E lf), (151, interval_none.E lf), (152, interval_infinite.E lf), (176, interval_span_interval.E lf), (180, congruence_class.E lf), (181, congruence_gcd.E lf), (185, congruence_sub.E lf), (198, interval_span_empty.E lf), (206, value_Single.E lf), (210, bigint_Quo.E lf), (212, bigint_Mul.E lf), (213, bigint_Sub.E lf), (214, bigint_Add.E lf), (220, congruence_none.E lf), (223, congruence_both.E lf), (258, congruence_Top.E lf), (275, value_Make.E lf), (276, interval_Make.E lf)]
abbrev an : FuncId → FA := annsL [(53, ⟨annOf [], none, [13]⟩)]
theorem ok (lf : Nat) : Ok 53 (E lf) := okP (an := an) (tb := tb lf) (lf := lf) (tC (ok0 lf) (tC (value_Check.ok lf) (tC (env_environment_value.ok lf) (tC (value_Meet.ok lf) (tC (api_Value.ok lf) (tC (value_reduced.ok lf) (tC (value_Apply.ok lf) (tC (interval_Check.ok lf) (tC (interval_of.ok lf) (tC (interval_finite.ok lf) (tC (interval_none.ok lf) (tC (interval_infinite.ok lf) (tC (interval_span_interval.ok lf) (tC (congruence_class.ok lf) (tC (congruence_gcd.ok lf) (tC (congruence_sub.ok lf) (tC (interval_span_empty.ok lf) (tC (value_Single.ok lf) (tC (bigint_Quo.ok lf) (tC (bigint_Mul.ok lf) (tC (bigint_Sub.ok lf) (tC (bigint_Add.ok lf) (tC (congruence_none.ok lf) (tC (congruence_both.ok lf) (tC (congruence_Top.ok lf) (tC (value_Make.ok lf) (tC (interval_Make.ok lf) tN))))))))))))))))))))))))))) (aoC aoN) (l := l) (fun _ => rfl) (fun _ => rfl) ⟨by as_aux_lemma => kernel_rfl, by as_aux_lemma => kernel_rfl, by as_aux_lemma => kernel_rfl, by as_aux_lemma => kernel_rfl, by as_aux_lemma => kernel_rfl, by as_aux_lemma => kernel_rfl, by as_aux_lemma => kernel_rfl, by as_aux_lemma => kernel_rfl, by as_aux_lemma => kernel_rfl, by as_aux_lemma => kernel_rfl, by as_aux_lemma => kernel_rfl, by as_aux_lemma => kernel_rfl, by as_aux_lemma => kernel_rfl, by as_aux_lemma => kernel_rfl, by as_aux_lemma => kernel_rfl, by as_aux_lemma => kernel_rfl, trivial⟩
end env_environment_impose
namespace env_environment_test
def l : List (((List TV) × Int × EX × EX × Unit) × ((List TV) × Bool × Unit)) := [((ck_c.c13, 4, ck_c.c24, ck_c.c26, ()), (ck_c.c35, true, ())), ((ck_c.c13, 2, ck_c.c36, ck_c.c38, ()), (ck_c.c41, false, ())), ((ck_c.c13, 4, ck_c.c1, ck_c.c42, ()), (ck_c.c41, false, ())), ((ck_c.c13, 4, ck_c.c42, ck_c.c1, ()), (ck_c.c46, true, ())), ((ck_c.c13, 4, ck_c.c1, ck_c.c3, ()), (ck_c.c51, true, ())), ((ck_c.c13, 4, ck_c.c38, ck_c.c1, ()), (ck_c.c54, true, ()))]
def f (lf : Nat) (a0 : List TV) (a1 : Int) (a2 : EX) (a3 : EX) : Option ((List TV) × Bool × Unit) := pick [(.sl yV), (.int .i64), (.rc false), (.rc false)] l (a0, a1, a2, a3, ())
def E (lf : Nat) : Entry := ⟨[(.sl yV), (.int .i64), (.rc false), (.rc false)], [(.sl yV), .bool], fun x => f lf x.1 x.2.1 x.2.2.1 x.2.2.2.1⟩
def tb (lf : Nat) : List (FuncId × Entry) := [(45, env_environment_value.E lf), (53, env_environment_impose.E lf), (81, value_Refine.E lf)]
abbrev an : FuncId → FA := annsL []
theorem ok (lf : Nat) : Ok 49 (E lf) := okP (an := an) (tb := tb lf) (lf := lf) (tC (env_environment_value.ok lf) (tC (env_environment_impose.ok lf) (tC (value_Refine.ok lf) tN))) aoN (l := l) (fun _ => rfl) (fun _ => rfl) ⟨by as_aux_lemma => kernel_rfl, by as_aux_lemma => kernel_rfl, by as_aux_lemma => kernel_rfl, by as_aux_lemma => kernel_rfl, by as_aux_lemma => kernel_rfl, by as_aux_lemma => kernel_rfl, trivial⟩
end env_environment_test
namespace env_environment_assume
def l : List (((List TV) × CX × Unit) × ((List TV) × Bool × Unit)) := [((ck_c.c13, ck_c.c43, ()), (ck_c.c46, true, ())), ((ck_c.c13, ck_c.c47, ()), (ck_c.c51, true, ())), ((ck_c.c13, ck_c.c48, ()), (ck_c.c54, true, ())), ((ck_c.c13, ck_c.c49, ()), (ck_c.c13, true, ()))]
def f (lf : Nat) (a0 : List TV) (a1 : CX) : Option ((List TV) × Bool × Unit) := pick [(.sl yV), (.rc true)] l (a0, a1, ())
def E (lf : Nat) : Entry := ⟨[(.sl yV), (.rc true)], [(.sl yV), .bool], fun x => f lf x.1 x.2.1⟩
def tb (lf : Nat) : List (FuncId × Entry) := [(49, env_environment_test.E lf), (66, api_Value.E lf), (137, value_Join.E lf)]
abbrev an : FuncId → FA := annsL [(56, ⟨annOf [(0, ⟨kx 38 [0, 1, 2, 8, 12, 13], [⟨.tmp 8, yV, 47⟩], []⟩, ⟨kx 38 [6, 7, 8], [⟨.tmp 8, yV, 47⟩], []⟩)], none, []⟩)]
theorem ok (lf : Nat) : Ok 51 (E lf) := okP (an := an) (tb := tb lf) (lf := lf) (tC (env_environment_test.ok lf) (tC (api_Value.ok lf) (tC (value_Join.ok lf) tN))) (aoC aoN) (l := l) (fun _ => rfl) (fun _ => rfl) ⟨by as_aux_lemma => kernel_rfl, by as_aux_lemma => kernel_rfl, by as_aux_lemma => kernel_rfl, by as_aux_lemma => kernel_rfl, trivial⟩
end env_environment_assume
namespace env_Eval
def l : List (((List TV) × EX × Unit) × (TV × Int × Unit)) := [((ck_c.c13, ck_c.c7, ()), (ck_c.c19, 0, ())), ((ck_c.c13, ck_c.c56, ()), (ck_c.c57, 0, ()))]
def f (lf : Nat) (a0 : List TV) (a1 : EX) : Option (TV × Int × Unit) := pick [(.sl yV), (.rc false)] l (a0, a1, ())
def E (lf : Nat) : Entry := ⟨[(.sl yV), (.rc false)], [yV, (.int .i64)], fun x => f lf x.1 x.2.1⟩
def tb (lf : Nat) : List (FuncId × Entry) := [(13, env_Check.E lf), (44, expr_Check.E lf), (45, env_environment_value.E lf)]
abbrev an : FuncId → FA := annsL []
theorem ok (lf : Nat) : Ok 21 (E lf) := okP (an := an) (tb := tb lf) (lf := lf) (tC (env_Check.ok lf) (tC (expr_Check.ok lf) (tC (env_environment_value.ok lf) tN))) aoN (l := l) (fun _ => rfl) (fun _ => rfl) ⟨by as_aux_lemma => kernel_rfl, by as_aux_lemma => kernel_rfl, trivial⟩
end env_Eval
namespace env_Assign
def l : List (((List TV) × Int × EX × Unit) × ((List TV) × Bool × Int × Unit)) := [((ck_c.c13, 0, ck_c.c21, ()), (ck_c.c23, true, 0, ()))]
def f (lf : Nat) (a0 : List TV) (a1 : Int) (a2 : EX) : Option ((List TV) × Bool × Int × Unit) := pick [(.sl yV), (.int .i64), (.rc false)] l (a0, a1, a2, ())
def E (lf : Nat) : Entry := ⟨[(.sl yV), (.int .i64), (.rc false)], [(.sl yV), .bool, (.int .i64)], fun x => f lf x.1 x.2.1 x.2.2.1⟩
def tb (lf : Nat) : List (FuncId × Entry) := [(13, env_Check.E lf), (44, expr_Check.E lf), (45, env_environment_value.E lf)]
abbrev an : FuncId → FA := annsL []
theorem ok (lf : Nat) : Ok 23 (E lf) := okP (an := an) (tb := tb lf) (lf := lf) (tC (env_Check.ok lf) (tC (expr_Check.ok lf) (tC (env_environment_value.ok lf) tN))) aoN (l := l) (fun _ => rfl) (fun _ => rfl) ⟨by as_aux_lemma => kernel_rfl, trivial⟩
end env_Assign
namespace env_Test
def l : List (((List TV) × Int × EX × EX × Unit) × ((List TV) × Bool × Int × Unit)) := [((ck_c.c13, 4, ck_c.c24, ck_c.c26, ()), (ck_c.c35, true, 0, ())), ((ck_c.c13, 2, ck_c.c36, ck_c.c38, ()), (ck_c.c41, false, 0, ()))]
def f (lf : Nat) (a0 : List TV) (a1 : Int) (a2 : EX) (a3 : EX) : Option ((List TV) × Bool × Int × Unit) := pick [(.sl yV), (.int .i64), (.rc false), (.rc false)] l (a0, a1, a2, a3, ())
def E (lf : Nat) : Entry := ⟨[(.sl yV), (.int .i64), (.rc false), (.rc false)], [(.sl yV), .bool, (.int .i64)], fun x => f lf x.1 x.2.1 x.2.2.1 x.2.2.2.1⟩
def tb (lf : Nat) : List (FuncId × Entry) := [(13, env_Check.E lf), (44, expr_Check.E lf), (49, env_environment_test.E lf)]
abbrev an : FuncId → FA := annsL []
theorem ok (lf : Nat) : Ok 24 (E lf) := okP (an := an) (tb := tb lf) (lf := lf) (tC (env_Check.ok lf) (tC (expr_Check.ok lf) (tC (env_environment_test.ok lf) tN))) aoN (l := l) (fun _ => rfl) (fun _ => rfl) ⟨by as_aux_lemma => kernel_rfl, by as_aux_lemma => kernel_rfl, trivial⟩
end env_Test
namespace env_Assume
def l : List (((List TV) × CX × Unit) × ((List TV) × Bool × Int × Unit)) := [((ck_c.c13, ck_c.c43, ()), (ck_c.c46, true, 0, ())), ((ck_c.c13, ck_c.c49, ()), (ck_c.c13, true, 0, ()))]
def f (lf : Nat) (a0 : List TV) (a1 : CX) : Option ((List TV) × Bool × Int × Unit) := pick [(.sl yV), (.rc true)] l (a0, a1, ())
def E (lf : Nat) : Entry := ⟨[(.sl yV), (.rc true)], [(.sl yV), .bool, (.int .i64)], fun x => f lf x.1 x.2.1⟩
def tb (lf : Nat) : List (FuncId × Entry) := [(13, env_Check.E lf), (50, cond_Positive.E lf), (51, env_environment_assume.E lf)]
abbrev an : FuncId → FA := annsL []
theorem ok (lf : Nat) : Ok 25 (E lf) := okP (an := an) (tb := tb lf) (lf := lf) (tC (env_Check.ok lf) (tC (cond_Positive.ok lf) (tC (env_environment_assume.ok lf) tN))) aoN (l := l) (fun _ => rfl) (fun _ => rfl) ⟨by as_aux_lemma => kernel_rfl, by as_aux_lemma => kernel_rfl, trivial⟩
end env_Assume
end
end Go.Q
