import Derived.Test.YthfphcemoehllaaGreatDoorProg
import Derived.KernelRfl
import Derived.Test.YthfphcemoehllaaGreatDoorCoG15
import Derived.Test.YthfphcemoehllaaGreatDoorCoG6
import Derived.Test.YthfphcemoehllaaGreatDoorCoG8
import Derived.Test.YthfphcemoehllaaGreatDoorE3
set_option linter.unusedVariables false
set_option linter.unusedSimpArgs false
set_option linter.unusedSectionVars false
namespace Go.Q
open Go.IntKind (i64)
open Go Go.RowKit
open Go.Rx (br bd sIdx sCat sCut iQuo iRem)
set_option linter.unusedVariables false
set_option linter.unusedSimpArgs false
set_option maxRecDepth 100000
noncomputable section
namespace surveyorref21_Times
noncomputable def anns : FuncId → FA := annsL [(131, ⟨annOf [(0, ⟨kx 65 [4, 5, 6, 7, 8], [], [0, 1]⟩, ⟨kx 65 [4, 5], [], [0, 1]⟩), (1, ⟨kx 65 [4, 5, 6, 7, 8, 9], [], []⟩, ⟨kx 65 [4, 5, 6, 7, 8], [], []⟩)], none, []⟩)]
noncomputable def r1 {ρ : Type} (lf : Nat) (v0 v1 : List (Bool × (ByteArray × (ByteArray × Unit)))) (v2 : Int) (v4 : Bool) (v5 v6 : ByteArray) (v3 : Int) (v7 : Bool) (v8 v9 : ByteArray) (K : Int → Bool → ByteArray → ByteArray → Option ρ) (E0 : Bool → ByteArray → ByteArray → Option ρ) : Option ρ :=
 br (decide (v3 < 3)) (
 bd (idxL v0 v2) fun y4 =>
 br y4.1 (
 K (i64.wrap (v3 + 1)) v7 v8 v9) (
 bd (idxL v1 v3) fun y5 =>
 br y5.1 (
 K (i64.wrap (v3 + 1)) v7 v8 v9) (
 bd (surveyorref21_One.f lf (⟨#[48]⟩ : ByteArray)) fun r6 =>
 br (v2 != 1) (
 br (v3 != 1) (
 bd (idxL v0 v2) fun y7 =>
 bd (surveyorref21_positive.f lf y7 v2) fun r8 =>
 bd (idxL v1 v3) fun y9 =>
 bd (surveyorref21_positive.f lf y9 v3) fun r10 =>
 bd (surveyorref21_product.f lf r8.1 r10.1) fun r11 =>
 br (v2 != v3) (
 bd (surveyorref21_Turned.f lf r11.1) fun r12 =>
 bd (surveyorref21_Joined.f lf (v7, v8, v9, ()) r12.1) fun r13 =>
 K (i64.wrap (v3 + 1)) r13.1.1 r13.1.2.1 r13.1.2.2.1) (
 bd (surveyorref21_Joined.f lf (v7, v8, v9, ()) r11.1) fun r14 =>
 K (i64.wrap (v3 + 1)) r14.1.1 r14.1.2.1 r14.1.2.2.1)) (
 bd (surveyorref21_Joined.f lf (v7, v8, v9, ()) r6.1) fun r15 =>
 K (i64.wrap (v3 + 1)) r15.1.1 r15.1.2.1 r15.1.2.2.1)) (
 bd (surveyorref21_Joined.f lf (v7, v8, v9, ()) r6.1) fun r16 =>
 K (i64.wrap (v3 + 1)) r16.1.1 r16.1.2.1 r16.1.2.2.1)))) (
 E0 v7 v8 v9)
noncomputable def l1 (lf : Nat) (v0 v1 : List (Bool × (ByteArray × (ByteArray × Unit)))) (v2 : Int) (v4 : Bool) (v5 v6 : ByteArray) : Nat → Int → Bool → ByteArray → ByteArray → Option ((Bool × ByteArray × ByteArray × Unit) × Unit)
 | 0, _, _, _, _ => none
 | n + 1, v3, v7, v8, v9 => r1 lf v0 v1 v2 v4 v5 v6 v3 v7 v8 v9 (l1 lf v0 v1 v2 v4 v5 v6 n) (fun w0 w1 w2 => some ((w0, w1, w2, ()), ()))
noncomputable def sh1 : ShS := ⟨[.a 4, .s (.ptr 2 0), .s (.ptr 3 0), .s (.sl (.pair .bool (.pair .str (.pair .str .unit)))), .s (.sl (.pair .bool (.pair .str (.pair .str .unit)))), .s (.int .i64), .s (.int .i64), .a 55], [.gone, .gone, .cells [.s .bool, .s .str, .s .str] 24, .cells [.s .bool, .s .str, .s .str] 24]⟩
noncomputable def S1 (p : (List (Bool × (ByteArray × (ByteArray × Unit)))) × (List (Bool × (ByteArray × (ByteArray × Unit)))) × Int × Int × Bool × ByteArray × ByteArray × Bool × ByteArray × ByteArray × Unit) : St := sh1.b p
noncomputable def xh0 : ShS := ⟨[.a 4, .s (.ptr 2 0), .s (.ptr 3 0), .s (.sl (.pair .bool (.pair .str (.pair .str .unit)))), .s (.sl (.pair .bool (.pair .str (.pair .str .unit)))), .s (.int .i64), .a 56], [.gone, .gone, .cells [.s .bool, .s .str, .s .str] 24, .cells [.s .bool, .s .str, .s .str] 24]⟩
noncomputable def o1 (v0 v1 : List (Bool × (ByteArray × (ByteArray × Unit)))) (v2 : Int) (v4 : Bool) (v5 v6 : ByteArray) (y : (Bool × ByteArray × ByteArray × Unit) × Unit) : Alt := .one (.exit 2) (xh0.b (v0, v1, v2, v4, v5, v6, y.1.1, y.1.2.1, y.1.2.2.1, ()))
noncomputable def r0 {ρ : Type} (lf : Nat) (v0 v1 : List (Bool × (ByteArray × (ByteArray × Unit)))) (v3 : Bool) (v4 v5 : ByteArray) (v2 : Int) (v6 : Bool) (v7 v8 : ByteArray) (K : Int → Bool → ByteArray → ByteArray → Option ρ) (E0 : Bool → ByteArray → ByteArray → Option ρ) : Option ρ :=
 br (decide (v2 < 3)) (
 bd (l1 lf v0 v1 v2 v3 v4 v5 (lf + 40) 0 v6 v7 v8) fun z17 =>
 K (i64.wrap (v2 + 1)) z17.1.1 z17.1.2.1 z17.1.2.2.1) (
 E0 v6 v7 v8)
noncomputable def l0 (lf : Nat) (v0 v1 : List (Bool × (ByteArray × (ByteArray × Unit)))) (v3 : Bool) (v4 v5 : ByteArray) : Nat → Int → Bool → ByteArray → ByteArray → Option ((Bool × ByteArray × ByteArray × Unit) × Unit)
 | 0, _, _, _, _ => none
 | n + 1, v2, v6, v7, v8 => r0 lf v0 v1 v3 v4 v5 v2 v6 v7 v8 (l0 lf v0 v1 v3 v4 v5 n) (fun w0 w1 w2 => some ((w0, w1, w2, ()), ()))
noncomputable def sh0 : ShS := ⟨[.a 4, .s (.ptr 2 0), .s (.ptr 3 0), .s (.sl (.pair .bool (.pair .str (.pair .str .unit)))), .s (.sl (.pair .bool (.pair .str (.pair .str .unit)))), .s (.int .i64), .a 56], [.gone, .gone, .cells [.s .bool, .s .str, .s .str] 24, .cells [.s .bool, .s .str, .s .str] 24]⟩
noncomputable def S0 (p : (List (Bool × (ByteArray × (ByteArray × Unit)))) × (List (Bool × (ByteArray × (ByteArray × Unit)))) × Int × Bool × ByteArray × ByteArray × Bool × ByteArray × ByteArray × Unit) : St := sh0.b p
noncomputable def xh1 : ShS := ⟨[.a 4, .s (.ptr 2 0), .s (.ptr 3 0), .a 59], [.gone, .gone, .cells [.s .bool, .s .str, .s .str] 24, .cells [.s .bool, .s .str, .s .str] 24]⟩
noncomputable def o0 (v0 v1 : List (Bool × (ByteArray × (ByteArray × Unit)))) (v3 : Bool) (v4 v5 : ByteArray) (y : (Bool × ByteArray × ByteArray × Unit) × Unit) : Alt := .one (.exit 0) (xh1.b (v3, v4, v5, y.1.1, y.1.2.1, y.1.2.2.1, ()))
noncomputable def tb (lf : Nat) : List (FuncId × Entry) := [(79, surveyorref21_Joined.E lf), (82, surveyorref21_Turned.E lf), (107, surveyorref21_None.E lf), (164, surveyorref21_split.E lf), (165, surveyorref21_One.E lf), (166, surveyorref21_product.E lf), (167, surveyorref21_positive.E lf)]
noncomputable def s13_131 (lf : Nat) : List (Nat × (St → Option LTE)) := [(0, sumE sh0 fun (p : (List (Bool × (ByteArray × (ByteArray × Unit)))) × (List (Bool × (ByteArray × (ByteArray × Unit)))) × Int × Bool × ByteArray × ByteArray × Bool × ByteArray × ByteArray × Unit) => ⟨(Bool × ByteArray × ByteArray × Unit) × Unit, l0 lf p.1 p.2.1 p.2.2.2.1 p.2.2.2.2.1 p.2.2.2.2.2.1 (lf + 40) p.2.2.1 p.2.2.2.2.2.2.1 p.2.2.2.2.2.2.2.1 p.2.2.2.2.2.2.2.2.1, o0 p.1 p.2.1 p.2.2.2.1 p.2.2.2.2.1 p.2.2.2.2.2.1⟩),
 (1, sumE sh1 fun (p : (List (Bool × (ByteArray × (ByteArray × Unit)))) × (List (Bool × (ByteArray × (ByteArray × Unit)))) × Int × Int × Bool × ByteArray × ByteArray × Bool × ByteArray × ByteArray × Unit) => ⟨(Bool × ByteArray × ByteArray × Unit) × Unit, l1 lf p.1 p.2.1 p.2.2.1 p.2.2.2.2.1 p.2.2.2.2.2.1 p.2.2.2.2.2.2.1 (lf + 40) p.2.2.2.1 p.2.2.2.2.2.2.2.1 p.2.2.2.2.2.2.2.2.1 p.2.2.2.2.2.2.2.2.2.1, o1 p.1 p.2.1 p.2.2.1 p.2.2.2.2.1 p.2.2.2.2.2.1 p.2.2.2.2.2.2.1⟩)]
noncomputable def ls (lf : Nat) : List (Nat × FuncId × Sums) := [(13, 131, sumsL (s13_131 lf))]
noncomputable def it1 {ρ : Type} (lf n : Nat) (st : St) (k : KE ρ) : Option ρ := itG anns (ls lf) (tb lf) lf 13 131 1 4 (sumsL (s13_131 lf)) n st k
theorem t1 {ρ : Type} (lf n : Nat) (v0 v1 : List (Bool × (ByteArray × (ByteArray × Unit)))) (v2 v3 : Int) (v4 : Bool) (v5 v6 : ByteArray) (v7 : Bool) (v8 v9 : ByteArray) (k : KE ρ) : it1 lf (n + 1) (S1 (v0, v1, v2, v3, v4, v5, v6, v7, v8, v9, ())) k = r1 lf v0 v1 v2 v4 v5 v6 v3 v7 v8 v9 (fun x0 x1 x2 x3 => it1 lf n (S1 (v0, v1, v2, x0, v4, v5, v6, x1, x2, x3, ())) k) (fun w0 w1 w2 => k (.exit 2) (xh0.b (v0, v1, v2, v4, v5, v6, w0, w1, w2, ()))) := by kernel_rfl
theorem u1 {ρ : Type} (lf : Nat) (v0 v1 : List (Bool × (ByteArray × (ByteArray × Unit)))) (v2 : Int) (v4 : Bool) (v5 v6 : ByteArray) (k : KE ρ) : ∀ (n : Nat) (v3 : Int) (v7 : Bool) (v8 v9 : ByteArray), it1 lf n (S1 (v0, v1, v2, v3, v4, v5, v6, v7, v8, v9, ())) k = bd (l1 lf v0 v1 v2 v4 v5 v6 n v3 v7 v8 v9) fun y => altK k (o1 v0 v1 v2 v4 v5 v6 y)
 | 0, _, _, _, _ => by rw [l1, bd_none]; rfl
 | n + 1, v3, v7, v8, v9 => by
  rw [t1]; simp only [l1, r1, u1 lf v0 v1 v2 v4 v5 v6 k n, bd_br, bd_bd, bd_some', bd_none, br_t, br_f, o1, altK]
noncomputable def it0 {ρ : Type} (lf n : Nat) (st : St) (k : KE ρ) : Option ρ := itG anns (ls lf) (tb lf) lf 13 131 0 4 (sumsL (s13_131 lf)) n st k
theorem t0 {ρ : Type} (lf n : Nat) (v0 v1 : List (Bool × (ByteArray × (ByteArray × Unit)))) (v2 : Int) (v3 : Bool) (v4 v5 : ByteArray) (v6 : Bool) (v7 v8 : ByteArray) (k : KE ρ) : it0 lf (n + 1) (S0 (v0, v1, v2, v3, v4, v5, v6, v7, v8, ())) k = r0 lf v0 v1 v3 v4 v5 v2 v6 v7 v8 (fun x0 x1 x2 x3 => it0 lf n (S0 (v0, v1, x0, v3, v4, v5, x1, x2, x3, ())) k) (fun w0 w1 w2 => k (.exit 0) (xh1.b (v3, v4, v5, w0, w1, w2, ()))) := by kernel_rfl
theorem u0 {ρ : Type} (lf : Nat) (v0 v1 : List (Bool × (ByteArray × (ByteArray × Unit)))) (v3 : Bool) (v4 v5 : ByteArray) (k : KE ρ) : ∀ (n : Nat) (v2 : Int) (v6 : Bool) (v7 v8 : ByteArray), it0 lf n (S0 (v0, v1, v2, v3, v4, v5, v6, v7, v8, ())) k = bd (l0 lf v0 v1 v3 v4 v5 n v2 v6 v7 v8) fun y => altK k (o0 v0 v1 v3 v4 v5 y)
 | 0, _, _, _, _ => by rw [l0, bd_none]; rfl
 | n + 1, v2, v6, v7, v8 => by
  rw [t0]; simp only [l0, r0, u0 lf v0 v1 v3 v4 v5 k n, bd_br, bd_bd, bd_some', bd_none, br_t, br_f, o0, altK]
theorem sl (lf : Nat) : SL anns (ls lf) (tb lf) lf (ls lf) := slC (laC (fun _ => by kernel_rfl) (fun _ (x : (List (Bool × (ByteArray × (ByteArray × Unit)))) × (List (Bool × (ByteArray × (ByteArray × Unit)))) × Int × Bool × ByteArray × ByteArray × Bool × ByteArray × ByteArray × Unit) k => leq_of (u0 lf x.1 x.2.1 x.2.2.2.1 x.2.2.2.2.1 x.2.2.2.2.2.1 k (lf + 40) x.2.2.1 x.2.2.2.2.2.2.1 x.2.2.2.2.2.2.2.1 x.2.2.2.2.2.2.2.2.1)) (laC (fun _ => by kernel_rfl) (fun _ (x : (List (Bool × (ByteArray × (ByteArray × Unit)))) × (List (Bool × (ByteArray × (ByteArray × Unit)))) × Int × Int × Bool × ByteArray × ByteArray × Bool × ByteArray × ByteArray × Unit) k => leq_of (u1 lf x.1 x.2.1 x.2.2.1 x.2.2.2.2.1 x.2.2.2.2.2.1 x.2.2.2.2.2.2.1 k (lf + 40) x.2.2.2.1 x.2.2.2.2.2.2.2.1 x.2.2.2.2.2.2.2.2.1 x.2.2.2.2.2.2.2.2.2.1)) laN)) slN
noncomputable def f (lf : Nat) (a0 : Bool × (ByteArray × (ByteArray × Unit))) (a1 : Bool × (ByteArray × (ByteArray × Unit))) : Option ((Bool × (ByteArray × (ByteArray × Unit))) × Unit) :=
 bd (surveyorref21_None.f lf) fun r1 =>
 bd (surveyorref21_split.f lf a0) fun r2 =>
 bd (surveyorref21_split.f lf a1) fun r3 =>
 bd (l0 lf r2.1 r3.1 false (⟨#[]⟩ : ByteArray) (⟨#[]⟩ : ByteArray) (lf + 40) 0 r1.1.1 r1.1.2.1 r1.1.2.2.1) fun z18 =>
 some (z18.1, ())
noncomputable def E (lf : Nat) : Entry := ⟨[(.pair .bool (.pair .str (.pair .str .unit))), (.pair .bool (.pair .str (.pair .str .unit)))], [(.pair .bool (.pair .str (.pair .str .unit)))], fun x => f lf x.1 x.2.1⟩
theorem ok (lf : Nat) : Ok 131 (E lf) := okL (tC (surveyorref21_Joined.ok lf) (tC (surveyorref21_Turned.ok lf) (tC (surveyorref21_None.ok lf) (tC (surveyorref21_split.ok lf) (tC (surveyorref21_One.ok lf) (tC (surveyorref21_product.ok lf) (tC (surveyorref21_positive.ok lf) tN))))))) (aoC aoN) (sl lf) fun x => by kernel_rfl
end surveyorref21_Times
namespace surveyorref21_quotients
noncomputable def f (lf : Nat) (a0 : Bool × (ByteArray × (ByteArray × Unit))) (a1 : Bool × (ByteArray × (ByteArray × Unit))) : Option ((Bool × (ByteArray × (ByteArray × Unit))) × Unit) :=
 br a0.1 (
 bd (surveyorref21_None.f lf) fun r1 =>
 some (r1.1, ())) (
 br a1.1 (
 bd (surveyorref21_None.f lf) fun r2 =>
 some (r2.1, ())) (
 br (!(a0.2.1.toList == (⟨#[]⟩ : ByteArray).toList)) (
 bd (surveyorref01_Sign.f lf a0.2.1) fun r3 =>
 br (decide (r3.1 < 0)) (
 bd (surveyorref01_Floor.f lf a0.2.1 a1.2.1) fun r4 =>
 br (!(a0.2.2.1.toList == (⟨#[]⟩ : ByteArray).toList)) (
 bd (surveyorref01_Sign.f lf a0.2.2.1) fun r5 =>
 br (decide (r5.1 ≥ 0)) (
 bd (surveyorref01_Floor.f lf a0.2.2.1 a1.2.1) fun r6 =>
 bd (surveyorref21_Range.f lf r4.1 r6.1) fun r7 =>
 some (r7.1, ())) (
 br (!(a1.2.2.1.toList == (⟨#[]⟩ : ByteArray).toList)) (
 bd (surveyorref01_Floor.f lf a0.2.2.1 a1.2.2.1) fun r8 =>
 bd (surveyorref21_Range.f lf r4.1 r8.1) fun r9 =>
 some (r9.1, ())) (
 bd (surveyorref21_Range.f lf r4.1 (⟨#[45, 49]⟩ : ByteArray)) fun r10 =>
 some (r10.1, ())))) (
 bd (surveyorref21_Range.f lf r4.1 a0.2.2.1) fun r11 =>
 some (r11.1, ()))) (
 br (!(a1.2.2.1.toList == (⟨#[]⟩ : ByteArray).toList)) (
 bd (surveyorref01_Floor.f lf a0.2.1 a1.2.2.1) fun r12 =>
 br (!(a0.2.2.1.toList == (⟨#[]⟩ : ByteArray).toList)) (
 bd (surveyorref01_Sign.f lf a0.2.2.1) fun r13 =>
 br (decide (r13.1 ≥ 0)) (
 bd (surveyorref01_Floor.f lf a0.2.2.1 a1.2.1) fun r14 =>
 bd (surveyorref21_Range.f lf r12.1 r14.1) fun r15 =>
 some (r15.1, ())) (
 br (!(a1.2.2.1.toList == (⟨#[]⟩ : ByteArray).toList)) (
 bd (surveyorref01_Floor.f lf a0.2.2.1 a1.2.2.1) fun r16 =>
 bd (surveyorref21_Range.f lf r12.1 r16.1) fun r17 =>
 some (r17.1, ())) (
 bd (surveyorref21_Range.f lf r12.1 (⟨#[45, 49]⟩ : ByteArray)) fun r18 =>
 some (r18.1, ())))) (
 bd (surveyorref21_Range.f lf r12.1 a0.2.2.1) fun r19 =>
 some (r19.1, ()))) (
 br (!(a0.2.2.1.toList == (⟨#[]⟩ : ByteArray).toList)) (
 bd (surveyorref01_Sign.f lf a0.2.2.1) fun r20 =>
 br (decide (r20.1 ≥ 0)) (
 bd (surveyorref01_Floor.f lf a0.2.2.1 a1.2.1) fun r21 =>
 bd (surveyorref21_Range.f lf (⟨#[48]⟩ : ByteArray) r21.1) fun r22 =>
 some (r22.1, ())) (
 br (!(a1.2.2.1.toList == (⟨#[]⟩ : ByteArray).toList)) (
 bd (surveyorref01_Floor.f lf a0.2.2.1 a1.2.2.1) fun r23 =>
 bd (surveyorref21_Range.f lf (⟨#[48]⟩ : ByteArray) r23.1) fun r24 =>
 some (r24.1, ())) (
 bd (surveyorref21_Range.f lf (⟨#[48]⟩ : ByteArray) (⟨#[45, 49]⟩ : ByteArray)) fun r25 =>
 some (r25.1, ())))) (
 bd (surveyorref21_Range.f lf (⟨#[48]⟩ : ByteArray) a0.2.2.1) fun r26 =>
 some (r26.1, ()))))) (
 br (!(a0.2.2.1.toList == (⟨#[]⟩ : ByteArray).toList)) (
 bd (surveyorref01_Sign.f lf a0.2.2.1) fun r27 =>
 br (decide (r27.1 ≥ 0)) (
 bd (surveyorref01_Floor.f lf a0.2.2.1 a1.2.1) fun r28 =>
 bd (surveyorref21_Range.f lf a0.2.1 r28.1) fun r29 =>
 some (r29.1, ())) (
 br (!(a1.2.2.1.toList == (⟨#[]⟩ : ByteArray).toList)) (
 bd (surveyorref01_Floor.f lf a0.2.2.1 a1.2.2.1) fun r30 =>
 bd (surveyorref21_Range.f lf a0.2.1 r30.1) fun r31 =>
 some (r31.1, ())) (
 bd (surveyorref21_Range.f lf a0.2.1 (⟨#[45, 49]⟩ : ByteArray)) fun r32 =>
 some (r32.1, ())))) (
 bd (surveyorref21_Range.f lf a0.2.1 a0.2.2.1) fun r33 =>
 some (r33.1, ())))))
noncomputable def E (lf : Nat) : Entry := ⟨[(.pair .bool (.pair .str (.pair .str .unit))), (.pair .bool (.pair .str (.pair .str .unit)))], [(.pair .bool (.pair .str (.pair .str .unit)))], fun x => f lf x.1 x.2.1⟩
theorem ok (lf : Nat) : Ok 168 (E lf) := okT (an := (annsL [])) (lf := lf) (tC (surveyorref21_Range.ok lf) (tC (surveyorref21_None.ok lf) (tC (surveyorref01_Sign.ok lf) (tC (surveyorref01_Floor.ok lf) tN)))) aoN fun x => by kernel_rfl
end surveyorref21_quotients
namespace surveyorref21_Over
noncomputable def f (lf : Nat) (a0 : Bool × (ByteArray × (ByteArray × Unit))) (a1 : Bool × (ByteArray × (ByteArray × Unit))) : Option ((Bool × (ByteArray × (ByteArray × Unit))) × Unit) :=
 bd (surveyorref21_split.f lf a1) fun r1 =>
 bd (idxL r1.1 2) fun y2 =>
 bd (surveyorref21_quotients.f lf a0 y2) fun r3 =>
 bd (surveyorref21_Turned.f lf a0) fun r4 =>
 bd (idxL r1.1 0) fun y5 =>
 bd (surveyorref21_Turned.f lf y5) fun r6 =>
 bd (surveyorref21_quotients.f lf r4.1 r6.1) fun r7 =>
 bd (surveyorref21_Joined.f lf r3.1 r7.1) fun r8 =>
 some (r8.1, ())
noncomputable def E (lf : Nat) : Entry := ⟨[(.pair .bool (.pair .str (.pair .str .unit))), (.pair .bool (.pair .str (.pair .str .unit)))], [(.pair .bool (.pair .str (.pair .str .unit)))], fun x => f lf x.1 x.2.1⟩
theorem ok (lf : Nat) : Ok 132 (E lf) := okT (an := (annsL [])) (lf := lf) (tC (surveyorref21_Joined.ok lf) (tC (surveyorref21_Turned.ok lf) (tC (surveyorref21_split.ok lf) (tC (surveyorref21_quotients.ok lf) tN)))) aoN fun x => by kernel_rfl
end surveyorref21_Over
namespace surveyorref21_remainders
noncomputable def f (lf : Nat) (a0 : Bool × (ByteArray × (ByteArray × Unit))) (a1 : Bool × (ByteArray × (ByteArray × Unit))) : Option ((Bool × (ByteArray × (ByteArray × Unit))) × Unit) :=
 br a0.1 (
 bd (surveyorref21_None.f lf) fun r1 =>
 some (r1.1, ())) (
 br a1.1 (
 bd (surveyorref21_None.f lf) fun r2 =>
 some (r2.1, ())) (
 br (a1.2.1.toList == a1.2.2.1.toList) (
 br (!(a0.2.1.toList == (⟨#[]⟩ : ByteArray).toList)) (
 br (!(a0.2.2.1.toList == (⟨#[]⟩ : ByteArray).toList)) (
 bd (surveyorref01_Floor.f lf a0.2.1 a1.2.1) fun r3 =>
 bd (surveyorref01_Floor.f lf a0.2.2.1 a1.2.1) fun r4 =>
 br (r3.1.toList == r4.1.toList) (
 bd (surveyorref01_Rest.f lf a0.2.1 a1.2.1) fun r5 =>
 bd (surveyorref01_Rest.f lf a0.2.2.1 a1.2.1) fun r6 =>
 bd (surveyorref21_Range.f lf r5.1 r6.1) fun r7 =>
 some (r7.1, ())) (
 bd (surveyorref01_Diff.f lf a1.2.1 (⟨#[49]⟩ : ByteArray)) fun r8 =>
 bd (surveyorref21_Range.f lf (⟨#[48]⟩ : ByteArray) r8.1) fun r9 =>
 some (r9.1, ()))) (
 bd (surveyorref01_Diff.f lf a1.2.1 (⟨#[49]⟩ : ByteArray)) fun r10 =>
 bd (surveyorref21_Range.f lf (⟨#[48]⟩ : ByteArray) r10.1) fun r11 =>
 some (r11.1, ()))) (
 bd (surveyorref01_Diff.f lf a1.2.1 (⟨#[49]⟩ : ByteArray)) fun r12 =>
 bd (surveyorref21_Range.f lf (⟨#[48]⟩ : ByteArray) r12.1) fun r13 =>
 some (r13.1, ()))) (
 bd (surveyorref01_Diff.f lf a1.2.1 (⟨#[49]⟩ : ByteArray)) fun r14 =>
 bd (surveyorref21_Range.f lf (⟨#[48]⟩ : ByteArray) r14.1) fun r15 =>
 bd (surveyorref21_Inside.f lf a0 r15.1) fun r16 =>
 br r16.1 (
 some (a0, ())) (
 bd (surveyorref21_sum.f lf a1.2.2.1 (⟨#[45, 49]⟩ : ByteArray)) fun r17 =>
 br (!(a0.2.1.toList == (⟨#[]⟩ : ByteArray).toList)) (
 bd (surveyorref01_Sign.f lf a0.2.1) fun r18 =>
 br (decide (r18.1 ≥ 0)) (
 bd (surveyorref21_upper.f lf r17.1 a0.2.2.1) fun r19 =>
 bd (surveyorref21_Range.f lf (⟨#[48]⟩ : ByteArray) r19.1) fun r20 =>
 some (r20.1, ())) (
 bd (surveyorref21_Range.f lf (⟨#[48]⟩ : ByteArray) r17.1) fun r21 =>
 some (r21.1, ()))) (
 bd (surveyorref21_Range.f lf (⟨#[48]⟩ : ByteArray) r17.1) fun r22 =>
 some (r22.1, ()))))))
noncomputable def E (lf : Nat) : Entry := ⟨[(.pair .bool (.pair .str (.pair .str .unit))), (.pair .bool (.pair .str (.pair .str .unit)))], [(.pair .bool (.pair .str (.pair .str .unit)))], fun x => f lf x.1 x.2.1⟩
theorem ok (lf : Nat) : Ok 169 (E lf) := okT (an := (annsL [])) (lf := lf) (tC (surveyorref21_Inside.ok lf) (tC (surveyorref21_Range.ok lf) (tC (surveyorref21_None.ok lf) (tC (surveyorref21_upper.ok lf) (tC (surveyorref01_Sign.ok lf) (tC (surveyorref21_sum.ok lf) (tC (surveyorref01_Floor.ok lf) (tC (surveyorref01_Rest.ok lf) (tC (surveyorref01_Diff.ok lf) tN))))))))) aoN fun x => by kernel_rfl
end surveyorref21_remainders
namespace surveyorref21_Modulo
noncomputable def f (lf : Nat) (a0 : Bool × (ByteArray × (ByteArray × Unit))) (a1 : Bool × (ByteArray × (ByteArray × Unit))) : Option ((Bool × (ByteArray × (ByteArray × Unit))) × Unit) :=
 bd (surveyorref21_split.f lf a1) fun r1 =>
 bd (idxL r1.1 2) fun y2 =>
 bd (surveyorref21_remainders.f lf a0 y2) fun r3 =>
 bd (surveyorref21_Turned.f lf a0) fun r4 =>
 bd (idxL r1.1 0) fun y5 =>
 bd (surveyorref21_Turned.f lf y5) fun r6 =>
 bd (surveyorref21_remainders.f lf r4.1 r6.1) fun r7 =>
 bd (surveyorref21_Turned.f lf r7.1) fun r8 =>
 bd (surveyorref21_Joined.f lf r3.1 r8.1) fun r9 =>
 some (r9.1, ())
noncomputable def E (lf : Nat) : Entry := ⟨[(.pair .bool (.pair .str (.pair .str .unit))), (.pair .bool (.pair .str (.pair .str .unit)))], [(.pair .bool (.pair .str (.pair .str .unit)))], fun x => f lf x.1 x.2.1⟩
theorem ok (lf : Nat) : Ok 133 (E lf) := okT (an := (annsL [])) (lf := lf) (tC (surveyorref21_Joined.ok lf) (tC (surveyorref21_Turned.ok lf) (tC (surveyorref21_split.ok lf) (tC (surveyorref21_remainders.ok lf) tN)))) aoN fun x => by kernel_rfl
end surveyorref21_Modulo
namespace surveyorref21_Operation
noncomputable def f (lf : Nat) (a0 : Int) (a1 : Bool × (ByteArray × (ByteArray × Unit))) (a2 : Bool × (ByteArray × (ByteArray × Unit))) : Option ((Bool × (ByteArray × (ByteArray × Unit))) × Unit) :=
 br (a0 == 3) (
 bd (surveyorref21_Plus.f lf a1 a2) fun r1 =>
 some (r1.1, ())) (
 br (a0 == 4) (
 bd (surveyorref21_Minus.f lf a1 a2) fun r2 =>
 some (r2.1, ())) (
 br (a0 == 5) (
 bd (surveyorref21_Times.f lf a1 a2) fun r3 =>
 some (r3.1, ())) (
 br (a0 == 6) (
 bd (surveyorref21_Over.f lf a1 a2) fun r4 =>
 some (r4.1, ())) (
 bd (surveyorref21_Modulo.f lf a1 a2) fun r5 =>
 some (r5.1, ())))))
noncomputable def E (lf : Nat) : Entry := ⟨[(.int .i64), (.pair .bool (.pair .str (.pair .str .unit))), (.pair .bool (.pair .str (.pair .str .unit)))], [(.pair .bool (.pair .str (.pair .str .unit)))], fun x => f lf x.1 x.2.1 x.2.2.1⟩
theorem ok (lf : Nat) : Ok 85 (E lf) := okT (an := (annsL [])) (lf := lf) (tC (surveyorref21_Plus.ok lf) (tC (surveyorref21_Minus.ok lf) (tC (surveyorref21_Times.ok lf) (tC (surveyorref21_Over.ok lf) (tC (surveyorref21_Modulo.ok lf) tN))))) aoN fun x => by kernel_rfl
end surveyorref21_Operation
end
end Go.Q
namespace Go.Q
open Go Go.RowKit
open Go.Rx (br bd sIdx sCat sCut iQuo iRem)
set_option linter.unusedVariables false
set_option linter.unusedSimpArgs false
set_option maxRecDepth 100000
noncomputable section
namespace surveyorref21_Compute
noncomputable def f (lf : Nat) (a0 : Int) (a1 : Bool × (ByteArray × (ByteArray × Unit))) (a2 : Bool × (ByteArray × (ByteArray × Unit))) : Option ((Bool × (ByteArray × (ByteArray × Unit))) × Int × Unit) :=
 bd (surveyorref21_both.f lf a1 a2) fun r1 =>
 br (r1.1 != 0) (
 some ((false, (⟨#[]⟩ : ByteArray), (⟨#[]⟩ : ByteArray), ()), r1.1, ())) (
 bd (surveyorref21_Operation.f lf a0 a1 a2) fun r2 =>
 some (r2.1, 0, ()))
noncomputable def E (lf : Nat) : Entry := ⟨[(.int .i64), (.pair .bool (.pair .str (.pair .str .unit))), (.pair .bool (.pair .str (.pair .str .unit)))], [(.pair .bool (.pair .str (.pair .str .unit))), (.int .i64)], fun x => f lf x.1 x.2.1 x.2.2.1⟩
theorem ok (lf : Nat) : Ok 38 (E lf) := okT (an := (annsL [])) (lf := lf) (tC (surveyorref21_both.ok lf) (tC (surveyorref21_Operation.ok lf) tN)) aoN fun x => by kernel_rfl
end surveyorref21_Compute
end
end Go.Q
