import Derived.Test.YtfogkflaijhfoaaGreatDoorProg
import Derived.KernelRfl
import Derived.Test.YtfogkflaijhfoaaGreatDoorCBE3
import Derived.Test.YtfogkflaijhfoaaGreatDoorCBG3
import Derived.Test.YtfogkflaijhfoaaGreatDoorCBG4
set_option linter.unusedVariables false
set_option linter.unusedSimpArgs false
set_option linter.unusedSectionVars false
set_option maxRecDepth 100000
namespace Go.Q
open Go.IntKind (i64)
open Go Go.RowKit
open Go.Rx (br bd sIdx sCat sCut iQuo iRem)
noncomputable section
namespace surveyortop_TopClassesBest
def anns : FuncId → FA := annsL [(6, ⟨annOf [(0, ⟨kx 127 [5, 6, 7, 8, 9, 10, 11, 34, 35, 36], [⟨.tmp 9, (.int .i64), 3⟩, ⟨.tmp 10, (.int .i64), 3⟩, ⟨.tmp 11, (.int .i64), 3⟩], [0, 1, 2, 3, 6, 7]⟩, ⟨kx 127 [4, 5, 6, 7, 8, 9, 10, 11], [⟨.tmp 9, (.int .i64), 3⟩, ⟨.tmp 10, (.int .i64), 3⟩, ⟨.tmp 11, (.int .i64), 3⟩], [0, 1, 2, 3, 6, 7]⟩), (1, ⟨kx 127 [5, 6, 7, 8, 9, 10, 11, 13, 34, 35, 36, 40, 41, 42], [⟨.tmp 9, (.int .i64), 3⟩, ⟨.tmp 10, (.int .i64), 3⟩, ⟨.tmp 11, (.int .i64), 3⟩], []⟩, ⟨kx 127 [4, 5, 6, 7, 8, 9, 10, 11, 34, 35, 36], [⟨.tmp 9, (.int .i64), 3⟩, ⟨.tmp 10, (.int .i64), 3⟩, ⟨.tmp 11, (.int .i64), 3⟩], []⟩)], none, []⟩), (32, ⟨annOf [], none, [12]⟩)]
def r1 {ρ : Type} (lf : Nat) (v0 v1 v2 v3 : Int) (v5 : List Int) (v6 : Bool) (v7 v8 : ByteArray) (v9 : List Int) (v10 : Bool) (v11 v12 : ByteArray) (v4 : Int) (v13 v14 v15 : List Int) (K : Int → (List Int) → (List Int) → (List Int) → Option ρ) (E0 : (List Int) → (List Int) → (List Int) → Option ρ) : Option ρ :=
 br (decide (v4 < v3)) (
 bd (idxB v9.length v4) fun j9 =>
 bd (v9[j9]?) fun y10 =>
 bd (apL true 8 v15 [(i64.wrap (v0 + y10))]) fun q11 =>
 bd (apL true 8 v14 [(i64.wrap (v0 - y10))]) fun q12 =>
 bd (apL true 8 v13 [(i64.wrap (v0 * y10))]) fun q13 =>
 K (i64.wrap (v4 + 1)) q13 q12 q11) (
 E0 v13 v14 v15)
def l1 (lf : Nat) (v0 v1 v2 v3 : Int) (v5 : List Int) (v6 : Bool) (v7 v8 : ByteArray) (v9 : List Int) (v10 : Bool) (v11 v12 : ByteArray) : Nat → Int → (List Int) → (List Int) → (List Int) → Option (((List Int) × (List Int) × (List Int) × Unit) × Unit)
 | 0, _, _, _, _ => none
 | n + 1, v4, v13, v14, v15 => r1 lf v0 v1 v2 v3 v5 v6 v7 v8 v9 v10 v11 v12 v4 v13 v14 v15 (l1 lf v0 v1 v2 v3 v5 v6 v7 v8 v9 v10 v11 v12 n) (fun w0 w1 w2 => some ((w0, w1, w2, ()), ()))
def sh1 : ShS := ⟨[.a 5, .s (.ptr 5 0), .s (.row 4), .s (.ptr 9 0), .s (.row 8), .s (.row 15), .s (.row 14), .s (.row 13), .a 1, .s (.int .i64), .a 20, .s (.row 4), .s (.int .i64), .s (.int .i64), .a 3, .s (.row 8), .s (.int .i64), .s (.int .i64), .a 84], [.gone, .gone, .gone, .gone, .row (.int .i64) 3 false, .cells [.s .bool, .s .str, .s .str] 26, .gone, .gone, .row (.int .i64) 3 false, .cells [.s .bool, .s .str, .s .str] 26, .gone, .gone, .gone, .row (.int .i64) 3 false, .row (.int .i64) 3 false, .row (.int .i64) 3 false]⟩
def S1 (p : Int × Int × Int × Int × Int × (List Int) × Bool × ByteArray × ByteArray × (List Int) × Bool × ByteArray × ByteArray × (List Int) × (List Int) × (List Int) × Unit) : St := sh1.b p
def xh0 : ShS := ⟨[.a 5, .s (.ptr 5 0), .s (.row 4), .s (.ptr 9 0), .s (.row 8), .s (.row 15), .s (.row 14), .s (.row 13), .a 22, .s (.row 4), .s (.int .i64), .s (.int .i64), .a 90], [.gone, .gone, .gone, .gone, .row (.int .i64) 3 false, .cells [.s .bool, .s .str, .s .str] 26, .gone, .gone, .row (.int .i64) 3 false, .cells [.s .bool, .s .str, .s .str] 26, .gone, .gone, .gone, .row (.int .i64) 3 false, .row (.int .i64) 3 false, .row (.int .i64) 3 false]⟩
def o1 (v0 v1 v2 v3 : Int) (v5 : List Int) (v6 : Bool) (v7 v8 : ByteArray) (v9 : List Int) (v10 : Bool) (v11 v12 : ByteArray) (y : ((List Int) × (List Int) × (List Int) × Unit) × Unit) : Alt := .one (.exit 2) (xh0.b (v1, v2, v5, v6, v7, v8, v9, v10, v11, v12, y.1.1, y.1.2.1, y.1.2.2.1, ()))
def r0 {ρ : Type} (lf : Nat) (v0 : Int) (v2 : List Int) (v3 : Bool) (v4 v5 : ByteArray) (v6 : List Int) (v7 : Bool) (v8 v9 : ByteArray) (v1 : Int) (v10 v11 v12 : List Int) (K : Int → (List Int) → (List Int) → (List Int) → Option ρ) (E0 : (List Int) → (List Int) → (List Int) → Option ρ) : Option ρ :=
 br (decide (v1 < v0)) (
 bd (idxB v2.length v1) fun j7 =>
 bd (v2[j7]?) fun y8 =>
 bd (l1 lf y8 v0 v1 ((v6.length : Nat) : Int) v2 v3 v4 v5 v6 v7 v8 v9 (lf + 40) 0 v10 v11 v12) fun z14 =>
 K (i64.wrap (v1 + 1)) z14.1.1 z14.1.2.1 z14.1.2.2.1) (
 E0 v10 v11 v12)
def l0 (lf : Nat) (v0 : Int) (v2 : List Int) (v3 : Bool) (v4 v5 : ByteArray) (v6 : List Int) (v7 : Bool) (v8 v9 : ByteArray) : Nat → Int → (List Int) → (List Int) → (List Int) → Option (((List Int) × (List Int) × (List Int) × Unit) × Unit)
 | 0, _, _, _, _ => none
 | n + 1, v1, v10, v11, v12 => r0 lf v0 v2 v3 v4 v5 v6 v7 v8 v9 v1 v10 v11 v12 (l0 lf v0 v2 v3 v4 v5 v6 v7 v8 v9 n) (fun w0 w1 w2 => some ((w0, w1, w2, ()), ()))
def sh0 : ShS := ⟨[.a 5, .s (.ptr 5 0), .s (.row 4), .s (.ptr 9 0), .s (.row 8), .s (.row 12), .s (.row 11), .s (.row 10), .a 22, .s (.row 4), .s (.int .i64), .s (.int .i64), .a 90], [.gone, .gone, .gone, .gone, .row (.int .i64) 3 false, .cells [.s .bool, .s .str, .s .str] 26, .gone, .gone, .row (.int .i64) 3 false, .cells [.s .bool, .s .str, .s .str] 26, .row (.int .i64) 3 false, .row (.int .i64) 3 false, .row (.int .i64) 3 false]⟩
def S0 (p : Int × Int × (List Int) × Bool × ByteArray × ByteArray × (List Int) × Bool × ByteArray × ByteArray × (List Int) × (List Int) × (List Int) × Unit) : St := sh0.b p
def xh1 : ShS := ⟨[.a 5, .s (.ptr 5 0), .s (.row 4), .s (.ptr 9 0), .s (.row 8), .s (.row 12), .s (.row 11), .s (.row 10), .a 115], [.gone, .gone, .gone, .gone, .row (.int .i64) 3 false, .cells [.s .bool, .s .str, .s .str] 26, .gone, .gone, .row (.int .i64) 3 false, .cells [.s .bool, .s .str, .s .str] 26, .row (.int .i64) 3 false, .row (.int .i64) 3 false, .row (.int .i64) 3 false]⟩
def o0 (v0 : Int) (v2 : List Int) (v3 : Bool) (v4 v5 : ByteArray) (v6 : List Int) (v7 : Bool) (v8 v9 : ByteArray) (y : ((List Int) × (List Int) × (List Int) × Unit) × Unit) : Alt := .one (.exit 0) (xh1.b (v2, v3, v4, v5, v6, v7, v8, v9, y.1.1, y.1.2.1, y.1.2.2.1, ()))
def tb (lf : Nat) : List (FuncId × Entry) := [(18, congruence_Join.E lf), (33, congruence_Add.E lf), (34, congruence_Sub.E lf), (35, congruence_Mul.E lf), (36, surveyortop_playLeast.E lf), (37, surveyortop_playValues.E lf), (123, surveyorref01_Whole.E lf)]
def s13_6 (lf : Nat) : List (Nat × (St → Option LTE)) := [(0, sumE sh0 fun (p : Int × Int × (List Int) × Bool × ByteArray × ByteArray × (List Int) × Bool × ByteArray × ByteArray × (List Int) × (List Int) × (List Int) × Unit) => ⟨((List Int) × (List Int) × (List Int) × Unit) × Unit, l0 lf p.1 p.2.2.1 p.2.2.2.1 p.2.2.2.2.1 p.2.2.2.2.2.1 p.2.2.2.2.2.2.1 p.2.2.2.2.2.2.2.1 p.2.2.2.2.2.2.2.2.1 p.2.2.2.2.2.2.2.2.2.1 (lf + 40) p.2.1 p.2.2.2.2.2.2.2.2.2.2.1 p.2.2.2.2.2.2.2.2.2.2.2.1 p.2.2.2.2.2.2.2.2.2.2.2.2.1, o0 p.1 p.2.2.1 p.2.2.2.1 p.2.2.2.2.1 p.2.2.2.2.2.1 p.2.2.2.2.2.2.1 p.2.2.2.2.2.2.2.1 p.2.2.2.2.2.2.2.2.1 p.2.2.2.2.2.2.2.2.2.1⟩),
 (1, sumE sh1 fun (p : Int × Int × Int × Int × Int × (List Int) × Bool × ByteArray × ByteArray × (List Int) × Bool × ByteArray × ByteArray × (List Int) × (List Int) × (List Int) × Unit) => ⟨((List Int) × (List Int) × (List Int) × Unit) × Unit, l1 lf p.1 p.2.1 p.2.2.1 p.2.2.2.1 p.2.2.2.2.2.1 p.2.2.2.2.2.2.1 p.2.2.2.2.2.2.2.1 p.2.2.2.2.2.2.2.2.1 p.2.2.2.2.2.2.2.2.2.1 p.2.2.2.2.2.2.2.2.2.2.1 p.2.2.2.2.2.2.2.2.2.2.2.1 p.2.2.2.2.2.2.2.2.2.2.2.2.1 (lf + 40) p.2.2.2.2.1 p.2.2.2.2.2.2.2.2.2.2.2.2.2.1 p.2.2.2.2.2.2.2.2.2.2.2.2.2.2.1 p.2.2.2.2.2.2.2.2.2.2.2.2.2.2.2.1, o1 p.1 p.2.1 p.2.2.1 p.2.2.2.1 p.2.2.2.2.2.1 p.2.2.2.2.2.2.1 p.2.2.2.2.2.2.2.1 p.2.2.2.2.2.2.2.2.1 p.2.2.2.2.2.2.2.2.2.1 p.2.2.2.2.2.2.2.2.2.2.1 p.2.2.2.2.2.2.2.2.2.2.2.1 p.2.2.2.2.2.2.2.2.2.2.2.2.1⟩)]
def ls (lf : Nat) : List (Nat × FuncId × Sums) := [(13, 6, sumsL (s13_6 lf))]
def it1 {ρ : Type} (lf n : Nat) (st : St) (k : KE ρ) : Option ρ := itG anns (ls lf) (tb lf) lf 13 6 1 13 (sumsL (s13_6 lf)) n st k
theorem t1 {ρ : Type} (lf n : Nat) (v0 v1 v2 v3 v4 : Int) (v5 : List Int) (v6 : Bool) (v7 v8 : ByteArray) (v9 : List Int) (v10 : Bool) (v11 v12 : ByteArray) (v13 v14 v15 : List Int) (k : KE ρ) : it1 lf (n + 1) (S1 (v0, v1, v2, v3, v4, v5, v6, v7, v8, v9, v10, v11, v12, v13, v14, v15, ())) k = r1 lf v0 v1 v2 v3 v5 v6 v7 v8 v9 v10 v11 v12 v4 v13 v14 v15 (fun x0 x1 x2 x3 => it1 lf n (S1 (v0, v1, v2, v3, x0, v5, v6, v7, v8, v9, v10, v11, v12, x1, x2, x3, ())) k) (fun w0 w1 w2 => k (.exit 2) (xh0.b (v1, v2, v5, v6, v7, v8, v9, v10, v11, v12, w0, w1, w2, ()))) := by kernel_rfl
theorem u1 {ρ : Type} (lf : Nat) (v0 v1 v2 v3 : Int) (v5 : List Int) (v6 : Bool) (v7 v8 : ByteArray) (v9 : List Int) (v10 : Bool) (v11 v12 : ByteArray) (k : KE ρ) : ∀ (n : Nat) (v4 : Int) (v13 v14 v15 : List Int), it1 lf n (S1 (v0, v1, v2, v3, v4, v5, v6, v7, v8, v9, v10, v11, v12, v13, v14, v15, ())) k = bd (l1 lf v0 v1 v2 v3 v5 v6 v7 v8 v9 v10 v11 v12 n v4 v13 v14 v15) fun y => altK k (o1 v0 v1 v2 v3 v5 v6 v7 v8 v9 v10 v11 v12 y)
 | 0, _, _, _, _ => by rw [l1, bd_none]; rfl
 | n + 1, v4, v13, v14, v15 => by
  rw [t1]; simp only [l1, r1, u1 lf v0 v1 v2 v3 v5 v6 v7 v8 v9 v10 v11 v12 k n, bd_br, bd_bd, bd_some', bd_none, br_t, br_f, o1, altK]
def it0 {ρ : Type} (lf n : Nat) (st : St) (k : KE ρ) : Option ρ := itG anns (ls lf) (tb lf) lf 13 6 0 10 (sumsL (s13_6 lf)) n st k
theorem t0 {ρ : Type} (lf n : Nat) (v0 v1 : Int) (v2 : List Int) (v3 : Bool) (v4 v5 : ByteArray) (v6 : List Int) (v7 : Bool) (v8 v9 : ByteArray) (v10 v11 v12 : List Int) (k : KE ρ) : it0 lf (n + 1) (S0 (v0, v1, v2, v3, v4, v5, v6, v7, v8, v9, v10, v11, v12, ())) k = r0 lf v0 v2 v3 v4 v5 v6 v7 v8 v9 v1 v10 v11 v12 (fun x0 x1 x2 x3 => it0 lf n (S0 (v0, x0, v2, v3, v4, v5, v6, v7, v8, v9, x1, x2, x3, ())) k) (fun w0 w1 w2 => k (.exit 0) (xh1.b (v2, v3, v4, v5, v6, v7, v8, v9, w0, w1, w2, ()))) := by kernel_rfl
theorem u0 {ρ : Type} (lf : Nat) (v0 : Int) (v2 : List Int) (v3 : Bool) (v4 v5 : ByteArray) (v6 : List Int) (v7 : Bool) (v8 v9 : ByteArray) (k : KE ρ) : ∀ (n : Nat) (v1 : Int) (v10 v11 v12 : List Int), it0 lf n (S0 (v0, v1, v2, v3, v4, v5, v6, v7, v8, v9, v10, v11, v12, ())) k = bd (l0 lf v0 v2 v3 v4 v5 v6 v7 v8 v9 n v1 v10 v11 v12) fun y => altK k (o0 v0 v2 v3 v4 v5 v6 v7 v8 v9 y)
 | 0, _, _, _, _ => by rw [l0, bd_none]; rfl
 | n + 1, v1, v10, v11, v12 => by
  rw [t0]; simp only [l0, r0, u0 lf v0 v2 v3 v4 v5 v6 v7 v8 v9 k n, bd_br, bd_bd, bd_some', bd_none, br_t, br_f, o0, altK]
theorem sl (lf : Nat) : SL anns (ls lf) (tb lf) lf (ls lf) := slC (laC (fun _ => by kernel_rfl) (fun _ (x : Int × Int × (List Int) × Bool × ByteArray × ByteArray × (List Int) × Bool × ByteArray × ByteArray × (List Int) × (List Int) × (List Int) × Unit) k => leq_of (u0 lf x.1 x.2.2.1 x.2.2.2.1 x.2.2.2.2.1 x.2.2.2.2.2.1 x.2.2.2.2.2.2.1 x.2.2.2.2.2.2.2.1 x.2.2.2.2.2.2.2.2.1 x.2.2.2.2.2.2.2.2.2.1 k (lf + 40) x.2.1 x.2.2.2.2.2.2.2.2.2.2.1 x.2.2.2.2.2.2.2.2.2.2.2.1 x.2.2.2.2.2.2.2.2.2.2.2.2.1)) (laC (fun _ => by kernel_rfl) (fun _ (x : Int × Int × Int × Int × Int × (List Int) × Bool × ByteArray × ByteArray × (List Int) × Bool × ByteArray × ByteArray × (List Int) × (List Int) × (List Int) × Unit) k => leq_of (u1 lf x.1 x.2.1 x.2.2.1 x.2.2.2.1 x.2.2.2.2.2.1 x.2.2.2.2.2.2.1 x.2.2.2.2.2.2.2.1 x.2.2.2.2.2.2.2.2.1 x.2.2.2.2.2.2.2.2.2.1 x.2.2.2.2.2.2.2.2.2.2.1 x.2.2.2.2.2.2.2.2.2.2.2.1 x.2.2.2.2.2.2.2.2.2.2.2.2.1 k (lf + 40) x.2.2.2.2.1 x.2.2.2.2.2.2.2.2.2.2.2.2.2.1 x.2.2.2.2.2.2.2.2.2.2.2.2.2.2.1 x.2.2.2.2.2.2.2.2.2.2.2.2.2.2.2.1)) laN)) slN
def f (lf : Nat) (a0 : Int × (Int × Unit)) (a1 : Int × (Int × Unit)) : Option (Bool × Unit) :=
 bd (iRem a0.1 13) fun r1 =>
 bd (iRem a0.2.1 13) fun r2 =>
 br ((i64.wrap r1) == 0) (
 bd (surveyorref01_Whole.f lf (i64.wrap r2)) fun r3 =>
 bd (iRem a1.1 13) fun r4 =>
 bd (iRem a1.2.1 13) fun r5 =>
 br ((i64.wrap r4) == 0) (
 bd (surveyorref01_Whole.f lf (i64.wrap r5)) fun r6 =>
 bd (l0 lf 1 [(i64.wrap r2)] false (⟨#[48]⟩ : ByteArray) r3.1 [(i64.wrap r5)] false (⟨#[48]⟩ : ByteArray) r6.1 (lf + 40) 0 [] [] []) fun z15 =>
 bd (congruence_Add.f lf (false, (⟨#[48]⟩ : ByteArray), r3.1, ()) (false, (⟨#[48]⟩ : ByteArray), r6.1, ())) fun r16 =>
 bd (congruence_Sub.f lf (false, (⟨#[48]⟩ : ByteArray), r3.1, ()) (false, (⟨#[48]⟩ : ByteArray), r6.1, ())) fun r17 =>
 bd (congruence_Mul.f lf (false, (⟨#[48]⟩ : ByteArray), r3.1, ()) (false, (⟨#[48]⟩ : ByteArray), r6.1, ())) fun r18 =>
 bd (congruence_Join.f lf (false, (⟨#[48]⟩ : ByteArray), r3.1, ()) (false, (⟨#[48]⟩ : ByteArray), r6.1, ())) fun r19 =>
 br ((i64.wrap ((i64.wrap ((i64.wrap (r16.2.1 + r17.2.1)) + r18.2.1)) + r19.2.1)) == 0) (
 bd (surveyortop_playLeast.f lf z15.1.2.2.1) fun r20 =>
 bd (some ((r16.1.1 == r20.1.1) && ((r16.1.2.1 == r20.1.2.1) && ((r16.1.2.2.1 == r20.1.2.2.1) && true)))) fun r21 =>
 br r21 (
 bd (surveyortop_playLeast.f lf z15.1.2.1) fun r22 =>
 bd (some ((r17.1.1 == r22.1.1) && ((r17.1.2.1 == r22.1.2.1) && ((r17.1.2.2.1 == r22.1.2.2.1) && true)))) fun r23 =>
 br r23 (
 bd (surveyortop_playLeast.f lf z15.1.1) fun r24 =>
 bd (some ((r18.1.1 == r24.1.1) && ((r18.1.2.1 == r24.1.2.1) && ((r18.1.2.2.1 == r24.1.2.2.1) && true)))) fun r25 =>
 br r25 (
 bd (apL true 8 [(i64.wrap r2)] [(i64.wrap r5)]) fun q26 =>
 bd (surveyortop_playLeast.f lf q26) fun r27 =>
 bd (some ((r19.1.1 == r27.1.1) && ((r19.1.2.1 == r27.1.2.1) && ((r19.1.2.2.1 == r27.1.2.2.1) && true)))) fun r28 =>
 br r28 (
 bd (surveyortop_playValues.f lf) fun r29 =>
 some (r29.1, ())) (
 some (false, ()))) (
 some (false, ()))) (
 some (false, ()))) (
 some (false, ()))) (
 some (false, ()))) (
 bd (iRem (i64.wrap r5) (i64.wrap r4)) fun r30 =>
 bd (surveyorref01_Whole.f lf (i64.wrap r4)) fun r31 =>
 bd (surveyorref01_Whole.f lf r30) fun r32 =>
 bd (l0 lf 1 [(i64.wrap r2)] false (⟨#[48]⟩ : ByteArray) r3.1 [r30, (i64.wrap (r30 + (i64.wrap r4))), (i64.wrap (r30 - (i64.wrap r4)))] false r31.1 r32.1 (lf + 40) 0 [] [] []) fun z33 =>
 bd (congruence_Add.f lf (false, (⟨#[48]⟩ : ByteArray), r3.1, ()) (false, r31.1, r32.1, ())) fun r34 =>
 bd (congruence_Sub.f lf (false, (⟨#[48]⟩ : ByteArray), r3.1, ()) (false, r31.1, r32.1, ())) fun r35 =>
 bd (congruence_Mul.f lf (false, (⟨#[48]⟩ : ByteArray), r3.1, ()) (false, r31.1, r32.1, ())) fun r36 =>
 bd (congruence_Join.f lf (false, (⟨#[48]⟩ : ByteArray), r3.1, ()) (false, r31.1, r32.1, ())) fun r37 =>
 br ((i64.wrap ((i64.wrap ((i64.wrap (r34.2.1 + r35.2.1)) + r36.2.1)) + r37.2.1)) == 0) (
 bd (surveyortop_playLeast.f lf z33.1.2.2.1) fun r38 =>
 bd (some ((r34.1.1 == r38.1.1) && ((r34.1.2.1 == r38.1.2.1) && ((r34.1.2.2.1 == r38.1.2.2.1) && true)))) fun r39 =>
 br r39 (
 bd (surveyortop_playLeast.f lf z33.1.2.1) fun r40 =>
 bd (some ((r35.1.1 == r40.1.1) && ((r35.1.2.1 == r40.1.2.1) && ((r35.1.2.2.1 == r40.1.2.2.1) && true)))) fun r41 =>
 br r41 (
 bd (surveyortop_playLeast.f lf z33.1.1) fun r42 =>
 bd (some ((r36.1.1 == r42.1.1) && ((r36.1.2.1 == r42.1.2.1) && ((r36.1.2.2.1 == r42.1.2.2.1) && true)))) fun r43 =>
 br r43 (
 bd (apL true 8 [(i64.wrap r2)] [r30, (i64.wrap (r30 + (i64.wrap r4))), (i64.wrap (r30 - (i64.wrap r4)))]) fun q44 =>
 bd (surveyortop_playLeast.f lf q44) fun r45 =>
 bd (some ((r37.1.1 == r45.1.1) && ((r37.1.2.1 == r45.1.2.1) && ((r37.1.2.2.1 == r45.1.2.2.1) && true)))) fun r46 =>
 br r46 (
 bd (surveyortop_playValues.f lf) fun r47 =>
 some (r47.1, ())) (
 some (false, ()))) (
 some (false, ()))) (
 some (false, ()))) (
 some (false, ()))) (
 some (false, ())))) (
 bd (iRem (i64.wrap r2) (i64.wrap r1)) fun r48 =>
 bd (surveyorref01_Whole.f lf (i64.wrap r1)) fun r49 =>
 bd (surveyorref01_Whole.f lf r48) fun r50 =>
 bd (iRem a1.1 13) fun r51 =>
 bd (iRem a1.2.1 13) fun r52 =>
 br ((i64.wrap r51) == 0) (
 bd (surveyorref01_Whole.f lf (i64.wrap r52)) fun r53 =>
 bd (l0 lf 3 [r48, (i64.wrap (r48 + (i64.wrap r1))), (i64.wrap (r48 - (i64.wrap r1)))] false r49.1 r50.1 [(i64.wrap r52)] false (⟨#[48]⟩ : ByteArray) r53.1 (lf + 40) 0 [] [] []) fun z54 =>
 bd (congruence_Add.f lf (false, r49.1, r50.1, ()) (false, (⟨#[48]⟩ : ByteArray), r53.1, ())) fun r55 =>
 bd (congruence_Sub.f lf (false, r49.1, r50.1, ()) (false, (⟨#[48]⟩ : ByteArray), r53.1, ())) fun r56 =>
 bd (congruence_Mul.f lf (false, r49.1, r50.1, ()) (false, (⟨#[48]⟩ : ByteArray), r53.1, ())) fun r57 =>
 bd (congruence_Join.f lf (false, r49.1, r50.1, ()) (false, (⟨#[48]⟩ : ByteArray), r53.1, ())) fun r58 =>
 br ((i64.wrap ((i64.wrap ((i64.wrap (r55.2.1 + r56.2.1)) + r57.2.1)) + r58.2.1)) == 0) (
 bd (surveyortop_playLeast.f lf z54.1.2.2.1) fun r59 =>
 bd (some ((r55.1.1 == r59.1.1) && ((r55.1.2.1 == r59.1.2.1) && ((r55.1.2.2.1 == r59.1.2.2.1) && true)))) fun r60 =>
 br r60 (
 bd (surveyortop_playLeast.f lf z54.1.2.1) fun r61 =>
 bd (some ((r56.1.1 == r61.1.1) && ((r56.1.2.1 == r61.1.2.1) && ((r56.1.2.2.1 == r61.1.2.2.1) && true)))) fun r62 =>
 br r62 (
 bd (surveyortop_playLeast.f lf z54.1.1) fun r63 =>
 bd (some ((r57.1.1 == r63.1.1) && ((r57.1.2.1 == r63.1.2.1) && ((r57.1.2.2.1 == r63.1.2.2.1) && true)))) fun r64 =>
 br r64 (
 bd (apL true 8 [r48, (i64.wrap (r48 + (i64.wrap r1))), (i64.wrap (r48 - (i64.wrap r1)))] [(i64.wrap r52)]) fun q65 =>
 bd (surveyortop_playLeast.f lf q65) fun r66 =>
 bd (some ((r58.1.1 == r66.1.1) && ((r58.1.2.1 == r66.1.2.1) && ((r58.1.2.2.1 == r66.1.2.2.1) && true)))) fun r67 =>
 br r67 (
 bd (surveyortop_playValues.f lf) fun r68 =>
 some (r68.1, ())) (
 some (false, ()))) (
 some (false, ()))) (
 some (false, ()))) (
 some (false, ()))) (
 some (false, ()))) (
 bd (iRem (i64.wrap r52) (i64.wrap r51)) fun r69 =>
 bd (surveyorref01_Whole.f lf (i64.wrap r51)) fun r70 =>
 bd (surveyorref01_Whole.f lf r69) fun r71 =>
 bd (l0 lf 3 [r48, (i64.wrap (r48 + (i64.wrap r1))), (i64.wrap (r48 - (i64.wrap r1)))] false r49.1 r50.1 [r69, (i64.wrap (r69 + (i64.wrap r51))), (i64.wrap (r69 - (i64.wrap r51)))] false r70.1 r71.1 (lf + 40) 0 [] [] []) fun z72 =>
 bd (congruence_Add.f lf (false, r49.1, r50.1, ()) (false, r70.1, r71.1, ())) fun r73 =>
 bd (congruence_Sub.f lf (false, r49.1, r50.1, ()) (false, r70.1, r71.1, ())) fun r74 =>
 bd (congruence_Mul.f lf (false, r49.1, r50.1, ()) (false, r70.1, r71.1, ())) fun r75 =>
 bd (congruence_Join.f lf (false, r49.1, r50.1, ()) (false, r70.1, r71.1, ())) fun r76 =>
 br ((i64.wrap ((i64.wrap ((i64.wrap (r73.2.1 + r74.2.1)) + r75.2.1)) + r76.2.1)) == 0) (
 bd (surveyortop_playLeast.f lf z72.1.2.2.1) fun r77 =>
 bd (some ((r73.1.1 == r77.1.1) && ((r73.1.2.1 == r77.1.2.1) && ((r73.1.2.2.1 == r77.1.2.2.1) && true)))) fun r78 =>
 br r78 (
 bd (surveyortop_playLeast.f lf z72.1.2.1) fun r79 =>
 bd (some ((r74.1.1 == r79.1.1) && ((r74.1.2.1 == r79.1.2.1) && ((r74.1.2.2.1 == r79.1.2.2.1) && true)))) fun r80 =>
 br r80 (
 bd (surveyortop_playLeast.f lf z72.1.1) fun r81 =>
 bd (some ((r75.1.1 == r81.1.1) && ((r75.1.2.1 == r81.1.2.1) && ((r75.1.2.2.1 == r81.1.2.2.1) && true)))) fun r82 =>
 br r82 (
 bd (apL true 8 [r48, (i64.wrap (r48 + (i64.wrap r1))), (i64.wrap (r48 - (i64.wrap r1)))] [r69, (i64.wrap (r69 + (i64.wrap r51))), (i64.wrap (r69 - (i64.wrap r51)))]) fun q83 =>
 bd (surveyortop_playLeast.f lf q83) fun r84 =>
 bd (some ((r76.1.1 == r84.1.1) && ((r76.1.2.1 == r84.1.2.1) && ((r76.1.2.2.1 == r84.1.2.2.1) && true)))) fun r85 =>
 br r85 (
 bd (surveyortop_playValues.f lf) fun r86 =>
 some (r86.1, ())) (
 some (false, ()))) (
 some (false, ()))) (
 some (false, ()))) (
 some (false, ()))) (
 some (false, ()))))
def E (lf : Nat) : Entry := ⟨[(.pair (.int .u8) (.pair (.int .u8) .unit)), (.pair (.int .u8) (.pair (.int .u8) .unit))], [.bool], fun x => f lf x.1 x.2.1⟩
theorem ok (lf : Nat) : Ok 6 (E lf) := okL (tC (congruence_Join.ok lf) (tC (congruence_Add.ok lf) (tC (congruence_Sub.ok lf) (tC (congruence_Mul.ok lf) (tC (surveyortop_playLeast.ok lf) (tC (surveyortop_playValues.ok lf) (tC (surveyorref01_Whole.ok lf) tN))))))) (aoC (aoC aoN)) (sl lf) fun x => by kernel_rfl
end surveyortop_TopClassesBest
end
end Go.Q
