import Derived.Test.YtlikbeopppeojaaGreatDoorProg
import Derived.KernelRfl
import Derived.Test.YtlikbeopppeojaaGreatDoorEHE3
import Derived.Test.YtlikbeopppeojaaGreatDoorEHG3
import Derived.Test.YtlikbeopppeojaaGreatDoorEHG4
import Derived.Test.YtlikbeopppeojaaGreatDoorEHG5
import Derived.Test.YtlikbeopppeojaaGreatDoorEHG6
import Derived.Test.YtlikbeopppeojaaGreatDoorEHG7
set_option linter.unusedVariables false
set_option linter.unusedSimpArgs false
set_option linter.unusedSectionVars false
set_option maxRecDepth 100000
set_option maxHeartbeats 40000000
namespace Go.Q
open Go Go.RowKit
open Go.Rx (br bd sIdx sCat sCut iQuo iRem iShl)
noncomputable section
namespace env_Impose
def l : List (((List TV) × EX × TV × Unit) × ((List TV) × Bool × Int × Unit)) := [((ck_c.c13, ck_c.c58, ck_c.c57, ()), (ck_c.c61, true, 0, ()))]
def f (lf : Nat) (a0 : List TV) (a1 : EX) (a2 : TV) : Option ((List TV) × Bool × Int × Unit) := pick [(.sl yV), (.rc false), yV] l (a0, a1, a2, ())
def E (lf : Nat) : Entry := ⟨[(.sl yV), (.rc false), yV], [(.sl yV), .bool, (.int .i64)], fun x => f lf x.1 x.2.1 x.2.2.1⟩
def tb (lf : Nat) : List (FuncId × Entry) := [(13, env_Check.E lf), (39, value_Check.E lf), (44, expr_Check.E lf), (53, env_environment_impose.E lf)]
abbrev an : FuncId → FA := annsL []
theorem ok (lf : Nat) : Ok 28 (E lf) := okP (an := an) (tb := tb lf) (lf := lf) (tC (env_Check.ok lf) (tC (value_Check.ok lf) (tC (expr_Check.ok lf) (tC (env_environment_impose.ok lf) tN)))) aoN (l := l) (fun _ => rfl) (fun _ => rfl) ⟨by as_aux_lemma => kernel_rfl, trivial⟩
end env_Impose
namespace env_Back
def l : List (((List TV) × (List TV) × Int × EX × Unit) × ((List TV) × Bool × Int × Unit)) := [((ck_c.c13, ck_c.c13, 1, ck_c.c62, ()), (ck_c.c69, true, 0, ()))]
def f (lf : Nat) (a0 : List TV) (a1 : List TV) (a2 : Int) (a3 : EX) : Option ((List TV) × Bool × Int × Unit) := pick [(.sl yV), (.sl yV), (.int .i64), (.rc false)] l (a0, a1, a2, a3, ())
def E (lf : Nat) : Entry := ⟨[(.sl yV), (.sl yV), (.int .i64), (.rc false)], [(.sl yV), .bool, (.int .i64)], fun x => f lf x.1 x.2.1 x.2.2.1 x.2.2.2.1⟩
def tb (lf : Nat) : List (FuncId × Entry) := [(34, value_Top.E lf), (44, expr_Check.E lf), (53, env_environment_impose.E lf), (54, env_both.E lf), (57, value_Meet.E lf), (66, api_Value.E lf)]
abbrev an : FuncId → FA := annsL [(56, ⟨annOf [(0, ⟨kx 38 [0, 1, 2, 8, 12, 13], [⟨.tmp 8, yV, 47⟩], []⟩, ⟨kx 38 [6, 7, 8], [⟨.tmp 8, yV, 47⟩], []⟩)], none, []⟩)]
theorem ok (lf : Nat) : Ok 29 (E lf) := okP (an := an) (tb := tb lf) (lf := lf) (tC (value_Top.ok lf) (tC (expr_Check.ok lf) (tC (env_environment_impose.ok lf) (tC (env_both.ok lf) (tC (value_Meet.ok lf) (tC (api_Value.ok lf) tN)))))) (aoC aoN) (l := l) (fun _ => rfl) (fun _ => rfl) ⟨by as_aux_lemma => kernel_rfl, trivial⟩
end env_Back
end
end Go.Q
namespace Go.Q
open Go.IntKind (i64)
open Go Go.RowKit
open Go.Rx (br bd sIdx sCat sCut iQuo iRem iShl)
noncomputable section
namespace surveyorref24_Few
def anns : FuncId → FA := annsL [(4, ⟨annOf [(0, ⟨kx 23 [0, 3], [], []⟩, ⟨kx 23 [2], [], []⟩)], none, []⟩)]
def r0 {ρ : Type} (lf : Nat) (v0 : List TV) (v1 : Int) (K : Int → Option ρ) (E0 : Option ρ) (E1 : Option ρ) : Option ρ :=
 br (decide (v1 < ((v0.length : Nat) : Int))) (
 bd (idxL v0 v1) fun y1 =>
 bd (idxL v0 v1) fun y2 =>
 bd (surveyorref23_Few.f lf y1 y2) fun r3 =>
 br (!r3.1) (
 E0) (
 K (i64.wrap (v1 + 1)))) (
 E1)
def l0 (lf : Nat) (v0 : List TV) : Nat → Int → Option (Bool × (Unit) × (Unit) × Unit)
 | 0, _ => none
 | n + 1, v1 => r0 lf v0 v1 (l0 lf v0 n) (some (true, (()), ((()), ()))) (some (false, (()), ((()), ())))
def sh0 : ShS := ⟨[.s (.sl yV), .a 2, .s (.int .i64), .a 19], []⟩
def S0 (p : (List TV) × Int × Unit) : St := sh0.b p
def xh0 : ShS := ⟨[.a 2, .s .bool, .a 20], []⟩
def xh1 : ShS := ⟨[.a 23], []⟩
def o0 (v0 : List TV) (y : Bool × (Unit) × (Unit) × Unit) : Alt := .two y.1 (.one .ret (xh0.b (false, ()))) (.one (.exit 0) (xh1.b (())))
def tb (lf : Nat) : List (FuncId × Entry) := [(16, surveyorref23_Few.E lf)]
def s13_4 (lf : Nat) : List (Nat × (St → Option LTE)) := [(0, sumE sh0 fun (p : (List TV) × Int × Unit) => ⟨Bool × (Unit) × (Unit) × Unit, l0 lf p.1 (lf + 40) p.2.1, o0 p.1⟩)]
def ls (lf : Nat) : List (Nat × FuncId × Sums) := [(13, 4, sumsL (s13_4 lf))]
def it0 {ρ : Type} (lf n : Nat) (st : St) (k : KE ρ) : Option ρ := itG anns (ls lf) (tb lf) lf 13 4 0 0 (sumsL (s13_4 lf)) n st k
theorem t0 {ρ : Type} (lf n : Nat) (v0 : List TV) (v1 : Int) (k : KE ρ) : it0 lf (n + 1) (S0 (v0, v1, ())) k = r0 lf v0 v1 (fun x0 => it0 lf n (S0 (v0, x0, ())) k) (k .ret (xh0.b (false, ()))) (k (.exit 0) (xh1.b (()))) := by kernel_rfl
theorem u0 {ρ : Type} (lf : Nat) (v0 : List TV) (k : KE ρ) : ∀ (n : Nat) (v1 : Int), it0 lf n (S0 (v0, v1, ())) k = bd (l0 lf v0 n v1) fun y => altK k (o0 v0 y)
 | 0, _ => by rw [l0, bd_none]; rfl
 | n + 1, v1 => by
  rw [t0]; simp only [l0, r0, u0 lf v0 k n, bd_br, bd_bd, bd_some', bd_none, br_t, br_f, o0, altK]
theorem sl (lf : Nat) : SL anns (ls lf) (tb lf) lf (ls lf) := slC (laC (fun _ => by kernel_rfl) (fun _ (x : (List TV) × Int × Unit) k => leq_of (u0 lf x.1 k (lf + 40) x.2.1)) laN) slN
def f (lf : Nat) (a0 : List TV) : Option (Bool × Unit) :=
 br (decide (((a0.length : Nat) : Int) > 40)) (
 some (false, ())) (
 bd (l0 lf a0 (lf + 40) 0) fun z4 =>
 br z4.1 (
 some (false, ())) (
 some (true, ())))
def E (lf : Nat) : Entry := ⟨[(.sl yV)], [.bool], fun x => f lf x.1⟩
theorem ok (lf : Nat) : Ok 4 (E lf) := okL (tC (surveyorref23_Few.ok lf) tN) (aoC aoN) (sl lf) fun x => by kernel_rfl
end surveyorref24_Few
namespace surveyorref24_none
def f (lf : Nat) (a0 : TV) : Option (Bool × Unit) :=
 some (a0.1.1, ())
def E (lf : Nat) : Entry := ⟨[yV], [.bool], fun x => f lf x.1⟩
theorem ok (lf : Nat) : Ok 41 (E lf) := okT (an := (annsL [])) (lf := lf) tN aoN fun x => by kernel_rfl
end surveyorref24_none
namespace surveyorref24_Check
def anns : FuncId → FA := annsL [(14, ⟨annOf [(0, ⟨kx 27 [0, 3], [], []⟩, ⟨kx 27 [2], [], []⟩)], none, []⟩)]
def r0 {ρ : Type} (lf : Nat) (v0 : List TV) (v1 : Int) (K : Int → Option ρ) (E0 : Int → Option ρ) (E1 : Option ρ) : Option ρ :=
 br (decide (v1 < ((v0.length : Nat) : Int))) (
 bd (idxL v0 v1) fun y1 =>
 bd (surveyorref23_Check.f lf y1) fun r2 =>
 br (r2.1 != 0) (
 E0 r2.1) (
 bd (idxL v0 v1) fun y3 =>
 bd (surveyorref24_none.f lf y3) fun r4 =>
 br r4.1 (
 E0 16) (
 K (i64.wrap (v1 + 1))))) (
 E1)
def l0 (lf : Nat) (v0 : List TV) : Nat → Int → Option (Bool × (Int × Unit) × (Unit) × Unit)
 | 0, _ => none
 | n + 1, v1 => r0 lf v0 v1 (l0 lf v0 n) (fun w0 => some (true, (w0, ()), ((()), ()))) (some (false, (0, ()), ((()), ())))
def sh0 : ShS := ⟨[.s (.sl yV), .a 2, .s (.int .i64), .a 23], []⟩
def S0 (p : (List TV) × Int × Unit) : St := sh0.b p
def xh0 : ShS := ⟨[.a 2, .s (.int .i64), .a 24], []⟩
def xh1 : ShS := ⟨[.a 27], []⟩
def o0 (v0 : List TV) (y : Bool × (Int × Unit) × (Unit) × Unit) : Alt := .two y.1 (.one .ret (xh0.b (y.2.1.1, ()))) (.one (.exit 0) (xh1.b (())))
def tb (lf : Nat) : List (FuncId × Entry) := [(40, surveyorref23_Check.E lf), (41, surveyorref24_none.E lf)]
def s13_14 (lf : Nat) : List (Nat × (St → Option LTE)) := [(0, sumE sh0 fun (p : (List TV) × Int × Unit) => ⟨Bool × (Int × Unit) × (Unit) × Unit, l0 lf p.1 (lf + 40) p.2.1, o0 p.1⟩)]
def ls (lf : Nat) : List (Nat × FuncId × Sums) := [(13, 14, sumsL (s13_14 lf))]
def it0 {ρ : Type} (lf n : Nat) (st : St) (k : KE ρ) : Option ρ := itG anns (ls lf) (tb lf) lf 13 14 0 0 (sumsL (s13_14 lf)) n st k
theorem t0 {ρ : Type} (lf n : Nat) (v0 : List TV) (v1 : Int) (k : KE ρ) : it0 lf (n + 1) (S0 (v0, v1, ())) k = r0 lf v0 v1 (fun x0 => it0 lf n (S0 (v0, x0, ())) k) (fun w0 => k .ret (xh0.b (w0, ()))) (k (.exit 0) (xh1.b (()))) := by kernel_rfl
theorem u0 {ρ : Type} (lf : Nat) (v0 : List TV) (k : KE ρ) : ∀ (n : Nat) (v1 : Int), it0 lf n (S0 (v0, v1, ())) k = bd (l0 lf v0 n v1) fun y => altK k (o0 v0 y)
 | 0, _ => by rw [l0, bd_none]; rfl
 | n + 1, v1 => by
  rw [t0]; simp only [l0, r0, u0 lf v0 k n, bd_br, bd_bd, bd_some', bd_none, br_t, br_f, o0, altK]
theorem sl (lf : Nat) : SL anns (ls lf) (tb lf) lf (ls lf) := slC (laC (fun _ => by kernel_rfl) (fun _ (x : (List TV) × Int × Unit) k => leq_of (u0 lf x.1 k (lf + 40) x.2.1)) laN) slN
def f (lf : Nat) (a0 : List TV) : Option (Int × Unit) :=
 br (decide (((a0.length : Nat) : Int) > 32)) (
 some (5, ())) (
 bd (l0 lf a0 (lf + 40) 0) fun z5 =>
 br z5.1 (
 some (z5.2.1.1, ())) (
 some (0, ())))
def E (lf : Nat) : Entry := ⟨[(.sl yV)], [(.int .i64)], fun x => f lf x.1⟩
theorem ok (lf : Nat) : Ok 14 (E lf) := okL (tC (surveyorref23_Check.ok lf) (tC (surveyorref24_none.ok lf) tN)) (aoC aoN) (sl lf) fun x => by kernel_rfl
end surveyorref24_Check
namespace surveyorref24_In
def anns : FuncId → FA := annsL [(32, ⟨annOf [(0, ⟨kx 22 [0, 1, 5], [], []⟩, ⟨kx 22 [4], [], []⟩)], none, []⟩)]
def r0 {ρ : Type} (lf : Nat) (v0 : List TV) (v1 : List ByteArray) (v2 : Int) (K : Int → Option ρ) (E0 : Option ρ) (E1 : Option ρ) : Option ρ :=
 br (decide (v2 < ((v0.length : Nat) : Int))) (
 bd (idxL v0 v2) fun y1 =>
 bd (idxL v1 v2) fun y2 =>
 bd (surveyorref23_In.f lf y1 y2) fun r3 =>
 br (!r3.1) (
 E0) (
 K (i64.wrap (v2 + 1)))) (
 E1)
def l0 (lf : Nat) (v0 : List TV) (v1 : List ByteArray) : Nat → Int → Option (Bool × (Unit) × (Unit) × Unit)
 | 0, _ => none
 | n + 1, v2 => r0 lf v0 v1 v2 (l0 lf v0 v1 n) (some (true, (()), ((()), ()))) (some (false, (()), ((()), ())))
def sh0 : ShS := ⟨[.s (.sl yV), .s (.sl .str), .a 3, .s (.int .i64), .a 16], []⟩
def S0 (p : (List TV) × (List ByteArray) × Int × Unit) : St := sh0.b p
def xh0 : ShS := ⟨[.a 4, .s .bool, .a 17], []⟩
def xh1 : ShS := ⟨[.a 22], []⟩
def o0 (v0 : List TV) (v1 : List ByteArray) (y : Bool × (Unit) × (Unit) × Unit) : Alt := .two y.1 (.one .ret (xh0.b (false, ()))) (.one (.exit 0) (xh1.b (())))
def tb (lf : Nat) : List (FuncId × Entry) := [(62, surveyorref23_In.E lf)]
def s13_32 (lf : Nat) : List (Nat × (St → Option LTE)) := [(0, sumE sh0 fun (p : (List TV) × (List ByteArray) × Int × Unit) => ⟨Bool × (Unit) × (Unit) × Unit, l0 lf p.1 p.2.1 (lf + 40) p.2.2.1, o0 p.1 p.2.1⟩)]
def ls (lf : Nat) : List (Nat × FuncId × Sums) := [(13, 32, sumsL (s13_32 lf))]
def it0 {ρ : Type} (lf n : Nat) (st : St) (k : KE ρ) : Option ρ := itG anns (ls lf) (tb lf) lf 13 32 0 0 (sumsL (s13_32 lf)) n st k
theorem t0 {ρ : Type} (lf n : Nat) (v0 : List TV) (v1 : List ByteArray) (v2 : Int) (k : KE ρ) : it0 lf (n + 1) (S0 (v0, v1, v2, ())) k = r0 lf v0 v1 v2 (fun x0 => it0 lf n (S0 (v0, v1, x0, ())) k) (k .ret (xh0.b (false, ()))) (k (.exit 0) (xh1.b (()))) := by kernel_rfl
theorem u0 {ρ : Type} (lf : Nat) (v0 : List TV) (v1 : List ByteArray) (k : KE ρ) : ∀ (n : Nat) (v2 : Int), it0 lf n (S0 (v0, v1, v2, ())) k = bd (l0 lf v0 v1 n v2) fun y => altK k (o0 v0 v1 y)
 | 0, _ => by rw [l0, bd_none]; rfl
 | n + 1, v2 => by
  rw [t0]; simp only [l0, r0, u0 lf v0 v1 k n, bd_br, bd_bd, bd_some', bd_none, br_t, br_f, o0, altK]
theorem sl (lf : Nat) : SL anns (ls lf) (tb lf) lf (ls lf) := slC (laC (fun _ => by kernel_rfl) (fun _ (x : (List TV) × (List ByteArray) × Int × Unit) k => leq_of (u0 lf x.1 x.2.1 k (lf + 40) x.2.2.1)) laN) slN
def f (lf : Nat) (a0 : List TV) (a1 : List ByteArray) : Option (Bool × Unit) :=
 bd (l0 lf a0 a1 (lf + 40) 0) fun z4 =>
 br z4.1 (
 some (false, ())) (
 some (true, ()))
def E (lf : Nat) : Entry := ⟨[(.sl yV), (.sl .str)], [.bool], fun x => f lf x.1 x.2.1⟩
theorem ok (lf : Nat) : Ok 32 (E lf) := okL (tC (surveyorref23_In.ok lf) tN) (aoC aoN) (sl lf) fun x => by kernel_rfl
end surveyorref24_In
namespace surveyorref24_Holds
def anns : FuncId → FA := annsL [(8, ⟨annOf [(0, ⟨kx 36 [0, 1, 7], [], []⟩, ⟨kx 36 [0, 1, 4, 5], [], []⟩)], none, []⟩)]
def r0 {ρ : Type} (lf : Nat) (v0 : List TV) (v1 : List ByteArray) (v2 : Int) (K : Int → Option ρ) (E0 : Int → Option ρ) (E1 : Option ρ) : Option ρ :=
 br (decide (v2 < ((v1.length : Nat) : Int))) (
 bd (idxL v1 v2) fun y2 =>
 bd (surveyorref01_Check.f lf y2) fun r3 =>
 br (r3.1 != 0) (
 E0 r3.1) (
 K (i64.wrap (v2 + 1)))) (
 E1)
def l0 (lf : Nat) (v0 : List TV) (v1 : List ByteArray) : Nat → Int → Option (Bool × (Int × Unit) × (Unit) × Unit)
 | 0, _ => none
 | n + 1, v2 => r0 lf v0 v1 v2 (l0 lf v0 v1 n) (fun w0 => some (true, (w0, ()), ((()), ()))) (some (false, (0, ()), ((()), ())))
def sh0 : ShS := ⟨[.s (.sl yV), .s (.sl .str), .a 5, .s (.int .i64), .a 28], []⟩
def S0 (p : (List TV) × (List ByteArray) × Int × Unit) : St := sh0.b p
def xh0 : ShS := ⟨[.s (.sl yV), .s (.sl .str), .a 2, .s .bool, .s (.int .i64), .a 30], []⟩
def xh1 : ShS := ⟨[.s (.sl yV), .s (.sl .str), .a 34], []⟩
def o0 (v0 : List TV) (v1 : List ByteArray) (y : Bool × (Int × Unit) × (Unit) × Unit) : Alt := .two y.1 (.one .ret (xh0.b (v0, v1, false, y.2.1.1, ()))) (.one (.exit 0) (xh1.b (v0, v1, ())))
def tb (lf : Nat) : List (FuncId × Entry) := [(14, surveyorref24_Check.E lf), (31, surveyorref01_Check.E lf), (32, surveyorref24_In.E lf)]
def s13_8 (lf : Nat) : List (Nat × (St → Option LTE)) := [(0, sumE sh0 fun (p : (List TV) × (List ByteArray) × Int × Unit) => ⟨Bool × (Int × Unit) × (Unit) × Unit, l0 lf p.1 p.2.1 (lf + 40) p.2.2.1, o0 p.1 p.2.1⟩)]
def ls (lf : Nat) : List (Nat × FuncId × Sums) := [(13, 8, sumsL (s13_8 lf))]
def it0 {ρ : Type} (lf n : Nat) (st : St) (k : KE ρ) : Option ρ := itG anns (ls lf) (tb lf) lf 13 8 0 0 (sumsL (s13_8 lf)) n st k
theorem t0 {ρ : Type} (lf n : Nat) (v0 : List TV) (v1 : List ByteArray) (v2 : Int) (k : KE ρ) : it0 lf (n + 1) (S0 (v0, v1, v2, ())) k = r0 lf v0 v1 v2 (fun x0 => it0 lf n (S0 (v0, v1, x0, ())) k) (fun w0 => k .ret (xh0.b (v0, v1, false, w0, ()))) (k (.exit 0) (xh1.b (v0, v1, ()))) := by kernel_rfl
theorem u0 {ρ : Type} (lf : Nat) (v0 : List TV) (v1 : List ByteArray) (k : KE ρ) : ∀ (n : Nat) (v2 : Int), it0 lf n (S0 (v0, v1, v2, ())) k = bd (l0 lf v0 v1 n v2) fun y => altK k (o0 v0 v1 y)
 | 0, _ => by rw [l0, bd_none]; rfl
 | n + 1, v2 => by
  rw [t0]; simp only [l0, r0, u0 lf v0 v1 k n, bd_br, bd_bd, bd_some', bd_none, br_t, br_f, o0, altK]
theorem sl (lf : Nat) : SL anns (ls lf) (tb lf) lf (ls lf) := slC (laC (fun _ => by kernel_rfl) (fun _ (x : (List TV) × (List ByteArray) × Int × Unit) k => leq_of (u0 lf x.1 x.2.1 k (lf + 40) x.2.2.1)) laN) slN
def f (lf : Nat) (a0 : List TV) (a1 : List ByteArray) : Option (Bool × Int × Unit) :=
 bd (surveyorref24_Check.f lf a0) fun r1 =>
 br (r1.1 != 0) (
 some (false, r1.1, ())) (
 br (((a1.length : Nat) : Int) != ((a0.length : Nat) : Int)) (
 some (false, 15, ())) (
 bd (l0 lf a0 a1 (lf + 40) 0) fun z4 =>
 br z4.1 (
 some (false, z4.2.1.1, ())) (
 bd (surveyorref24_In.f lf a0 a1) fun r5 =>
 some (r5.1, 0, ()))))
def E (lf : Nat) : Entry := ⟨[(.sl yV), (.sl .str)], [.bool, (.int .i64)], fun x => f lf x.1 x.2.1⟩
theorem ok (lf : Nat) : Ok 8 (E lf) := okL (tC (surveyorref24_Check.ok lf) (tC (surveyorref01_Check.ok lf) (tC (surveyorref24_In.ok lf) tN))) (aoC aoN) (sl lf) fun x => by kernel_rfl
end surveyorref24_Holds
end
end Go.Q
namespace Go.Q
open Go.IntKind (i64)
open Go Go.RowKit
open Go.Rx (br bd sIdx sCat sCut iQuo iRem iShl)
noncomputable section
namespace surveyorref24_Filled
def anns : FuncId → FA := annsL [(64, ⟨annOf [(0, ⟨kx 17 [0, 3, 5, 6], [⟨.tmp 5, yV, 47⟩], []⟩, ⟨kx 17 [4, 5], [⟨.tmp 5, yV, 47⟩], []⟩)], none, []⟩)]
def r0 {ρ : Type} (lf : Nat) (v0 : Int) (v2 : Bool) (v3 v4 : ByteArray) (v5 : Bool) (v6 v7 : ByteArray) (v1 : Int) (v8 : List TV) (K : Int → (List TV) → Option ρ) (E0 : (List TV) → Option ρ) : Option ρ :=
 br (decide (v1 < v0)) (
 bd (apL true 80 v8 [((v2, v3, v4, ()), (v5, v6, v7, ()), ())]) fun q1 =>
 K (i64.wrap (v1 + 1)) q1) (
 E0 v8)
def l0 (lf : Nat) (v0 : Int) (v2 : Bool) (v3 v4 : ByteArray) (v5 : Bool) (v6 v7 : ByteArray) : Nat → Int → (List TV) → Option (((List TV) × Unit) × Unit)
 | 0, _, _ => none
 | n + 1, v1, v8 => r0 lf v0 v2 v3 v4 v5 v6 v7 v1 v8 (l0 lf v0 v2 v3 v4 v5 v6 v7 n) (fun w0 => some ((w0, ()), ()))
def sh0 : ShS := ⟨[.s (.int .i64), .a 2, .s (.ptr 0 0), .a 1, .s (.row 1), .s (.int .i64), .a 10], [.cells [.s .bool, .s .str, .s .str, .s .bool, .s .str, .s .str] 47, .row yV 47 false]⟩
def S0 (p : Int × Int × Bool × ByteArray × ByteArray × Bool × ByteArray × ByteArray × (List TV) × Unit) : St := sh0.b p
def xh0 : ShS := ⟨[.a 5, .s (.row 1), .a 11], [.cells [.s .bool, .s .str, .s .str, .s .bool, .s .str, .s .str] 47, .row yV 47 false]⟩
def o0 (v0 : Int) (v2 : Bool) (v3 v4 : ByteArray) (v5 : Bool) (v6 v7 : ByteArray) (y : ((List TV) × Unit) × Unit) : Alt := .one (.exit 0) (xh0.b (v2, v3, v4, v5, v6, v7, y.1.1, ()))
def tb (lf : Nat) : List (FuncId × Entry) := []
def s13_64 (lf : Nat) : List (Nat × (St → Option LTE)) := [(0, sumE sh0 fun (p : Int × Int × Bool × ByteArray × ByteArray × Bool × ByteArray × ByteArray × (List TV) × Unit) => ⟨((List TV) × Unit) × Unit, l0 lf p.1 p.2.2.1 p.2.2.2.1 p.2.2.2.2.1 p.2.2.2.2.2.1 p.2.2.2.2.2.2.1 p.2.2.2.2.2.2.2.1 (lf + 40) p.2.1 p.2.2.2.2.2.2.2.2.1, o0 p.1 p.2.2.1 p.2.2.2.1 p.2.2.2.2.1 p.2.2.2.2.2.1 p.2.2.2.2.2.2.1 p.2.2.2.2.2.2.2.1⟩)]
def ls (lf : Nat) : List (Nat × FuncId × Sums) := [(13, 64, sumsL (s13_64 lf))]
def it0 {ρ : Type} (lf n : Nat) (st : St) (k : KE ρ) : Option ρ := itG anns (ls lf) (tb lf) lf 13 64 0 1 (sumsL (s13_64 lf)) n st k
theorem t0 {ρ : Type} (lf n : Nat) (v0 v1 : Int) (v2 : Bool) (v3 v4 : ByteArray) (v5 : Bool) (v6 v7 : ByteArray) (v8 : List TV) (k : KE ρ) : it0 lf (n + 1) (S0 (v0, v1, v2, v3, v4, v5, v6, v7, v8, ())) k = r0 lf v0 v2 v3 v4 v5 v6 v7 v1 v8 (fun x0 x1 => it0 lf n (S0 (v0, x0, v2, v3, v4, v5, v6, v7, x1, ())) k) (fun w0 => k (.exit 0) (xh0.b (v2, v3, v4, v5, v6, v7, w0, ()))) := by kernel_rfl
theorem u0 {ρ : Type} (lf : Nat) (v0 : Int) (v2 : Bool) (v3 v4 : ByteArray) (v5 : Bool) (v6 v7 : ByteArray) (k : KE ρ) : ∀ (n : Nat) (v1 : Int) (v8 : List TV), it0 lf n (S0 (v0, v1, v2, v3, v4, v5, v6, v7, v8, ())) k = bd (l0 lf v0 v2 v3 v4 v5 v6 v7 n v1 v8) fun y => altK k (o0 v0 v2 v3 v4 v5 v6 v7 y)
 | 0, _, _ => by rw [l0, bd_none]; rfl
 | n + 1, v1, v8 => by
  rw [t0]; simp only [l0, r0, u0 lf v0 v2 v3 v4 v5 v6 v7 k n, bd_br, bd_bd, bd_some', bd_none, br_t, br_f, o0, altK]
theorem sl (lf : Nat) : SL anns (ls lf) (tb lf) lf (ls lf) := slC (laC (fun _ => by kernel_rfl) (fun _ (x : Int × Int × Bool × ByteArray × ByteArray × Bool × ByteArray × ByteArray × (List TV) × Unit) k => leq_of (u0 lf x.1 x.2.2.1 x.2.2.2.1 x.2.2.2.2.1 x.2.2.2.2.2.1 x.2.2.2.2.2.2.1 x.2.2.2.2.2.2.2.1 k (lf + 40) x.2.1 x.2.2.2.2.2.2.2.2.1)) laN) slN
def f (lf : Nat) (a0 : Int) (a1 : TV) : Option ((List TV) × Unit) :=
 bd (l0 lf a0 a1.1.1 a1.1.2.1 a1.1.2.2.1 a1.2.1.1 a1.2.1.2.1 a1.2.1.2.2.1 (lf + 40) 0 []) fun z2 =>
 some (z2.1.1, ())
def E (lf : Nat) : Entry := ⟨[(.int .i64), yV], [(.sl yV)], fun x => f lf x.1 x.2.1⟩
theorem ok (lf : Nat) : Ok 64 (E lf) := okL tN (aoC aoN) (sl lf) fun x => by kernel_rfl
end surveyorref24_Filled
namespace surveyorref24_All
def f (lf : Nat) (a0 : Int) (a1 : TV) : Option ((List TV) × Int × Unit) :=
 br (decide (a0 < 0)) (
 some ([], 2, ())) (
 br (decide (a0 > 32)) (
 some ([], 2, ())) (
 bd (surveyorref24_Filled.f lf a0 a1) fun r1 =>
 some (r1.1, 0, ())))
def E (lf : Nat) : Entry := ⟨[(.int .i64), yV], [(.sl yV), (.int .i64)], fun x => f lf x.1 x.2.1⟩
theorem ok (lf : Nat) : Ok 35 (E lf) := okT (an := (annsL [])) (lf := lf) (tC (surveyorref24_Filled.ok lf) tN) aoN fun x => by kernel_rfl
end surveyorref24_All
namespace surveyorref24_Top
def f (lf : Nat) (a0 : Int) : Option ((List TV) × Int × Unit) :=
 bd (surveyorref23_Top.f lf) fun r1 =>
 bd (surveyorref24_All.f lf a0 r1.1) fun r2 =>
 some (r2.1, r2.2.1, ())
def E (lf : Nat) : Entry := ⟨[(.int .i64)], [(.sl yV), (.int .i64)], fun x => f lf x.1⟩
theorem ok (lf : Nat) : Ok 10 (E lf) := okT (an := (annsL [])) (lf := lf) (tC (surveyorref24_All.ok lf) (tC (surveyorref23_Top.ok lf) tN)) aoN fun x => by kernel_rfl
end surveyorref24_Top
namespace surveyorref24_Zero
def f (lf : Nat) (a0 : Int) : Option ((List TV) × Int × Unit) :=
 bd (surveyorref23_One.f lf (⟨#[48]⟩ : ByteArray)) fun r1 =>
 bd (surveyorref24_All.f lf a0 r1.1) fun r2 =>
 some (r2.1, r2.2.1, ())
def E (lf : Nat) : Entry := ⟨[(.int .i64)], [(.sl yV), (.int .i64)], fun x => f lf x.1⟩
theorem ok (lf : Nat) : Ok 12 (E lf) := okT (an := (annsL [])) (lf := lf) (tC (surveyorref24_All.ok lf) (tC (surveyorref23_One.ok lf) tN)) aoN fun x => by kernel_rfl
end surveyorref24_Zero
namespace surveyorref24_Same
def anns : FuncId → FA := annsL [(15, ⟨annOf [(0, ⟨kx 26 [0, 1, 5], [], []⟩, ⟨kx 26 [4], [], []⟩)], none, []⟩)]
def r0 {ρ : Type} (lf : Nat) (v0 v1 : List TV) (v2 : Int) (K : Int → Option ρ) (E0 : Option ρ) (E1 : Option ρ) : Option ρ :=
 br (decide (v2 < ((v0.length : Nat) : Int))) (
 bd (idxL v0 v2) fun y1 =>
 bd (idxL v1 v2) fun y2 =>
 bd (some (!(((y1.1.1 == y2.1.1) && ((y1.1.2.1 == y2.1.2.1) && ((y1.1.2.2.1 == y2.1.2.2.1) && true))) && (((y1.2.1.1 == y2.2.1.1) && ((y1.2.1.2.1 == y2.2.1.2.1) && ((y1.2.1.2.2.1 == y2.2.1.2.2.1) && true))) && true)))) fun r3 =>
 br r3 (
 E0) (
 K (i64.wrap (v2 + 1)))) (
 E1)
def l0 (lf : Nat) (v0 v1 : List TV) : Nat → Int → Option (Bool × (Unit) × (Unit) × Unit)
 | 0, _ => none
 | n + 1, v2 => r0 lf v0 v1 v2 (l0 lf v0 v1 n) (some (true, (()), ((()), ()))) (some (false, (()), ((()), ())))
def sh0 : ShS := ⟨[.s (.sl yV), .s (.sl yV), .a 3, .s (.int .i64), .a 20], []⟩
def S0 (p : (List TV) × (List TV) × Int × Unit) : St := sh0.b p
def xh0 : ShS := ⟨[.a 4, .s .bool, .a 21], []⟩
def xh1 : ShS := ⟨[.a 26], []⟩
def o0 (v0 v1 : List TV) (y : Bool × (Unit) × (Unit) × Unit) : Alt := .two y.1 (.one .ret (xh0.b (false, ()))) (.one (.exit 0) (xh1.b (())))
def tb (lf : Nat) : List (FuncId × Entry) := []
def s13_15 (lf : Nat) : List (Nat × (St → Option LTE)) := [(0, sumE sh0 fun (p : (List TV) × (List TV) × Int × Unit) => ⟨Bool × (Unit) × (Unit) × Unit, l0 lf p.1 p.2.1 (lf + 40) p.2.2.1, o0 p.1 p.2.1⟩)]
def ls (lf : Nat) : List (Nat × FuncId × Sums) := [(13, 15, sumsL (s13_15 lf))]
def it0 {ρ : Type} (lf n : Nat) (st : St) (k : KE ρ) : Option ρ := itG anns (ls lf) (tb lf) lf 13 15 0 0 (sumsL (s13_15 lf)) n st k
theorem t0 {ρ : Type} (lf n : Nat) (v0 v1 : List TV) (v2 : Int) (k : KE ρ) : it0 lf (n + 1) (S0 (v0, v1, v2, ())) k = r0 lf v0 v1 v2 (fun x0 => it0 lf n (S0 (v0, v1, x0, ())) k) (k .ret (xh0.b (false, ()))) (k (.exit 0) (xh1.b (()))) := by kernel_rfl
theorem u0 {ρ : Type} (lf : Nat) (v0 v1 : List TV) (k : KE ρ) : ∀ (n : Nat) (v2 : Int), it0 lf n (S0 (v0, v1, v2, ())) k = bd (l0 lf v0 v1 n v2) fun y => altK k (o0 v0 v1 y)
 | 0, _ => by rw [l0, bd_none]; rfl
 | n + 1, v2 => by
  rw [t0]; simp only [l0, r0, u0 lf v0 v1 k n, bd_br, bd_bd, bd_some', bd_none, br_t, br_f, o0, altK]
theorem sl (lf : Nat) : SL anns (ls lf) (tb lf) lf (ls lf) := slC (laC (fun _ => by kernel_rfl) (fun _ (x : (List TV) × (List TV) × Int × Unit) k => leq_of (u0 lf x.1 x.2.1 k (lf + 40) x.2.2.1)) laN) slN
def f (lf : Nat) (a0 : List TV) (a1 : List TV) : Option (Bool × Unit) :=
 br (((a0.length : Nat) : Int) != ((a1.length : Nat) : Int)) (
 some (false, ())) (
 bd (l0 lf a0 a1 (lf + 40) 0) fun z4 =>
 br z4.1 (
 some (false, ())) (
 some (true, ())))
def E (lf : Nat) : Entry := ⟨[(.sl yV), (.sl yV)], [.bool], fun x => f lf x.1 x.2.1⟩
theorem ok (lf : Nat) : Ok 15 (E lf) := okL tN (aoC aoN) (sl lf) fun x => by kernel_rfl
end surveyorref24_Same
end
end Go.Q
namespace Go.Q
open Go Go.RowKit
open Go.Rx (br bd sIdx sCat sCut iQuo iRem iShl)
noncomputable section
namespace surveyorref12_Var
def f (lf : Nat) (a0 : Int) : Option (EX × Unit) :=
 some ((EX.mk 1 (⟨#[]⟩ : ByteArray) a0 []), ())
def E (lf : Nat) : Entry := ⟨[(.int .i64)], [(.rc false)], fun x => f lf x.1⟩
theorem ok (lf : Nat) : Ok 19 (E lf) := okT (an := (annsL [])) (lf := lf) tN aoN fun x => by kernel_rfl
end surveyorref12_Var
namespace surveyorref12_Num
def f (lf : Nat) (a0 : ByteArray) : Option (EX × Unit) :=
 some ((EX.mk 0 a0 0 []), ())
def E (lf : Nat) : Entry := ⟨[.str], [(.rc false)], fun x => f lf x.1⟩
theorem ok (lf : Nat) : Ok 20 (E lf) := okT (an := (annsL [])) (lf := lf) tN aoN fun x => by kernel_rfl
end surveyorref12_Num
namespace surveyorref12_Two
def f (lf : Nat) (a0 : Int) (a1 : EX) (a2 : EX) : Option (EX × Unit) :=
 some ((EX.mk a0 (⟨#[]⟩ : ByteArray) 0 [(EX.mk a1.i a1.s a1.j a1.l), (EX.mk a2.i a2.s a2.j a2.l)]), ())
def E (lf : Nat) : Entry := ⟨[(.int .i64), (.rc false), (.rc false)], [(.rc false)], fun x => f lf x.1 x.2.1 x.2.2.1⟩
theorem ok (lf : Nat) : Ok 46 (E lf) := okT (an := (annsL [])) (lf := lf) tN aoN fun x => by kernel_rfl
end surveyorref12_Two
end
end Go.Q
namespace Go.Q
open Go Go.RowKit
open Go.Rx (br bd sIdx sCat sCut iQuo iRem iShl)
noncomputable section
namespace surveyorref13_Compare
def f (lf : Nat) (a0 : Int) (a1 : EX) (a2 : EX) : Option (CX × Unit) :=
 some ((CX.mk a0 [(EX.mk a1.i a1.s a1.j a1.l), (EX.mk a2.i a2.s a2.j a2.l)] []), ())
def E (lf : Nat) : Entry := ⟨[(.int .i64), (.rc false), (.rc false)], [(.rc true)], fun x => f lf x.1 x.2.1 x.2.2.1⟩
theorem ok (lf : Nat) : Ok 52 (E lf) := okT (an := (annsL [])) (lf := lf) tN aoN fun x => by kernel_rfl
end surveyorref13_Compare
namespace surveyorref13_Two
def f (lf : Nat) (a0 : Int) (a1 : CX) (a2 : CX) : Option (CX × Unit) :=
 some ((CX.mk a0 [] [(CX.mk a1.i a1.l a1.m), (CX.mk a2.i a2.l a2.m)]), ())
def E (lf : Nat) : Entry := ⟨[(.int .i64), (.rc true), (.rc true)], [(.rc true)], fun x => f lf x.1 x.2.1 x.2.2.1⟩
theorem ok (lf : Nat) : Ok 27 (E lf) := okT (an := (annsL [])) (lf := lf) tN aoN fun x => by kernel_rfl
end surveyorref13_Two
end
end Go.Q
