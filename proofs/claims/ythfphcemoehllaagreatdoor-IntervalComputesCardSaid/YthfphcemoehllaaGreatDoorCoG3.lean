import Derived.Test.YthfphcemoehllaaGreatDoorProg
import Derived.KernelRfl
import Derived.Test.YthfphcemoehllaaGreatDoorCoG1
import Derived.Test.YthfphcemoehllaaGreatDoorCoG2
import Derived.Test.YthfphcemoehllaaGreatDoorE3
set_option linter.unusedVariables false
set_option linter.unusedSimpArgs false
set_option linter.unusedSectionVars false
namespace Go.Q
open Go.IntKind (i64)
open Go Go.RowKit
open Go.Rx (br bd sIdx sCat sCut iQuo iRem)
set_option linter.unusedVariables false
set_option linter.unusedSimpArgs false
set_option maxRecDepth 100000
noncomputable section
namespace bigint_Add
noncomputable def f (lf : Nat) (a0 : ByteArray) (a1 : ByteArray) : Option (ByteArray × Int × Unit) :=
 bd (bigint_pair.f lf a0 a1) fun r1 =>
 br (r1.2.2.1 != 0) (
 some ((⟨#[]⟩ : ByteArray), r1.2.2.1, ())) (
 bd (bigint_sum.f lf r1.1 r1.2.1) fun r2 =>
 bd (bigint_written.f lf r2.1) fun r3 =>
 some (r3.1, r3.2.1, ()))
noncomputable def E (lf : Nat) : Entry := ⟨[.str, .str], [.str, (.int .i64)], fun x => f lf x.1 x.2.1⟩
theorem ok (lf : Nat) : Ok 90 (E lf) := okT (an := (annsL [])) (lf := lf) (tC (bigint_pair.ok lf) (tC (bigint_sum.ok lf) (tC (bigint_written.ok lf) tN))) aoN fun x => by kernel_rfl
end bigint_Add
namespace bigint_Sub
noncomputable def f (lf : Nat) (a0 : ByteArray) (a1 : ByteArray) : Option (ByteArray × Int × Unit) :=
 bd (bigint_pair.f lf a0 a1) fun r1 =>
 br (r1.2.2.1 != 0) (
 some ((⟨#[]⟩ : ByteArray), r1.2.2.1, ())) (
 bd (bigint_negated.f lf r1.2.1) fun r2 =>
 bd (bigint_sum.f lf r1.1 r2.1) fun r3 =>
 bd (bigint_written.f lf r3.1) fun r4 =>
 some (r4.1, r4.2.1, ()))
noncomputable def E (lf : Nat) : Entry := ⟨[.str, .str], [.str, (.int .i64)], fun x => f lf x.1 x.2.1⟩
theorem ok (lf : Nat) : Ok 91 (E lf) := okT (an := (annsL [])) (lf := lf) (tC (bigint_pair.ok lf) (tC (bigint_sum.ok lf) (tC (bigint_negated.ok lf) (tC (bigint_written.ok lf) tN)))) aoN fun x => by kernel_rfl
end bigint_Sub
namespace bigint_Neg
noncomputable def f (lf : Nat) (a0 : ByteArray) : Option (ByteArray × Int × Unit) :=
 bd (bigint_Sub.f lf (⟨#[48]⟩ : ByteArray) a0) fun r1 =>
 some (r1.1, r1.2.1, ())
noncomputable def E (lf : Nat) : Entry := ⟨[.str], [.str, (.int .i64)], fun x => f lf x.1⟩
theorem ok (lf : Nat) : Ok 47 (E lf) := okT (an := (annsL [])) (lf := lf) (tC (bigint_Sub.ok lf) tN) aoN fun x => by kernel_rfl
end bigint_Neg
namespace bigint_times
noncomputable def anns : FuncId → FA := annsL [(172, ⟨annOf [(0, ⟨kx 63 [1, 5, 17, 18, 19], [], []⟩, ⟨kx 63 [4, 5], [], []⟩), (1, ⟨kx 63 [1, 5, 6, 7, 8, 17, 18, 19, 24, 25, 26], [], []⟩, ⟨kx 63 [1, 4, 5, 6, 8, 17, 18, 19], [], []⟩)], none, []⟩)]
noncomputable def r1 {ρ : Type} (lf : Nat) (v0 : List Int) (v1 v2 : Int) (v4 : List Int) (v5 v6 : Int) (v7 : List Int) (v8 : Int) (v3 v9 : Int) (v10 : List Int) (K : Int → Int → (List Int) → Option ρ) (E0 : Int → (List Int) → Option ρ) : Option ρ :=
 br (decide (v9 < v8)) (
 bd (idxL v7 v9) fun y3 =>
 bd (idxB v10.length (i64.wrap (v1 + v9))) fun j4 =>
 bd (v10[j4]?) fun y5 =>
 bd (iRem (i64.wrap (v3 + (i64.wrap (y5 + (i64.wrap (v2 * y3)))))) 1000000000) fun r6 =>
 bd (iQuo .i64 (i64.wrap (v3 + (i64.wrap (y5 + (i64.wrap (v2 * y3)))))) 1000000000) fun r7 =>
 bd (idxB v10.length (i64.wrap (v1 + v9))) fun j8 =>
 bd (upE v10 j8 fun _ => some r6) fun q9 =>
 K r7 (i64.wrap (v9 + 1)) q9) (
 E0 v3 v10)
noncomputable def l1 (lf : Nat) (v0 : List Int) (v1 v2 : Int) (v4 : List Int) (v5 v6 : Int) (v7 : List Int) (v8 : Int) : Nat → Int → Int → (List Int) → Option ((Int × (List Int) × Unit) × Unit)
 | 0, _, _, _ => none
 | n + 1, v3, v9, v10 => r1 lf v0 v1 v2 v4 v5 v6 v7 v8 v3 v9 v10 (l1 lf v0 v1 v2 v4 v5 v6 v7 v8 n) (fun w0 w1 => some ((w0, w1, ()), ()))
noncomputable def sh1 : ShS := ⟨[.a 1, .s (.sl (.int .i64)), .a 3, .s (.row 0), .s (.int .i64), .s (.int .i64), .s (.int .i64), .a 8, .s (.sl (.int .i64)), .s (.int .i64), .s (.int .i64), .a 4, .s (.sl (.int .i64)), .s (.int .i64), .s (.int .i64), .a 36], [.row (.int .i64) 3 false]⟩
noncomputable def S1 (p : (List Int) × Int × Int × Int × (List Int) × Int × Int × (List Int) × Int × Int × (List Int) × Unit) : St := sh1.b p
noncomputable def xh0 : ShS := ⟨[.a 1, .s (.sl (.int .i64)), .a 3, .s (.row 0), .s (.int .i64), .a 1, .s (.int .i64), .a 8, .s (.sl (.int .i64)), .s (.int .i64), .s (.int .i64), .a 43], [.row (.int .i64) 3 false]⟩
noncomputable def o1 (v0 : List Int) (v1 v2 : Int) (v4 : List Int) (v5 v6 : Int) (v7 : List Int) (v8 : Int) (y : (Int × (List Int) × Unit) × Unit) : Alt := .one (.exit 2) (xh0.b (v0, v1, y.1.1, v4, v5, v6, y.1.2.1, ()))
noncomputable def r0 {ρ : Type} (lf : Nat) (v0 v1 : List Int) (v2 : Int) (v3 : Int) (v4 : List Int) (K : Int → (List Int) → Option ρ) (E0 : (List Int) → Option ρ) : Option ρ :=
 br (decide (v3 < v2)) (
 bd (idxL v1 v3) fun y2 =>
 bd (l1 lf v0 v3 y2 v1 v2 v3 v0 ((v0.length : Nat) : Int) (lf + 40) 0 0 v4) fun z11 =>
 bd (idxB z11.1.2.1.length (i64.wrap (v3 + ((v0.length : Nat) : Int)))) fun j12 =>
 bd (upE z11.1.2.1 j12 fun _ => some z11.1.1) fun q13 =>
 K (i64.wrap (v3 + 1)) q13) (
 E0 v4)
noncomputable def l0 (lf : Nat) (v0 v1 : List Int) (v2 : Int) : Nat → Int → (List Int) → Option (((List Int) × Unit) × Unit)
 | 0, _, _ => none
 | n + 1, v3, v4 => r0 lf v0 v1 v2 v3 v4 (l0 lf v0 v1 v2 n) (fun w0 => some ((w0, ()), ()))
noncomputable def sh0 : ShS := ⟨[.a 1, .s (.sl (.int .i64)), .a 3, .s (.row 0), .a 11, .s (.sl (.int .i64)), .s (.int .i64), .s (.int .i64), .a 43], [.row (.int .i64) 3 false]⟩
noncomputable def S0 (p : (List Int) × (List Int) × Int × Int × (List Int) × Unit) : St := sh0.b p
noncomputable def xh1 : ShS := ⟨[.a 5, .s (.row 0), .a 57], [.row (.int .i64) 3 false]⟩
noncomputable def o0 (v0 v1 : List Int) (v2 : Int) (y : ((List Int) × Unit) × Unit) : Alt := .one (.exit 0) (xh1.b (y.1.1, ()))
noncomputable def tb (lf : Nat) : List (FuncId × Entry) := [(149, bigint_trim.E lf)]
noncomputable def s13_172 (lf : Nat) : List (Nat × (St → Option LTE)) := [(0, sumE sh0 fun (p : (List Int) × (List Int) × Int × Int × (List Int) × Unit) => ⟨((List Int) × Unit) × Unit, l0 lf p.1 p.2.1 p.2.2.1 (lf + 40) p.2.2.2.1 p.2.2.2.2.1, o0 p.1 p.2.1 p.2.2.1⟩),
 (1, sumE sh1 fun (p : (List Int) × Int × Int × Int × (List Int) × Int × Int × (List Int) × Int × Int × (List Int) × Unit) => ⟨(Int × (List Int) × Unit) × Unit, l1 lf p.1 p.2.1 p.2.2.1 p.2.2.2.2.1 p.2.2.2.2.2.1 p.2.2.2.2.2.2.1 p.2.2.2.2.2.2.2.1 p.2.2.2.2.2.2.2.2.1 (lf + 40) p.2.2.2.1 p.2.2.2.2.2.2.2.2.2.1 p.2.2.2.2.2.2.2.2.2.2.1, o1 p.1 p.2.1 p.2.2.1 p.2.2.2.2.1 p.2.2.2.2.2.1 p.2.2.2.2.2.2.1 p.2.2.2.2.2.2.2.1 p.2.2.2.2.2.2.2.2.1⟩)]
noncomputable def ls (lf : Nat) : List (Nat × FuncId × Sums) := [(13, 172, sumsL (s13_172 lf))]
noncomputable def it1 {ρ : Type} (lf n : Nat) (st : St) (k : KE ρ) : Option ρ := itG anns (ls lf) (tb lf) lf 13 172 1 1 (sumsL (s13_172 lf)) n st k
theorem t1 {ρ : Type} (lf n : Nat) (v0 : List Int) (v1 v2 v3 : Int) (v4 : List Int) (v5 v6 : Int) (v7 : List Int) (v8 v9 : Int) (v10 : List Int) (k : KE ρ) : it1 lf (n + 1) (S1 (v0, v1, v2, v3, v4, v5, v6, v7, v8, v9, v10, ())) k = r1 lf v0 v1 v2 v4 v5 v6 v7 v8 v3 v9 v10 (fun x0 x1 x2 => it1 lf n (S1 (v0, v1, v2, x0, v4, v5, v6, v7, v8, x1, x2, ())) k) (fun w0 w1 => k (.exit 2) (xh0.b (v0, v1, w0, v4, v5, v6, w1, ()))) := by kernel_rfl
theorem u1 {ρ : Type} (lf : Nat) (v0 : List Int) (v1 v2 : Int) (v4 : List Int) (v5 v6 : Int) (v7 : List Int) (v8 : Int) (k : KE ρ) : ∀ (n : Nat) (v3 v9 : Int) (v10 : List Int), it1 lf n (S1 (v0, v1, v2, v3, v4, v5, v6, v7, v8, v9, v10, ())) k = bd (l1 lf v0 v1 v2 v4 v5 v6 v7 v8 n v3 v9 v10) fun y => altK k (o1 v0 v1 v2 v4 v5 v6 v7 v8 y)
 | 0, _, _, _ => by rw [l1, bd_none]; rfl
 | n + 1, v3, v9, v10 => by
  rw [t1]; simp only [l1, r1, u1 lf v0 v1 v2 v4 v5 v6 v7 v8 k n, bd_br, bd_bd, bd_some', bd_none, br_t, br_f, o1, altK]
noncomputable def it0 {ρ : Type} (lf n : Nat) (st : St) (k : KE ρ) : Option ρ := itG anns (ls lf) (tb lf) lf 13 172 0 1 (sumsL (s13_172 lf)) n st k
theorem t0 {ρ : Type} (lf n : Nat) (v0 v1 : List Int) (v2 v3 : Int) (v4 : List Int) (k : KE ρ) : it0 lf (n + 1) (S0 (v0, v1, v2, v3, v4, ())) k = r0 lf v0 v1 v2 v3 v4 (fun x0 x1 => it0 lf n (S0 (v0, v1, v2, x0, x1, ())) k) (fun w0 => k (.exit 0) (xh1.b (w0, ()))) := by kernel_rfl
theorem u0 {ρ : Type} (lf : Nat) (v0 v1 : List Int) (v2 : Int) (k : KE ρ) : ∀ (n : Nat) (v3 : Int) (v4 : List Int), it0 lf n (S0 (v0, v1, v2, v3, v4, ())) k = bd (l0 lf v0 v1 v2 n v3 v4) fun y => altK k (o0 v0 v1 v2 y)
 | 0, _, _ => by rw [l0, bd_none]; rfl
 | n + 1, v3, v4 => by
  rw [t0]; simp only [l0, r0, u0 lf v0 v1 v2 k n, bd_br, bd_bd, bd_some', bd_none, br_t, br_f, o0, altK]
theorem sl (lf : Nat) : SL anns (ls lf) (tb lf) lf (ls lf) := slC (laC (fun _ => by kernel_rfl) (fun _ (x : (List Int) × (List Int) × Int × Int × (List Int) × Unit) k => leq_of (u0 lf x.1 x.2.1 x.2.2.1 k (lf + 40) x.2.2.2.1 x.2.2.2.2.1)) (laC (fun _ => by kernel_rfl) (fun _ (x : (List Int) × Int × Int × Int × (List Int) × Int × Int × (List Int) × Int × Int × (List Int) × Unit) k => leq_of (u1 lf x.1 x.2.1 x.2.2.1 x.2.2.2.2.1 x.2.2.2.2.2.1 x.2.2.2.2.2.2.1 x.2.2.2.2.2.2.2.1 x.2.2.2.2.2.2.2.2.1 k (lf + 40) x.2.2.2.1 x.2.2.2.2.2.2.2.2.2.1 x.2.2.2.2.2.2.2.2.2.2.1)) laN)) slN
noncomputable def f (lf : Nat) (a0 : List Int) (a1 : List Int) : Option ((List Int) × Unit) :=
 bd (mkL (i64.wrap (((a0.length : Nat) : Int) + ((a1.length : Nat) : Int))) (i64.wrap (((a0.length : Nat) : Int) + ((a1.length : Nat) : Int))) 8 0) fun q1 =>
 bd (l0 lf a1 a0 ((a0.length : Nat) : Int) (lf + 40) 0 q1) fun z15 =>
 bd (bigint_trim.f lf z15.1.1) fun r16 =>
 some (r16.1, ())
noncomputable def E (lf : Nat) : Entry := ⟨[(.sl (.int .i64)), (.sl (.int .i64))], [(.sl (.int .i64))], fun x => f lf x.1 x.2.1⟩
theorem ok (lf : Nat) : Ok 172 (E lf) := okL (tC (bigint_trim.ok lf) tN) (aoC aoN) (sl lf) fun x => by kernel_rfl
end bigint_times
namespace bigint_product
noncomputable def f (lf : Nat) (a0 : Bool × ((List Int) × Unit)) (a1 : Bool × ((List Int) × Unit)) : Option ((Bool × ((List Int) × Unit)) × Unit) :=
 bd (bigint_times.f lf a0.2.1 a1.2.1) fun r1 =>
 some (((a0.1 != a1.1), r1.1, ()), ())
noncomputable def E (lf : Nat) : Entry := ⟨[(.pair .bool (.pair (.sl (.int .i64)) .unit)), (.pair .bool (.pair (.sl (.int .i64)) .unit))], [(.pair .bool (.pair (.sl (.int .i64)) .unit))], fun x => f lf x.1 x.2.1⟩
theorem ok (lf : Nat) : Ok 137 (E lf) := okT (an := (annsL [])) (lf := lf) (tC (bigint_times.ok lf) tN) aoN fun x => by kernel_rfl
end bigint_product
namespace bigint_Mul
noncomputable def f (lf : Nat) (a0 : ByteArray) (a1 : ByteArray) : Option (ByteArray × Int × Unit) :=
 bd (bigint_pair.f lf a0 a1) fun r1 =>
 br (r1.2.2.1 != 0) (
 some ((⟨#[]⟩ : ByteArray), r1.2.2.1, ())) (
 bd (bigint_product.f lf r1.1 r1.2.1) fun r2 =>
 bd (bigint_written.f lf r2.1) fun r3 =>
 some (r3.1, r3.2.1, ()))
noncomputable def E (lf : Nat) : Entry := ⟨[.str, .str], [.str, (.int .i64)], fun x => f lf x.1 x.2.1⟩
theorem ok (lf : Nat) : Ok 92 (E lf) := okT (an := (annsL [])) (lf := lf) (tC (bigint_pair.ok lf) (tC (bigint_written.ok lf) (tC (bigint_product.ok lf) tN))) aoN fun x => by kernel_rfl
end bigint_Mul
namespace bigint_short
noncomputable def anns : FuncId → FA := annsL [(202, ⟨annOf [(0, ⟨kx 19 [0, 1, 3], [], []⟩, ⟨kx 19 [], [], []⟩)], none, []⟩), (222, ⟨annOf [(0, ⟨kx 33 [3, 6, 7], [], []⟩, ⟨[], [], []⟩)], none, []⟩)]
noncomputable def r0 {ρ : Type} (lf : Nat) (v1 : Int) (v4 : List Int) (v0 : Int) (v2 : List Int) (v3 : Int) (K : Int → (List Int) → Int → Option ρ) (E0 : (List Int) → Int → Option ρ) : Option ρ :=
 br (decide (v0 ≥ 0)) (
 bd (idxL v4 v0) fun y2 =>
 bd (iQuo .i64 (i64.wrap ((i64.wrap (v3 * 1000000000)) + y2)) v1) fun r3 =>
 bd (iRem (i64.wrap ((i64.wrap (v3 * 1000000000)) + y2)) v1) fun r4 =>
 bd (idxB v2.length v0) fun j5 =>
 bd (upE v2 j5 fun _ => some r3) fun q6 =>
 K (i64.wrap (v0 - 1)) q6 r4) (
 E0 v2 v3)
noncomputable def l0 (lf : Nat) (v1 : Int) (v4 : List Int) : Nat → Int → (List Int) → Int → Option (((List Int) × Int × Unit) × Unit)
 | 0, _, _, _ => none
 | n + 1, v0, v2, v3 => r0 lf v1 v4 v0 v2 v3 (l0 lf v1 v4 n) (fun w0 w1 => some ((w0, w1, ()), ()))
noncomputable def sh0 : ShS := ⟨[.s (.yld 5), .s (.ptr 4 0), .a 1, .s (.int .i64), .a 15], [.cells [.s (.int .i64)] 3, .row (.int .i64) 3 false, .cells [.s (.row 1)] 96, .cells [.s (.int .i64)] 3, .cells [.s (.sl (.int .i64))] 96, .rnd [.a 3, .s (.ptr 0 0), .a 2, .s (.ptr 2 0), .s (.ptr 3 0), .a 25] 222 0 .ready none]⟩
noncomputable def S0 (p : Int × Int × (List Int) × Int × (List Int) × Unit) : St := sh0.b p
noncomputable def xh0 : ShS := ⟨[.a 19], [.cells [.s (.int .i64)] 3, .row (.int .i64) 3 false, .cells [.s (.row 1)] 96, .cells [.s (.int .i64)] 3, .cells [.s (.sl (.int .i64))] 96, .rnd [.a 3, .s (.ptr 0 0), .a 2, .s (.ptr 2 0), .s (.ptr 3 0), .a 25] 222 0 .ready none]⟩
noncomputable def o0 (v1 : Int) (v4 : List Int) (y : ((List Int) × Int × Unit) × Unit) : Alt := .one (.exit 0) (xh0.b (v1, y.1.1, y.1.2.1, v4, ()))
noncomputable def tb (lf : Nat) : List (FuncId × Entry) := [(149, bigint_trim.E lf)]
noncomputable def s12_202 (lf : Nat) : List (Nat × (St → Option LTE)) := [(0, sumE sh0 fun (p : Int × Int × (List Int) × Int × (List Int) × Unit) => ⟨((List Int) × Int × Unit) × Unit, l0 lf p.2.1 p.2.2.2.2.1 (lf + 40) p.1 p.2.2.1 p.2.2.2.1, o0 p.2.1 p.2.2.2.2.1⟩)]
noncomputable def ls (lf : Nat) : List (Nat × FuncId × Sums) := [(12, 202, sumsL (s12_202 lf))]
noncomputable def it0 {ρ : Type} (lf n : Nat) (st : St) (k : KE ρ) : Option ρ := itG anns (ls lf) (tb lf) lf 12 202 0 6 (sumsL (s12_202 lf)) n st k
theorem t0 {ρ : Type} (lf n : Nat) (v0 v1 : Int) (v2 : List Int) (v3 : Int) (v4 : List Int) (k : KE ρ) : it0 lf (n + 1) (S0 (v0, v1, v2, v3, v4, ())) k = r0 lf v1 v4 v0 v2 v3 (fun x0 x1 x2 => it0 lf n (S0 (x0, v1, x1, x2, v4, ())) k) (fun w0 w1 => k (.exit 0) (xh0.b (v1, w0, w1, v4, ()))) := by kernel_rfl
theorem u0 {ρ : Type} (lf : Nat) (v1 : Int) (v4 : List Int) (k : KE ρ) : ∀ (n : Nat) (v0 : Int) (v2 : List Int) (v3 : Int), it0 lf n (S0 (v0, v1, v2, v3, v4, ())) k = bd (l0 lf v1 v4 n v0 v2 v3) fun y => altK k (o0 v1 v4 y)
 | 0, _, _, _ => by rw [l0, bd_none]; rfl
 | n + 1, v0, v2, v3 => by
  rw [t0]; simp only [l0, r0, u0 lf v1 v4 k n, bd_br, bd_bd, bd_some', bd_none, br_t, br_f, o0, altK]
theorem sl (lf : Nat) : SL anns (ls lf) (tb lf) lf (ls lf) := slC (laC (fun _ => by kernel_rfl) (fun _ (x : Int × Int × (List Int) × Int × (List Int) × Unit) k => leq_of (u0 lf x.2.1 x.2.2.2.2.1 k (lf + 40) x.1 x.2.2.1 x.2.2.2.1)) laN) slN
noncomputable def f (lf : Nat) (a0 : List Int) (a1 : Int) : Option ((List Int) × Int × Unit) :=
 bd (mkL ((a0.length : Nat) : Int) ((a0.length : Nat) : Int) 8 0) fun q1 =>
 bd (l0 lf a1 a0 (lf + 40) (i64.wrap (((a0.length : Nat) : Int) - 1)) q1 0) fun z8 =>
 bd (bigint_trim.f lf z8.1.1) fun r9 =>
 some (r9.1, z8.1.2.1, ())
noncomputable def E (lf : Nat) : Entry := ⟨[(.sl (.int .i64)), (.int .i64)], [(.sl (.int .i64)), (.int .i64)], fun x => f lf x.1 x.2.1⟩
theorem ok (lf : Nat) : Ok 222 (E lf) := okL (tC (bigint_trim.ok lf) tN) (aoC (aoC aoN)) (sl lf) fun x => by kernel_rfl
end bigint_short
end
end Go.Q
