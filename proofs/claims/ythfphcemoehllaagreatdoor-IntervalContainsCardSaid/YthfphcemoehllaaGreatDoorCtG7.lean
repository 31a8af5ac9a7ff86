import Derived.Test.YthfphcemoehllaaGreatDoorProg
import Derived.KernelRfl
import Derived.Test.YthfphcemoehllaaGreatDoorCtG1
import Derived.Test.YthfphcemoehllaaGreatDoorCtG3
import Derived.Test.YthfphcemoehllaaGreatDoorCtG4
import Derived.Test.YthfphcemoehllaaGreatDoorCtG5
import Derived.Test.YthfphcemoehllaaGreatDoorCtG6
import Derived.Test.YthfphcemoehllaaGreatDoorE3
set_option linter.unusedVariables false
set_option linter.unusedSimpArgs false
set_option linter.unusedSectionVars false
namespace Go.Q
open Go.IntKind (i64)
open Go Go.RowKit
open Go.Rx (br bd sIdx sCat sCut iQuo iRem)
set_option linter.unusedVariables false
set_option linter.unusedSimpArgs false
set_option maxRecDepth 100000
noncomputable section
namespace surveyorlaw21_span
noncomputable def f (lf : Nat) (a0 : ByteArray) (a1 : ByteArray) : Option ((Bool × (ByteArray × (ByteArray × Unit))) × Unit) :=
 some ((false, a0, a1, ()), ())
noncomputable def E (lf : Nat) : Entry := ⟨[.str, .str], [(.pair .bool (.pair .str (.pair .str .unit)))], fun x => f lf x.1 x.2.1⟩
theorem ok (lf : Nat) : Ok 39 (E lf) := okT (an := (annsL [])) (lf := lf) tN aoN fun x => by kernel_rfl
end surveyorlaw21_span
namespace surveyorlaw21_awake
noncomputable def anns : FuncId → FA := annsL [(12, ⟨annOf [(0, ⟨kx 202 [103, 104, 105], [], [0, 1, 2, 3, 4]⟩, ⟨kx 202 [0], [], [0, 1, 2, 3, 4]⟩)], none, []⟩)]
noncomputable def r0 {ρ : Type} (lf : Nat) (v0 : Int) (v2 : List ((Bool × (ByteArray × (ByteArray × Unit))) × ((Bool × (ByteArray × (ByteArray × Unit))) × ((Bool × (ByteArray × (ByteArray × Unit))) × Unit)))) (v1 : Int) (K : Int → Option ρ) (E0 : Option ρ) (E1 : Option ρ) : Option ρ :=
 br (decide (v1 < v0)) (
 bd (idxB v2.length v1) fun j36 =>
 bd (v2[j36]?) fun y37 =>
 bd (interval_Rem.f lf y37.1 y37.2.1) fun r38 =>
 br (r38.2.1 != 0) (
 E0) (
 bd (some (!((r38.1.1 == y37.2.2.1.1) && ((r38.1.2.1 == y37.2.2.1.2.1) && ((r38.1.2.2.1 == y37.2.2.1.2.2.1) && true))))) fun r39 =>
 br r39 (
 E0) (
 K (i64.wrap (v1 + 1))))) (
 E1)
noncomputable def l0 (lf : Nat) (v0 : Int) (v2 : List ((Bool × (ByteArray × (ByteArray × Unit))) × ((Bool × (ByteArray × (ByteArray × Unit))) × ((Bool × (ByteArray × (ByteArray × Unit))) × Unit)))) : Nat → Int → Option (Bool × (Unit) × (Unit) × Unit)
 | 0, _ => none
 | n + 1, v1 => r0 lf v0 v2 v1 (l0 lf v0 v2 n) (some (true, (()), ((()), ()))) (some (false, (()), ((()), ())))
noncomputable def sh0 : ShS := ⟨[.a 103, .s (.row 5), .s (.int .i64), .s (.int .i64), .a 96], [.gone, .gone, .gone, .gone, .gone, .row (.pair (.pair .bool (.pair .str (.pair .str .unit))) (.pair (.pair .bool (.pair .str (.pair .str .unit))) (.pair (.pair .bool (.pair .str (.pair .str .unit))) .unit))) 74 false]⟩
noncomputable def S0 (p : Int × Int × (List ((Bool × (ByteArray × (ByteArray × Unit))) × ((Bool × (ByteArray × (ByteArray × Unit))) × ((Bool × (ByteArray × (ByteArray × Unit))) × Unit)))) × Unit) : St := sh0.b p
noncomputable def xh0 : ShS := ⟨[.s .bool, .a 201], [.gone, .gone, .gone, .gone, .gone, .row (.pair (.pair .bool (.pair .str (.pair .str .unit))) (.pair (.pair .bool (.pair .str (.pair .str .unit))) (.pair (.pair .bool (.pair .str (.pair .str .unit))) .unit))) 74 false]⟩
noncomputable def xh1 : ShS := ⟨[.a 202], [.gone, .gone, .gone, .gone, .gone, .row (.pair (.pair .bool (.pair .str (.pair .str .unit))) (.pair (.pair .bool (.pair .str (.pair .str .unit))) (.pair (.pair .bool (.pair .str (.pair .str .unit))) .unit))) 74 false]⟩
noncomputable def o0 (v0 : Int) (v2 : List ((Bool × (ByteArray × (ByteArray × Unit))) × ((Bool × (ByteArray × (ByteArray × Unit))) × ((Bool × (ByteArray × (ByteArray × Unit))) × Unit)))) (y : Bool × (Unit) × (Unit) × Unit) : Alt := .two y.1 (.one .ret (xh0.b (false, v2, ()))) (.one (.exit 0) (xh1.b (v2, ())))
noncomputable def tb (lf : Nat) : List (FuncId × Entry) := [(13, interval_Widen.E lf), (15, interval_Narrow.E lf), (17, interval_Format.E lf), (30, interval_Refine.E lf), (39, surveyorlaw21_span.E lf), (48, interval_Mul.E lf), (49, interval_Quo.E lf), (50, interval_Rem.E lf)]
noncomputable def s13_12 (lf : Nat) : List (Nat × (St → Option LTE)) := [(0, sumE sh0 fun (p : Int × Int × (List ((Bool × (ByteArray × (ByteArray × Unit))) × ((Bool × (ByteArray × (ByteArray × Unit))) × ((Bool × (ByteArray × (ByteArray × Unit))) × Unit)))) × Unit) => ⟨Bool × (Unit) × (Unit) × Unit, l0 lf p.1 p.2.2.1 (lf + 40) p.2.1, o0 p.1 p.2.2.1⟩)]
noncomputable def ls (lf : Nat) : List (Nat × FuncId × Sums) := [(13, 12, sumsL (s13_12 lf))]
noncomputable def it0 {ρ : Type} (lf n : Nat) (st : St) (k : KE ρ) : Option ρ := itG anns (ls lf) (tb lf) lf 13 12 0 6 (sumsL (s13_12 lf)) n st k
theorem t0 {ρ : Type} (lf n : Nat) (v0 v1 : Int) (v2 : List ((Bool × (ByteArray × (ByteArray × Unit))) × ((Bool × (ByteArray × (ByteArray × Unit))) × ((Bool × (ByteArray × (ByteArray × Unit))) × Unit)))) (k : KE ρ) : it0 lf (n + 1) (S0 (v0, v1, v2, ())) k = r0 lf v0 v2 v1 (fun x0 => it0 lf n (S0 (v0, x0, v2, ())) k) (k .ret (xh0.b (false, v2, ()))) (k (.exit 0) (xh1.b (v2, ()))) := by kernel_rfl
theorem u0 {ρ : Type} (lf : Nat) (v0 : Int) (v2 : List ((Bool × (ByteArray × (ByteArray × Unit))) × ((Bool × (ByteArray × (ByteArray × Unit))) × ((Bool × (ByteArray × (ByteArray × Unit))) × Unit)))) (k : KE ρ) : ∀ (n : Nat) (v1 : Int), it0 lf n (S0 (v0, v1, v2, ())) k = bd (l0 lf v0 v2 n v1) fun y => altK k (o0 v0 v2 y)
 | 0, _ => by rw [l0, bd_none]; rfl
 | n + 1, v1 => by
  rw [t0]; simp only [l0, r0, u0 lf v0 v2 k n, bd_br, bd_bd, bd_some', bd_none, br_t, br_f, o0, altK]
theorem sl (lf : Nat) : SL anns (ls lf) (tb lf) lf (ls lf) := slC (laC (fun _ => by kernel_rfl) (fun _ (x : Int × Int × (List ((Bool × (ByteArray × (ByteArray × Unit))) × ((Bool × (ByteArray × (ByteArray × Unit))) × ((Bool × (ByteArray × (ByteArray × Unit))) × Unit)))) × Unit) k => leq_of (u0 lf x.1 x.2.2.1 k (lf + 40) x.2.1)) laN) slN
noncomputable def f (lf : Nat)  : Option (Bool × Unit) :=
 bd (surveyorlaw21_span.f lf (⟨#[45, 50]⟩ : ByteArray) (⟨#[51]⟩ : ByteArray)) fun r1 =>
 bd (surveyorlaw21_span.f lf (⟨#[45, 53]⟩ : ByteArray) (⟨#[52]⟩ : ByteArray)) fun r2 =>
 bd (interval_Mul.f lf r1.1 r2.1) fun r3 =>
 bd (surveyorlaw21_span.f lf (⟨#[49]⟩ : ByteArray) (⟨#[]⟩ : ByteArray)) fun r4 =>
 bd (surveyorlaw21_span.f lf (⟨#[48]⟩ : ByteArray) (⟨#[50]⟩ : ByteArray)) fun r5 =>
 bd (interval_Mul.f lf r4.1 r5.1) fun r6 =>
 bd (surveyorlaw21_span.f lf (⟨#[45, 55]⟩ : ByteArray) (⟨#[55]⟩ : ByteArray)) fun r7 =>
 bd (surveyorlaw21_span.f lf (⟨#[45, 50]⟩ : ByteArray) (⟨#[51]⟩ : ByteArray)) fun r8 =>
 bd (interval_Quo.f lf r7.1 r8.1) fun r9 =>
 bd (surveyorlaw21_span.f lf (⟨#[53]⟩ : ByteArray) (⟨#[57]⟩ : ByteArray)) fun r10 =>
 bd (surveyorlaw21_span.f lf (⟨#[50]⟩ : ByteArray) (⟨#[52]⟩ : ByteArray)) fun r11 =>
 bd (interval_Quo.f lf r10.1 r11.1) fun r12 =>
 bd (surveyorlaw21_span.f lf (⟨#[49]⟩ : ByteArray) (⟨#[50]⟩ : ByteArray)) fun r13 =>
 bd (surveyorlaw21_span.f lf (⟨#[48]⟩ : ByteArray) (⟨#[48]⟩ : ByteArray)) fun r14 =>
 bd (interval_Quo.f lf r13.1 r14.1) fun r15 =>
 br ((i64.wrap ((i64.wrap ((i64.wrap ((i64.wrap (r3.2.1 + r6.2.1)) + r9.2.1)) + r12.2.1)) + r15.2.1)) != 0) (
 some (false, ())) (
 bd (surveyorlaw21_span.f lf (⟨#[45, 49, 53]⟩ : ByteArray) (⟨#[49, 50]⟩ : ByteArray)) fun r16 =>
 bd (some (!((r3.1.1 == r16.1.1) && ((r3.1.2.1 == r16.1.2.1) && ((r3.1.2.2.1 == r16.1.2.2.1) && true))))) fun r17 =>
 br r17 (
 some (false, ())) (
 bd (surveyorlaw21_span.f lf (⟨#[48]⟩ : ByteArray) (⟨#[]⟩ : ByteArray)) fun r18 =>
 bd (some (!((r6.1.1 == r18.1.1) && ((r6.1.2.1 == r18.1.2.1) && ((r6.1.2.2.1 == r18.1.2.2.1) && true))))) fun r19 =>
 br r19 (
 some (false, ())) (
 bd (surveyorlaw21_span.f lf (⟨#[45, 55]⟩ : ByteArray) (⟨#[55]⟩ : ByteArray)) fun r20 =>
 bd (some (!((r9.1.1 == r20.1.1) && ((r9.1.2.1 == r20.1.2.1) && ((r9.1.2.2.1 == r20.1.2.2.1) && true))))) fun r21 =>
 br r21 (
 some (false, ())) (
 bd (surveyorlaw21_span.f lf (⟨#[49]⟩ : ByteArray) (⟨#[52]⟩ : ByteArray)) fun r22 =>
 bd (some (!((r12.1.1 == r22.1.1) && ((r12.1.2.1 == r22.1.2.1) && ((r12.1.2.2.1 == r22.1.2.2.1) && true))))) fun r23 =>
 br r23 (
 some (false, ())) (
 br (!r15.1.1) (
 some (false, ())) (
 bd (surveyorlaw21_span.f lf (⟨#[53]⟩ : ByteArray) (⟨#[57]⟩ : ByteArray)) fun r24 =>
 bd (surveyorlaw21_span.f lf (⟨#[52]⟩ : ByteArray) (⟨#[52]⟩ : ByteArray)) fun r25 =>
 bd (surveyorlaw21_span.f lf (⟨#[48]⟩ : ByteArray) (⟨#[51]⟩ : ByteArray)) fun r26 =>
 bd (surveyorlaw21_span.f lf (⟨#[53]⟩ : ByteArray) (⟨#[54]⟩ : ByteArray)) fun r27 =>
 bd (surveyorlaw21_span.f lf (⟨#[52]⟩ : ByteArray) (⟨#[52]⟩ : ByteArray)) fun r28 =>
 bd (surveyorlaw21_span.f lf (⟨#[49]⟩ : ByteArray) (⟨#[50]⟩ : ByteArray)) fun r29 =>
 bd (surveyorlaw21_span.f lf (⟨#[45, 49]⟩ : ByteArray) (⟨#[50]⟩ : ByteArray)) fun r30 =>
 bd (surveyorlaw21_span.f lf (⟨#[45, 51]⟩ : ByteArray) (⟨#[45, 51]⟩ : ByteArray)) fun r31 =>
 bd (surveyorlaw21_span.f lf (⟨#[45, 50]⟩ : ByteArray) (⟨#[48]⟩ : ByteArray)) fun r32 =>
 bd (surveyorlaw21_span.f lf (⟨#[48]⟩ : ByteArray) (⟨#[57]⟩ : ByteArray)) fun r33 =>
 bd (surveyorlaw21_span.f lf (⟨#[51]⟩ : ByteArray) (⟨#[50, 48]⟩ : ByteArray)) fun r34 =>
 bd (surveyorlaw21_span.f lf (⟨#[48]⟩ : ByteArray) (⟨#[57]⟩ : ByteArray)) fun r35 =>
 bd (l0 lf 4 [(r24.1, r25.1, r26.1, ()), (r27.1, r28.1, r29.1, ()), (r30.1, r31.1, r32.1, ()), (r33.1, r34.1, r35.1, ())] (lf + 40) 0) fun z40 =>
 br z40.1 (
 some (false, ())) (
 bd (surveyorlaw21_span.f lf (⟨#[48]⟩ : ByteArray) (⟨#[57]⟩ : ByteArray)) fun r41 =>
 bd (surveyorlaw21_span.f lf (⟨#[50]⟩ : ByteArray) (⟨#[52]⟩ : ByteArray)) fun r42 =>
 bd (interval_Refine.f lf 4 r41.1 r42.1) fun r43 =>
 bd (surveyorlaw21_span.f lf (⟨#[52]⟩ : ByteArray) (⟨#[57]⟩ : ByteArray)) fun r44 =>
 bd (surveyorlaw21_span.f lf (⟨#[52]⟩ : ByteArray) (⟨#[52]⟩ : ByteArray)) fun r45 =>
 bd (interval_Refine.f lf 3 r44.1 r45.1) fun r46 =>
 bd (surveyorlaw21_span.f lf (⟨#[48]⟩ : ByteArray) (⟨#[53]⟩ : ByteArray)) fun r47 =>
 bd (surveyorlaw21_span.f lf (⟨#[48]⟩ : ByteArray) (⟨#[55]⟩ : ByteArray)) fun r48 =>
 bd (interval_Widen.f lf r47.1 r48.1 [(⟨#[54]⟩ : ByteArray), (⟨#[49, 48]⟩ : ByteArray)]) fun r49 =>
 bd (surveyorlaw21_span.f lf (⟨#[48]⟩ : ByteArray) (⟨#[]⟩ : ByteArray)) fun r50 =>
 bd (surveyorlaw21_span.f lf (⟨#[50]⟩ : ByteArray) (⟨#[57]⟩ : ByteArray)) fun r51 =>
 bd (interval_Narrow.f lf r50.1 r51.1) fun r52 =>
 bd (surveyorlaw21_span.f lf (⟨#[]⟩ : ByteArray) (⟨#[51]⟩ : ByteArray)) fun r53 =>
 bd (interval_Format.f lf r53.1) fun r54 =>
 br ((i64.wrap ((i64.wrap ((i64.wrap ((i64.wrap (r43.2.2.1 + r46.2.2.1)) + r49.2.1)) + r52.2.1)) + r54.2.1)) == 0) (
 bd (surveyorlaw21_span.f lf (⟨#[48]⟩ : ByteArray) (⟨#[51]⟩ : ByteArray)) fun r55 =>
 bd (some ((r43.1.1 == r55.1.1) && ((r43.1.2.1 == r55.1.2.1) && ((r43.1.2.2.1 == r55.1.2.2.1) && true)))) fun r56 =>
 br r56 (
 bd (surveyorlaw21_span.f lf (⟨#[50]⟩ : ByteArray) (⟨#[52]⟩ : ByteArray)) fun r57 =>
 bd (some ((r43.2.1.1 == r57.1.1) && ((r43.2.1.2.1 == r57.1.2.1) && ((r43.2.1.2.2.1 == r57.1.2.2.1) && true)))) fun r58 =>
 br r58 (
 bd (surveyorlaw21_span.f lf (⟨#[53]⟩ : ByteArray) (⟨#[57]⟩ : ByteArray)) fun r59 =>
 bd (some ((r46.1.1 == r59.1.1) && ((r46.1.2.1 == r59.1.2.1) && ((r46.1.2.2.1 == r59.1.2.2.1) && true)))) fun r60 =>
 br r60 (
 bd (surveyorlaw21_span.f lf (⟨#[52]⟩ : ByteArray) (⟨#[52]⟩ : ByteArray)) fun r61 =>
 bd (some ((r46.2.1.1 == r61.1.1) && ((r46.2.1.2.1 == r61.1.2.1) && ((r46.2.1.2.2.1 == r61.1.2.2.1) && true)))) fun r62 =>
 br r62 (
 bd (surveyorlaw21_span.f lf (⟨#[48]⟩ : ByteArray) (⟨#[49, 48]⟩ : ByteArray)) fun r63 =>
 bd (some ((r49.1.1 == r63.1.1) && ((r49.1.2.1 == r63.1.2.1) && ((r49.1.2.2.1 == r63.1.2.2.1) && true)))) fun r64 =>
 br r64 (
 bd (surveyorlaw21_span.f lf (⟨#[48]⟩ : ByteArray) (⟨#[57]⟩ : ByteArray)) fun r65 =>
 bd (some ((r52.1.1 == r65.1.1) && ((r52.1.2.1 == r65.1.2.1) && ((r52.1.2.2.1 == r65.1.2.2.1) && true)))) fun r66 =>
 br r66 (
 some ((r54.1.toList == (⟨#[91, 45, 105, 110, 102, 44, 32, 51, 93]⟩ : ByteArray).toList), ())) (
 some (false, ()))) (
 some (false, ()))) (
 some (false, ()))) (
 some (false, ()))) (
 some (false, ()))) (
 some (false, ()))) (
 some (false, ())))))))))
noncomputable def E (lf : Nat) : Entry := ⟨[], [.bool], fun x => f lf ⟩
theorem ok (lf : Nat) : Ok 12 (E lf) := okL (tC (interval_Widen.ok lf) (tC (interval_Narrow.ok lf) (tC (interval_Format.ok lf) (tC (interval_Refine.ok lf) (tC (surveyorlaw21_span.ok lf) (tC (interval_Mul.ok lf) (tC (interval_Quo.ok lf) (tC (interval_Rem.ok lf) tN)))))))) (aoC aoN) (sl lf) fun x => by kernel_rfl
end surveyorlaw21_awake
namespace surveyorlaw21_right
noncomputable def f (lf : Nat) (a0 : Bool × (ByteArray × (ByteArray × Unit))) (a1 : Bool × (ByteArray × (ByteArray × Unit))) : Option (Bool × Unit) :=
 bd (surveyorref21_Check.f lf a0) fun r1 =>
 br (r1.1 == 0) (
 bd (surveyorref21_Check.f lf a1) fun r2 =>
 some ((r2.1 == 0), ())) (
 some (false, ()))
noncomputable def E (lf : Nat) : Entry := ⟨[(.pair .bool (.pair .str (.pair .str .unit))), (.pair .bool (.pair .str (.pair .str .unit)))], [.bool], fun x => f lf x.1 x.2.1⟩
theorem ok (lf : Nat) : Ok 23 (E lf) := okT (an := (annsL [])) (lf := lf) (tC (surveyorref21_Check.ok lf) tN) aoN fun x => by kernel_rfl
end surveyorlaw21_right
namespace surveyorlaw21_apply
noncomputable def f (lf : Nat) (a0 : Int) (a1 : Bool × (ByteArray × (ByteArray × Unit))) (a2 : Bool × (ByteArray × (ByteArray × Unit))) : Option ((Bool × (ByteArray × (ByteArray × Unit))) × Int × Unit) :=
 br (a0 == 3) (
 bd (interval_Add.f lf a1 a2) fun r1 =>
 some (r1.1, r1.2.1, ())) (
 br (a0 == 4) (
 bd (interval_Sub.f lf a1 a2) fun r2 =>
 some (r2.1, r2.2.1, ())) (
 br (a0 == 5) (
 bd (interval_Mul.f lf a1 a2) fun r3 =>
 some (r3.1, r3.2.1, ())) (
 br (a0 == 6) (
 bd (interval_Quo.f lf a1 a2) fun r4 =>
 some (r4.1, r4.2.1, ())) (
 bd (interval_Rem.f lf a1 a2) fun r5 =>
 some (r5.1, r5.2.1, ())))))
noncomputable def E (lf : Nat) : Entry := ⟨[(.int .i64), (.pair .bool (.pair .str (.pair .str .unit))), (.pair .bool (.pair .str (.pair .str .unit)))], [(.pair .bool (.pair .str (.pair .str .unit))), (.int .i64)], fun x => f lf x.1 x.2.1 x.2.2.1⟩
theorem ok (lf : Nat) : Ok 37 (E lf) := okT (an := (annsL [])) (lf := lf) (tC (interval_Mul.ok lf) (tC (interval_Quo.ok lf) (tC (interval_Rem.ok lf) (tC (interval_Add.ok lf) (tC (interval_Sub.ok lf) tN))))) aoN fun x => by kernel_rfl
end surveyorlaw21_apply
namespace surveyorlaw21_value
noncomputable def f (lf : Nat) (a0 : Int) (a1 : ByteArray) (a2 : ByteArray) : Option (ByteArray × Bool × Unit) :=
 br (a0 == 3) (
 bd (bigint_Add.f lf a1 a2) fun r1 =>
 some (r1.1, (r1.2.1 == 0), ())) (
 br (a0 == 4) (
 bd (bigint_Sub.f lf a1 a2) fun r2 =>
 some (r2.1, (r2.2.1 == 0), ())) (
 br (a0 == 5) (
 bd (bigint_Mul.f lf a1 a2) fun r3 =>
 some (r3.1, (r3.2.1 == 0), ())) (
 br (a0 == 6) (
 bd (bigint_Quo.f lf a1 a2) fun r4 =>
 some (r4.1, (r4.2.1 == 0), ())) (
 bd (bigint_Rem.f lf a1 a2) fun r5 =>
 some (r5.1, (r5.2.1 == 0), ())))))
noncomputable def E (lf : Nat) : Entry := ⟨[(.int .i64), .str, .str], [.str, .bool], fun x => f lf x.1 x.2.1 x.2.2.1⟩
theorem ok (lf : Nat) : Ok 46 (E lf) := okT (an := (annsL [])) (lf := lf) (tC (bigint_Add.ok lf) (tC (bigint_Sub.ok lf) (tC (bigint_Mul.ok lf) (tC (bigint_Quo.ok lf) (tC (bigint_Rem.ok lf) tN))))) aoN fun x => by kernel_rfl
end surveyorlaw21_value
end
end Go.Q
