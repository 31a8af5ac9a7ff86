import Derived.Test.YthfphcemoehllaaGreatDoorProg
import Derived.KernelRfl
import Derived.Test.YthfphcemoehllaaGreatDoorCoG10
import Derived.Test.YthfphcemoehllaaGreatDoorCoG12
import Derived.Test.YthfphcemoehllaaGreatDoorCoG5
import Derived.Test.YthfphcemoehllaaGreatDoorE3
set_option linter.unusedVariables false
set_option linter.unusedSimpArgs false
set_option linter.unusedSectionVars false
namespace Go.Q
open Go.IntKind (i64)
open Go Go.RowKit
open Go.Rx (br bd sIdx sCat sCut iQuo iRem)
set_option linter.unusedVariables false
set_option linter.unusedSimpArgs false
set_option maxRecDepth 100000
noncomputable section
namespace interval_residues
noncomputable def f (lf : Nat) (a0 : (Int × (ByteArray × Unit)) × ((Int × (ByteArray × Unit)) × Unit)) (a1 : ByteArray) : Option (((Int × (ByteArray × Unit)) × ((Int × (ByteArray × Unit)) × Unit)) × Unit) :=
 bd (interval_finite.f lf (⟨#[48]⟩ : ByteArray)) fun r1 =>
 bd (interval_sum.f lf a1 (⟨#[45, 49]⟩ : ByteArray)) fun r2 =>
 bd (interval_finite.f lf r2.1) fun r3 =>
 br (a0.1.1 != 0) (
 some ((r1.1, r3.1, ()), ())) (
 br (a0.2.1.1 != 0) (
 some ((r1.1, r3.1, ()), ())) (
 bd (interval_negated.f lf a0.1.2.1) fun r4 =>
 bd (interval_sum.f lf a0.2.1.2.1 r4.1) fun r5 =>
 bd (interval_order.f lf r5.1 r3.1.2.1) fun r6 =>
 br (decide (r6.1 ≥ 0)) (
 some ((r1.1, r3.1, ()), ())) (
 bd (bigint_Rem.f lf a0.1.2.1 a1) fun r7 =>
 bd (bigint_Rem.f lf a0.2.1.2.1 a1) fun r8 =>
 bd (interval_order.f lf r7.1 r8.1) fun r9 =>
 br (decide (r9.1 > 0)) (
 some ((r1.1, r3.1, ()), ())) (
 bd (interval_finite.f lf r7.1) fun r10 =>
 bd (interval_finite.f lf r8.1) fun r11 =>
 some ((r10.1, r11.1, ()), ())))))
noncomputable def E (lf : Nat) : Entry := ⟨[(.pair (.pair (.int .i64) (.pair .str .unit)) (.pair (.pair (.int .i64) (.pair .str .unit)) .unit)), .str], [(.pair (.pair (.int .i64) (.pair .str .unit)) (.pair (.pair (.int .i64) (.pair .str .unit)) .unit))], fun x => f lf x.1 x.2.1⟩
theorem ok (lf : Nat) : Ok 143 (E lf) := okT (an := (annsL [])) (lf := lf) (tC (interval_finite.ok lf) (tC (interval_order.ok lf) (tC (bigint_Rem.ok lf) (tC (interval_negated.ok lf) (tC (interval_sum.ok lf) tN))))) aoN fun x => by kernel_rfl
end interval_residues
namespace interval_remainders
noncomputable def f (lf : Nat) (a0 : (Int × (ByteArray × Unit)) × ((Int × (ByteArray × Unit)) × Unit)) (a1 : (Int × (ByteArray × Unit)) × ((Int × (ByteArray × Unit)) × Unit)) : Option (((Int × (ByteArray × Unit)) × ((Int × (ByteArray × Unit)) × Unit)) × Unit) :=
 bd (interval_span_single.f lf a1) fun r1 =>
 br r1.1 (
 bd (interval_residues.f lf a0 a1.1.2.1) fun r2 =>
 some (r2.1, ())) (
 bd (interval_sign.f lf a0.1) fun r3 =>
 br (decide (r3.1 ≥ 0)) (
 bd (interval_compare.f lf a0.2.1 a1.1) fun r4 =>
 br (decide (r4.1 < 0)) (
 some (a0, ())) (
 bd (interval_shifted.f lf a1.2.1 (⟨#[45, 49]⟩ : ByteArray)) fun r5 =>
 bd (interval_sign.f lf a0.1) fun r6 =>
 br (decide (r6.1 ≥ 0)) (
 bd (interval_least.f lf r5.1 a0.2.1) fun r7 =>
 bd (interval_finite.f lf (⟨#[48]⟩ : ByteArray)) fun r8 =>
 some ((r8.1, r7.1, ()), ())) (
 bd (interval_finite.f lf (⟨#[48]⟩ : ByteArray)) fun r9 =>
 some ((r9.1, r5.1, ()), ())))) (
 bd (interval_shifted.f lf a1.2.1 (⟨#[45, 49]⟩ : ByteArray)) fun r10 =>
 bd (interval_sign.f lf a0.1) fun r11 =>
 br (decide (r11.1 ≥ 0)) (
 bd (interval_least.f lf r10.1 a0.2.1) fun r12 =>
 bd (interval_finite.f lf (⟨#[48]⟩ : ByteArray)) fun r13 =>
 some ((r13.1, r12.1, ()), ())) (
 bd (interval_finite.f lf (⟨#[48]⟩ : ByteArray)) fun r14 =>
 some ((r14.1, r10.1, ()), ()))))
noncomputable def E (lf : Nat) : Entry := ⟨[(.pair (.pair (.int .i64) (.pair .str .unit)) (.pair (.pair (.int .i64) (.pair .str .unit)) .unit)), (.pair (.pair (.int .i64) (.pair .str .unit)) (.pair (.pair (.int .i64) (.pair .str .unit)) .unit))], [(.pair (.pair (.int .i64) (.pair .str .unit)) (.pair (.pair (.int .i64) (.pair .str .unit)) .unit))], fun x => f lf x.1 x.2.1⟩
theorem ok (lf : Nat) : Ok 100 (E lf) := okT (an := (annsL [])) (lf := lf) (tC (interval_compare.ok lf) (tC (interval_finite.ok lf) (tC (interval_least.ok lf) (tC (interval_shifted.ok lf) (tC (interval_span_single.ok lf) (tC (interval_sign.ok lf) (tC (interval_residues.ok lf) tN))))))) aoN fun x => by kernel_rfl
end interval_remainders
namespace interval_Rem
noncomputable def f (lf : Nat) (a0 : Bool × (ByteArray × (ByteArray × Unit))) (a1 : Bool × (ByteArray × (ByteArray × Unit))) : Option ((Bool × (ByteArray × (ByteArray × Unit))) × Int × Unit) :=
 bd (interval_Check.f lf a0) fun r1 =>
 br (r1.1 != 0) (
 br (r1.1 != 0) (
 some ((false, (⟨#[]⟩ : ByteArray), (⟨#[]⟩ : ByteArray), ()), r1.1, ())) (
 bd (interval_of.f lf a0) fun r2 =>
 bd (interval_of.f lf a1) fun r3 =>
 bd (interval_none.f lf) fun r4 =>
 bd (interval_span_positive.f lf r3.1) fun r5 =>
 bd (interval_span_empty.f lf r5.1) fun r6 =>
 br (!r6.1) (
 bd (interval_span_empty.f lf r2.1) fun r7 =>
 br (!r7.1) (
 bd (interval_remainders.f lf r2.1 r5.1) fun r8 =>
 bd (interval_span_turned.f lf r3.1) fun r9 =>
 bd (interval_span_positive.f lf r9.1) fun r10 =>
 bd (interval_span_empty.f lf r10.1) fun r11 =>
 br (!r11.1) (
 bd (interval_span_empty.f lf r2.1) fun r12 =>
 br (!r12.1) (
 bd (interval_span_turned.f lf r2.1) fun r13 =>
 bd (interval_remainders.f lf r13.1 r10.1) fun r14 =>
 bd (interval_span_turned.f lf r14.1) fun r15 =>
 bd (interval_span_hull.f lf r8.1 r15.1) fun r16 =>
 bd (interval_span_interval.f lf r16.1) fun r17 =>
 some (r17.1, 0, ())) (
 bd (interval_span_interval.f lf r8.1) fun r18 =>
 some (r18.1, 0, ()))) (
 bd (interval_span_interval.f lf r8.1) fun r19 =>
 some (r19.1, 0, ()))) (
 bd (interval_span_turned.f lf r3.1) fun r20 =>
 bd (interval_span_positive.f lf r20.1) fun r21 =>
 bd (interval_span_empty.f lf r21.1) fun r22 =>
 br (!r22.1) (
 bd (interval_span_empty.f lf r2.1) fun r23 =>
 br (!r23.1) (
 bd (interval_span_turned.f lf r2.1) fun r24 =>
 bd (interval_remainders.f lf r24.1 r21.1) fun r25 =>
 bd (interval_span_turned.f lf r25.1) fun r26 =>
 bd (interval_span_hull.f lf r4.1 r26.1) fun r27 =>
 bd (interval_span_interval.f lf r27.1) fun r28 =>
 some (r28.1, 0, ())) (
 bd (interval_span_interval.f lf r4.1) fun r29 =>
 some (r29.1, 0, ()))) (
 bd (interval_span_interval.f lf r4.1) fun r30 =>
 some (r30.1, 0, ())))) (
 bd (interval_span_turned.f lf r3.1) fun r31 =>
 bd (interval_span_positive.f lf r31.1) fun r32 =>
 bd (interval_span_empty.f lf r32.1) fun r33 =>
 br (!r33.1) (
 bd (interval_span_empty.f lf r2.1) fun r34 =>
 br (!r34.1) (
 bd (interval_span_turned.f lf r2.1) fun r35 =>
 bd (interval_remainders.f lf r35.1 r32.1) fun r36 =>
 bd (interval_span_turned.f lf r36.1) fun r37 =>
 bd (interval_span_hull.f lf r4.1 r37.1) fun r38 =>
 bd (interval_span_interval.f lf r38.1) fun r39 =>
 some (r39.1, 0, ())) (
 bd (interval_span_interval.f lf r4.1) fun r40 =>
 some (r40.1, 0, ()))) (
 bd (interval_span_interval.f lf r4.1) fun r41 =>
 some (r41.1, 0, ()))))) (
 bd (interval_Check.f lf a1) fun r42 =>
 br (r42.1 != 0) (
 br (r42.1 != 0) (
 some ((false, (⟨#[]⟩ : ByteArray), (⟨#[]⟩ : ByteArray), ()), r42.1, ())) (
 bd (interval_of.f lf a0) fun r43 =>
 bd (interval_of.f lf a1) fun r44 =>
 bd (interval_none.f lf) fun r45 =>
 bd (interval_span_positive.f lf r44.1) fun r46 =>
 bd (interval_span_empty.f lf r46.1) fun r47 =>
 br (!r47.1) (
 bd (interval_span_empty.f lf r43.1) fun r48 =>
 br (!r48.1) (
 bd (interval_remainders.f lf r43.1 r46.1) fun r49 =>
 bd (interval_span_turned.f lf r44.1) fun r50 =>
 bd (interval_span_positive.f lf r50.1) fun r51 =>
 bd (interval_span_empty.f lf r51.1) fun r52 =>
 br (!r52.1) (
 bd (interval_span_empty.f lf r43.1) fun r53 =>
 br (!r53.1) (
 bd (interval_span_turned.f lf r43.1) fun r54 =>
 bd (interval_remainders.f lf r54.1 r51.1) fun r55 =>
 bd (interval_span_turned.f lf r55.1) fun r56 =>
 bd (interval_span_hull.f lf r49.1 r56.1) fun r57 =>
 bd (interval_span_interval.f lf r57.1) fun r58 =>
 some (r58.1, 0, ())) (
 bd (interval_span_interval.f lf r49.1) fun r59 =>
 some (r59.1, 0, ()))) (
 bd (interval_span_interval.f lf r49.1) fun r60 =>
 some (r60.1, 0, ()))) (
 bd (interval_span_turned.f lf r44.1) fun r61 =>
 bd (interval_span_positive.f lf r61.1) fun r62 =>
 bd (interval_span_empty.f lf r62.1) fun r63 =>
 br (!r63.1) (
 bd (interval_span_empty.f lf r43.1) fun r64 =>
 br (!r64.1) (
 bd (interval_span_turned.f lf r43.1) fun r65 =>
 bd (interval_remainders.f lf r65.1 r62.1) fun r66 =>
 bd (interval_span_turned.f lf r66.1) fun r67 =>
 bd (interval_span_hull.f lf r45.1 r67.1) fun r68 =>
 bd (interval_span_interval.f lf r68.1) fun r69 =>
 some (r69.1, 0, ())) (
 bd (interval_span_interval.f lf r45.1) fun r70 =>
 some (r70.1, 0, ()))) (
 bd (interval_span_interval.f lf r45.1) fun r71 =>
 some (r71.1, 0, ())))) (
 bd (interval_span_turned.f lf r44.1) fun r72 =>
 bd (interval_span_positive.f lf r72.1) fun r73 =>
 bd (interval_span_empty.f lf r73.1) fun r74 =>
 br (!r74.1) (
 bd (interval_span_empty.f lf r43.1) fun r75 =>
 br (!r75.1) (
 bd (interval_span_turned.f lf r43.1) fun r76 =>
 bd (interval_remainders.f lf r76.1 r73.1) fun r77 =>
 bd (interval_span_turned.f lf r77.1) fun r78 =>
 bd (interval_span_hull.f lf r45.1 r78.1) fun r79 =>
 bd (interval_span_interval.f lf r79.1) fun r80 =>
 some (r80.1, 0, ())) (
 bd (interval_span_interval.f lf r45.1) fun r81 =>
 some (r81.1, 0, ()))) (
 bd (interval_span_interval.f lf r45.1) fun r82 =>
 some (r82.1, 0, ()))))) (
 bd (interval_of.f lf a0) fun r83 =>
 bd (interval_of.f lf a1) fun r84 =>
 bd (interval_none.f lf) fun r85 =>
 bd (interval_span_positive.f lf r84.1) fun r86 =>
 bd (interval_span_empty.f lf r86.1) fun r87 =>
 br (!r87.1) (
 bd (interval_span_empty.f lf r83.1) fun r88 =>
 br (!r88.1) (
 bd (interval_remainders.f lf r83.1 r86.1) fun r89 =>
 bd (interval_span_turned.f lf r84.1) fun r90 =>
 bd (interval_span_positive.f lf r90.1) fun r91 =>
 bd (interval_span_empty.f lf r91.1) fun r92 =>
 br (!r92.1) (
 bd (interval_span_empty.f lf r83.1) fun r93 =>
 br (!r93.1) (
 bd (interval_span_turned.f lf r83.1) fun r94 =>
 bd (interval_remainders.f lf r94.1 r91.1) fun r95 =>
 bd (interval_span_turned.f lf r95.1) fun r96 =>
 bd (interval_span_hull.f lf r89.1 r96.1) fun r97 =>
 bd (interval_span_interval.f lf r97.1) fun r98 =>
 some (r98.1, 0, ())) (
 bd (interval_span_interval.f lf r89.1) fun r99 =>
 some (r99.1, 0, ()))) (
 bd (interval_span_interval.f lf r89.1) fun r100 =>
 some (r100.1, 0, ()))) (
 bd (interval_span_turned.f lf r84.1) fun r101 =>
 bd (interval_span_positive.f lf r101.1) fun r102 =>
 bd (interval_span_empty.f lf r102.1) fun r103 =>
 br (!r103.1) (
 bd (interval_span_empty.f lf r83.1) fun r104 =>
 br (!r104.1) (
 bd (interval_span_turned.f lf r83.1) fun r105 =>
 bd (interval_remainders.f lf r105.1 r102.1) fun r106 =>
 bd (interval_span_turned.f lf r106.1) fun r107 =>
 bd (interval_span_hull.f lf r85.1 r107.1) fun r108 =>
 bd (interval_span_interval.f lf r108.1) fun r109 =>
 some (r109.1, 0, ())) (
 bd (interval_span_interval.f lf r85.1) fun r110 =>
 some (r110.1, 0, ()))) (
 bd (interval_span_interval.f lf r85.1) fun r111 =>
 some (r111.1, 0, ())))) (
 bd (interval_span_turned.f lf r84.1) fun r112 =>
 bd (interval_span_positive.f lf r112.1) fun r113 =>
 bd (interval_span_empty.f lf r113.1) fun r114 =>
 br (!r114.1) (
 bd (interval_span_empty.f lf r83.1) fun r115 =>
 br (!r115.1) (
 bd (interval_span_turned.f lf r83.1) fun r116 =>
 bd (interval_remainders.f lf r116.1 r113.1) fun r117 =>
 bd (interval_span_turned.f lf r117.1) fun r118 =>
 bd (interval_span_hull.f lf r85.1 r118.1) fun r119 =>
 bd (interval_span_interval.f lf r119.1) fun r120 =>
 some (r120.1, 0, ())) (
 bd (interval_span_interval.f lf r85.1) fun r121 =>
 some (r121.1, 0, ()))) (
 bd (interval_span_interval.f lf r85.1) fun r122 =>
 some (r122.1, 0, ())))))
noncomputable def E (lf : Nat) : Entry := ⟨[(.pair .bool (.pair .str (.pair .str .unit))), (.pair .bool (.pair .str (.pair .str .unit)))], [(.pair .bool (.pair .str (.pair .str .unit))), (.int .i64)], fun x => f lf x.1 x.2.1⟩
theorem ok (lf : Nat) : Ok 50 (E lf) := okT (an := (annsL [])) (lf := lf) (tC (interval_Check.ok lf) (tC (interval_of.ok lf) (tC (interval_span_empty.ok lf) (tC (interval_span_hull.ok lf) (tC (interval_span_interval.ok lf) (tC (interval_none.ok lf) (tC (interval_span_turned.ok lf) (tC (interval_remainders.ok lf) (tC (interval_span_positive.ok lf) tN))))))))) aoN fun x => by kernel_rfl
end interval_Rem
namespace interval_added_1
noncomputable def f (lf : Nat) (a0 : Int × (ByteArray × Unit)) (a1 : Int × (ByteArray × Unit)) : Option ((Int × (ByteArray × Unit)) × Unit) :=
 br (a0.1 != 0) (
 bd (interval_infinite.f lf (if (if (i64.wrap (a0.1 + a1.1)) < 1 then (i64.wrap (a0.1 + a1.1)) else 1) > (-1) then (if (i64.wrap (a0.1 + a1.1)) < 1 then (i64.wrap (a0.1 + a1.1)) else 1) else (-1))) fun r1 =>
 some (r1.1, ())) (
 br (a1.1 != 0) (
 bd (interval_infinite.f lf (if (if (i64.wrap (a0.1 + a1.1)) < 1 then (i64.wrap (a0.1 + a1.1)) else 1) > (-1) then (if (i64.wrap (a0.1 + a1.1)) < 1 then (i64.wrap (a0.1 + a1.1)) else 1) else (-1))) fun r2 =>
 some (r2.1, ())) (
 bd (interval_sum.f lf a0.2.1 a1.2.1) fun r3 =>
 bd (interval_finite.f lf r3.1) fun r4 =>
 some (r4.1, ())))
noncomputable def E (lf : Nat) : Entry := ⟨[(.pair (.int .i64) (.pair .str .unit)), (.pair (.int .i64) (.pair .str .unit))], [(.pair (.int .i64) (.pair .str .unit))], fun x => f lf x.1 x.2.1⟩
theorem ok (lf : Nat) : Ok 162 (E lf) := okT (an := (annsL [])) (lf := lf) (tC (interval_infinite.ok lf) (tC (interval_finite.ok lf) (tC (interval_sum.ok lf) tN))) aoN fun x => by kernel_rfl
end interval_added_1
namespace interval_added
noncomputable def f (lf : Nat) (a0 : (Int × (ByteArray × Unit)) × ((Int × (ByteArray × Unit)) × Unit)) (a1 : (Int × (ByteArray × Unit)) × ((Int × (ByteArray × Unit)) × Unit)) : Option (((Int × (ByteArray × Unit)) × ((Int × (ByteArray × Unit)) × Unit)) × Unit) :=
 bd (interval_span_empty.f lf a0) fun r1 =>
 br r1.1 (
 bd (interval_none.f lf) fun r2 =>
 some (r2.1, ())) (
 bd (interval_span_empty.f lf a1) fun r3 =>
 br r3.1 (
 bd (interval_none.f lf) fun r4 =>
 some (r4.1, ())) (
 bd (interval_added_1.f lf a0.1 a1.1) fun r5 =>
 bd (interval_added_1.f lf a0.2.1 a1.2.1) fun r6 =>
 some ((r5.1, r6.1, ()), ())))
noncomputable def E (lf : Nat) : Entry := ⟨[(.pair (.pair (.int .i64) (.pair .str .unit)) (.pair (.pair (.int .i64) (.pair .str .unit)) .unit)), (.pair (.pair (.int .i64) (.pair .str .unit)) (.pair (.pair (.int .i64) (.pair .str .unit)) .unit))], [(.pair (.pair (.int .i64) (.pair .str .unit)) (.pair (.pair (.int .i64) (.pair .str .unit)) .unit))], fun x => f lf x.1 x.2.1⟩
theorem ok (lf : Nat) : Ok 127 (E lf) := okT (an := (annsL [])) (lf := lf) (tC (interval_span_empty.ok lf) (tC (interval_none.ok lf) (tC (interval_added_1.ok lf) tN))) aoN fun x => by kernel_rfl
end interval_added
namespace interval_Add
noncomputable def f (lf : Nat) (a0 : Bool × (ByteArray × (ByteArray × Unit))) (a1 : Bool × (ByteArray × (ByteArray × Unit))) : Option ((Bool × (ByteArray × (ByteArray × Unit))) × Int × Unit) :=
 bd (interval_Check.f lf a0) fun r1 =>
 br (r1.1 != 0) (
 br (r1.1 != 0) (
 some ((false, (⟨#[]⟩ : ByteArray), (⟨#[]⟩ : ByteArray), ()), r1.1, ())) (
 bd (interval_of.f lf a0) fun r2 =>
 bd (interval_of.f lf a1) fun r3 =>
 bd (interval_added.f lf r2.1 r3.1) fun r4 =>
 bd (interval_span_interval.f lf r4.1) fun r5 =>
 some (r5.1, 0, ()))) (
 bd (interval_Check.f lf a1) fun r6 =>
 br (r6.1 != 0) (
 br (r6.1 != 0) (
 some ((false, (⟨#[]⟩ : ByteArray), (⟨#[]⟩ : ByteArray), ()), r6.1, ())) (
 bd (interval_of.f lf a0) fun r7 =>
 bd (interval_of.f lf a1) fun r8 =>
 bd (interval_added.f lf r7.1 r8.1) fun r9 =>
 bd (interval_span_interval.f lf r9.1) fun r10 =>
 some (r10.1, 0, ()))) (
 bd (interval_of.f lf a0) fun r11 =>
 bd (interval_of.f lf a1) fun r12 =>
 bd (interval_added.f lf r11.1 r12.1) fun r13 =>
 bd (interval_span_interval.f lf r13.1) fun r14 =>
 some (r14.1, 0, ())))
noncomputable def E (lf : Nat) : Entry := ⟨[(.pair .bool (.pair .str (.pair .str .unit))), (.pair .bool (.pair .str (.pair .str .unit)))], [(.pair .bool (.pair .str (.pair .str .unit))), (.int .i64)], fun x => f lf x.1 x.2.1⟩
theorem ok (lf : Nat) : Ok 83 (E lf) := okT (an := (annsL [])) (lf := lf) (tC (interval_Check.ok lf) (tC (interval_of.ok lf) (tC (interval_span_interval.ok lf) (tC (interval_added.ok lf) tN)))) aoN fun x => by kernel_rfl
end interval_Add
namespace interval_Sub_1
noncomputable def f (lf : Nat) (a0 : (Int × (ByteArray × Unit)) × ((Int × (ByteArray × Unit)) × Unit)) (a1 : (Int × (ByteArray × Unit)) × ((Int × (ByteArray × Unit)) × Unit)) : Option (((Int × (ByteArray × Unit)) × ((Int × (ByteArray × Unit)) × Unit)) × Unit) :=
 bd (interval_span_turned.f lf a1) fun r1 =>
 bd (interval_added.f lf a0 r1.1) fun r2 =>
 some (r2.1, ())
noncomputable def E (lf : Nat) : Entry := ⟨[(.pair (.pair (.int .i64) (.pair .str .unit)) (.pair (.pair (.int .i64) (.pair .str .unit)) .unit)), (.pair (.pair (.int .i64) (.pair .str .unit)) (.pair (.pair (.int .i64) (.pair .str .unit)) .unit))], [(.pair (.pair (.int .i64) (.pair .str .unit)) (.pair (.pair (.int .i64) (.pair .str .unit)) .unit))], fun x => f lf x.1 x.2.1⟩
theorem ok (lf : Nat) : Ok 128 (E lf) := okT (an := (annsL [])) (lf := lf) (tC (interval_span_turned.ok lf) (tC (interval_added.ok lf) tN)) aoN fun x => by kernel_rfl
end interval_Sub_1
namespace interval_Sub
noncomputable def f (lf : Nat) (a0 : Bool × (ByteArray × (ByteArray × Unit))) (a1 : Bool × (ByteArray × (ByteArray × Unit))) : Option ((Bool × (ByteArray × (ByteArray × Unit))) × Int × Unit) :=
 bd (interval_Check.f lf a0) fun r1 =>
 br (r1.1 != 0) (
 br (r1.1 != 0) (
 some ((false, (⟨#[]⟩ : ByteArray), (⟨#[]⟩ : ByteArray), ()), r1.1, ())) (
 bd (interval_of.f lf a0) fun r2 =>
 bd (interval_of.f lf a1) fun r3 =>
 bd (interval_Sub_1.f lf r2.1 r3.1) fun r4 =>
 bd (interval_span_interval.f lf r4.1) fun r5 =>
 some (r5.1, 0, ()))) (
 bd (interval_Check.f lf a1) fun r6 =>
 br (r6.1 != 0) (
 br (r6.1 != 0) (
 some ((false, (⟨#[]⟩ : ByteArray), (⟨#[]⟩ : ByteArray), ()), r6.1, ())) (
 bd (interval_of.f lf a0) fun r7 =>
 bd (interval_of.f lf a1) fun r8 =>
 bd (interval_Sub_1.f lf r7.1 r8.1) fun r9 =>
 bd (interval_span_interval.f lf r9.1) fun r10 =>
 some (r10.1, 0, ()))) (
 bd (interval_of.f lf a0) fun r11 =>
 bd (interval_of.f lf a1) fun r12 =>
 bd (interval_Sub_1.f lf r11.1 r12.1) fun r13 =>
 bd (interval_span_interval.f lf r13.1) fun r14 =>
 some (r14.1, 0, ())))
noncomputable def E (lf : Nat) : Entry := ⟨[(.pair .bool (.pair .str (.pair .str .unit))), (.pair .bool (.pair .str (.pair .str .unit)))], [(.pair .bool (.pair .str (.pair .str .unit))), (.int .i64)], fun x => f lf x.1 x.2.1⟩
theorem ok (lf : Nat) : Ok 84 (E lf) := okT (an := (annsL [])) (lf := lf) (tC (interval_Check.ok lf) (tC (interval_of.ok lf) (tC (interval_span_interval.ok lf) (tC (interval_Sub_1.ok lf) tN)))) aoN fun x => by kernel_rfl
end interval_Sub
end
end Go.Q
