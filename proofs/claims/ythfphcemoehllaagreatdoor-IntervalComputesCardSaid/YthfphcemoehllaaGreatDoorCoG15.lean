import Derived.Test.YthfphcemoehllaaGreatDoorProg
import Derived.KernelRfl
import Derived.Test.YthfphcemoehllaaGreatDoorCoG6
import Derived.Test.YthfphcemoehllaaGreatDoorCoG7
import Derived.Test.YthfphcemoehllaaGreatDoorCoG8
import Derived.Test.YthfphcemoehllaaGreatDoorE3
set_option linter.unusedVariables false
set_option linter.unusedSimpArgs false
set_option linter.unusedSectionVars false
namespace Go.Q
open Go Go.RowKit
open Go.Rx (br bd sIdx sCat sCut iQuo iRem)
set_option linter.unusedVariables false
set_option linter.unusedSimpArgs false
set_option maxRecDepth 100000
noncomputable section
namespace surveyorref21_Few
noncomputable def f (lf : Nat) (a0 : Bool × (ByteArray × (ByteArray × Unit))) (a1 : Bool × (ByteArray × (ByteArray × Unit))) : Option (Bool × Unit) :=
 br (decide (((a0.2.1.size : Nat) : Int) ≤ 450)) (
 br (decide (((a0.2.2.1.size : Nat) : Int) ≤ 450)) (
 br (decide (((a1.2.1.size : Nat) : Int) ≤ 450)) (
 some ((decide (((a1.2.2.1.size : Nat) : Int) ≤ 450)), ())) (
 some (false, ()))) (
 some (false, ()))) (
 some (false, ()))
noncomputable def E (lf : Nat) : Entry := ⟨[(.pair .bool (.pair .str (.pair .str .unit))), (.pair .bool (.pair .str (.pair .str .unit)))], [.bool], fun x => f lf x.1 x.2.1⟩
theorem ok (lf : Nat) : Ok 11 (E lf) := okT (an := (annsL [])) (lf := lf) tN aoN fun x => by kernel_rfl
end surveyorref21_Few
namespace surveyorref21_bound
noncomputable def f (lf : Nat) (a0 : ByteArray) : Option (Int × Unit) :=
 br (a0.toList == (⟨#[]⟩ : ByteArray).toList) (
 some (0, ())) (
 bd (surveyorref06_Number.f lf a0) fun r1 =>
 some (r1.1, ()))
noncomputable def E (lf : Nat) : Entry := ⟨[.str], [(.int .i64)], fun x => f lf x.1⟩
theorem ok (lf : Nat) : Ok 67 (E lf) := okT (an := (annsL [])) (lf := lf) (tC (surveyorref06_Number.ok lf) tN) aoN fun x => by kernel_rfl
end surveyorref21_bound
namespace surveyorref21_Check
noncomputable def f (lf : Nat) (a0 : Bool × (ByteArray × (ByteArray × Unit))) : Option (Int × Unit) :=
 br a0.1 (
 br (!(a0.2.1.toList == (⟨#[]⟩ : ByteArray).toList)) (
 some (3, ())) (
 br (!(a0.2.2.1.toList == (⟨#[]⟩ : ByteArray).toList)) (
 some (3, ())) (
 bd (surveyorref21_bound.f lf a0.2.1) fun r1 =>
 br (r1.1 != 0) (
 some (r1.1, ())) (
 bd (surveyorref21_bound.f lf a0.2.2.1) fun r2 =>
 br (r2.1 != 0) (
 some (r2.1, ())) (
 br (!(a0.2.1.toList == (⟨#[]⟩ : ByteArray).toList)) (
 br (!(a0.2.2.1.toList == (⟨#[]⟩ : ByteArray).toList)) (
 bd (surveyorref01_Less.f lf a0.2.2.1 a0.2.1) fun r3 =>
 br r3.1 (
 some (14, ())) (
 some (0, ()))) (
 some (0, ()))) (
 some (0, ()))))))) (
 bd (surveyorref21_bound.f lf a0.2.1) fun r4 =>
 br (r4.1 != 0) (
 some (r4.1, ())) (
 bd (surveyorref21_bound.f lf a0.2.2.1) fun r5 =>
 br (r5.1 != 0) (
 some (r5.1, ())) (
 br (!(a0.2.1.toList == (⟨#[]⟩ : ByteArray).toList)) (
 br (!(a0.2.2.1.toList == (⟨#[]⟩ : ByteArray).toList)) (
 bd (surveyorref01_Less.f lf a0.2.2.1 a0.2.1) fun r6 =>
 br r6.1 (
 some (14, ())) (
 some (0, ()))) (
 some (0, ()))) (
 some (0, ())))))
noncomputable def E (lf : Nat) : Entry := ⟨[(.pair .bool (.pair .str (.pair .str .unit)))], [(.int .i64)], fun x => f lf x.1⟩
theorem ok (lf : Nat) : Ok 19 (E lf) := okT (an := (annsL [])) (lf := lf) (tC (surveyorref21_bound.ok lf) (tC (surveyorref01_Less.ok lf) tN)) aoN fun x => by kernel_rfl
end surveyorref21_Check
namespace surveyorref21_both
noncomputable def f (lf : Nat) (a0 : Bool × (ByteArray × (ByteArray × Unit))) (a1 : Bool × (ByteArray × (ByteArray × Unit))) : Option (Int × Unit) :=
 bd (surveyorref21_Check.f lf a0) fun r1 =>
 br (r1.1 != 0) (
 some (r1.1, ())) (
 bd (surveyorref21_Check.f lf a1) fun r2 =>
 some (r2.1, ()))
noncomputable def E (lf : Nat) : Entry := ⟨[(.pair .bool (.pair .str (.pair .str .unit))), (.pair .bool (.pair .str (.pair .str .unit)))], [(.int .i64)], fun x => f lf x.1 x.2.1⟩
theorem ok (lf : Nat) : Ok 60 (E lf) := okT (an := (annsL [])) (lf := lf) (tC (surveyorref21_Check.ok lf) tN) aoN fun x => by kernel_rfl
end surveyorref21_both
namespace surveyorref21_None
noncomputable def f (lf : Nat)  : Option ((Bool × (ByteArray × (ByteArray × Unit))) × Unit) :=
 some ((true, (⟨#[]⟩ : ByteArray), (⟨#[]⟩ : ByteArray), ()), ())
noncomputable def E (lf : Nat) : Entry := ⟨[], [(.pair .bool (.pair .str (.pair .str .unit)))], fun x => f lf ⟩
theorem ok (lf : Nat) : Ok 107 (E lf) := okT (an := (annsL [])) (lf := lf) tN aoN fun x => by kernel_rfl
end surveyorref21_None
namespace surveyorref21_clip
noncomputable def f (lf : Nat) (a0 : ByteArray) : Option (ByteArray × Unit) :=
 br (!(a0.toList == (⟨#[]⟩ : ByteArray).toList)) (
 bd (surveyorref01_Digits.f lf a0) fun r1 =>
 br (decide (r1.1 > 100)) (
 some ((⟨#[]⟩ : ByteArray), ())) (
 some (a0, ()))) (
 some (a0, ()))
noncomputable def E (lf : Nat) : Entry := ⟨[.str], [.str], fun x => f lf x.1⟩
theorem ok (lf : Nat) : Ok 134 (E lf) := okT (an := (annsL [])) (lf := lf) (tC (surveyorref01_Digits.ok lf) tN) aoN fun x => by kernel_rfl
end surveyorref21_clip
namespace surveyorref21_Range
noncomputable def f (lf : Nat) (a0 : ByteArray) (a1 : ByteArray) : Option ((Bool × (ByteArray × (ByteArray × Unit))) × Unit) :=
 br (!(a0.toList == (⟨#[]⟩ : ByteArray).toList)) (
 br (!(a1.toList == (⟨#[]⟩ : ByteArray).toList)) (
 bd (surveyorref01_Less.f lf a1 a0) fun r1 =>
 br r1.1 (
 bd (surveyorref21_None.f lf) fun r2 =>
 some (r2.1, ())) (
 bd (surveyorref21_clip.f lf a0) fun r3 =>
 bd (surveyorref21_clip.f lf a1) fun r4 =>
 some ((false, r3.1, r4.1, ()), ()))) (
 bd (surveyorref21_clip.f lf a0) fun r5 =>
 bd (surveyorref21_clip.f lf a1) fun r6 =>
 some ((false, r5.1, r6.1, ()), ()))) (
 bd (surveyorref21_clip.f lf a0) fun r7 =>
 bd (surveyorref21_clip.f lf a1) fun r8 =>
 some ((false, r7.1, r8.1, ()), ()))
noncomputable def E (lf : Nat) : Entry := ⟨[.str, .str], [(.pair .bool (.pair .str (.pair .str .unit)))], fun x => f lf x.1 x.2.1⟩
theorem ok (lf : Nat) : Ok 86 (E lf) := okT (an := (annsL [])) (lf := lf) (tC (surveyorref01_Less.ok lf) (tC (surveyorref21_None.ok lf) (tC (surveyorref21_clip.ok lf) tN))) aoN fun x => by kernel_rfl
end surveyorref21_Range
namespace surveyorref21_least
noncomputable def f (lf : Nat) (a0 : ByteArray) (a1 : ByteArray) : Option (ByteArray × Unit) :=
 br (a0.toList == (⟨#[]⟩ : ByteArray).toList) (
 some ((⟨#[]⟩ : ByteArray), ())) (
 br (a1.toList == (⟨#[]⟩ : ByteArray).toList) (
 some ((⟨#[]⟩ : ByteArray), ())) (
 bd (surveyorref01_Less.f lf a1 a0) fun r1 =>
 br r1.1 (
 some (a1, ())) (
 some (a0, ()))))
noncomputable def E (lf : Nat) : Entry := ⟨[.str, .str], [.str], fun x => f lf x.1 x.2.1⟩
theorem ok (lf : Nat) : Ok 121 (E lf) := okT (an := (annsL [])) (lf := lf) (tC (surveyorref01_Less.ok lf) tN) aoN fun x => by kernel_rfl
end surveyorref21_least
namespace surveyorref21_greatest
noncomputable def f (lf : Nat) (a0 : ByteArray) (a1 : ByteArray) : Option (ByteArray × Unit) :=
 br (a0.toList == (⟨#[]⟩ : ByteArray).toList) (
 some ((⟨#[]⟩ : ByteArray), ())) (
 br (a1.toList == (⟨#[]⟩ : ByteArray).toList) (
 some ((⟨#[]⟩ : ByteArray), ())) (
 bd (surveyorref01_Less.f lf a0 a1) fun r1 =>
 br r1.1 (
 some (a1, ())) (
 some (a0, ()))))
noncomputable def E (lf : Nat) : Entry := ⟨[.str, .str], [.str], fun x => f lf x.1 x.2.1⟩
theorem ok (lf : Nat) : Ok 122 (E lf) := okT (an := (annsL [])) (lf := lf) (tC (surveyorref01_Less.ok lf) tN) aoN fun x => by kernel_rfl
end surveyorref21_greatest
namespace surveyorref21_Joined
noncomputable def f (lf : Nat) (a0 : Bool × (ByteArray × (ByteArray × Unit))) (a1 : Bool × (ByteArray × (ByteArray × Unit))) : Option ((Bool × (ByteArray × (ByteArray × Unit))) × Unit) :=
 br a0.1 (
 some (a1, ())) (
 br a1.1 (
 some (a0, ())) (
 bd (surveyorref21_least.f lf a0.2.1 a1.2.1) fun r1 =>
 bd (surveyorref21_greatest.f lf a0.2.2.1 a1.2.2.1) fun r2 =>
 bd (surveyorref21_Range.f lf r1.1 r2.1) fun r3 =>
 some (r3.1, ())))
noncomputable def E (lf : Nat) : Entry := ⟨[(.pair .bool (.pair .str (.pair .str .unit))), (.pair .bool (.pair .str (.pair .str .unit)))], [(.pair .bool (.pair .str (.pair .str .unit)))], fun x => f lf x.1 x.2.1⟩
theorem ok (lf : Nat) : Ok 79 (E lf) := okT (an := (annsL [])) (lf := lf) (tC (surveyorref21_Range.ok lf) (tC (surveyorref21_least.ok lf) (tC (surveyorref21_greatest.ok lf) tN))) aoN fun x => by kernel_rfl
end surveyorref21_Joined
namespace surveyorref21_Inside
noncomputable def f (lf : Nat) (a0 : Bool × (ByteArray × (ByteArray × Unit))) (a1 : Bool × (ByteArray × (ByteArray × Unit))) : Option (Bool × Unit) :=
 br a0.1 (
 some (a0.1, ())) (
 br a1.1 (
 some (a0.1, ())) (
 br (a1.2.1.toList == (⟨#[]⟩ : ByteArray).toList) (
 br (a1.2.2.1.toList == (⟨#[]⟩ : ByteArray).toList) (
 some (true, ())) (
 br (!(a0.2.2.1.toList == (⟨#[]⟩ : ByteArray).toList)) (
 bd (surveyorref01_Less.f lf a1.2.2.1 a0.2.2.1) fun r1 =>
 some ((!r1.1), ())) (
 some (false, ())))) (
 br (!(a0.2.1.toList == (⟨#[]⟩ : ByteArray).toList)) (
 bd (surveyorref01_Less.f lf a0.2.1 a1.2.1) fun r2 =>
 br (a1.2.2.1.toList == (⟨#[]⟩ : ByteArray).toList) (
 br (!r2.1) (
 some (true, ())) (
 some (false, ()))) (
 br (!(a0.2.2.1.toList == (⟨#[]⟩ : ByteArray).toList)) (
 bd (surveyorref01_Less.f lf a1.2.2.1 a0.2.2.1) fun r3 =>
 br (!r2.1) (
 some ((!r3.1), ())) (
 some (false, ()))) (
 br (!r2.1) (
 some (false, ())) (
 some (false, ()))))) (
 br (a1.2.2.1.toList == (⟨#[]⟩ : ByteArray).toList) (
 some (false, ())) (
 br (!(a0.2.2.1.toList == (⟨#[]⟩ : ByteArray).toList)) (
 bd (surveyorref01_Less.f lf a1.2.2.1 a0.2.2.1) fun r4 =>
 some (false, ())) (
 some (false, ())))))))
noncomputable def E (lf : Nat) : Entry := ⟨[(.pair .bool (.pair .str (.pair .str .unit))), (.pair .bool (.pair .str (.pair .str .unit)))], [.bool], fun x => f lf x.1 x.2.1⟩
theorem ok (lf : Nat) : Ok 78 (E lf) := okT (an := (annsL [])) (lf := lf) (tC (surveyorref01_Less.ok lf) tN) aoN fun x => by kernel_rfl
end surveyorref21_Inside
namespace surveyorref21_lower
noncomputable def f (lf : Nat) (a0 : ByteArray) (a1 : ByteArray) : Option (ByteArray × Unit) :=
 br (a0.toList == (⟨#[]⟩ : ByteArray).toList) (
 some (a1, ())) (
 br (a1.toList == (⟨#[]⟩ : ByteArray).toList) (
 some (a0, ())) (
 bd (surveyorref21_greatest.f lf a0 a1) fun r1 =>
 some (r1.1, ())))
noncomputable def E (lf : Nat) : Entry := ⟨[.str, .str], [.str], fun x => f lf x.1 x.2.1⟩
theorem ok (lf : Nat) : Ok 123 (E lf) := okT (an := (annsL [])) (lf := lf) (tC (surveyorref21_greatest.ok lf) tN) aoN fun x => by kernel_rfl
end surveyorref21_lower
namespace surveyorref21_upper
noncomputable def f (lf : Nat) (a0 : ByteArray) (a1 : ByteArray) : Option (ByteArray × Unit) :=
 br (a0.toList == (⟨#[]⟩ : ByteArray).toList) (
 some (a1, ())) (
 br (a1.toList == (⟨#[]⟩ : ByteArray).toList) (
 some (a0, ())) (
 bd (surveyorref21_least.f lf a0 a1) fun r1 =>
 some (r1.1, ())))
noncomputable def E (lf : Nat) : Entry := ⟨[.str, .str], [.str], fun x => f lf x.1 x.2.1⟩
theorem ok (lf : Nat) : Ok 124 (E lf) := okT (an := (annsL [])) (lf := lf) (tC (surveyorref21_least.ok lf) tN) aoN fun x => by kernel_rfl
end surveyorref21_upper
namespace surveyorref21_Met
noncomputable def f (lf : Nat) (a0 : Bool × (ByteArray × (ByteArray × Unit))) (a1 : Bool × (ByteArray × (ByteArray × Unit))) : Option ((Bool × (ByteArray × (ByteArray × Unit))) × Unit) :=
 br a0.1 (
 bd (surveyorref21_None.f lf) fun r1 =>
 some (r1.1, ())) (
 br a1.1 (
 bd (surveyorref21_None.f lf) fun r2 =>
 some (r2.1, ())) (
 bd (surveyorref21_lower.f lf a0.2.1 a1.2.1) fun r3 =>
 bd (surveyorref21_upper.f lf a0.2.2.1 a1.2.2.1) fun r4 =>
 bd (surveyorref21_Range.f lf r3.1 r4.1) fun r5 =>
 some (r5.1, ())))
noncomputable def E (lf : Nat) : Entry := ⟨[(.pair .bool (.pair .str (.pair .str .unit))), (.pair .bool (.pair .str (.pair .str .unit)))], [(.pair .bool (.pair .str (.pair .str .unit)))], fun x => f lf x.1 x.2.1⟩
theorem ok (lf : Nat) : Ok 80 (E lf) := okT (an := (annsL [])) (lf := lf) (tC (surveyorref21_Range.ok lf) (tC (surveyorref21_None.ok lf) (tC (surveyorref21_lower.ok lf) (tC (surveyorref21_upper.ok lf) tN)))) aoN fun x => by kernel_rfl
end surveyorref21_Met
namespace surveyorref21_negated
noncomputable def f (lf : Nat) (a0 : ByteArray) : Option (ByteArray × Unit) :=
 br (a0.toList == (⟨#[]⟩ : ByteArray).toList) (
 some ((⟨#[]⟩ : ByteArray), ())) (
 bd (surveyorref01_Negated.f lf a0) fun r1 =>
 some (r1.1, ()))
noncomputable def E (lf : Nat) : Entry := ⟨[.str], [.str], fun x => f lf x.1⟩
theorem ok (lf : Nat) : Ok 126 (E lf) := okT (an := (annsL [])) (lf := lf) (tC (surveyorref01_Negated.ok lf) tN) aoN fun x => by kernel_rfl
end surveyorref21_negated
namespace surveyorref21_Turned
noncomputable def f (lf : Nat) (a0 : Bool × (ByteArray × (ByteArray × Unit))) : Option ((Bool × (ByteArray × (ByteArray × Unit))) × Unit) :=
 br a0.1 (
 some (a0, ())) (
 bd (surveyorref21_negated.f lf a0.2.2.1) fun r1 =>
 bd (surveyorref21_negated.f lf a0.2.1) fun r2 =>
 bd (surveyorref21_Range.f lf r1.1 r2.1) fun r3 =>
 some (r3.1, ()))
noncomputable def E (lf : Nat) : Entry := ⟨[(.pair .bool (.pair .str (.pair .str .unit)))], [(.pair .bool (.pair .str (.pair .str .unit)))], fun x => f lf x.1⟩
theorem ok (lf : Nat) : Ok 82 (E lf) := okT (an := (annsL [])) (lf := lf) (tC (surveyorref21_Range.ok lf) (tC (surveyorref21_negated.ok lf) tN)) aoN fun x => by kernel_rfl
end surveyorref21_Turned
namespace surveyorref21_sum
noncomputable def f (lf : Nat) (a0 : ByteArray) (a1 : ByteArray) : Option (ByteArray × Unit) :=
 br (a0.toList == (⟨#[]⟩ : ByteArray).toList) (
 some ((⟨#[]⟩ : ByteArray), ())) (
 br (a1.toList == (⟨#[]⟩ : ByteArray).toList) (
 some ((⟨#[]⟩ : ByteArray), ())) (
 bd (surveyorref01_Sum.f lf a0 a1) fun r1 =>
 some (r1.1, ())))
noncomputable def E (lf : Nat) : Entry := ⟨[.str, .str], [.str], fun x => f lf x.1 x.2.1⟩
theorem ok (lf : Nat) : Ok 163 (E lf) := okT (an := (annsL [])) (lf := lf) (tC (surveyorref01_Sum.ok lf) tN) aoN fun x => by kernel_rfl
end surveyorref21_sum
namespace surveyorref21_Plus
noncomputable def f (lf : Nat) (a0 : Bool × (ByteArray × (ByteArray × Unit))) (a1 : Bool × (ByteArray × (ByteArray × Unit))) : Option ((Bool × (ByteArray × (ByteArray × Unit))) × Unit) :=
 br a0.1 (
 bd (surveyorref21_None.f lf) fun r1 =>
 some (r1.1, ())) (
 br a1.1 (
 bd (surveyorref21_None.f lf) fun r2 =>
 some (r2.1, ())) (
 bd (surveyorref21_sum.f lf a0.2.1 a1.2.1) fun r3 =>
 bd (surveyorref21_sum.f lf a0.2.2.1 a1.2.2.1) fun r4 =>
 bd (surveyorref21_Range.f lf r3.1 r4.1) fun r5 =>
 some (r5.1, ())))
noncomputable def E (lf : Nat) : Entry := ⟨[(.pair .bool (.pair .str (.pair .str .unit))), (.pair .bool (.pair .str (.pair .str .unit)))], [(.pair .bool (.pair .str (.pair .str .unit)))], fun x => f lf x.1 x.2.1⟩
theorem ok (lf : Nat) : Ok 129 (E lf) := okT (an := (annsL [])) (lf := lf) (tC (surveyorref21_Range.ok lf) (tC (surveyorref21_None.ok lf) (tC (surveyorref21_sum.ok lf) tN))) aoN fun x => by kernel_rfl
end surveyorref21_Plus
namespace surveyorref21_Minus
noncomputable def f (lf : Nat) (a0 : Bool × (ByteArray × (ByteArray × Unit))) (a1 : Bool × (ByteArray × (ByteArray × Unit))) : Option ((Bool × (ByteArray × (ByteArray × Unit))) × Unit) :=
 bd (surveyorref21_Turned.f lf a1) fun r1 =>
 bd (surveyorref21_Plus.f lf a0 r1.1) fun r2 =>
 some (r2.1, ())
noncomputable def E (lf : Nat) : Entry := ⟨[(.pair .bool (.pair .str (.pair .str .unit))), (.pair .bool (.pair .str (.pair .str .unit)))], [(.pair .bool (.pair .str (.pair .str .unit)))], fun x => f lf x.1 x.2.1⟩
theorem ok (lf : Nat) : Ok 130 (E lf) := okT (an := (annsL [])) (lf := lf) (tC (surveyorref21_Turned.ok lf) (tC (surveyorref21_Plus.ok lf) tN)) aoN fun x => by kernel_rfl
end surveyorref21_Minus
namespace surveyorref21_One
noncomputable def f (lf : Nat) (a0 : ByteArray) : Option ((Bool × (ByteArray × (ByteArray × Unit))) × Unit) :=
 bd (surveyorref21_Range.f lf a0 a0) fun r1 =>
 some (r1.1, ())
noncomputable def E (lf : Nat) : Entry := ⟨[.str], [(.pair .bool (.pair .str (.pair .str .unit)))], fun x => f lf x.1⟩
theorem ok (lf : Nat) : Ok 165 (E lf) := okT (an := (annsL [])) (lf := lf) (tC (surveyorref21_Range.ok lf) tN) aoN fun x => by kernel_rfl
end surveyorref21_One
namespace surveyorref21_split
noncomputable def f (lf : Nat) (a0 : Bool × (ByteArray × (ByteArray × Unit))) : Option ((List (Bool × (ByteArray × (ByteArray × Unit)))) × Unit) :=
 bd (surveyorref21_Range.f lf (⟨#[]⟩ : ByteArray) (⟨#[45, 49]⟩ : ByteArray)) fun r1 =>
 bd (surveyorref21_Met.f lf a0 r1.1) fun r2 =>
 bd (surveyorref21_One.f lf (⟨#[48]⟩ : ByteArray)) fun r3 =>
 bd (surveyorref21_Met.f lf a0 r3.1) fun r4 =>
 bd (surveyorref21_Range.f lf (⟨#[49]⟩ : ByteArray) (⟨#[]⟩ : ByteArray)) fun r5 =>
 bd (surveyorref21_Met.f lf a0 r5.1) fun r6 =>
 some ([r2.1, r4.1, r6.1], ())
noncomputable def E (lf : Nat) : Entry := ⟨[(.pair .bool (.pair .str (.pair .str .unit)))], [(.sl (.pair .bool (.pair .str (.pair .str .unit))))], fun x => f lf x.1⟩
theorem ok (lf : Nat) : Ok 164 (E lf) := okT (an := (annsL [])) (lf := lf) (tC (surveyorref21_Met.ok lf) (tC (surveyorref21_Range.ok lf) (tC (surveyorref21_One.ok lf) tN))) aoN fun x => by kernel_rfl
end surveyorref21_split
namespace surveyorref21_product
noncomputable def f (lf : Nat) (a0 : Bool × (ByteArray × (ByteArray × Unit))) (a1 : Bool × (ByteArray × (ByteArray × Unit))) : Option ((Bool × (ByteArray × (ByteArray × Unit))) × Unit) :=
 br (!(a0.2.2.1.toList == (⟨#[]⟩ : ByteArray).toList)) (
 br (!(a1.2.2.1.toList == (⟨#[]⟩ : ByteArray).toList)) (
 bd (surveyorref01_Product.f lf a0.2.2.1 a1.2.2.1) fun r1 =>
 bd (surveyorref01_Product.f lf a0.2.1 a1.2.1) fun r2 =>
 bd (surveyorref21_Range.f lf r2.1 r1.1) fun r3 =>
 some (r3.1, ())) (
 bd (surveyorref01_Product.f lf a0.2.1 a1.2.1) fun r4 =>
 bd (surveyorref21_Range.f lf r4.1 (⟨#[]⟩ : ByteArray)) fun r5 =>
 some (r5.1, ()))) (
 bd (surveyorref01_Product.f lf a0.2.1 a1.2.1) fun r6 =>
 bd (surveyorref21_Range.f lf r6.1 (⟨#[]⟩ : ByteArray)) fun r7 =>
 some (r7.1, ()))
noncomputable def E (lf : Nat) : Entry := ⟨[(.pair .bool (.pair .str (.pair .str .unit))), (.pair .bool (.pair .str (.pair .str .unit)))], [(.pair .bool (.pair .str (.pair .str .unit)))], fun x => f lf x.1 x.2.1⟩
theorem ok (lf : Nat) : Ok 166 (E lf) := okT (an := (annsL [])) (lf := lf) (tC (surveyorref21_Range.ok lf) (tC (surveyorref01_Product.ok lf) tN)) aoN fun x => by kernel_rfl
end surveyorref21_product
namespace surveyorref21_positive
noncomputable def f (lf : Nat) (a0 : Bool × (ByteArray × (ByteArray × Unit))) (a1 : Int) : Option ((Bool × (ByteArray × (ByteArray × Unit))) × Unit) :=
 br (a1 == 0) (
 bd (surveyorref21_Turned.f lf a0) fun r1 =>
 some (r1.1, ())) (
 some (a0, ()))
noncomputable def E (lf : Nat) : Entry := ⟨[(.pair .bool (.pair .str (.pair .str .unit))), (.int .i64)], [(.pair .bool (.pair .str (.pair .str .unit)))], fun x => f lf x.1 x.2.1⟩
theorem ok (lf : Nat) : Ok 167 (E lf) := okT (an := (annsL [])) (lf := lf) (tC (surveyorref21_Turned.ok lf) tN) aoN fun x => by kernel_rfl
end surveyorref21_positive
end
end Go.Q
