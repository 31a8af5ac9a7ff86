import Derived.Test.YthfphcemoehllaaGreatDoorProg
import Derived.KernelRfl
import Derived.Test.YthfphcemoehllaaGreatDoorE3
set_option linter.unusedVariables false
set_option linter.unusedSimpArgs false
set_option linter.unusedSectionVars false
namespace Go.Q
open Go Go.RowKit
open Go.Rx (br bd sIdx sCat sCut iQuo iRem)
set_option linter.unusedVariables false
set_option linter.unusedSimpArgs false
set_option maxRecDepth 100000
noncomputable section
namespace stringslite_HasPrefix
noncomputable def f (lf : Nat) (a0 : ByteArray) (a1 : ByteArray) : Option (Bool × Unit) :=
 br (decide (((a0.size : Nat) : Int) ≥ ((a1.size : Nat) : Int))) (
 bd (sCut a0 none (some ((a1.size : Nat) : Int))) fun r1 =>
 some ((r1.toList == a1.toList), ())) (
 some (false, ()))
noncomputable def E (lf : Nat) : Entry := ⟨[.str, .str], [.bool], fun x => f lf x.1 x.2.1⟩
theorem ok (lf : Nat) : Ok 199 (E lf) := okT (an := (annsL [])) (lf := lf) tN aoN fun x => by kernel_rfl
end stringslite_HasPrefix
namespace stringslite_CutPrefix
noncomputable def f (lf : Nat) (a0 : ByteArray) (a1 : ByteArray) : Option (ByteArray × Bool × Unit) :=
 bd (stringslite_HasPrefix.f lf a0 a1) fun r1 =>
 br (!r1.1) (
 some (a0, false, ())) (
 bd (sCut a0 (some ((a1.size : Nat) : Int)) none) fun r2 =>
 some (r2, true, ()))
noncomputable def E (lf : Nat) : Entry := ⟨[.str, .str], [.str, .bool], fun x => f lf x.1 x.2.1⟩
theorem ok (lf : Nat) : Ok 175 (E lf) := okT (an := (annsL [])) (lf := lf) (tC (stringslite_HasPrefix.ok lf) tN) aoN fun x => by kernel_rfl
end stringslite_CutPrefix
namespace stringslite_TrimPrefix
noncomputable def f (lf : Nat) (a0 : ByteArray) (a1 : ByteArray) : Option (ByteArray × Unit) :=
 bd (stringslite_HasPrefix.f lf a0 a1) fun r1 =>
 br r1.1 (
 bd (sCut a0 (some ((a1.size : Nat) : Int)) none) fun r2 =>
 some (r2, ())) (
 some (a0, ()))
noncomputable def E (lf : Nat) : Entry := ⟨[.str, .str], [.str], fun x => f lf x.1 x.2.1⟩
theorem ok (lf : Nat) : Ok 187 (E lf) := okT (an := (annsL [])) (lf := lf) (tC (stringslite_HasPrefix.ok lf) tN) aoN fun x => by kernel_rfl
end stringslite_TrimPrefix
end
end Go.Q
namespace Go.Q
open Go Go.RowKit
open Go.Rx (br bd sIdx sCat sCut iQuo iRem)
set_option linter.unusedVariables false
set_option linter.unusedSimpArgs false
set_option maxRecDepth 100000
noncomputable section
namespace strings_CutPrefix
noncomputable def f (lf : Nat) (a0 : ByteArray) (a1 : ByteArray) : Option (ByteArray × Bool × Unit) :=
 bd (stringslite_CutPrefix.f lf a0 a1) fun r1 =>
 some (r1.1, r1.2.1, ())
noncomputable def E (lf : Nat) : Entry := ⟨[.str, .str], [.str, .bool], fun x => f lf x.1 x.2.1⟩
theorem ok (lf : Nat) : Ok 148 (E lf) := okT (an := (annsL [])) (lf := lf) (tC (stringslite_CutPrefix.ok lf) tN) aoN fun x => by kernel_rfl
end strings_CutPrefix
namespace strings_TrimPrefix
noncomputable def f (lf : Nat) (a0 : ByteArray) (a1 : ByteArray) : Option (ByteArray × Unit) :=
 bd (stringslite_TrimPrefix.f lf a0 a1) fun r1 =>
 some (r1.1, ())
noncomputable def E (lf : Nat) : Entry := ⟨[.str, .str], [.str], fun x => f lf x.1 x.2.1⟩
theorem ok (lf : Nat) : Ok 160 (E lf) := okT (an := (annsL [])) (lf := lf) (tC (stringslite_TrimPrefix.ok lf) tN) aoN fun x => by kernel_rfl
end strings_TrimPrefix
end
end Go.Q
