import Derived.Test.YtniehiachpcdeaaGreatDoorProg
import Derived.KernelRfl
import Derived.Test.YtniehiachpcdeaaGreatDoorTVE3
import Derived.Test.YtniehiachpcdeaaGreatDoorTVG4
set_option linter.unusedVariables false
set_option linter.unusedSimpArgs false
set_option linter.unusedSectionVars false
set_option maxRecDepth 100000
namespace Go.Q
open Go Go.RowKit
open Go.Rx (br bd sIdx sCat sCut iQuo iRem)
noncomputable section
namespace surveyortop_tryChains
def f (lf : Nat)  : Option (Bool × Unit) :=
 bd (interval_Widen.f lf (false, (⟨#[48]⟩ : ByteArray), (⟨#[48]⟩ : ByteArray), ()) (false, (⟨#[49]⟩ : ByteArray), (⟨#[49]⟩ : ByteArray), ()) [(⟨#[49]⟩ : ByteArray)]) fun r1 =>
 br (r1.2.1 != 0) (
 some (false, ())) (
 bd (some (!((r1.1.1 == false) && ((r1.1.2.1 == (⟨#[48]⟩ : ByteArray)) && ((r1.1.2.2.1 == (⟨#[48]⟩ : ByteArray)) && true))))) fun r2 =>
 br r2 (
 bd (interval_Widen.f lf r1.1 (false, (⟨#[50]⟩ : ByteArray), (⟨#[50]⟩ : ByteArray), ()) [(⟨#[49]⟩ : ByteArray)]) fun r3 =>
 br (r3.2.1 != 0) (
 some (false, ())) (
 bd (some (!((r3.1.1 == r1.1.1) && ((r3.1.2.1 == r1.1.2.1) && ((r3.1.2.2.1 == r1.1.2.2.1) && true))))) fun r4 =>
 br r4 (
 bd (interval_Widen.f lf r3.1 (false, (⟨#[51]⟩ : ByteArray), (⟨#[51]⟩ : ByteArray), ()) [(⟨#[49]⟩ : ByteArray)]) fun r5 =>
 br (r5.2.1 != 0) (
 some (false, ())) (
 bd (some (!((r5.1.1 == r3.1.1) && ((r5.1.2.1 == r3.1.2.1) && ((r5.1.2.2.1 == r3.1.2.2.1) && true))))) fun r6 =>
 br r6 (
 some (false, ())) (
 bd (some ((r5.1.1 == false) && ((r5.1.2.1 == (⟨#[48]⟩ : ByteArray)) && ((r5.1.2.2.1 == (⟨#[]⟩ : ByteArray)) && true)))) fun r7 =>
 some (r7, ())))) (
 bd (interval_Widen.f lf r3.1 (false, (⟨#[51]⟩ : ByteArray), (⟨#[51]⟩ : ByteArray), ()) [(⟨#[49]⟩ : ByteArray)]) fun r8 =>
 br (r8.2.1 != 0) (
 some (false, ())) (
 bd (some (!((r8.1.1 == r3.1.1) && ((r8.1.2.1 == r3.1.2.1) && ((r8.1.2.2.1 == r3.1.2.2.1) && true))))) fun r9 =>
 br r9 (
 bd (some ((r8.1.1 == false) && ((r8.1.2.1 == (⟨#[48]⟩ : ByteArray)) && ((r8.1.2.2.1 == (⟨#[]⟩ : ByteArray)) && true)))) fun r10 =>
 some (r10, ())) (
 some (false, ())))))) (
 bd (interval_Widen.f lf r1.1 (false, (⟨#[50]⟩ : ByteArray), (⟨#[50]⟩ : ByteArray), ()) [(⟨#[49]⟩ : ByteArray)]) fun r11 =>
 br (r11.2.1 != 0) (
 some (false, ())) (
 bd (some (!((r11.1.1 == r1.1.1) && ((r11.1.2.1 == r1.1.2.1) && ((r11.1.2.2.1 == r1.1.2.2.1) && true))))) fun r12 =>
 br r12 (
 bd (interval_Widen.f lf r11.1 (false, (⟨#[51]⟩ : ByteArray), (⟨#[51]⟩ : ByteArray), ()) [(⟨#[49]⟩ : ByteArray)]) fun r13 =>
 br (r13.2.1 != 0) (
 some (false, ())) (
 bd (some (!((r13.1.1 == r11.1.1) && ((r13.1.2.1 == r11.1.2.1) && ((r13.1.2.2.1 == r11.1.2.2.1) && true))))) fun r14 =>
 br r14 (
 bd (some ((r13.1.1 == false) && ((r13.1.2.1 == (⟨#[48]⟩ : ByteArray)) && ((r13.1.2.2.1 == (⟨#[]⟩ : ByteArray)) && true)))) fun r15 =>
 some (r15, ())) (
 some (false, ())))) (
 bd (interval_Widen.f lf r11.1 (false, (⟨#[51]⟩ : ByteArray), (⟨#[51]⟩ : ByteArray), ()) [(⟨#[49]⟩ : ByteArray)]) fun r16 =>
 br (r16.2.1 != 0) (
 some (false, ())) (
 bd (some (!((r16.1.1 == r11.1.1) && ((r16.1.2.1 == r11.1.2.1) && ((r16.1.2.2.1 == r11.1.2.2.1) && true))))) fun r17 =>
 br r17 (
 some (false, ())) (
 some (false, ())))))))
def E (lf : Nat) : Entry := ⟨[], [.bool], fun x => f lf ⟩
theorem ok (lf : Nat) : Ok 46 (E lf) := okT (an := (annsL [])) (lf := lf) (tC (interval_Widen.ok lf) tN) aoN fun x => by kernel_rfl
end surveyortop_tryChains
end
end Go.Q
