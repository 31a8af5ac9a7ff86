import Derived.Test.YtioemjeplgnccaaGreatDoorProg
import Derived.KernelRfl
import Derived.Test.YtioemjeplgnccaaGreatDoorTDE3
import Derived.Test.YtioemjeplgnccaaGreatDoorTDG7
import Derived.Test.YtioemjeplgnccaaGreatDoorTDG8
set_option linter.unusedVariables false
set_option linter.unusedSimpArgs false
set_option linter.unusedSectionVars false
set_option maxRecDepth 100000
namespace Go.Q
open Go.IntKind (i64)
open Go Go.RowKit
open Go.Rx (br bd sIdx sCat sCut iQuo iRem iShl)
noncomputable section
namespace au
def f(lf:Nat)  : Option (Bool×Unit) :=
 bd (sW.f lf (false,(⟨#[50]⟩:ByteArray),(⟨#[54]⟩:ByteArray),()) (false,(⟨#[50]⟩:ByteArray),(⟨#[48]⟩:ByteArray),())) fun r1 =>
 bd (wR.f lf (⟨#[51]⟩:ByteArray)) fun r2 =>
 bd (di.f lf 5 r1.1 r2.1) fun r3 =>
 bd (oH.f lf 4 1) fun r4 =>
 bd (bK.f lf (⟨#[55]⟩:ByteArray)) fun r5 =>
 bd (bM.f lf r5.1 (⟨#[55]⟩:ByteArray)) fun r6 =>
 br ((i64.wrap ((i64.wrap ((i64.wrap ((i64.wrap ((i64.wrap (r1.2.1+r2.2.1))+r3.2.1))+r4.2.1))+r5.2.1))+r6.2.1))==0) (
 br r6.1 (
 br (r4.1==1) (
 bd (some (((r3.1.1.1==false)&&((r3.1.1.2.1==(⟨#[54]⟩:ByteArray))&&((r3.1.1.2.2.1==(⟨#[49,56]⟩:ByteArray))&&true)))&&(((r3.1.2.1.1==false)&&((r3.1.2.1.2.1==(⟨#[54]⟩:ByteArray))&&((r3.1.2.1.2.2.1==(⟨#[48]⟩:ByteArray))&&true)))&&true))) fun r7 =>
 some (r7,())) (
 some (false,()))) (
 some (false,()))) (
 some (false,()))
def E(lf:Nat):Entry:=⟨[],[.bool],fun x=>f lf⟩
theorem ok(lf:Nat):Ok 9 (E lf):=okT (an:=(annsL [])) (lf:=lf) (tC (bK.ok lf) (tC (di.ok lf) (tC (bM.ok lf) (tC (sW.ok lf) (tC (wR.ok lf) (tC (oH.ok lf) tN)))))) aoN fun x=>by kernel_rfl
end au
end
end Go.Q
