import Derived.Test.YtgbokahnpmmfoaaGreatDoorProg
import Derived.KernelRfl
import Derived.Test.YtgbokahnpmmfoaaGreatDoorSSE3
import Derived.Test.YtgbokahnpmmfoaaGreatDoorSSG4
import Derived.Test.YtgbokahnpmmfoaaGreatDoorSSG5
import Derived.Test.YtgbokahnpmmfoaaGreatDoorSSG6
import Derived.Test.YtgbokahnpmmfoaaGreatDoorSSG7
import Derived.Test.YtgbokahnpmmfoaaGreatDoorSSG8
import Derived.Test.YtgbokahnpmmfoaaGreatDoorSSG9
set_option linter.unusedVariables false
set_option linter.unusedSimpArgs false
set_option linter.unusedSectionVars false
set_option maxRecDepth 100000
namespace Go.Q
open Go.IntKind (i64)
open Go Go.RowKit
open Go.Rx (br bd sIdx sCat sCut iQuo iRem)
noncomputable section
namespace aT
def f(lf:Nat)(a0:Int)(a1:Int):Option (TV×Unit) :=
 bd (aG.f lf a0) fun r1 =>
 bd (aG.f lf a1) fun r2 =>
 bd (aO.f lf r1.1 r2.1) fun r3 =>
 bd (fQ.f lf) fun r4 =>
 bd (dh.f lf r3.1 r4.1.2.1) fun r5 =>
 some (r5.1,())
def E(lf:Nat):Entry:=⟨[(.int .i64),(.int .i64)],[yV],fun x=>f lf x.1 x.2.1⟩
theorem ok(lf:Nat):Ok 57 (E lf):=okT (an:=(annsL [])) (lf:=lf) (tC (aG.ok lf) (tC (dh.ok lf) (tC (fQ.ok lf) (tC (aO.ok lf) tN)))) aoN fun x=>by kernel_rfl
end aT
namespace dN
def f(lf:Nat)  : Option (Bool×Unit) :=
 bd (aT.f lf 0 0) fun r1 =>
 bd (aT.f lf 9 9) fun r2 =>
 bd (aT.f lf 1 5) fun r3 =>
 bd (aT.f lf 1 5) fun r4 =>
 bd (aT.f lf 7 7) fun r5 =>
 bd (rD.f lf [r1.1,r1.1,r1.1,r3.1,r4.1,r5.1]) fun r6 =>
 bd (lD.f lf r6.1 6) fun r7 =>
 br (r6.2.1 != 0) (
 some (false,())) (
 br (r7.2.1 != 0) (
 some (false,())) (
 br (!(r7.1.toList==(⟨#[48,45,50,58,32,91,48,44,32,48,93,59,32,51,45,52,58,32,91,49,44,32,53,93,59,32,53,58,32,91,55,44,32,55,93]⟩:ByteArray).toList)) (
 some (false,())) (
 bd (aT.f lf 2 3) fun r8 =>
 bd (dI.f lf r6.1 6 r8.1) fun r9 =>
 bd (dh.f lf (false,(⟨#[49]⟩:ByteArray),(⟨#[]⟩:ByteArray),()) (false,(⟨#[52]⟩:ByteArray),(⟨#[49]⟩:ByteArray),())) fun r10 =>
 bd (dI.f lf r6.1 6 r10.1) fun r11 =>
 bd (aT.f lf 1 1) fun r12 =>
 bd (bM.f lf r6.1 6 r12.1 r2.1) fun r13 =>
 bd (aT.f lf 0 1) fun r14 =>
 bd (bM.f lf r6.1 6 r14.1 r2.1) fun r15 =>
 bd (aT.f lf 6 6) fun r16 =>
 bd (bM.f lf r6.1 6 r16.1 r2.1) fun r17 =>
 bd (fQ.f lf) fun r18 =>
 bd (aT.f lf 4 10) fun r19 =>
 bd (rC.f lf r6.1 6 r18.1 r19.1) fun r20 =>
 bd (lD.f lf r13.1 6) fun r21 =>
 bd (lD.f lf r15.1 6) fun r22 =>
 br ((i64.wrap ((i64.wrap ((i64.wrap ((i64.wrap ((i64.wrap ((i64.wrap ((i64.wrap (r9.2.1+r11.2.1))+r13.2.2.1))+r15.2.2.1))+r17.2.2.1))+r20.2.1))+r21.2.1))+r22.2.1))==0) (
 br r13.2.1 (
 br r15.2.1 (
 br (!r17.2.1) (
 bd (aT.f lf 0 5) fun r23 =>
 bd (some (((r9.1.1.1==r23.1.1.1)&&((r9.1.1.2.1==r23.1.1.2.1)&&((r9.1.1.2.2.1==r23.1.1.2.2.1)&&true)))&&(((r9.1.2.1.1==r23.1.2.1.1)&&((r9.1.2.1.2.1==r23.1.2.1.2.1)&&((r9.1.2.1.2.2.1==r23.1.2.1.2.2.1)&&true)))&&true))) fun r24 =>
 br r24 (
 bd (some ((r11.1.1.1==false)&&((r11.1.1.2.1==(⟨#[48]⟩:ByteArray))&&((r11.1.1.2.2.1==(⟨#[55]⟩:ByteArray))&&true)))) fun r25 =>
 br r25 (
 bd (some ((r11.1.2.1.1==false)&&((r11.1.2.1.2.1==(⟨#[55]⟩:ByteArray))&&((r11.1.2.1.2.2.1==(⟨#[48]⟩:ByteArray))&&true)))) fun r26 =>
 br r26 (
 br (r21.1.toList==(⟨#[48,58,32,91,48,44,32,48,93,59,32,49,58,32,91,57,44,32,57,93,59,32,50,58,32,91,48,44,32,48,93,59,32,51,45,52,58,32,91,49,44,32,53,93,59,32,53,58,32,91,55,44,32,55,93]⟩:ByteArray).toList) (
 br (r22.1.toList==(⟨#[48,45,49,58,32,91,48,44,32,57,93,32,109,111,100,32,57,32,61,32,48,59,32,50,58,32,91,48,44,32,48,93,59,32,51,45,52,58,32,91,49,44,32,53,93,59,32,53,58,32,91,55,44,32,55,93]⟩:ByteArray).toList) (
 bd (aT.f lf 3 5) fun r27 =>
 bd (some (((r20.1.1.1==r27.1.1.1)&&((r20.1.1.2.1==r27.1.1.2.1)&&((r20.1.1.2.2.1==r27.1.1.2.2.1)&&true)))&&(((r20.1.2.1.1==r27.1.2.1.1)&&((r20.1.2.1.2.1==r27.1.2.1.2.1)&&((r20.1.2.1.2.2.1==r27.1.2.1.2.2.1)&&true)))&&true))) fun r28 =>
 some (r28,())) (
 some (false,()))) (
 some (false,()))) (
 some (false,()))) (
 some (false,()))) (
 some (false,()))) (
 some (false,()))) (
 some (false,()))) (
 some (false,()))) (
 some (false,())))))
def E(lf:Nat):Entry:=⟨[],[.bool],fun x=>f lf⟩
theorem ok(lf:Nat):Ok 12 (E lf):=okT (an:=(annsL [])) (lf:=lf) (tC (dI.ok lf) (tC (bM.ok lf) (tC (rC.ok lf) (tC (rD.ok lf) (tC (lD.ok lf) (tC (aT.ok lf) (tC (dh.ok lf) (tC (fQ.ok lf) tN)))))))) aoN fun x=>by kernel_rfl
end dN
end
end Go.Q
