import Derived.Test.YtkfehhngjioplaaGreatDoorProg
import Derived.KernelRfl
import Derived.Test.YtkfehhngjioplaaGreatDoorSOE3
import Derived.Test.YtkfehhngjioplaaGreatDoorSOG3
import Derived.Test.YtkfehhngjioplaaGreatDoorSOG7
import Derived.Test.YtkfehhngjioplaaGreatDoorSOG8
set_option linter.unusedVariables false
set_option linter.unusedSimpArgs false
set_option linter.unusedSectionVars false
set_option maxRecDepth 100000
namespace Go.Q
open Go.IntKind (i64)
open Go Go.RowKit
open Go.Rx (br bd sIdx sCat sCut iQuo iRem)
noncomputable section
namespace surveyorlaw23_right
def f(lf:Nat)(a0:TV)(a1:TV)(a2:ByteArray×(ByteArray×Unit)):Option (Bool×Unit) :=
 bd (surveyorref23_Few.f lf a0 a1) fun r1 =>
 br r1.1 (
 bd (surveyorref23_Checks.f lf a0 a1) fun r2 =>
 br (r2.1==0) (
 bd (surveyorref01_Few.f lf a2.1) fun r3 =>
 br r3.1 (
 bd (surveyorref01_Few.f lf a2.2.1) fun r4 =>
 br r4.1 (
 bd (surveyorref01_Check.f lf a2.1) fun r5 =>
 br (r5.1==0) (
 bd (surveyorref01_Check.f lf a2.2.1) fun r6 =>
 br (r6.1==0) (
 bd (surveyorref23_In.f lf a0 a2.1) fun r7 =>
 br r7.1 (
 bd (surveyorref23_In.f lf a1 a2.2.1) fun r8 =>
 some (r8.1,())) (
 some (false,()))) (
 some (false,()))) (
 some (false,()))) (
 some (false,()))) (
 some (false,()))) (
 some (false,()))) (
 some (false,()))
def E(lf:Nat):Entry:=⟨[yV,yV,(.pair .str (.pair .str .unit))],[.bool],fun x=>f lf x.1 x.2.1 x.2.2.1⟩
theorem ok(lf:Nat):Ok 5 (E lf):=okT (an:=(annsL [])) (lf:=lf) (tC (surveyorref23_Few.ok lf) (tC (surveyorref23_Checks.ok lf) (tC (surveyorref01_Few.ok lf) (tC (surveyorref01_Check.ok lf) (tC (surveyorref23_In.ok lf) tN))))) aoN fun x=>by kernel_rfl
end surveyorlaw23_right
namespace surveyorlaw23_set
def f(lf:Nat)(a0:ByteArray)(a1:ByteArray)(a2:ByteArray)(a3:ByteArray):Option (TV×Unit) :=
 some (((false,a0,a1,()),(false,a2,a3,()),()),())
def E(lf:Nat):Entry:=⟨[.str,.str,.str,.str],[yV],fun x=>f lf x.1 x.2.1 x.2.2.1 x.2.2.2.1⟩
theorem ok(lf:Nat):Ok 35 (E lf):=okT (an:=(annsL [])) (lf:=lf) tN aoN fun x=>by kernel_rfl
end surveyorlaw23_set
namespace surveyorlaw23_awake
def f(lf:Nat)  : Option (Bool×Unit) :=
 bd (value_Make.f lf (false,(⟨#[49]⟩:ByteArray),(⟨#[49,49]⟩:ByteArray),()) (false,(⟨#[52]⟩:ByteArray),(⟨#[48]⟩:ByteArray),())) fun r1 =>
 bd (value_Make.f lf (false,(⟨#[53]⟩:ByteArray),(⟨#[55]⟩:ByteArray),()) (false,(⟨#[52]⟩:ByteArray),(⟨#[48]⟩:ByteArray),())) fun r2 =>
 bd (value_Make.f lf (false,(⟨#[51]⟩:ByteArray),(⟨#[54]⟩:ByteArray),()) (false,(⟨#[52]⟩:ByteArray),(⟨#[48]⟩:ByteArray),())) fun r3 =>
 br ((i64.wrap ((i64.wrap (r1.2.1+r2.2.1))+r3.2.1)) != 0) (
 some (false,())) (
 bd (surveyorlaw23_set.f lf (⟨#[52]⟩:ByteArray) (⟨#[56]⟩:ByteArray) (⟨#[52]⟩:ByteArray) (⟨#[48]⟩:ByteArray)) fun r4 =>
 bd (some (!(((r1.1.1.1==r4.1.1.1)&&((r1.1.1.2.1==r4.1.1.2.1)&&((r1.1.1.2.2.1==r4.1.1.2.2.1)&&true)))&&(((r1.1.2.1.1==r4.1.2.1.1)&&((r1.1.2.1.2.1==r4.1.2.1.2.1)&&((r1.1.2.1.2.2.1==r4.1.2.1.2.2.1)&&true)))&&true)))) fun r5 =>
 br r5 (
 some (false,())) (
 bd (surveyorref23_Empty.f lf) fun r6 =>
 bd (some (!(((r2.1.1.1==r6.1.1.1)&&((r2.1.1.2.1==r6.1.1.2.1)&&((r2.1.1.2.2.1==r6.1.1.2.2.1)&&true)))&&(((r2.1.2.1.1==r6.1.2.1.1)&&((r2.1.2.1.2.1==r6.1.2.1.2.1)&&((r2.1.2.1.2.2.1==r6.1.2.1.2.2.1)&&true)))&&true)))) fun r7 =>
 br r7 (
 some (false,())) (
 bd (surveyorlaw23_set.f lf (⟨#[52]⟩:ByteArray) (⟨#[52]⟩:ByteArray) (⟨#[48]⟩:ByteArray) (⟨#[52]⟩:ByteArray)) fun r8 =>
 bd (some (!(((r3.1.1.1==r8.1.1.1)&&((r3.1.1.2.1==r8.1.1.2.1)&&((r3.1.1.2.2.1==r8.1.1.2.2.1)&&true)))&&(((r3.1.2.1.1==r8.1.2.1.1)&&((r3.1.2.1.2.1==r8.1.2.1.2.1)&&((r3.1.2.1.2.2.1==r8.1.2.1.2.2.1)&&true)))&&true)))) fun r9 =>
 br r9 (
 some (false,())) (
 bd (value_Of.f lf (⟨#[51]⟩:ByteArray)) fun r10 =>
 bd (surveyorlaw23_set.f lf (⟨#[48]⟩:ByteArray) (⟨#[49]⟩:ByteArray) (⟨#[49]⟩:ByteArray) (⟨#[48]⟩:ByteArray)) fun r11 =>
 bd (value_Apply.f lf 3 r1.1 r11.1) fun r12 =>
 bd (value_Apply.f lf 5 r1.1 r10.1) fun r13 =>
 bd (value_Apply.f lf 6 r1.1 r3.1) fun r14 =>
 br ((i64.wrap ((i64.wrap ((i64.wrap (r10.2.1+r12.2.1))+r13.2.1))+r14.2.1)) != 0) (
 some (false,())) (
 bd (surveyorlaw23_set.f lf (⟨#[52]⟩:ByteArray) (⟨#[57]⟩:ByteArray) (⟨#[49]⟩:ByteArray) (⟨#[48]⟩:ByteArray)) fun r15 =>
 bd (some (!(((r12.1.1.1==r15.1.1.1)&&((r12.1.1.2.1==r15.1.1.2.1)&&((r12.1.1.2.2.1==r15.1.1.2.2.1)&&true)))&&(((r12.1.2.1.1==r15.1.2.1.1)&&((r12.1.2.1.2.1==r15.1.2.1.2.1)&&((r12.1.2.1.2.2.1==r15.1.2.1.2.2.1)&&true)))&&true)))) fun r16 =>
 br r16 (
 some (false,())) (
 bd (surveyorlaw23_set.f lf (⟨#[49,50]⟩:ByteArray) (⟨#[50,52]⟩:ByteArray) (⟨#[49,50]⟩:ByteArray) (⟨#[48]⟩:ByteArray)) fun r17 =>
 bd (some (!(((r13.1.1.1==r17.1.1.1)&&((r13.1.1.2.1==r17.1.1.2.1)&&((r13.1.1.2.2.1==r17.1.1.2.2.1)&&true)))&&(((r13.1.2.1.1==r17.1.2.1.1)&&((r13.1.2.1.2.1==r17.1.2.1.2.1)&&((r13.1.2.1.2.2.1==r17.1.2.1.2.2.1)&&true)))&&true)))) fun r18 =>
 br r18 (
 some (false,())) (
 bd (surveyorlaw23_set.f lf (⟨#[49]⟩:ByteArray) (⟨#[50]⟩:ByteArray) (⟨#[49]⟩:ByteArray) (⟨#[48]⟩:ByteArray)) fun r19 =>
 bd (some (!(((r14.1.1.1==r19.1.1.1)&&((r14.1.1.2.1==r19.1.1.2.1)&&((r14.1.1.2.2.1==r19.1.1.2.2.1)&&true)))&&(((r14.1.2.1.1==r19.1.2.1.1)&&((r14.1.2.1.2.1==r19.1.2.1.2.1)&&((r14.1.2.1.2.2.1==r19.1.2.1.2.2.1)&&true)))&&true)))) fun r20 =>
 br r20 (
 some (false,())) (
 bd (surveyorlaw23_set.f lf (⟨#[56]⟩:ByteArray) (⟨#[56]⟩:ByteArray) (⟨#[48]⟩:ByteArray) (⟨#[56]⟩:ByteArray)) fun r21 =>
 bd (value_Refine.f lf 4 r1.1 r21.1) fun r22 =>
 bd (value_Refine.f lf 3 r1.1 r3.1) fun r23 =>
 bd (surveyorlaw23_set.f lf (⟨#[49,50]⟩:ByteArray) (⟨#[49,50]⟩:ByteArray) (⟨#[48]⟩:ByteArray) (⟨#[49,50]⟩:ByteArray)) fun r24 =>
 bd (value_Widen.f lf r1.1 r24.1 []) fun r25 =>
 bd (surveyorlaw23_set.f lf (⟨#[49,50]⟩:ByteArray) (⟨#[49,50]⟩:ByteArray) (⟨#[48]⟩:ByteArray) (⟨#[49,50]⟩:ByteArray)) fun r26 =>
 bd (value_Widen.f lf r1.1 r26.1 [(⟨#[49,52]⟩:ByteArray)]) fun r27 =>
 bd (value_Format.f lf r25.1) fun r28 =>
 br ((i64.wrap ((i64.wrap ((i64.wrap ((i64.wrap (r22.2.2.1+r23.2.2.1))+r25.2.1))+r27.2.1))+r28.2.1))==0) (
 bd (some (((r22.1.1.1==r3.1.1.1)&&((r22.1.1.2.1==r3.1.1.2.1)&&((r22.1.1.2.2.1==r3.1.1.2.2.1)&&true)))&&(((r22.1.2.1.1==r3.1.2.1.1)&&((r22.1.2.1.2.1==r3.1.2.1.2.1)&&((r22.1.2.1.2.2.1==r3.1.2.1.2.2.1)&&true)))&&true))) fun r29 =>
 br r29 (
 bd (surveyorlaw23_set.f lf (⟨#[56]⟩:ByteArray) (⟨#[56]⟩:ByteArray) (⟨#[48]⟩:ByteArray) (⟨#[56]⟩:ByteArray)) fun r30 =>
 bd (some (((r23.1.1.1==r30.1.1.1)&&((r23.1.1.2.1==r30.1.1.2.1)&&((r23.1.1.2.2.1==r30.1.1.2.2.1)&&true)))&&(((r23.1.2.1.1==r30.1.2.1.1)&&((r23.1.2.1.2.1==r30.1.2.1.2.1)&&((r23.1.2.1.2.2.1==r30.1.2.1.2.2.1)&&true)))&&true))) fun r31 =>
 br r31 (
 bd (surveyorlaw23_set.f lf (⟨#[52]⟩:ByteArray) (⟨#[49,50]⟩:ByteArray) (⟨#[52]⟩:ByteArray) (⟨#[48]⟩:ByteArray)) fun r32 =>
 bd (some (((r27.1.1.1==r32.1.1.1)&&((r27.1.1.2.1==r32.1.1.2.1)&&((r27.1.1.2.2.1==r32.1.1.2.2.1)&&true)))&&(((r27.1.2.1.1==r32.1.2.1.1)&&((r27.1.2.1.2.1==r32.1.2.1.2.1)&&((r27.1.2.1.2.2.1==r32.1.2.1.2.2.1)&&true)))&&true))) fun r33 =>
 br r33 (
 some ((r28.1.toList==(⟨#[91,52,44,32,43,105,110,102,93,32,109,111,100,32,52,32,61,32,48]⟩:ByteArray).toList),())) (
 some (false,()))) (
 some (false,()))) (
 some (false,()))) (
 some (false,()))))))))))
def E(lf:Nat):Entry:=⟨[],[.bool],fun x=>f lf⟩
theorem ok(lf:Nat):Ok 6 (E lf):=okT (an:=(annsL [])) (lf:=lf) (tC (value_Apply.ok lf) (tC (value_Widen.ok lf) (tC (value_Make.ok lf) (tC (surveyorlaw23_set.ok lf) (tC (surveyorref23_Empty.ok lf) (tC (value_Of.ok lf) (tC (value_Refine.ok lf) (tC (value_Format.ok lf) tN)))))))) aoN fun x=>by kernel_rfl
end surveyorlaw23_awake
namespace surveyorlaw23_short
def f(lf:Nat)(a0:ByteArray):Option (Bool×Unit) :=
 bd (surveyorref01_Digits.f lf a0) fun r1 =>
 some ((decide (r1.1≤100)),())
def E(lf:Nat):Entry:=⟨[.str],[.bool],fun x=>f lf x.1⟩
theorem ok(lf:Nat):Ok 14 (E lf):=okT (an:=(annsL [])) (lf:=lf) (tC (surveyorref01_Digits.ok lf) tN) aoN fun x=>by kernel_rfl
end surveyorlaw23_short
end
end Go.Q
