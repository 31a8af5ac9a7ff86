import Derived.Test.YtgbokahnpmmfoaaGreatDoorProg
import Derived.KernelRfl
import Derived.Test.YtgbokahnpmmfoaaGreatDoorSCE3
import Derived.Test.YtgbokahnpmmfoaaGreatDoorSCG1
import Derived.Test.YtgbokahnpmmfoaaGreatDoorSCG3
import Derived.Test.YtgbokahnpmmfoaaGreatDoorSCG5
set_option linter.unusedVariables false
set_option linter.unusedSimpArgs false
set_option linter.unusedSectionVars false
set_option maxRecDepth 100000
namespace Go.Q
open Go Go.RowKit
open Go.Rx (br bd sIdx sCat sCut iQuo iRem)
noncomputable section
namespace value_one
def f(lf:Nat)(a0:ByteArray):Option (TV×Unit) :=
 some (((false,a0,a0,()),(false,(⟨#[48]⟩:ByteArray),a0,()),()),())
def E(lf:Nat):Entry:=⟨[.str],[yV],fun x=>f lf x.1⟩
theorem ok(lf:Nat):Ok 180 (E lf):=okT (an:=(annsL [])) (lf:=lf) tN aoN fun x=>by kernel_rfl
end value_one
namespace value_empty
def f(lf:Nat)  : Option (TV×Unit) :=
 some (((true,(⟨#[]⟩:ByteArray),(⟨#[]⟩:ByteArray),()),(true,(⟨#[]⟩:ByteArray),(⟨#[]⟩:ByteArray),()),()),())
def E(lf:Nat):Entry:=⟨[],[yV],fun x=>f lf⟩
theorem ok(lf:Nat):Ok 265 (E lf):=okT (an:=(annsL [])) (lf:=lf) tN aoN fun x=>by kernel_rfl
end value_empty
namespace value_clip
def f(lf:Nat)(a0:ByteArray):Option (ByteArray×Unit) :=
 bd (strings_TrimPrefix.f lf a0 (⟨#[45]⟩:ByteArray)) fun r1 =>
 br (decide (((r1.1.size:Nat):Int) > 100)) (
 some ((⟨#[]⟩:ByteArray),())) (
 some (a0,()))
def E(lf:Nat):Entry:=⟨[.str],[.str],fun x=>f lf x.1⟩
theorem ok(lf:Nat):Ok 178 (E lf):=okT (an:=(annsL [])) (lf:=lf) (tC (strings_TrimPrefix.ok lf) tN) aoN fun x=>by kernel_rfl
end value_clip
namespace value_reduced
def f(lf:Nat)(a0:TI)(a1:TI):Option (TV×Unit) :=
 br a0.1 (
 bd (value_empty.f lf) fun r1 =>
 some (r1.1,())) (
 br a1.1 (
 bd (value_empty.f lf) fun r2 =>
 some (r2.1,())) (
 br (a1.2.1.toList==(⟨#[48]⟩:ByteArray).toList) (
 bd (interval_Holds.f lf a0 a1.2.2.1) fun r3 =>
 br (!r3.1) (
 bd (value_empty.f lf) fun r4 =>
 some (r4.1,())) (
 bd (value_one.f lf a1.2.2.1) fun r5 =>
 some (r5.1,()))) (
 br (!(a0.2.1.toList==(⟨#[]⟩:ByteArray).toList)) (
 bd (congruence_Least.f lf a1 a0.2.1) fun r6 =>
 br (!(a0.2.2.1.toList==(⟨#[]⟩:ByteArray).toList)) (
 bd (congruence_Greatest.f lf a1 a0.2.2.1) fun r7 =>
 br (!(r6.1.toList==(⟨#[]⟩:ByteArray).toList)) (
 br (!(r7.1.toList==(⟨#[]⟩:ByteArray).toList)) (
 bd (bigint_Compare.f lf r6.1 r7.1) fun r8 =>
 br (decide (r8.1 > 0)) (
 bd (value_empty.f lf) fun r9 =>
 some (r9.1,())) (
 br (r8.1==0) (
 bd (value_one.f lf r6.1) fun r10 =>
 some (r10.1,())) (
 bd (value_clip.f lf r6.1) fun r11 =>
 bd (value_clip.f lf r7.1) fun r12 =>
 some (((false,r11.1,r12.1,()),a1,()),())))) (
 bd (value_clip.f lf r6.1) fun r13 =>
 bd (value_clip.f lf r7.1) fun r14 =>
 some (((false,r13.1,r14.1,()),a1,()),()))) (
 bd (value_clip.f lf r6.1) fun r15 =>
 bd (value_clip.f lf r7.1) fun r16 =>
 some (((false,r15.1,r16.1,()),a1,()),()))) (
 br (!(r6.1.toList==(⟨#[]⟩:ByteArray).toList)) (
 br (!(a0.2.2.1.toList==(⟨#[]⟩:ByteArray).toList)) (
 bd (bigint_Compare.f lf r6.1 a0.2.2.1) fun r17 =>
 br (decide (r17.1 > 0)) (
 bd (value_empty.f lf) fun r18 =>
 some (r18.1,())) (
 br (r17.1==0) (
 bd (value_one.f lf r6.1) fun r19 =>
 some (r19.1,())) (
 bd (value_clip.f lf r6.1) fun r20 =>
 bd (value_clip.f lf a0.2.2.1) fun r21 =>
 some (((false,r20.1,r21.1,()),a1,()),())))) (
 bd (value_clip.f lf r6.1) fun r22 =>
 bd (value_clip.f lf a0.2.2.1) fun r23 =>
 some (((false,r22.1,r23.1,()),a1,()),()))) (
 bd (value_clip.f lf r6.1) fun r24 =>
 bd (value_clip.f lf a0.2.2.1) fun r25 =>
 some (((false,r24.1,r25.1,()),a1,()),())))) (
 br (!(a0.2.2.1.toList==(⟨#[]⟩:ByteArray).toList)) (
 bd (congruence_Greatest.f lf a1 a0.2.2.1) fun r26 =>
 br (!(a0.2.1.toList==(⟨#[]⟩:ByteArray).toList)) (
 br (!(r26.1.toList==(⟨#[]⟩:ByteArray).toList)) (
 bd (bigint_Compare.f lf a0.2.1 r26.1) fun r27 =>
 br (decide (r27.1 > 0)) (
 bd (value_empty.f lf) fun r28 =>
 some (r28.1,())) (
 br (r27.1==0) (
 bd (value_one.f lf a0.2.1) fun r29 =>
 some (r29.1,())) (
 bd (value_clip.f lf a0.2.1) fun r30 =>
 bd (value_clip.f lf r26.1) fun r31 =>
 some (((false,r30.1,r31.1,()),a1,()),())))) (
 bd (value_clip.f lf a0.2.1) fun r32 =>
 bd (value_clip.f lf r26.1) fun r33 =>
 some (((false,r32.1,r33.1,()),a1,()),()))) (
 bd (value_clip.f lf a0.2.1) fun r34 =>
 bd (value_clip.f lf r26.1) fun r35 =>
 some (((false,r34.1,r35.1,()),a1,()),()))) (
 br (!(a0.2.1.toList==(⟨#[]⟩:ByteArray).toList)) (
 br (!(a0.2.2.1.toList==(⟨#[]⟩:ByteArray).toList)) (
 bd (bigint_Compare.f lf a0.2.1 a0.2.2.1) fun r36 =>
 br (decide (r36.1 > 0)) (
 bd (value_empty.f lf) fun r37 =>
 some (r37.1,())) (
 br (r36.1==0) (
 bd (value_one.f lf a0.2.1) fun r38 =>
 some (r38.1,())) (
 bd (value_clip.f lf a0.2.1) fun r39 =>
 bd (value_clip.f lf a0.2.2.1) fun r40 =>
 some (((false,r39.1,r40.1,()),a1,()),())))) (
 bd (value_clip.f lf a0.2.1) fun r41 =>
 bd (value_clip.f lf a0.2.2.1) fun r42 =>
 some (((false,r41.1,r42.1,()),a1,()),()))) (
 bd (value_clip.f lf a0.2.1) fun r43 =>
 bd (value_clip.f lf a0.2.2.1) fun r44 =>
 some (((false,r43.1,r44.1,()),a1,()),())))))))
def E(lf:Nat):Entry:=⟨[yI,yI],[yV],fun x=>f lf x.1 x.2.1⟩
theorem ok(lf:Nat):Ok 155 (E lf):=okT (an:=(annsL [])) (lf:=lf) (tC (interval_Holds.ok lf) (tC (value_clip.ok lf) (tC (value_one.ok lf) (tC (value_empty.ok lf) (tC (congruence_Least.ok lf) (tC (congruence_Greatest.ok lf) (tC (bigint_Compare.ok lf) tN))))))) aoN fun x=>by kernel_rfl
end value_reduced
namespace value_parts
def f(lf:Nat)(a0:TI)(a1:TI):Option (Int×Unit) :=
 bd (interval_Check.f lf a0) fun r1 =>
 br (r1.1 != 0) (
 some (r1.1,())) (
 bd (congruence_Check.f lf a1) fun r2 =>
 some (r2.1,()))
def E(lf:Nat):Entry:=⟨[yI,yI],[(.int .i64)],fun x=>f lf x.1 x.2.1⟩
theorem ok(lf:Nat):Ok 166 (E lf):=okT (an:=(annsL [])) (lf:=lf) (tC (interval_Check.ok lf) (tC (congruence_Check.ok lf) tN)) aoN fun x=>by kernel_rfl
end value_parts
namespace value_Check
def f(lf:Nat)(a0:TV):Option (Int×Unit) :=
 bd (value_parts.f lf a0.1 a0.2.1) fun r1 =>
 br (r1.1 != 0) (
 some (r1.1,())) (
 bd (value_reduced.f lf a0.1 a0.2.1) fun r2 =>
 bd (some (!(((r2.1.1.1==a0.1.1)&&((r2.1.1.2.1==a0.1.2.1)&&((r2.1.1.2.2.1==a0.1.2.2.1)&&true)))&&(((r2.1.2.1.1==a0.2.1.1)&&((r2.1.2.1.2.1==a0.2.1.2.1)&&((r2.1.2.1.2.2.1==a0.2.1.2.2.1)&&true)))&&true)))) fun r3 =>
 br r3 (
 some (3,())) (
 some (0,())))
def E(lf:Nat):Entry:=⟨[yV],[(.int .i64)],fun x=>f lf x.1⟩
theorem ok(lf:Nat):Ok 118 (E lf):=okT (an:=(annsL [])) (lf:=lf) (tC (value_reduced.ok lf) (tC (value_parts.ok lf) tN)) aoN fun x=>by kernel_rfl
end value_Check
namespace value_checks
def f(lf:Nat)(a0:TV)(a1:TV):Option (Int×Unit) :=
 bd (value_Check.f lf a0) fun r1 =>
 br (r1.1 != 0) (
 some (r1.1,())) (
 bd (value_Check.f lf a1) fun r2 =>
 some (r2.1,()))
def E(lf:Nat):Entry:=⟨[yV,yV],[(.int .i64)],fun x=>f lf x.1 x.2.1⟩
theorem ok(lf:Nat):Ok 149 (E lf):=okT (an:=(annsL [])) (lf:=lf) (tC (value_Check.ok lf) tN) aoN fun x=>by kernel_rfl
end value_checks
namespace value_Meet
def f(lf:Nat)(a0:TV)(a1:TV):Option (TV×Int×Unit) :=
 bd (value_checks.f lf a0 a1) fun r1 =>
 br (r1.1 != 0) (
 some (((false,(⟨#[]⟩:ByteArray),(⟨#[]⟩:ByteArray),()),(false,(⟨#[]⟩:ByteArray),(⟨#[]⟩:ByteArray),()),()),r1.1,())) (
 bd (interval_Meet.f lf a0.1 a1.1) fun r2 =>
 br (r2.2.1 != 0) (
 some (((false,(⟨#[]⟩:ByteArray),(⟨#[]⟩:ByteArray),()),(false,(⟨#[]⟩:ByteArray),(⟨#[]⟩:ByteArray),()),()),r2.2.1,())) (
 bd (congruence_Meet.f lf a0.2.1 a1.2.1) fun r3 =>
 br (r3.2.1 != 0) (
 some (((false,(⟨#[]⟩:ByteArray),(⟨#[]⟩:ByteArray),()),(false,(⟨#[]⟩:ByteArray),(⟨#[]⟩:ByteArray),()),()),r3.2.1,())) (
 bd (value_reduced.f lf r2.1 r3.1) fun r4 =>
 some (r4.1,0,()))))
def E(lf:Nat):Entry:=⟨[yV,yV],[yV,(.int .i64)],fun x=>f lf x.1 x.2.1⟩
theorem ok(lf:Nat):Ok 70 (E lf):=okT (an:=(annsL [])) (lf:=lf) (tC (interval_Meet.ok lf) (tC (congruence_Meet.ok lf) (tC (value_checks.ok lf) (tC (value_reduced.ok lf) tN)))) aoN fun x=>by kernel_rfl
end value_Meet
namespace value_Top
def f(lf:Nat)  : Option (TV×Unit) :=
 some (((false,(⟨#[]⟩:ByteArray),(⟨#[]⟩:ByteArray),()),(false,(⟨#[49]⟩:ByteArray),(⟨#[48]⟩:ByteArray),()),()),())
def E(lf:Nat):Entry:=⟨[],[yV],fun x=>f lf⟩
theorem ok(lf:Nat):Ok 179 (E lf):=okT (an:=(annsL [])) (lf:=lf) tN aoN fun x=>by kernel_rfl
end value_Top
namespace value_Of
def f(lf:Nat)(a0:ByteArray):Option (TV×Int×Unit) :=
 bd (bigint_Check.f lf a0) fun r1 =>
 br (r1.1 != 0) (
 some (((false,(⟨#[]⟩:ByteArray),(⟨#[]⟩:ByteArray),()),(false,(⟨#[]⟩:ByteArray),(⟨#[]⟩:ByteArray),()),()),r1.1,())) (
 bd (value_clip.f lf a0) fun r2 =>
 br (r2.1.toList==(⟨#[]⟩:ByteArray).toList) (
 bd (value_Top.f lf) fun r3 =>
 some (r3.1,0,())) (
 bd (value_one.f lf a0) fun r4 =>
 some (r4.1,0,())))
def E(lf:Nat):Entry:=⟨[.str],[yV,(.int .i64)],fun x=>f lf x.1⟩
theorem ok(lf:Nat):Ok 129 (E lf):=okT (an:=(annsL [])) (lf:=lf) (tC (bigint_Check.ok lf) (tC (value_clip.ok lf) (tC (value_Top.ok lf) (tC (value_one.ok lf) tN)))) aoN fun x=>by kernel_rfl
end value_Of
namespace value_Holds
def f(lf:Nat)(a0:TV)(a1:ByteArray):Option (Bool×Int×Unit) :=
 bd (value_Check.f lf a0) fun r1 =>
 br (r1.1 != 0) (
 some (false,r1.1,())) (
 bd (interval_Holds.f lf a0.1 a1) fun r2 =>
 br (r2.2.1 != 0) (
 some (false,r2.2.1,())) (
 bd (congruence_Holds.f lf a0.2.1 a1) fun r3 =>
 br r2.1 (
 br r3.1 (
 some ((r3.2.1==0),r3.2.1,())) (
 some (false,r3.2.1,()))) (
 some (false,r3.2.1,()))))
def E(lf:Nat):Entry:=⟨[yV,.str],[.bool,(.int .i64)],fun x=>f lf x.1 x.2.1⟩
theorem ok(lf:Nat):Ok 86 (E lf):=okT (an:=(annsL [])) (lf:=lf) (tC (value_Check.ok lf) (tC (interval_Holds.ok lf) (tC (congruence_Holds.ok lf) tN))) aoN fun x=>by kernel_rfl
end value_Holds
namespace value_Join
def f(lf:Nat)(a0:TV)(a1:TV):Option (TV×Int×Unit) :=
 bd (value_checks.f lf a0 a1) fun r1 =>
 br (r1.1 != 0) (
 some (((false,(⟨#[]⟩:ByteArray),(⟨#[]⟩:ByteArray),()),(false,(⟨#[]⟩:ByteArray),(⟨#[]⟩:ByteArray),()),()),r1.1,())) (
 bd (interval_Join.f lf a0.1 a1.1) fun r2 =>
 br (r2.2.1 != 0) (
 some (((false,(⟨#[]⟩:ByteArray),(⟨#[]⟩:ByteArray),()),(false,(⟨#[]⟩:ByteArray),(⟨#[]⟩:ByteArray),()),()),r2.2.1,())) (
 bd (congruence_Join.f lf a0.2.1 a1.2.1) fun r3 =>
 br (r3.2.1 != 0) (
 some (((false,(⟨#[]⟩:ByteArray),(⟨#[]⟩:ByteArray),()),(false,(⟨#[]⟩:ByteArray),(⟨#[]⟩:ByteArray),()),()),r3.2.1,())) (
 bd (value_reduced.f lf r2.1 r3.1) fun r4 =>
 some (r4.1,0,()))))
def E(lf:Nat):Entry:=⟨[yV,yV],[yV,(.int .i64)],fun x=>f lf x.1 x.2.1⟩
theorem ok(lf:Nat):Ok 64 (E lf):=okT (an:=(annsL [])) (lf:=lf) (tC (interval_Join.ok lf) (tC (congruence_Join.ok lf) (tC (value_checks.ok lf) (tC (value_reduced.ok lf) tN)))) aoN fun x=>by kernel_rfl
end value_Join
namespace value_Format
def f(lf:Nat)(a0:TV):Option (ByteArray×Int×Unit) :=
 bd (value_Check.f lf a0) fun r1 =>
 br (r1.1 != 0) (
 some ((⟨#[]⟩:ByteArray),r1.1,())) (
 bd (interval_Format.f lf a0.1) fun r2 =>
 br (!a0.2.1.1) (
 br (!(a0.2.1.2.1.toList==(⟨#[48]⟩:ByteArray).toList)) (
 br (!(a0.2.1.2.1.toList==(⟨#[49]⟩:ByteArray).toList)) (
 bd (sCat (⟨#[32,109,111,100,32]⟩:ByteArray) a0.2.1.2.1) fun r3 =>
 bd (sCat r3 (⟨#[32,61,32]⟩:ByteArray)) fun r4 =>
 bd (sCat r4 a0.2.1.2.2.1) fun r5 =>
 bd (sCat r2.1 r5) fun r6 =>
 some (r6,r2.2.1,())) (
 some (r2.1,r2.2.1,()))) (
 some (r2.1,r2.2.1,()))) (
 some (r2.1,r2.2.1,())))
def E(lf:Nat):Entry:=⟨[yV],[.str,(.int .i64)],fun x=>f lf x.1⟩
theorem ok(lf:Nat):Ok 90 (E lf):=okT (an:=(annsL [])) (lf:=lf) (tC (value_Check.ok lf) (tC (interval_Format.ok lf) tN)) aoN fun x=>by kernel_rfl
end value_Format
end
end Go.Q
namespace Go.Q
open Go Go.RowKit
open Go.Rx (br bd sIdx sCat sCut iQuo iRem)
noncomputable section
namespace surveyorref23_Few
def f(lf:Nat)(a0:TV)(a1:TV):Option (Bool×Unit) :=
 bd (surveyorref21_Few.f lf a0.1 a1.1) fun r1 =>
 br r1.1 (
 bd (surveyorref22_Few.f lf a0.2.1) fun r2 =>
 br r2.1 (
 bd (surveyorref22_Few.f lf a1.2.1) fun r3 =>
 some (r3.1,())) (
 some (false,()))) (
 some (false,()))
def E(lf:Nat):Entry:=⟨[yV,yV],[.bool],fun x=>f lf x.1 x.2.1⟩
theorem ok(lf:Nat):Ok 11 (E lf):=okT (an:=(annsL [])) (lf:=lf) (tC (surveyorref21_Few.ok lf) (tC (surveyorref22_Few.ok lf) tN)) aoN fun x=>by kernel_rfl
end surveyorref23_Few
namespace surveyorref23_Empty
def f(lf:Nat)  : Option (TV×Unit) :=
 bd (surveyorref21_None.f lf) fun r1 =>
 bd (surveyorref22_Empty.f lf) fun r2 =>
 some ((r1.1,r2.1,()),())
def E(lf:Nat):Entry:=⟨[],[yV],fun x=>f lf⟩
theorem ok(lf:Nat):Ok 21 (E lf):=okT (an:=(annsL [])) (lf:=lf) (tC (surveyorref21_None.ok lf) (tC (surveyorref22_Empty.ok lf) tN)) aoN fun x=>by kernel_rfl
end surveyorref23_Empty
namespace surveyorref23_Top
def f(lf:Nat)  : Option (TV×Unit) :=
 bd (surveyorref22_Top.f lf) fun r1 =>
 some (((false,(⟨#[]⟩:ByteArray),(⟨#[]⟩:ByteArray),()),r1.1,()),())
def E(lf:Nat):Entry:=⟨[],[yV],fun x=>f lf⟩
theorem ok(lf:Nat):Ok 59 (E lf):=okT (an:=(annsL [])) (lf:=lf) (tC (surveyorref22_Top.ok lf) tN) aoN fun x=>by kernel_rfl
end surveyorref23_Top
namespace surveyorref23_One
def f(lf:Nat)(a0:ByteArray):Option (TV×Unit) :=
 bd (surveyorref22_Single.f lf a0) fun r1 =>
 br (!(r1.1.2.1.toList==(⟨#[48]⟩:ByteArray).toList)) (
 bd (surveyorref23_Top.f lf) fun r2 =>
 some (r2.1,())) (
 some (((false,a0,a0,()),r1.1,()),()))
def E(lf:Nat):Entry:=⟨[.str],[yV],fun x=>f lf x.1⟩
theorem ok(lf:Nat):Ok 28 (E lf):=okT (an:=(annsL [])) (lf:=lf) (tC (surveyorref23_Top.ok lf) (tC (surveyorref22_Single.ok lf) tN)) aoN fun x=>by kernel_rfl
end surveyorref23_One
namespace surveyorref23_Reduced
def f(lf:Nat)(a0:TI)(a1:TI):Option (TV×Unit) :=
 br a0.1 (
 bd (surveyorref23_Empty.f lf) fun r1 =>
 some (r1.1,())) (
 br a1.1 (
 bd (surveyorref23_Empty.f lf) fun r2 =>
 some (r2.1,())) (
 br (a1.2.1.toList==(⟨#[48]⟩:ByteArray).toList) (
 bd (surveyorref21_In.f lf a0 a1.2.2.1) fun r3 =>
 br (!r3.1) (
 bd (surveyorref23_Empty.f lf) fun r4 =>
 some (r4.1,())) (
 some (((false,a1.2.2.1,a1.2.2.1,()),a1,()),()))) (
 br (!(a0.2.1.toList==(⟨#[]⟩:ByteArray).toList)) (
 bd (surveyorref22_Above.f lf a1 a0.2.1) fun r5 =>
 br (!(a0.2.2.1.toList==(⟨#[]⟩:ByteArray).toList)) (
 bd (surveyorref22_Below.f lf a1 a0.2.2.1) fun r6 =>
 br (!(r5.1.toList==(⟨#[]⟩:ByteArray).toList)) (
 br (!(r6.1.toList==(⟨#[]⟩:ByteArray).toList)) (
 bd (surveyorref01_Less.f lf r6.1 r5.1) fun r7 =>
 br r7.1 (
 bd (surveyorref23_Empty.f lf) fun r8 =>
 some (r8.1,())) (
 br (r5.1.toList==r6.1.toList) (
 bd (surveyorref23_One.f lf r5.1) fun r9 =>
 some (r9.1,())) (
 bd (surveyorref21_Range.f lf r5.1 r6.1) fun r10 =>
 some ((r10.1,a1,()),())))) (
 bd (surveyorref21_Range.f lf r5.1 r6.1) fun r11 =>
 some ((r11.1,a1,()),()))) (
 bd (surveyorref21_Range.f lf r5.1 r6.1) fun r12 =>
 some ((r12.1,a1,()),()))) (
 br (!(r5.1.toList==(⟨#[]⟩:ByteArray).toList)) (
 br (!(a0.2.2.1.toList==(⟨#[]⟩:ByteArray).toList)) (
 bd (surveyorref01_Less.f lf a0.2.2.1 r5.1) fun r13 =>
 br r13.1 (
 bd (surveyorref23_Empty.f lf) fun r14 =>
 some (r14.1,())) (
 br (r5.1.toList==a0.2.2.1.toList) (
 bd (surveyorref23_One.f lf r5.1) fun r15 =>
 some (r15.1,())) (
 bd (surveyorref21_Range.f lf r5.1 a0.2.2.1) fun r16 =>
 some ((r16.1,a1,()),())))) (
 bd (surveyorref21_Range.f lf r5.1 a0.2.2.1) fun r17 =>
 some ((r17.1,a1,()),()))) (
 bd (surveyorref21_Range.f lf r5.1 a0.2.2.1) fun r18 =>
 some ((r18.1,a1,()),())))) (
 br (!(a0.2.2.1.toList==(⟨#[]⟩:ByteArray).toList)) (
 bd (surveyorref22_Below.f lf a1 a0.2.2.1) fun r19 =>
 br (!(a0.2.1.toList==(⟨#[]⟩:ByteArray).toList)) (
 br (!(r19.1.toList==(⟨#[]⟩:ByteArray).toList)) (
 bd (surveyorref01_Less.f lf r19.1 a0.2.1) fun r20 =>
 br r20.1 (
 bd (surveyorref23_Empty.f lf) fun r21 =>
 some (r21.1,())) (
 br (a0.2.1.toList==r19.1.toList) (
 bd (surveyorref23_One.f lf a0.2.1) fun r22 =>
 some (r22.1,())) (
 bd (surveyorref21_Range.f lf a0.2.1 r19.1) fun r23 =>
 some ((r23.1,a1,()),())))) (
 bd (surveyorref21_Range.f lf a0.2.1 r19.1) fun r24 =>
 some ((r24.1,a1,()),()))) (
 bd (surveyorref21_Range.f lf a0.2.1 r19.1) fun r25 =>
 some ((r25.1,a1,()),()))) (
 br (!(a0.2.1.toList==(⟨#[]⟩:ByteArray).toList)) (
 br (!(a0.2.2.1.toList==(⟨#[]⟩:ByteArray).toList)) (
 bd (surveyorref01_Less.f lf a0.2.2.1 a0.2.1) fun r26 =>
 br r26.1 (
 bd (surveyorref23_Empty.f lf) fun r27 =>
 some (r27.1,())) (
 br (a0.2.1.toList==a0.2.2.1.toList) (
 bd (surveyorref23_One.f lf a0.2.1) fun r28 =>
 some (r28.1,())) (
 bd (surveyorref21_Range.f lf a0.2.1 a0.2.2.1) fun r29 =>
 some ((r29.1,a1,()),())))) (
 bd (surveyorref21_Range.f lf a0.2.1 a0.2.2.1) fun r30 =>
 some ((r30.1,a1,()),()))) (
 bd (surveyorref21_Range.f lf a0.2.1 a0.2.2.1) fun r31 =>
 some ((r31.1,a1,()),())))))))
def E(lf:Nat):Entry:=⟨[yI,yI],[yV],fun x=>f lf x.1 x.2.1⟩
theorem ok(lf:Nat):Ok 58 (E lf):=okT (an:=(annsL [])) (lf:=lf) (tC (surveyorref23_Empty.ok lf) (tC (surveyorref23_One.ok lf) (tC (surveyorref21_In.ok lf) (tC (surveyorref21_Range.ok lf) (tC (surveyorref22_Above.ok lf) (tC (surveyorref22_Below.ok lf) (tC (surveyorref01_Less.ok lf) tN))))))) aoN fun x=>by kernel_rfl
end surveyorref23_Reduced
namespace surveyorref23_Check
def f(lf:Nat)(a0:TV):Option (Int×Unit) :=
 bd (surveyorref21_Check.f lf a0.1) fun r1 =>
 br (r1.1 != 0) (
 some (r1.1,())) (
 bd (surveyorref22_Check.f lf a0.2.1) fun r2 =>
 br (r2.1 != 0) (
 some (r2.1,())) (
 bd (surveyorref23_Reduced.f lf a0.1 a0.2.1) fun r3 =>
 bd (some (!(((r3.1.1.1==a0.1.1)&&((r3.1.1.2.1==a0.1.2.1)&&((r3.1.1.2.2.1==a0.1.2.2.1)&&true)))&&(((r3.1.2.1.1==a0.2.1.1)&&((r3.1.2.1.2.1==a0.2.1.2.1)&&((r3.1.2.1.2.2.1==a0.2.1.2.2.1)&&true)))&&true)))) fun r4 =>
 br r4 (
 some (3,())) (
 some (0,()))))
def E(lf:Nat):Entry:=⟨[yV],[(.int .i64)],fun x=>f lf x.1⟩
theorem ok(lf:Nat):Ok 42 (E lf):=okT (an:=(annsL [])) (lf:=lf) (tC (surveyorref23_Reduced.ok lf) (tC (surveyorref21_Check.ok lf) (tC (surveyorref22_Check.ok lf) tN))) aoN fun x=>by kernel_rfl
end surveyorref23_Check
end
end Go.Q
namespace Go.Q
open Go.IntKind (i64)
open Go Go.RowKit
open Go.Rx (br bd sIdx sCat sCut iQuo iRem)
noncomputable section
namespace surveyorref33_Few
def anns:FuncId→FA:=annsL [(10,⟨annOf [(0,⟨kx 25 [0,3],[],[]⟩,⟨kx 25 [2],[],[]⟩)],none,[]⟩)]
def r0{ρ:Type}(lf:Nat)(v0:List (Int×(Int×(TV×Unit))))(v1:Int)(K:Int→Option ρ)(E0:Option ρ)(E1:Option ρ):Option ρ :=
 br (decide (v1 < ((v0.length:Nat):Int))) (
 bd (idxL v0 v1) fun y1 =>
 bd (idxL v0 v1) fun y2 =>
 bd (surveyorref23_Few.f lf y1.2.2.1 y2.2.2.1) fun r3 =>
 br (!r3.1) (
 E0) (
 K (i64.wrap (v1+1)))) (
 E1)
def l0(lf:Nat)(v0:List (Int×(Int×(TV×Unit)))):Nat→Int→Option (Bool×(Unit)×(Unit)×Unit)
 | 0,_=>none
 | n+1,v1=>r0 lf v0 v1 (l0 lf v0 n) (some (true,(()),((()),()))) (some (false,(()),((()),())))
def sh0:ShS:=⟨[.s (.sl (.pair (.int .i64) (.pair (.int .i64) (.pair yV .unit)))),.a 2,.s (.int .i64),.a 21],[]⟩
def S0(p:(List (Int×(Int×(TV×Unit))))×Int×Unit):St:=sh0.b p
def xh0:ShS:=⟨[.a 2,.s .bool,.a 22],[]⟩
def xh1:ShS:=⟨[.a 25],[]⟩
def o0(v0:List (Int×(Int×(TV×Unit))))(y:Bool×(Unit)×(Unit)×Unit):Alt:=.two y.1 (.one .ret (xh0.b (false,()))) (.one (.exit 0) (xh1.b (())))
def tb(lf:Nat):List (FuncId×Entry):=[(11,surveyorref23_Few.E lf)]
def s13_10(lf:Nat):List (Nat×(St→Option LTE)):=[(0,sumE sh0 fun(p:(List (Int×(Int×(TV×Unit))))×Int×Unit)=>⟨Bool×(Unit)×(Unit)×Unit,l0 lf p.1 (lf+40) p.2.1,o0 p.1⟩)]
def ls(lf:Nat):List (Nat×FuncId×Sums):=[(13,10,sumsL (s13_10 lf))]
def it0{ρ:Type}(lf n:Nat)(st:St)(k:KE ρ):Option ρ:=itG anns (ls lf) (tb lf) lf 13 10 0 0 (sumsL (s13_10 lf)) n st k
theorem t0{ρ:Type}(lf n:Nat)(v0:List (Int×(Int×(TV×Unit))))(v1:Int)(k:KE ρ):it0 lf (n+1) (S0 (v0,v1,())) k=r0 lf v0 v1 (fun x0=>it0 lf n (S0 (v0,x0,())) k) (k .ret (xh0.b (false,()))) (k (.exit 0) (xh1.b (()))):=by kernel_rfl
theorem u0{ρ:Type}(lf:Nat)(v0:List (Int×(Int×(TV×Unit))))(k:KE ρ):∀ (n:Nat) (v1:Int),it0 lf n (S0 (v0,v1,())) k=bd (l0 lf v0 n v1) fun y=>altK k (o0 v0 y)
 | 0,_=>by rw[l0,bd_none];rfl
 | n+1,v1=>by
  rw[t0];simp only[l0,r0,u0 lf v0 k n,bd_br,bd_bd,bd_some',bd_none,br_t,br_f,o0,altK]
theorem sl(lf:Nat):SL anns (ls lf) (tb lf) lf (ls lf):=slC (laC (fun _=>by kernel_rfl) (fun _ (x:(List (Int×(Int×(TV×Unit))))×Int×Unit) k=>leq_of (u0 lf x.1 k (lf+40) x.2.1)) laN) slN
def f(lf:Nat)(a0:List (Int×(Int×(TV×Unit)))):Option (Bool×Unit) :=
 br (decide (((a0.length:Nat):Int) > 40)) (
 some (false,())) (
 bd (l0 lf a0 (lf+40) 0) fun z4 =>
 br z4.1 (
 some (false,())) (
 some (true,())))
def E(lf:Nat):Entry:=⟨[(.sl (.pair (.int .i64) (.pair (.int .i64) (.pair yV .unit))))],[.bool],fun x=>f lf x.1⟩
theorem ok(lf:Nat):Ok 10 (E lf):=okL (tC (surveyorref23_Few.ok lf) tN) (aoC aoN) (sl lf) fun x=>by kernel_rfl
end surveyorref33_Few
namespace surveyorref33_Hollow
def f(lf:Nat)(a0:TV):Option (Bool×Unit) :=
 some (a0.1.1,())
def E(lf:Nat):Entry:=⟨[yV],[.bool],fun x=>f lf x.1⟩
theorem ok(lf:Nat):Ok 43 (E lf):=okT (an:=(annsL [])) (lf:=lf) tN aoN fun x=>by kernel_rfl
end surveyorref33_Hollow
namespace surveyorref33_one
def f(lf:Nat)(a0:Int×(Int×(TV×Unit)))(a1:Int)(a2:Int):Option (Int×Unit) :=
 br (a0.1 != a1) (
 some (20,())) (
 br (decide (a0.2.1≤a0.1)) (
 some (15,())) (
 br (decide (a0.2.1 > a2)) (
 some (15,())) (
 bd (surveyorref23_Check.f lf a0.2.2.1) fun r1 =>
 br (r1.1 != 0) (
 some (r1.1,())) (
 bd (surveyorref33_Hollow.f lf a0.2.2.1) fun r2 =>
 br r2.1 (
 some (16,())) (
 some (0,()))))))
def E(lf:Nat):Entry:=⟨[(.pair (.int .i64) (.pair (.int .i64) (.pair yV .unit))),(.int .i64),(.int .i64)],[(.int .i64)],fun x=>f lf x.1 x.2.1 x.2.2.1⟩
theorem ok(lf:Nat):Ok 79 (E lf):=okT (an:=(annsL [])) (lf:=lf) (tC (surveyorref23_Check.ok lf) (tC (surveyorref33_Hollow.ok lf) tN)) aoN fun x=>by kernel_rfl
end surveyorref33_one
namespace surveyorref33_Check
def anns:FuncId→FA:=annsL [(27,⟨annOf [(0,⟨kx 57 [0,1,5,6],[],[]⟩,⟨kx 57 [1,4,5],[],[]⟩)],none,[]⟩)]
def r0{ρ:Type}(lf:Nat)(v0:List (Int×(Int×(TV×Unit))))(v1:Int)(v2 v3:Int)(K:Int→Int→Option ρ)(E0:Int→Int→Option ρ)(E1:Int→Option ρ):Option ρ :=
 br (decide (v3 < ((v0.length:Nat):Int))) (
 bd (idxL v0 v3) fun y1 =>
 bd (surveyorref33_one.f lf y1 v2 v1) fun r2 =>
 br (r2.1 != 0) (
 E0 r2.1 v2) (
 br (decide (v3 > 0)) (
 bd (idxL v0 (i64.wrap (v3-1))) fun y3 =>
 bd (idxL v0 v3) fun y4 =>
 bd (some (((y3.2.2.1.1.1==y4.2.2.1.1.1)&&((y3.2.2.1.1.2.1==y4.2.2.1.1.2.1)&&((y3.2.2.1.1.2.2.1==y4.2.2.1.1.2.2.1)&&true)))&&(((y3.2.2.1.2.1.1==y4.2.2.1.2.1.1)&&((y3.2.2.1.2.1.2.1==y4.2.2.1.2.1.2.1)&&((y3.2.2.1.2.1.2.2.1==y4.2.2.1.2.1.2.2.1)&&true)))&&true))) fun r5 =>
 br r5 (
 E0 7 v2) (
 bd (idxL v0 v3) fun y6 =>
 K y6.2.1 (i64.wrap (v3+1)))) (
 bd (idxL v0 v3) fun y7 =>
 K y7.2.1 (i64.wrap (v3+1))))) (
 E1 v2)
def l0(lf:Nat)(v0:List (Int×(Int×(TV×Unit))))(v1:Int):Nat→Int→Int→Option (Bool×(Int×Int×Unit)×(Int×Unit)×Unit)
 | 0,_,_=>none
 | n+1,v2,v3=>r0 lf v0 v1 v2 v3 (l0 lf v0 v1 n) (fun w0 w1=>some (true,(w0,w1,()),((0,()),()))) (fun w0=>some (false,(0,0,()),((w0,()),())))
def sh0:ShS:=⟨[.s (.sl (.pair (.int .i64) (.pair (.int .i64) (.pair yV .unit)))),.s (.int .i64),.a 3,.s (.int .i64),.s (.int .i64),.a 50],[]⟩
def S0(p:(List (Int×(Int×(TV×Unit))))×Int×Int×Int×Unit):St:=sh0.b p
def xh0:ShS:=⟨[.a 1,.s (.int .i64),.a 2,.s (.int .i64),.s (.int .i64),.a 51],[]⟩
def xh1:ShS:=⟨[.a 1,.s (.int .i64),.a 3,.s (.int .i64),.a 51],[]⟩
def o0(v0:List (Int×(Int×(TV×Unit))))(v1:Int)(y:Bool×(Int×Int×Unit)×(Int×Unit)×Unit):Alt:=.two y.1 (.one .ret (xh0.b (v1,y.2.1.1,y.2.1.2.1,()))) (.one (.exit 0) (xh1.b (v1,y.2.2.1.1,())))
def tb(lf:Nat):List (FuncId×Entry):=[(79,surveyorref33_one.E lf)]
def s13_27(lf:Nat):List (Nat×(St→Option LTE)):=[(0,sumE sh0 fun(p:(List (Int×(Int×(TV×Unit))))×Int×Int×Int×Unit)=>⟨Bool×(Int×Int×Unit)×(Int×Unit)×Unit,l0 lf p.1 p.2.1 (lf+40) p.2.2.1 p.2.2.2.1,o0 p.1 p.2.1⟩)]
def ls(lf:Nat):List (Nat×FuncId×Sums):=[(13,27,sumsL (s13_27 lf))]
def it0{ρ:Type}(lf n:Nat)(st:St)(k:KE ρ):Option ρ:=itG anns (ls lf) (tb lf) lf 13 27 0 0 (sumsL (s13_27 lf)) n st k
theorem t0{ρ:Type}(lf n:Nat)(v0:List (Int×(Int×(TV×Unit))))(v1 v2 v3:Int)(k:KE ρ):it0 lf (n+1) (S0 (v0,v1,v2,v3,())) k=r0 lf v0 v1 v2 v3 (fun x0 x1=>it0 lf n (S0 (v0,v1,x0,x1,())) k) (fun w0 w1=>k .ret (xh0.b (v1,w0,w1,()))) (fun w0=>k (.exit 0) (xh1.b (v1,w0,()))):=by kernel_rfl
theorem u0{ρ:Type}(lf:Nat)(v0:List (Int×(Int×(TV×Unit))))(v1:Int)(k:KE ρ):∀ (n:Nat) (v2 v3:Int),it0 lf n (S0 (v0,v1,v2,v3,())) k=bd (l0 lf v0 v1 n v2 v3) fun y=>altK k (o0 v0 v1 y)
 | 0,_,_=>by rw[l0,bd_none];rfl
 | n+1,v2,v3=>by
  rw[t0];simp only[l0,r0,u0 lf v0 v1 k n,bd_br,bd_bd,bd_some',bd_none,br_t,br_f,o0,altK]
theorem sl(lf:Nat):SL anns (ls lf) (tb lf) lf (ls lf):=slC (laC (fun _=>by kernel_rfl) (fun _ (x:(List (Int×(Int×(TV×Unit))))×Int×Int×Int×Unit) k=>leq_of (u0 lf x.1 x.2.1 k (lf+40) x.2.2.1 x.2.2.2.1)) laN) slN
def f(lf:Nat)(a0:List (Int×(Int×(TV×Unit))))(a1:Int):Option (Int×Unit) :=
 br (decide (a1 < 1)) (
 some (2,())) (
 br (decide (a1 > 32)) (
 some (2,())) (
 br (((a0.length:Nat):Int)==0) (
 some (20,())) (
 bd (l0 lf a0 a1 (lf+40) 0 0) fun z8 =>
 br z8.1 (
 some (z8.2.1.1,())) (
 br (z8.2.2.1.1 != a1) (
 some (20,())) (
 some (0,()))))))
def E(lf:Nat):Entry:=⟨[(.sl (.pair (.int .i64) (.pair (.int .i64) (.pair yV .unit)))),(.int .i64)],[(.int .i64)],fun x=>f lf x.1 x.2.1⟩
theorem ok(lf:Nat):Ok 27 (E lf):=okL (tC (surveyorref33_one.ok lf) tN) (aoC aoN) (sl lf) fun x=>by kernel_rfl
end surveyorref33_Check
namespace surveyorref33_Of
def anns:FuncId→FA:=annsL [(77,⟨annOf [(0,⟨kx 48 [0,3,4],[⟨.tmp 3,(.pair (.int .i64) (.pair (.int .i64) (.pair yV .unit))),98⟩],[]⟩,⟨kx 48 [2,3],[⟨.tmp 3,(.pair (.int .i64) (.pair (.int .i64) (.pair yV .unit))),98⟩],[]⟩)],none,[]⟩)]
def r0{ρ:Type}(lf:Nat)(v0:List TV)(v1:Int)(v2:List (Int×(Int×(TV×Unit))))(K:Int→(List (Int×(Int×(TV×Unit))))→Option ρ)(E0:(List (Int×(Int×(TV×Unit))))→Option ρ):Option ρ :=
 br (decide (v1 < ((v0.length:Nat):Int))) (
 br (decide (((v2.length:Nat):Int) > 0)) (
 bd (idxB v2.length (i64.wrap (((v2.length:Nat):Int)-1))) fun j1 =>
 bd (v2[j1]?) fun y2 =>
 bd (idxL v0 v1) fun y3 =>
 bd (some (((y2.2.2.1.1.1==y3.1.1)&&((y2.2.2.1.1.2.1==y3.1.2.1)&&((y2.2.2.1.1.2.2.1==y3.1.2.2.1)&&true)))&&(((y2.2.2.1.2.1.1==y3.2.1.1)&&((y2.2.2.1.2.1.2.1==y3.2.1.2.1)&&((y2.2.2.1.2.1.2.2.1==y3.2.1.2.2.1)&&true)))&&true))) fun r4 =>
 br r4 (
 bd (idxB v2.length (i64.wrap (((v2.length:Nat):Int)-1))) fun j5 =>
 bd (upE v2 j5 fun y7=>some (y7.1,(i64.wrap (v1+1)),y7.2.2.1,())) fun q6 =>
 K (i64.wrap (v1+1)) q6) (
 bd (idxL v0 v1) fun y8 =>
 bd (apL true 96 v2 [(v1,(i64.wrap (v1+1)),y8,())]) fun q9 =>
 K (i64.wrap (v1+1)) q9)) (
 bd (idxL v0 v1) fun y10 =>
 bd (apL true 96 v2 [(v1,(i64.wrap (v1+1)),y10,())]) fun q11 =>
 K (i64.wrap (v1+1)) q11)) (
 E0 v2)
def l0(lf:Nat)(v0:List TV):Nat→Int→(List (Int×(Int×(TV×Unit))))→Option (((List (Int×(Int×(TV×Unit))))×Unit)×Unit)
 | 0,_,_=>none
 | n+1,v1,v2=>r0 lf v0 v1 v2 (l0 lf v0 n) (fun w0=>some ((w0,()),()))
def sh0:ShS:=⟨[.s (.sl yV),.a 2,.s (.row 0),.s (.int .i64),.a 43],[.row (.pair (.int .i64) (.pair (.int .i64) (.pair yV .unit))) 98 false]⟩
def S0(p:(List TV)×Int×(List (Int×(Int×(TV×Unit))))×Unit):St:=sh0.b p
def xh0:ShS:=⟨[.a 3,.s (.row 0),.a 44],[.row (.pair (.int .i64) (.pair (.int .i64) (.pair yV .unit))) 98 false]⟩
def o0(v0:List TV)(y:((List (Int×(Int×(TV×Unit))))×Unit)×Unit):Alt:=.one (.exit 0) (xh0.b (y.1.1,()))
def tb(lf:Nat):List (FuncId×Entry):=[]
def s13_77(lf:Nat):List (Nat×(St→Option LTE)):=[(0,sumE sh0 fun(p:(List TV)×Int×(List (Int×(Int×(TV×Unit))))×Unit)=>⟨((List (Int×(Int×(TV×Unit))))×Unit)×Unit,l0 lf p.1 (lf+40) p.2.1 p.2.2.1,o0 p.1⟩)]
def ls(lf:Nat):List (Nat×FuncId×Sums):=[(13,77,sumsL (s13_77 lf))]
def it0{ρ:Type}(lf n:Nat)(st:St)(k:KE ρ):Option ρ:=itG anns (ls lf) (tb lf) lf 13 77 0 0 (sumsL (s13_77 lf)) n st k
theorem t0{ρ:Type}(lf n:Nat)(v0:List TV)(v1:Int)(v2:List (Int×(Int×(TV×Unit))))(k:KE ρ):it0 lf (n+1) (S0 (v0,v1,v2,())) k=r0 lf v0 v1 v2 (fun x0 x1=>it0 lf n (S0 (v0,x0,x1,())) k) (fun w0=>k (.exit 0) (xh0.b (w0,()))):=by kernel_rfl
theorem u0{ρ:Type}(lf:Nat)(v0:List TV)(k:KE ρ):∀ (n:Nat) (v1:Int) (v2:List (Int×(Int×(TV×Unit)))),it0 lf n (S0 (v0,v1,v2,())) k=bd (l0 lf v0 n v1 v2) fun y=>altK k (o0 v0 y)
 | 0,_,_=>by rw[l0,bd_none];rfl
 | n+1,v1,v2=>by
  rw[t0];simp only[l0,r0,u0 lf v0 k n,bd_br,bd_bd,bd_some',bd_none,br_t,br_f,o0,altK]
theorem sl(lf:Nat):SL anns (ls lf) (tb lf) lf (ls lf):=slC (laC (fun _=>by kernel_rfl) (fun _ (x:(List TV)×Int×(List (Int×(Int×(TV×Unit))))×Unit) k=>leq_of (u0 lf x.1 k (lf+40) x.2.1 x.2.2.1)) laN) slN
def f(lf:Nat)(a0:List TV):Option ((List (Int×(Int×(TV×Unit))))×Unit) :=
 bd (l0 lf a0 (lf+40) 0 []) fun z12 =>
 some (z12.1.1,())
def E(lf:Nat):Entry:=⟨[(.sl yV)],[(.sl (.pair (.int .i64) (.pair (.int .i64) (.pair yV .unit))))],fun x=>f lf x.1⟩
theorem ok(lf:Nat):Ok 77 (E lf):=okL tN (aoC aoN) (sl lf) fun x=>by kernel_rfl
end surveyorref33_Of
end
end Go.Q
