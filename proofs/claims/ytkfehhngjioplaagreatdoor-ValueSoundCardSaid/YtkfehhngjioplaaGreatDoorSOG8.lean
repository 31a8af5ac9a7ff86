import Derived.Test.YtkfehhngjioplaaGreatDoorProg
import Derived.KernelRfl
import Derived.Test.YtkfehhngjioplaaGreatDoorSOE3
import Derived.Test.YtkfehhngjioplaaGreatDoorSOG1
import Derived.Test.YtkfehhngjioplaaGreatDoorSOG2
import Derived.Test.YtkfehhngjioplaaGreatDoorSOG3
import Derived.Test.YtkfehhngjioplaaGreatDoorSOG4
import Derived.Test.YtkfehhngjioplaaGreatDoorSOG5
import Derived.Test.YtkfehhngjioplaaGreatDoorSOG6
import Derived.Test.YtkfehhngjioplaaGreatDoorSOG7
set_option linter.unusedVariables false
set_option linter.unusedSimpArgs false
set_option linter.unusedSectionVars false
set_option maxRecDepth 100000
namespace Go.Q
open Go Go.RowKit
open Go.Rx (br bd sIdx sCat sCut iQuo iRem)
noncomputable section
namespace value_Refine
def l:List ((Int×TV×TV×Unit)×(TV×TV×Int×Unit)):=[((4,((false,(⟨#[52]⟩:ByteArray),(⟨#[56]⟩:ByteArray),()),(false,(⟨#[52]⟩:ByteArray),(⟨#[48]⟩:ByteArray),()),()),((false,(⟨#[56]⟩:ByteArray),(⟨#[56]⟩:ByteArray),()),(false,(⟨#[48]⟩:ByteArray),(⟨#[56]⟩:ByteArray),()),()),()),(((false,(⟨#[52]⟩:ByteArray),(⟨#[52]⟩:ByteArray),()),(false,(⟨#[48]⟩:ByteArray),(⟨#[52]⟩:ByteArray),()),()),((false,(⟨#[56]⟩:ByteArray),(⟨#[56]⟩:ByteArray),()),(false,(⟨#[48]⟩:ByteArray),(⟨#[56]⟩:ByteArray),()),()),0,())),((3,((false,(⟨#[52]⟩:ByteArray),(⟨#[56]⟩:ByteArray),()),(false,(⟨#[52]⟩:ByteArray),(⟨#[48]⟩:ByteArray),()),()),((false,(⟨#[52]⟩:ByteArray),(⟨#[52]⟩:ByteArray),()),(false,(⟨#[48]⟩:ByteArray),(⟨#[52]⟩:ByteArray),()),()),()),(((false,(⟨#[56]⟩:ByteArray),(⟨#[56]⟩:ByteArray),()),(false,(⟨#[48]⟩:ByteArray),(⟨#[56]⟩:ByteArray),()),()),((false,(⟨#[52]⟩:ByteArray),(⟨#[52]⟩:ByteArray),()),(false,(⟨#[48]⟩:ByteArray),(⟨#[52]⟩:ByteArray),()),()),0,()))]
def f(lf:Nat)(a0:Int)(a1:TV)(a2:TV):Option (TV×TV×Int×Unit):=pick [(.int .i64),yV,yV] l (a0,a1,a2,())
def E(lf:Nat):Entry:=⟨[(.int .i64),yV,yV],[yV,yV,(.int .i64)],fun x=>f lf x.1 x.2.1 x.2.2.1⟩
def tb(lf:Nat):List (FuncId×Entry):=[(65,value_reduced.E lf),(67,value_checks.E lf),(80,interval_Check.E lf),(81,interval_of.E lf),(82,interval_span_interval.E lf),(102,value_empty.E lf),(106,congruence_class.E lf),(107,congruence_gcd.E lf),(108,congruence_add.E lf),(111,congruence_sub.E lf),(113,congruence_mul.E lf),(120,api_Int.E lf),(126,congruence_both.E lf),(129,interval_span_empty.E lf),(132,interval_none.E lf),(141,bigint_Quo.E lf),(145,interval_least.E lf),(146,interval_most.E lf),(169,congruence_none.E lf),(171,congruence_divides.E lf),(172,interval_span_single.E lf),(174,interval_shifted.E lf),(181,interval_negated.E lf),(182,bigint_pair.E lf),(183,bigint_written.E lf),(184,bigint_product.E lf),(186,interval_span_common.E lf),(208,bigint_common.E lf),(209,bigint_number_text.E lf),(210,bigint_sum.E lf),(211,bigint_negated.E lf),(213,bigint_quotient.E lf),(220,bigint_sign.E lf),(224,bigint_times.E lf),(244,bigint_divide.E lf),(247,B.Itoa.E lf)]
abbrev an:FuncId→FA:=annsL []
theorem t0(lf:Nat):runQ Proofs.Tryz.prog an noLs (lookT (tb lf)) (lf+40) 14 6 38 [(.int .i64),yV,yV] [yV,yV,(.int .i64)] (4,((false,(⟨#[52]⟩:ByteArray),(⟨#[56]⟩:ByteArray),()),(false,(⟨#[52]⟩:ByteArray),(⟨#[48]⟩:ByteArray),()),()),((false,(⟨#[56]⟩:ByteArray),(⟨#[56]⟩:ByteArray),()),(false,(⟨#[48]⟩:ByteArray),(⟨#[56]⟩:ByteArray),()),()),())=some (((false,(⟨#[52]⟩:ByteArray),(⟨#[52]⟩:ByteArray),()),(false,(⟨#[48]⟩:ByteArray),(⟨#[52]⟩:ByteArray),()),()),((false,(⟨#[56]⟩:ByteArray),(⟨#[56]⟩:ByteArray),()),(false,(⟨#[48]⟩:ByteArray),(⟨#[56]⟩:ByteArray),()),()),0,()):=by kernel_rfl
theorem t1(lf:Nat):runQ Proofs.Tryz.prog an noLs (lookT (tb lf)) (lf+40) 14 6 38 [(.int .i64),yV,yV] [yV,yV,(.int .i64)] (3,((false,(⟨#[52]⟩:ByteArray),(⟨#[56]⟩:ByteArray),()),(false,(⟨#[52]⟩:ByteArray),(⟨#[48]⟩:ByteArray),()),()),((false,(⟨#[52]⟩:ByteArray),(⟨#[52]⟩:ByteArray),()),(false,(⟨#[48]⟩:ByteArray),(⟨#[52]⟩:ByteArray),()),()),())=some (((false,(⟨#[56]⟩:ByteArray),(⟨#[56]⟩:ByteArray),()),(false,(⟨#[48]⟩:ByteArray),(⟨#[56]⟩:ByteArray),()),()),((false,(⟨#[52]⟩:ByteArray),(⟨#[52]⟩:ByteArray),()),(false,(⟨#[48]⟩:ByteArray),(⟨#[52]⟩:ByteArray),()),()),0,()):=by kernel_rfl
theorem ok(lf:Nat):Ok 38 (E lf):=okP (an:=an) (tb:=tb lf) (lf:=lf) (tC (value_reduced.ok lf) (tC (value_checks.ok lf) (tC (interval_Check.ok lf) (tC (interval_of.ok lf) (tC (interval_span_interval.ok lf) (tC (value_empty.ok lf) (tC (congruence_class.ok lf) (tC (congruence_gcd.ok lf) (tC (congruence_add.ok lf) (tC (congruence_sub.ok lf) (tC (congruence_mul.ok lf) (tC (api_Int.ok lf) (tC (congruence_both.ok lf) (tC (interval_span_empty.ok lf) (tC (interval_none.ok lf) (tC (bigint_Quo.ok lf) (tC (interval_least.ok lf) (tC (interval_most.ok lf) (tC (congruence_none.ok lf) (tC (congruence_divides.ok lf) (tC (interval_span_single.ok lf) (tC (interval_shifted.ok lf) (tC (interval_negated.ok lf) (tC (bigint_pair.ok lf) (tC (bigint_written.ok lf) (tC (bigint_product.ok lf) (tC (interval_span_common.ok lf) (tC (bigint_common.ok lf) (tC (bigint_number_text.ok lf) (tC (bigint_sum.ok lf) (tC (bigint_negated.ok lf) (tC (bigint_quotient.ok lf) (tC (bigint_sign.ok lf) (tC (bigint_times.ok lf) (tC (bigint_divide.ok lf) (tC (B.Itoa.ok lf) tN)))))))))))))))))))))))))))))))))))) aoN (l:=l) (fun _=>rfl) (fun _=>rfl) ⟨t0 lf,t1 lf,trivial⟩
end value_Refine
namespace value_Format
def l:List ((TV×Unit)×(ByteArray×Int×Unit)):=[((((false,(⟨#[52]⟩:ByteArray),(⟨#[]⟩:ByteArray),()),(false,(⟨#[52]⟩:ByteArray),(⟨#[48]⟩:ByteArray),()),()),()),((⟨#[91,52,44,32,43,105,110,102,93,32,109,111,100,32,52,32,61,32,48]⟩:ByteArray),0,()))]
def f(lf:Nat)(a0:TV):Option (ByteArray×Int×Unit):=pick [yV] l (a0,())
def E(lf:Nat):Entry:=⟨[yV],[.str,(.int .i64)],fun x=>f lf x.1⟩
def tb(lf:Nat):List (FuncId×Entry):=[(61,value_Check.E lf),(80,interval_Check.E lf)]
abbrev an:FuncId→FA:=annsL []
theorem t0(lf:Nat):runQ Proofs.Tryz.prog an noLs (lookT (tb lf)) (lf+40) 14 6 39 [yV] [.str,(.int .i64)] (((false,(⟨#[52]⟩:ByteArray),(⟨#[]⟩:ByteArray),()),(false,(⟨#[52]⟩:ByteArray),(⟨#[48]⟩:ByteArray),()),()),())=some ((⟨#[91,52,44,32,43,105,110,102,93,32,109,111,100,32,52,32,61,32,48]⟩:ByteArray),0,()):=by kernel_rfl
theorem ok(lf:Nat):Ok 39 (E lf):=okP (an:=an) (tb:=tb lf) (lf:=lf) (tC (value_Check.ok lf) (tC (interval_Check.ok lf) tN)) aoN (l:=l) (fun _=>rfl) (fun _=>rfl) ⟨t0 lf,trivial⟩
end value_Format
namespace value_Holds
def f(lf:Nat)(a0:TV)(a1:ByteArray):Option (Bool×Int×Unit) :=
 bd (value_Check.f lf a0) fun r1 =>
 br (r1.1 != 0) (
 some (false,r1.1,())) (
 bd (interval_Holds.f lf a0.1 a1) fun r2 =>
 br (r2.2.1 != 0) (
 some (false,r2.2.1,())) (
 bd (congruence_Holds.f lf a0.2.1 a1) fun r3 =>
 br r2.1 (
 br r3.1 (
 some ((r3.2.1==0),r3.2.1,())) (
 some (false,r3.2.1,()))) (
 some (false,r3.2.1,()))))
def E(lf:Nat):Entry:=⟨[yV,.str],[.bool,(.int .i64)],fun x=>f lf x.1 x.2.1⟩
theorem ok(lf:Nat):Ok 13 (E lf):=okT (an:=(annsL [])) (lf:=lf) (tC (value_Check.ok lf) (tC (interval_Holds.ok lf) (tC (congruence_Holds.ok lf) tN))) aoN fun x=>by kernel_rfl
end value_Holds
namespace value_Neg
def f(lf:Nat)(a0:TV):Option (TV×Int×Unit) :=
 bd (value_Check.f lf a0) fun r1 =>
 br (r1.1 != 0) (
 some (((false,(⟨#[]⟩:ByteArray),(⟨#[]⟩:ByteArray),()),(false,(⟨#[]⟩:ByteArray),(⟨#[]⟩:ByteArray),()),()),r1.1,())) (
 bd (interval_Neg.f lf a0.1) fun r2 =>
 bd (congruence_Neg.f lf a0.2.1) fun r3 =>
 bd (value_reduced.f lf r2.1 r3.1) fun r4 =>
 some (r4.1,0,()))
def E(lf:Nat):Entry:=⟨[yV],[yV,(.int .i64)],fun x=>f lf x.1⟩
theorem ok(lf:Nat):Ok 15 (E lf):=okT (an:=(annsL [])) (lf:=lf) (tC (interval_Neg.ok lf) (tC (value_Check.ok lf) (tC (congruence_Neg.ok lf) (tC (value_reduced.ok lf) tN)))) aoN fun x=>by kernel_rfl
end value_Neg
namespace value_Join
def f(lf:Nat)(a0:TV)(a1:TV):Option (TV×Int×Unit) :=
 bd (value_checks.f lf a0 a1) fun r1 =>
 br (r1.1 != 0) (
 some (((false,(⟨#[]⟩:ByteArray),(⟨#[]⟩:ByteArray),()),(false,(⟨#[]⟩:ByteArray),(⟨#[]⟩:ByteArray),()),()),r1.1,())) (
 bd (interval_Join.f lf a0.1 a1.1) fun r2 =>
 br (r2.2.1 != 0) (
 some (((false,(⟨#[]⟩:ByteArray),(⟨#[]⟩:ByteArray),()),(false,(⟨#[]⟩:ByteArray),(⟨#[]⟩:ByteArray),()),()),r2.2.1,())) (
 bd (congruence_Join.f lf a0.2.1 a1.2.1) fun r3 =>
 br (r3.2.1 != 0) (
 some (((false,(⟨#[]⟩:ByteArray),(⟨#[]⟩:ByteArray),()),(false,(⟨#[]⟩:ByteArray),(⟨#[]⟩:ByteArray),()),()),r3.2.1,())) (
 bd (value_reduced.f lf r2.1 r3.1) fun r4 =>
 some (r4.1,0,()))))
def E(lf:Nat):Entry:=⟨[yV,yV],[yV,(.int .i64)],fun x=>f lf x.1 x.2.1⟩
theorem ok(lf:Nat):Ok 16 (E lf):=okT (an:=(annsL [])) (lf:=lf) (tC (interval_Join.ok lf) (tC (value_reduced.ok lf) (tC (congruence_Join.ok lf) (tC (value_checks.ok lf) tN)))) aoN fun x=>by kernel_rfl
end value_Join
end
end Go.Q
namespace Go.Q
open Go Go.RowKit
open Go.Rx (br bd sIdx sCat sCut iQuo iRem)
noncomputable section
namespace surveyorref23_Few
def f(lf:Nat)(a0:TV)(a1:TV):Option (Bool×Unit) :=
 bd (surveyorref21_Few.f lf a0.1 a1.1) fun r1 =>
 br r1.1 (
 bd (surveyorref22_Few.f lf a0.2.1) fun r2 =>
 br r2.1 (
 bd (surveyorref22_Few.f lf a1.2.1) fun r3 =>
 some (r3.1,())) (
 some (false,()))) (
 some (false,()))
def E(lf:Nat):Entry:=⟨[yV,yV],[.bool],fun x=>f lf x.1 x.2.1⟩
theorem ok(lf:Nat):Ok 29 (E lf):=okT (an:=(annsL [])) (lf:=lf) (tC (surveyorref21_Few.ok lf) (tC (surveyorref22_Few.ok lf) tN)) aoN fun x=>by kernel_rfl
end surveyorref23_Few
namespace surveyorref23_Empty
def f(lf:Nat)  : Option (TV×Unit) :=
 bd (surveyorref21_None.f lf) fun r1 =>
 bd (surveyorref22_Empty.f lf) fun r2 =>
 some ((r1.1,r2.1,()),())
def E(lf:Nat):Entry:=⟨[],[yV],fun x=>f lf⟩
theorem ok(lf:Nat):Ok 36 (E lf):=okT (an:=(annsL [])) (lf:=lf) (tC (surveyorref21_None.ok lf) (tC (surveyorref22_Empty.ok lf) tN)) aoN fun x=>by kernel_rfl
end surveyorref23_Empty
namespace surveyorref23_Top
def f(lf:Nat)  : Option (TV×Unit) :=
 bd (surveyorref22_Top.f lf) fun r1 =>
 some (((false,(⟨#[]⟩:ByteArray),(⟨#[]⟩:ByteArray),()),r1.1,()),())
def E(lf:Nat):Entry:=⟨[],[yV],fun x=>f lf⟩
theorem ok(lf:Nat):Ok 230 (E lf):=okT (an:=(annsL [])) (lf:=lf) (tC (surveyorref22_Top.ok lf) tN) aoN fun x=>by kernel_rfl
end surveyorref23_Top
namespace surveyorref23_One
def f(lf:Nat)(a0:ByteArray):Option (TV×Unit) :=
 bd (surveyorref22_Single.f lf a0) fun r1 =>
 br (!(r1.1.2.1.toList==(⟨#[48]⟩:ByteArray).toList)) (
 bd (surveyorref23_Top.f lf) fun r2 =>
 some (r2.1,())) (
 some (((false,a0,a0,()),r1.1,()),()))
def E(lf:Nat):Entry:=⟨[.str],[yV],fun x=>f lf x.1⟩
theorem ok(lf:Nat):Ok 196 (E lf):=okT (an:=(annsL [])) (lf:=lf) (tC (surveyorref22_Single.ok lf) (tC (surveyorref23_Top.ok lf) tN)) aoN fun x=>by kernel_rfl
end surveyorref23_One
namespace surveyorref23_Reduced
def f(lf:Nat)(a0:TI)(a1:TI):Option (TV×Unit) :=
 br a0.1 (
 bd (surveyorref23_Empty.f lf) fun r1 =>
 some (r1.1,())) (
 br a1.1 (
 bd (surveyorref23_Empty.f lf) fun r2 =>
 some (r2.1,())) (
 br (a1.2.1.toList==(⟨#[48]⟩:ByteArray).toList) (
 bd (surveyorref21_In.f lf a0 a1.2.2.1) fun r3 =>
 br (!r3.1) (
 bd (surveyorref23_Empty.f lf) fun r4 =>
 some (r4.1,())) (
 some (((false,a1.2.2.1,a1.2.2.1,()),a1,()),()))) (
 br (!(a0.2.1.toList==(⟨#[]⟩:ByteArray).toList)) (
 bd (surveyorref22_Above.f lf a1 a0.2.1) fun r5 =>
 br (!(a0.2.2.1.toList==(⟨#[]⟩:ByteArray).toList)) (
 bd (surveyorref22_Below.f lf a1 a0.2.2.1) fun r6 =>
 br (!(r5.1.toList==(⟨#[]⟩:ByteArray).toList)) (
 br (!(r6.1.toList==(⟨#[]⟩:ByteArray).toList)) (
 bd (surveyorref01_Less.f lf r6.1 r5.1) fun r7 =>
 br r7.1 (
 bd (surveyorref23_Empty.f lf) fun r8 =>
 some (r8.1,())) (
 br (r5.1.toList==r6.1.toList) (
 bd (surveyorref23_One.f lf r5.1) fun r9 =>
 some (r9.1,())) (
 bd (surveyorref21_Range.f lf r5.1 r6.1) fun r10 =>
 some ((r10.1,a1,()),())))) (
 bd (surveyorref21_Range.f lf r5.1 r6.1) fun r11 =>
 some ((r11.1,a1,()),()))) (
 bd (surveyorref21_Range.f lf r5.1 r6.1) fun r12 =>
 some ((r12.1,a1,()),()))) (
 br (!(r5.1.toList==(⟨#[]⟩:ByteArray).toList)) (
 br (!(a0.2.2.1.toList==(⟨#[]⟩:ByteArray).toList)) (
 bd (surveyorref01_Less.f lf a0.2.2.1 r5.1) fun r13 =>
 br r13.1 (
 bd (surveyorref23_Empty.f lf) fun r14 =>
 some (r14.1,())) (
 br (r5.1.toList==a0.2.2.1.toList) (
 bd (surveyorref23_One.f lf r5.1) fun r15 =>
 some (r15.1,())) (
 bd (surveyorref21_Range.f lf r5.1 a0.2.2.1) fun r16 =>
 some ((r16.1,a1,()),())))) (
 bd (surveyorref21_Range.f lf r5.1 a0.2.2.1) fun r17 =>
 some ((r17.1,a1,()),()))) (
 bd (surveyorref21_Range.f lf r5.1 a0.2.2.1) fun r18 =>
 some ((r18.1,a1,()),())))) (
 br (!(a0.2.2.1.toList==(⟨#[]⟩:ByteArray).toList)) (
 bd (surveyorref22_Below.f lf a1 a0.2.2.1) fun r19 =>
 br (!(a0.2.1.toList==(⟨#[]⟩:ByteArray).toList)) (
 br (!(r19.1.toList==(⟨#[]⟩:ByteArray).toList)) (
 bd (surveyorref01_Less.f lf r19.1 a0.2.1) fun r20 =>
 br r20.1 (
 bd (surveyorref23_Empty.f lf) fun r21 =>
 some (r21.1,())) (
 br (a0.2.1.toList==r19.1.toList) (
 bd (surveyorref23_One.f lf a0.2.1) fun r22 =>
 some (r22.1,())) (
 bd (surveyorref21_Range.f lf a0.2.1 r19.1) fun r23 =>
 some ((r23.1,a1,()),())))) (
 bd (surveyorref21_Range.f lf a0.2.1 r19.1) fun r24 =>
 some ((r24.1,a1,()),()))) (
 bd (surveyorref21_Range.f lf a0.2.1 r19.1) fun r25 =>
 some ((r25.1,a1,()),()))) (
 br (!(a0.2.1.toList==(⟨#[]⟩:ByteArray).toList)) (
 br (!(a0.2.2.1.toList==(⟨#[]⟩:ByteArray).toList)) (
 bd (surveyorref01_Less.f lf a0.2.2.1 a0.2.1) fun r26 =>
 br r26.1 (
 bd (surveyorref23_Empty.f lf) fun r27 =>
 some (r27.1,())) (
 br (a0.2.1.toList==a0.2.2.1.toList) (
 bd (surveyorref23_One.f lf a0.2.1) fun r28 =>
 some (r28.1,())) (
 bd (surveyorref21_Range.f lf a0.2.1 a0.2.2.1) fun r29 =>
 some ((r29.1,a1,()),())))) (
 bd (surveyorref21_Range.f lf a0.2.1 a0.2.2.1) fun r30 =>
 some ((r30.1,a1,()),()))) (
 bd (surveyorref21_Range.f lf a0.2.1 a0.2.2.1) fun r31 =>
 some ((r31.1,a1,()),())))))))
def E(lf:Nat):Entry:=⟨[yI,yI],[yV],fun x=>f lf x.1 x.2.1⟩
theorem ok(lf:Nat):Ok 155 (E lf):=okT (an:=(annsL [])) (lf:=lf) (tC (surveyorref23_Empty.ok lf) (tC (surveyorref21_In.ok lf) (tC (surveyorref01_Less.ok lf) (tC (surveyorref22_Above.ok lf) (tC (surveyorref22_Below.ok lf) (tC (surveyorref23_One.ok lf) (tC (surveyorref21_Range.ok lf) tN))))))) aoN fun x=>by kernel_rfl
end surveyorref23_Reduced
namespace surveyorref23_Check
def f(lf:Nat)(a0:TV):Option (Int×Unit) :=
 bd (surveyorref21_Check.f lf a0.1) fun r1 =>
 br (r1.1 != 0) (
 some (r1.1,())) (
 bd (surveyorref22_Check.f lf a0.2.1) fun r2 =>
 br (r2.1 != 0) (
 some (r2.1,())) (
 bd (surveyorref23_Reduced.f lf a0.1 a0.2.1) fun r3 =>
 bd (some (!(((r3.1.1.1==a0.1.1)&&((r3.1.1.2.1==a0.1.2.1)&&((r3.1.1.2.2.1==a0.1.2.2.1)&&true)))&&(((r3.1.2.1.1==a0.2.1.1)&&((r3.1.2.1.2.1==a0.2.1.2.1)&&((r3.1.2.1.2.2.1==a0.2.1.2.2.1)&&true)))&&true)))) fun r4 =>
 br r4 (
 some (3,())) (
 some (0,()))))
def E(lf:Nat):Entry:=⟨[yV],[(.int .i64)],fun x=>f lf x.1⟩
theorem ok(lf:Nat):Ok 89 (E lf):=okT (an:=(annsL [])) (lf:=lf) (tC (surveyorref21_Check.ok lf) (tC (surveyorref22_Check.ok lf) (tC (surveyorref23_Reduced.ok lf) tN))) aoN fun x=>by kernel_rfl
end surveyorref23_Check
namespace surveyorref23_Checks
def f(lf:Nat)(a0:TV)(a1:TV):Option (Int×Unit) :=
 bd (surveyorref23_Check.f lf a0) fun r1 =>
 br (r1.1 != 0) (
 some (r1.1,())) (
 bd (surveyorref23_Check.f lf a1) fun r2 =>
 some (r2.1,()))
def E(lf:Nat):Entry:=⟨[yV,yV],[(.int .i64)],fun x=>f lf x.1 x.2.1⟩
theorem ok(lf:Nat):Ok 30 (E lf):=okT (an:=(annsL [])) (lf:=lf) (tC (surveyorref23_Check.ok lf) tN) aoN fun x=>by kernel_rfl
end surveyorref23_Checks
namespace surveyorref23_In
def f(lf:Nat)(a0:TV)(a1:ByteArray):Option (Bool×Unit) :=
 bd (surveyorref21_In.f lf a0.1 a1) fun r1 =>
 br r1.1 (
 bd (surveyorref22_In.f lf a0.2.1 a1) fun r2 =>
 some (r2.1,())) (
 some (false,()))
def E(lf:Nat):Entry:=⟨[yV,.str],[.bool],fun x=>f lf x.1 x.2.1⟩
theorem ok(lf:Nat):Ok 33 (E lf):=okT (an:=(annsL [])) (lf:=lf) (tC (surveyorref21_In.ok lf) (tC (surveyorref22_In.ok lf) tN)) aoN fun x=>by kernel_rfl
end surveyorref23_In
end
end Go.Q
