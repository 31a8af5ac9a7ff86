import Derived.Test.YtkfehhngjioplaaGreatDoorProg
import Derived.KernelRfl
import Derived.Test.YtkfehhngjioplaaGreatDoorTIE3
import Derived.Test.YtkfehhngjioplaaGreatDoorTIG1
import Derived.Test.YtkfehhngjioplaaGreatDoorTIG2
set_option linter.unusedVariables false
set_option linter.unusedSimpArgs false
set_option linter.unusedSectionVars false
set_option maxRecDepth 100000
namespace Go.Q
open Go Go.RowKit
open Go.Rx (br bd sIdx sCat sCut iQuo iRem)
noncomputable section
namespace bigint_quotient
def f(lf:Nat)(a0:TB)(a1:TB):Option (TB×TB×Unit) :=
 bd (bigint_divide.f lf a0.2.1 a1.2.1) fun r1 =>
 br (a0.1==a1.1) (
 some ((false,r1.1,()),(a1.1,r1.2.1,()),())) (
 br (decide (((r1.2.1.length:Nat):Int) > 0)) (
 bd (bigint_plus.f lf r1.1 [1]) fun r2 =>
 bd (bigint_minus.f lf a1.2.1 r1.2.1) fun r3 =>
 some ((true,r2.1,()),(a1.1,r3.1,()),())) (
 some ((true,r1.1,()),(a1.1,r1.2.1,()),())))
def E(lf:Nat):Entry:=⟨[yB,yB],[yB,yB],fun x=>f lf x.1 x.2.1⟩
theorem ok(lf:Nat):Ok 213 (E lf):=okT (an:=(annsL [])) (lf:=lf) (tC (bigint_divide.ok lf) (tC (bigint_plus.ok lf) (tC (bigint_minus.ok lf) tN))) aoN fun x=>by kernel_rfl
end bigint_quotient
namespace bigint_divided
def f(lf:Nat)(a0:ByteArray)(a1:ByteArray):Option (ByteArray×ByteArray×Int×Unit) :=
 bd (bigint_pair.f lf a0 a1) fun r1 =>
 br (r1.2.2.1 != 0) (
 some ((⟨#[]⟩:ByteArray),(⟨#[]⟩:ByteArray),r1.2.2.1,())) (
 br (((r1.2.1.2.1.length:Nat):Int)==0) (
 some ((⟨#[]⟩:ByteArray),(⟨#[]⟩:ByteArray),19,())) (
 bd (bigint_quotient.f lf r1.1 r1.2.1) fun r2 =>
 bd (bigint_number_text.f lf r2.1) fun r3 =>
 bd (bigint_number_text.f lf r2.2.1) fun r4 =>
 some (r3.1,r4.1,0,())))
def E(lf:Nat):Entry:=⟨[.str,.str],[.str,.str,(.int .i64)],fun x=>f lf x.1 x.2.1⟩
theorem ok(lf:Nat):Ok 177 (E lf):=okT (an:=(annsL [])) (lf:=lf) (tC (bigint_pair.ok lf) (tC (bigint_number_text.ok lf) (tC (bigint_quotient.ok lf) tN))) aoN fun x=>by kernel_rfl
end bigint_divided
namespace bigint_Quo
def f(lf:Nat)(a0:ByteArray)(a1:ByteArray):Option (ByteArray×Int×Unit) :=
 bd (bigint_divided.f lf a0 a1) fun r1 =>
 some (r1.1,r1.2.2.1,())
def E(lf:Nat):Entry:=⟨[.str,.str],[.str,(.int .i64)],fun x=>f lf x.1 x.2.1⟩
theorem ok(lf:Nat):Ok 141 (E lf):=okT (an:=(annsL [])) (lf:=lf) (tC (bigint_divided.ok lf) tN) aoN fun x=>by kernel_rfl
end bigint_Quo
end
end Go.Q
namespace Go.Q
open Go.IntKind (i64)
open Go Go.RowKit
open Go.Rx (br bd sIdx sCat sCut iQuo iRem)
noncomputable section
namespace interval_finite
def f(lf:Nat)(a0:ByteArray):Option (TX×Unit) :=
 some ((0,a0,()),())
def E(lf:Nat):Entry:=⟨[.str],[yX],fun x=>f lf x.1⟩
theorem ok(lf:Nat):Ok 117 (E lf):=okT (an:=(annsL [])) (lf:=lf) tN aoN fun x=>by kernel_rfl
end interval_finite
namespace interval_infinite
def f(lf:Nat)(a0:Int):Option (TX×Unit) :=
 some ((a0,(⟨#[]⟩:ByteArray),()),())
def E(lf:Nat):Entry:=⟨[(.int .i64)],[yX],fun x=>f lf x.1⟩
theorem ok(lf:Nat):Ok 130 (E lf):=okT (an:=(annsL [])) (lf:=lf) tN aoN fun x=>by kernel_rfl
end interval_infinite
namespace interval_none
def f(lf:Nat)  : Option (TS×Unit) :=
 bd (interval_infinite.f lf 1) fun r1 =>
 bd (interval_infinite.f lf (-1)) fun r2 =>
 some ((r1.1,r2.1,()),())
def E(lf:Nat):Entry:=⟨[],[yS],fun x=>f lf⟩
theorem ok(lf:Nat):Ok 132 (E lf):=okT (an:=(annsL [])) (lf:=lf) (tC (interval_infinite.ok lf) tN) aoN fun x=>by kernel_rfl
end interval_none
namespace interval_of
def f(lf:Nat)(a0:TI):Option (TS×Unit) :=
 br a0.1 (
 bd (interval_none.f lf) fun r1 =>
 some (r1.1,())) (
 bd (interval_infinite.f lf (-1)) fun r2 =>
 bd (interval_infinite.f lf 1) fun r3 =>
 br (!(a0.2.1.toList==(⟨#[]⟩:ByteArray).toList)) (
 bd (interval_finite.f lf a0.2.1) fun r4 =>
 br (!(a0.2.2.1.toList==(⟨#[]⟩:ByteArray).toList)) (
 bd (interval_finite.f lf a0.2.2.1) fun r5 =>
 some ((r4.1,r5.1,()),())) (
 some ((r4.1,r3.1,()),()))) (
 br (!(a0.2.2.1.toList==(⟨#[]⟩:ByteArray).toList)) (
 bd (interval_finite.f lf a0.2.2.1) fun r6 =>
 some ((r2.1,r6.1,()),())) (
 some ((r2.1,r3.1,()),()))))
def E(lf:Nat):Entry:=⟨[yI],[yS],fun x=>f lf x.1⟩
theorem ok(lf:Nat):Ok 81 (E lf):=okT (an:=(annsL [])) (lf:=lf) (tC (interval_finite.ok lf) (tC (interval_infinite.ok lf) (tC (interval_none.ok lf) tN))) aoN fun x=>by kernel_rfl
end interval_of
namespace interval_order
def f(lf:Nat)(a0:ByteArray)(a1:ByteArray):Option (Int×Unit) :=
 bd (bigint_Compare.f lf a0 a1) fun r1 =>
 some (r1.1,())
def E(lf:Nat):Entry:=⟨[.str,.str],[(.int .i64)],fun x=>f lf x.1 x.2.1⟩
theorem ok(lf:Nat):Ok 143 (E lf):=okT (an:=(annsL [])) (lf:=lf) (tC (bigint_Compare.ok lf) tN) aoN fun x=>by kernel_rfl
end interval_order
namespace interval_compare
def f(lf:Nat)(a0:TX)(a1:TX):Option (Int×Unit) :=
 br (a0.1 != 0) (
 some ((i64.wrap (a0.1-a1.1)),())) (
 br (a1.1 != 0) (
 some ((i64.wrap (a0.1-a1.1)),())) (
 bd (interval_order.f lf a0.2.1 a1.2.1) fun r1 =>
 some (r1.1,())))
def E(lf:Nat):Entry:=⟨[yX,yX],[(.int .i64)],fun x=>f lf x.1 x.2.1⟩
theorem ok(lf:Nat):Ok 118 (E lf):=okT (an:=(annsL [])) (lf:=lf) (tC (interval_order.ok lf) tN) aoN fun x=>by kernel_rfl
end interval_compare
namespace interval_span_empty
def f(lf:Nat)(a0:TS):Option (Bool×Unit) :=
 bd (interval_compare.f lf a0.1 a0.2.1) fun r1 =>
 some ((decide (r1.1 > 0)),())
def E(lf:Nat):Entry:=⟨[yS],[.bool],fun x=>f lf x.1⟩
theorem ok(lf:Nat):Ok 129 (E lf):=okT (an:=(annsL [])) (lf:=lf) (tC (interval_compare.ok lf) tN) aoN fun x=>by kernel_rfl
end interval_span_empty
namespace interval_digits
def f(lf:Nat)(a0:ByteArray):Option (Int×Unit) :=
 br (decide (((a0.size:Nat):Int) > 0)) (
 bd (sIdx a0 0) fun r1 =>
 br (((r1.toNat:Nat):Int)==45) (
 some ((i64.wrap (((a0.size:Nat):Int)-1)),())) (
 some (((a0.size:Nat):Int),()))) (
 some (((a0.size:Nat):Int),()))
def E(lf:Nat):Entry:=⟨[.str],[(.int .i64)],fun x=>f lf x.1⟩
theorem ok(lf:Nat):Ok 187 (E lf):=okT (an:=(annsL [])) (lf:=lf) tN aoN fun x=>by kernel_rfl
end interval_digits
namespace interval_text
def f(lf:Nat)(a0:TX):Option (ByteArray×Unit) :=
 br (a0.1 != 0) (
 some ((⟨#[]⟩:ByteArray),())) (
 bd (interval_digits.f lf a0.2.1) fun r1 =>
 br (decide (r1.1 > 100)) (
 some ((⟨#[]⟩:ByteArray),())) (
 some (a0.2.1,())))
def E(lf:Nat):Entry:=⟨[yX],[.str],fun x=>f lf x.1⟩
theorem ok(lf:Nat):Ok 144 (E lf):=okT (an:=(annsL [])) (lf:=lf) (tC (interval_digits.ok lf) tN) aoN fun x=>by kernel_rfl
end interval_text
namespace interval_span_interval
def f(lf:Nat)(a0:TS):Option (TI×Unit) :=
 bd (interval_span_empty.f lf a0) fun r1 =>
 br r1.1 (
 some ((true,(⟨#[]⟩:ByteArray),(⟨#[]⟩:ByteArray),()),())) (
 bd (interval_text.f lf a0.1) fun r2 =>
 bd (interval_text.f lf a0.2.1) fun r3 =>
 some ((false,r2.1,r3.1,()),()))
def E(lf:Nat):Entry:=⟨[yS],[yI],fun x=>f lf x.1⟩
theorem ok(lf:Nat):Ok 82 (E lf):=okT (an:=(annsL [])) (lf:=lf) (tC (interval_span_empty.ok lf) (tC (interval_text.ok lf) tN)) aoN fun x=>by kernel_rfl
end interval_span_interval
namespace interval_number
def f(lf:Nat)(a0:ByteArray):Option (Int×Unit) :=
 bd (bigint_Check.f lf a0) fun r1 =>
 br (r1.1 != 0) (
 some (r1.1,())) (
 bd (interval_digits.f lf a0) fun r2 =>
 br (decide (r2.1 > 100)) (
 some (10,())) (
 some (0,())))
def E(lf:Nat):Entry:=⟨[.str],[(.int .i64)],fun x=>f lf x.1⟩
theorem ok(lf:Nat):Ok 142 (E lf):=okT (an:=(annsL [])) (lf:=lf) (tC (bigint_Check.ok lf) (tC (interval_digits.ok lf) tN)) aoN fun x=>by kernel_rfl
end interval_number
namespace interval_Check
def f(lf:Nat)(a0:TI):Option (Int×Unit) :=
 br a0.1 (
 br (!(a0.2.1.toList==(⟨#[]⟩:ByteArray).toList)) (
 some (3,())) (
 br (!(a0.2.2.1.toList==(⟨#[]⟩:ByteArray).toList)) (
 some (3,())) (
 br (a0.2.1.toList==(⟨#[]⟩:ByteArray).toList) (
 br (a0.2.2.1.toList==(⟨#[]⟩:ByteArray).toList) (
 br (!(a0.2.1.toList==(⟨#[]⟩:ByteArray).toList)) (
 br (!(a0.2.2.1.toList==(⟨#[]⟩:ByteArray).toList)) (
 bd (interval_order.f lf a0.2.1 a0.2.2.1) fun r1 =>
 br (decide (r1.1 > 0)) (
 some (14,())) (
 some (0,()))) (
 some (0,()))) (
 some (0,()))) (
 bd (interval_number.f lf a0.2.2.1) fun r2 =>
 br (r2.1 != 0) (
 some (r2.1,())) (
 br (!(a0.2.1.toList==(⟨#[]⟩:ByteArray).toList)) (
 br (!(a0.2.2.1.toList==(⟨#[]⟩:ByteArray).toList)) (
 bd (interval_order.f lf a0.2.1 a0.2.2.1) fun r3 =>
 br (decide (r3.1 > 0)) (
 some (14,())) (
 some (0,()))) (
 some (0,()))) (
 some (0,()))))) (
 bd (interval_number.f lf a0.2.1) fun r4 =>
 br (r4.1 != 0) (
 some (r4.1,())) (
 br (a0.2.2.1.toList==(⟨#[]⟩:ByteArray).toList) (
 br (!(a0.2.1.toList==(⟨#[]⟩:ByteArray).toList)) (
 br (!(a0.2.2.1.toList==(⟨#[]⟩:ByteArray).toList)) (
 bd (interval_order.f lf a0.2.1 a0.2.2.1) fun r5 =>
 br (decide (r5.1 > 0)) (
 some (14,())) (
 some (0,()))) (
 some (0,()))) (
 some (0,()))) (
 bd (interval_number.f lf a0.2.2.1) fun r6 =>
 br (r6.1 != 0) (
 some (r6.1,())) (
 br (!(a0.2.1.toList==(⟨#[]⟩:ByteArray).toList)) (
 br (!(a0.2.2.1.toList==(⟨#[]⟩:ByteArray).toList)) (
 bd (interval_order.f lf a0.2.1 a0.2.2.1) fun r7 =>
 br (decide (r7.1 > 0)) (
 some (14,())) (
 some (0,()))) (
 some (0,()))) (
 some (0,()))))))))) (
 br (a0.2.1.toList==(⟨#[]⟩:ByteArray).toList) (
 br (a0.2.2.1.toList==(⟨#[]⟩:ByteArray).toList) (
 br (!(a0.2.1.toList==(⟨#[]⟩:ByteArray).toList)) (
 br (!(a0.2.2.1.toList==(⟨#[]⟩:ByteArray).toList)) (
 bd (interval_order.f lf a0.2.1 a0.2.2.1) fun r8 =>
 br (decide (r8.1 > 0)) (
 some (14,())) (
 some (0,()))) (
 some (0,()))) (
 some (0,()))) (
 bd (interval_number.f lf a0.2.2.1) fun r9 =>
 br (r9.1 != 0) (
 some (r9.1,())) (
 br (!(a0.2.1.toList==(⟨#[]⟩:ByteArray).toList)) (
 br (!(a0.2.2.1.toList==(⟨#[]⟩:ByteArray).toList)) (
 bd (interval_order.f lf a0.2.1 a0.2.2.1) fun r10 =>
 br (decide (r10.1 > 0)) (
 some (14,())) (
 some (0,()))) (
 some (0,()))) (
 some (0,()))))) (
 bd (interval_number.f lf a0.2.1) fun r11 =>
 br (r11.1 != 0) (
 some (r11.1,())) (
 br (a0.2.2.1.toList==(⟨#[]⟩:ByteArray).toList) (
 br (!(a0.2.1.toList==(⟨#[]⟩:ByteArray).toList)) (
 br (!(a0.2.2.1.toList==(⟨#[]⟩:ByteArray).toList)) (
 bd (interval_order.f lf a0.2.1 a0.2.2.1) fun r12 =>
 br (decide (r12.1 > 0)) (
 some (14,())) (
 some (0,()))) (
 some (0,()))) (
 some (0,()))) (
 bd (interval_number.f lf a0.2.2.1) fun r13 =>
 br (r13.1 != 0) (
 some (r13.1,())) (
 br (!(a0.2.1.toList==(⟨#[]⟩:ByteArray).toList)) (
 br (!(a0.2.2.1.toList==(⟨#[]⟩:ByteArray).toList)) (
 bd (interval_order.f lf a0.2.1 a0.2.2.1) fun r14 =>
 br (decide (r14.1 > 0)) (
 some (14,())) (
 some (0,()))) (
 some (0,()))) (
 some (0,())))))))
def E(lf:Nat):Entry:=⟨[yI],[(.int .i64)],fun x=>f lf x.1⟩
theorem ok(lf:Nat):Ok 80 (E lf):=okT (an:=(annsL [])) (lf:=lf) (tC (interval_number.ok lf) (tC (interval_order.ok lf) tN)) aoN fun x=>by kernel_rfl
end interval_Check
namespace interval_sum
def f(lf:Nat)(a0:ByteArray)(a1:ByteArray):Option (ByteArray×Unit) :=
 bd (bigint_Add.f lf a0 a1) fun r1 =>
 some (r1.1,())
def E(lf:Nat):Entry:=⟨[.str,.str],[.str],fun x=>f lf x.1 x.2.1⟩
theorem ok(lf:Nat):Ok 134 (E lf):=okT (an:=(annsL [])) (lf:=lf) (tC (bigint_Add.ok lf) tN) aoN fun x=>by kernel_rfl
end interval_sum
namespace interval_added_1
def f(lf:Nat)(a0:TX)(a1:TX):Option (TX×Unit) :=
 br (a0.1 != 0) (
 bd (interval_infinite.f lf (if(if(i64.wrap (a0.1+a1.1)) < 1 then(i64.wrap (a0.1+a1.1))else 1) >(-1)then(if(i64.wrap (a0.1+a1.1)) < 1 then(i64.wrap (a0.1+a1.1))else 1)else(-1))) fun r1 =>
 some (r1.1,())) (
 br (a1.1 != 0) (
 bd (interval_infinite.f lf (if(if(i64.wrap (a0.1+a1.1)) < 1 then(i64.wrap (a0.1+a1.1))else 1) >(-1)then(if(i64.wrap (a0.1+a1.1)) < 1 then(i64.wrap (a0.1+a1.1))else 1)else(-1))) fun r2 =>
 some (r2.1,())) (
 bd (interval_sum.f lf a0.2.1 a1.2.1) fun r3 =>
 bd (interval_finite.f lf r3.1) fun r4 =>
 some (r4.1,())))
def E(lf:Nat):Entry:=⟨[yX,yX],[yX],fun x=>f lf x.1 x.2.1⟩
theorem ok(lf:Nat):Ok 133 (E lf):=okT (an:=(annsL [])) (lf:=lf) (tC (interval_finite.ok lf) (tC (interval_infinite.ok lf) (tC (interval_sum.ok lf) tN))) aoN fun x=>by kernel_rfl
end interval_added_1
namespace interval_added
def f(lf:Nat)(a0:TS)(a1:TS):Option (TS×Unit) :=
 bd (interval_span_empty.f lf a0) fun r1 =>
 br r1.1 (
 bd (interval_none.f lf) fun r2 =>
 some (r2.1,())) (
 bd (interval_span_empty.f lf a1) fun r3 =>
 br r3.1 (
 bd (interval_none.f lf) fun r4 =>
 some (r4.1,())) (
 bd (interval_added_1.f lf a0.1 a1.1) fun r5 =>
 bd (interval_added_1.f lf a0.2.1 a1.2.1) fun r6 =>
 some ((r5.1,r6.1,()),())))
def E(lf:Nat):Entry:=⟨[yS,yS],[yS],fun x=>f lf x.1 x.2.1⟩
theorem ok(lf:Nat):Ok 70 (E lf):=okT (an:=(annsL [])) (lf:=lf) (tC (interval_span_empty.ok lf) (tC (interval_none.ok lf) (tC (interval_added_1.ok lf) tN))) aoN fun x=>by kernel_rfl
end interval_added
namespace interval_Add
def f(lf:Nat)(a0:TI)(a1:TI):Option (TI×Int×Unit) :=
 bd (interval_Check.f lf a0) fun r1 =>
 br (r1.1 != 0) (
 br (r1.1 != 0) (
 some ((false,(⟨#[]⟩:ByteArray),(⟨#[]⟩:ByteArray),()),r1.1,())) (
 bd (interval_of.f lf a0) fun r2 =>
 bd (interval_of.f lf a1) fun r3 =>
 bd (interval_added.f lf r2.1 r3.1) fun r4 =>
 bd (interval_span_interval.f lf r4.1) fun r5 =>
 some (r5.1,0,()))) (
 bd (interval_Check.f lf a1) fun r6 =>
 br (r6.1 != 0) (
 br (r6.1 != 0) (
 some ((false,(⟨#[]⟩:ByteArray),(⟨#[]⟩:ByteArray),()),r6.1,())) (
 bd (interval_of.f lf a0) fun r7 =>
 bd (interval_of.f lf a1) fun r8 =>
 bd (interval_added.f lf r7.1 r8.1) fun r9 =>
 bd (interval_span_interval.f lf r9.1) fun r10 =>
 some (r10.1,0,()))) (
 bd (interval_of.f lf a0) fun r11 =>
 bd (interval_of.f lf a1) fun r12 =>
 bd (interval_added.f lf r11.1 r12.1) fun r13 =>
 bd (interval_span_interval.f lf r13.1) fun r14 =>
 some (r14.1,0,())))
def E(lf:Nat):Entry:=⟨[yI,yI],[yI,(.int .i64)],fun x=>f lf x.1 x.2.1⟩
theorem ok(lf:Nat):Ok 21 (E lf):=okT (an:=(annsL [])) (lf:=lf) (tC (interval_added.ok lf) (tC (interval_Check.ok lf) (tC (interval_of.ok lf) (tC (interval_span_interval.ok lf) tN)))) aoN fun x=>by kernel_rfl
end interval_Add
namespace interval_negated
def f(lf:Nat)(a0:ByteArray):Option (ByteArray×Unit) :=
 bd (bigint_Neg.f lf a0) fun r1 =>
 some (r1.1,())
def E(lf:Nat):Entry:=⟨[.str],[.str],fun x=>f lf x.1⟩
theorem ok(lf:Nat):Ok 181 (E lf):=okT (an:=(annsL [])) (lf:=lf) (tC (bigint_Neg.ok lf) tN) aoN fun x=>by kernel_rfl
end interval_negated
namespace interval_opposite
def f(lf:Nat)(a0:TX):Option (TX×Unit) :=
 br (a0.1 != 0) (
 bd (interval_infinite.f lf (i64.wrap (0-a0.1))) fun r1 =>
 some (r1.1,())) (
 bd (interval_negated.f lf a0.2.1) fun r2 =>
 bd (interval_finite.f lf r2.1) fun r3 =>
 some (r3.1,()))
def E(lf:Nat):Entry:=⟨[yX],[yX],fun x=>f lf x.1⟩
theorem ok(lf:Nat):Ok 135 (E lf):=okT (an:=(annsL [])) (lf:=lf) (tC (interval_finite.ok lf) (tC (interval_infinite.ok lf) (tC (interval_negated.ok lf) tN))) aoN fun x=>by kernel_rfl
end interval_opposite
namespace interval_span_turned
def f(lf:Nat)(a0:TS):Option (TS×Unit) :=
 bd (interval_span_empty.f lf a0) fun r1 =>
 br r1.1 (
 bd (interval_none.f lf) fun r2 =>
 some (r2.1,())) (
 bd (interval_opposite.f lf a0.2.1) fun r3 =>
 bd (interval_opposite.f lf a0.1) fun r4 =>
 some ((r3.1,r4.1,()),()))
def E(lf:Nat):Entry:=⟨[yS],[yS],fun x=>f lf x.1⟩
theorem ok(lf:Nat):Ok 74 (E lf):=okT (an:=(annsL [])) (lf:=lf) (tC (interval_span_empty.ok lf) (tC (interval_none.ok lf) (tC (interval_opposite.ok lf) tN))) aoN fun x=>by kernel_rfl
end interval_span_turned
namespace interval_Sub_1
def f(lf:Nat)(a0:TS)(a1:TS):Option (TS×Unit) :=
 bd (interval_span_turned.f lf a1) fun r1 =>
 bd (interval_added.f lf a0 r1.1) fun r2 =>
 some (r2.1,())
def E(lf:Nat):Entry:=⟨[yS,yS],[yS],fun x=>f lf x.1 x.2.1⟩
theorem ok(lf:Nat):Ok 73 (E lf):=okT (an:=(annsL [])) (lf:=lf) (tC (interval_added.ok lf) (tC (interval_span_turned.ok lf) tN)) aoN fun x=>by kernel_rfl
end interval_Sub_1
namespace interval_Sub
def f(lf:Nat)(a0:TI)(a1:TI):Option (TI×Int×Unit) :=
 bd (interval_Check.f lf a0) fun r1 =>
 br (r1.1 != 0) (
 br (r1.1 != 0) (
 some ((false,(⟨#[]⟩:ByteArray),(⟨#[]⟩:ByteArray),()),r1.1,())) (
 bd (interval_of.f lf a0) fun r2 =>
 bd (interval_of.f lf a1) fun r3 =>
 bd (interval_Sub_1.f lf r2.1 r3.1) fun r4 =>
 bd (interval_span_interval.f lf r4.1) fun r5 =>
 some (r5.1,0,()))) (
 bd (interval_Check.f lf a1) fun r6 =>
 br (r6.1 != 0) (
 br (r6.1 != 0) (
 some ((false,(⟨#[]⟩:ByteArray),(⟨#[]⟩:ByteArray),()),r6.1,())) (
 bd (interval_of.f lf a0) fun r7 =>
 bd (interval_of.f lf a1) fun r8 =>
 bd (interval_Sub_1.f lf r7.1 r8.1) fun r9 =>
 bd (interval_span_interval.f lf r9.1) fun r10 =>
 some (r10.1,0,()))) (
 bd (interval_of.f lf a0) fun r11 =>
 bd (interval_of.f lf a1) fun r12 =>
 bd (interval_Sub_1.f lf r11.1 r12.1) fun r13 =>
 bd (interval_span_interval.f lf r13.1) fun r14 =>
 some (r14.1,0,())))
def E(lf:Nat):Entry:=⟨[yI,yI],[yI,(.int .i64)],fun x=>f lf x.1 x.2.1⟩
theorem ok(lf:Nat):Ok 23 (E lf):=okT (an:=(annsL [])) (lf:=lf) (tC (interval_Sub_1.ok lf) (tC (interval_Check.ok lf) (tC (interval_of.ok lf) (tC (interval_span_interval.ok lf) tN)))) aoN fun x=>by kernel_rfl
end interval_Sub
namespace interval_sign
def f(lf:Nat)(a0:TX):Option (Int×Unit) :=
 br (a0.1 != 0) (
 some (a0.1,())) (
 bd (interval_order.f lf a0.2.1 (⟨#[48]⟩:ByteArray)) fun r1 =>
 some (r1.1,()))
def E(lf:Nat):Entry:=⟨[yX],[(.int .i64)],fun x=>f lf x.1⟩
theorem ok(lf:Nat):Ok 136 (E lf):=okT (an:=(annsL [])) (lf:=lf) (tC (interval_order.ok lf) tN) aoN fun x=>by kernel_rfl
end interval_sign
end
end Go.Q
namespace Go.Q
open Go.IntKind (i64)
open Go Go.RowKit
open Go.Rx (br bd sIdx sCat sCut iQuo iRem)
noncomputable section
namespace interval_times
def f(lf:Nat)(a0:TX)(a1:TX):Option (TX×Unit) :=
 bd (interval_sign.f lf a0) fun r1 =>
 bd (interval_sign.f lf a1) fun r2 =>
 br ((i64.wrap (r1.1*r2.1))==0) (
 bd (interval_finite.f lf (⟨#[48]⟩:ByteArray)) fun r3 =>
 some (r3.1,())) (
 br (a0.1 != 0) (
 bd (interval_infinite.f lf (i64.wrap (r1.1*r2.1))) fun r4 =>
 some (r4.1,())) (
 br (a1.1 != 0) (
 bd (interval_infinite.f lf (i64.wrap (r1.1*r2.1))) fun r5 =>
 some (r5.1,())) (
 bd (bigint_Mul.f lf a0.2.1 a1.2.1) fun r6 =>
 bd (interval_finite.f lf r6.1) fun r7 =>
 some (r7.1,()))))
def E(lf:Nat):Entry:=⟨[yX,yX],[yX],fun x=>f lf x.1 x.2.1⟩
theorem ok(lf:Nat):Ok 75 (E lf):=okT (an:=(annsL [])) (lf:=lf) (tC (interval_finite.ok lf) (tC (interval_infinite.ok lf) (tC (interval_sign.ok lf) (tC (bigint_Mul.ok lf) tN)))) aoN fun x=>by kernel_rfl
end interval_times
namespace interval_least
def f(lf:Nat)(a0:TX)(a1:TX):Option (TX×Unit) :=
 bd (interval_compare.f lf a1 a0) fun r1 =>
 br (decide (r1.1 < 0)) (
 some (a1,())) (
 some (a0,()))
def E(lf:Nat):Entry:=⟨[yX,yX],[yX],fun x=>f lf x.1 x.2.1⟩
theorem ok(lf:Nat):Ok 145 (E lf):=okT (an:=(annsL [])) (lf:=lf) (tC (interval_compare.ok lf) tN) aoN fun x=>by kernel_rfl
end interval_least
namespace interval_most
def f(lf:Nat)(a0:TX)(a1:TX):Option (TX×Unit) :=
 bd (interval_compare.f lf a1 a0) fun r1 =>
 br (decide (r1.1 > 0)) (
 some (a1,())) (
 some (a0,()))
def E(lf:Nat):Entry:=⟨[yX,yX],[yX],fun x=>f lf x.1 x.2.1⟩
theorem ok(lf:Nat):Ok 146 (E lf):=okT (an:=(annsL [])) (lf:=lf) (tC (interval_compare.ok lf) tN) aoN fun x=>by kernel_rfl
end interval_most
namespace interval_span_hull
def f(lf:Nat)(a0:TS)(a1:TS):Option (TS×Unit) :=
 bd (interval_span_empty.f lf a0) fun r1 =>
 br r1.1 (
 some (a1,())) (
 bd (interval_span_empty.f lf a1) fun r2 =>
 br r2.1 (
 some (a0,())) (
 bd (interval_least.f lf a0.1 a1.1) fun r3 =>
 bd (interval_most.f lf a0.2.1 a1.2.1) fun r4 =>
 some ((r3.1,r4.1,()),())))
def E(lf:Nat):Entry:=⟨[yS,yS],[yS],fun x=>f lf x.1 x.2.1⟩
theorem ok(lf:Nat):Ok 83 (E lf):=okT (an:=(annsL [])) (lf:=lf) (tC (interval_span_empty.ok lf) (tC (interval_least.ok lf) (tC (interval_most.ok lf) tN))) aoN fun x=>by kernel_rfl
end interval_span_hull
namespace interval_Mul
def anns:FuncId→FA:=annsL [(76,⟨annOf [(0,⟨kx 35 [3,7],[],[]⟩,⟨[],[],[]⟩)],none,[]⟩)]
def f(lf:Nat)(a0:TI)(a1:TI):Option (TI×Int×Unit) :=
 bd (interval_Check.f lf a0) fun r1 =>
 br (r1.1 != 0) (
 br (r1.1 != 0) (
 some ((false,(⟨#[]⟩:ByteArray),(⟨#[]⟩:ByteArray),()),r1.1,())) (
 bd (interval_of.f lf a0) fun r2 =>
 bd (interval_of.f lf a1) fun r3 =>
 bd (interval_span_empty.f lf r2.1) fun r4 =>
 br r4.1 (
 bd (interval_none.f lf) fun r5 =>
 bd (interval_span_interval.f lf r5.1) fun r6 =>
 some (r6.1,0,())) (
 bd (interval_span_empty.f lf r3.1) fun r7 =>
 br r7.1 (
 bd (interval_none.f lf) fun r8 =>
 bd (interval_span_interval.f lf r8.1) fun r9 =>
 some (r9.1,0,())) (
 bd (interval_none.f lf) fun r10 =>
 bd (interval_times.f lf r2.1.1 r3.1.1) fun r11 =>
 bd (interval_span_hull.f lf r10.1 (r11.1,r11.1,())) fun r12 =>
 bd (interval_times.f lf r2.1.1 r3.1.2.1) fun r13 =>
 bd (interval_span_hull.f lf r12.1 (r13.1,r13.1,())) fun r14 =>
 bd (interval_times.f lf r2.1.2.1 r3.1.1) fun r15 =>
 bd (interval_span_hull.f lf r14.1 (r15.1,r15.1,())) fun r16 =>
 bd (interval_times.f lf r2.1.2.1 r3.1.2.1) fun r17 =>
 bd (interval_span_hull.f lf r16.1 (r17.1,r17.1,())) fun r18 =>
 bd (interval_span_interval.f lf r18.1) fun r19 =>
 some (r19.1,0,()))))) (
 bd (interval_Check.f lf a1) fun r20 =>
 br (r20.1 != 0) (
 br (r20.1 != 0) (
 some ((false,(⟨#[]⟩:ByteArray),(⟨#[]⟩:ByteArray),()),r20.1,())) (
 bd (interval_of.f lf a0) fun r21 =>
 bd (interval_of.f lf a1) fun r22 =>
 bd (interval_span_empty.f lf r21.1) fun r23 =>
 br r23.1 (
 bd (interval_none.f lf) fun r24 =>
 bd (interval_span_interval.f lf r24.1) fun r25 =>
 some (r25.1,0,())) (
 bd (interval_span_empty.f lf r22.1) fun r26 =>
 br r26.1 (
 bd (interval_none.f lf) fun r27 =>
 bd (interval_span_interval.f lf r27.1) fun r28 =>
 some (r28.1,0,())) (
 bd (interval_none.f lf) fun r29 =>
 bd (interval_times.f lf r21.1.1 r22.1.1) fun r30 =>
 bd (interval_span_hull.f lf r29.1 (r30.1,r30.1,())) fun r31 =>
 bd (interval_times.f lf r21.1.1 r22.1.2.1) fun r32 =>
 bd (interval_span_hull.f lf r31.1 (r32.1,r32.1,())) fun r33 =>
 bd (interval_times.f lf r21.1.2.1 r22.1.1) fun r34 =>
 bd (interval_span_hull.f lf r33.1 (r34.1,r34.1,())) fun r35 =>
 bd (interval_times.f lf r21.1.2.1 r22.1.2.1) fun r36 =>
 bd (interval_span_hull.f lf r35.1 (r36.1,r36.1,())) fun r37 =>
 bd (interval_span_interval.f lf r37.1) fun r38 =>
 some (r38.1,0,()))))) (
 bd (interval_of.f lf a0) fun r39 =>
 bd (interval_of.f lf a1) fun r40 =>
 bd (interval_span_empty.f lf r39.1) fun r41 =>
 br r41.1 (
 bd (interval_none.f lf) fun r42 =>
 bd (interval_span_interval.f lf r42.1) fun r43 =>
 some (r43.1,0,())) (
 bd (interval_span_empty.f lf r40.1) fun r44 =>
 br r44.1 (
 bd (interval_none.f lf) fun r45 =>
 bd (interval_span_interval.f lf r45.1) fun r46 =>
 some (r46.1,0,())) (
 bd (interval_none.f lf) fun r47 =>
 bd (interval_times.f lf r39.1.1 r40.1.1) fun r48 =>
 bd (interval_span_hull.f lf r47.1 (r48.1,r48.1,())) fun r49 =>
 bd (interval_times.f lf r39.1.1 r40.1.2.1) fun r50 =>
 bd (interval_span_hull.f lf r49.1 (r50.1,r50.1,())) fun r51 =>
 bd (interval_times.f lf r39.1.2.1 r40.1.1) fun r52 =>
 bd (interval_span_hull.f lf r51.1 (r52.1,r52.1,())) fun r53 =>
 bd (interval_times.f lf r39.1.2.1 r40.1.2.1) fun r54 =>
 bd (interval_span_hull.f lf r53.1 (r54.1,r54.1,())) fun r55 =>
 bd (interval_span_interval.f lf r55.1) fun r56 =>
 some (r56.1,0,())))))
def E(lf:Nat):Entry:=⟨[yI,yI],[yI,(.int .i64)],fun x=>f lf x.1 x.2.1⟩
theorem ok(lf:Nat):Ok 24 (E lf):=okT (an:=anns) (lf:=lf) (tC (interval_times.ok lf) (tC (interval_Check.ok lf) (tC (interval_of.ok lf) (tC (interval_span_interval.ok lf) (tC (interval_span_hull.ok lf) (tC (interval_span_empty.ok lf) (tC (interval_none.ok lf) tN))))))) (aoC aoN) fun x=>by kernel_rfl
end interval_Mul
namespace interval_span_common
def f(lf:Nat)(a0:TS)(a1:TS):Option (TS×Unit) :=
 bd (interval_most.f lf a0.1 a1.1) fun r1 =>
 bd (interval_least.f lf a0.2.1 a1.2.1) fun r2 =>
 some ((r1.1,r2.1,()),())
def E(lf:Nat):Entry:=⟨[yS,yS],[yS],fun x=>f lf x.1 x.2.1⟩
theorem ok(lf:Nat):Ok 186 (E lf):=okT (an:=(annsL [])) (lf:=lf) (tC (interval_least.ok lf) (tC (interval_most.ok lf) tN)) aoN fun x=>by kernel_rfl
end interval_span_common
namespace interval_span_positive
def f(lf:Nat)(a0:TS):Option (TS×Unit) :=
 bd (interval_finite.f lf (⟨#[49]⟩:ByteArray)) fun r1 =>
 bd (interval_infinite.f lf 1) fun r2 =>
 bd (interval_span_common.f lf a0 (r1.1,r2.1,())) fun r3 =>
 some (r3.1,())
def E(lf:Nat):Entry:=⟨[yS],[yS],fun x=>f lf x.1⟩
theorem ok(lf:Nat):Ok 140 (E lf):=okT (an:=(annsL [])) (lf:=lf) (tC (interval_finite.ok lf) (tC (interval_infinite.ok lf) (tC (interval_span_common.ok lf) tN))) aoN fun x=>by kernel_rfl
end interval_span_positive
namespace interval_over
def f(lf:Nat)(a0:TX)(a1:TX):Option (TX×Unit) :=
 br (a0.1 != 0) (
 some (a0,())) (
 br (a1.1==0) (
 bd (bigint_Quo.f lf a0.2.1 a1.2.1) fun r1 =>
 bd (interval_finite.f lf r1.1) fun r2 =>
 some (r2.1,())) (
 bd (interval_sign.f lf a0) fun r3 =>
 br (decide (r3.1 < 0)) (
 bd (interval_finite.f lf (⟨#[45,49]⟩:ByteArray)) fun r4 =>
 some (r4.1,())) (
 bd (interval_finite.f lf (⟨#[48]⟩:ByteArray)) fun r5 =>
 some (r5.1,()))))
def E(lf:Nat):Entry:=⟨[yX,yX],[yX],fun x=>f lf x.1 x.2.1⟩
theorem ok(lf:Nat):Ok 78 (E lf):=okT (an:=(annsL [])) (lf:=lf) (tC (interval_finite.ok lf) (tC (interval_sign.ok lf) (tC (bigint_Quo.ok lf) tN))) aoN fun x=>by kernel_rfl
end interval_over
namespace interval_Quo_1
def f(lf:Nat)(a0:TS):Option (TS×Unit) :=
 some (a0,())
def E(lf:Nat):Entry:=⟨[yS],[yS],fun x=>f lf x.1⟩
theorem ok(lf:Nat):Ok 79 (E lf):=okT (an:=(annsL [])) (lf:=lf) tN aoN fun x=>by kernel_rfl
end interval_Quo_1
end
end Go.Q
