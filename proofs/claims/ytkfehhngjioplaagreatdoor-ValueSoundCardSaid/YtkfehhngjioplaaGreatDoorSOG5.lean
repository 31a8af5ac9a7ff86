import Derived.Test.YtkfehhngjioplaaGreatDoorProg
import Derived.KernelRfl
import Derived.Test.YtkfehhngjioplaaGreatDoorSOE3
import Derived.Test.YtkfehhngjioplaaGreatDoorSOG1
import Derived.Test.YtkfehhngjioplaaGreatDoorSOG3
import Derived.Test.YtkfehhngjioplaaGreatDoorSOG4
set_option linter.unusedVariables false
set_option linter.unusedSimpArgs false
set_option linter.unusedSectionVars false
set_option maxRecDepth 100000
namespace Go.Q
open Go.IntKind (i64)
open Go Go.RowKit
open Go.Rx (br bd sIdx sCat sCut iQuo iRem)
noncomputable section
namespace interval_span_single
def f(lf:Nat)(a0:TS):Option (Bool×Unit) :=
 br (a0.1.1==0) (
 br (a0.2.1.1==0) (
 some ((a0.1.2.1.toList==a0.2.1.2.1.toList),())) (
 some (false,()))) (
 some (false,()))
def E(lf:Nat):Entry:=⟨[yS],[.bool],fun x=>f lf x.1⟩
theorem ok(lf:Nat):Ok 172 (E lf):=okT (an:=(annsL [])) (lf:=lf) tN aoN fun x=>by kernel_rfl
end interval_span_single
namespace interval_residues
def f(lf:Nat)(a0:TS)(a1:ByteArray):Option (TS×Unit) :=
 bd (interval_finite.f lf (⟨#[48]⟩:ByteArray)) fun r1 =>
 bd (interval_sum.f lf a1 (⟨#[45,49]⟩:ByteArray)) fun r2 =>
 bd (interval_finite.f lf r2.1) fun r3 =>
 br (a0.1.1 != 0) (
 some ((r1.1,r3.1,()),())) (
 br (a0.2.1.1 != 0) (
 some ((r1.1,r3.1,()),())) (
 bd (interval_negated.f lf a0.1.2.1) fun r4 =>
 bd (interval_sum.f lf a0.2.1.2.1 r4.1) fun r5 =>
 bd (interval_order.f lf r5.1 r3.1.2.1) fun r6 =>
 br (decide (r6.1≥0)) (
 some ((r1.1,r3.1,()),())) (
 bd (bigint_Rem.f lf a0.1.2.1 a1) fun r7 =>
 bd (bigint_Rem.f lf a0.2.1.2.1 a1) fun r8 =>
 bd (interval_order.f lf r7.1 r8.1) fun r9 =>
 br (decide (r9.1 > 0)) (
 some ((r1.1,r3.1,()),())) (
 bd (interval_finite.f lf r7.1) fun r10 =>
 bd (interval_finite.f lf r8.1) fun r11 =>
 some ((r10.1,r11.1,()),())))))
def E(lf:Nat):Entry:=⟨[yS,.str],[yS],fun x=>f lf x.1 x.2.1⟩
theorem ok(lf:Nat):Ok 173 (E lf):=okT (an:=(annsL [])) (lf:=lf) (tC (interval_finite.ok lf) (tC (bigint_Rem.ok lf) (tC (interval_sum.ok lf) (tC (interval_order.ok lf) (tC (interval_negated.ok lf) tN))))) aoN fun x=>by kernel_rfl
end interval_residues
namespace interval_shifted
def f(lf:Nat)(a0:TX)(a1:ByteArray):Option (TX×Unit) :=
 br (a0.1 != 0) (
 some (a0,())) (
 bd (interval_sum.f lf a0.2.1 a1) fun r1 =>
 bd (interval_finite.f lf r1.1) fun r2 =>
 some (r2.1,()))
def E(lf:Nat):Entry:=⟨[yX,.str],[yX],fun x=>f lf x.1 x.2.1⟩
theorem ok(lf:Nat):Ok 174 (E lf):=okT (an:=(annsL [])) (lf:=lf) (tC (interval_finite.ok lf) (tC (interval_sum.ok lf) tN)) aoN fun x=>by kernel_rfl
end interval_shifted
namespace interval_remainders
def f(lf:Nat)(a0:TS)(a1:TS):Option (TS×Unit) :=
 bd (interval_span_single.f lf a1) fun r1 =>
 br r1.1 (
 bd (interval_residues.f lf a0 a1.1.2.1) fun r2 =>
 some (r2.1,())) (
 bd (interval_sign.f lf a0.1) fun r3 =>
 br (decide (r3.1≥0)) (
 bd (interval_compare.f lf a0.2.1 a1.1) fun r4 =>
 br (decide (r4.1 < 0)) (
 some (a0,())) (
 bd (interval_shifted.f lf a1.2.1 (⟨#[45,49]⟩:ByteArray)) fun r5 =>
 bd (interval_sign.f lf a0.1) fun r6 =>
 br (decide (r6.1≥0)) (
 bd (interval_least.f lf r5.1 a0.2.1) fun r7 =>
 bd (interval_finite.f lf (⟨#[48]⟩:ByteArray)) fun r8 =>
 some ((r8.1,r7.1,()),())) (
 bd (interval_finite.f lf (⟨#[48]⟩:ByteArray)) fun r9 =>
 some ((r9.1,r5.1,()),())))) (
 bd (interval_shifted.f lf a1.2.1 (⟨#[45,49]⟩:ByteArray)) fun r10 =>
 bd (interval_sign.f lf a0.1) fun r11 =>
 br (decide (r11.1≥0)) (
 bd (interval_least.f lf r10.1 a0.2.1) fun r12 =>
 bd (interval_finite.f lf (⟨#[48]⟩:ByteArray)) fun r13 =>
 some ((r13.1,r12.1,()),())) (
 bd (interval_finite.f lf (⟨#[48]⟩:ByteArray)) fun r14 =>
 some ((r14.1,r10.1,()),()))))
def E(lf:Nat):Entry:=⟨[yS,yS],[yS],fun x=>f lf x.1 x.2.1⟩
theorem ok(lf:Nat):Ok 115 (E lf):=okT (an:=(annsL [])) (lf:=lf) (tC (interval_finite.ok lf) (tC (interval_compare.ok lf) (tC (interval_sign.ok lf) (tC (interval_least.ok lf) (tC (interval_span_single.ok lf) (tC (interval_residues.ok lf) (tC (interval_shifted.ok lf) tN))))))) aoN fun x=>by kernel_rfl
end interval_remainders
namespace interval_Rem
def f(lf:Nat)(a0:TI)(a1:TI):Option (TI×Int×Unit) :=
 bd (interval_Check.f lf a0) fun r1 =>
 br (r1.1 != 0) (
 br (r1.1 != 0) (
 some ((false,(⟨#[]⟩:ByteArray),(⟨#[]⟩:ByteArray),()),r1.1,())) (
 bd (interval_of.f lf a0) fun r2 =>
 bd (interval_of.f lf a1) fun r3 =>
 bd (interval_none.f lf) fun r4 =>
 bd (interval_span_positive.f lf r3.1) fun r5 =>
 bd (interval_span_empty.f lf r5.1) fun r6 =>
 br (!r6.1) (
 bd (interval_span_empty.f lf r2.1) fun r7 =>
 br (!r7.1) (
 bd (interval_remainders.f lf r2.1 r5.1) fun r8 =>
 bd (interval_span_turned.f lf r3.1) fun r9 =>
 bd (interval_span_positive.f lf r9.1) fun r10 =>
 bd (interval_span_empty.f lf r10.1) fun r11 =>
 br (!r11.1) (
 bd (interval_span_empty.f lf r2.1) fun r12 =>
 br (!r12.1) (
 bd (interval_span_turned.f lf r2.1) fun r13 =>
 bd (interval_remainders.f lf r13.1 r10.1) fun r14 =>
 bd (interval_span_turned.f lf r14.1) fun r15 =>
 bd (interval_span_hull.f lf r8.1 r15.1) fun r16 =>
 bd (interval_span_interval.f lf r16.1) fun r17 =>
 some (r17.1,0,())) (
 bd (interval_span_interval.f lf r8.1) fun r18 =>
 some (r18.1,0,()))) (
 bd (interval_span_interval.f lf r8.1) fun r19 =>
 some (r19.1,0,()))) (
 bd (interval_span_turned.f lf r3.1) fun r20 =>
 bd (interval_span_positive.f lf r20.1) fun r21 =>
 bd (interval_span_empty.f lf r21.1) fun r22 =>
 br (!r22.1) (
 bd (interval_span_empty.f lf r2.1) fun r23 =>
 br (!r23.1) (
 bd (interval_span_turned.f lf r2.1) fun r24 =>
 bd (interval_remainders.f lf r24.1 r21.1) fun r25 =>
 bd (interval_span_turned.f lf r25.1) fun r26 =>
 bd (interval_span_hull.f lf r4.1 r26.1) fun r27 =>
 bd (interval_span_interval.f lf r27.1) fun r28 =>
 some (r28.1,0,())) (
 bd (interval_span_interval.f lf r4.1) fun r29 =>
 some (r29.1,0,()))) (
 bd (interval_span_interval.f lf r4.1) fun r30 =>
 some (r30.1,0,())))) (
 bd (interval_span_turned.f lf r3.1) fun r31 =>
 bd (interval_span_positive.f lf r31.1) fun r32 =>
 bd (interval_span_empty.f lf r32.1) fun r33 =>
 br (!r33.1) (
 bd (interval_span_empty.f lf r2.1) fun r34 =>
 br (!r34.1) (
 bd (interval_span_turned.f lf r2.1) fun r35 =>
 bd (interval_remainders.f lf r35.1 r32.1) fun r36 =>
 bd (interval_span_turned.f lf r36.1) fun r37 =>
 bd (interval_span_hull.f lf r4.1 r37.1) fun r38 =>
 bd (interval_span_interval.f lf r38.1) fun r39 =>
 some (r39.1,0,())) (
 bd (interval_span_interval.f lf r4.1) fun r40 =>
 some (r40.1,0,()))) (
 bd (interval_span_interval.f lf r4.1) fun r41 =>
 some (r41.1,0,()))))) (
 bd (interval_Check.f lf a1) fun r42 =>
 br (r42.1 != 0) (
 br (r42.1 != 0) (
 some ((false,(⟨#[]⟩:ByteArray),(⟨#[]⟩:ByteArray),()),r42.1,())) (
 bd (interval_of.f lf a0) fun r43 =>
 bd (interval_of.f lf a1) fun r44 =>
 bd (interval_none.f lf) fun r45 =>
 bd (interval_span_positive.f lf r44.1) fun r46 =>
 bd (interval_span_empty.f lf r46.1) fun r47 =>
 br (!r47.1) (
 bd (interval_span_empty.f lf r43.1) fun r48 =>
 br (!r48.1) (
 bd (interval_remainders.f lf r43.1 r46.1) fun r49 =>
 bd (interval_span_turned.f lf r44.1) fun r50 =>
 bd (interval_span_positive.f lf r50.1) fun r51 =>
 bd (interval_span_empty.f lf r51.1) fun r52 =>
 br (!r52.1) (
 bd (interval_span_empty.f lf r43.1) fun r53 =>
 br (!r53.1) (
 bd (interval_span_turned.f lf r43.1) fun r54 =>
 bd (interval_remainders.f lf r54.1 r51.1) fun r55 =>
 bd (interval_span_turned.f lf r55.1) fun r56 =>
 bd (interval_span_hull.f lf r49.1 r56.1) fun r57 =>
 bd (interval_span_interval.f lf r57.1) fun r58 =>
 some (r58.1,0,())) (
 bd (interval_span_interval.f lf r49.1) fun r59 =>
 some (r59.1,0,()))) (
 bd (interval_span_interval.f lf r49.1) fun r60 =>
 some (r60.1,0,()))) (
 bd (interval_span_turned.f lf r44.1) fun r61 =>
 bd (interval_span_positive.f lf r61.1) fun r62 =>
 bd (interval_span_empty.f lf r62.1) fun r63 =>
 br (!r63.1) (
 bd (interval_span_empty.f lf r43.1) fun r64 =>
 br (!r64.1) (
 bd (interval_span_turned.f lf r43.1) fun r65 =>
 bd (interval_remainders.f lf r65.1 r62.1) fun r66 =>
 bd (interval_span_turned.f lf r66.1) fun r67 =>
 bd (interval_span_hull.f lf r45.1 r67.1) fun r68 =>
 bd (interval_span_interval.f lf r68.1) fun r69 =>
 some (r69.1,0,())) (
 bd (interval_span_interval.f lf r45.1) fun r70 =>
 some (r70.1,0,()))) (
 bd (interval_span_interval.f lf r45.1) fun r71 =>
 some (r71.1,0,())))) (
 bd (interval_span_turned.f lf r44.1) fun r72 =>
 bd (interval_span_positive.f lf r72.1) fun r73 =>
 bd (interval_span_empty.f lf r73.1) fun r74 =>
 br (!r74.1) (
 bd (interval_span_empty.f lf r43.1) fun r75 =>
 br (!r75.1) (
 bd (interval_span_turned.f lf r43.1) fun r76 =>
 bd (interval_remainders.f lf r76.1 r73.1) fun r77 =>
 bd (interval_span_turned.f lf r77.1) fun r78 =>
 bd (interval_span_hull.f lf r45.1 r78.1) fun r79 =>
 bd (interval_span_interval.f lf r79.1) fun r80 =>
 some (r80.1,0,())) (
 bd (interval_span_interval.f lf r45.1) fun r81 =>
 some (r81.1,0,()))) (
 bd (interval_span_interval.f lf r45.1) fun r82 =>
 some (r82.1,0,()))))) (
 bd (interval_of.f lf a0) fun r83 =>
 bd (interval_of.f lf a1) fun r84 =>
 bd (interval_none.f lf) fun r85 =>
 bd (interval_span_positive.f lf r84.1) fun r86 =>
 bd (interval_span_empty.f lf r86.1) fun r87 =>
 br (!r87.1) (
 bd (interval_span_empty.f lf r83.1) fun r88 =>
 br (!r88.1) (
 bd (interval_remainders.f lf r83.1 r86.1) fun r89 =>
 bd (interval_span_turned.f lf r84.1) fun r90 =>
 bd (interval_span_positive.f lf r90.1) fun r91 =>
 bd (interval_span_empty.f lf r91.1) fun r92 =>
 br (!r92.1) (
 bd (interval_span_empty.f lf r83.1) fun r93 =>
 br (!r93.1) (
 bd (interval_span_turned.f lf r83.1) fun r94 =>
 bd (interval_remainders.f lf r94.1 r91.1) fun r95 =>
 bd (interval_span_turned.f lf r95.1) fun r96 =>
 bd (interval_span_hull.f lf r89.1 r96.1) fun r97 =>
 bd (interval_span_interval.f lf r97.1) fun r98 =>
 some (r98.1,0,())) (
 bd (interval_span_interval.f lf r89.1) fun r99 =>
 some (r99.1,0,()))) (
 bd (interval_span_interval.f lf r89.1) fun r100 =>
 some (r100.1,0,()))) (
 bd (interval_span_turned.f lf r84.1) fun r101 =>
 bd (interval_span_positive.f lf r101.1) fun r102 =>
 bd (interval_span_empty.f lf r102.1) fun r103 =>
 br (!r103.1) (
 bd (interval_span_empty.f lf r83.1) fun r104 =>
 br (!r104.1) (
 bd (interval_span_turned.f lf r83.1) fun r105 =>
 bd (interval_remainders.f lf r105.1 r102.1) fun r106 =>
 bd (interval_span_turned.f lf r106.1) fun r107 =>
 bd (interval_span_hull.f lf r85.1 r107.1) fun r108 =>
 bd (interval_span_interval.f lf r108.1) fun r109 =>
 some (r109.1,0,())) (
 bd (interval_span_interval.f lf r85.1) fun r110 =>
 some (r110.1,0,()))) (
 bd (interval_span_interval.f lf r85.1) fun r111 =>
 some (r111.1,0,())))) (
 bd (interval_span_turned.f lf r84.1) fun r112 =>
 bd (interval_span_positive.f lf r112.1) fun r113 =>
 bd (interval_span_empty.f lf r113.1) fun r114 =>
 br (!r114.1) (
 bd (interval_span_empty.f lf r83.1) fun r115 =>
 br (!r115.1) (
 bd (interval_span_turned.f lf r83.1) fun r116 =>
 bd (interval_remainders.f lf r116.1 r113.1) fun r117 =>
 bd (interval_span_turned.f lf r117.1) fun r118 =>
 bd (interval_span_hull.f lf r85.1 r118.1) fun r119 =>
 bd (interval_span_interval.f lf r119.1) fun r120 =>
 some (r120.1,0,())) (
 bd (interval_span_interval.f lf r85.1) fun r121 =>
 some (r121.1,0,()))) (
 bd (interval_span_interval.f lf r85.1) fun r122 =>
 some (r122.1,0,())))))
def E(lf:Nat):Entry:=⟨[yI,yI],[yI,(.int .i64)],fun x=>f lf x.1 x.2.1⟩
theorem ok(lf:Nat):Ok 58 (E lf):=okT (an:=(annsL [])) (lf:=lf) (tC (interval_span_turned.ok lf) (tC (interval_Check.ok lf) (tC (interval_of.ok lf) (tC (interval_span_interval.ok lf) (tC (interval_span_hull.ok lf) (tC (interval_remainders.ok lf) (tC (interval_span_empty.ok lf) (tC (interval_none.ok lf) (tC (interval_span_positive.ok lf) tN))))))))) aoN fun x=>by kernel_rfl
end interval_Rem
namespace interval_Holds
def f(lf:Nat)(a0:TI)(a1:ByteArray):Option (Bool×Int×Unit) :=
 bd (interval_Check.f lf a0) fun r1 =>
 br (r1.1 != 0) (
 some (false,r1.1,())) (
 bd (bigint_Check.f lf a1) fun r2 =>
 br (r2.1 != 0) (
 some (false,r2.1,())) (
 bd (interval_of.f lf a0) fun r3 =>
 bd (interval_finite.f lf a1) fun r4 =>
 bd (interval_compare.f lf r3.1.1 r4.1) fun r5 =>
 br (decide (r5.1≤0)) (
 bd (interval_compare.f lf r4.1 r3.1.2.1) fun r6 =>
 some ((decide (r6.1≤0)),0,())) (
 some (false,0,()))))
def E(lf:Nat):Entry:=⟨[yI,.str],[.bool,(.int .i64)],fun x=>f lf x.1 x.2.1⟩
theorem ok(lf:Nat):Ok 62 (E lf):=okT (an:=(annsL [])) (lf:=lf) (tC (interval_Check.ok lf) (tC (interval_of.ok lf) (tC (bigint_Check.ok lf) (tC (interval_finite.ok lf) (tC (interval_compare.ok lf) tN))))) aoN fun x=>by kernel_rfl
end interval_Holds
namespace interval_ascending
def anns:FuncId→FA:=annsL [(128,⟨annOf [(0,⟨kx 34 [0,9,10,11],[],[]⟩,⟨kx 34 [2],[],[]⟩)],none,[]⟩)]
def r0{ρ:Type}(lf:Nat)(v0 v1:List ByteArray)(v2:Int)(v3:Int)(K:Int→Option ρ)(E0:Int→Option ρ)(E1:Option ρ):Option ρ :=
 br (decide (v3 < v2)) (
 bd (idxL v1 v3) fun y1 =>
 bd (interval_number.f lf y1) fun r2 =>
 br (r2.1 != 0) (
 E0 r2.1) (
 br (decide (v3 > 0)) (
 bd (idxL v0 (i64.wrap (v3-1))) fun y3 =>
 bd (interval_order.f lf y3 y1) fun r4 =>
 br (decide (r4.1≥0)) (
 E0 14) (
 K (i64.wrap (v3+1)))) (
 K (i64.wrap (v3+1))))) (
 E1)
def l0(lf:Nat)(v0 v1:List ByteArray)(v2:Int):Nat→Int→Option (Bool×(Int×Unit)×(Unit)×Unit)
 | 0,_=>none
 | n+1,v3=>r0 lf v0 v1 v2 v3 (l0 lf v0 v1 v2 n) (fun w0=>some (true,(w0,()),((()),()))) (some (false,(0,()),((()),())))
def sh0:ShS:=⟨[.s (.sl .str),.a 8,.s (.sl .str),.s (.int .i64),.s (.int .i64),.a 22],[]⟩
def S0(p:(List ByteArray)×(List ByteArray)×Int×Int×Unit):St:=sh0.b p
def xh0:ShS:=⟨[.a 2,.s (.int .i64),.a 31],[]⟩
def xh1:ShS:=⟨[.a 34],[]⟩
def o0(v0 v1:List ByteArray)(v2:Int)(y:Bool×(Int×Unit)×(Unit)×Unit):Alt:=.two y.1 (.one .ret (xh0.b (y.2.1.1,()))) (.one (.exit 0) (xh1.b (())))
def tb(lf:Nat):List (FuncId×Entry):=[(142,interval_number.E lf),(143,interval_order.E lf)]
def s13_128(lf:Nat):List (Nat×(St→Option LTE)):=[(0,sumE sh0 fun(p:(List ByteArray)×(List ByteArray)×Int×Int×Unit)=>⟨Bool×(Int×Unit)×(Unit)×Unit,l0 lf p.1 p.2.1 p.2.2.1 (lf+40) p.2.2.2.1,o0 p.1 p.2.1 p.2.2.1⟩)]
def ls(lf:Nat):List (Nat×FuncId×Sums):=[(13,128,sumsL (s13_128 lf))]
def it0{ρ:Type}(lf n:Nat)(st:St)(k:KE ρ):Option ρ:=itG anns (ls lf) (tb lf) lf 13 128 0 0 (sumsL (s13_128 lf)) n st k
theorem t0{ρ:Type}(lf n:Nat)(v0 v1:List ByteArray)(v2 v3:Int)(k:KE ρ):it0 lf (n+1) (S0 (v0,v1,v2,v3,())) k=r0 lf v0 v1 v2 v3 (fun x0=>it0 lf n (S0 (v0,v1,v2,x0,())) k) (fun w0=>k .ret (xh0.b (w0,()))) (k (.exit 0) (xh1.b (()))):=by kernel_rfl
theorem u0{ρ:Type}(lf:Nat)(v0 v1:List ByteArray)(v2:Int)(k:KE ρ):∀ (n:Nat) (v3:Int),it0 lf n (S0 (v0,v1,v2,v3,())) k=bd (l0 lf v0 v1 v2 n v3) fun y=>altK k (o0 v0 v1 v2 y)
 | 0,_=>by rw[l0,bd_none];rfl
 | n+1,v3=>by
  rw[t0];simp only[l0,r0,u0 lf v0 v1 v2 k n,bd_br,bd_bd,bd_some',bd_none,br_t,br_f,o0,altK]
theorem sl(lf:Nat):SL anns (ls lf) (tb lf) lf (ls lf):=slC (laC (fun _=>by kernel_rfl) (fun _ (x:(List ByteArray)×(List ByteArray)×Int×Int×Unit) k=>leq_of (u0 lf x.1 x.2.1 x.2.2.1 k (lf+40) x.2.2.2.1)) laN) slN
def f(lf:Nat)(a0:List ByteArray):Option (Int×Unit) :=
 br (decide (((a0.length:Nat):Int) > 1024)) (
 some (5,())) (
 bd (l0 lf a0 a0 ((a0.length:Nat):Int) (lf+40) 0) fun z5 =>
 br z5.1 (
 some (z5.2.1.1,())) (
 some (0,())))
def E(lf:Nat):Entry:=⟨[(.sl .str)],[(.int .i64)],fun x=>f lf x.1⟩
theorem ok(lf:Nat):Ok 128 (E lf):=okL (tC (interval_number.ok lf) (tC (interval_order.ok lf) tN)) (aoC aoN) (sl lf) fun x=>by kernel_rfl
end interval_ascending
end
end Go.Q
namespace Go.Q
open Go.IntKind (i64)
open Go Go.RowKit
open Go.Rx (br bd sIdx sCat sCut iQuo iRem)
noncomputable section
namespace interval_Widen
def anns:FuncId→FA:=annsL [(68,⟨annOf [(0,⟨kx 103 [2,6,10,12,13,57,58,59],[],[0,1,3,5]⟩,⟨kx 103 [2,6,7,10,12,13],[],[0,1,3,5]⟩),(1,⟨kx 103 [2,6,12,16,17],[],[4]⟩,⟨kx 103 [6,7,12,16],[],[4]⟩)],none,[]⟩)]
def r0{ρ:Type}(lf:Nat)(v0 v1:List ByteArray)(v2:Int)(v4:Bool)(v5 v6:ByteArray)(v7:Int)(v8:ByteArray)(v9:Int)(v10:ByteArray)(v11:Int)(v12:ByteArray)(v13:Int)(v14:ByteArray)(v3 v15:Int)(v16:ByteArray)(K:Int→Int→ByteArray→Option ρ)(E0:Int→ByteArray→Option ρ):Option ρ :=
 br (decide (v3 < v2)) (
 bd (idxL v1 v3) fun y14 =>
 bd (interval_finite.f lf y14) fun r15 =>
 bd (interval_compare.f lf r15.1 (v11,v12,())) fun r16 =>
 br (decide (r16.1≤0)) (
 bd (interval_finite.f lf y14) fun r17 =>
 K (i64.wrap (v3+1)) r17.1.1 r17.1.2.1) (
 K (i64.wrap (v3+1)) v15 v16)) (
 E0 v15 v16)
def l0(lf:Nat)(v0 v1:List ByteArray)(v2:Int)(v4:Bool)(v5 v6:ByteArray)(v7:Int)(v8:ByteArray)(v9:Int)(v10:ByteArray)(v11:Int)(v12:ByteArray)(v13:Int)(v14:ByteArray):Nat→Int→Int→ByteArray→Option ((Int×ByteArray×Unit)×Unit)
 | 0,_,_,_=>none
 | n+1,v3,v15,v16=>r0 lf v0 v1 v2 v4 v5 v6 v7 v8 v9 v10 v11 v12 v13 v14 v3 v15 v16 (l0 lf v0 v1 v2 v4 v5 v6 v7 v8 v9 v10 v11 v12 v13 v14 n) (fun w0 w1=>some ((w0,w1,()),()))
def sh0:ShS:=⟨[.a 2,.s (.sl .str),.a 3,.s (.ptr 2 0),.a 3,.s (.ptr 4 0),.a 1,.s (.ptr 6 0),.s (.ptr 7 0),.a 43,.s (.sl .str),.s (.int .i64),.s (.int .i64),.a 43],[.gone,.gone,.cells [.s .bool,.s .str,.s .str] 24,.gone,.cells [.s (.int .i64),.s .str,.s (.int .i64),.s .str] 97,.gone,.cells [.s (.int .i64),.s .str,.s (.int .i64),.s .str] 97,.cells [.s (.int .i64),.s .str] 95]⟩
def S0(p:(List ByteArray)×(List ByteArray)×Int×Int×Bool×ByteArray×ByteArray×Int×ByteArray×Int×ByteArray×Int×ByteArray×Int×ByteArray×Int×ByteArray×Unit):St:=sh0.b p
def xh0:ShS:=⟨[.a 2,.s (.sl .str),.a 3,.s (.ptr 2 0),.a 3,.s (.ptr 4 0),.a 1,.s (.ptr 6 0),.s (.ptr 7 0),.a 89],[.gone,.gone,.cells [.s .bool,.s .str,.s .str] 24,.gone,.cells [.s (.int .i64),.s .str,.s (.int .i64),.s .str] 97,.gone,.cells [.s (.int .i64),.s .str,.s (.int .i64),.s .str] 97,.cells [.s (.int .i64),.s .str] 95]⟩
def o0(v0 v1:List ByteArray)(v2:Int)(v4:Bool)(v5 v6:ByteArray)(v7:Int)(v8:ByteArray)(v9:Int)(v10:ByteArray)(v11:Int)(v12:ByteArray)(v13:Int)(v14:ByteArray)(y:(Int×ByteArray×Unit)×Unit):Alt:=.one (.exit 0) (xh0.b (v0,v4,v5,v6,v7,v8,v9,v10,v11,v12,v13,v14,y.1.1,y.1.2.1,()))
def r1{ρ:Type}(lf:Nat)(v0:List ByteArray)(v2:Bool)(v3 v4:ByteArray)(v5:Int)(v6:ByteArray)(v7:Int)(v8:ByteArray)(v9:Int)(v10:ByteArray)(v1 v11:Int)(v12:ByteArray)(K:Int→Int→ByteArray→Option ρ)(E0:Int→ByteArray→Option ρ):Option ρ :=
 br (decide (v1≥0)) (
 bd (idxL v0 v1) fun y21 =>
 bd (interval_finite.f lf y21) fun r22 =>
 bd (interval_compare.f lf r22.1 (v7,v8,())) fun r23 =>
 br (decide (r23.1≥0)) (
 K (i64.wrap (v1-1)) r22.1.1 r22.1.2.1) (
 K (i64.wrap (v1-1)) v11 v12)) (
 E0 v11 v12)
def l1(lf:Nat)(v0:List ByteArray)(v2:Bool)(v3 v4:ByteArray)(v5:Int)(v6:ByteArray)(v7:Int)(v8:ByteArray)(v9:Int)(v10:ByteArray):Nat→Int→Int→ByteArray→Option ((Int×ByteArray×Unit)×Unit)
 | 0,_,_,_=>none
 | n+1,v1,v11,v12=>r1 lf v0 v2 v3 v4 v5 v6 v7 v8 v9 v10 v1 v11 v12 (l1 lf v0 v2 v3 v4 v5 v6 v7 v8 v9 v10 n) (fun w0 w1=>some ((w0,w1,()),()))
def sh1:ShS:=⟨[.a 2,.s (.sl .str),.a 3,.s (.ptr 2 0),.a 5,.s (.ptr 6 0),.a 3,.s (.ptr 8 0),.s (.int .i64),.a 85],[.gone,.gone,.cells [.s .bool,.s .str,.s .str] 24,.gone,.gone,.gone,.cells [.s (.int .i64),.s .str,.s (.int .i64),.s .str] 97,.cells [.s (.int .i64),.s .str] 95,.cells [.s (.int .i64),.s .str] 95]⟩
def S1(p:(List ByteArray)×Int×Bool×ByteArray×ByteArray×Int×ByteArray×Int×ByteArray×Int×ByteArray×Int×ByteArray×Unit):St:=sh1.b p
def xh1:ShS:=⟨[.a 6,.s (.ptr 2 0),.a 5,.s (.ptr 6 0),.a 3,.s (.ptr 8 0),.a 86],[.gone,.gone,.cells [.s .bool,.s .str,.s .str] 24,.gone,.gone,.gone,.cells [.s (.int .i64),.s .str,.s (.int .i64),.s .str] 97,.cells [.s (.int .i64),.s .str] 95,.cells [.s (.int .i64),.s .str] 95]⟩
def o1(v0:List ByteArray)(v2:Bool)(v3 v4:ByteArray)(v5:Int)(v6:ByteArray)(v7:Int)(v8:ByteArray)(v9:Int)(v10:ByteArray)(y:(Int×ByteArray×Unit)×Unit):Alt:=.one (.exit 2) (xh1.b (v2,v3,v4,v5,v6,v7,v8,v9,v10,y.1.1,y.1.2.1,()))
def r2{ρ:Type}(lf:Nat)(v0:List ByteArray)(v2:Bool)(v3 v4:ByteArray)(v5:Bool)(v6 v7:ByteArray)(v8:Bool)(v9 v10:ByteArray)(v11:List TI)(v12:Int)(v13:ByteArray)(v14:Int)(v15:ByteArray)(v16:Int)(v17:ByteArray)(v18:Int)(v19:ByteArray)(v1 v20:Int)(v21:ByteArray)(K:Int→Int→ByteArray→Option ρ)(E0:Int→ByteArray→Option ρ):Option ρ :=
 br (decide (v1≥0)) (
 bd (idxL v0 v1) fun y29 =>
 bd (interval_finite.f lf y29) fun r30 =>
 bd (interval_compare.f lf r30.1 (v18,v19,())) fun r31 =>
 br (decide (r31.1≥0)) (
 K (i64.wrap (v1-1)) r30.1.1 r30.1.2.1) (
 K (i64.wrap (v1-1)) v20 v21)) (
 E0 v20 v21)
def l2(lf:Nat)(v0:List ByteArray)(v2:Bool)(v3 v4:ByteArray)(v5:Bool)(v6 v7:ByteArray)(v8:Bool)(v9 v10:ByteArray)(v11:List TI)(v12:Int)(v13:ByteArray)(v14:Int)(v15:ByteArray)(v16:Int)(v17:ByteArray)(v18:Int)(v19:ByteArray):Nat→Int→Int→ByteArray→Option ((Int×ByteArray×Unit)×Unit)
 | 0,_,_,_=>none
 | n+1,v1,v20,v21=>r2 lf v0 v2 v3 v4 v5 v6 v7 v8 v9 v10 v11 v12 v13 v14 v15 v16 v17 v18 v19 v1 v20 v21 (l2 lf v0 v2 v3 v4 v5 v6 v7 v8 v9 v10 v11 v12 v13 v14 v15 v16 v17 v18 v19 n) (fun w0 w1=>some ((w0,w1,()),()))
def sh2:ShS:=⟨[.a 2,.s (.sl .str),.a 3,.s (.ptr 2 0),.a 5,.s (.ptr 6 0),.a 3,.s (.ptr 7 0),.s (.int .i64),.a 85],[.cells [.s .bool,.s .str,.s .str] 24,.cells [.s .bool,.s .str,.s .str] 24,.cells [.s .bool,.s .str,.s .str] 24,.row yI 24 false,.gone,.cells [.s (.int .i64),.s .str,.s (.int .i64),.s .str] 97,.cells [.s (.int .i64),.s .str,.s (.int .i64),.s .str] 97,.cells [.s (.int .i64),.s .str] 95]⟩
def S2(p:(List ByteArray)×Int×Bool×ByteArray×ByteArray×Bool×ByteArray×ByteArray×Bool×ByteArray×ByteArray×(List TI)×Int×ByteArray×Int×ByteArray×Int×ByteArray×Int×ByteArray×Int×ByteArray×Unit):St:=sh2.b p
def xh2:ShS:=⟨[.a 6,.s (.ptr 2 0),.a 5,.s (.ptr 6 0),.a 3,.s (.ptr 7 0),.a 86],[.cells [.s .bool,.s .str,.s .str] 24,.cells [.s .bool,.s .str,.s .str] 24,.cells [.s .bool,.s .str,.s .str] 24,.row yI 24 false,.gone,.cells [.s (.int .i64),.s .str,.s (.int .i64),.s .str] 97,.cells [.s (.int .i64),.s .str,.s (.int .i64),.s .str] 97,.cells [.s (.int .i64),.s .str] 95]⟩
def o2(v0:List ByteArray)(v2:Bool)(v3 v4:ByteArray)(v5:Bool)(v6 v7:ByteArray)(v8:Bool)(v9 v10:ByteArray)(v11:List TI)(v12:Int)(v13:ByteArray)(v14:Int)(v15:ByteArray)(v16:Int)(v17:ByteArray)(v18:Int)(v19:ByteArray)(y:(Int×ByteArray×Unit)×Unit):Alt:=.one (.exit 2) (xh2.b (v2,v3,v4,v5,v6,v7,v8,v9,v10,v11,v12,v13,v14,v15,v16,v17,v18,v19,y.1.1,y.1.2.1,()))
def tb(lf:Nat):List (FuncId×Entry):=[(80,interval_Check.E lf),(81,interval_of.E lf),(82,interval_span_interval.E lf),(83,interval_span_hull.E lf),(117,interval_finite.E lf),(118,interval_compare.E lf),(128,interval_ascending.E lf),(129,interval_span_empty.E lf),(130,interval_infinite.E lf)]
def s13_68(lf:Nat):List (Nat×(St→Option LTE)):=[(0,sumE sh0 fun(p:(List ByteArray)×(List ByteArray)×Int×Int×Bool×ByteArray×ByteArray×Int×ByteArray×Int×ByteArray×Int×ByteArray×Int×ByteArray×Int×ByteArray×Unit)=>⟨(Int×ByteArray×Unit)×Unit,l0 lf p.1 p.2.1 p.2.2.1 p.2.2.2.2.1 p.2.2.2.2.2.1 p.2.2.2.2.2.2.1 p.2.2.2.2.2.2.2.1 p.2.2.2.2.2.2.2.2.1 p.2.2.2.2.2.2.2.2.2.1 p.2.2.2.2.2.2.2.2.2.2.1 p.2.2.2.2.2.2.2.2.2.2.2.1 p.2.2.2.2.2.2.2.2.2.2.2.2.1 p.2.2.2.2.2.2.2.2.2.2.2.2.2.1 p.2.2.2.2.2.2.2.2.2.2.2.2.2.2.1 (lf+40) p.2.2.2.1 p.2.2.2.2.2.2.2.2.2.2.2.2.2.2.2.1 p.2.2.2.2.2.2.2.2.2.2.2.2.2.2.2.2.1,o0 p.1 p.2.1 p.2.2.1 p.2.2.2.2.1 p.2.2.2.2.2.1 p.2.2.2.2.2.2.1 p.2.2.2.2.2.2.2.1 p.2.2.2.2.2.2.2.2.1 p.2.2.2.2.2.2.2.2.2.1 p.2.2.2.2.2.2.2.2.2.2.1 p.2.2.2.2.2.2.2.2.2.2.2.1 p.2.2.2.2.2.2.2.2.2.2.2.2.1 p.2.2.2.2.2.2.2.2.2.2.2.2.2.1 p.2.2.2.2.2.2.2.2.2.2.2.2.2.2.1⟩),
 (1,sumE sh1 fun(p:(List ByteArray)×Int×Bool×ByteArray×ByteArray×Int×ByteArray×Int×ByteArray×Int×ByteArray×Int×ByteArray×Unit)=>⟨(Int×ByteArray×Unit)×Unit,l1 lf p.1 p.2.2.1 p.2.2.2.1 p.2.2.2.2.1 p.2.2.2.2.2.1 p.2.2.2.2.2.2.1 p.2.2.2.2.2.2.2.1 p.2.2.2.2.2.2.2.2.1 p.2.2.2.2.2.2.2.2.2.1 p.2.2.2.2.2.2.2.2.2.2.1 (lf+40) p.2.1 p.2.2.2.2.2.2.2.2.2.2.2.1 p.2.2.2.2.2.2.2.2.2.2.2.2.1,o1 p.1 p.2.2.1 p.2.2.2.1 p.2.2.2.2.1 p.2.2.2.2.2.1 p.2.2.2.2.2.2.1 p.2.2.2.2.2.2.2.1 p.2.2.2.2.2.2.2.2.1 p.2.2.2.2.2.2.2.2.2.1 p.2.2.2.2.2.2.2.2.2.2.1⟩),
 (1,sumE sh2 fun(p:(List ByteArray)×Int×Bool×ByteArray×ByteArray×Bool×ByteArray×ByteArray×Bool×ByteArray×ByteArray×(List TI)×Int×ByteArray×Int×ByteArray×Int×ByteArray×Int×ByteArray×Int×ByteArray×Unit)=>⟨(Int×ByteArray×Unit)×Unit,l2 lf p.1 p.2.2.1 p.2.2.2.1 p.2.2.2.2.1 p.2.2.2.2.2.1 p.2.2.2.2.2.2.1 p.2.2.2.2.2.2.2.1 p.2.2.2.2.2.2.2.2.1 p.2.2.2.2.2.2.2.2.2.1 p.2.2.2.2.2.2.2.2.2.2.1 p.2.2.2.2.2.2.2.2.2.2.2.1 p.2.2.2.2.2.2.2.2.2.2.2.2.1 p.2.2.2.2.2.2.2.2.2.2.2.2.2.1 p.2.2.2.2.2.2.2.2.2.2.2.2.2.2.1 p.2.2.2.2.2.2.2.2.2.2.2.2.2.2.2.1 p.2.2.2.2.2.2.2.2.2.2.2.2.2.2.2.2.1 p.2.2.2.2.2.2.2.2.2.2.2.2.2.2.2.2.2.1 p.2.2.2.2.2.2.2.2.2.2.2.2.2.2.2.2.2.2.1 p.2.2.2.2.2.2.2.2.2.2.2.2.2.2.2.2.2.2.2.1 (lf+40) p.2.1 p.2.2.2.2.2.2.2.2.2.2.2.2.2.2.2.2.2.2.2.2.1 p.2.2.2.2.2.2.2.2.2.2.2.2.2.2.2.2.2.2.2.2.2.1,o2 p.1 p.2.2.1 p.2.2.2.1 p.2.2.2.2.1 p.2.2.2.2.2.1 p.2.2.2.2.2.2.1 p.2.2.2.2.2.2.2.1 p.2.2.2.2.2.2.2.2.1 p.2.2.2.2.2.2.2.2.2.1 p.2.2.2.2.2.2.2.2.2.2.1 p.2.2.2.2.2.2.2.2.2.2.2.1 p.2.2.2.2.2.2.2.2.2.2.2.2.1 p.2.2.2.2.2.2.2.2.2.2.2.2.2.1 p.2.2.2.2.2.2.2.2.2.2.2.2.2.2.1 p.2.2.2.2.2.2.2.2.2.2.2.2.2.2.2.1 p.2.2.2.2.2.2.2.2.2.2.2.2.2.2.2.2.1 p.2.2.2.2.2.2.2.2.2.2.2.2.2.2.2.2.2.1 p.2.2.2.2.2.2.2.2.2.2.2.2.2.2.2.2.2.2.1 p.2.2.2.2.2.2.2.2.2.2.2.2.2.2.2.2.2.2.2.1⟩)]
def ls(lf:Nat):List (Nat×FuncId×Sums):=[(13,68,sumsL (s13_68 lf))]
def it0{ρ:Type}(lf n:Nat)(st:St)(k:KE ρ):Option ρ:=itG anns (ls lf) (tb lf) lf 13 68 0 8 (sumsL (s13_68 lf)) n st k
theorem t0{ρ:Type}(lf n:Nat)(v0 v1:List ByteArray)(v2 v3:Int)(v4:Bool)(v5 v6:ByteArray)(v7:Int)(v8:ByteArray)(v9:Int)(v10:ByteArray)(v11:Int)(v12:ByteArray)(v13:Int)(v14:ByteArray)(v15:Int)(v16:ByteArray)(k:KE ρ):it0 lf (n+1) (S0 (v0,v1,v2,v3,v4,v5,v6,v7,v8,v9,v10,v11,v12,v13,v14,v15,v16,())) k=r0 lf v0 v1 v2 v4 v5 v6 v7 v8 v9 v10 v11 v12 v13 v14 v3 v15 v16 (fun x0 x1 x2=>it0 lf n (S0 (v0,v1,v2,x0,v4,v5,v6,v7,v8,v9,v10,v11,v12,v13,v14,x1,x2,())) k) (fun w0 w1=>k (.exit 0) (xh0.b (v0,v4,v5,v6,v7,v8,v9,v10,v11,v12,v13,v14,w0,w1,()))):=by kernel_rfl
theorem u0{ρ:Type}(lf:Nat)(v0 v1:List ByteArray)(v2:Int)(v4:Bool)(v5 v6:ByteArray)(v7:Int)(v8:ByteArray)(v9:Int)(v10:ByteArray)(v11:Int)(v12:ByteArray)(v13:Int)(v14:ByteArray)(k:KE ρ):∀ (n:Nat) (v3 v15:Int) (v16:ByteArray),it0 lf n (S0 (v0,v1,v2,v3,v4,v5,v6,v7,v8,v9,v10,v11,v12,v13,v14,v15,v16,())) k=bd (l0 lf v0 v1 v2 v4 v5 v6 v7 v8 v9 v10 v11 v12 v13 v14 n v3 v15 v16) fun y=>altK k (o0 v0 v1 v2 v4 v5 v6 v7 v8 v9 v10 v11 v12 v13 v14 y)
 | 0,_,_,_=>by rw[l0,bd_none];rfl
 | n+1,v3,v15,v16=>by
  rw[t0];simp only[l0,r0,u0 lf v0 v1 v2 v4 v5 v6 v7 v8 v9 v10 v11 v12 v13 v14 k n,bd_br,bd_bd,bd_some',bd_none,br_t,br_f,o0,altK]
def it1{ρ:Type}(lf n:Nat)(st:St)(k:KE ρ):Option ρ:=itG anns (ls lf) (tb lf) lf 13 68 1 9 (sumsL (s13_68 lf)) n st k
theorem t1{ρ:Type}(lf n:Nat)(v0:List ByteArray)(v1:Int)(v2:Bool)(v3 v4:ByteArray)(v5:Int)(v6:ByteArray)(v7:Int)(v8:ByteArray)(v9:Int)(v10:ByteArray)(v11:Int)(v12:ByteArray)(k:KE ρ):it1 lf (n+1) (S1 (v0,v1,v2,v3,v4,v5,v6,v7,v8,v9,v10,v11,v12,())) k=r1 lf v0 v2 v3 v4 v5 v6 v7 v8 v9 v10 v1 v11 v12 (fun x0 x1 x2=>it1 lf n (S1 (v0,x0,v2,v3,v4,v5,v6,v7,v8,v9,v10,x1,x2,())) k) (fun w0 w1=>k (.exit 2) (xh1.b (v2,v3,v4,v5,v6,v7,v8,v9,v10,w0,w1,()))):=by kernel_rfl
theorem u1{ρ:Type}(lf:Nat)(v0:List ByteArray)(v2:Bool)(v3 v4:ByteArray)(v5:Int)(v6:ByteArray)(v7:Int)(v8:ByteArray)(v9:Int)(v10:ByteArray)(k:KE ρ):∀ (n:Nat) (v1 v11:Int) (v12:ByteArray),it1 lf n (S1 (v0,v1,v2,v3,v4,v5,v6,v7,v8,v9,v10,v11,v12,())) k=bd (l1 lf v0 v2 v3 v4 v5 v6 v7 v8 v9 v10 n v1 v11 v12) fun y=>altK k (o1 v0 v2 v3 v4 v5 v6 v7 v8 v9 v10 y)
 | 0,_,_,_=>by rw[l1,bd_none];rfl
 | n+1,v1,v11,v12=>by
  rw[t1];simp only[l1,r1,u1 lf v0 v2 v3 v4 v5 v6 v7 v8 v9 v10 k n,bd_br,bd_bd,bd_some',bd_none,br_t,br_f,o1,altK]
def it2{ρ:Type}(lf n:Nat)(st:St)(k:KE ρ):Option ρ:=itG anns (ls lf) (tb lf) lf 13 68 1 8 (sumsL (s13_68 lf)) n st k
theorem t2{ρ:Type}(lf n:Nat)(v0:List ByteArray)(v1:Int)(v2:Bool)(v3 v4:ByteArray)(v5:Bool)(v6 v7:ByteArray)(v8:Bool)(v9 v10:ByteArray)(v11:List TI)(v12:Int)(v13:ByteArray)(v14:Int)(v15:ByteArray)(v16:Int)(v17:ByteArray)(v18:Int)(v19:ByteArray)(v20:Int)(v21:ByteArray)(k:KE ρ):it2 lf (n+1) (S2 (v0,v1,v2,v3,v4,v5,v6,v7,v8,v9,v10,v11,v12,v13,v14,v15,v16,v17,v18,v19,v20,v21,())) k=r2 lf v0 v2 v3 v4 v5 v6 v7 v8 v9 v10 v11 v12 v13 v14 v15 v16 v17 v18 v19 v1 v20 v21 (fun x0 x1 x2=>it2 lf n (S2 (v0,x0,v2,v3,v4,v5,v6,v7,v8,v9,v10,v11,v12,v13,v14,v15,v16,v17,v18,v19,x1,x2,())) k) (fun w0 w1=>k (.exit 2) (xh2.b (v2,v3,v4,v5,v6,v7,v8,v9,v10,v11,v12,v13,v14,v15,v16,v17,v18,v19,w0,w1,()))):=by kernel_rfl
theorem u2{ρ:Type}(lf:Nat)(v0:List ByteArray)(v2:Bool)(v3 v4:ByteArray)(v5:Bool)(v6 v7:ByteArray)(v8:Bool)(v9 v10:ByteArray)(v11:List TI)(v12:Int)(v13:ByteArray)(v14:Int)(v15:ByteArray)(v16:Int)(v17:ByteArray)(v18:Int)(v19:ByteArray)(k:KE ρ):∀ (n:Nat) (v1 v20:Int) (v21:ByteArray),it2 lf n (S2 (v0,v1,v2,v3,v4,v5,v6,v7,v8,v9,v10,v11,v12,v13,v14,v15,v16,v17,v18,v19,v20,v21,())) k=bd (l2 lf v0 v2 v3 v4 v5 v6 v7 v8 v9 v10 v11 v12 v13 v14 v15 v16 v17 v18 v19 n v1 v20 v21) fun y=>altK k (o2 v0 v2 v3 v4 v5 v6 v7 v8 v9 v10 v11 v12 v13 v14 v15 v16 v17 v18 v19 y)
 | 0,_,_,_=>by rw[l2,bd_none];rfl
 | n+1,v1,v20,v21=>by
  rw[t2];simp only[l2,r2,u2 lf v0 v2 v3 v4 v5 v6 v7 v8 v9 v10 v11 v12 v13 v14 v15 v16 v17 v18 v19 k n,bd_br,bd_bd,bd_some',bd_none,br_t,br_f,o2,altK]
theorem sl(lf:Nat):SL anns (ls lf) (tb lf) lf (ls lf):=slC (laC (fun _=>by kernel_rfl) (fun _ (x:(List ByteArray)×(List ByteArray)×Int×Int×Bool×ByteArray×ByteArray×Int×ByteArray×Int×ByteArray×Int×ByteArray×Int×ByteArray×Int×ByteArray×Unit) k=>leq_of (u0 lf x.1 x.2.1 x.2.2.1 x.2.2.2.2.1 x.2.2.2.2.2.1 x.2.2.2.2.2.2.1 x.2.2.2.2.2.2.2.1 x.2.2.2.2.2.2.2.2.1 x.2.2.2.2.2.2.2.2.2.1 x.2.2.2.2.2.2.2.2.2.2.1 x.2.2.2.2.2.2.2.2.2.2.2.1 x.2.2.2.2.2.2.2.2.2.2.2.2.1 x.2.2.2.2.2.2.2.2.2.2.2.2.2.1 x.2.2.2.2.2.2.2.2.2.2.2.2.2.2.1 k (lf+40) x.2.2.2.1 x.2.2.2.2.2.2.2.2.2.2.2.2.2.2.2.1 x.2.2.2.2.2.2.2.2.2.2.2.2.2.2.2.2.1)) (laC (fun _=>by kernel_rfl) (fun _ (x:(List ByteArray)×Int×Bool×ByteArray×ByteArray×Int×ByteArray×Int×ByteArray×Int×ByteArray×Int×ByteArray×Unit) k=>leq_of (u1 lf x.1 x.2.2.1 x.2.2.2.1 x.2.2.2.2.1 x.2.2.2.2.2.1 x.2.2.2.2.2.2.1 x.2.2.2.2.2.2.2.1 x.2.2.2.2.2.2.2.2.1 x.2.2.2.2.2.2.2.2.2.1 x.2.2.2.2.2.2.2.2.2.2.1 k (lf+40) x.2.1 x.2.2.2.2.2.2.2.2.2.2.2.1 x.2.2.2.2.2.2.2.2.2.2.2.2.1)) (laC (fun _=>by kernel_rfl) (fun _ (x:(List ByteArray)×Int×Bool×ByteArray×ByteArray×Bool×ByteArray×ByteArray×Bool×ByteArray×ByteArray×(List TI)×Int×ByteArray×Int×ByteArray×Int×ByteArray×Int×ByteArray×Int×ByteArray×Unit) k=>leq_of (u2 lf x.1 x.2.2.1 x.2.2.2.1 x.2.2.2.2.1 x.2.2.2.2.2.1 x.2.2.2.2.2.2.1 x.2.2.2.2.2.2.2.1 x.2.2.2.2.2.2.2.2.1 x.2.2.2.2.2.2.2.2.2.1 x.2.2.2.2.2.2.2.2.2.2.1 x.2.2.2.2.2.2.2.2.2.2.2.1 x.2.2.2.2.2.2.2.2.2.2.2.2.1 x.2.2.2.2.2.2.2.2.2.2.2.2.2.1 x.2.2.2.2.2.2.2.2.2.2.2.2.2.2.1 x.2.2.2.2.2.2.2.2.2.2.2.2.2.2.2.1 x.2.2.2.2.2.2.2.2.2.2.2.2.2.2.2.2.1 x.2.2.2.2.2.2.2.2.2.2.2.2.2.2.2.2.2.1 x.2.2.2.2.2.2.2.2.2.2.2.2.2.2.2.2.2.2.1 x.2.2.2.2.2.2.2.2.2.2.2.2.2.2.2.2.2.2.2.1 k (lf+40) x.2.1 x.2.2.2.2.2.2.2.2.2.2.2.2.2.2.2.2.2.2.2.2.1 x.2.2.2.2.2.2.2.2.2.2.2.2.2.2.2.2.2.2.2.2.2.1)) laN))) slN
def f(lf:Nat)(a0:TI)(a1:TI)(a2:List ByteArray):Option (TI×Int×Unit) :=
 bd (interval_Check.f lf a0) fun r1 =>
 br (r1.1 != 0) (
 br (r1.1 != 0) (
 some ((false,(⟨#[]⟩:ByteArray),(⟨#[]⟩:ByteArray),()),r1.1,())) (
 bd (interval_ascending.f lf a2) fun r2 =>
 br (r2.1 != 0) (
 some ((false,(⟨#[]⟩:ByteArray),(⟨#[]⟩:ByteArray),()),r2.1,())) (
 bd (interval_of.f lf a0) fun r3 =>
 bd (interval_of.f lf a1) fun r4 =>
 bd (interval_span_empty.f lf r3.1) fun r5 =>
 br r5.1 (
 bd (interval_span_hull.f lf r3.1 r4.1) fun r6 =>
 bd (interval_span_interval.f lf r6.1) fun r7 =>
 some (r7.1,0,())) (
 bd (interval_span_empty.f lf r4.1) fun r8 =>
 br r8.1 (
 bd (interval_span_hull.f lf r3.1 r4.1) fun r9 =>
 bd (interval_span_interval.f lf r9.1) fun r10 =>
 some (r10.1,0,())) (
 bd (interval_span_hull.f lf r3.1 r4.1) fun r11 =>
 bd (interval_compare.f lf r11.1.1 r3.1.1) fun r12 =>
 br (r12.1 != 0) (
 bd (interval_infinite.f lf (-1)) fun r13 =>
 bd (l0 lf a2 a2 ((a2.length:Nat):Int) false (⟨#[]⟩:ByteArray) (⟨#[]⟩:ByteArray) r3.1.1.1 r3.1.1.2.1 r3.1.2.1.1 r3.1.2.1.2.1 r11.1.1.1 r11.1.1.2.1 r11.1.2.1.1 r11.1.2.1.2.1 (lf+40) 0 r13.1.1 r13.1.2.1) fun z18 =>
 bd (interval_compare.f lf r11.1.2.1 r3.1.2.1) fun r19 =>
 br (r19.1 != 0) (
 bd (interval_infinite.f lf 1) fun r20 =>
 bd (l1 lf a2 false (⟨#[]⟩:ByteArray) (⟨#[]⟩:ByteArray) z18.1.1 z18.1.2.1 r11.1.2.1.1 r11.1.2.1.2.1 z18.1.1 z18.1.2.1 (lf+40) (i64.wrap (((a2.length:Nat):Int)-1)) r20.1.1 r20.1.2.1) fun z24 =>
 bd (interval_span_interval.f lf (z18.1,z24.1,())) fun r25 =>
 some (r25.1,0,())) (
 bd (interval_span_interval.f lf (z18.1,r11.1.2.1,())) fun r26 =>
 some (r26.1,0,()))) (
 bd (interval_compare.f lf r11.1.2.1 r3.1.2.1) fun r27 =>
 br (r27.1 != 0) (
 bd (interval_infinite.f lf 1) fun r28 =>
 bd (l2 lf a2 a0.1 a0.2.1 a0.2.2.1 a1.1 a1.2.1 a1.2.2.1 false (⟨#[]⟩:ByteArray) (⟨#[]⟩:ByteArray) [a0,a1] r4.1.1.1 r4.1.1.2.1 r4.1.2.1.1 r4.1.2.1.2.1 r11.1.1.1 r11.1.1.2.1 r11.1.2.1.1 r11.1.2.1.2.1 (lf+40) (i64.wrap (((a2.length:Nat):Int)-1)) r28.1.1 r28.1.2.1) fun z32 =>
 bd (interval_span_interval.f lf (r11.1.1,z32.1,())) fun r33 =>
 some (r33.1,0,())) (
 bd (interval_span_interval.f lf r11.1) fun r34 =>
 some (r34.1,0,())))))))) (
 bd (interval_Check.f lf a1) fun r35 =>
 br (r35.1 != 0) (
 br (r35.1 != 0) (
 some ((false,(⟨#[]⟩:ByteArray),(⟨#[]⟩:ByteArray),()),r35.1,())) (
 bd (interval_ascending.f lf a2) fun r36 =>
 br (r36.1 != 0) (
 some ((false,(⟨#[]⟩:ByteArray),(⟨#[]⟩:ByteArray),()),r36.1,())) (
 bd (interval_of.f lf a0) fun r37 =>
 bd (interval_of.f lf a1) fun r38 =>
 bd (interval_span_empty.f lf r37.1) fun r39 =>
 br r39.1 (
 bd (interval_span_hull.f lf r37.1 r38.1) fun r40 =>
 bd (interval_span_interval.f lf r40.1) fun r41 =>
 some (r41.1,0,())) (
 bd (interval_span_empty.f lf r38.1) fun r42 =>
 br r42.1 (
 bd (interval_span_hull.f lf r37.1 r38.1) fun r43 =>
 bd (interval_span_interval.f lf r43.1) fun r44 =>
 some (r44.1,0,())) (
 bd (interval_span_hull.f lf r37.1 r38.1) fun r45 =>
 bd (interval_compare.f lf r45.1.1 r37.1.1) fun r46 =>
 br (r46.1 != 0) (
 bd (interval_infinite.f lf (-1)) fun r47 =>
 bd (l0 lf a2 a2 ((a2.length:Nat):Int) false (⟨#[]⟩:ByteArray) (⟨#[]⟩:ByteArray) r37.1.1.1 r37.1.1.2.1 r37.1.2.1.1 r37.1.2.1.2.1 r45.1.1.1 r45.1.1.2.1 r45.1.2.1.1 r45.1.2.1.2.1 (lf+40) 0 r47.1.1 r47.1.2.1) fun z48 =>
 bd (interval_compare.f lf r45.1.2.1 r37.1.2.1) fun r49 =>
 br (r49.1 != 0) (
 bd (interval_infinite.f lf 1) fun r50 =>
 bd (l1 lf a2 false (⟨#[]⟩:ByteArray) (⟨#[]⟩:ByteArray) z48.1.1 z48.1.2.1 r45.1.2.1.1 r45.1.2.1.2.1 z48.1.1 z48.1.2.1 (lf+40) (i64.wrap (((a2.length:Nat):Int)-1)) r50.1.1 r50.1.2.1) fun z51 =>
 bd (interval_span_interval.f lf (z48.1,z51.1,())) fun r52 =>
 some (r52.1,0,())) (
 bd (interval_span_interval.f lf (z48.1,r45.1.2.1,())) fun r53 =>
 some (r53.1,0,()))) (
 bd (interval_compare.f lf r45.1.2.1 r37.1.2.1) fun r54 =>
 br (r54.1 != 0) (
 bd (interval_infinite.f lf 1) fun r55 =>
 bd (l2 lf a2 a0.1 a0.2.1 a0.2.2.1 a1.1 a1.2.1 a1.2.2.1 false (⟨#[]⟩:ByteArray) (⟨#[]⟩:ByteArray) [a0,a1] r38.1.1.1 r38.1.1.2.1 r38.1.2.1.1 r38.1.2.1.2.1 r45.1.1.1 r45.1.1.2.1 r45.1.2.1.1 r45.1.2.1.2.1 (lf+40) (i64.wrap (((a2.length:Nat):Int)-1)) r55.1.1 r55.1.2.1) fun z56 =>
 bd (interval_span_interval.f lf (r45.1.1,z56.1,())) fun r57 =>
 some (r57.1,0,())) (
 bd (interval_span_interval.f lf r45.1) fun r58 =>
 some (r58.1,0,())))))))) (
 bd (interval_ascending.f lf a2) fun r59 =>
 br (r59.1 != 0) (
 some ((false,(⟨#[]⟩:ByteArray),(⟨#[]⟩:ByteArray),()),r59.1,())) (
 bd (interval_of.f lf a0) fun r60 =>
 bd (interval_of.f lf a1) fun r61 =>
 bd (interval_span_empty.f lf r60.1) fun r62 =>
 br r62.1 (
 bd (interval_span_hull.f lf r60.1 r61.1) fun r63 =>
 bd (interval_span_interval.f lf r63.1) fun r64 =>
 some (r64.1,0,())) (
 bd (interval_span_empty.f lf r61.1) fun r65 =>
 br r65.1 (
 bd (interval_span_hull.f lf r60.1 r61.1) fun r66 =>
 bd (interval_span_interval.f lf r66.1) fun r67 =>
 some (r67.1,0,())) (
 bd (interval_span_hull.f lf r60.1 r61.1) fun r68 =>
 bd (interval_compare.f lf r68.1.1 r60.1.1) fun r69 =>
 br (r69.1 != 0) (
 bd (interval_infinite.f lf (-1)) fun r70 =>
 bd (l0 lf a2 a2 ((a2.length:Nat):Int) false (⟨#[]⟩:ByteArray) (⟨#[]⟩:ByteArray) r60.1.1.1 r60.1.1.2.1 r60.1.2.1.1 r60.1.2.1.2.1 r68.1.1.1 r68.1.1.2.1 r68.1.2.1.1 r68.1.2.1.2.1 (lf+40) 0 r70.1.1 r70.1.2.1) fun z71 =>
 bd (interval_compare.f lf r68.1.2.1 r60.1.2.1) fun r72 =>
 br (r72.1 != 0) (
 bd (interval_infinite.f lf 1) fun r73 =>
 bd (l1 lf a2 false (⟨#[]⟩:ByteArray) (⟨#[]⟩:ByteArray) z71.1.1 z71.1.2.1 r68.1.2.1.1 r68.1.2.1.2.1 z71.1.1 z71.1.2.1 (lf+40) (i64.wrap (((a2.length:Nat):Int)-1)) r73.1.1 r73.1.2.1) fun z74 =>
 bd (interval_span_interval.f lf (z71.1,z74.1,())) fun r75 =>
 some (r75.1,0,())) (
 bd (interval_span_interval.f lf (z71.1,r68.1.2.1,())) fun r76 =>
 some (r76.1,0,()))) (
 bd (interval_compare.f lf r68.1.2.1 r60.1.2.1) fun r77 =>
 br (r77.1 != 0) (
 bd (interval_infinite.f lf 1) fun r78 =>
 bd (l2 lf a2 a0.1 a0.2.1 a0.2.2.1 a1.1 a1.2.1 a1.2.2.1 false (⟨#[]⟩:ByteArray) (⟨#[]⟩:ByteArray) [a0,a1] r61.1.1.1 r61.1.1.2.1 r61.1.2.1.1 r61.1.2.1.2.1 r68.1.1.1 r68.1.1.2.1 r68.1.2.1.1 r68.1.2.1.2.1 (lf+40) (i64.wrap (((a2.length:Nat):Int)-1)) r78.1.1 r78.1.2.1) fun z79 =>
 bd (interval_span_interval.f lf (r68.1.1,z79.1,())) fun r80 =>
 some (r80.1,0,())) (
 bd (interval_span_interval.f lf r68.1) fun r81 =>
 some (r81.1,0,()))))))))
def E(lf:Nat):Entry:=⟨[yI,yI,(.sl .str)],[yI,(.int .i64)],fun x=>f lf x.1 x.2.1 x.2.2.1⟩
theorem ok(lf:Nat):Ok 68 (E lf):=okL (tC (interval_Check.ok lf) (tC (interval_of.ok lf) (tC (interval_span_interval.ok lf) (tC (interval_span_hull.ok lf) (tC (interval_finite.ok lf) (tC (interval_compare.ok lf) (tC (interval_ascending.ok lf) (tC (interval_span_empty.ok lf) (tC (interval_infinite.ok lf) tN))))))))) (aoC aoN) (sl lf) fun x=>by kernel_rfl
end interval_Widen
end
end Go.Q
namespace Go.Q
open Go Go.RowKit
open Go.Rx (br bd sIdx sCat sCut iQuo iRem)
noncomputable section
namespace interval_Neg
def f(lf:Nat)(a0:TI):Option (TI×Int×Unit) :=
 bd (interval_Check.f lf a0) fun r1 =>
 br (r1.1 != 0) (
 some ((false,(⟨#[]⟩:ByteArray),(⟨#[]⟩:ByteArray),()),r1.1,())) (
 bd (interval_of.f lf a0) fun r2 =>
 bd (interval_span_turned.f lf r2.1) fun r3 =>
 bd (interval_span_interval.f lf r3.1) fun r4 =>
 some (r4.1,0,()))
def E(lf:Nat):Entry:=⟨[yI],[yI,(.int .i64)],fun x=>f lf x.1⟩
theorem ok(lf:Nat):Ok 26 (E lf):=okT (an:=(annsL [])) (lf:=lf) (tC (interval_span_turned.ok lf) (tC (interval_Check.ok lf) (tC (interval_of.ok lf) (tC (interval_span_interval.ok lf) tN)))) aoN fun x=>by kernel_rfl
end interval_Neg
namespace interval_Join
def f(lf:Nat)(a0:TI)(a1:TI):Option (TI×Int×Unit) :=
 bd (interval_Check.f lf a0) fun r1 =>
 br (r1.1 != 0) (
 br (r1.1 != 0) (
 some ((false,(⟨#[]⟩:ByteArray),(⟨#[]⟩:ByteArray),()),r1.1,())) (
 bd (interval_of.f lf a0) fun r2 =>
 bd (interval_of.f lf a1) fun r3 =>
 bd (interval_span_hull.f lf r2.1 r3.1) fun r4 =>
 bd (interval_span_interval.f lf r4.1) fun r5 =>
 some (r5.1,0,()))) (
 bd (interval_Check.f lf a1) fun r6 =>
 br (r6.1 != 0) (
 br (r6.1 != 0) (
 some ((false,(⟨#[]⟩:ByteArray),(⟨#[]⟩:ByteArray),()),r6.1,())) (
 bd (interval_of.f lf a0) fun r7 =>
 bd (interval_of.f lf a1) fun r8 =>
 bd (interval_span_hull.f lf r7.1 r8.1) fun r9 =>
 bd (interval_span_interval.f lf r9.1) fun r10 =>
 some (r10.1,0,()))) (
 bd (interval_of.f lf a0) fun r11 =>
 bd (interval_of.f lf a1) fun r12 =>
 bd (interval_span_hull.f lf r11.1 r12.1) fun r13 =>
 bd (interval_span_interval.f lf r13.1) fun r14 =>
 some (r14.1,0,())))
def E(lf:Nat):Entry:=⟨[yI,yI],[yI,(.int .i64)],fun x=>f lf x.1 x.2.1⟩
theorem ok(lf:Nat):Ok 27 (E lf):=okT (an:=(annsL [])) (lf:=lf) (tC (interval_Check.ok lf) (tC (interval_of.ok lf) (tC (interval_span_interval.ok lf) (tC (interval_span_hull.ok lf) tN)))) aoN fun x=>by kernel_rfl
end interval_Join
end
end Go.Q
namespace Go.Q
open Go Go.RowKit
open Go.Rx (br bd sIdx sCat sCut iQuo iRem)
noncomputable section
namespace surveyorref21_Few
def f(lf:Nat)(a0:TI)(a1:TI):Option (Bool×Unit) :=
 br (decide (((a0.2.1.size:Nat):Int)≤450)) (
 br (decide (((a0.2.2.1.size:Nat):Int)≤450)) (
 br (decide (((a1.2.1.size:Nat):Int)≤450)) (
 some ((decide (((a1.2.2.1.size:Nat):Int)≤450)),())) (
 some (false,()))) (
 some (false,()))) (
 some (false,()))
def E(lf:Nat):Entry:=⟨[yI,yI],[.bool],fun x=>f lf x.1 x.2.1⟩
theorem ok(lf:Nat):Ok 87 (E lf):=okT (an:=(annsL [])) (lf:=lf) tN aoN fun x=>by kernel_rfl
end surveyorref21_Few
namespace surveyorref21_bound
def f(lf:Nat)(a0:ByteArray):Option (Int×Unit) :=
 br (a0.toList==(⟨#[]⟩:ByteArray).toList) (
 some (0,())) (
 bd (surveyorref06_Number.f lf a0) fun r1 =>
 some (r1.1,()))
def E(lf:Nat):Entry:=⟨[.str],[(.int .i64)],fun x=>f lf x.1⟩
theorem ok(lf:Nat):Ok 191 (E lf):=okT (an:=(annsL [])) (lf:=lf) (tC (surveyorref06_Number.ok lf) tN) aoN fun x=>by kernel_rfl
end surveyorref21_bound
namespace surveyorref21_Check
def f(lf:Nat)(a0:TI):Option (Int×Unit) :=
 br a0.1 (
 br (!(a0.2.1.toList==(⟨#[]⟩:ByteArray).toList)) (
 some (3,())) (
 br (!(a0.2.2.1.toList==(⟨#[]⟩:ByteArray).toList)) (
 some (3,())) (
 bd (surveyorref21_bound.f lf a0.2.1) fun r1 =>
 br (r1.1 != 0) (
 some (r1.1,())) (
 bd (surveyorref21_bound.f lf a0.2.2.1) fun r2 =>
 br (r2.1 != 0) (
 some (r2.1,())) (
 br (!(a0.2.1.toList==(⟨#[]⟩:ByteArray).toList)) (
 br (!(a0.2.2.1.toList==(⟨#[]⟩:ByteArray).toList)) (
 bd (surveyorref01_Less.f lf a0.2.2.1 a0.2.1) fun r3 =>
 br r3.1 (
 some (14,())) (
 some (0,()))) (
 some (0,()))) (
 some (0,()))))))) (
 bd (surveyorref21_bound.f lf a0.2.1) fun r4 =>
 br (r4.1 != 0) (
 some (r4.1,())) (
 bd (surveyorref21_bound.f lf a0.2.2.1) fun r5 =>
 br (r5.1 != 0) (
 some (r5.1,())) (
 br (!(a0.2.1.toList==(⟨#[]⟩:ByteArray).toList)) (
 br (!(a0.2.2.1.toList==(⟨#[]⟩:ByteArray).toList)) (
 bd (surveyorref01_Less.f lf a0.2.2.1 a0.2.1) fun r6 =>
 br r6.1 (
 some (14,())) (
 some (0,()))) (
 some (0,()))) (
 some (0,())))))
def E(lf:Nat):Entry:=⟨[yI],[(.int .i64)],fun x=>f lf x.1⟩
theorem ok(lf:Nat):Ok 153 (E lf):=okT (an:=(annsL [])) (lf:=lf) (tC (surveyorref01_Less.ok lf) (tC (surveyorref21_bound.ok lf) tN)) aoN fun x=>by kernel_rfl
end surveyorref21_Check
namespace surveyorref21_None
def f(lf:Nat)  : Option (TI×Unit) :=
 some ((true,(⟨#[]⟩:ByteArray),(⟨#[]⟩:ByteArray),()),())
def E(lf:Nat):Entry:=⟨[],[yI],fun x=>f lf⟩
theorem ok(lf:Nat):Ok 94 (E lf):=okT (an:=(annsL [])) (lf:=lf) tN aoN fun x=>by kernel_rfl
end surveyorref21_None
namespace surveyorref21_In
def f(lf:Nat)(a0:TI)(a1:ByteArray):Option (Bool×Unit) :=
 br (!a0.1) (
 br (a0.2.1.toList==(⟨#[]⟩:ByteArray).toList) (
 br (a0.2.2.1.toList==(⟨#[]⟩:ByteArray).toList) (
 some (true,())) (
 bd (surveyorref01_Less.f lf a0.2.2.1 a1) fun r1 =>
 some ((!r1.1),()))) (
 bd (surveyorref01_Less.f lf a1 a0.2.1) fun r2 =>
 br (!r2.1) (
 br (a0.2.2.1.toList==(⟨#[]⟩:ByteArray).toList) (
 some (true,())) (
 bd (surveyorref01_Less.f lf a0.2.2.1 a1) fun r3 =>
 some ((!r3.1),()))) (
 some (false,())))) (
 some (false,()))
def E(lf:Nat):Entry:=⟨[yI,.str],[.bool],fun x=>f lf x.1 x.2.1⟩
theorem ok(lf:Nat):Ok 91 (E lf):=okT (an:=(annsL [])) (lf:=lf) (tC (surveyorref01_Less.ok lf) tN) aoN fun x=>by kernel_rfl
end surveyorref21_In
namespace surveyorref21_clip
def f(lf:Nat)(a0:ByteArray):Option (ByteArray×Unit) :=
 br (!(a0.toList==(⟨#[]⟩:ByteArray).toList)) (
 bd (surveyorref01_Digits.f lf a0) fun r1 =>
 br (decide (r1.1 > 100)) (
 some ((⟨#[]⟩:ByteArray),())) (
 some (a0,()))) (
 some (a0,()))
def E(lf:Nat):Entry:=⟨[.str],[.str],fun x=>f lf x.1⟩
theorem ok(lf:Nat):Ok 231 (E lf):=okT (an:=(annsL [])) (lf:=lf) (tC (surveyorref01_Digits.ok lf) tN) aoN fun x=>by kernel_rfl
end surveyorref21_clip
namespace surveyorref21_Range
def f(lf:Nat)(a0:ByteArray)(a1:ByteArray):Option (TI×Unit) :=
 br (!(a0.toList==(⟨#[]⟩:ByteArray).toList)) (
 br (!(a1.toList==(⟨#[]⟩:ByteArray).toList)) (
 bd (surveyorref01_Less.f lf a1 a0) fun r1 =>
 br r1.1 (
 bd (surveyorref21_None.f lf) fun r2 =>
 some (r2.1,())) (
 bd (surveyorref21_clip.f lf a0) fun r3 =>
 bd (surveyorref21_clip.f lf a1) fun r4 =>
 some ((false,r3.1,r4.1,()),()))) (
 bd (surveyorref21_clip.f lf a0) fun r5 =>
 bd (surveyorref21_clip.f lf a1) fun r6 =>
 some ((false,r5.1,r6.1,()),()))) (
 bd (surveyorref21_clip.f lf a0) fun r7 =>
 bd (surveyorref21_clip.f lf a1) fun r8 =>
 some ((false,r7.1,r8.1,()),()))
def E(lf:Nat):Entry:=⟨[.str,.str],[yI],fun x=>f lf x.1 x.2.1⟩
theorem ok(lf:Nat):Ok 197 (E lf):=okT (an:=(annsL [])) (lf:=lf) (tC (surveyorref21_None.ok lf) (tC (surveyorref01_Less.ok lf) (tC (surveyorref21_clip.ok lf) tN))) aoN fun x=>by kernel_rfl
end surveyorref21_Range
end
end Go.Q
