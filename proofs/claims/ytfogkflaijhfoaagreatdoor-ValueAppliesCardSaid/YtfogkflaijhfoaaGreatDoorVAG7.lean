import Derived.Test.YtfogkflaijhfoaaGreatDoorProg
import Derived.KernelRfl
import Derived.Test.YtfogkflaijhfoaaGreatDoorVAE3
import Derived.Test.YtfogkflaijhfoaaGreatDoorVAG1
import Derived.Test.YtfogkflaijhfoaaGreatDoorVAG3
import Derived.Test.YtfogkflaijhfoaaGreatDoorVAG4
import Derived.Test.YtfogkflaijhfoaaGreatDoorVAG6
set_option linter.unusedVariables false
set_option linter.unusedSimpArgs false
set_option linter.unusedSectionVars false
set_option maxRecDepth 100000
namespace Go.Q
open Go Go.RowKit
open Go.Rx (br bd sIdx sCat sCut iQuo iRem)
noncomputable section
namespace fQ
def f(lf:Nat)(a0:TS):Option (Bool×Unit) :=
 br (a0.1.1==0) (
 br (a0.2.1.1==0) (
 some ((a0.1.2.1.toList==a0.2.1.2.1.toList),())) (
 some (false,()))) (
 some (false,()))
def E(lf:Nat):Entry:=⟨[yS],[.bool],fun x=>f lf x.1⟩
theorem ok(lf:Nat):Ok 293 (E lf):=okT (an:=(annsL [])) (lf:=lf) tN aoN fun x=>by kernel_rfl
end fQ
namespace mO
def f(lf:Nat)(a0:TS)(a1:ByteArray):Option (TS×Unit) :=
 bd (aW.f lf (⟨#[48]⟩:ByteArray)) fun r1 =>
 bd (jL.f lf a1 (⟨#[45,49]⟩:ByteArray)) fun r2 =>
 bd (aW.f lf r2.1) fun r3 =>
 br (a0.1.1 != 0) (
 some ((r1.1,r3.1,()),())) (
 br (a0.2.1.1 != 0) (
 some ((r1.1,r3.1,()),())) (
 bd (eF.f lf a0.1.2.1) fun r4 =>
 bd (jL.f lf a0.2.1.2.1 r4.1) fun r5 =>
 bd (dw.f lf r5.1 r3.1.2.1) fun r6 =>
 br (decide (r6.1≥0)) (
 some ((r1.1,r3.1,()),())) (
 bd (iR.f lf a0.1.2.1 a1) fun r7 =>
 bd (iR.f lf a0.2.1.2.1 a1) fun r8 =>
 bd (dw.f lf r7.1 r8.1) fun r9 =>
 br (decide (r9.1 > 0)) (
 some ((r1.1,r3.1,()),())) (
 bd (aW.f lf r7.1) fun r10 =>
 bd (aW.f lf r8.1) fun r11 =>
 some ((r10.1,r11.1,()),())))))
def E(lf:Nat):Entry:=⟨[yS,.str],[yS],fun x=>f lf x.1 x.2.1⟩
theorem ok(lf:Nat):Ok 294 (E lf):=okT (an:=(annsL [])) (lf:=lf) (tC (iR.ok lf) (tC (aW.ok lf) (tC (jL.ok lf) (tC (dw.ok lf) (tC (eF.ok lf) tN))))) aoN fun x=>by kernel_rfl
end mO
namespace bM
def f(lf:Nat)(a0:TX)(a1:ByteArray):Option (TX×Unit) :=
 br (a0.1 != 0) (
 some (a0,())) (
 bd (jL.f lf a0.2.1 a1) fun r1 =>
 bd (aW.f lf r1.1) fun r2 =>
 some (r2.1,()))
def E(lf:Nat):Entry:=⟨[yX,.str],[yX],fun x=>f lf x.1 x.2.1⟩
theorem ok(lf:Nat):Ok 295 (E lf):=okT (an:=(annsL [])) (lf:=lf) (tC (aW.ok lf) (tC (jL.ok lf) tN)) aoN fun x=>by kernel_rfl
end bM
namespace dh
def f(lf:Nat)(a0:TS)(a1:TS):Option (TS×Unit) :=
 bd (fQ.f lf a1) fun r1 =>
 br r1.1 (
 bd (mO.f lf a0 a1.1.2.1) fun r2 =>
 some (r2.1,())) (
 bd (ja.f lf a0.1) fun r3 =>
 br (decide (r3.1≥0)) (
 bd (dP.f lf a0.2.1 a1.1) fun r4 =>
 br (decide (r4.1 < 0)) (
 some (a0,())) (
 bd (bM.f lf a1.2.1 (⟨#[45,49]⟩:ByteArray)) fun r5 =>
 bd (ja.f lf a0.1) fun r6 =>
 br (decide (r6.1≥0)) (
 bd (dW.f lf r5.1 a0.2.1) fun r7 =>
 bd (aW.f lf (⟨#[48]⟩:ByteArray)) fun r8 =>
 some ((r8.1,r7.1,()),())) (
 bd (aW.f lf (⟨#[48]⟩:ByteArray)) fun r9 =>
 some ((r9.1,r5.1,()),())))) (
 bd (bM.f lf a1.2.1 (⟨#[45,49]⟩:ByteArray)) fun r10 =>
 bd (ja.f lf a0.1) fun r11 =>
 br (decide (r11.1≥0)) (
 bd (dW.f lf r10.1 a0.2.1) fun r12 =>
 bd (aW.f lf (⟨#[48]⟩:ByteArray)) fun r13 =>
 some ((r13.1,r12.1,()),())) (
 bd (aW.f lf (⟨#[48]⟩:ByteArray)) fun r14 =>
 some ((r14.1,r10.1,()),()))))
def E(lf:Nat):Entry:=⟨[yS,yS],[yS],fun x=>f lf x.1 x.2.1⟩
theorem ok(lf:Nat):Ok 214 (E lf):=okT (an:=(annsL [])) (lf:=lf) (tC (aW.ok lf) (tC (dP.ok lf) (tC (ja.ok lf) (tC (dW.ok lf) (tC (fQ.ok lf) (tC (mO.ok lf) (tC (bM.ok lf) tN))))))) aoN fun x=>by kernel_rfl
end dh
namespace rG
def f(lf:Nat)(a0:TI)(a1:TI):Option (TI×Int×Unit) :=
 bd (aY.f lf a0) fun r1 =>
 br (r1.1 != 0) (
 br (r1.1 != 0) (
 some ((false,(⟨#[]⟩:ByteArray),(⟨#[]⟩:ByteArray),()),r1.1,())) (
 bd (aK.f lf a0) fun r2 =>
 bd (aK.f lf a1) fun r3 =>
 bd (au.f lf) fun r4 =>
 bd (aI.f lf r3.1) fun r5 =>
 bd (ah.f lf r5.1) fun r6 =>
 br (!r6.1) (
 bd (ah.f lf r2.1) fun r7 =>
 br (!r7.1) (
 bd (dh.f lf r2.1 r5.1) fun r8 =>
 bd (ay.f lf r3.1) fun r9 =>
 bd (aI.f lf r9.1) fun r10 =>
 bd (ah.f lf r10.1) fun r11 =>
 br (!r11.1) (
 bd (ah.f lf r2.1) fun r12 =>
 br (!r12.1) (
 bd (ay.f lf r2.1) fun r13 =>
 bd (dh.f lf r13.1 r10.1) fun r14 =>
 bd (ay.f lf r14.1) fun r15 =>
 bd (ak.f lf r8.1 r15.1) fun r16 =>
 bd (af.f lf r16.1) fun r17 =>
 some (r17.1,0,())) (
 bd (af.f lf r8.1) fun r18 =>
 some (r18.1,0,()))) (
 bd (af.f lf r8.1) fun r19 =>
 some (r19.1,0,()))) (
 bd (ay.f lf r3.1) fun r20 =>
 bd (aI.f lf r20.1) fun r21 =>
 bd (ah.f lf r21.1) fun r22 =>
 br (!r22.1) (
 bd (ah.f lf r2.1) fun r23 =>
 br (!r23.1) (
 bd (ay.f lf r2.1) fun r24 =>
 bd (dh.f lf r24.1 r21.1) fun r25 =>
 bd (ay.f lf r25.1) fun r26 =>
 bd (ak.f lf r4.1 r26.1) fun r27 =>
 bd (af.f lf r27.1) fun r28 =>
 some (r28.1,0,())) (
 bd (af.f lf r4.1) fun r29 =>
 some (r29.1,0,()))) (
 bd (af.f lf r4.1) fun r30 =>
 some (r30.1,0,())))) (
 bd (ay.f lf r3.1) fun r31 =>
 bd (aI.f lf r31.1) fun r32 =>
 bd (ah.f lf r32.1) fun r33 =>
 br (!r33.1) (
 bd (ah.f lf r2.1) fun r34 =>
 br (!r34.1) (
 bd (ay.f lf r2.1) fun r35 =>
 bd (dh.f lf r35.1 r32.1) fun r36 =>
 bd (ay.f lf r36.1) fun r37 =>
 bd (ak.f lf r4.1 r37.1) fun r38 =>
 bd (af.f lf r38.1) fun r39 =>
 some (r39.1,0,())) (
 bd (af.f lf r4.1) fun r40 =>
 some (r40.1,0,()))) (
 bd (af.f lf r4.1) fun r41 =>
 some (r41.1,0,()))))) (
 bd (aY.f lf a1) fun r42 =>
 br (r42.1 != 0) (
 br (r42.1 != 0) (
 some ((false,(⟨#[]⟩:ByteArray),(⟨#[]⟩:ByteArray),()),r42.1,())) (
 bd (aK.f lf a0) fun r43 =>
 bd (aK.f lf a1) fun r44 =>
 bd (au.f lf) fun r45 =>
 bd (aI.f lf r44.1) fun r46 =>
 bd (ah.f lf r46.1) fun r47 =>
 br (!r47.1) (
 bd (ah.f lf r43.1) fun r48 =>
 br (!r48.1) (
 bd (dh.f lf r43.1 r46.1) fun r49 =>
 bd (ay.f lf r44.1) fun r50 =>
 bd (aI.f lf r50.1) fun r51 =>
 bd (ah.f lf r51.1) fun r52 =>
 br (!r52.1) (
 bd (ah.f lf r43.1) fun r53 =>
 br (!r53.1) (
 bd (ay.f lf r43.1) fun r54 =>
 bd (dh.f lf r54.1 r51.1) fun r55 =>
 bd (ay.f lf r55.1) fun r56 =>
 bd (ak.f lf r49.1 r56.1) fun r57 =>
 bd (af.f lf r57.1) fun r58 =>
 some (r58.1,0,())) (
 bd (af.f lf r49.1) fun r59 =>
 some (r59.1,0,()))) (
 bd (af.f lf r49.1) fun r60 =>
 some (r60.1,0,()))) (
 bd (ay.f lf r44.1) fun r61 =>
 bd (aI.f lf r61.1) fun r62 =>
 bd (ah.f lf r62.1) fun r63 =>
 br (!r63.1) (
 bd (ah.f lf r43.1) fun r64 =>
 br (!r64.1) (
 bd (ay.f lf r43.1) fun r65 =>
 bd (dh.f lf r65.1 r62.1) fun r66 =>
 bd (ay.f lf r66.1) fun r67 =>
 bd (ak.f lf r45.1 r67.1) fun r68 =>
 bd (af.f lf r68.1) fun r69 =>
 some (r69.1,0,())) (
 bd (af.f lf r45.1) fun r70 =>
 some (r70.1,0,()))) (
 bd (af.f lf r45.1) fun r71 =>
 some (r71.1,0,())))) (
 bd (ay.f lf r44.1) fun r72 =>
 bd (aI.f lf r72.1) fun r73 =>
 bd (ah.f lf r73.1) fun r74 =>
 br (!r74.1) (
 bd (ah.f lf r43.1) fun r75 =>
 br (!r75.1) (
 bd (ay.f lf r43.1) fun r76 =>
 bd (dh.f lf r76.1 r73.1) fun r77 =>
 bd (ay.f lf r77.1) fun r78 =>
 bd (ak.f lf r45.1 r78.1) fun r79 =>
 bd (af.f lf r79.1) fun r80 =>
 some (r80.1,0,())) (
 bd (af.f lf r45.1) fun r81 =>
 some (r81.1,0,()))) (
 bd (af.f lf r45.1) fun r82 =>
 some (r82.1,0,()))))) (
 bd (aK.f lf a0) fun r83 =>
 bd (aK.f lf a1) fun r84 =>
 bd (au.f lf) fun r85 =>
 bd (aI.f lf r84.1) fun r86 =>
 bd (ah.f lf r86.1) fun r87 =>
 br (!r87.1) (
 bd (ah.f lf r83.1) fun r88 =>
 br (!r88.1) (
 bd (dh.f lf r83.1 r86.1) fun r89 =>
 bd (ay.f lf r84.1) fun r90 =>
 bd (aI.f lf r90.1) fun r91 =>
 bd (ah.f lf r91.1) fun r92 =>
 br (!r92.1) (
 bd (ah.f lf r83.1) fun r93 =>
 br (!r93.1) (
 bd (ay.f lf r83.1) fun r94 =>
 bd (dh.f lf r94.1 r91.1) fun r95 =>
 bd (ay.f lf r95.1) fun r96 =>
 bd (ak.f lf r89.1 r96.1) fun r97 =>
 bd (af.f lf r97.1) fun r98 =>
 some (r98.1,0,())) (
 bd (af.f lf r89.1) fun r99 =>
 some (r99.1,0,()))) (
 bd (af.f lf r89.1) fun r100 =>
 some (r100.1,0,()))) (
 bd (ay.f lf r84.1) fun r101 =>
 bd (aI.f lf r101.1) fun r102 =>
 bd (ah.f lf r102.1) fun r103 =>
 br (!r103.1) (
 bd (ah.f lf r83.1) fun r104 =>
 br (!r104.1) (
 bd (ay.f lf r83.1) fun r105 =>
 bd (dh.f lf r105.1 r102.1) fun r106 =>
 bd (ay.f lf r106.1) fun r107 =>
 bd (ak.f lf r85.1 r107.1) fun r108 =>
 bd (af.f lf r108.1) fun r109 =>
 some (r109.1,0,())) (
 bd (af.f lf r85.1) fun r110 =>
 some (r110.1,0,()))) (
 bd (af.f lf r85.1) fun r111 =>
 some (r111.1,0,())))) (
 bd (ay.f lf r84.1) fun r112 =>
 bd (aI.f lf r112.1) fun r113 =>
 bd (ah.f lf r113.1) fun r114 =>
 br (!r114.1) (
 bd (ah.f lf r83.1) fun r115 =>
 br (!r115.1) (
 bd (ay.f lf r83.1) fun r116 =>
 bd (dh.f lf r116.1 r113.1) fun r117 =>
 bd (ay.f lf r117.1) fun r118 =>
 bd (ak.f lf r85.1 r118.1) fun r119 =>
 bd (af.f lf r119.1) fun r120 =>
 some (r120.1,0,())) (
 bd (af.f lf r85.1) fun r121 =>
 some (r121.1,0,()))) (
 bd (af.f lf r85.1) fun r122 =>
 some (r122.1,0,())))))
def E(lf:Nat):Entry:=⟨[yI,yI],[yI,(.int .i64)],fun x=>f lf x.1 x.2.1⟩
theorem ok(lf:Nat):Ok 110 (E lf):=okT (an:=(annsL [])) (lf:=lf) (tC (ay.ok lf) (tC (aY.ok lf) (tC (aK.ok lf) (tC (af.ok lf) (tC (ak.ok lf) (tC (ah.ok lf) (tC (dh.ok lf) (tC (au.ok lf) (tC (aI.ok lf) tN))))))))) aoN fun x=>by kernel_rfl
end rG
namespace pK
def f(lf:Nat)(a0:TI)(a1:ByteArray):Option (Bool×Int×Unit) :=
 bd (aY.f lf a0) fun r1 =>
 br (r1.1 != 0) (
 some (false,r1.1,())) (
 bd (dZ.f lf a1) fun r2 =>
 br (r2.1 != 0) (
 some (false,r2.1,())) (
 bd (aK.f lf a0) fun r3 =>
 bd (aW.f lf a1) fun r4 =>
 bd (dP.f lf r3.1.1 r4.1) fun r5 =>
 br (decide (r5.1≤0)) (
 bd (dP.f lf r4.1 r3.1.2.1) fun r6 =>
 some ((decide (r6.1≤0)),0,())) (
 some (false,0,()))))
def E(lf:Nat):Entry:=⟨[yI,.str],[.bool,(.int .i64)],fun x=>f lf x.1 x.2.1⟩
theorem ok(lf:Nat):Ok 93 (E lf):=okT (an:=(annsL [])) (lf:=lf) (tC (dZ.ok lf) (tC (aY.ok lf) (tC (aK.ok lf) (tC (aW.ok lf) (tC (dP.ok lf) tN))))) aoN fun x=>by kernel_rfl
end pK
namespace qI
def f(lf:Nat)(a0:TI)(a1:TI):Option (TI×Int×Unit) :=
 bd (aY.f lf a0) fun r1 =>
 br (r1.1 != 0) (
 br (r1.1 != 0) (
 some ((false,(⟨#[]⟩:ByteArray),(⟨#[]⟩:ByteArray),()),r1.1,())) (
 bd (aK.f lf a0) fun r2 =>
 bd (aK.f lf a1) fun r3 =>
 bd (dR.f lf r2.1 r3.1) fun r4 =>
 bd (af.f lf r4.1) fun r5 =>
 some (r5.1,0,()))) (
 bd (aY.f lf a1) fun r6 =>
 br (r6.1 != 0) (
 br (r6.1 != 0) (
 some ((false,(⟨#[]⟩:ByteArray),(⟨#[]⟩:ByteArray),()),r6.1,())) (
 bd (aK.f lf a0) fun r7 =>
 bd (aK.f lf a1) fun r8 =>
 bd (dR.f lf r7.1 r8.1) fun r9 =>
 bd (af.f lf r9.1) fun r10 =>
 some (r10.1,0,()))) (
 bd (aK.f lf a0) fun r11 =>
 bd (aK.f lf a1) fun r12 =>
 bd (dR.f lf r11.1 r12.1) fun r13 =>
 bd (af.f lf r13.1) fun r14 =>
 some (r14.1,0,())))
def E(lf:Nat):Entry:=⟨[yI,yI],[yI,(.int .i64)],fun x=>f lf x.1 x.2.1⟩
theorem ok(lf:Nat):Ok 149 (E lf):=okT (an:=(annsL [])) (lf:=lf) (tC (aY.ok lf) (tC (aK.ok lf) (tC (af.ok lf) (tC (dR.ok lf) tN)))) aoN fun x=>by kernel_rfl
end qI
namespace jd
def f(lf:Nat)(a0:TS)(a1:TS):Option (TS×TS×Unit) :=
 bd (dR.f lf a0 a1) fun r1 =>
 bd (dR.f lf a0 a1) fun r2 =>
 some (r1.1,r2.1,())
def E(lf:Nat):Entry:=⟨[yS,yS],[yS,yS],fun x=>f lf x.1 x.2.1⟩
theorem ok(lf:Nat):Ok 309 (E lf):=okT (an:=(annsL [])) (lf:=lf) (tC (dR.ok lf) tN) aoN fun x=>by kernel_rfl
end jd
namespace iM
def f(lf:Nat)(a0:TS)(a1:ByteArray):Option (TS×Unit) :=
 br (a0.1.1==0) (
 br (a0.1.2.1.toList==a1.toList) (
 bd (bM.f lf a0.1 (⟨#[49]⟩:ByteArray)) fun r1 =>
 br (a0.2.1.1==0) (
 br (a0.2.1.2.1.toList==a1.toList) (
 bd (bM.f lf a0.2.1 (⟨#[45,49]⟩:ByteArray)) fun r2 =>
 some ((r1.1,r2.1,()),())) (
 some ((r1.1,a0.2.1,()),()))) (
 some ((r1.1,a0.2.1,()),()))) (
 br (a0.2.1.1==0) (
 br (a0.2.1.2.1.toList==a1.toList) (
 bd (bM.f lf a0.2.1 (⟨#[45,49]⟩:ByteArray)) fun r3 =>
 some ((a0.1,r3.1,()),())) (
 some (a0,()))) (
 some (a0,())))) (
 br (a0.2.1.1==0) (
 br (a0.2.1.2.1.toList==a1.toList) (
 bd (bM.f lf a0.2.1 (⟨#[45,49]⟩:ByteArray)) fun r4 =>
 some ((a0.1,r4.1,()),())) (
 some (a0,()))) (
 some (a0,())))
def E(lf:Nat):Entry:=⟨[yS,.str],[yS],fun x=>f lf x.1 x.2.1⟩
theorem ok(lf:Nat):Ok 311 (E lf):=okT (an:=(annsL [])) (lf:=lf) (tC (bM.ok lf) tN) aoN fun x=>by kernel_rfl
end iM
namespace ig
def f(lf:Nat)(a0:TS)(a1:TS):Option (TS×TS×Unit) :=
 bd (fQ.f lf a1) fun r1 =>
 br r1.1 (
 bd (iM.f lf a0 a1.1.2.1) fun r2 =>
 bd (fQ.f lf a0) fun r3 =>
 br r3.1 (
 bd (iM.f lf a1 a0.1.2.1) fun r4 =>
 some (r2.1,r4.1,())) (
 some (r2.1,a1,()))) (
 bd (fQ.f lf a0) fun r5 =>
 br r5.1 (
 bd (iM.f lf a1 a0.1.2.1) fun r6 =>
 some (a0,r6.1,())) (
 some (a0,a1,())))
def E(lf:Nat):Entry:=⟨[yS,yS],[yS,yS],fun x=>f lf x.1 x.2.1⟩
theorem ok(lf:Nat):Ok 310 (E lf):=okT (an:=(annsL [])) (lf:=lf) (tC (fQ.ok lf) (tC (iM.ok lf) tN)) aoN fun x=>by kernel_rfl
end ig
end
end Go.Q
namespace Go.Q
open Go Go.RowKit
open Go.Rx (br bd sIdx sCat sCut iQuo iRem)
noncomputable section
namespace oM
def f(lf:Nat)(a0:Int)(a1:TI)(a2:TI):Option (TI×TI×Int×Unit) :=
 br (a0==2) (
 bd (aY.f lf a1) fun r1 =>
 br (r1.1 != 0) (
 br (r1.1 != 0) (
 some ((false,(⟨#[]⟩:ByteArray),(⟨#[]⟩:ByteArray),()),(false,(⟨#[]⟩:ByteArray),(⟨#[]⟩:ByteArray),()),r1.1,())) (
 bd (aK.f lf a1) fun r2 =>
 bd (aK.f lf a2) fun r3 =>
 bd (ah.f lf r2.1) fun r4 =>
 br r4.1 (
 bd (au.f lf) fun r5 =>
 bd (af.f lf r5.1) fun r6 =>
 bd (au.f lf) fun r7 =>
 bd (af.f lf r7.1) fun r8 =>
 some (r6.1,r8.1,0,())) (
 bd (ah.f lf r3.1) fun r9 =>
 br r9.1 (
 bd (au.f lf) fun r10 =>
 bd (af.f lf r10.1) fun r11 =>
 bd (au.f lf) fun r12 =>
 bd (af.f lf r12.1) fun r13 =>
 some (r11.1,r13.1,0,())) (
 bd (jd.f lf r2.1 r3.1) fun r14 =>
 bd (ah.f lf r14.1) fun r15 =>
 br r15.1 (
 bd (au.f lf) fun r16 =>
 bd (au.f lf) fun r17 =>
 bd (af.f lf r16.1) fun r18 =>
 bd (af.f lf r17.1) fun r19 =>
 some (r18.1,r19.1,0,())) (
 bd (ah.f lf r14.2.1) fun r20 =>
 br r20.1 (
 bd (au.f lf) fun r21 =>
 bd (au.f lf) fun r22 =>
 bd (af.f lf r21.1) fun r23 =>
 bd (af.f lf r22.1) fun r24 =>
 some (r23.1,r24.1,0,())) (
 bd (af.f lf r14.1) fun r25 =>
 bd (af.f lf r14.2.1) fun r26 =>
 some (r25.1,r26.1,0,()))))))) (
 bd (aY.f lf a2) fun r27 =>
 br (r27.1 != 0) (
 br (r27.1 != 0) (
 some ((false,(⟨#[]⟩:ByteArray),(⟨#[]⟩:ByteArray),()),(false,(⟨#[]⟩:ByteArray),(⟨#[]⟩:ByteArray),()),r27.1,())) (
 bd (aK.f lf a1) fun r28 =>
 bd (aK.f lf a2) fun r29 =>
 bd (ah.f lf r28.1) fun r30 =>
 br r30.1 (
 bd (au.f lf) fun r31 =>
 bd (af.f lf r31.1) fun r32 =>
 bd (au.f lf) fun r33 =>
 bd (af.f lf r33.1) fun r34 =>
 some (r32.1,r34.1,0,())) (
 bd (ah.f lf r29.1) fun r35 =>
 br r35.1 (
 bd (au.f lf) fun r36 =>
 bd (af.f lf r36.1) fun r37 =>
 bd (au.f lf) fun r38 =>
 bd (af.f lf r38.1) fun r39 =>
 some (r37.1,r39.1,0,())) (
 bd (jd.f lf r28.1 r29.1) fun r40 =>
 bd (ah.f lf r40.1) fun r41 =>
 br r41.1 (
 bd (au.f lf) fun r42 =>
 bd (au.f lf) fun r43 =>
 bd (af.f lf r42.1) fun r44 =>
 bd (af.f lf r43.1) fun r45 =>
 some (r44.1,r45.1,0,())) (
 bd (ah.f lf r40.2.1) fun r46 =>
 br r46.1 (
 bd (au.f lf) fun r47 =>
 bd (au.f lf) fun r48 =>
 bd (af.f lf r47.1) fun r49 =>
 bd (af.f lf r48.1) fun r50 =>
 some (r49.1,r50.1,0,())) (
 bd (af.f lf r40.1) fun r51 =>
 bd (af.f lf r40.2.1) fun r52 =>
 some (r51.1,r52.1,0,()))))))) (
 bd (aK.f lf a1) fun r53 =>
 bd (aK.f lf a2) fun r54 =>
 bd (ah.f lf r53.1) fun r55 =>
 br r55.1 (
 bd (au.f lf) fun r56 =>
 bd (af.f lf r56.1) fun r57 =>
 bd (au.f lf) fun r58 =>
 bd (af.f lf r58.1) fun r59 =>
 some (r57.1,r59.1,0,())) (
 bd (ah.f lf r54.1) fun r60 =>
 br r60.1 (
 bd (au.f lf) fun r61 =>
 bd (af.f lf r61.1) fun r62 =>
 bd (au.f lf) fun r63 =>
 bd (af.f lf r63.1) fun r64 =>
 some (r62.1,r64.1,0,())) (
 bd (jd.f lf r53.1 r54.1) fun r65 =>
 bd (ah.f lf r65.1) fun r66 =>
 br r66.1 (
 bd (au.f lf) fun r67 =>
 bd (au.f lf) fun r68 =>
 bd (af.f lf r67.1) fun r69 =>
 bd (af.f lf r68.1) fun r70 =>
 some (r69.1,r70.1,0,())) (
 bd (ah.f lf r65.2.1) fun r71 =>
 br r71.1 (
 bd (au.f lf) fun r72 =>
 bd (au.f lf) fun r73 =>
 bd (af.f lf r72.1) fun r74 =>
 bd (af.f lf r73.1) fun r75 =>
 some (r74.1,r75.1,0,())) (
 bd (af.f lf r65.1) fun r76 =>
 bd (af.f lf r65.2.1) fun r77 =>
 some (r76.1,r77.1,0,())))))))) (
 br (a0==4) (
 bd (aY.f lf a1) fun r78 =>
 br (r78.1 != 0) (
 br (r78.1 != 0) (
 some ((false,(⟨#[]⟩:ByteArray),(⟨#[]⟩:ByteArray),()),(false,(⟨#[]⟩:ByteArray),(⟨#[]⟩:ByteArray),()),r78.1,())) (
 bd (aK.f lf a1) fun r79 =>
 bd (aK.f lf a2) fun r80 =>
 bd (ah.f lf r79.1) fun r81 =>
 br r81.1 (
 bd (au.f lf) fun r82 =>
 bd (af.f lf r82.1) fun r83 =>
 bd (au.f lf) fun r84 =>
 bd (af.f lf r84.1) fun r85 =>
 some (r83.1,r85.1,0,())) (
 bd (ah.f lf r80.1) fun r86 =>
 br r86.1 (
 bd (au.f lf) fun r87 =>
 bd (af.f lf r87.1) fun r88 =>
 bd (au.f lf) fun r89 =>
 bd (af.f lf r89.1) fun r90 =>
 some (r88.1,r90.1,0,())) (
 bd (eF.f lf (⟨#[49]⟩:ByteArray)) fun r91 =>
 bd (bM.f lf r80.1.2.1 r91.1) fun r92 =>
 bd (dW.f lf r79.1.2.1 r92.1) fun r93 =>
 bd (bM.f lf r79.1.1 (⟨#[49]⟩:ByteArray)) fun r94 =>
 bd (gV.f lf r80.1.1 r94.1) fun r95 =>
 bd (ah.f lf (r79.1.1,r93.1,())) fun r96 =>
 br r96.1 (
 bd (au.f lf) fun r97 =>
 bd (au.f lf) fun r98 =>
 bd (af.f lf r97.1) fun r99 =>
 bd (af.f lf r98.1) fun r100 =>
 some (r99.1,r100.1,0,())) (
 bd (ah.f lf (r95.1,r80.1.2.1,())) fun r101 =>
 br r101.1 (
 bd (au.f lf) fun r102 =>
 bd (au.f lf) fun r103 =>
 bd (af.f lf r102.1) fun r104 =>
 bd (af.f lf r103.1) fun r105 =>
 some (r104.1,r105.1,0,())) (
 bd (af.f lf (r79.1.1,r93.1,())) fun r106 =>
 bd (af.f lf (r95.1,r80.1.2.1,())) fun r107 =>
 some (r106.1,r107.1,0,()))))))) (
 bd (aY.f lf a2) fun r108 =>
 br (r108.1 != 0) (
 br (r108.1 != 0) (
 some ((false,(⟨#[]⟩:ByteArray),(⟨#[]⟩:ByteArray),()),(false,(⟨#[]⟩:ByteArray),(⟨#[]⟩:ByteArray),()),r108.1,())) (
 bd (aK.f lf a1) fun r109 =>
 bd (aK.f lf a2) fun r110 =>
 bd (ah.f lf r109.1) fun r111 =>
 br r111.1 (
 bd (au.f lf) fun r112 =>
 bd (af.f lf r112.1) fun r113 =>
 bd (au.f lf) fun r114 =>
 bd (af.f lf r114.1) fun r115 =>
 some (r113.1,r115.1,0,())) (
 bd (ah.f lf r110.1) fun r116 =>
 br r116.1 (
 bd (au.f lf) fun r117 =>
 bd (af.f lf r117.1) fun r118 =>
 bd (au.f lf) fun r119 =>
 bd (af.f lf r119.1) fun r120 =>
 some (r118.1,r120.1,0,())) (
 bd (eF.f lf (⟨#[49]⟩:ByteArray)) fun r121 =>
 bd (bM.f lf r110.1.2.1 r121.1) fun r122 =>
 bd (dW.f lf r109.1.2.1 r122.1) fun r123 =>
 bd (bM.f lf r109.1.1 (⟨#[49]⟩:ByteArray)) fun r124 =>
 bd (gV.f lf r110.1.1 r124.1) fun r125 =>
 bd (ah.f lf (r109.1.1,r123.1,())) fun r126 =>
 br r126.1 (
 bd (au.f lf) fun r127 =>
 bd (au.f lf) fun r128 =>
 bd (af.f lf r127.1) fun r129 =>
 bd (af.f lf r128.1) fun r130 =>
 some (r129.1,r130.1,0,())) (
 bd (ah.f lf (r125.1,r110.1.2.1,())) fun r131 =>
 br r131.1 (
 bd (au.f lf) fun r132 =>
 bd (au.f lf) fun r133 =>
 bd (af.f lf r132.1) fun r134 =>
 bd (af.f lf r133.1) fun r135 =>
 some (r134.1,r135.1,0,())) (
 bd (af.f lf (r109.1.1,r123.1,())) fun r136 =>
 bd (af.f lf (r125.1,r110.1.2.1,())) fun r137 =>
 some (r136.1,r137.1,0,()))))))) (
 bd (aK.f lf a1) fun r138 =>
 bd (aK.f lf a2) fun r139 =>
 bd (ah.f lf r138.1) fun r140 =>
 br r140.1 (
 bd (au.f lf) fun r141 =>
 bd (af.f lf r141.1) fun r142 =>
 bd (au.f lf) fun r143 =>
 bd (af.f lf r143.1) fun r144 =>
 some (r142.1,r144.1,0,())) (
 bd (ah.f lf r139.1) fun r145 =>
 br r145.1 (
 bd (au.f lf) fun r146 =>
 bd (af.f lf r146.1) fun r147 =>
 bd (au.f lf) fun r148 =>
 bd (af.f lf r148.1) fun r149 =>
 some (r147.1,r149.1,0,())) (
 bd (eF.f lf (⟨#[49]⟩:ByteArray)) fun r150 =>
 bd (bM.f lf r139.1.2.1 r150.1) fun r151 =>
 bd (dW.f lf r138.1.2.1 r151.1) fun r152 =>
 bd (bM.f lf r138.1.1 (⟨#[49]⟩:ByteArray)) fun r153 =>
 bd (gV.f lf r139.1.1 r153.1) fun r154 =>
 bd (ah.f lf (r138.1.1,r152.1,())) fun r155 =>
 br r155.1 (
 bd (au.f lf) fun r156 =>
 bd (au.f lf) fun r157 =>
 bd (af.f lf r156.1) fun r158 =>
 bd (af.f lf r157.1) fun r159 =>
 some (r158.1,r159.1,0,())) (
 bd (ah.f lf (r154.1,r139.1.2.1,())) fun r160 =>
 br r160.1 (
 bd (au.f lf) fun r161 =>
 bd (au.f lf) fun r162 =>
 bd (af.f lf r161.1) fun r163 =>
 bd (af.f lf r162.1) fun r164 =>
 some (r163.1,r164.1,0,())) (
 bd (af.f lf (r138.1.1,r152.1,())) fun r165 =>
 bd (af.f lf (r154.1,r139.1.2.1,())) fun r166 =>
 some (r165.1,r166.1,0,())))))))) (
 br (a0==5) (
 bd (aY.f lf a1) fun r167 =>
 br (r167.1 != 0) (
 br (r167.1 != 0) (
 some ((false,(⟨#[]⟩:ByteArray),(⟨#[]⟩:ByteArray),()),(false,(⟨#[]⟩:ByteArray),(⟨#[]⟩:ByteArray),()),r167.1,())) (
 bd (aK.f lf a1) fun r168 =>
 bd (aK.f lf a2) fun r169 =>
 bd (ah.f lf r168.1) fun r170 =>
 br r170.1 (
 bd (au.f lf) fun r171 =>
 bd (af.f lf r171.1) fun r172 =>
 bd (au.f lf) fun r173 =>
 bd (af.f lf r173.1) fun r174 =>
 some (r172.1,r174.1,0,())) (
 bd (ah.f lf r169.1) fun r175 =>
 br r175.1 (
 bd (au.f lf) fun r176 =>
 bd (af.f lf r176.1) fun r177 =>
 bd (au.f lf) fun r178 =>
 bd (af.f lf r178.1) fun r179 =>
 some (r177.1,r179.1,0,())) (
 bd (eF.f lf (⟨#[48]⟩:ByteArray)) fun r180 =>
 bd (bM.f lf r169.1.2.1 r180.1) fun r181 =>
 bd (dW.f lf r168.1.2.1 r181.1) fun r182 =>
 bd (bM.f lf r168.1.1 (⟨#[48]⟩:ByteArray)) fun r183 =>
 bd (gV.f lf r169.1.1 r183.1) fun r184 =>
 bd (ah.f lf (r168.1.1,r182.1,())) fun r185 =>
 br r185.1 (
 bd (au.f lf) fun r186 =>
 bd (au.f lf) fun r187 =>
 bd (af.f lf r186.1) fun r188 =>
 bd (af.f lf r187.1) fun r189 =>
 some (r188.1,r189.1,0,())) (
 bd (ah.f lf (r184.1,r169.1.2.1,())) fun r190 =>
 br r190.1 (
 bd (au.f lf) fun r191 =>
 bd (au.f lf) fun r192 =>
 bd (af.f lf r191.1) fun r193 =>
 bd (af.f lf r192.1) fun r194 =>
 some (r193.1,r194.1,0,())) (
 bd (af.f lf (r168.1.1,r182.1,())) fun r195 =>
 bd (af.f lf (r184.1,r169.1.2.1,())) fun r196 =>
 some (r195.1,r196.1,0,()))))))) (
 bd (aY.f lf a2) fun r197 =>
 br (r197.1 != 0) (
 br (r197.1 != 0) (
 some ((false,(⟨#[]⟩:ByteArray),(⟨#[]⟩:ByteArray),()),(false,(⟨#[]⟩:ByteArray),(⟨#[]⟩:ByteArray),()),r197.1,())) (
 bd (aK.f lf a1) fun r198 =>
 bd (aK.f lf a2) fun r199 =>
 bd (ah.f lf r198.1) fun r200 =>
 br r200.1 (
 bd (au.f lf) fun r201 =>
 bd (af.f lf r201.1) fun r202 =>
 bd (au.f lf) fun r203 =>
 bd (af.f lf r203.1) fun r204 =>
 some (r202.1,r204.1,0,())) (
 bd (ah.f lf r199.1) fun r205 =>
 br r205.1 (
 bd (au.f lf) fun r206 =>
 bd (af.f lf r206.1) fun r207 =>
 bd (au.f lf) fun r208 =>
 bd (af.f lf r208.1) fun r209 =>
 some (r207.1,r209.1,0,())) (
 bd (eF.f lf (⟨#[48]⟩:ByteArray)) fun r210 =>
 bd (bM.f lf r199.1.2.1 r210.1) fun r211 =>
 bd (dW.f lf r198.1.2.1 r211.1) fun r212 =>
 bd (bM.f lf r198.1.1 (⟨#[48]⟩:ByteArray)) fun r213 =>
 bd (gV.f lf r199.1.1 r213.1) fun r214 =>
 bd (ah.f lf (r198.1.1,r212.1,())) fun r215 =>
 br r215.1 (
 bd (au.f lf) fun r216 =>
 bd (au.f lf) fun r217 =>
 bd (af.f lf r216.1) fun r218 =>
 bd (af.f lf r217.1) fun r219 =>
 some (r218.1,r219.1,0,())) (
 bd (ah.f lf (r214.1,r199.1.2.1,())) fun r220 =>
 br r220.1 (
 bd (au.f lf) fun r221 =>
 bd (au.f lf) fun r222 =>
 bd (af.f lf r221.1) fun r223 =>
 bd (af.f lf r222.1) fun r224 =>
 some (r223.1,r224.1,0,())) (
 bd (af.f lf (r198.1.1,r212.1,())) fun r225 =>
 bd (af.f lf (r214.1,r199.1.2.1,())) fun r226 =>
 some (r225.1,r226.1,0,()))))))) (
 bd (aK.f lf a1) fun r227 =>
 bd (aK.f lf a2) fun r228 =>
 bd (ah.f lf r227.1) fun r229 =>
 br r229.1 (
 bd (au.f lf) fun r230 =>
 bd (af.f lf r230.1) fun r231 =>
 bd (au.f lf) fun r232 =>
 bd (af.f lf r232.1) fun r233 =>
 some (r231.1,r233.1,0,())) (
 bd (ah.f lf r228.1) fun r234 =>
 br r234.1 (
 bd (au.f lf) fun r235 =>
 bd (af.f lf r235.1) fun r236 =>
 bd (au.f lf) fun r237 =>
 bd (af.f lf r237.1) fun r238 =>
 some (r236.1,r238.1,0,())) (
 bd (eF.f lf (⟨#[48]⟩:ByteArray)) fun r239 =>
 bd (bM.f lf r228.1.2.1 r239.1) fun r240 =>
 bd (dW.f lf r227.1.2.1 r240.1) fun r241 =>
 bd (bM.f lf r227.1.1 (⟨#[48]⟩:ByteArray)) fun r242 =>
 bd (gV.f lf r228.1.1 r242.1) fun r243 =>
 bd (ah.f lf (r227.1.1,r241.1,())) fun r244 =>
 br r244.1 (
 bd (au.f lf) fun r245 =>
 bd (au.f lf) fun r246 =>
 bd (af.f lf r245.1) fun r247 =>
 bd (af.f lf r246.1) fun r248 =>
 some (r247.1,r248.1,0,())) (
 bd (ah.f lf (r243.1,r228.1.2.1,())) fun r249 =>
 br r249.1 (
 bd (au.f lf) fun r250 =>
 bd (au.f lf) fun r251 =>
 bd (af.f lf r250.1) fun r252 =>
 bd (af.f lf r251.1) fun r253 =>
 some (r252.1,r253.1,0,())) (
 bd (af.f lf (r227.1.1,r241.1,())) fun r254 =>
 bd (af.f lf (r243.1,r228.1.2.1,())) fun r255 =>
 some (r254.1,r255.1,0,())))))))) (
 br (a0==3) (
 bd (aY.f lf a1) fun r256 =>
 br (r256.1 != 0) (
 br (r256.1 != 0) (
 some ((false,(⟨#[]⟩:ByteArray),(⟨#[]⟩:ByteArray),()),(false,(⟨#[]⟩:ByteArray),(⟨#[]⟩:ByteArray),()),r256.1,())) (
 bd (aK.f lf a1) fun r257 =>
 bd (aK.f lf a2) fun r258 =>
 bd (ah.f lf r257.1) fun r259 =>
 br r259.1 (
 bd (au.f lf) fun r260 =>
 bd (af.f lf r260.1) fun r261 =>
 bd (au.f lf) fun r262 =>
 bd (af.f lf r262.1) fun r263 =>
 some (r261.1,r263.1,0,())) (
 bd (ah.f lf r258.1) fun r264 =>
 br r264.1 (
 bd (au.f lf) fun r265 =>
 bd (af.f lf r265.1) fun r266 =>
 bd (au.f lf) fun r267 =>
 bd (af.f lf r267.1) fun r268 =>
 some (r266.1,r268.1,0,())) (
 bd (ig.f lf r257.1 r258.1) fun r269 =>
 bd (ah.f lf r269.1) fun r270 =>
 br r270.1 (
 bd (au.f lf) fun r271 =>
 bd (au.f lf) fun r272 =>
 bd (af.f lf r271.1) fun r273 =>
 bd (af.f lf r272.1) fun r274 =>
 some (r273.1,r274.1,0,())) (
 bd (ah.f lf r269.2.1) fun r275 =>
 br r275.1 (
 bd (au.f lf) fun r276 =>
 bd (au.f lf) fun r277 =>
 bd (af.f lf r276.1) fun r278 =>
 bd (af.f lf r277.1) fun r279 =>
 some (r278.1,r279.1,0,())) (
 bd (af.f lf r269.1) fun r280 =>
 bd (af.f lf r269.2.1) fun r281 =>
 some (r280.1,r281.1,0,()))))))) (
 bd (aY.f lf a2) fun r282 =>
 br (r282.1 != 0) (
 br (r282.1 != 0) (
 some ((false,(⟨#[]⟩:ByteArray),(⟨#[]⟩:ByteArray),()),(false,(⟨#[]⟩:ByteArray),(⟨#[]⟩:ByteArray),()),r282.1,())) (
 bd (aK.f lf a1) fun r283 =>
 bd (aK.f lf a2) fun r284 =>
 bd (ah.f lf r283.1) fun r285 =>
 br r285.1 (
 bd (au.f lf) fun r286 =>
 bd (af.f lf r286.1) fun r287 =>
 bd (au.f lf) fun r288 =>
 bd (af.f lf r288.1) fun r289 =>
 some (r287.1,r289.1,0,())) (
 bd (ah.f lf r284.1) fun r290 =>
 br r290.1 (
 bd (au.f lf) fun r291 =>
 bd (af.f lf r291.1) fun r292 =>
 bd (au.f lf) fun r293 =>
 bd (af.f lf r293.1) fun r294 =>
 some (r292.1,r294.1,0,())) (
 bd (ig.f lf r283.1 r284.1) fun r295 =>
 bd (ah.f lf r295.1) fun r296 =>
 br r296.1 (
 bd (au.f lf) fun r297 =>
 bd (au.f lf) fun r298 =>
 bd (af.f lf r297.1) fun r299 =>
 bd (af.f lf r298.1) fun r300 =>
 some (r299.1,r300.1,0,())) (
 bd (ah.f lf r295.2.1) fun r301 =>
 br r301.1 (
 bd (au.f lf) fun r302 =>
 bd (au.f lf) fun r303 =>
 bd (af.f lf r302.1) fun r304 =>
 bd (af.f lf r303.1) fun r305 =>
 some (r304.1,r305.1,0,())) (
 bd (af.f lf r295.1) fun r306 =>
 bd (af.f lf r295.2.1) fun r307 =>
 some (r306.1,r307.1,0,()))))))) (
 bd (aK.f lf a1) fun r308 =>
 bd (aK.f lf a2) fun r309 =>
 bd (ah.f lf r308.1) fun r310 =>
 br r310.1 (
 bd (au.f lf) fun r311 =>
 bd (af.f lf r311.1) fun r312 =>
 bd (au.f lf) fun r313 =>
 bd (af.f lf r313.1) fun r314 =>
 some (r312.1,r314.1,0,())) (
 bd (ah.f lf r309.1) fun r315 =>
 br r315.1 (
 bd (au.f lf) fun r316 =>
 bd (af.f lf r316.1) fun r317 =>
 bd (au.f lf) fun r318 =>
 bd (af.f lf r318.1) fun r319 =>
 some (r317.1,r319.1,0,())) (
 bd (ig.f lf r308.1 r309.1) fun r320 =>
 bd (ah.f lf r320.1) fun r321 =>
 br r321.1 (
 bd (au.f lf) fun r322 =>
 bd (au.f lf) fun r323 =>
 bd (af.f lf r322.1) fun r324 =>
 bd (af.f lf r323.1) fun r325 =>
 some (r324.1,r325.1,0,())) (
 bd (ah.f lf r320.2.1) fun r326 =>
 br r326.1 (
 bd (au.f lf) fun r327 =>
 bd (au.f lf) fun r328 =>
 bd (af.f lf r327.1) fun r329 =>
 bd (af.f lf r328.1) fun r330 =>
 some (r329.1,r330.1,0,())) (
 bd (af.f lf r320.1) fun r331 =>
 bd (af.f lf r320.2.1) fun r332 =>
 some (r331.1,r332.1,0,())))))))) (
 some ((false,(⟨#[]⟩:ByteArray),(⟨#[]⟩:ByteArray),()),(false,(⟨#[]⟩:ByteArray),(⟨#[]⟩:ByteArray),()),1,())))))
def E(lf:Nat):Entry:=⟨[(.int .i64),yI,yI],[yI,yI,(.int .i64)],fun x=>f lf x.1 x.2.1 x.2.2.1⟩
theorem ok(lf:Nat):Ok 115 (E lf):=okT (an:=(annsL [])) (lf:=lf) (tC (aY.ok lf) (tC (aK.ok lf) (tC (af.ok lf) (tC (ah.ok lf) (tC (au.ok lf) (tC (dW.ok lf) (tC (gV.ok lf) (tC (bM.ok lf) (tC (eF.ok lf) (tC (jd.ok lf) (tC (ig.ok lf) tN))))))))))) aoN fun x=>by kernel_rfl
end oM
end
end Go.Q
