import Derived.Test.YtoinkkcnihoeoaaGreatDoorProg
import Derived.KernelRfl
import Derived.Test.YtoinkkcnihoeoaaGreatDoorECE3
import Derived.Test.YtoinkkcnihoeoaaGreatDoorECG1
import Derived.Test.YtoinkkcnihoeoaaGreatDoorECG3
import Derived.Test.YtoinkkcnihoeoaaGreatDoorECG4
import Derived.Test.YtoinkkcnihoeoaaGreatDoorECG5
import Derived.Test.YtoinkkcnihoeoaaGreatDoorECG6
set_option maxHeartbeats 40000000
set_option linter.unusedVariables false
set_option linter.unusedSimpArgs false
set_option linter.unusedSectionVars false
set_option maxRecDepth 100000
namespace Go.Q
open Go Go.RowKit
open Go.Rx (br bd sIdx sCat sCut iQuo iRem)
noncomputable section
namespace jE
def f(lf:Nat)(a0:TI):Option (Bool×Unit) :=
 bd (kD.f lf a0.2.1) fun r1 =>
 br r1.1 (
 bd (kD.f lf a0.2.2.1) fun r2 =>
 some (r2.1,())) (
 some (false,()))
def E(lf:Nat):Entry:=⟨[yI],[.bool],fun x=>f lf x.1⟩
theorem ok(lf:Nat):Ok 48 (E lf):=okT (an:=(annsL [])) (lf:=lf) (tC (kD.ok lf) tN) aoN fun x=>by kernel_rfl
end jE
namespace bT
def f(lf:Nat)  : Option (TI×Unit) :=
 some ((true,(⟨#[]⟩:ByteArray),(⟨#[]⟩:ByteArray),()),())
def E(lf:Nat):Entry:=⟨[],[yI],fun x=>f lf⟩
theorem ok(lf:Nat):Ok 202 (E lf):=okT (an:=(annsL [])) (lf:=lf) tN aoN fun x=>by kernel_rfl
end bT
namespace iE
def f(lf:Nat)(a0:TI)(a1:ByteArray):Option (ByteArray×Bool×Unit) :=
 br (a0.2.1.toList==(⟨#[48]⟩:ByteArray).toList) (
 bd (au.f lf a0.2.2.1 a1) fun r1 =>
 br r1.1 (
 some ((⟨#[]⟩:ByteArray),false,())) (
 some (a0.2.2.1,true,()))) (
 bd (aP.f lf a0.2.2.1 a1) fun r2 =>
 bd (bP.f lf r2.1 a0.2.1) fun r3 =>
 bd (fO.f lf a1 r3.1) fun r4 =>
 some (r4.1,true,()))
def E(lf:Nat):Entry:=⟨[yI,.str],[.str,.bool],fun x=>f lf x.1 x.2.1⟩
theorem ok(lf:Nat):Ok 184 (E lf):=okT (an:=(annsL [])) (lf:=lf) (tC (au.ok lf) (tC (aP.ok lf) (tC (fO.ok lf) (tC (bP.ok lf) tN)))) aoN fun x=>by kernel_rfl
end iE
namespace dX
def f(lf:Nat)  : Option (TI×Unit) :=
 some ((false,(⟨#[49]⟩:ByteArray),(⟨#[48]⟩:ByteArray),()),())
def E(lf:Nat):Entry:=⟨[],[yI],fun x=>f lf⟩
theorem ok(lf:Nat):Ok 139 (E lf):=okT (an:=(annsL [])) (lf:=lf) tN aoN fun x=>by kernel_rfl
end dX
namespace dP
def f(lf:Nat)(a0:ByteArray)(a1:ByteArray):Option (TI×Unit) :=
 bd (aZ.f lf a0) fun r1 =>
 br (!(a0.toList==(⟨#[48]⟩:ByteArray).toList)) (
 bd (bP.f lf a1 r1.1) fun r2 =>
 bd (aK.f lf r1.1) fun r3 =>
 br (decide (r3.1 > 100)) (
 bd (dX.f lf) fun r4 =>
 some (r4.1,())) (
 bd (aK.f lf r2.1) fun r5 =>
 br (decide (r5.1 > 100)) (
 bd (dX.f lf) fun r6 =>
 some (r6.1,())) (
 some ((false,r1.1,r2.1,()),())))) (
 bd (aK.f lf r1.1) fun r7 =>
 br (decide (r7.1 > 100)) (
 bd (dX.f lf) fun r8 =>
 some (r8.1,())) (
 bd (aK.f lf a1) fun r9 =>
 br (decide (r9.1 > 100)) (
 bd (dX.f lf) fun r10 =>
 some (r10.1,())) (
 some ((false,r1.1,a1,()),()))))
def E(lf:Nat):Entry:=⟨[.str,.str],[yI],fun x=>f lf x.1 x.2.1⟩
theorem ok(lf:Nat):Ok 190 (E lf):=okT (an:=(annsL [])) (lf:=lf) (tC (aK.ok lf) (tC (dX.ok lf) (tC (bP.ok lf) (tC (aZ.ok lf) tN)))) aoN fun x=>by kernel_rfl
end dP
namespace iW
def f(lf:Nat)(a0:TI):Option (TI×Unit) :=
 br a0.1 (
 some (a0,())) (
 bd (cZ.f lf a0.2.2.1) fun r1 =>
 bd (dP.f lf a0.2.1 r1.1) fun r2 =>
 some (r2.1,()))
def E(lf:Nat):Entry:=⟨[yI],[yI],fun x=>f lf x.1⟩
theorem ok(lf:Nat):Ok 265 (E lf):=okT (an:=(annsL [])) (lf:=lf) (tC (dP.ok lf) (tC (cZ.ok lf) tN)) aoN fun x=>by kernel_rfl
end iW
namespace jc
def f(lf:Nat)(a0:TI)(a1:ByteArray):Option (ByteArray×Bool×Unit) :=
 bd (iW.f lf a0) fun r1 =>
 bd (cZ.f lf a1) fun r2 =>
 bd (iE.f lf r1.1 r2.1) fun r3 =>
 br (!r3.2.1) (
 some ((⟨#[]⟩:ByteArray),false,())) (
 bd (cZ.f lf r3.1) fun r4 =>
 some (r4.1,true,()))
def E(lf:Nat):Entry:=⟨[yI,.str],[.str,.bool],fun x=>f lf x.1 x.2.1⟩
theorem ok(lf:Nat):Ok 185 (E lf):=okT (an:=(annsL [])) (lf:=lf) (tC (iE.ok lf) (tC (iW.ok lf) (tC (cZ.ok lf) tN))) aoN fun x=>by kernel_rfl
end jc
namespace kH
def f(lf:Nat)(a0:ByteArray):Option (TI×Unit) :=
 bd (dP.f lf (⟨#[48]⟩:ByteArray) a0) fun r1 =>
 some (r1.1,())
def E(lf:Nat):Entry:=⟨[.str],[yI],fun x=>f lf x.1⟩
theorem ok(lf:Nat):Ok 267 (E lf):=okT (an:=(annsL [])) (lf:=lf) (tC (dP.ok lf) tN) aoN fun x=>by kernel_rfl
end kH
namespace iM
def f(lf:Nat)(a0:ByteArray):Option (Int×Unit) :=
 bd (dK.f lf a0) fun r1 =>
 br (!r1.1) (
 some (3,())) (
 bd (aK.f lf a0) fun r2 =>
 br (decide (r2.1 > 100)) (
 some (10,())) (
 some (0,())))
def E(lf:Nat):Entry:=⟨[.str],[(.int .i64)],fun x=>f lf x.1⟩
theorem ok(lf:Nat):Ok 255 (E lf):=okT (an:=(annsL [])) (lf:=lf) (tC (aK.ok lf) (tC (dK.ok lf) tN)) aoN fun x=>by kernel_rfl
end iM
namespace jd
def f(lf:Nat)(a0:TI):Option (Int×Unit) :=
 br a0.1 (
 br (!(a0.2.1.toList==(⟨#[]⟩:ByteArray).toList)) (
 some (3,())) (
 br (!(a0.2.2.1.toList==(⟨#[]⟩:ByteArray).toList)) (
 some (3,())) (
 some (0,())))) (
 bd (iM.f lf a0.2.1) fun r1 =>
 br (r1.1 != 0) (
 some (r1.1,())) (
 bd (iM.f lf a0.2.2.1) fun r2 =>
 br (r2.1 != 0) (
 some (r2.1,())) (
 bd (dL.f lf a0.2.1) fun r3 =>
 br (decide (r3.1 < 0)) (
 some (2,())) (
 br (!(a0.2.1.toList==(⟨#[48]⟩:ByteArray).toList)) (
 bd (dL.f lf a0.2.2.1) fun r4 =>
 br (decide (r4.1 < 0)) (
 some (2,())) (
 bd (au.f lf a0.2.2.1 a0.2.1) fun r5 =>
 br (!r5.1) (
 some (2,())) (
 some (0,())))) (
 some (0,()))))))
def E(lf:Nat):Entry:=⟨[yI],[(.int .i64)],fun x=>f lf x.1⟩
theorem ok(lf:Nat):Ok 171 (E lf):=okT (an:=(annsL [])) (lf:=lf) (tC (au.ok lf) (tC (dL.ok lf) (tC (iM.ok lf) tN))) aoN fun x=>by kernel_rfl
end jd
namespace dZ
def f(lf:Nat)(a0:ByteArray)(a1:ByteArray):Option (Bool×Unit) :=
 br (a0.toList==(⟨#[48]⟩:ByteArray).toList) (
 some ((a1.toList==(⟨#[48]⟩:ByteArray).toList),())) (
 bd (bP.f lf a1 a0) fun r1 =>
 some ((r1.1.toList==(⟨#[48]⟩:ByteArray).toList),()))
def E(lf:Nat):Entry:=⟨[.str,.str],[.bool],fun x=>f lf x.1 x.2.1⟩
theorem ok(lf:Nat):Ok 173 (E lf):=okT (an:=(annsL [])) (lf:=lf) (tC (bP.ok lf) tN) aoN fun x=>by kernel_rfl
end dZ
namespace eU
def f(lf:Nat)(a0:TI)(a1:ByteArray):Option (Bool×Unit) :=
 br (!a0.1) (
 bd (aP.f lf a1 a0.2.2.1) fun r1 =>
 bd (dZ.f lf a0.2.1 r1.1) fun r2 =>
 some (r2.1,())) (
 some (false,()))
def E(lf:Nat):Entry:=⟨[yI,.str],[.bool],fun x=>f lf x.1 x.2.1⟩
theorem ok(lf:Nat):Ok 172 (E lf):=okT (an:=(annsL [])) (lf:=lf) (tC (dZ.ok lf) (tC (aP.ok lf) tN)) aoN fun x=>by kernel_rfl
end eU
namespace jC
def f(lf:Nat)(a0:TI)(a1:TI):Option (Bool×Unit) :=
 br a0.1 (
 some (true,())) (
 bd (eU.f lf a1 a0.2.2.1) fun r1 =>
 br r1.1 (
 bd (dZ.f lf a1.2.1 a0.2.1) fun r2 =>
 some (r2.1,())) (
 some (false,())))
def E(lf:Nat):Entry:=⟨[yI,yI],[.bool],fun x=>f lf x.1 x.2.1⟩
theorem ok(lf:Nat):Ok 111 (E lf):=okT (an:=(annsL [])) (lf:=lf) (tC (eU.ok lf) (tC (dZ.ok lf) tN)) aoN fun x=>by kernel_rfl
end jC
namespace gZ
def f(lf:Nat)(a0:TI)(a1:TI):Option (TI×Unit) :=
 br a0.1 (
 some (a1,())) (
 br a1.1 (
 some (a0,())) (
 bd (bZ.f lf a0.2.1 a1.2.1) fun r1 =>
 bd (aP.f lf a0.2.2.1 a1.2.2.1) fun r2 =>
 bd (bZ.f lf r1.1 r2.1) fun r3 =>
 bd (dP.f lf r3.1 a0.2.2.1) fun r4 =>
 some (r4.1,())))
def E(lf:Nat):Entry:=⟨[yI,yI],[yI],fun x=>f lf x.1 x.2.1⟩
theorem ok(lf:Nat):Ok 118 (E lf):=okT (an:=(annsL [])) (lf:=lf) (tC (dP.ok lf) (tC (bZ.ok lf) (tC (aP.ok lf) tN))) aoN fun x=>by kernel_rfl
end gZ
namespace kG
def f(lf:Nat)(a0:TI)(a1:TI):Option (TI×Unit) :=
 br a0.1 (
 bd (bT.f lf) fun r1 =>
 some (r1.1,())) (
 br a1.1 (
 bd (bT.f lf) fun r2 =>
 some (r2.1,())) (
 br (a0.2.1.toList==(⟨#[48]⟩:ByteArray).toList) (
 br (!(a0.2.1.toList==(⟨#[48]⟩:ByteArray).toList)) (
 bd (eU.f lf a0 a1.2.2.1) fun r3 =>
 br r3.1 (
 some (a1,())) (
 bd (bT.f lf) fun r4 =>
 some (r4.1,()))) (
 bd (eU.f lf a1 a0.2.2.1) fun r5 =>
 br r5.1 (
 some (a0,())) (
 bd (bT.f lf) fun r6 =>
 some (r6.1,())))) (
 br (a1.2.1.toList==(⟨#[48]⟩:ByteArray).toList) (
 br (!(a0.2.1.toList==(⟨#[48]⟩:ByteArray).toList)) (
 bd (eU.f lf a0 a1.2.2.1) fun r7 =>
 br r7.1 (
 some (a1,())) (
 bd (bT.f lf) fun r8 =>
 some (r8.1,()))) (
 bd (eU.f lf a1 a0.2.2.1) fun r9 =>
 br r9.1 (
 some (a0,())) (
 bd (bT.f lf) fun r10 =>
 some (r10.1,())))) (
 bd (bZ.f lf a0.2.1 a1.2.1) fun r11 =>
 bd (aP.f lf a1.2.2.1 a0.2.2.1) fun r12 =>
 bd (dZ.f lf r11.1 r12.1) fun r13 =>
 br (!r13.1) (
 bd (bT.f lf) fun r14 =>
 some (r14.1,())) (
 bd (bg.f lf a0.2.1 a1.2.1) fun r15 =>
 bd (dn.f lf r12.1 r11.1) fun r16 =>
 bd (bC.f lf r15.1 r16.1) fun r17 =>
 bd (dn.f lf a1.2.1 r11.1) fun r18 =>
 bd (bC.f lf a0.2.1 r18.1) fun r19 =>
 bd (bC.f lf a0.2.1 r17.1) fun r20 =>
 bd (fO.f lf a0.2.2.1 r20.1) fun r21 =>
 bd (dP.f lf r19.1 r21.1) fun r22 =>
 some (r22.1,()))))))
def E(lf:Nat):Entry:=⟨[yI,yI],[yI],fun x=>f lf x.1 x.2.1⟩
theorem ok(lf:Nat):Ok 123 (E lf):=okT (an:=(annsL [])) (lf:=lf) (tC (eU.ok lf) (tC (dZ.ok lf) (tC (dP.ok lf) (tC (bZ.ok lf) (tC (aP.ok lf) (tC (bT.ok lf) (tC (bg.ok lf) (tC (bC.ok lf) (tC (dn.ok lf) (tC (fO.ok lf) tN)))))))))) aoN fun x=>by kernel_rfl
end kG
end
end Go.Q
namespace Go.Q
open Go Go.RowKit
open Go.Rx (br bd sIdx sCat sCut iQuo iRem)
noncomputable section
namespace jf
def f(lf:Nat)  : Option (TV×Unit) :=
 some (((true,(⟨#[]⟩:ByteArray),(⟨#[]⟩:ByteArray),()),(true,(⟨#[]⟩:ByteArray),(⟨#[]⟩:ByteArray),()),()),())
def E(lf:Nat):Entry:=⟨[],[yV],fun x=>f lf⟩
theorem ok(lf:Nat):Ok 158 (E lf):=okT (an:=(annsL [])) (lf:=lf) tN aoN fun x=>by kernel_rfl
end jf
namespace lS
def f(lf:Nat)(a0:ByteArray):Option (TV×Unit) :=
 some (((false,a0,a0,()),(false,(⟨#[48]⟩:ByteArray),a0,()),()),())
def E(lf:Nat):Entry:=⟨[.str],[yV],fun x=>f lf x.1⟩
theorem ok(lf:Nat):Ok 211 (E lf):=okT (an:=(annsL [])) (lf:=lf) tN aoN fun x=>by kernel_rfl
end lS
namespace cO
def f(lf:Nat)(a0:ByteArray):Option (ByteArray×Unit) :=
 bd (strings_TrimPrefix.f lf a0 (⟨#[45]⟩:ByteArray)) fun r1 =>
 br (decide (((r1.1.size:Nat):Int) > 100)) (
 some ((⟨#[]⟩:ByteArray),())) (
 some (a0,()))
def E(lf:Nat):Entry:=⟨[.str],[.str],fun x=>f lf x.1⟩
theorem ok(lf:Nat):Ok 214 (E lf):=okT (an:=(annsL [])) (lf:=lf) (tC (strings_TrimPrefix.ok lf) tN) aoN fun x=>by kernel_rfl
end cO
namespace bD
def f(lf:Nat)(a0:TI)(a1:TI):Option (TV×Unit) :=
 br a0.1 (
 bd (jf.f lf) fun r1 =>
 some (r1.1,())) (
 br a1.1 (
 bd (jf.f lf) fun r2 =>
 some (r2.1,())) (
 br (a1.2.1.toList==(⟨#[48]⟩:ByteArray).toList) (
 bd (mG.f lf a0 a1.2.2.1) fun r3 =>
 br (!r3.1) (
 bd (jf.f lf) fun r4 =>
 some (r4.1,())) (
 bd (lS.f lf a1.2.2.1) fun r5 =>
 some (r5.1,()))) (
 br (!(a0.2.1.toList==(⟨#[]⟩:ByteArray).toList)) (
 bd (kT.f lf a1 a0.2.1) fun r6 =>
 br (!(a0.2.2.1.toList==(⟨#[]⟩:ByteArray).toList)) (
 bd (ja.f lf a1 a0.2.2.1) fun r7 =>
 br (!(r6.1.toList==(⟨#[]⟩:ByteArray).toList)) (
 br (!(r7.1.toList==(⟨#[]⟩:ByteArray).toList)) (
 bd (gq.f lf r6.1 r7.1) fun r8 =>
 br (decide (r8.1 > 0)) (
 bd (jf.f lf) fun r9 =>
 some (r9.1,())) (
 br (r8.1==0) (
 bd (lS.f lf r6.1) fun r10 =>
 some (r10.1,())) (
 bd (cO.f lf r6.1) fun r11 =>
 bd (cO.f lf r7.1) fun r12 =>
 some (((false,r11.1,r12.1,()),a1,()),())))) (
 bd (cO.f lf r6.1) fun r13 =>
 bd (cO.f lf r7.1) fun r14 =>
 some (((false,r13.1,r14.1,()),a1,()),()))) (
 bd (cO.f lf r6.1) fun r15 =>
 bd (cO.f lf r7.1) fun r16 =>
 some (((false,r15.1,r16.1,()),a1,()),()))) (
 br (!(r6.1.toList==(⟨#[]⟩:ByteArray).toList)) (
 br (!(a0.2.2.1.toList==(⟨#[]⟩:ByteArray).toList)) (
 bd (gq.f lf r6.1 a0.2.2.1) fun r17 =>
 br (decide (r17.1 > 0)) (
 bd (jf.f lf) fun r18 =>
 some (r18.1,())) (
 br (r17.1==0) (
 bd (lS.f lf r6.1) fun r19 =>
 some (r19.1,())) (
 bd (cO.f lf r6.1) fun r20 =>
 bd (cO.f lf a0.2.2.1) fun r21 =>
 some (((false,r20.1,r21.1,()),a1,()),())))) (
 bd (cO.f lf r6.1) fun r22 =>
 bd (cO.f lf a0.2.2.1) fun r23 =>
 some (((false,r22.1,r23.1,()),a1,()),()))) (
 bd (cO.f lf r6.1) fun r24 =>
 bd (cO.f lf a0.2.2.1) fun r25 =>
 some (((false,r24.1,r25.1,()),a1,()),())))) (
 br (!(a0.2.2.1.toList==(⟨#[]⟩:ByteArray).toList)) (
 bd (ja.f lf a1 a0.2.2.1) fun r26 =>
 br (!(a0.2.1.toList==(⟨#[]⟩:ByteArray).toList)) (
 br (!(r26.1.toList==(⟨#[]⟩:ByteArray).toList)) (
 bd (gq.f lf a0.2.1 r26.1) fun r27 =>
 br (decide (r27.1 > 0)) (
 bd (jf.f lf) fun r28 =>
 some (r28.1,())) (
 br (r27.1==0) (
 bd (lS.f lf a0.2.1) fun r29 =>
 some (r29.1,())) (
 bd (cO.f lf a0.2.1) fun r30 =>
 bd (cO.f lf r26.1) fun r31 =>
 some (((false,r30.1,r31.1,()),a1,()),())))) (
 bd (cO.f lf a0.2.1) fun r32 =>
 bd (cO.f lf r26.1) fun r33 =>
 some (((false,r32.1,r33.1,()),a1,()),()))) (
 bd (cO.f lf a0.2.1) fun r34 =>
 bd (cO.f lf r26.1) fun r35 =>
 some (((false,r34.1,r35.1,()),a1,()),()))) (
 br (!(a0.2.1.toList==(⟨#[]⟩:ByteArray).toList)) (
 br (!(a0.2.2.1.toList==(⟨#[]⟩:ByteArray).toList)) (
 bd (gq.f lf a0.2.1 a0.2.2.1) fun r36 =>
 br (decide (r36.1 > 0)) (
 bd (jf.f lf) fun r37 =>
 some (r37.1,())) (
 br (r36.1==0) (
 bd (lS.f lf a0.2.1) fun r38 =>
 some (r38.1,())) (
 bd (cO.f lf a0.2.1) fun r39 =>
 bd (cO.f lf a0.2.2.1) fun r40 =>
 some (((false,r39.1,r40.1,()),a1,()),())))) (
 bd (cO.f lf a0.2.1) fun r41 =>
 bd (cO.f lf a0.2.2.1) fun r42 =>
 some (((false,r41.1,r42.1,()),a1,()),()))) (
 bd (cO.f lf a0.2.1) fun r43 =>
 bd (cO.f lf a0.2.2.1) fun r44 =>
 some (((false,r43.1,r44.1,()),a1,()),())))))))
def E(lf:Nat):Entry:=⟨[yI,yI],[yV],fun x=>f lf x.1 x.2.1⟩
theorem ok(lf:Nat):Ok 86 (E lf):=okT (an:=(annsL [])) (lf:=lf) (tC (jf.ok lf) (tC (gq.ok lf) (tC (mG.ok lf) (tC (lS.ok lf) (tC (kT.ok lf) (tC (ja.ok lf) (tC (cO.ok lf) tN))))))) aoN fun x=>by kernel_rfl
end bD
namespace mO
def f(lf:Nat)(a0:TI)(a1:TI):Option (Int×Unit) :=
 bd (aJ.f lf a0) fun r1 =>
 br (r1.1 != 0) (
 some (r1.1,())) (
 bd (dV.f lf a1) fun r2 =>
 some (r2.1,()))
def E(lf:Nat):Entry:=⟨[yI,yI],[(.int .i64)],fun x=>f lf x.1 x.2.1⟩
theorem ok(lf:Nat):Ok 104 (E lf):=okT (an:=(annsL [])) (lf:=lf) (tC (aJ.ok lf) (tC (dV.ok lf) tN)) aoN fun x=>by kernel_rfl
end mO
namespace dS
def f(lf:Nat)(a0:TV):Option (Int×Unit) :=
 bd (mO.f lf a0.1 a0.2.1) fun r1 =>
 br (r1.1 != 0) (
 some (r1.1,())) (
 bd (bD.f lf a0.1 a0.2.1) fun r2 =>
 bd (some (!(((r2.1.1.1==a0.1.1)&&((r2.1.1.2.1==a0.1.2.1)&&((r2.1.1.2.2.1==a0.1.2.2.1)&&true)))&&(((r2.1.2.1.1==a0.2.1.1)&&((r2.1.2.1.2.1==a0.2.1.2.1)&&((r2.1.2.1.2.2.1==a0.2.1.2.2.1)&&true)))&&true)))) fun r3 =>
 br r3 (
 some (3,())) (
 some (0,())))
def E(lf:Nat):Entry:=⟨[yV],[(.int .i64)],fun x=>f lf x.1⟩
theorem ok(lf:Nat):Ok 59 (E lf):=okT (an:=(annsL [])) (lf:=lf) (tC (bD.ok lf) (tC (mO.ok lf) tN)) aoN fun x=>by kernel_rfl
end dS
namespace fD
def f(lf:Nat)(a0:TV)(a1:TV):Option (Int×Unit) :=
 bd (dS.f lf a0) fun r1 =>
 br (r1.1 != 0) (
 some (r1.1,())) (
 bd (dS.f lf a1) fun r2 =>
 some (r2.1,()))
def E(lf:Nat):Entry:=⟨[yV,yV],[(.int .i64)],fun x=>f lf x.1 x.2.1⟩
theorem ok(lf:Nat):Ok 63 (E lf):=okT (an:=(annsL [])) (lf:=lf) (tC (dS.ok lf) tN) aoN fun x=>by kernel_rfl
end fD
namespace pK
def f(lf:Nat)(a0:TV)(a1:TV):Option (Bool×Int×Unit) :=
 bd (fD.f lf a0 a1) fun r1 =>
 br (r1.1 != 0) (
 some (false,r1.1,())) (
 bd (nV.f lf a0.1 a1.1) fun r2 =>
 bd (lZ.f lf a0.2.1 a1.2.1) fun r3 =>
 br r2.1 (
 some (r3.1,0,())) (
 some (false,0,())))
def E(lf:Nat):Entry:=⟨[yV,yV],[.bool,(.int .i64)],fun x=>f lf x.1 x.2.1⟩
theorem ok(lf:Nat):Ok 31 (E lf):=okT (an:=(annsL [])) (lf:=lf) (tC (fD.ok lf) (tC (nV.ok lf) (tC (lZ.ok lf) tN))) aoN fun x=>by kernel_rfl
end pK
namespace mM
def f(lf:Nat)(a0:TV)(a1:TV):Option (TV×Int×Unit) :=
 bd (fD.f lf a0 a1) fun r1 =>
 br (r1.1 != 0) (
 some (((false,(⟨#[]⟩:ByteArray),(⟨#[]⟩:ByteArray),()),(false,(⟨#[]⟩:ByteArray),(⟨#[]⟩:ByteArray),()),()),r1.1,())) (
 bd (mX.f lf a0.1 a1.1) fun r2 =>
 br (r2.2.1 != 0) (
 some (((false,(⟨#[]⟩:ByteArray),(⟨#[]⟩:ByteArray),()),(false,(⟨#[]⟩:ByteArray),(⟨#[]⟩:ByteArray),()),()),r2.2.1,())) (
 bd (jK.f lf a0.2.1 a1.2.1) fun r3 =>
 br (r3.2.1 != 0) (
 some (((false,(⟨#[]⟩:ByteArray),(⟨#[]⟩:ByteArray),()),(false,(⟨#[]⟩:ByteArray),(⟨#[]⟩:ByteArray),()),()),r3.2.1,())) (
 bd (bD.f lf r2.1 r3.1) fun r4 =>
 some (r4.1,0,()))))
def E(lf:Nat):Entry:=⟨[yV,yV],[yV,(.int .i64)],fun x=>f lf x.1 x.2.1⟩
theorem ok(lf:Nat):Ok 35 (E lf):=okT (an:=(annsL [])) (lf:=lf) (tC (fD.ok lf) (tC (mX.ok lf) (tC (jK.ok lf) (tC (bD.ok lf) tN)))) aoN fun x=>by kernel_rfl
end mM
namespace iZ
def f(lf:Nat)(a0:TV)(a1:TV):Option (TV×Int×Unit) :=
 bd (fD.f lf a0 a1) fun r1 =>
 br (r1.1 != 0) (
 some (((false,(⟨#[]⟩:ByteArray),(⟨#[]⟩:ByteArray),()),(false,(⟨#[]⟩:ByteArray),(⟨#[]⟩:ByteArray),()),()),r1.1,())) (
 bd (mZ.f lf a0.1 a1.1) fun r2 =>
 br (r2.2.1 != 0) (
 some (((false,(⟨#[]⟩:ByteArray),(⟨#[]⟩:ByteArray),()),(false,(⟨#[]⟩:ByteArray),(⟨#[]⟩:ByteArray),()),()),r2.2.1,())) (
 bd (lI.f lf a0.2.1 a1.2.1) fun r3 =>
 br (r3.2.1 != 0) (
 some (((false,(⟨#[]⟩:ByteArray),(⟨#[]⟩:ByteArray),()),(false,(⟨#[]⟩:ByteArray),(⟨#[]⟩:ByteArray),()),()),r3.2.1,())) (
 bd (bD.f lf r2.1 r3.1) fun r4 =>
 some (r4.1,0,()))))
def E(lf:Nat):Entry:=⟨[yV,yV],[yV,(.int .i64)],fun x=>f lf x.1 x.2.1⟩
theorem ok(lf:Nat):Ok 37 (E lf):=okT (an:=(annsL [])) (lf:=lf) (tC (fD.ok lf) (tC (mZ.ok lf) (tC (lI.ok lf) (tC (bD.ok lf) tN)))) aoN fun x=>by kernel_rfl
end iZ
namespace nR
def f(lf:Nat)(a0:TV)(a1:TV)(a2:List ByteArray):Option (TV×Int×Unit) :=
 bd (fD.f lf a0 a1) fun r1 =>
 br (r1.1 != 0) (
 some (((false,(⟨#[]⟩:ByteArray),(⟨#[]⟩:ByteArray),()),(false,(⟨#[]⟩:ByteArray),(⟨#[]⟩:ByteArray),()),()),r1.1,())) (
 bd (aU.f lf a0.1 a1.1 a2) fun r2 =>
 br (r2.2.1 != 0) (
 some (((false,(⟨#[]⟩:ByteArray),(⟨#[]⟩:ByteArray),()),(false,(⟨#[]⟩:ByteArray),(⟨#[]⟩:ByteArray),()),()),r2.2.1,())) (
 br a0.1.1 (
 some (a1,0,())) (
 br a1.1.1 (
 some (a0,0,())) (
 bd (jK.f lf a0.2.1 a1.2.1) fun r3 =>
 br (r3.2.1 != 0) (
 some (((false,(⟨#[]⟩:ByteArray),(⟨#[]⟩:ByteArray),()),(false,(⟨#[]⟩:ByteArray),(⟨#[]⟩:ByteArray),()),()),r3.2.1,())) (
 bd (bD.f lf r2.1 r3.1) fun r4 =>
 some (r4.1,0,()))))))
def E(lf:Nat):Entry:=⟨[yV,yV,(.sl .str)],[yV,(.int .i64)],fun x=>f lf x.1 x.2.1 x.2.2.1⟩
theorem ok(lf:Nat):Ok 42 (E lf):=okT (an:=(annsL [])) (lf:=lf) (tC (aU.ok lf) (tC (fD.ok lf) (tC (jK.ok lf) (tC (bD.ok lf) tN)))) aoN fun x=>by kernel_rfl
end nR
namespace mV
def f(lf:Nat)(a0:TV)(a1:TV):Option (TV×Int×Unit) :=
 bd (fD.f lf a0 a1) fun r1 =>
 br (r1.1 != 0) (
 some (((false,(⟨#[]⟩:ByteArray),(⟨#[]⟩:ByteArray),()),(false,(⟨#[]⟩:ByteArray),(⟨#[]⟩:ByteArray),()),()),r1.1,())) (
 bd (lJ.f lf a0.1 a1.1) fun r2 =>
 br (r2.2.1 != 0) (
 some (((false,(⟨#[]⟩:ByteArray),(⟨#[]⟩:ByteArray),()),(false,(⟨#[]⟩:ByteArray),(⟨#[]⟩:ByteArray),()),()),r2.2.1,())) (
 br (a0.2.1.2.1.toList==(⟨#[49]⟩:ByteArray).toList) (
 bd (bD.f lf r2.1 a1.2.1) fun r3 =>
 some (r3.1,0,())) (
 bd (bD.f lf r2.1 a0.2.1) fun r4 =>
 some (r4.1,0,()))))
def E(lf:Nat):Entry:=⟨[yV,yV],[yV,(.int .i64)],fun x=>f lf x.1 x.2.1⟩
theorem ok(lf:Nat):Ok 45 (E lf):=okT (an:=(annsL [])) (lf:=lf) (tC (fD.ok lf) (tC (bD.ok lf) (tC (lJ.ok lf) tN))) aoN fun x=>by kernel_rfl
end mV
namespace xK
def l:List ((ByteArray×Unit)×(TV×Int×Unit)):=[((ck_c.c2,()),(ck_c.c14,0,())),((ck_c.c5,()),(ck_c.c17,0,())),((ck_c.c25,()),(ck_c.c29,0,())),((ck_c.c37,()),(ck_c.c39,0,())),((ck_c.c8,()),(ck_c.c44,0,())),((ck_c.c55,()),(ck_c.c57,0,()))]
def f(lf:Nat)(a0:ByteArray):Option (TV×Int×Unit):=pick [.str] l (a0,())
def E(lf:Nat):Entry:=⟨[.str],[yV,(.int .i64)],fun x=>f lf x.1⟩
def tb(lf:Nat):List (FuncId×Entry):=[(207,cu.E lf),(211,lS.E lf),(214,cO.E lf)]
abbrev an:FuncId→FA:=annsL []
theorem ok(lf:Nat):Ok 144 (E lf):=okP (an:=an) (tb:=tb lf) (lf:=lf) (tC (cu.ok lf) (tC (lS.ok lf) (tC (cO.ok lf) tN))) aoN (l:=l) (fun _=>rfl) (fun _=>rfl) ⟨by as_aux_lemma=>kernel_rfl,by as_aux_lemma=>kernel_rfl,by as_aux_lemma=>kernel_rfl,by as_aux_lemma=>kernel_rfl,by as_aux_lemma=>kernel_rfl,by as_aux_lemma=>kernel_rfl,trivial⟩
end xK
namespace qc
def l:List ((TI×TI×Unit)×(TV×Int×Unit)):=[(((false,ck_c.c59,ck_c.c37,()),(false,ck_c.c5,ck_c.c8,()),()),(ck_c.c60,0,()))]
def f(lf:Nat)(a0:TI)(a1:TI):Option (TV×Int×Unit):=pick [yI,yI] l (a0,a1,())
def E(lf:Nat):Entry:=⟨[yI,yI],[yV,(.int .i64)],fun x=>f lf x.1 x.2.1⟩
def tb(lf:Nat):List (FuncId×Entry):=[(86,bD.E lf),(104,mO.E lf)]
abbrev an:FuncId→FA:=annsL []
theorem ok(lf:Nat):Ok 312 (E lf):=okP (an:=an) (tb:=tb lf) (lf:=lf) (tC (bD.ok lf) (tC (mO.ok lf) tN)) aoN (l:=l) (fun _=>rfl) (fun _=>rfl) ⟨by as_aux_lemma=>kernel_rfl,trivial⟩
end qc
namespace oD
def l:List ((TV×Unit)×(ByteArray×Bool×Int×Unit)):=[((ck_c.c14,()),(ck_c.c2,true,0,()))]
def f(lf:Nat)(a0:TV):Option (ByteArray×Bool×Int×Unit):=pick [yV] l (a0,())
def E(lf:Nat):Entry:=⟨[yV],[.str,.bool,(.int .i64)],fun x=>f lf x.1⟩
def tb(lf:Nat):List (FuncId×Entry):=[(59,dS.E lf)]
abbrev an:FuncId→FA:=annsL []
theorem ok(lf:Nat):Ok 247 (E lf):=okP (an:=an) (tb:=tb lf) (lf:=lf) (tC (dS.ok lf) tN) aoN (l:=l) (fun _=>rfl) (fun _=>rfl) ⟨by as_aux_lemma=>kernel_rfl,trivial⟩
end oD
end
end Go.Q
namespace Go.Q
open Go Go.RowKit
open Go.Rx (br bd sIdx sCat sCut iQuo iRem)
noncomputable section
namespace mJ
def l:List ((Int×TV×TV×Unit)×(TV×Int×Unit)):=[((5,ck_c.c10,ck_c.c14,()),(ck_c.c16,0,())),((3,ck_c.c16,ck_c.c17,()),(ck_c.c19,0,())),((6,ck_c.c10,ck_c.c12,()),(ck_c.c22,0,())),((3,ck_c.c10,ck_c.c12,()),(ck_c.c28,0,())),((4,ck_c.c12,ck_c.c12,()),(ck_c.c31,0,())),((4,ck_c.c12,ck_c.c10,()),(ck_c.c34,0,())),((5,ck_c.c14,ck_c.c10,()),(ck_c.c16,0,())),((6,ck_c.c10,ck_c.c14,()),(ck_c.c22,0,())),((4,ck_c.c10,ck_c.c17,()),(ck_c.c65,0,())),((3,ck_c.c12,ck_c.c17,()),(ck_c.c66,0,())),((4,ck_c.c10,ck_c.c12,()),(ck_c.c68,0,()))]
def f(lf:Nat)(a0:Int)(a1:TV)(a2:TV):Option (TV×Int×Unit):=pick [(.int .i64),yV,yV] l (a0,a1,a2,())
def E(lf:Nat):Entry:=⟨[(.int .i64),yV,yV],[yV,(.int .i64)],fun x=>f lf x.1 x.2.1 x.2.2.1⟩
def tb(lf:Nat):List (FuncId×Entry):=[(63,fD.E lf),(79,aF.E lf),(80,aA.E lf),(81,aY.E lf),(82,ah.E lf),(83,aC.E lf),(84,aH.E lf),(85,aT.E lf),(86,bD.E lf),(106,dw.E lf),(113,dB.E lf),(114,dN.E lf),(115,dm.E lf),(119,dG.E lf),(124,aJ.E lf),(126,bV.E lf),(127,dI.E lf),(128,gX.E lf),(169,fE.E lf),(175,iF.E lf),(177,iT.E lf),(179,fK.E lf),(181,gV.E lf),(193,bY.E lf),(195,jy.E lf),(196,jJ.E lf),(198,jX.E lf),(252,jI.E lf),(253,iC.E lf)]
abbrev an:FuncId→FA:=annsL [(231,⟨annOf [(0,⟨kx 35 [3,7],[],[]⟩,⟨[],[],[]⟩)],none,[]⟩)]
theorem ok(lf:Nat):Ok 98 (E lf):=okP (an:=an) (tb:=tb lf) (lf:=lf) (tC (fD.ok lf) (tC (aF.ok lf) (tC (aA.ok lf) (tC (aY.ok lf) (tC (ah.ok lf) (tC (aC.ok lf) (tC (aH.ok lf) (tC (aT.ok lf) (tC (bD.ok lf) (tC (dw.ok lf) (tC (dB.ok lf) (tC (dN.ok lf) (tC (dm.ok lf) (tC (dG.ok lf) (tC (aJ.ok lf) (tC (bV.ok lf) (tC (dI.ok lf) (tC (gX.ok lf) (tC (fE.ok lf) (tC (iF.ok lf) (tC (iT.ok lf) (tC (fK.ok lf) (tC (gV.ok lf) (tC (bY.ok lf) (tC (jy.ok lf) (tC (jJ.ok lf) (tC (jX.ok lf) (tC (jI.ok lf) (tC (iC.ok lf) tN))))))))))))))))))))))))))))) (aoC aoN) (l:=l) (fun _=>rfl) (fun _=>rfl) ⟨by as_aux_lemma=>kernel_rfl,by as_aux_lemma=>kernel_rfl,by as_aux_lemma=>kernel_rfl,by as_aux_lemma=>kernel_rfl,by as_aux_lemma=>kernel_rfl,by as_aux_lemma=>kernel_rfl,by as_aux_lemma=>kernel_rfl,by as_aux_lemma=>kernel_rfl,by as_aux_lemma=>kernel_rfl,by as_aux_lemma=>kernel_rfl,by as_aux_lemma=>kernel_rfl,trivial⟩
end mJ
namespace qZ
def l:List ((Int×TV×TV×Unit)×(TV×TV×Int×Unit)):=[((4,ck_c.c28,ck_c.c29,()),(ck_c.c12,ck_c.c29,0,())),((2,ck_c.c16,ck_c.c39,()),(ck_c.c40,ck_c.c40,0,())),((4,ck_c.c10,ck_c.c44,()),(ck_c.c40,ck_c.c40,0,())),((4,ck_c.c44,ck_c.c10,()),(ck_c.c44,ck_c.c45,0,())),((4,ck_c.c10,ck_c.c14,()),(ck_c.c50,ck_c.c14,0,())),((4,ck_c.c39,ck_c.c10,()),(ck_c.c39,ck_c.c53,0,()))]
def f(lf:Nat)(a0:Int)(a1:TV)(a2:TV):Option (TV×TV×Int×Unit):=pick [(.int .i64),yV,yV] l (a0,a1,a2,())
def E(lf:Nat):Entry:=⟨[(.int .i64),yV,yV],[yV,yV,(.int .i64)],fun x=>f lf x.1 x.2.1 x.2.2.1⟩
def tb(lf:Nat):List (FuncId×Entry):=[(37,iZ.E lf),(63,fD.E lf),(79,aF.E lf),(80,aA.E lf),(82,ah.E lf),(85,aT.E lf),(86,bD.E lf),(119,dG.E lf),(124,aJ.E lf),(127,dI.E lf),(128,gX.E lf),(129,jr.E lf),(158,jf.E lf),(181,gV.E lf),(253,iC.E lf)]
abbrev an:FuncId→FA:=annsL []
theorem ok(lf:Nat):Ok 100 (E lf):=okP (an:=an) (tb:=tb lf) (lf:=lf) (tC (iZ.ok lf) (tC (fD.ok lf) (tC (aF.ok lf) (tC (aA.ok lf) (tC (ah.ok lf) (tC (aT.ok lf) (tC (bD.ok lf) (tC (dG.ok lf) (tC (aJ.ok lf) (tC (dI.ok lf) (tC (gX.ok lf) (tC (jr.ok lf) (tC (jf.ok lf) (tC (gV.ok lf) (tC (iC.ok lf) tN))))))))))))))) aoN (l:=l) (fun _=>rfl) (fun _=>rfl) ⟨by as_aux_lemma=>kernel_rfl,by as_aux_lemma=>kernel_rfl,by as_aux_lemma=>kernel_rfl,by as_aux_lemma=>kernel_rfl,by as_aux_lemma=>kernel_rfl,by as_aux_lemma=>kernel_rfl,trivial⟩
end qZ
end
end Go.Q
namespace Go.Q
open Go Go.RowKit
open Go.Rx (br bd sIdx sCat sCut iQuo iRem)
noncomputable section
namespace jF
def f(lf:Nat)(a0:TV)(a1:TV):Option (Bool×Unit) :=
 bd (kE.f lf a0.1 a1.1) fun r1 =>
 br r1.1 (
 bd (jE.f lf a0.2.1) fun r2 =>
 br r2.1 (
 bd (jE.f lf a1.2.1) fun r3 =>
 some (r3.1,())) (
 some (false,()))) (
 some (false,()))
def E(lf:Nat):Entry:=⟨[yV,yV],[.bool],fun x=>f lf x.1 x.2.1⟩
theorem ok(lf:Nat):Ok 17 (E lf):=okT (an:=(annsL [])) (lf:=lf) (tC (kE.ok lf) (tC (jE.ok lf) tN)) aoN fun x=>by kernel_rfl
end jF
namespace eG
def f(lf:Nat)  : Option (TV×Unit) :=
 bd (bJ.f lf) fun r1 =>
 bd (bT.f lf) fun r2 =>
 some ((r1.1,r2.1,()),())
def E(lf:Nat):Entry:=⟨[],[yV],fun x=>f lf⟩
theorem ok(lf:Nat):Ok 182 (E lf):=okT (an:=(annsL [])) (lf:=lf) (tC (bJ.ok lf) (tC (bT.ok lf) tN)) aoN fun x=>by kernel_rfl
end eG
namespace oq
def f(lf:Nat)  : Option (TV×Unit) :=
 bd (dX.f lf) fun r1 =>
 some (((false,(⟨#[]⟩:ByteArray),(⟨#[]⟩:ByteArray),()),r1.1,()),())
def E(lf:Nat):Entry:=⟨[],[yV],fun x=>f lf⟩
theorem ok(lf:Nat):Ok 268 (E lf):=okT (an:=(annsL [])) (lf:=lf) (tC (dX.ok lf) tN) aoN fun x=>by kernel_rfl
end oq
namespace iY
def f(lf:Nat)(a0:ByteArray):Option (TV×Unit) :=
 bd (kH.f lf a0) fun r1 =>
 br (!(r1.1.2.1.toList==(⟨#[48]⟩:ByteArray).toList)) (
 bd (oq.f lf) fun r2 =>
 some (r2.1,())) (
 some (((false,a0,a0,()),r1.1,()),()))
def E(lf:Nat):Entry:=⟨[.str],[yV],fun x=>f lf x.1⟩
theorem ok(lf:Nat):Ok 186 (E lf):=okT (an:=(annsL [])) (lf:=lf) (tC (kH.ok lf) (tC (oq.ok lf) tN)) aoN fun x=>by kernel_rfl
end iY
namespace bK
def f(lf:Nat)(a0:TI)(a1:TI):Option (TV×Unit) :=
 br a0.1 (
 bd (eG.f lf) fun r1 =>
 some (r1.1,())) (
 br a1.1 (
 bd (eG.f lf) fun r2 =>
 some (r2.1,())) (
 br (a1.2.1.toList==(⟨#[48]⟩:ByteArray).toList) (
 bd (kZ.f lf a0 a1.2.2.1) fun r3 =>
 br (!r3.1) (
 bd (eG.f lf) fun r4 =>
 some (r4.1,())) (
 some (((false,a1.2.2.1,a1.2.2.1,()),a1,()),()))) (
 br (!(a0.2.1.toList==(⟨#[]⟩:ByteArray).toList)) (
 bd (iE.f lf a1 a0.2.1) fun r5 =>
 br (!(a0.2.2.1.toList==(⟨#[]⟩:ByteArray).toList)) (
 bd (jc.f lf a1 a0.2.2.1) fun r6 =>
 br (!(r5.1.toList==(⟨#[]⟩:ByteArray).toList)) (
 br (!(r6.1.toList==(⟨#[]⟩:ByteArray).toList)) (
 bd (au.f lf r6.1 r5.1) fun r7 =>
 br r7.1 (
 bd (eG.f lf) fun r8 =>
 some (r8.1,())) (
 br (r5.1.toList==r6.1.toList) (
 bd (iY.f lf r5.1) fun r9 =>
 some (r9.1,())) (
 bd (aI.f lf r5.1 r6.1) fun r10 =>
 some ((r10.1,a1,()),())))) (
 bd (aI.f lf r5.1 r6.1) fun r11 =>
 some ((r11.1,a1,()),()))) (
 bd (aI.f lf r5.1 r6.1) fun r12 =>
 some ((r12.1,a1,()),()))) (
 br (!(r5.1.toList==(⟨#[]⟩:ByteArray).toList)) (
 br (!(a0.2.2.1.toList==(⟨#[]⟩:ByteArray).toList)) (
 bd (au.f lf a0.2.2.1 r5.1) fun r13 =>
 br r13.1 (
 bd (eG.f lf) fun r14 =>
 some (r14.1,())) (
 br (r5.1.toList==a0.2.2.1.toList) (
 bd (iY.f lf r5.1) fun r15 =>
 some (r15.1,())) (
 bd (aI.f lf r5.1 a0.2.2.1) fun r16 =>
 some ((r16.1,a1,()),())))) (
 bd (aI.f lf r5.1 a0.2.2.1) fun r17 =>
 some ((r17.1,a1,()),()))) (
 bd (aI.f lf r5.1 a0.2.2.1) fun r18 =>
 some ((r18.1,a1,()),())))) (
 br (!(a0.2.2.1.toList==(⟨#[]⟩:ByteArray).toList)) (
 bd (jc.f lf a1 a0.2.2.1) fun r19 =>
 br (!(a0.2.1.toList==(⟨#[]⟩:ByteArray).toList)) (
 br (!(r19.1.toList==(⟨#[]⟩:ByteArray).toList)) (
 bd (au.f lf r19.1 a0.2.1) fun r20 =>
 br r20.1 (
 bd (eG.f lf) fun r21 =>
 some (r21.1,())) (
 br (a0.2.1.toList==r19.1.toList) (
 bd (iY.f lf a0.2.1) fun r22 =>
 some (r22.1,())) (
 bd (aI.f lf a0.2.1 r19.1) fun r23 =>
 some ((r23.1,a1,()),())))) (
 bd (aI.f lf a0.2.1 r19.1) fun r24 =>
 some ((r24.1,a1,()),()))) (
 bd (aI.f lf a0.2.1 r19.1) fun r25 =>
 some ((r25.1,a1,()),()))) (
 br (!(a0.2.1.toList==(⟨#[]⟩:ByteArray).toList)) (
 br (!(a0.2.2.1.toList==(⟨#[]⟩:ByteArray).toList)) (
 bd (au.f lf a0.2.2.1 a0.2.1) fun r26 =>
 br r26.1 (
 bd (eG.f lf) fun r27 =>
 some (r27.1,())) (
 br (a0.2.1.toList==a0.2.2.1.toList) (
 bd (iY.f lf a0.2.1) fun r28 =>
 some (r28.1,())) (
 bd (aI.f lf a0.2.1 a0.2.2.1) fun r29 =>
 some ((r29.1,a1,()),())))) (
 bd (aI.f lf a0.2.1 a0.2.2.1) fun r30 =>
 some ((r30.1,a1,()),()))) (
 bd (aI.f lf a0.2.1 a0.2.2.1) fun r31 =>
 some ((r31.1,a1,()),())))))))
def E(lf:Nat):Entry:=⟨[yI,yI],[yV],fun x=>f lf x.1 x.2.1⟩
theorem ok(lf:Nat):Ok 116 (E lf):=okT (an:=(annsL [])) (lf:=lf) (tC (au.ok lf) (tC (eG.ok lf) (tC (kZ.ok lf) (tC (iE.ok lf) (tC (jc.ok lf) (tC (iY.ok lf) (tC (aI.ok lf) tN))))))) aoN fun x=>by kernel_rfl
end bK
namespace gQ
def f(lf:Nat)(a0:TV):Option (Int×Unit) :=
 bd (jb.f lf a0.1) fun r1 =>
 br (r1.1 != 0) (
 some (r1.1,())) (
 bd (jd.f lf a0.2.1) fun r2 =>
 br (r2.1 != 0) (
 some (r2.1,())) (
 bd (bK.f lf a0.1 a0.2.1) fun r3 =>
 bd (some (!(((r3.1.1.1==a0.1.1)&&((r3.1.1.2.1==a0.1.2.1)&&((r3.1.1.2.2.1==a0.1.2.2.1)&&true)))&&(((r3.1.2.1.1==a0.2.1.1)&&((r3.1.2.1.2.1==a0.2.1.2.1)&&((r3.1.2.1.2.2.1==a0.2.1.2.2.1)&&true)))&&true)))) fun r4 =>
 br r4 (
 some (3,())) (
 some (0,()))))
def E(lf:Nat):Entry:=⟨[yV],[(.int .i64)],fun x=>f lf x.1⟩
theorem ok(lf:Nat):Ok 108 (E lf):=okT (an:=(annsL [])) (lf:=lf) (tC (bK.ok lf) (tC (jb.ok lf) (tC (jd.ok lf) tN))) aoN fun x=>by kernel_rfl
end gQ
namespace iO
def f(lf:Nat)(a0:TV)(a1:TV):Option (Bool×Unit) :=
 bd (jB.f lf a0.1 a1.1) fun r1 =>
 br r1.1 (
 bd (jC.f lf a0.2.1 a1.2.1) fun r2 =>
 some (r2.1,())) (
 some (false,()))
def E(lf:Nat):Entry:=⟨[yV,yV],[.bool],fun x=>f lf x.1 x.2.1⟩
theorem ok(lf:Nat):Ok 67 (E lf):=okT (an:=(annsL [])) (lf:=lf) (tC (jB.ok lf) (tC (jC.ok lf) tN)) aoN fun x=>by kernel_rfl
end iO
namespace iP
def f(lf:Nat)(a0:TV)(a1:TV):Option (TV×Unit) :=
 bd (gY.f lf a0.1 a1.1) fun r1 =>
 bd (gZ.f lf a0.2.1 a1.2.1) fun r2 =>
 bd (bK.f lf r1.1 r2.1) fun r3 =>
 some (r3.1,())
def E(lf:Nat):Entry:=⟨[yV,yV],[yV],fun x=>f lf x.1 x.2.1⟩
theorem ok(lf:Nat):Ok 72 (E lf):=okT (an:=(annsL [])) (lf:=lf) (tC (bK.ok lf) (tC (gY.ok lf) (tC (gZ.ok lf) tN))) aoN fun x=>by kernel_rfl
end iP
namespace jG
def f(lf:Nat)(a0:TV)(a1:TV):Option (TV×Unit) :=
 bd (kF.f lf a0.1 a1.1) fun r1 =>
 bd (kG.f lf a0.2.1 a1.2.1) fun r2 =>
 bd (bK.f lf r1.1 r2.1) fun r3 =>
 some (r3.1,())
def E(lf:Nat):Entry:=⟨[yV,yV],[yV],fun x=>f lf x.1 x.2.1⟩
theorem ok(lf:Nat):Ok 75 (E lf):=okT (an:=(annsL [])) (lf:=lf) (tC (bK.ok lf) (tC (kF.ok lf) (tC (kG.ok lf) tN))) aoN fun x=>by kernel_rfl
end jG
namespace iI
def f(lf:Nat)(a0:TV)(a1:TV)(a2:List ByteArray):Option (TV×Unit) :=
 bd (jh.f lf a0.1 a1.1 a2) fun r1 =>
 bd (gZ.f lf a0.2.1 a1.2.1) fun r2 =>
 bd (bK.f lf r1.1 r2.1) fun r3 =>
 some (r3.1,())
def E(lf:Nat):Entry:=⟨[yV,yV,(.sl .str)],[yV],fun x=>f lf x.1 x.2.1 x.2.2.1⟩
theorem ok(lf:Nat):Ok 89 (E lf):=okT (an:=(annsL [])) (lf:=lf) (tC (bK.ok lf) (tC (gZ.ok lf) (tC (jh.ok lf) tN))) aoN fun x=>by kernel_rfl
end iI
namespace iw
def f(lf:Nat)(a0:TV)(a1:TV):Option (TV×Unit) :=
 bd (dX.f lf) fun r1 =>
 bd (some ((a0.2.1.1==r1.1.1)&&((a0.2.1.2.1==r1.1.2.1)&&((a0.2.1.2.2.1==r1.1.2.2.1)&&true)))) fun r2 =>
 br r2 (
 bd (iq.f lf a0.1 a1.1) fun r3 =>
 bd (bK.f lf r3.1 a1.2.1) fun r4 =>
 some (r4.1,())) (
 bd (iq.f lf a0.1 a1.1) fun r5 =>
 bd (bK.f lf r5.1 a0.2.1) fun r6 =>
 some (r6.1,()))
def E(lf:Nat):Entry:=⟨[yV,yV],[yV],fun x=>f lf x.1 x.2.1⟩
theorem ok(lf:Nat):Ok 91 (E lf):=okT (an:=(annsL [])) (lf:=lf) (tC (bK.ok lf) (tC (dX.ok lf) (tC (iq.ok lf) tN))) aoN fun x=>by kernel_rfl
end iw
end
end Go.Q
