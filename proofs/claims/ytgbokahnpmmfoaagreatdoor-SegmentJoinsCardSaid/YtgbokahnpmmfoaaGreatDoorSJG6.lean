import Derived.Test.YtgbokahnpmmfoaaGreatDoorProg
import Derived.KernelRfl
import Derived.Test.YtgbokahnpmmfoaaGreatDoorSJE3
import Derived.Test.YtgbokahnpmmfoaaGreatDoorSJG1
import Derived.Test.YtgbokahnpmmfoaaGreatDoorSJG3
import Derived.Test.YtgbokahnpmmfoaaGreatDoorSJG4
import Derived.Test.YtgbokahnpmmfoaaGreatDoorSJG5
set_option linter.unusedVariables false
set_option linter.unusedSimpArgs false
set_option linter.unusedSectionVars false
set_option maxRecDepth 100000
namespace Go.Q
open Go Go.RowKit
open Go.Rx (br bd sIdx sCat sCut iQuo iRem)
noncomputable section
namespace fJ
def f(lf:Nat)(a0:ByteArray):Option (Bool×Unit) :=
 bd (strings_TrimPrefix.f lf a0 (⟨#[45]⟩:ByteArray)) fun r1 =>
 some ((decide (((r1.1.size:Nat):Int) > 100)),())
def E(lf:Nat):Entry:=⟨[.str],[.bool],fun x=>f lf x.1⟩
theorem ok(lf:Nat):Ok 227 (E lf):=okT (an:=(annsL [])) (lf:=lf) (tC (strings_TrimPrefix.ok lf) tN) aoN fun x=>by kernel_rfl
end fJ
namespace jA
def f(lf:Nat)(a0:ByteArray):Option (Int×Unit) :=
 bd (bK.f lf a0) fun r1 =>
 br (r1.1==10) (
 some (10,())) (
 br (r1.1==0) (
 bd (fJ.f lf a0) fun r2 =>
 br r2.1 (
 some (10,())) (
 br (r1.1 != 0) (
 some (r1.1,())) (
 some (0,())))) (
 br (r1.1 != 0) (
 some (r1.1,())) (
 some (0,()))))
def E(lf:Nat):Entry:=⟨[.str],[(.int .i64)],fun x=>f lf x.1⟩
theorem ok(lf:Nat):Ok 255 (E lf):=okT (an:=(annsL [])) (lf:=lf) (tC (bK.ok lf) (tC (fJ.ok lf) tN)) aoN fun x=>by kernel_rfl
end jA
namespace kY
def f(lf:Nat)(a0:Int)(a1:Int):Option (Int×Unit) :=
 some (a0,())
def E(lf:Nat):Entry:=⟨[(.int .i64),(.int .i64)],[(.int .i64)],fun x=>f lf x.1 x.2.1⟩
theorem ok(lf:Nat):Ok 294 (E lf):=okT (an:=(annsL [])) (lf:=lf) tN aoN fun x=>by kernel_rfl
end kY
namespace fH
def f(lf:Nat)(a0:ByteArray)(a1:ByteArray):Option (Bool×Unit) :=
 bd (fG.f lf a0 a1) fun r1 =>
 bd (kY.f lf r1.1 r1.2.1) fun r2 =>
 some ((decide (r2.1 < 0)),())
def E(lf:Nat):Entry:=⟨[.str,.str],[.bool],fun x=>f lf x.1 x.2.1⟩
theorem ok(lf:Nat):Ok 256 (E lf):=okT (an:=(annsL [])) (lf:=lf) (tC (fG.ok lf) (tC (kY.ok lf) tN)) aoN fun x=>by kernel_rfl
end fH
namespace aZ
def f(lf:Nat)(a0:TI):Option (Int×Unit) :=
 br a0.1 (
 br (!(a0.2.1.toList==(⟨#[]⟩:ByteArray).toList)) (
 some (3,())) (
 br (!(a0.2.2.1.toList==(⟨#[]⟩:ByteArray).toList)) (
 some (3,())) (
 some (0,())))) (
 bd (jA.f lf a0.2.1) fun r1 =>
 br (r1.1 != 0) (
 some (r1.1,())) (
 bd (jA.f lf a0.2.2.1) fun r2 =>
 br (r2.1 != 0) (
 some (r2.1,())) (
 bd (fH.f lf a0.2.1 (⟨#[48]⟩:ByteArray)) fun r3 =>
 br r3.1 (
 some (2,())) (
 br (!(a0.2.1.toList==(⟨#[48]⟩:ByteArray).toList)) (
 bd (fH.f lf a0.2.2.1 (⟨#[48]⟩:ByteArray)) fun r4 =>
 br r4.1 (
 some (2,())) (
 bd (fH.f lf a0.2.2.1 a0.2.1) fun r5 =>
 br (!r5.1) (
 some (2,())) (
 some (0,())))) (
 some (0,()))))))
def E(lf:Nat):Entry:=⟨[yI],[(.int .i64)],fun x=>f lf x.1⟩
theorem ok(lf:Nat):Ok 191 (E lf):=okT (an:=(annsL [])) (lf:=lf) (tC (jA.ok lf) (tC (fH.ok lf) tN)) aoN fun x=>by kernel_rfl
end aZ
namespace gu
def f(lf:Nat)(a0:ByteArray)(a1:ByteArray):Option (ByteArray×Unit) :=
 bd (nU.f lf a0 a1) fun r1 =>
 bd (fM.f lf r1.1 r1.2.1) fun r2 =>
 some (r2.1,())
def E(lf:Nat):Entry:=⟨[.str,.str],[.str],fun x=>f lf x.1 x.2.1⟩
theorem ok(lf:Nat):Ok 172 (E lf):=okT (an:=(annsL [])) (lf:=lf) (tC (fM.ok lf) (tC (nU.ok lf) tN)) aoN fun x=>by kernel_rfl
end gu
namespace iL
def f(lf:Nat)(a0:ByteArray)(a1:ByteArray)(a2:ByteArray):Option (ByteArray×Int×Unit) :=
 bd (fU.f lf a0 a2) fun r1 =>
 br (r1.2.1 != 0) (
 some ((⟨#[]⟩:ByteArray),r1.2.1,())) (
 bd (fU.f lf a1 a2) fun r2 =>
 br (r2.2.1 != 0) (
 some ((⟨#[]⟩:ByteArray),r2.2.1,())) (
 bd (gu.f lf r1.1 r2.1) fun r3 =>
 bd (fU.f lf r3.1 a2) fun r4 =>
 some (r4.1,r4.2.1,())))
def E(lf:Nat):Entry:=⟨[.str,.str,.str],[.str,(.int .i64)],fun x=>f lf x.1 x.2.1 x.2.2.1⟩
theorem ok(lf:Nat):Ok 302 (E lf):=okT (an:=(annsL [])) (lf:=lf) (tC (gu.ok lf) (tC (fU.ok lf) tN)) aoN fun x=>by kernel_rfl
end iL
namespace lF
def f(lf:Nat)(a0:TI)(a1:ByteArray):Option (ByteArray×Int×Unit) :=
 bd (aZ.f lf a0) fun r1 =>
 br (r1.1 != 0) (
 some ((⟨#[]⟩:ByteArray),r1.1,())) (
 bd (bK.f lf a1) fun r2 =>
 br (r2.1 != 0) (
 some ((⟨#[]⟩:ByteArray),r2.1,())) (
 br a0.1 (
 some ((⟨#[]⟩:ByteArray),16,())) (
 br (!(a0.2.1.toList==(⟨#[48]⟩:ByteArray).toList)) (
 bd (iL.f lf a0.2.2.1 a1 a0.2.1) fun r3 =>
 br (r3.2.1 != 0) (
 some ((⟨#[]⟩:ByteArray),r3.2.1,())) (
 bd (mP.f lf a1 r3.1) fun r4 =>
 some (r4.1,r4.2.1,()))) (
 bd (fH.f lf a0.2.2.1 a1) fun r5 =>
 br r5.1 (
 some ((⟨#[]⟩:ByteArray),6,())) (
 some (a0.2.2.1,0,()))))))
def E(lf:Nat):Entry:=⟨[yI,.str],[.str,(.int .i64)],fun x=>f lf x.1 x.2.1⟩
theorem ok(lf:Nat):Ok 266 (E lf):=okT (an:=(annsL [])) (lf:=lf) (tC (bK.ok lf) (tC (aZ.ok lf) (tC (fH.ok lf) (tC (mP.ok lf) (tC (iL.ok lf) tN))))) aoN fun x=>by kernel_rfl
end lF
namespace iW
def f(lf:Nat)(a0:TI)(a1:ByteArray):Option (ByteArray×Int×Unit) :=
 bd (aZ.f lf a0) fun r1 =>
 br (r1.1 != 0) (
 some ((⟨#[]⟩:ByteArray),r1.1,())) (
 bd (bK.f lf a1) fun r2 =>
 br (r2.1 != 0) (
 some ((⟨#[]⟩:ByteArray),r2.1,())) (
 br a0.1 (
 some ((⟨#[]⟩:ByteArray),16,())) (
 br (!(a0.2.1.toList==(⟨#[48]⟩:ByteArray).toList)) (
 bd (iL.f lf a1 a0.2.2.1 a0.2.1) fun r3 =>
 br (r3.2.1 != 0) (
 some ((⟨#[]⟩:ByteArray),r3.2.1,())) (
 bd (nU.f lf a1 r3.1) fun r4 =>
 some (r4.1,r4.2.1,()))) (
 bd (fH.f lf a1 a0.2.2.1) fun r5 =>
 br r5.1 (
 some ((⟨#[]⟩:ByteArray),6,())) (
 some (a0.2.2.1,0,()))))))
def E(lf:Nat):Entry:=⟨[yI,.str],[.str,(.int .i64)],fun x=>f lf x.1 x.2.1⟩
theorem ok(lf:Nat):Ok 267 (E lf):=okT (an:=(annsL [])) (lf:=lf) (tC (bK.ok lf) (tC (aZ.ok lf) (tC (nU.ok lf) (tC (fH.ok lf) (tC (iL.ok lf) tN))))) aoN fun x=>by kernel_rfl
end iW
namespace jX
def f(lf:Nat)  : Option (TI×Unit) :=
 some ((false,(⟨#[49]⟩:ByteArray),(⟨#[48]⟩:ByteArray),()),())
def E(lf:Nat):Entry:=⟨[],[yI],fun x=>f lf⟩
theorem ok(lf:Nat):Ok 228 (E lf):=okT (an:=(annsL [])) (lf:=lf) tN aoN fun x=>by kernel_rfl
end jX
namespace jc
def f(lf:Nat)(a0:ByteArray)(a1:ByteArray):Option (TI×Unit) :=
 bd (qL.f lf a0) fun r1 =>
 bd (fM.f lf r1.1 r1.2.1) fun r2 =>
 br (!(r2.1.toList==(⟨#[48]⟩:ByteArray).toList)) (
 bd (fU.f lf a1 r2.1) fun r3 =>
 bd (fM.f lf r3.1 r3.2.1) fun r4 =>
 bd (fJ.f lf r2.1) fun r5 =>
 br r5.1 (
 bd (jX.f lf) fun r6 =>
 some (r6.1,())) (
 bd (fJ.f lf r4.1) fun r7 =>
 br r7.1 (
 bd (jX.f lf) fun r8 =>
 some (r8.1,())) (
 some ((false,r2.1,r4.1,()),())))) (
 bd (fJ.f lf r2.1) fun r9 =>
 br r9.1 (
 bd (jX.f lf) fun r10 =>
 some (r10.1,())) (
 bd (fJ.f lf a1) fun r11 =>
 br r11.1 (
 bd (jX.f lf) fun r12 =>
 some (r12.1,())) (
 some ((false,r2.1,a1,()),()))))
def E(lf:Nat):Entry:=⟨[.str,.str],[yI],fun x=>f lf x.1 x.2.1⟩
theorem ok(lf:Nat):Ok 170 (E lf):=okT (an:=(annsL [])) (lf:=lf) (tC (fM.ok lf) (tC (fU.ok lf) (tC (qL.ok lf) (tC (fJ.ok lf) (tC (jX.ok lf) tN))))) aoN fun x=>by kernel_rfl
end jc
namespace jk
def f(lf:Nat)(a0:ByteArray)(a1:ByteArray):Option (ByteArray×Unit) :=
 bd (qM.f lf a0 a1) fun r1 =>
 bd (fM.f lf r1.1 r1.2.1) fun r2 =>
 some (r2.1,())
def E(lf:Nat):Entry:=⟨[.str,.str],[.str],fun x=>f lf x.1 x.2.1⟩
theorem ok(lf:Nat):Ok 171 (E lf):=okT (an:=(annsL [])) (lf:=lf) (tC (fM.ok lf) (tC (qM.ok lf) tN)) aoN fun x=>by kernel_rfl
end jk
namespace gq
def f(lf:Nat)(a0:ByteArray)(a1:ByteArray):Option (Bool×Unit) :=
 br (a0.toList==(⟨#[48]⟩:ByteArray).toList) (
 some ((a1.toList==(⟨#[48]⟩:ByteArray).toList),())) (
 bd (fU.f lf a1 a0) fun r1 =>
 bd (fM.f lf r1.1 r1.2.1) fun r2 =>
 some ((r2.1.toList==(⟨#[48]⟩:ByteArray).toList),()))
def E(lf:Nat):Entry:=⟨[.str,.str],[.bool],fun x=>f lf x.1 x.2.1⟩
theorem ok(lf:Nat):Ok 234 (E lf):=okT (an:=(annsL [])) (lf:=lf) (tC (fM.ok lf) (tC (fU.ok lf) tN)) aoN fun x=>by kernel_rfl
end gq
namespace ig
def f(lf:Nat)(a0:TI)(a1:TI):Option (Bool×Unit) :=
 br a0.1 (
 some (a0.1,())) (
 br a1.1 (
 some (a0.1,())) (
 bd (gq.f lf a1.2.1 a0.2.1) fun r1 =>
 br r1.1 (
 bd (gu.f lf a0.2.2.1 a1.2.2.1) fun r2 =>
 bd (gq.f lf a1.2.1 r2.1) fun r3 =>
 some (r3.1,())) (
 some (false,()))))
def E(lf:Nat):Entry:=⟨[yI,yI],[.bool],fun x=>f lf x.1 x.2.1⟩
theorem ok(lf:Nat):Ok 200 (E lf):=okT (an:=(annsL [])) (lf:=lf) (tC (gu.ok lf) (tC (gq.ok lf) tN)) aoN fun x=>by kernel_rfl
end ig
namespace fK
def f(lf:Nat)  : Option (TI×Unit) :=
 some ((true,(⟨#[]⟩:ByteArray),(⟨#[]⟩:ByteArray),()),())
def E(lf:Nat):Entry:=⟨[],[yI],fun x=>f lf⟩
theorem ok(lf:Nat):Ok 235 (E lf):=okT (an:=(annsL [])) (lf:=lf) tN aoN fun x=>by kernel_rfl
end fK
namespace lG
def f(lf:Nat)(a0:ByteArray)(a1:ByteArray):Option (ByteArray×Unit) :=
 bd (pF.f lf a0 a1) fun r1 =>
 bd (fM.f lf r1.1 r1.2.1) fun r2 =>
 some (r2.1,())
def E(lf:Nat):Entry:=⟨[.str,.str],[.str],fun x=>f lf x.1 x.2.1⟩
theorem ok(lf:Nat):Ok 237 (E lf):=okT (an:=(annsL [])) (lf:=lf) (tC (fM.ok lf) (tC (pF.ok lf) tN)) aoN fun x=>by kernel_rfl
end lG
namespace mV
def f(lf:Nat)(a0:ByteArray)(a1:ByteArray):Option (ByteArray×Unit) :=
 bd (mP.f lf a0 a1) fun r1 =>
 bd (fM.f lf r1.1 r1.2.1) fun r2 =>
 some (r2.1,())
def E(lf:Nat):Entry:=⟨[.str,.str],[.str],fun x=>f lf x.1 x.2.1⟩
theorem ok(lf:Nat):Ok 240 (E lf):=okT (an:=(annsL [])) (lf:=lf) (tC (fM.ok lf) (tC (mP.ok lf) tN)) aoN fun x=>by kernel_rfl
end mV
namespace nT
def f(lf:Nat)(a0:TI)(a1:TI):Option (TI×Unit) :=
 bd (ig.f lf a0 a1) fun r1 =>
 br r1.1 (
 some (a0,())) (
 bd (ig.f lf a1 a0) fun r2 =>
 br r2.1 (
 some (a1,())) (
 bd (jk.f lf a0.2.1 a1.2.1) fun r3 =>
 bd (gu.f lf a1.2.2.1 a0.2.2.1) fun r4 =>
 br (a0.2.1.toList==(⟨#[48]⟩:ByteArray).toList) (
 bd (fK.f lf) fun r5 =>
 some (r5.1,())) (
 br (a1.2.1.toList==(⟨#[48]⟩:ByteArray).toList) (
 bd (fK.f lf) fun r6 =>
 some (r6.1,())) (
 bd (gq.f lf r3.1 r4.1) fun r7 =>
 br (!r7.1) (
 bd (fK.f lf) fun r8 =>
 some (r8.1,())) (
 bd (bQ.f lf a0.2.1 a1.2.1) fun r9 =>
 bd (pG.f lf r4.1 r3.1) fun r10 =>
 bd (fM.f lf r10.1 r10.2.1) fun r11 =>
 bd (lG.f lf r9.2.1 r11.1) fun r12 =>
 bd (qN.f lf a0.2.1 a1.2.1) fun r13 =>
 bd (fM.f lf r13.1 r13.2.1) fun r14 =>
 bd (lG.f lf r12.1 a0.2.1) fun r15 =>
 bd (mV.f lf a0.2.2.1 r15.1) fun r16 =>
 bd (jc.f lf r14.1 r16.1) fun r17 =>
 some (r17.1,()))))))
def E(lf:Nat):Entry:=⟨[yI,yI],[yI],fun x=>f lf x.1 x.2.1⟩
theorem ok(lf:Nat):Ok 176 (E lf):=okT (an:=(annsL [])) (lf:=lf) (tC (jc.ok lf) (tC (jk.ok lf) (tC (gu.ok lf) (tC (fM.ok lf) (tC (ig.ok lf) (tC (gq.ok lf) (tC (fK.ok lf) (tC (bQ.ok lf) (tC (lG.ok lf) (tC (pG.ok lf) (tC (qN.ok lf) (tC (mV.ok lf) tN)))))))))))) aoN fun x=>by kernel_rfl
end nT
namespace iy
def f(lf:Nat)(a0:TI)(a1:TI):Option (Int×Unit) :=
 bd (aZ.f lf a0) fun r1 =>
 br (r1.1 != 0) (
 some (r1.1,())) (
 bd (aZ.f lf a1) fun r2 =>
 some (r2.1,()))
def E(lf:Nat):Entry:=⟨[yI,yI],[(.int .i64)],fun x=>f lf x.1 x.2.1⟩
theorem ok(lf:Nat):Ok 169 (E lf):=okT (an:=(annsL [])) (lf:=lf) (tC (aZ.ok lf) tN) aoN fun x=>by kernel_rfl
end iy
namespace lY
def f(lf:Nat)(a0:TI)(a1:TI):Option (TI×Int×Unit) :=
 bd (iy.f lf a0 a1) fun r1 =>
 br (r1.1 != 0) (
 some ((false,(⟨#[]⟩:ByteArray),(⟨#[]⟩:ByteArray),()),r1.1,())) (
 br a0.1 (
 bd (fK.f lf) fun r2 =>
 some (r2.1,0,())) (
 br a1.1 (
 bd (fK.f lf) fun r3 =>
 some (r3.1,0,())) (
 bd (nT.f lf a0 a1) fun r4 =>
 some (r4.1,0,()))))
def E(lf:Nat):Entry:=⟨[yI,yI],[yI,(.int .i64)],fun x=>f lf x.1 x.2.1⟩
theorem ok(lf:Nat):Ok 128 (E lf):=okT (an:=(annsL [])) (lf:=lf) (tC (iy.ok lf) (tC (nT.ok lf) (tC (fK.ok lf) tN))) aoN fun x=>by kernel_rfl
end lY
namespace pJ
def f(lf:Nat)(a0:TI)(a1:ByteArray):Option (Bool×Int×Unit) :=
 bd (aZ.f lf a0) fun r1 =>
 br (r1.1 != 0) (
 some (false,r1.1,())) (
 bd (bK.f lf a1) fun r2 =>
 br (r2.1 != 0) (
 some (false,r2.1,())) (
 br a0.1 (
 some (false,0,())) (
 br (a0.2.1.toList==(⟨#[48]⟩:ByteArray).toList) (
 some ((a1.toList==a0.2.2.1.toList),0,())) (
 bd (fU.f lf a1 a0.2.1) fun r3 =>
 bd (fM.f lf r3.1 r3.2.1) fun r4 =>
 some ((r4.1.toList==a0.2.2.1.toList),0,())))))
def E(lf:Nat):Entry:=⟨[yI,.str],[.bool,(.int .i64)],fun x=>f lf x.1 x.2.1⟩
theorem ok(lf:Nat):Ok 136 (E lf):=okT (an:=(annsL [])) (lf:=lf) (tC (bK.ok lf) (tC (aZ.ok lf) (tC (fM.ok lf) (tC (fU.ok lf) tN)))) aoN fun x=>by kernel_rfl
end pJ
namespace lX
def f(lf:Nat)(a0:TI)(a1:TI):Option (TI×Int×Unit) :=
 bd (iy.f lf a0 a1) fun r1 =>
 br (r1.1 != 0) (
 some ((false,(⟨#[]⟩:ByteArray),(⟨#[]⟩:ByteArray),()),r1.1,())) (
 br a0.1 (
 some (a1,0,())) (
 br a1.1 (
 some (a0,0,())) (
 bd (jk.f lf a0.2.1 a1.2.1) fun r2 =>
 bd (gu.f lf a0.2.2.1 a1.2.2.1) fun r3 =>
 bd (jk.f lf r2.1 r3.1) fun r4 =>
 bd (jc.f lf r4.1 a0.2.2.1) fun r5 =>
 some (r5.1,0,()))))
def E(lf:Nat):Entry:=⟨[yI,yI],[yI,(.int .i64)],fun x=>f lf x.1 x.2.1⟩
theorem ok(lf:Nat):Ok 123 (E lf):=okT (an:=(annsL [])) (lf:=lf) (tC (iy.ok lf) (tC (jc.ok lf) (tC (jk.ok lf) (tC (gu.ok lf) tN)))) aoN fun x=>by kernel_rfl
end lX
namespace mQ
def f(lf:Nat)(a0:TI)(a1:TI):Option (Bool×Int×Unit) :=
 bd (iy.f lf a0 a1) fun r1 =>
 br (r1.1==0) (
 bd (ig.f lf a0 a1) fun r2 =>
 some (r2.1,r1.1,())) (
 some (false,r1.1,()))
def E(lf:Nat):Entry:=⟨[yI,yI],[.bool,(.int .i64)],fun x=>f lf x.1 x.2.1⟩
theorem ok(lf:Nat):Ok 151 (E lf):=okT (an:=(annsL [])) (lf:=lf) (tC (iy.ok lf) (tC (ig.ok lf) tN)) aoN fun x=>by kernel_rfl
end mQ
end
end Go.Q
namespace Go.Q
open Go Go.RowKit
open Go.Rx (br bd sIdx sCat sCut iQuo iRem)
noncomputable section
namespace jE
def f(lf:Nat)(a0:TI):Option (Bool×Unit) :=
 bd (kM.f lf a0.2.1) fun r1 =>
 br r1.1 (
 bd (kM.f lf a0.2.2.1) fun r2 =>
 some (r2.1,())) (
 some (false,()))
def E(lf:Nat):Entry:=⟨[yI],[.bool],fun x=>f lf x.1⟩
theorem ok(lf:Nat):Ok 56 (E lf):=okT (an:=(annsL [])) (lf:=lf) (tC (kM.ok lf) tN) aoN fun x=>by kernel_rfl
end jE
namespace bG
def f(lf:Nat)  : Option (TI×Unit) :=
 some ((true,(⟨#[]⟩:ByteArray),(⟨#[]⟩:ByteArray),()),())
def E(lf:Nat):Entry:=⟨[],[yI],fun x=>f lf⟩
theorem ok(lf:Nat):Ok 74 (E lf):=okT (an:=(annsL [])) (lf:=lf) tN aoN fun x=>by kernel_rfl
end bG
namespace fZ
def f(lf:Nat)  : Option (TI×Unit) :=
 some ((false,(⟨#[49]⟩:ByteArray),(⟨#[48]⟩:ByteArray),()),())
def E(lf:Nat):Entry:=⟨[],[yI],fun x=>f lf⟩
theorem ok(lf:Nat):Ok 117 (E lf):=okT (an:=(annsL [])) (lf:=lf) tN aoN fun x=>by kernel_rfl
end fZ
namespace dG
def f(lf:Nat)(a0:ByteArray)(a1:ByteArray):Option (TI×Unit) :=
 bd (aS.f lf a0) fun r1 =>
 br (!(a0.toList==(⟨#[48]⟩:ByteArray).toList)) (
 bd (bD.f lf a1 r1.1) fun r2 =>
 bd (aF.f lf r1.1) fun r3 =>
 br (decide (r3.1 > 100)) (
 bd (fZ.f lf) fun r4 =>
 some (r4.1,())) (
 bd (aF.f lf r2.1) fun r5 =>
 br (decide (r5.1 > 100)) (
 bd (fZ.f lf) fun r6 =>
 some (r6.1,())) (
 some ((false,r1.1,r2.1,()),())))) (
 bd (aF.f lf r1.1) fun r7 =>
 br (decide (r7.1 > 100)) (
 bd (fZ.f lf) fun r8 =>
 some (r8.1,())) (
 bd (aF.f lf a1) fun r9 =>
 br (decide (r9.1 > 100)) (
 bd (fZ.f lf) fun r10 =>
 some (r10.1,())) (
 some ((false,r1.1,a1,()),()))))
def E(lf:Nat):Entry:=⟨[.str,.str],[yI],fun x=>f lf x.1 x.2.1⟩
theorem ok(lf:Nat):Ok 131 (E lf):=okT (an:=(annsL [])) (lf:=lf) (tC (aF.ok lf) (tC (fZ.ok lf) (tC (bD.ok lf) (tC (aS.ok lf) tN)))) aoN fun x=>by kernel_rfl
end dG
namespace kR
def f(lf:Nat)(a0:ByteArray):Option (TI×Unit) :=
 bd (dG.f lf (⟨#[48]⟩:ByteArray) a0) fun r1 =>
 some (r1.1,())
def E(lf:Nat):Entry:=⟨[.str],[yI],fun x=>f lf x.1⟩
theorem ok(lf:Nat):Ok 80 (E lf):=okT (an:=(annsL [])) (lf:=lf) (tC (dG.ok lf) tN) aoN fun x=>by kernel_rfl
end kR
namespace gX
def f(lf:Nat)(a0:TI)(a1:ByteArray):Option (ByteArray×Bool×Unit) :=
 br (a0.2.1.toList==(⟨#[48]⟩:ByteArray).toList) (
 bd (ax.f lf a0.2.2.1 a1) fun r1 =>
 br r1.1 (
 some ((⟨#[]⟩:ByteArray),false,())) (
 some (a0.2.2.1,true,()))) (
 bd (aK.f lf a0.2.2.1 a1) fun r2 =>
 bd (bD.f lf r2.1 a0.2.1) fun r3 =>
 bd (fC.f lf a1 r3.1) fun r4 =>
 some (r4.1,true,()))
def E(lf:Nat):Entry:=⟨[yI,.str],[.str,.bool],fun x=>f lf x.1 x.2.1⟩
theorem ok(lf:Nat):Ok 114 (E lf):=okT (an:=(annsL [])) (lf:=lf) (tC (ax.ok lf) (tC (aK.ok lf) (tC (fC.ok lf) (tC (bD.ok lf) tN)))) aoN fun x=>by kernel_rfl
end gX
namespace iM
def f(lf:Nat)(a0:TI):Option (TI×Unit) :=
 br a0.1 (
 some (a0,())) (
 bd (bM.f lf a0.2.2.1) fun r1 =>
 bd (dG.f lf a0.2.1 r1.1) fun r2 =>
 some (r2.1,()))
def E(lf:Nat):Entry:=⟨[yI],[yI],fun x=>f lf x.1⟩
theorem ok(lf:Nat):Ok 163 (E lf):=okT (an:=(annsL [])) (lf:=lf) (tC (dG.ok lf) (tC (bM.ok lf) tN)) aoN fun x=>by kernel_rfl
end iM
namespace ja
def f(lf:Nat)(a0:TI)(a1:ByteArray):Option (ByteArray×Bool×Unit) :=
 bd (iM.f lf a0) fun r1 =>
 bd (bM.f lf a1) fun r2 =>
 bd (gX.f lf r1.1 r2.1) fun r3 =>
 br (!r3.2.1) (
 some ((⟨#[]⟩:ByteArray),false,())) (
 bd (bM.f lf r3.1) fun r4 =>
 some (r4.1,true,()))
def E(lf:Nat):Entry:=⟨[yI,.str],[.str,.bool],fun x=>f lf x.1 x.2.1⟩
theorem ok(lf:Nat):Ok 115 (E lf):=okT (an:=(annsL [])) (lf:=lf) (tC (gX.ok lf) (tC (iM.ok lf) (tC (bM.ok lf) tN))) aoN fun x=>by kernel_rfl
end ja
namespace iI
def f(lf:Nat)(a0:ByteArray):Option (Int×Unit) :=
 bd (dw.f lf a0) fun r1 =>
 br (!r1.1) (
 some (3,())) (
 bd (aF.f lf a0) fun r2 =>
 br (decide (r2.1 > 100)) (
 some (10,())) (
 some (0,())))
def E(lf:Nat):Entry:=⟨[.str],[(.int .i64)],fun x=>f lf x.1⟩
theorem ok(lf:Nat):Ok 147 (E lf):=okT (an:=(annsL [])) (lf:=lf) (tC (dw.ok lf) (tC (aF.ok lf) tN)) aoN fun x=>by kernel_rfl
end iI
namespace jb
def f(lf:Nat)(a0:TI):Option (Int×Unit) :=
 br a0.1 (
 br (!(a0.2.1.toList==(⟨#[]⟩:ByteArray).toList)) (
 some (3,())) (
 br (!(a0.2.2.1.toList==(⟨#[]⟩:ByteArray).toList)) (
 some (3,())) (
 some (0,())))) (
 bd (iI.f lf a0.2.1) fun r1 =>
 br (r1.1 != 0) (
 some (r1.1,())) (
 bd (iI.f lf a0.2.2.1) fun r2 =>
 br (r2.1 != 0) (
 some (r2.1,())) (
 bd (dA.f lf a0.2.1) fun r3 =>
 br (decide (r3.1 < 0)) (
 some (2,())) (
 br (!(a0.2.1.toList==(⟨#[48]⟩:ByteArray).toList)) (
 bd (dA.f lf a0.2.2.1) fun r4 =>
 br (decide (r4.1 < 0)) (
 some (2,())) (
 bd (ax.f lf a0.2.2.1 a0.2.1) fun r5 =>
 br (!r5.1) (
 some (2,())) (
 some (0,())))) (
 some (0,()))))))
def E(lf:Nat):Entry:=⟨[yI],[(.int .i64)],fun x=>f lf x.1⟩
theorem ok(lf:Nat):Ok 99 (E lf):=okT (an:=(annsL [])) (lf:=lf) (tC (ax.ok lf) (tC (iI.ok lf) (tC (dA.ok lf) tN))) aoN fun x=>by kernel_rfl
end jb
namespace dP
def f(lf:Nat)(a0:ByteArray)(a1:ByteArray):Option (Bool×Unit) :=
 br (a0.toList==(⟨#[48]⟩:ByteArray).toList) (
 some ((a1.toList==(⟨#[48]⟩:ByteArray).toList),())) (
 bd (bD.f lf a1 a0) fun r1 =>
 some ((r1.1.toList==(⟨#[48]⟩:ByteArray).toList),()))
def E(lf:Nat):Entry:=⟨[.str,.str],[.bool],fun x=>f lf x.1 x.2.1⟩
theorem ok(lf:Nat):Ok 144 (E lf):=okT (an:=(annsL [])) (lf:=lf) (tC (bD.ok lf) tN) aoN fun x=>by kernel_rfl
end dP
namespace dV
def f(lf:Nat)(a0:TI)(a1:ByteArray):Option (Bool×Unit) :=
 br (!a0.1) (
 bd (aK.f lf a1 a0.2.2.1) fun r1 =>
 bd (dP.f lf a0.2.1 r1.1) fun r2 =>
 some (r2.1,())) (
 some (false,()))
def E(lf:Nat):Entry:=⟨[yI,.str],[.bool],fun x=>f lf x.1 x.2.1⟩
theorem ok(lf:Nat):Ok 97 (E lf):=okT (an:=(annsL [])) (lf:=lf) (tC (dP.ok lf) (tC (aK.ok lf) tN)) aoN fun x=>by kernel_rfl
end dV
namespace jy
def f(lf:Nat)(a0:TI)(a1:TI):Option (TI×Unit) :=
 br a0.1 (
 some (a1,())) (
 br a1.1 (
 some (a0,())) (
 bd (bJ.f lf a0.2.1 a1.2.1) fun r1 =>
 bd (aK.f lf a0.2.2.1 a1.2.2.1) fun r2 =>
 bd (bJ.f lf r1.1 r2.1) fun r3 =>
 bd (dG.f lf r3.1 a0.2.2.1) fun r4 =>
 some (r4.1,())))
def E(lf:Nat):Entry:=⟨[yI,yI],[yI],fun x=>f lf x.1 x.2.1⟩
theorem ok(lf:Nat):Ok 174 (E lf):=okT (an:=(annsL [])) (lf:=lf) (tC (dG.ok lf) (tC (aK.ok lf) (tC (bJ.ok lf) tN))) aoN fun x=>by kernel_rfl
end jy
namespace kQ
def f(lf:Nat)(a0:TI)(a1:TI):Option (TI×Unit) :=
 br a0.1 (
 bd (bG.f lf) fun r1 =>
 some (r1.1,())) (
 br a1.1 (
 bd (bG.f lf) fun r2 =>
 some (r2.1,())) (
 br (a0.2.1.toList==(⟨#[48]⟩:ByteArray).toList) (
 br (!(a0.2.1.toList==(⟨#[48]⟩:ByteArray).toList)) (
 bd (dV.f lf a0 a1.2.2.1) fun r3 =>
 br r3.1 (
 some (a1,())) (
 bd (bG.f lf) fun r4 =>
 some (r4.1,()))) (
 bd (dV.f lf a1 a0.2.2.1) fun r5 =>
 br r5.1 (
 some (a0,())) (
 bd (bG.f lf) fun r6 =>
 some (r6.1,())))) (
 br (a1.2.1.toList==(⟨#[48]⟩:ByteArray).toList) (
 br (!(a0.2.1.toList==(⟨#[48]⟩:ByteArray).toList)) (
 bd (dV.f lf a0 a1.2.2.1) fun r7 =>
 br r7.1 (
 some (a1,())) (
 bd (bG.f lf) fun r8 =>
 some (r8.1,()))) (
 bd (dV.f lf a1 a0.2.2.1) fun r9 =>
 br r9.1 (
 some (a0,())) (
 bd (bG.f lf) fun r10 =>
 some (r10.1,())))) (
 bd (bJ.f lf a0.2.1 a1.2.1) fun r11 =>
 bd (aK.f lf a1.2.2.1 a0.2.2.1) fun r12 =>
 bd (dP.f lf r11.1 r12.1) fun r13 =>
 br (!r13.1) (
 bd (bG.f lf) fun r14 =>
 some (r14.1,())) (
 bd (aT.f lf a0.2.1 a1.2.1) fun r15 =>
 bd (cO.f lf r12.1 r11.1) fun r16 =>
 bd (aV.f lf r15.1 r16.1) fun r17 =>
 bd (cO.f lf a1.2.1 r11.1) fun r18 =>
 bd (aV.f lf a0.2.1 r18.1) fun r19 =>
 bd (aV.f lf a0.2.1 r17.1) fun r20 =>
 bd (fC.f lf a0.2.2.1 r20.1) fun r21 =>
 bd (dG.f lf r19.1 r21.1) fun r22 =>
 some (r22.1,()))))))
def E(lf:Nat):Entry:=⟨[yI,yI],[yI],fun x=>f lf x.1 x.2.1⟩
theorem ok(lf:Nat):Ok 182 (E lf):=okT (an:=(annsL [])) (lf:=lf) (tC (bG.ok lf) (tC (dV.ok lf) (tC (dG.ok lf) (tC (dP.ok lf) (tC (aK.ok lf) (tC (fC.ok lf) (tC (aV.ok lf) (tC (cO.ok lf) (tC (bJ.ok lf) (tC (aT.ok lf) tN)))))))))) aoN fun x=>by kernel_rfl
end kQ
namespace jv
def f(lf:Nat)(a0:TI)(a1:TI):Option (Bool×Unit) :=
 br a0.1 (
 some (true,())) (
 bd (dV.f lf a1 a0.2.2.1) fun r1 =>
 br r1.1 (
 bd (dP.f lf a1.2.1 a0.2.1) fun r2 =>
 some (r2.1,())) (
 some (false,())))
def E(lf:Nat):Entry:=⟨[yI,yI],[.bool],fun x=>f lf x.1 x.2.1⟩
theorem ok(lf:Nat):Ok 202 (E lf):=okT (an:=(annsL [])) (lf:=lf) (tC (dV.ok lf) (tC (dP.ok lf) tN)) aoN fun x=>by kernel_rfl
end jv
end
end Go.Q
namespace Go.Q
open Go Go.RowKit
open Go.Rx (br bd sIdx sCat sCut iQuo iRem)
noncomputable section
namespace kH
def f(lf:Nat)(a0:ByteArray):Option (TV×Unit) :=
 some (((false,a0,a0,()),(false,(⟨#[48]⟩:ByteArray),a0,()),()),())
def E(lf:Nat):Entry:=⟨[.str],[yV],fun x=>f lf x.1⟩
theorem ok(lf:Nat):Ok 180 (E lf):=okT (an:=(annsL [])) (lf:=lf) tN aoN fun x=>by kernel_rfl
end kH
namespace jS
def f(lf:Nat)  : Option (TV×Unit) :=
 some (((true,(⟨#[]⟩:ByteArray),(⟨#[]⟩:ByteArray),()),(true,(⟨#[]⟩:ByteArray),(⟨#[]⟩:ByteArray),()),()),())
def E(lf:Nat):Entry:=⟨[],[yV],fun x=>f lf⟩
theorem ok(lf:Nat):Ok 265 (E lf):=okT (an:=(annsL [])) (lf:=lf) tN aoN fun x=>by kernel_rfl
end jS
namespace bI
def f(lf:Nat)(a0:ByteArray):Option (ByteArray×Unit) :=
 bd (strings_TrimPrefix.f lf a0 (⟨#[45]⟩:ByteArray)) fun r1 =>
 br (decide (((r1.1.size:Nat):Int) > 100)) (
 some ((⟨#[]⟩:ByteArray),())) (
 some (a0,()))
def E(lf:Nat):Entry:=⟨[.str],[.str],fun x=>f lf x.1⟩
theorem ok(lf:Nat):Ok 178 (E lf):=okT (an:=(annsL [])) (lf:=lf) (tC (strings_TrimPrefix.ok lf) tN) aoN fun x=>by kernel_rfl
end bI
namespace jh
def f(lf:Nat)(a0:TI)(a1:TI):Option (TV×Unit) :=
 br a0.1 (
 bd (jS.f lf) fun r1 =>
 some (r1.1,())) (
 br a1.1 (
 bd (jS.f lf) fun r2 =>
 some (r2.1,())) (
 br (a1.2.1.toList==(⟨#[48]⟩:ByteArray).toList) (
 bd (gB.f lf a0 a1.2.2.1) fun r3 =>
 br (!r3.1) (
 bd (jS.f lf) fun r4 =>
 some (r4.1,())) (
 bd (kH.f lf a1.2.2.1) fun r5 =>
 some (r5.1,()))) (
 br (!(a0.2.1.toList==(⟨#[]⟩:ByteArray).toList)) (
 bd (lF.f lf a1 a0.2.1) fun r6 =>
 br (!(a0.2.2.1.toList==(⟨#[]⟩:ByteArray).toList)) (
 bd (iW.f lf a1 a0.2.2.1) fun r7 =>
 br (!(r6.1.toList==(⟨#[]⟩:ByteArray).toList)) (
 br (!(r7.1.toList==(⟨#[]⟩:ByteArray).toList)) (
 bd (fG.f lf r6.1 r7.1) fun r8 =>
 br (decide (r8.1 > 0)) (
 bd (jS.f lf) fun r9 =>
 some (r9.1,())) (
 br (r8.1==0) (
 bd (kH.f lf r6.1) fun r10 =>
 some (r10.1,())) (
 bd (bI.f lf r6.1) fun r11 =>
 bd (bI.f lf r7.1) fun r12 =>
 some (((false,r11.1,r12.1,()),a1,()),())))) (
 bd (bI.f lf r6.1) fun r13 =>
 bd (bI.f lf r7.1) fun r14 =>
 some (((false,r13.1,r14.1,()),a1,()),()))) (
 bd (bI.f lf r6.1) fun r15 =>
 bd (bI.f lf r7.1) fun r16 =>
 some (((false,r15.1,r16.1,()),a1,()),()))) (
 br (!(r6.1.toList==(⟨#[]⟩:ByteArray).toList)) (
 br (!(a0.2.2.1.toList==(⟨#[]⟩:ByteArray).toList)) (
 bd (fG.f lf r6.1 a0.2.2.1) fun r17 =>
 br (decide (r17.1 > 0)) (
 bd (jS.f lf) fun r18 =>
 some (r18.1,())) (
 br (r17.1==0) (
 bd (kH.f lf r6.1) fun r19 =>
 some (r19.1,())) (
 bd (bI.f lf r6.1) fun r20 =>
 bd (bI.f lf a0.2.2.1) fun r21 =>
 some (((false,r20.1,r21.1,()),a1,()),())))) (
 bd (bI.f lf r6.1) fun r22 =>
 bd (bI.f lf a0.2.2.1) fun r23 =>
 some (((false,r22.1,r23.1,()),a1,()),()))) (
 bd (bI.f lf r6.1) fun r24 =>
 bd (bI.f lf a0.2.2.1) fun r25 =>
 some (((false,r24.1,r25.1,()),a1,()),())))) (
 br (!(a0.2.2.1.toList==(⟨#[]⟩:ByteArray).toList)) (
 bd (iW.f lf a1 a0.2.2.1) fun r26 =>
 br (!(a0.2.1.toList==(⟨#[]⟩:ByteArray).toList)) (
 br (!(r26.1.toList==(⟨#[]⟩:ByteArray).toList)) (
 bd (fG.f lf a0.2.1 r26.1) fun r27 =>
 br (decide (r27.1 > 0)) (
 bd (jS.f lf) fun r28 =>
 some (r28.1,())) (
 br (r27.1==0) (
 bd (kH.f lf a0.2.1) fun r29 =>
 some (r29.1,())) (
 bd (bI.f lf a0.2.1) fun r30 =>
 bd (bI.f lf r26.1) fun r31 =>
 some (((false,r30.1,r31.1,()),a1,()),())))) (
 bd (bI.f lf a0.2.1) fun r32 =>
 bd (bI.f lf r26.1) fun r33 =>
 some (((false,r32.1,r33.1,()),a1,()),()))) (
 bd (bI.f lf a0.2.1) fun r34 =>
 bd (bI.f lf r26.1) fun r35 =>
 some (((false,r34.1,r35.1,()),a1,()),()))) (
 br (!(a0.2.1.toList==(⟨#[]⟩:ByteArray).toList)) (
 br (!(a0.2.2.1.toList==(⟨#[]⟩:ByteArray).toList)) (
 bd (fG.f lf a0.2.1 a0.2.2.1) fun r36 =>
 br (decide (r36.1 > 0)) (
 bd (jS.f lf) fun r37 =>
 some (r37.1,())) (
 br (r36.1==0) (
 bd (kH.f lf a0.2.1) fun r38 =>
 some (r38.1,())) (
 bd (bI.f lf a0.2.1) fun r39 =>
 bd (bI.f lf a0.2.2.1) fun r40 =>
 some (((false,r39.1,r40.1,()),a1,()),())))) (
 bd (bI.f lf a0.2.1) fun r41 =>
 bd (bI.f lf a0.2.2.1) fun r42 =>
 some (((false,r41.1,r42.1,()),a1,()),()))) (
 bd (bI.f lf a0.2.1) fun r43 =>
 bd (bI.f lf a0.2.2.1) fun r44 =>
 some (((false,r43.1,r44.1,()),a1,()),())))))))
def E(lf:Nat):Entry:=⟨[yI,yI],[yV],fun x=>f lf x.1 x.2.1⟩
theorem ok(lf:Nat):Ok 155 (E lf):=okT (an:=(annsL [])) (lf:=lf) (tC (gB.ok lf) (tC (bI.ok lf) (tC (kH.ok lf) (tC (jS.ok lf) (tC (lF.ok lf) (tC (iW.ok lf) (tC (fG.ok lf) tN))))))) aoN fun x=>by kernel_rfl
end jh
namespace qi
def f(lf:Nat)(a0:TI)(a1:TI):Option (Int×Unit) :=
 bd (bY.f lf a0) fun r1 =>
 br (r1.1 != 0) (
 some (r1.1,())) (
 bd (aZ.f lf a1) fun r2 =>
 some (r2.1,()))
def E(lf:Nat):Entry:=⟨[yI,yI],[(.int .i64)],fun x=>f lf x.1 x.2.1⟩
theorem ok(lf:Nat):Ok 166 (E lf):=okT (an:=(annsL [])) (lf:=lf) (tC (bY.ok lf) (tC (aZ.ok lf) tN)) aoN fun x=>by kernel_rfl
end qi
namespace dL
def f(lf:Nat)(a0:TV):Option (Int×Unit) :=
 bd (qi.f lf a0.1 a0.2.1) fun r1 =>
 br (r1.1 != 0) (
 some (r1.1,())) (
 bd (jh.f lf a0.1 a0.2.1) fun r2 =>
 bd (some (!(((r2.1.1.1==a0.1.1)&&((r2.1.1.2.1==a0.1.2.1)&&((r2.1.1.2.2.1==a0.1.2.2.1)&&true)))&&(((r2.1.2.1.1==a0.2.1.1)&&((r2.1.2.1.2.1==a0.2.1.2.1)&&((r2.1.2.1.2.2.1==a0.2.1.2.2.1)&&true)))&&true)))) fun r3 =>
 br r3 (
 some (3,())) (
 some (0,())))
def E(lf:Nat):Entry:=⟨[yV],[(.int .i64)],fun x=>f lf x.1⟩
theorem ok(lf:Nat):Ok 118 (E lf):=okT (an:=(annsL [])) (lf:=lf) (tC (jh.ok lf) (tC (qi.ok lf) tN)) aoN fun x=>by kernel_rfl
end dL
namespace jR
def f(lf:Nat)(a0:TV)(a1:TV):Option (Int×Unit) :=
 bd (dL.f lf a0) fun r1 =>
 br (r1.1 != 0) (
 some (r1.1,())) (
 bd (dL.f lf a1) fun r2 =>
 some (r2.1,()))
def E(lf:Nat):Entry:=⟨[yV,yV],[(.int .i64)],fun x=>f lf x.1 x.2.1⟩
theorem ok(lf:Nat):Ok 149 (E lf):=okT (an:=(annsL [])) (lf:=lf) (tC (dL.ok lf) tN) aoN fun x=>by kernel_rfl
end jR
namespace iU
def f(lf:Nat)(a0:TV)(a1:TV):Option (TV×Int×Unit) :=
 bd (jR.f lf a0 a1) fun r1 =>
 br (r1.1 != 0) (
 some (((false,(⟨#[]⟩:ByteArray),(⟨#[]⟩:ByteArray),()),(false,(⟨#[]⟩:ByteArray),(⟨#[]⟩:ByteArray),()),()),r1.1,())) (
 bd (nN.f lf a0.1 a1.1) fun r2 =>
 br (r2.2.1 != 0) (
 some (((false,(⟨#[]⟩:ByteArray),(⟨#[]⟩:ByteArray),()),(false,(⟨#[]⟩:ByteArray),(⟨#[]⟩:ByteArray),()),()),r2.2.1,())) (
 bd (lY.f lf a0.2.1 a1.2.1) fun r3 =>
 br (r3.2.1 != 0) (
 some (((false,(⟨#[]⟩:ByteArray),(⟨#[]⟩:ByteArray),()),(false,(⟨#[]⟩:ByteArray),(⟨#[]⟩:ByteArray),()),()),r3.2.1,())) (
 bd (jh.f lf r2.1 r3.1) fun r4 =>
 some (r4.1,0,()))))
def E(lf:Nat):Entry:=⟨[yV,yV],[yV,(.int .i64)],fun x=>f lf x.1 x.2.1⟩
theorem ok(lf:Nat):Ok 70 (E lf):=okT (an:=(annsL [])) (lf:=lf) (tC (nN.ok lf) (tC (lY.ok lf) (tC (jR.ok lf) (tC (jh.ok lf) tN)))) aoN fun x=>by kernel_rfl
end iU
namespace rF
def f(lf:Nat)(a0:TV)(a1:ByteArray):Option (Bool×Int×Unit) :=
 bd (dL.f lf a0) fun r1 =>
 br (r1.1 != 0) (
 some (false,r1.1,())) (
 bd (gB.f lf a0.1 a1) fun r2 =>
 br (r2.2.1 != 0) (
 some (false,r2.2.1,())) (
 bd (pJ.f lf a0.2.1 a1) fun r3 =>
 br r2.1 (
 br r3.1 (
 some ((r3.2.1==0),r3.2.1,())) (
 some (false,r3.2.1,()))) (
 some (false,r3.2.1,()))))
def E(lf:Nat):Entry:=⟨[yV,.str],[.bool,(.int .i64)],fun x=>f lf x.1 x.2.1⟩
theorem ok(lf:Nat):Ok 86 (E lf):=okT (an:=(annsL [])) (lf:=lf) (tC (dL.ok lf) (tC (gB.ok lf) (tC (pJ.ok lf) tN))) aoN fun x=>by kernel_rfl
end rF
namespace gK
def f(lf:Nat)(a0:TV)(a1:TV):Option (TV×Int×Unit) :=
 bd (jR.f lf a0 a1) fun r1 =>
 br (r1.1 != 0) (
 some (((false,(⟨#[]⟩:ByteArray),(⟨#[]⟩:ByteArray),()),(false,(⟨#[]⟩:ByteArray),(⟨#[]⟩:ByteArray),()),()),r1.1,())) (
 bd (nM.f lf a0.1 a1.1) fun r2 =>
 br (r2.2.1 != 0) (
 some (((false,(⟨#[]⟩:ByteArray),(⟨#[]⟩:ByteArray),()),(false,(⟨#[]⟩:ByteArray),(⟨#[]⟩:ByteArray),()),()),r2.2.1,())) (
 bd (lX.f lf a0.2.1 a1.2.1) fun r3 =>
 br (r3.2.1 != 0) (
 some (((false,(⟨#[]⟩:ByteArray),(⟨#[]⟩:ByteArray),()),(false,(⟨#[]⟩:ByteArray),(⟨#[]⟩:ByteArray),()),()),r3.2.1,())) (
 bd (jh.f lf r2.1 r3.1) fun r4 =>
 some (r4.1,0,()))))
def E(lf:Nat):Entry:=⟨[yV,yV],[yV,(.int .i64)],fun x=>f lf x.1 x.2.1⟩
theorem ok(lf:Nat):Ok 64 (E lf):=okT (an:=(annsL [])) (lf:=lf) (tC (nM.ok lf) (tC (lX.ok lf) (tC (jR.ok lf) (tC (jh.ok lf) tN)))) aoN fun x=>by kernel_rfl
end gK
namespace oW
def f(lf:Nat)(a0:TV):Option (ByteArray×Int×Unit) :=
 bd (dL.f lf a0) fun r1 =>
 br (r1.1 != 0) (
 some ((⟨#[]⟩:ByteArray),r1.1,())) (
 bd (qj.f lf a0.1) fun r2 =>
 br (!a0.2.1.1) (
 br (!(a0.2.1.2.1.toList==(⟨#[48]⟩:ByteArray).toList)) (
 br (!(a0.2.1.2.1.toList==(⟨#[49]⟩:ByteArray).toList)) (
 bd (sCat (⟨#[32,109,111,100,32]⟩:ByteArray) a0.2.1.2.1) fun r3 =>
 bd (sCat r3 (⟨#[32,61,32]⟩:ByteArray)) fun r4 =>
 bd (sCat r4 a0.2.1.2.2.1) fun r5 =>
 bd (sCat r2.1 r5) fun r6 =>
 some (r6,r2.2.1,())) (
 some (r2.1,r2.2.1,()))) (
 some (r2.1,r2.2.1,()))) (
 some (r2.1,r2.2.1,())))
def E(lf:Nat):Entry:=⟨[yV],[.str,(.int .i64)],fun x=>f lf x.1⟩
theorem ok(lf:Nat):Ok 90 (E lf):=okT (an:=(annsL [])) (lf:=lf) (tC (dL.ok lf) (tC (qj.ok lf) tN)) aoN fun x=>by kernel_rfl
end oW
namespace oD
def f(lf:Nat)(a0:TV)(a1:TV):Option (Bool×Int×Unit) :=
 bd (jR.f lf a0 a1) fun r1 =>
 br (r1.1 != 0) (
 some (false,r1.1,())) (
 bd (oK.f lf a0.1 a1.1) fun r2 =>
 bd (mQ.f lf a0.2.1 a1.2.1) fun r3 =>
 br r2.1 (
 some (r3.1,0,())) (
 some (false,0,())))
def E(lf:Nat):Entry:=⟨[yV,yV],[.bool,(.int .i64)],fun x=>f lf x.1 x.2.1⟩
theorem ok(lf:Nat):Ok 101 (E lf):=okT (an:=(annsL [])) (lf:=lf) (tC (jR.ok lf) (tC (oK.ok lf) (tC (mQ.ok lf) tN))) aoN fun x=>by kernel_rfl
end oD
end
end Go.Q
