import Derived.Test.YtgbokahnpmmfoaaGreatDoorProg
import Derived.KernelRfl
import Derived.Test.YtgbokahnpmmfoaaGreatDoorSLE3
import Derived.Test.YtgbokahnpmmfoaaGreatDoorSLG1
import Derived.Test.YtgbokahnpmmfoaaGreatDoorSLG3
import Derived.Test.YtgbokahnpmmfoaaGreatDoorSLG4
import Derived.Test.YtgbokahnpmmfoaaGreatDoorSLG5
set_option linter.unusedVariables false
set_option linter.unusedSimpArgs false
set_option linter.unusedSectionVars false
set_option maxRecDepth 100000
namespace Go.Q
open Go Go.RowKit
open Go.Rx (br bd sIdx sCat sCut iQuo iRem)
noncomputable section
namespace fU
def f(lf:Nat)(a0:ByteArray):Option (Bool×Unit) :=
 bd (strings_TrimPrefix.f lf a0 (⟨#[45]⟩:ByteArray)) fun r1 =>
 some ((decide (((r1.1.size:Nat):Int) > 100)),())
def E(lf:Nat):Entry:=⟨[.str],[.bool],fun x=>f lf x.1⟩
theorem ok(lf:Nat):Ok 227 (E lf):=okT (an:=(annsL [])) (lf:=lf) (tC (strings_TrimPrefix.ok lf) tN) aoN fun x=>by kernel_rfl
end fU
namespace jC
def f(lf:Nat)(a0:ByteArray):Option (Int×Unit) :=
 bd (dm.f lf a0) fun r1 =>
 br (r1.1==10) (
 some (10,())) (
 br (r1.1==0) (
 bd (fU.f lf a0) fun r2 =>
 br r2.1 (
 some (10,())) (
 br (r1.1 != 0) (
 some (r1.1,())) (
 some (0,())))) (
 br (r1.1 != 0) (
 some (r1.1,())) (
 some (0,()))))
def E(lf:Nat):Entry:=⟨[.str],[(.int .i64)],fun x=>f lf x.1⟩
theorem ok(lf:Nat):Ok 255 (E lf):=okT (an:=(annsL [])) (lf:=lf) (tC (dm.ok lf) (tC (fU.ok lf) tN)) aoN fun x=>by kernel_rfl
end jC
namespace lg
def f(lf:Nat)(a0:Int)(a1:Int):Option (Int×Unit) :=
 some (a0,())
def E(lf:Nat):Entry:=⟨[(.int .i64),(.int .i64)],[(.int .i64)],fun x=>f lf x.1 x.2.1⟩
theorem ok(lf:Nat):Ok 294 (E lf):=okT (an:=(annsL [])) (lf:=lf) tN aoN fun x=>by kernel_rfl
end lg
namespace fQ
def f(lf:Nat)(a0:ByteArray)(a1:ByteArray):Option (Bool×Unit) :=
 bd (fP.f lf a0 a1) fun r1 =>
 bd (lg.f lf r1.1 r1.2.1) fun r2 =>
 some ((decide (r2.1 < 0)),())
def E(lf:Nat):Entry:=⟨[.str,.str],[.bool],fun x=>f lf x.1 x.2.1⟩
theorem ok(lf:Nat):Ok 256 (E lf):=okT (an:=(annsL [])) (lf:=lf) (tC (fP.ok lf) (tC (lg.ok lf) tN)) aoN fun x=>by kernel_rfl
end fQ
namespace dn
def f(lf:Nat)(a0:TI):Option (Int×Unit) :=
 br a0.1 (
 br (!(a0.2.1.toList==(⟨#[]⟩:ByteArray).toList)) (
 some (3,())) (
 br (!(a0.2.2.1.toList==(⟨#[]⟩:ByteArray).toList)) (
 some (3,())) (
 some (0,())))) (
 bd (jC.f lf a0.2.1) fun r1 =>
 br (r1.1 != 0) (
 some (r1.1,())) (
 bd (jC.f lf a0.2.2.1) fun r2 =>
 br (r2.1 != 0) (
 some (r2.1,())) (
 bd (fQ.f lf a0.2.1 (⟨#[48]⟩:ByteArray)) fun r3 =>
 br r3.1 (
 some (2,())) (
 br (!(a0.2.1.toList==(⟨#[48]⟩:ByteArray).toList)) (
 bd (fQ.f lf a0.2.2.1 (⟨#[48]⟩:ByteArray)) fun r4 =>
 br r4.1 (
 some (2,())) (
 bd (fQ.f lf a0.2.2.1 a0.2.1) fun r5 =>
 br (!r5.1) (
 some (2,())) (
 some (0,())))) (
 some (0,()))))))
def E(lf:Nat):Entry:=⟨[yI],[(.int .i64)],fun x=>f lf x.1⟩
theorem ok(lf:Nat):Ok 191 (E lf):=okT (an:=(annsL [])) (lf:=lf) (tC (jC.ok lf) (tC (fQ.ok lf) tN)) aoN fun x=>by kernel_rfl
end dn
namespace gU
def f(lf:Nat)(a0:ByteArray)(a1:ByteArray):Option (ByteArray×Unit) :=
 bd (nX.f lf a0 a1) fun r1 =>
 bd (gZ.f lf r1.1 r1.2.1) fun r2 =>
 some (r2.1,())
def E(lf:Nat):Entry:=⟨[.str,.str],[.str],fun x=>f lf x.1 x.2.1⟩
theorem ok(lf:Nat):Ok 172 (E lf):=okT (an:=(annsL [])) (lf:=lf) (tC (gZ.ok lf) (tC (nX.ok lf) tN)) aoN fun x=>by kernel_rfl
end gU
namespace iR
def f(lf:Nat)(a0:ByteArray)(a1:ByteArray)(a2:ByteArray):Option (ByteArray×Int×Unit) :=
 bd (iQ.f lf a0 a2) fun r1 =>
 br (r1.2.1 != 0) (
 some ((⟨#[]⟩:ByteArray),r1.2.1,())) (
 bd (iQ.f lf a1 a2) fun r2 =>
 br (r2.2.1 != 0) (
 some ((⟨#[]⟩:ByteArray),r2.2.1,())) (
 bd (gU.f lf r1.1 r2.1) fun r3 =>
 bd (iQ.f lf r3.1 a2) fun r4 =>
 some (r4.1,r4.2.1,())))
def E(lf:Nat):Entry:=⟨[.str,.str,.str],[.str,(.int .i64)],fun x=>f lf x.1 x.2.1 x.2.2.1⟩
theorem ok(lf:Nat):Ok 302 (E lf):=okT (an:=(annsL [])) (lf:=lf) (tC (gU.ok lf) (tC (iQ.ok lf) tN)) aoN fun x=>by kernel_rfl
end iR
namespace lG
def f(lf:Nat)(a0:TI)(a1:ByteArray):Option (ByteArray×Int×Unit) :=
 bd (dn.f lf a0) fun r1 =>
 br (r1.1 != 0) (
 some ((⟨#[]⟩:ByteArray),r1.1,())) (
 bd (dm.f lf a1) fun r2 =>
 br (r2.1 != 0) (
 some ((⟨#[]⟩:ByteArray),r2.1,())) (
 br a0.1 (
 some ((⟨#[]⟩:ByteArray),16,())) (
 br (!(a0.2.1.toList==(⟨#[48]⟩:ByteArray).toList)) (
 bd (iR.f lf a0.2.2.1 a1 a0.2.1) fun r3 =>
 br (r3.2.1 != 0) (
 some ((⟨#[]⟩:ByteArray),r3.2.1,())) (
 bd (mQ.f lf a1 r3.1) fun r4 =>
 some (r4.1,r4.2.1,()))) (
 bd (fQ.f lf a0.2.2.1 a1) fun r5 =>
 br r5.1 (
 some ((⟨#[]⟩:ByteArray),6,())) (
 some (a0.2.2.1,0,()))))))
def E(lf:Nat):Entry:=⟨[yI,.str],[.str,(.int .i64)],fun x=>f lf x.1 x.2.1⟩
theorem ok(lf:Nat):Ok 266 (E lf):=okT (an:=(annsL [])) (lf:=lf) (tC (dm.ok lf) (tC (dn.ok lf) (tC (fQ.ok lf) (tC (mQ.ok lf) (tC (iR.ok lf) tN))))) aoN fun x=>by kernel_rfl
end lG
namespace iW
def f(lf:Nat)(a0:TI)(a1:ByteArray):Option (ByteArray×Int×Unit) :=
 bd (dn.f lf a0) fun r1 =>
 br (r1.1 != 0) (
 some ((⟨#[]⟩:ByteArray),r1.1,())) (
 bd (dm.f lf a1) fun r2 =>
 br (r2.1 != 0) (
 some ((⟨#[]⟩:ByteArray),r2.1,())) (
 br a0.1 (
 some ((⟨#[]⟩:ByteArray),16,())) (
 br (!(a0.2.1.toList==(⟨#[48]⟩:ByteArray).toList)) (
 bd (iR.f lf a1 a0.2.2.1 a0.2.1) fun r3 =>
 br (r3.2.1 != 0) (
 some ((⟨#[]⟩:ByteArray),r3.2.1,())) (
 bd (nX.f lf a1 r3.1) fun r4 =>
 some (r4.1,r4.2.1,()))) (
 bd (fQ.f lf a1 a0.2.2.1) fun r5 =>
 br r5.1 (
 some ((⟨#[]⟩:ByteArray),6,())) (
 some (a0.2.2.1,0,()))))))
def E(lf:Nat):Entry:=⟨[yI,.str],[.str,(.int .i64)],fun x=>f lf x.1 x.2.1⟩
theorem ok(lf:Nat):Ok 267 (E lf):=okT (an:=(annsL [])) (lf:=lf) (tC (dm.ok lf) (tC (dn.ok lf) (tC (nX.ok lf) (tC (fQ.ok lf) (tC (iR.ok lf) tN))))) aoN fun x=>by kernel_rfl
end iW
namespace kF
def f(lf:Nat)  : Option (TI×Unit) :=
 some ((false,(⟨#[49]⟩:ByteArray),(⟨#[48]⟩:ByteArray),()),())
def E(lf:Nat):Entry:=⟨[],[yI],fun x=>f lf⟩
theorem ok(lf:Nat):Ok 228 (E lf):=okT (an:=(annsL [])) (lf:=lf) tN aoN fun x=>by kernel_rfl
end kF
namespace jc
def f(lf:Nat)(a0:ByteArray)(a1:ByteArray):Option (TI×Unit) :=
 bd (qH.f lf a0) fun r1 =>
 bd (gZ.f lf r1.1 r1.2.1) fun r2 =>
 br (!(r2.1.toList==(⟨#[48]⟩:ByteArray).toList)) (
 bd (iQ.f lf a1 r2.1) fun r3 =>
 bd (gZ.f lf r3.1 r3.2.1) fun r4 =>
 bd (fU.f lf r2.1) fun r5 =>
 br r5.1 (
 bd (kF.f lf) fun r6 =>
 some (r6.1,())) (
 bd (fU.f lf r4.1) fun r7 =>
 br r7.1 (
 bd (kF.f lf) fun r8 =>
 some (r8.1,())) (
 some ((false,r2.1,r4.1,()),())))) (
 bd (fU.f lf r2.1) fun r9 =>
 br r9.1 (
 bd (kF.f lf) fun r10 =>
 some (r10.1,())) (
 bd (fU.f lf a1) fun r11 =>
 br r11.1 (
 bd (kF.f lf) fun r12 =>
 some (r12.1,())) (
 some ((false,r2.1,a1,()),()))))
def E(lf:Nat):Entry:=⟨[.str,.str],[yI],fun x=>f lf x.1 x.2.1⟩
theorem ok(lf:Nat):Ok 170 (E lf):=okT (an:=(annsL [])) (lf:=lf) (tC (gZ.ok lf) (tC (iQ.ok lf) (tC (qH.ok lf) (tC (fU.ok lf) (tC (kF.ok lf) tN))))) aoN fun x=>by kernel_rfl
end jc
namespace jl
def f(lf:Nat)(a0:ByteArray)(a1:ByteArray):Option (ByteArray×Unit) :=
 bd (qI.f lf a0 a1) fun r1 =>
 bd (gZ.f lf r1.1 r1.2.1) fun r2 =>
 some (r2.1,())
def E(lf:Nat):Entry:=⟨[.str,.str],[.str],fun x=>f lf x.1 x.2.1⟩
theorem ok(lf:Nat):Ok 171 (E lf):=okT (an:=(annsL [])) (lf:=lf) (tC (gZ.ok lf) (tC (qI.ok lf) tN)) aoN fun x=>by kernel_rfl
end jl
namespace gQ
def f(lf:Nat)(a0:ByteArray)(a1:ByteArray):Option (Bool×Unit) :=
 br (a0.toList==(⟨#[48]⟩:ByteArray).toList) (
 some ((a1.toList==(⟨#[48]⟩:ByteArray).toList),())) (
 bd (iQ.f lf a1 a0) fun r1 =>
 bd (gZ.f lf r1.1 r1.2.1) fun r2 =>
 some ((r2.1.toList==(⟨#[48]⟩:ByteArray).toList),()))
def E(lf:Nat):Entry:=⟨[.str,.str],[.bool],fun x=>f lf x.1 x.2.1⟩
theorem ok(lf:Nat):Ok 234 (E lf):=okT (an:=(annsL [])) (lf:=lf) (tC (gZ.ok lf) (tC (iQ.ok lf) tN)) aoN fun x=>by kernel_rfl
end gQ
namespace jB
def f(lf:Nat)(a0:TI)(a1:TI):Option (Bool×Unit) :=
 br a0.1 (
 some (a0.1,())) (
 br a1.1 (
 some (a0.1,())) (
 bd (gQ.f lf a1.2.1 a0.2.1) fun r1 =>
 br r1.1 (
 bd (gU.f lf a0.2.2.1 a1.2.2.1) fun r2 =>
 bd (gQ.f lf a1.2.1 r2.1) fun r3 =>
 some (r3.1,())) (
 some (false,()))))
def E(lf:Nat):Entry:=⟨[yI,yI],[.bool],fun x=>f lf x.1 x.2.1⟩
theorem ok(lf:Nat):Ok 200 (E lf):=okT (an:=(annsL [])) (lf:=lf) (tC (gU.ok lf) (tC (gQ.ok lf) tN)) aoN fun x=>by kernel_rfl
end jB
namespace fV
def f(lf:Nat)  : Option (TI×Unit) :=
 some ((true,(⟨#[]⟩:ByteArray),(⟨#[]⟩:ByteArray),()),())
def E(lf:Nat):Entry:=⟨[],[yI],fun x=>f lf⟩
theorem ok(lf:Nat):Ok 235 (E lf):=okT (an:=(annsL [])) (lf:=lf) tN aoN fun x=>by kernel_rfl
end fV
namespace lH
def f(lf:Nat)(a0:ByteArray)(a1:ByteArray):Option (ByteArray×Unit) :=
 bd (pq.f lf a0 a1) fun r1 =>
 bd (gZ.f lf r1.1 r1.2.1) fun r2 =>
 some (r2.1,())
def E(lf:Nat):Entry:=⟨[.str,.str],[.str],fun x=>f lf x.1 x.2.1⟩
theorem ok(lf:Nat):Ok 237 (E lf):=okT (an:=(annsL [])) (lf:=lf) (tC (gZ.ok lf) (tC (pq.ok lf) tN)) aoN fun x=>by kernel_rfl
end lH
namespace mV
def f(lf:Nat)(a0:ByteArray)(a1:ByteArray):Option (ByteArray×Unit) :=
 bd (mQ.f lf a0 a1) fun r1 =>
 bd (gZ.f lf r1.1 r1.2.1) fun r2 =>
 some (r2.1,())
def E(lf:Nat):Entry:=⟨[.str,.str],[.str],fun x=>f lf x.1 x.2.1⟩
theorem ok(lf:Nat):Ok 240 (E lf):=okT (an:=(annsL [])) (lf:=lf) (tC (gZ.ok lf) (tC (mQ.ok lf) tN)) aoN fun x=>by kernel_rfl
end mV
namespace nU
def f(lf:Nat)(a0:TI)(a1:TI):Option (TI×Unit) :=
 bd (jB.f lf a0 a1) fun r1 =>
 br r1.1 (
 some (a0,())) (
 bd (jB.f lf a1 a0) fun r2 =>
 br r2.1 (
 some (a1,())) (
 bd (jl.f lf a0.2.1 a1.2.1) fun r3 =>
 bd (gU.f lf a1.2.2.1 a0.2.2.1) fun r4 =>
 br (a0.2.1.toList==(⟨#[48]⟩:ByteArray).toList) (
 bd (fV.f lf) fun r5 =>
 some (r5.1,())) (
 br (a1.2.1.toList==(⟨#[48]⟩:ByteArray).toList) (
 bd (fV.f lf) fun r6 =>
 some (r6.1,())) (
 bd (gQ.f lf r3.1 r4.1) fun r7 =>
 br (!r7.1) (
 bd (fV.f lf) fun r8 =>
 some (r8.1,())) (
 bd (bW.f lf a0.2.1 a1.2.1) fun r9 =>
 bd (pz.f lf r4.1 r3.1) fun r10 =>
 bd (gZ.f lf r10.1 r10.2.1) fun r11 =>
 bd (lH.f lf r9.2.1 r11.1) fun r12 =>
 bd (qJ.f lf a0.2.1 a1.2.1) fun r13 =>
 bd (gZ.f lf r13.1 r13.2.1) fun r14 =>
 bd (lH.f lf r12.1 a0.2.1) fun r15 =>
 bd (mV.f lf a0.2.2.1 r15.1) fun r16 =>
 bd (jc.f lf r14.1 r16.1) fun r17 =>
 some (r17.1,()))))))
def E(lf:Nat):Entry:=⟨[yI,yI],[yI],fun x=>f lf x.1 x.2.1⟩
theorem ok(lf:Nat):Ok 176 (E lf):=okT (an:=(annsL [])) (lf:=lf) (tC (jc.ok lf) (tC (jl.ok lf) (tC (gU.ok lf) (tC (gZ.ok lf) (tC (jB.ok lf) (tC (gQ.ok lf) (tC (fV.ok lf) (tC (bW.ok lf) (tC (lH.ok lf) (tC (pz.ok lf) (tC (qJ.ok lf) (tC (mV.ok lf) tN)))))))))))) aoN fun x=>by kernel_rfl
end nU
namespace jK
def f(lf:Nat)(a0:TI)(a1:TI):Option (Int×Unit) :=
 bd (dn.f lf a0) fun r1 =>
 br (r1.1 != 0) (
 some (r1.1,())) (
 bd (dn.f lf a1) fun r2 =>
 some (r2.1,()))
def E(lf:Nat):Entry:=⟨[yI,yI],[(.int .i64)],fun x=>f lf x.1 x.2.1⟩
theorem ok(lf:Nat):Ok 169 (E lf):=okT (an:=(annsL [])) (lf:=lf) (tC (dn.ok lf) tN) aoN fun x=>by kernel_rfl
end jK
namespace mr
def f(lf:Nat)(a0:TI)(a1:TI):Option (TI×Int×Unit) :=
 bd (jK.f lf a0 a1) fun r1 =>
 br (r1.1 != 0) (
 some ((false,(⟨#[]⟩:ByteArray),(⟨#[]⟩:ByteArray),()),r1.1,())) (
 br a0.1 (
 bd (fV.f lf) fun r2 =>
 some (r2.1,0,())) (
 br a1.1 (
 bd (fV.f lf) fun r3 =>
 some (r3.1,0,())) (
 bd (nU.f lf a0 a1) fun r4 =>
 some (r4.1,0,()))))
def E(lf:Nat):Entry:=⟨[yI,yI],[yI,(.int .i64)],fun x=>f lf x.1 x.2.1⟩
theorem ok(lf:Nat):Ok 128 (E lf):=okT (an:=(annsL [])) (lf:=lf) (tC (jK.ok lf) (tC (nU.ok lf) (tC (fV.ok lf) tN))) aoN fun x=>by kernel_rfl
end mr
namespace lF
def f(lf:Nat)(a0:TI)(a1:ByteArray):Option (Bool×Int×Unit) :=
 bd (dn.f lf a0) fun r1 =>
 br (r1.1 != 0) (
 some (false,r1.1,())) (
 bd (dm.f lf a1) fun r2 =>
 br (r2.1 != 0) (
 some (false,r2.1,())) (
 br a0.1 (
 some (false,0,())) (
 br (a0.2.1.toList==(⟨#[48]⟩:ByteArray).toList) (
 some ((a1.toList==a0.2.2.1.toList),0,())) (
 bd (iQ.f lf a1 a0.2.1) fun r3 =>
 bd (gZ.f lf r3.1 r3.2.1) fun r4 =>
 some ((r4.1.toList==a0.2.2.1.toList),0,())))))
def E(lf:Nat):Entry:=⟨[yI,.str],[.bool,(.int .i64)],fun x=>f lf x.1 x.2.1⟩
theorem ok(lf:Nat):Ok 136 (E lf):=okT (an:=(annsL [])) (lf:=lf) (tC (dm.ok lf) (tC (dn.ok lf) (tC (gZ.ok lf) (tC (iQ.ok lf) tN)))) aoN fun x=>by kernel_rfl
end lF
namespace mg
def f(lf:Nat)(a0:TI)(a1:TI):Option (TI×Int×Unit) :=
 bd (jK.f lf a0 a1) fun r1 =>
 br (r1.1 != 0) (
 some ((false,(⟨#[]⟩:ByteArray),(⟨#[]⟩:ByteArray),()),r1.1,())) (
 br a0.1 (
 some (a1,0,())) (
 br a1.1 (
 some (a0,0,())) (
 bd (jl.f lf a0.2.1 a1.2.1) fun r2 =>
 bd (gU.f lf a0.2.2.1 a1.2.2.1) fun r3 =>
 bd (jl.f lf r2.1 r3.1) fun r4 =>
 bd (jc.f lf r4.1 a0.2.2.1) fun r5 =>
 some (r5.1,0,()))))
def E(lf:Nat):Entry:=⟨[yI,yI],[yI,(.int .i64)],fun x=>f lf x.1 x.2.1⟩
theorem ok(lf:Nat):Ok 123 (E lf):=okT (an:=(annsL [])) (lf:=lf) (tC (jK.ok lf) (tC (jc.ok lf) (tC (jl.ok lf) (tC (gU.ok lf) tN)))) aoN fun x=>by kernel_rfl
end mg
end
end Go.Q
namespace Go.Q
open Go Go.RowKit
open Go.Rx (br bd sIdx sCat sCut iQuo iRem)
noncomputable section
namespace jH
def f(lf:Nat)(a0:TI):Option (Bool×Unit) :=
 bd (kR.f lf a0.2.1) fun r1 =>
 br r1.1 (
 bd (kR.f lf a0.2.2.1) fun r2 =>
 some (r2.1,())) (
 some (false,()))
def E(lf:Nat):Entry:=⟨[yI],[.bool],fun x=>f lf x.1⟩
theorem ok(lf:Nat):Ok 56 (E lf):=okT (an:=(annsL [])) (lf:=lf) (tC (kR.ok lf) tN) aoN fun x=>by kernel_rfl
end jH
namespace bH
def f(lf:Nat)  : Option (TI×Unit) :=
 some ((true,(⟨#[]⟩:ByteArray),(⟨#[]⟩:ByteArray),()),())
def E(lf:Nat):Entry:=⟨[],[yI],fun x=>f lf⟩
theorem ok(lf:Nat):Ok 74 (E lf):=okT (an:=(annsL [])) (lf:=lf) tN aoN fun x=>by kernel_rfl
end bH
namespace fH
def f(lf:Nat)  : Option (TI×Unit) :=
 some ((false,(⟨#[49]⟩:ByteArray),(⟨#[48]⟩:ByteArray),()),())
def E(lf:Nat):Entry:=⟨[],[yI],fun x=>f lf⟩
theorem ok(lf:Nat):Ok 117 (E lf):=okT (an:=(annsL [])) (lf:=lf) tN aoN fun x=>by kernel_rfl
end fH
namespace dJ
def f(lf:Nat)(a0:ByteArray)(a1:ByteArray):Option (TI×Unit) :=
 bd (aT.f lf a0) fun r1 =>
 br (!(a0.toList==(⟨#[48]⟩:ByteArray).toList)) (
 bd (bF.f lf a1 r1.1) fun r2 =>
 bd (aG.f lf r1.1) fun r3 =>
 br (decide (r3.1 > 100)) (
 bd (fH.f lf) fun r4 =>
 some (r4.1,())) (
 bd (aG.f lf r2.1) fun r5 =>
 br (decide (r5.1 > 100)) (
 bd (fH.f lf) fun r6 =>
 some (r6.1,())) (
 some ((false,r1.1,r2.1,()),())))) (
 bd (aG.f lf r1.1) fun r7 =>
 br (decide (r7.1 > 100)) (
 bd (fH.f lf) fun r8 =>
 some (r8.1,())) (
 bd (aG.f lf a1) fun r9 =>
 br (decide (r9.1 > 100)) (
 bd (fH.f lf) fun r10 =>
 some (r10.1,())) (
 some ((false,r1.1,a1,()),()))))
def E(lf:Nat):Entry:=⟨[.str,.str],[yI],fun x=>f lf x.1 x.2.1⟩
theorem ok(lf:Nat):Ok 131 (E lf):=okT (an:=(annsL [])) (lf:=lf) (tC (aG.ok lf) (tC (fH.ok lf) (tC (bF.ok lf) (tC (aT.ok lf) tN)))) aoN fun x=>by kernel_rfl
end dJ
namespace jA
def f(lf:Nat)(a0:ByteArray):Option (TI×Unit) :=
 bd (dJ.f lf (⟨#[48]⟩:ByteArray) a0) fun r1 =>
 some (r1.1,())
def E(lf:Nat):Entry:=⟨[.str],[yI],fun x=>f lf x.1⟩
theorem ok(lf:Nat):Ok 80 (E lf):=okT (an:=(annsL [])) (lf:=lf) (tC (dJ.ok lf) tN) aoN fun x=>by kernel_rfl
end jA
namespace iq
def f(lf:Nat)(a0:TI)(a1:ByteArray):Option (ByteArray×Bool×Unit) :=
 br (a0.2.1.toList==(⟨#[48]⟩:ByteArray).toList) (
 bd (ay.f lf a0.2.2.1 a1) fun r1 =>
 br r1.1 (
 some ((⟨#[]⟩:ByteArray),false,())) (
 some (a0.2.2.1,true,()))) (
 bd (aJ.f lf a0.2.2.1 a1) fun r2 =>
 bd (bF.f lf r2.1 a0.2.1) fun r3 =>
 bd (fG.f lf a1 r3.1) fun r4 =>
 some (r4.1,true,()))
def E(lf:Nat):Entry:=⟨[yI,.str],[.str,.bool],fun x=>f lf x.1 x.2.1⟩
theorem ok(lf:Nat):Ok 114 (E lf):=okT (an:=(annsL [])) (lf:=lf) (tC (ay.ok lf) (tC (aJ.ok lf) (tC (fG.ok lf) (tC (bF.ok lf) tN)))) aoN fun x=>by kernel_rfl
end iq
namespace iT
def f(lf:Nat)(a0:TI):Option (TI×Unit) :=
 br a0.1 (
 some (a0,())) (
 bd (bV.f lf a0.2.2.1) fun r1 =>
 bd (dJ.f lf a0.2.1 r1.1) fun r2 =>
 some (r2.1,()))
def E(lf:Nat):Entry:=⟨[yI],[yI],fun x=>f lf x.1⟩
theorem ok(lf:Nat):Ok 163 (E lf):=okT (an:=(annsL [])) (lf:=lf) (tC (dJ.ok lf) (tC (bV.ok lf) tN)) aoN fun x=>by kernel_rfl
end iT
namespace ja
def f(lf:Nat)(a0:TI)(a1:ByteArray):Option (ByteArray×Bool×Unit) :=
 bd (iT.f lf a0) fun r1 =>
 bd (bV.f lf a1) fun r2 =>
 bd (iq.f lf r1.1 r2.1) fun r3 =>
 br (!r3.2.1) (
 some ((⟨#[]⟩:ByteArray),false,())) (
 bd (bV.f lf r3.1) fun r4 =>
 some (r4.1,true,()))
def E(lf:Nat):Entry:=⟨[yI,.str],[.str,.bool],fun x=>f lf x.1 x.2.1⟩
theorem ok(lf:Nat):Ok 115 (E lf):=okT (an:=(annsL [])) (lf:=lf) (tC (iq.ok lf) (tC (iT.ok lf) (tC (bV.ok lf) tN))) aoN fun x=>by kernel_rfl
end ja
namespace iP
def f(lf:Nat)(a0:ByteArray):Option (Int×Unit) :=
 bd (dD.f lf a0) fun r1 =>
 br (!r1.1) (
 some (3,())) (
 bd (aG.f lf a0) fun r2 =>
 br (decide (r2.1 > 100)) (
 some (10,())) (
 some (0,())))
def E(lf:Nat):Entry:=⟨[.str],[(.int .i64)],fun x=>f lf x.1⟩
theorem ok(lf:Nat):Ok 147 (E lf):=okT (an:=(annsL [])) (lf:=lf) (tC (dD.ok lf) (tC (aG.ok lf) tN)) aoN fun x=>by kernel_rfl
end iP
namespace jb
def f(lf:Nat)(a0:TI):Option (Int×Unit) :=
 br a0.1 (
 br (!(a0.2.1.toList==(⟨#[]⟩:ByteArray).toList)) (
 some (3,())) (
 br (!(a0.2.2.1.toList==(⟨#[]⟩:ByteArray).toList)) (
 some (3,())) (
 some (0,())))) (
 bd (iP.f lf a0.2.1) fun r1 =>
 br (r1.1 != 0) (
 some (r1.1,())) (
 bd (iP.f lf a0.2.2.1) fun r2 =>
 br (r2.1 != 0) (
 some (r2.1,())) (
 bd (dF.f lf a0.2.1) fun r3 =>
 br (decide (r3.1 < 0)) (
 some (2,())) (
 br (!(a0.2.1.toList==(⟨#[48]⟩:ByteArray).toList)) (
 bd (dF.f lf a0.2.2.1) fun r4 =>
 br (decide (r4.1 < 0)) (
 some (2,())) (
 bd (ay.f lf a0.2.2.1 a0.2.1) fun r5 =>
 br (!r5.1) (
 some (2,())) (
 some (0,())))) (
 some (0,()))))))
def E(lf:Nat):Entry:=⟨[yI],[(.int .i64)],fun x=>f lf x.1⟩
theorem ok(lf:Nat):Ok 99 (E lf):=okT (an:=(annsL [])) (lf:=lf) (tC (ay.ok lf) (tC (iP.ok lf) (tC (dF.ok lf) tN))) aoN fun x=>by kernel_rfl
end jb
namespace gI
def f(lf:Nat)(a0:ByteArray)(a1:ByteArray):Option (Bool×Unit) :=
 br (a0.toList==(⟨#[48]⟩:ByteArray).toList) (
 some ((a1.toList==(⟨#[48]⟩:ByteArray).toList),())) (
 bd (bF.f lf a1 a0) fun r1 =>
 some ((r1.1.toList==(⟨#[48]⟩:ByteArray).toList),()))
def E(lf:Nat):Entry:=⟨[.str,.str],[.bool],fun x=>f lf x.1 x.2.1⟩
theorem ok(lf:Nat):Ok 144 (E lf):=okT (an:=(annsL [])) (lf:=lf) (tC (bF.ok lf) tN) aoN fun x=>by kernel_rfl
end gI
namespace gq
def f(lf:Nat)(a0:TI)(a1:ByteArray):Option (Bool×Unit) :=
 br (!a0.1) (
 bd (aJ.f lf a1 a0.2.2.1) fun r1 =>
 bd (gI.f lf a0.2.1 r1.1) fun r2 =>
 some (r2.1,())) (
 some (false,()))
def E(lf:Nat):Entry:=⟨[yI,.str],[.bool],fun x=>f lf x.1 x.2.1⟩
theorem ok(lf:Nat):Ok 97 (E lf):=okT (an:=(annsL [])) (lf:=lf) (tC (gI.ok lf) (tC (aJ.ok lf) tN)) aoN fun x=>by kernel_rfl
end gq
namespace jy
def f(lf:Nat)(a0:TI)(a1:TI):Option (TI×Unit) :=
 br a0.1 (
 some (a1,())) (
 br a1.1 (
 some (a0,())) (
 bd (bT.f lf a0.2.1 a1.2.1) fun r1 =>
 bd (aJ.f lf a0.2.2.1 a1.2.2.1) fun r2 =>
 bd (bT.f lf r1.1 r2.1) fun r3 =>
 bd (dJ.f lf r3.1 a0.2.2.1) fun r4 =>
 some (r4.1,())))
def E(lf:Nat):Entry:=⟨[yI,yI],[yI],fun x=>f lf x.1 x.2.1⟩
theorem ok(lf:Nat):Ok 174 (E lf):=okT (an:=(annsL [])) (lf:=lf) (tC (dJ.ok lf) (tC (aJ.ok lf) (tC (bT.ok lf) tN))) aoN fun x=>by kernel_rfl
end jy
namespace kU
def f(lf:Nat)(a0:TI)(a1:TI):Option (TI×Unit) :=
 br a0.1 (
 bd (bH.f lf) fun r1 =>
 some (r1.1,())) (
 br a1.1 (
 bd (bH.f lf) fun r2 =>
 some (r2.1,())) (
 br (a0.2.1.toList==(⟨#[48]⟩:ByteArray).toList) (
 br (!(a0.2.1.toList==(⟨#[48]⟩:ByteArray).toList)) (
 bd (gq.f lf a0 a1.2.2.1) fun r3 =>
 br r3.1 (
 some (a1,())) (
 bd (bH.f lf) fun r4 =>
 some (r4.1,()))) (
 bd (gq.f lf a1 a0.2.2.1) fun r5 =>
 br r5.1 (
 some (a0,())) (
 bd (bH.f lf) fun r6 =>
 some (r6.1,())))) (
 br (a1.2.1.toList==(⟨#[48]⟩:ByteArray).toList) (
 br (!(a0.2.1.toList==(⟨#[48]⟩:ByteArray).toList)) (
 bd (gq.f lf a0 a1.2.2.1) fun r7 =>
 br r7.1 (
 some (a1,())) (
 bd (bH.f lf) fun r8 =>
 some (r8.1,()))) (
 bd (gq.f lf a1 a0.2.2.1) fun r9 =>
 br r9.1 (
 some (a0,())) (
 bd (bH.f lf) fun r10 =>
 some (r10.1,())))) (
 bd (bT.f lf a0.2.1 a1.2.1) fun r11 =>
 bd (aJ.f lf a1.2.2.1 a0.2.2.1) fun r12 =>
 bd (gI.f lf r11.1 r12.1) fun r13 =>
 br (!r13.1) (
 bd (bH.f lf) fun r14 =>
 some (r14.1,())) (
 bd (aU.f lf a0.2.1 a1.2.1) fun r15 =>
 bd (dh.f lf r12.1 r11.1) fun r16 =>
 bd (aY.f lf r15.1 r16.1) fun r17 =>
 bd (dh.f lf a1.2.1 r11.1) fun r18 =>
 bd (aY.f lf a0.2.1 r18.1) fun r19 =>
 bd (aY.f lf a0.2.1 r17.1) fun r20 =>
 bd (fG.f lf a0.2.2.1 r20.1) fun r21 =>
 bd (dJ.f lf r19.1 r21.1) fun r22 =>
 some (r22.1,()))))))
def E(lf:Nat):Entry:=⟨[yI,yI],[yI],fun x=>f lf x.1 x.2.1⟩
theorem ok(lf:Nat):Ok 182 (E lf):=okT (an:=(annsL [])) (lf:=lf) (tC (bH.ok lf) (tC (gq.ok lf) (tC (dJ.ok lf) (tC (gI.ok lf) (tC (aJ.ok lf) (tC (fG.ok lf) (tC (aY.ok lf) (tC (dh.ok lf) (tC (bT.ok lf) (tC (aU.ok lf) tN)))))))))) aoN fun x=>by kernel_rfl
end kU
end
end Go.Q
namespace Go.Q
open Go Go.RowKit
open Go.Rx (br bd sIdx sCat sCut iQuo iRem)
noncomputable section
namespace lM
def f(lf:Nat)(a0:ByteArray):Option (TV×Unit) :=
 some (((false,a0,a0,()),(false,(⟨#[48]⟩:ByteArray),a0,()),()),())
def E(lf:Nat):Entry:=⟨[.str],[yV],fun x=>f lf x.1⟩
theorem ok(lf:Nat):Ok 180 (E lf):=okT (an:=(annsL [])) (lf:=lf) tN aoN fun x=>by kernel_rfl
end lM
namespace jX
def f(lf:Nat)  : Option (TV×Unit) :=
 some (((true,(⟨#[]⟩:ByteArray),(⟨#[]⟩:ByteArray),()),(true,(⟨#[]⟩:ByteArray),(⟨#[]⟩:ByteArray),()),()),())
def E(lf:Nat):Entry:=⟨[],[yV],fun x=>f lf⟩
theorem ok(lf:Nat):Ok 265 (E lf):=okT (an:=(annsL [])) (lf:=lf) tN aoN fun x=>by kernel_rfl
end jX
namespace bU
def f(lf:Nat)(a0:ByteArray):Option (ByteArray×Unit) :=
 bd (strings_TrimPrefix.f lf a0 (⟨#[45]⟩:ByteArray)) fun r1 =>
 br (decide (((r1.1.size:Nat):Int) > 100)) (
 some ((⟨#[]⟩:ByteArray),())) (
 some (a0,()))
def E(lf:Nat):Entry:=⟨[.str],[.str],fun x=>f lf x.1⟩
theorem ok(lf:Nat):Ok 178 (E lf):=okT (an:=(annsL [])) (lf:=lf) (tC (strings_TrimPrefix.ok lf) tN) aoN fun x=>by kernel_rfl
end bU
namespace ji
def f(lf:Nat)(a0:TI)(a1:TI):Option (TV×Unit) :=
 br a0.1 (
 bd (jX.f lf) fun r1 =>
 some (r1.1,())) (
 br a1.1 (
 bd (jX.f lf) fun r2 =>
 some (r2.1,())) (
 br (a1.2.1.toList==(⟨#[48]⟩:ByteArray).toList) (
 bd (kG.f lf a0 a1.2.2.1) fun r3 =>
 br (!r3.1) (
 bd (jX.f lf) fun r4 =>
 some (r4.1,())) (
 bd (lM.f lf a1.2.2.1) fun r5 =>
 some (r5.1,()))) (
 br (!(a0.2.1.toList==(⟨#[]⟩:ByteArray).toList)) (
 bd (lG.f lf a1 a0.2.1) fun r6 =>
 br (!(a0.2.2.1.toList==(⟨#[]⟩:ByteArray).toList)) (
 bd (iW.f lf a1 a0.2.2.1) fun r7 =>
 br (!(r6.1.toList==(⟨#[]⟩:ByteArray).toList)) (
 br (!(r7.1.toList==(⟨#[]⟩:ByteArray).toList)) (
 bd (fP.f lf r6.1 r7.1) fun r8 =>
 br (decide (r8.1 > 0)) (
 bd (jX.f lf) fun r9 =>
 some (r9.1,())) (
 br (r8.1==0) (
 bd (lM.f lf r6.1) fun r10 =>
 some (r10.1,())) (
 bd (bU.f lf r6.1) fun r11 =>
 bd (bU.f lf r7.1) fun r12 =>
 some (((false,r11.1,r12.1,()),a1,()),())))) (
 bd (bU.f lf r6.1) fun r13 =>
 bd (bU.f lf r7.1) fun r14 =>
 some (((false,r13.1,r14.1,()),a1,()),()))) (
 bd (bU.f lf r6.1) fun r15 =>
 bd (bU.f lf r7.1) fun r16 =>
 some (((false,r15.1,r16.1,()),a1,()),()))) (
 br (!(r6.1.toList==(⟨#[]⟩:ByteArray).toList)) (
 br (!(a0.2.2.1.toList==(⟨#[]⟩:ByteArray).toList)) (
 bd (fP.f lf r6.1 a0.2.2.1) fun r17 =>
 br (decide (r17.1 > 0)) (
 bd (jX.f lf) fun r18 =>
 some (r18.1,())) (
 br (r17.1==0) (
 bd (lM.f lf r6.1) fun r19 =>
 some (r19.1,())) (
 bd (bU.f lf r6.1) fun r20 =>
 bd (bU.f lf a0.2.2.1) fun r21 =>
 some (((false,r20.1,r21.1,()),a1,()),())))) (
 bd (bU.f lf r6.1) fun r22 =>
 bd (bU.f lf a0.2.2.1) fun r23 =>
 some (((false,r22.1,r23.1,()),a1,()),()))) (
 bd (bU.f lf r6.1) fun r24 =>
 bd (bU.f lf a0.2.2.1) fun r25 =>
 some (((false,r24.1,r25.1,()),a1,()),())))) (
 br (!(a0.2.2.1.toList==(⟨#[]⟩:ByteArray).toList)) (
 bd (iW.f lf a1 a0.2.2.1) fun r26 =>
 br (!(a0.2.1.toList==(⟨#[]⟩:ByteArray).toList)) (
 br (!(r26.1.toList==(⟨#[]⟩:ByteArray).toList)) (
 bd (fP.f lf a0.2.1 r26.1) fun r27 =>
 br (decide (r27.1 > 0)) (
 bd (jX.f lf) fun r28 =>
 some (r28.1,())) (
 br (r27.1==0) (
 bd (lM.f lf a0.2.1) fun r29 =>
 some (r29.1,())) (
 bd (bU.f lf a0.2.1) fun r30 =>
 bd (bU.f lf r26.1) fun r31 =>
 some (((false,r30.1,r31.1,()),a1,()),())))) (
 bd (bU.f lf a0.2.1) fun r32 =>
 bd (bU.f lf r26.1) fun r33 =>
 some (((false,r32.1,r33.1,()),a1,()),()))) (
 bd (bU.f lf a0.2.1) fun r34 =>
 bd (bU.f lf r26.1) fun r35 =>
 some (((false,r34.1,r35.1,()),a1,()),()))) (
 br (!(a0.2.1.toList==(⟨#[]⟩:ByteArray).toList)) (
 br (!(a0.2.2.1.toList==(⟨#[]⟩:ByteArray).toList)) (
 bd (fP.f lf a0.2.1 a0.2.2.1) fun r36 =>
 br (decide (r36.1 > 0)) (
 bd (jX.f lf) fun r37 =>
 some (r37.1,())) (
 br (r36.1==0) (
 bd (lM.f lf a0.2.1) fun r38 =>
 some (r38.1,())) (
 bd (bU.f lf a0.2.1) fun r39 =>
 bd (bU.f lf a0.2.2.1) fun r40 =>
 some (((false,r39.1,r40.1,()),a1,()),())))) (
 bd (bU.f lf a0.2.1) fun r41 =>
 bd (bU.f lf a0.2.2.1) fun r42 =>
 some (((false,r41.1,r42.1,()),a1,()),()))) (
 bd (bU.f lf a0.2.1) fun r43 =>
 bd (bU.f lf a0.2.2.1) fun r44 =>
 some (((false,r43.1,r44.1,()),a1,()),())))))))
def E(lf:Nat):Entry:=⟨[yI,yI],[yV],fun x=>f lf x.1 x.2.1⟩
theorem ok(lf:Nat):Ok 155 (E lf):=okT (an:=(annsL [])) (lf:=lf) (tC (kG.ok lf) (tC (bU.ok lf) (tC (lM.ok lf) (tC (jX.ok lf) (tC (lG.ok lf) (tC (iW.ok lf) (tC (fP.ok lf) tN))))))) aoN fun x=>by kernel_rfl
end ji
namespace qc
def f(lf:Nat)(a0:TI)(a1:TI):Option (Int×Unit) :=
 bd (dI.f lf a0) fun r1 =>
 br (r1.1 != 0) (
 some (r1.1,())) (
 bd (dn.f lf a1) fun r2 =>
 some (r2.1,()))
def E(lf:Nat):Entry:=⟨[yI,yI],[(.int .i64)],fun x=>f lf x.1 x.2.1⟩
theorem ok(lf:Nat):Ok 166 (E lf):=okT (an:=(annsL [])) (lf:=lf) (tC (dI.ok lf) (tC (dn.ok lf) tN)) aoN fun x=>by kernel_rfl
end qc
namespace dV
def f(lf:Nat)(a0:TV):Option (Int×Unit) :=
 bd (qc.f lf a0.1 a0.2.1) fun r1 =>
 br (r1.1 != 0) (
 some (r1.1,())) (
 bd (ji.f lf a0.1 a0.2.1) fun r2 =>
 bd (some (!(((r2.1.1.1==a0.1.1)&&((r2.1.1.2.1==a0.1.2.1)&&((r2.1.1.2.2.1==a0.1.2.2.1)&&true)))&&(((r2.1.2.1.1==a0.2.1.1)&&((r2.1.2.1.2.1==a0.2.1.2.1)&&((r2.1.2.1.2.2.1==a0.2.1.2.2.1)&&true)))&&true)))) fun r3 =>
 br r3 (
 some (3,())) (
 some (0,())))
def E(lf:Nat):Entry:=⟨[yV],[(.int .i64)],fun x=>f lf x.1⟩
theorem ok(lf:Nat):Ok 118 (E lf):=okT (an:=(annsL [])) (lf:=lf) (tC (ji.ok lf) (tC (qc.ok lf) tN)) aoN fun x=>by kernel_rfl
end dV
namespace lZ
def f(lf:Nat)(a0:TV)(a1:TV):Option (Int×Unit) :=
 bd (dV.f lf a0) fun r1 =>
 br (r1.1 != 0) (
 some (r1.1,())) (
 bd (dV.f lf a1) fun r2 =>
 some (r2.1,()))
def E(lf:Nat):Entry:=⟨[yV,yV],[(.int .i64)],fun x=>f lf x.1 x.2.1⟩
theorem ok(lf:Nat):Ok 149 (E lf):=okT (an:=(annsL [])) (lf:=lf) (tC (dV.ok lf) tN) aoN fun x=>by kernel_rfl
end lZ
namespace lY
def f(lf:Nat)(a0:TV)(a1:TV):Option (TV×Int×Unit) :=
 bd (lZ.f lf a0 a1) fun r1 =>
 br (r1.1 != 0) (
 some (((false,(⟨#[]⟩:ByteArray),(⟨#[]⟩:ByteArray),()),(false,(⟨#[]⟩:ByteArray),(⟨#[]⟩:ByteArray),()),()),r1.1,())) (
 bd (nP.f lf a0.1 a1.1) fun r2 =>
 br (r2.2.1 != 0) (
 some (((false,(⟨#[]⟩:ByteArray),(⟨#[]⟩:ByteArray),()),(false,(⟨#[]⟩:ByteArray),(⟨#[]⟩:ByteArray),()),()),r2.2.1,())) (
 bd (mr.f lf a0.2.1 a1.2.1) fun r3 =>
 br (r3.2.1 != 0) (
 some (((false,(⟨#[]⟩:ByteArray),(⟨#[]⟩:ByteArray),()),(false,(⟨#[]⟩:ByteArray),(⟨#[]⟩:ByteArray),()),()),r3.2.1,())) (
 bd (ji.f lf r2.1 r3.1) fun r4 =>
 some (r4.1,0,()))))
def E(lf:Nat):Entry:=⟨[yV,yV],[yV,(.int .i64)],fun x=>f lf x.1 x.2.1⟩
theorem ok(lf:Nat):Ok 70 (E lf):=okT (an:=(annsL [])) (lf:=lf) (tC (nP.ok lf) (tC (mr.ok lf) (tC (lZ.ok lf) (tC (ji.ok lf) tN)))) aoN fun x=>by kernel_rfl
end lY
namespace vW
def f(lf:Nat)  : Option (TV×Unit) :=
 some (((false,(⟨#[]⟩:ByteArray),(⟨#[]⟩:ByteArray),()),(false,(⟨#[49]⟩:ByteArray),(⟨#[48]⟩:ByteArray),()),()),())
def E(lf:Nat):Entry:=⟨[],[yV],fun x=>f lf⟩
theorem ok(lf:Nat):Ok 179 (E lf):=okT (an:=(annsL [])) (lf:=lf) tN aoN fun x=>by kernel_rfl
end vW
namespace ve
def f(lf:Nat)(a0:ByteArray):Option (TV×Int×Unit) :=
 bd (dm.f lf a0) fun r1 =>
 br (r1.1 != 0) (
 some (((false,(⟨#[]⟩:ByteArray),(⟨#[]⟩:ByteArray),()),(false,(⟨#[]⟩:ByteArray),(⟨#[]⟩:ByteArray),()),()),r1.1,())) (
 bd (bU.f lf a0) fun r2 =>
 br (r2.1.toList==(⟨#[]⟩:ByteArray).toList) (
 bd (vW.f lf) fun r3 =>
 some (r3.1,0,())) (
 bd (lM.f lf a0) fun r4 =>
 some (r4.1,0,())))
def E(lf:Nat):Entry:=⟨[.str],[yV,(.int .i64)],fun x=>f lf x.1⟩
theorem ok(lf:Nat):Ok 129 (E lf):=okT (an:=(annsL [])) (lf:=lf) (tC (dm.ok lf) (tC (bU.ok lf) (tC (vW.ok lf) (tC (lM.ok lf) tN)))) aoN fun x=>by kernel_rfl
end ve
namespace gX
def f(lf:Nat)(a0:TV)(a1:ByteArray):Option (Bool×Int×Unit) :=
 bd (dV.f lf a0) fun r1 =>
 br (r1.1 != 0) (
 some (false,r1.1,())) (
 bd (kG.f lf a0.1 a1) fun r2 =>
 br (r2.2.1 != 0) (
 some (false,r2.2.1,())) (
 bd (lF.f lf a0.2.1 a1) fun r3 =>
 br r2.1 (
 br r3.1 (
 some ((r3.2.1==0),r3.2.1,())) (
 some (false,r3.2.1,()))) (
 some (false,r3.2.1,()))))
def E(lf:Nat):Entry:=⟨[yV,.str],[.bool,(.int .i64)],fun x=>f lf x.1 x.2.1⟩
theorem ok(lf:Nat):Ok 86 (E lf):=okT (an:=(annsL [])) (lf:=lf) (tC (dV.ok lf) (tC (kG.ok lf) (tC (lF.ok lf) tN))) aoN fun x=>by kernel_rfl
end gX
namespace iM
def f(lf:Nat)(a0:TV)(a1:TV):Option (TV×Int×Unit) :=
 bd (lZ.f lf a0 a1) fun r1 =>
 br (r1.1 != 0) (
 some (((false,(⟨#[]⟩:ByteArray),(⟨#[]⟩:ByteArray),()),(false,(⟨#[]⟩:ByteArray),(⟨#[]⟩:ByteArray),()),()),r1.1,())) (
 bd (nO.f lf a0.1 a1.1) fun r2 =>
 br (r2.2.1 != 0) (
 some (((false,(⟨#[]⟩:ByteArray),(⟨#[]⟩:ByteArray),()),(false,(⟨#[]⟩:ByteArray),(⟨#[]⟩:ByteArray),()),()),r2.2.1,())) (
 bd (mg.f lf a0.2.1 a1.2.1) fun r3 =>
 br (r3.2.1 != 0) (
 some (((false,(⟨#[]⟩:ByteArray),(⟨#[]⟩:ByteArray),()),(false,(⟨#[]⟩:ByteArray),(⟨#[]⟩:ByteArray),()),()),r3.2.1,())) (
 bd (ji.f lf r2.1 r3.1) fun r4 =>
 some (r4.1,0,()))))
def E(lf:Nat):Entry:=⟨[yV,yV],[yV,(.int .i64)],fun x=>f lf x.1 x.2.1⟩
theorem ok(lf:Nat):Ok 64 (E lf):=okT (an:=(annsL [])) (lf:=lf) (tC (nO.ok lf) (tC (mg.ok lf) (tC (lZ.ok lf) (tC (ji.ok lf) tN)))) aoN fun x=>by kernel_rfl
end iM
namespace oV
def f(lf:Nat)(a0:TV):Option (ByteArray×Int×Unit) :=
 bd (dV.f lf a0) fun r1 =>
 br (r1.1 != 0) (
 some ((⟨#[]⟩:ByteArray),r1.1,())) (
 bd (qf.f lf a0.1) fun r2 =>
 br (!a0.2.1.1) (
 br (!(a0.2.1.2.1.toList==(⟨#[48]⟩:ByteArray).toList)) (
 br (!(a0.2.1.2.1.toList==(⟨#[49]⟩:ByteArray).toList)) (
 bd (sCat (⟨#[32,109,111,100,32]⟩:ByteArray) a0.2.1.2.1) fun r3 =>
 bd (sCat r3 (⟨#[32,61,32]⟩:ByteArray)) fun r4 =>
 bd (sCat r4 a0.2.1.2.2.1) fun r5 =>
 bd (sCat r2.1 r5) fun r6 =>
 some (r6,r2.2.1,())) (
 some (r2.1,r2.2.1,()))) (
 some (r2.1,r2.2.1,()))) (
 some (r2.1,r2.2.1,())))
def E(lf:Nat):Entry:=⟨[yV],[.str,(.int .i64)],fun x=>f lf x.1⟩
theorem ok(lf:Nat):Ok 90 (E lf):=okT (an:=(annsL [])) (lf:=lf) (tC (dV.ok lf) (tC (qf.ok lf) tN)) aoN fun x=>by kernel_rfl
end oV
end
end Go.Q
