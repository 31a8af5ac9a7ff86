import Derived.Test.YtioemjeplgnccaaGreatDoorProg
import Derived.KernelRfl
import Derived.Test.YtioemjeplgnccaaGreatDoorTDE3
import Derived.Test.YtioemjeplgnccaaGreatDoorTDG1
import Derived.Test.YtioemjeplgnccaaGreatDoorTDG2
import Derived.Test.YtioemjeplgnccaaGreatDoorTDG3
import Derived.Test.YtioemjeplgnccaaGreatDoorTDG4
set_option linter.unusedVariables false
set_option linter.unusedSimpArgs false
set_option linter.unusedSectionVars false
set_option maxRecDepth 100000
namespace Go.Q
open Go Go.RowKit
open Go.Rx (br bd sIdx sCat sCut iQuo iRem iShl)
noncomputable section
namespace lF
def f(lf:Nat)(a0:TB)(a1:TB):Option (TB×TB×Unit) :=
 bd (ay.f lf a0.2.1 a1.2.1) fun r1 =>
 br (a0.1==a1.1) (
 some ((false,r1.1,()),(a1.1,r1.2.1,()),())) (
 br (decide (((r1.2.1.length:Nat):Int) > 0)) (
 bd (gu.f lf r1.1 [1]) fun r2 =>
 bd (dW.f lf a1.2.1 r1.2.1) fun r3 =>
 some ((true,r2.1,()),(a1.1,r3.1,()),())) (
 some ((true,r1.1,()),(a1.1,r1.2.1,()),())))
def E(lf:Nat):Entry:=⟨[yB,yB],[yB,yB],fun x=>f lf x.1 x.2.1⟩
theorem ok(lf:Nat):Ok 161 (E lf):=okT (an:=(annsL [])) (lf:=lf) (tC (gu.ok lf) (tC (dW.ok lf) (tC (ay.ok lf) tN))) aoN fun x=>by kernel_rfl
end lF
namespace jS
def f(lf:Nat)(a0:ByteArray)(a1:ByteArray):Option (ByteArray×ByteArray×Int×Unit) :=
 bd (fO.f lf a0 a1) fun r1 =>
 br (r1.2.2.1 != 0) (
 some ((⟨#[]⟩:ByteArray),(⟨#[]⟩:ByteArray),r1.2.2.1,())) (
 br (((r1.2.1.2.1.length:Nat):Int)==0) (
 some ((⟨#[]⟩:ByteArray),(⟨#[]⟩:ByteArray),19,())) (
 bd (lF.f lf r1.1 r1.2.1) fun r2 =>
 bd (aZ.f lf r2.1) fun r3 =>
 bd (aZ.f lf r2.2.1) fun r4 =>
 some (r3.1,r4.1,0,())))
def E(lf:Nat):Entry:=⟨[.str,.str],[.str,.str,(.int .i64)],fun x=>f lf x.1 x.2.1⟩
theorem ok(lf:Nat):Ok 98 (E lf):=okT (an:=(annsL [])) (lf:=lf) (tC (fO.ok lf) (tC (aZ.ok lf) (tC (lF.ok lf) tN))) aoN fun x=>by kernel_rfl
end jS
namespace fK
def f(lf:Nat)(a0:ByteArray)(a1:ByteArray):Option (ByteArray×Int×Unit) :=
 bd (jS.f lf a0 a1) fun r1 =>
 some (r1.1,r1.2.2.1,())
def E(lf:Nat):Entry:=⟨[.str,.str],[.str,(.int .i64)],fun x=>f lf x.1 x.2.1⟩
theorem ok(lf:Nat):Ok 38 (E lf):=okT (an:=(annsL [])) (lf:=lf) (tC (jS.ok lf) tN) aoN fun x=>by kernel_rfl
end fK
namespace dA
def f(lf:Nat)(a0:ByteArray)(a1:ByteArray):Option (ByteArray×Int×Unit) :=
 bd (jS.f lf a0 a1) fun r1 =>
 some (r1.2.1,r1.2.2.1,())
def E(lf:Nat):Entry:=⟨[.str,.str],[.str,(.int .i64)],fun x=>f lf x.1 x.2.1⟩
theorem ok(lf:Nat):Ok 39 (E lf):=okT (an:=(annsL [])) (lf:=lf) (tC (jS.ok lf) tN) aoN fun x=>by kernel_rfl
end dA
namespace oq
def f(lf:Nat)(a0:TB):Option (Int×Unit) :=
 br (((a0.2.1.length:Nat):Int)==0) (
 some (0,())) (
 br a0.1 (
 some ((-1),())) (
 some (1,())))
def E(lf:Nat):Entry:=⟨[yB],[(.int .i64)],fun x=>f lf x.1⟩
theorem ok(lf:Nat):Ok 162 (E lf):=okT (an:=(annsL [])) (lf:=lf) tN aoN fun x=>by kernel_rfl
end oq
namespace dR
def f(lf:Nat)(a0:ByteArray)(a1:ByteArray):Option (Int×Int×Unit) :=
 bd (fO.f lf a0 a1) fun r1 =>
 br (r1.2.2.1 != 0) (
 some (0,r1.2.2.1,())) (
 bd (kQ.f lf r1.2.1) fun r2 =>
 bd (kZ.f lf r1.1 r2.1) fun r3 =>
 bd (oq.f lf r3.1) fun r4 =>
 some (r4.1,0,()))
def E(lf:Nat):Entry:=⟨[.str,.str],[(.int .i64),(.int .i64)],fun x=>f lf x.1 x.2.1⟩
theorem ok(lf:Nat):Ok 100 (E lf):=okT (an:=(annsL [])) (lf:=lf) (tC (fO.ok lf) (tC (kZ.ok lf) (tC (kQ.ok lf) (tC (oq.ok lf) tN)))) aoN fun x=>by kernel_rfl
end dR
namespace pI
def f(lf:Nat)(a0:ByteArray):Option (Int×Int×Unit) :=
 bd (dR.f lf a0 (⟨#[48]⟩:ByteArray)) fun r1 =>
 some (r1.1,r1.2.1,())
def E(lf:Nat):Entry:=⟨[.str],[(.int .i64),(.int .i64)],fun x=>f lf x.1⟩
theorem ok(lf:Nat):Ok 41 (E lf):=okT (an:=(annsL [])) (lf:=lf) (tC (dR.ok lf) tN) aoN fun x=>by kernel_rfl
end pI
namespace oQ
def f(lf:Nat)(a0:ByteArray):Option (ByteArray×Int×Unit) :=
 bd (fM.f lf (⟨#[48]⟩:ByteArray) a0) fun r1 =>
 some (r1.1,r1.2.1,())
def E(lf:Nat):Entry:=⟨[.str],[.str,(.int .i64)],fun x=>f lf x.1⟩
theorem ok(lf:Nat):Ok 263 (E lf):=okT (an:=(annsL [])) (lf:=lf) (tC (fM.ok lf) tN) aoN fun x=>by kernel_rfl
end oQ
namespace oO
def f(lf:Nat)(a0:ByteArray):Option (ByteArray×Int×Unit) :=
 bd (bY.f lf a0) fun r1 =>
 br (r1.1 != 0) (
 some ((⟨#[]⟩:ByteArray),r1.1,())) (
 bd (strings_TrimPrefix.f lf a0 (⟨#[45]⟩:ByteArray)) fun r2 =>
 some (r2.1,0,()))
def E(lf:Nat):Entry:=⟨[.str],[.str,(.int .i64)],fun x=>f lf x.1⟩
theorem ok(lf:Nat):Ok 179 (E lf):=okT (an:=(annsL [])) (lf:=lf) (tC (bY.ok lf) (tC (strings_TrimPrefix.ok lf) tN)) aoN fun x=>by kernel_rfl
end oO
namespace gK
def anns:FuncId→FA:=annsL [(230,⟨annOf [(0,⟨kx 19 [0,1],[],[]⟩,⟨kx 19 [0,4],[],[]⟩)],none,[]⟩)]
def r0{ρ:Type}(lf:Nat)(v0 v1:List Int)(K:(List Int)→(List Int)→Option ρ)(E0:(List Int)→Option ρ):Option ρ :=
 br (decide (((v1.length:Nat):Int) > 0)) (
 bd (ay.f lf v0 v1) fun r1 =>
 K v1 r1.2.1) (
 E0 v0)
def l0(lf:Nat):Nat→(List Int)→(List Int)→Option (((List Int)×Unit)×Unit)
 | 0,_,_=>none
 | n+1,v0,v1=>r0 lf v0 v1 (l0 lf n) (fun w0=>some ((w0,()),()))
def sh0:ShS:=⟨[.s (.sl (.int .i64)),.s (.sl (.int .i64)),.a 17],[]⟩
def S0(p:(List Int)×(List Int)×Unit):St:=sh0.b p
def xh0:ShS:=⟨[.s (.sl (.int .i64)),.a 18],[]⟩
def o0(y:((List Int)×Unit)×Unit):Alt:=.one (.exit 0) (xh0.b (y.1.1,()))
def tb(lf:Nat):List (FuncId×Entry):=[(224,ay.E lf)]
def abv(lf:Nat):List (Nat×(St→Option LTE)):=[(0,sumE sh0 fun(p:(List Int)×(List Int)×Unit)=>⟨((List Int)×Unit)×Unit,l0 lf (lf+40) p.1 p.2.1,o0⟩)]
def ls(lf:Nat):List (Nat×FuncId×Sums):=[(13,230,sumsL (abv lf))]
def it0{ρ:Type}(lf n:Nat)(st:St)(k:KE ρ):Option ρ:=itG anns (ls lf) (tb lf) lf 13 230 0 0 (sumsL (abv lf)) n st k
theorem t0{ρ:Type}(lf n:Nat)(v0 v1:List Int)(k:KE ρ):it0 lf (n+1) (S0 (v0,v1,())) k=r0 lf v0 v1 (fun x0 x1=>it0 lf n (S0 (x0,x1,())) k) (fun w0=>k (.exit 0) (xh0.b (w0,()))):=by kernel_rfl
theorem u0{ρ:Type}(lf:Nat)(k:KE ρ):∀ (n:Nat) (v0 v1:List Int),it0 lf n (S0 (v0,v1,())) k=bd (l0 lf n v0 v1) fun y=>altK k (o0 y)
 | 0,_,_=>by rw[l0,bd_none];rfl
 | n+1,v0,v1=>by
  rw[t0];simp only[l0,r0,u0 lf k n,bd_br,bd_bd,bd_some',bd_none,br_t,br_f,o0,altK]
theorem sl(lf:Nat):SL anns (ls lf) (tb lf) lf (ls lf):=slC (laC (fun _=>by kernel_rfl) (fun _ (x:(List Int)×(List Int)×Unit) k=>dK (u0 lf k (lf+40) x.1 x.2.1)) laN) slN
def f(lf:Nat)(a0:List Int)(a1:List Int):Option ((List Int)×Unit) :=
 bd (l0 lf (lf+40) a0 a1) fun z2 =>
 some (z2.1.1,())
def E(lf:Nat):Entry:=⟨[(.sl (.int .i64)),(.sl (.int .i64))],[(.sl (.int .i64))],fun x=>f lf x.1 x.2.1⟩
theorem ok(lf:Nat):Ok 230 (E lf):=okL (tC (ay.ok lf) tN) (aoC aoN) (sl lf) fun x=>by kernel_rfl
end gK
namespace oP
def f(lf:Nat)(a0:ByteArray)(a1:ByteArray):Option (ByteArray×Int×Unit) :=
 bd (fO.f lf a0 a1) fun r1 =>
 br (r1.2.2.1 != 0) (
 some ((⟨#[]⟩:ByteArray),r1.2.2.1,())) (
 bd (gK.f lf r1.1.2.1 r1.2.1.2.1) fun r2 =>
 bd (aZ.f lf (false,r2.1,())) fun r3 =>
 some (r3.1,0,()))
def E(lf:Nat):Entry:=⟨[.str,.str],[.str,(.int .i64)],fun x=>f lf x.1 x.2.1⟩
theorem ok(lf:Nat):Ok 182 (E lf):=okT (an:=(annsL [])) (lf:=lf) (tC (fO.ok lf) (tC (aZ.ok lf) (tC (gK.ok lf) tN))) aoN fun x=>by kernel_rfl
end oP
end
end Go.Q
namespace Go.Q
open Go.IntKind (i64)
open Go Go.RowKit
open Go.Rx (br bd sIdx sCat sCut iQuo iRem iShl)
noncomputable section
namespace aT
def f(lf:Nat)(a0:ByteArray):Option (TX×Unit) :=
 some ((0,a0,()),())
def E(lf:Nat):Entry:=⟨[.str],[yX],fun x=>f lf x.1⟩
theorem ok(lf:Nat):Ok 67 (E lf):=okT (an:=(annsL [])) (lf:=lf) tN aoN fun x=>by kernel_rfl
end aT
namespace bC
def f(lf:Nat)(a0:Int):Option (TX×Unit) :=
 some ((a0,(⟨#[]⟩:ByteArray),()),())
def E(lf:Nat):Entry:=⟨[(.int .i64)],[yX],fun x=>f lf x.1⟩
theorem ok(lf:Nat):Ok 136 (E lf):=okT (an:=(annsL [])) (lf:=lf) tN aoN fun x=>by kernel_rfl
end bC
namespace aB
def f(lf:Nat)  : Option (TS×Unit) :=
 bd (bC.f lf 1) fun r1 =>
 bd (bC.f lf (-1)) fun r2 =>
 some ((r1.1,r2.1,()),())
def E(lf:Nat):Entry:=⟨[],[yS],fun x=>f lf⟩
theorem ok(lf:Nat):Ok 135 (E lf):=okT (an:=(annsL [])) (lf:=lf) (tC (bC.ok lf) tN) aoN fun x=>by kernel_rfl
end aB
namespace bF
def f(lf:Nat)(a0:TI):Option (TS×Unit) :=
 br a0.1 (
 bd (aB.f lf) fun r1 =>
 some (r1.1,())) (
 bd (bC.f lf (-1)) fun r2 =>
 bd (bC.f lf 1) fun r3 =>
 br (!(a0.2.1.toList==(⟨#[]⟩:ByteArray).toList)) (
 bd (aT.f lf a0.2.1) fun r4 =>
 br (!(a0.2.2.1.toList==(⟨#[]⟩:ByteArray).toList)) (
 bd (aT.f lf a0.2.2.1) fun r5 =>
 some ((r4.1,r5.1,()),())) (
 some ((r4.1,r3.1,()),()))) (
 br (!(a0.2.2.1.toList==(⟨#[]⟩:ByteArray).toList)) (
 bd (aT.f lf a0.2.2.1) fun r6 =>
 some ((r2.1,r6.1,()),())) (
 some ((r2.1,r3.1,()),()))))
def E(lf:Nat):Entry:=⟨[yI],[yS],fun x=>f lf x.1⟩
theorem ok(lf:Nat):Ok 66 (E lf):=okT (an:=(annsL [])) (lf:=lf) (tC (aT.ok lf) (tC (aB.ok lf) (tC (bC.ok lf) tN))) aoN fun x=>by kernel_rfl
end bF
namespace jA
def f(lf:Nat)(a0:ByteArray):Option (Int×Unit) :=
 br (decide (((a0.size:Nat):Int) > 0)) (
 bd (sIdx a0 0) fun r1 =>
 br (((r1.toNat:Nat):Int)==45) (
 some ((i64.wrap (((a0.size:Nat):Int)-1)),())) (
 some (((a0.size:Nat):Int),()))) (
 some (((a0.size:Nat):Int),()))
def E(lf:Nat):Entry:=⟨[.str],[(.int .i64)],fun x=>f lf x.1⟩
theorem ok(lf:Nat):Ok 189 (E lf):=okT (an:=(annsL [])) (lf:=lf) tN aoN fun x=>by kernel_rfl
end jA
namespace fQ
def f(lf:Nat)(a0:ByteArray):Option (Int×Unit) :=
 bd (bY.f lf a0) fun r1 =>
 br (r1.1 != 0) (
 some (r1.1,())) (
 bd (jA.f lf a0) fun r2 =>
 br (decide (r2.1 > 100)) (
 some (10,())) (
 some (0,())))
def E(lf:Nat):Entry:=⟨[.str],[(.int .i64)],fun x=>f lf x.1⟩
theorem ok(lf:Nat):Ok 133 (E lf):=okT (an:=(annsL [])) (lf:=lf) (tC (bY.ok lf) (tC (jA.ok lf) tN)) aoN fun x=>by kernel_rfl
end fQ
namespace bZ
def f(lf:Nat)(a0:ByteArray)(a1:ByteArray):Option (Int×Unit) :=
 bd (dR.f lf a0 a1) fun r1 =>
 some (r1.1,())
def E(lf:Nat):Entry:=⟨[.str,.str],[(.int .i64)],fun x=>f lf x.1 x.2.1⟩
theorem ok(lf:Nat):Ok 134 (E lf):=okT (an:=(annsL [])) (lf:=lf) (tC (dR.ok lf) tN) aoN fun x=>by kernel_rfl
end bZ
namespace bV
def f(lf:Nat)(a0:TI):Option (Int×Unit) :=
 br a0.1 (
 br (!(a0.2.1.toList==(⟨#[]⟩:ByteArray).toList)) (
 some (3,())) (
 br (!(a0.2.2.1.toList==(⟨#[]⟩:ByteArray).toList)) (
 some (3,())) (
 br (a0.2.1.toList==(⟨#[]⟩:ByteArray).toList) (
 br (a0.2.2.1.toList==(⟨#[]⟩:ByteArray).toList) (
 br (!(a0.2.1.toList==(⟨#[]⟩:ByteArray).toList)) (
 br (!(a0.2.2.1.toList==(⟨#[]⟩:ByteArray).toList)) (
 bd (bZ.f lf a0.2.1 a0.2.2.1) fun r1 =>
 br (decide (r1.1 > 0)) (
 some (14,())) (
 some (0,()))) (
 some (0,()))) (
 some (0,()))) (
 bd (fQ.f lf a0.2.2.1) fun r2 =>
 br (r2.1 != 0) (
 some (r2.1,())) (
 br (!(a0.2.1.toList==(⟨#[]⟩:ByteArray).toList)) (
 br (!(a0.2.2.1.toList==(⟨#[]⟩:ByteArray).toList)) (
 bd (bZ.f lf a0.2.1 a0.2.2.1) fun r3 =>
 br (decide (r3.1 > 0)) (
 some (14,())) (
 some (0,()))) (
 some (0,()))) (
 some (0,()))))) (
 bd (fQ.f lf a0.2.1) fun r4 =>
 br (r4.1 != 0) (
 some (r4.1,())) (
 br (a0.2.2.1.toList==(⟨#[]⟩:ByteArray).toList) (
 br (!(a0.2.1.toList==(⟨#[]⟩:ByteArray).toList)) (
 br (!(a0.2.2.1.toList==(⟨#[]⟩:ByteArray).toList)) (
 bd (bZ.f lf a0.2.1 a0.2.2.1) fun r5 =>
 br (decide (r5.1 > 0)) (
 some (14,())) (
 some (0,()))) (
 some (0,()))) (
 some (0,()))) (
 bd (fQ.f lf a0.2.2.1) fun r6 =>
 br (r6.1 != 0) (
 some (r6.1,())) (
 br (!(a0.2.1.toList==(⟨#[]⟩:ByteArray).toList)) (
 br (!(a0.2.2.1.toList==(⟨#[]⟩:ByteArray).toList)) (
 bd (bZ.f lf a0.2.1 a0.2.2.1) fun r7 =>
 br (decide (r7.1 > 0)) (
 some (14,())) (
 some (0,()))) (
 some (0,()))) (
 some (0,()))))))))) (
 br (a0.2.1.toList==(⟨#[]⟩:ByteArray).toList) (
 br (a0.2.2.1.toList==(⟨#[]⟩:ByteArray).toList) (
 br (!(a0.2.1.toList==(⟨#[]⟩:ByteArray).toList)) (
 br (!(a0.2.2.1.toList==(⟨#[]⟩:ByteArray).toList)) (
 bd (bZ.f lf a0.2.1 a0.2.2.1) fun r8 =>
 br (decide (r8.1 > 0)) (
 some (14,())) (
 some (0,()))) (
 some (0,()))) (
 some (0,()))) (
 bd (fQ.f lf a0.2.2.1) fun r9 =>
 br (r9.1 != 0) (
 some (r9.1,())) (
 br (!(a0.2.1.toList==(⟨#[]⟩:ByteArray).toList)) (
 br (!(a0.2.2.1.toList==(⟨#[]⟩:ByteArray).toList)) (
 bd (bZ.f lf a0.2.1 a0.2.2.1) fun r10 =>
 br (decide (r10.1 > 0)) (
 some (14,())) (
 some (0,()))) (
 some (0,()))) (
 some (0,()))))) (
 bd (fQ.f lf a0.2.1) fun r11 =>
 br (r11.1 != 0) (
 some (r11.1,())) (
 br (a0.2.2.1.toList==(⟨#[]⟩:ByteArray).toList) (
 br (!(a0.2.1.toList==(⟨#[]⟩:ByteArray).toList)) (
 br (!(a0.2.2.1.toList==(⟨#[]⟩:ByteArray).toList)) (
 bd (bZ.f lf a0.2.1 a0.2.2.1) fun r12 =>
 br (decide (r12.1 > 0)) (
 some (14,())) (
 some (0,()))) (
 some (0,()))) (
 some (0,()))) (
 bd (fQ.f lf a0.2.2.1) fun r13 =>
 br (r13.1 != 0) (
 some (r13.1,())) (
 br (!(a0.2.1.toList==(⟨#[]⟩:ByteArray).toList)) (
 br (!(a0.2.2.1.toList==(⟨#[]⟩:ByteArray).toList)) (
 bd (bZ.f lf a0.2.1 a0.2.2.1) fun r14 =>
 br (decide (r14.1 > 0)) (
 some (14,())) (
 some (0,()))) (
 some (0,()))) (
 some (0,())))))))
def E(lf:Nat):Entry:=⟨[yI],[(.int .i64)],fun x=>f lf x.1⟩
theorem ok(lf:Nat):Ok 65 (E lf):=okT (an:=(annsL [])) (lf:=lf) (tC (fQ.ok lf) (tC (bZ.ok lf) tN)) aoN fun x=>by kernel_rfl
end bV
namespace dG
def f(lf:Nat)(a0:TX)(a1:TX):Option (Int×Unit) :=
 br (a0.1 != 0) (
 some ((i64.wrap (a0.1-a1.1)),())) (
 br (a1.1 != 0) (
 some ((i64.wrap (a0.1-a1.1)),())) (
 bd (bZ.f lf a0.2.1 a1.2.1) fun r1 =>
 some (r1.1,())))
def E(lf:Nat):Entry:=⟨[yX,yX],[(.int .i64)],fun x=>f lf x.1 x.2.1⟩
theorem ok(lf:Nat):Ok 68 (E lf):=okT (an:=(annsL [])) (lf:=lf) (tC (bZ.ok lf) tN) aoN fun x=>by kernel_rfl
end dG
namespace ak
def f(lf:Nat)(a0:TS):Option (Bool×Unit) :=
 bd (dG.f lf a0.1 a0.2.1) fun r1 =>
 some ((decide (r1.1 > 0)),())
def E(lf:Nat):Entry:=⟨[yS],[.bool],fun x=>f lf x.1⟩
theorem ok(lf:Nat):Ok 166 (E lf):=okT (an:=(annsL [])) (lf:=lf) (tC (dG.ok lf) tN) aoN fun x=>by kernel_rfl
end ak
namespace lH
def f(lf:Nat)(a0:TX):Option (ByteArray×Unit) :=
 br (a0.1 != 0) (
 some ((⟨#[]⟩:ByteArray),())) (
 bd (jA.f lf a0.2.1) fun r1 =>
 br (decide (r1.1 > 100)) (
 some ((⟨#[]⟩:ByteArray),())) (
 some (a0.2.1,())))
def E(lf:Nat):Entry:=⟨[yX],[.str],fun x=>f lf x.1⟩
theorem ok(lf:Nat):Ok 225 (E lf):=okT (an:=(annsL [])) (lf:=lf) (tC (jA.ok lf) tN) aoN fun x=>by kernel_rfl
end lH
namespace af
def f(lf:Nat)(a0:TS):Option (TI×Unit) :=
 bd (ak.f lf a0) fun r1 =>
 br r1.1 (
 some ((true,(⟨#[]⟩:ByteArray),(⟨#[]⟩:ByteArray),()),())) (
 bd (lH.f lf a0.1) fun r2 =>
 bd (lH.f lf a0.2.1) fun r3 =>
 some ((false,r2.1,r3.1,()),()))
def E(lf:Nat):Entry:=⟨[yS],[yI],fun x=>f lf x.1⟩
theorem ok(lf:Nat):Ok 165 (E lf):=okT (an:=(annsL [])) (lf:=lf) (tC (ak.ok lf) (tC (lH.ok lf) tN)) aoN fun x=>by kernel_rfl
end af
namespace iM
def f(lf:Nat)(a0:ByteArray)(a1:ByteArray):Option (ByteArray×Unit) :=
 bd (fJ.f lf a0 a1) fun r1 =>
 some (r1.1,())
def E(lf:Nat):Entry:=⟨[.str,.str],[.str],fun x=>f lf x.1 x.2.1⟩
theorem ok(lf:Nat):Ok 168 (E lf):=okT (an:=(annsL [])) (lf:=lf) (tC (fJ.ok lf) tN) aoN fun x=>by kernel_rfl
end iM
namespace jQ
def f(lf:Nat)(a0:TX)(a1:TX):Option (TX×Unit) :=
 br (a0.1 != 0) (
 bd (bC.f lf (if(if(i64.wrap (a0.1+a1.1)) < 1 then(i64.wrap (a0.1+a1.1))else 1) >(-1)then(if(i64.wrap (a0.1+a1.1)) < 1 then(i64.wrap (a0.1+a1.1))else 1)else(-1))) fun r1 =>
 some (r1.1,())) (
 br (a1.1 != 0) (
 bd (bC.f lf (if(if(i64.wrap (a0.1+a1.1)) < 1 then(i64.wrap (a0.1+a1.1))else 1) >(-1)then(if(i64.wrap (a0.1+a1.1)) < 1 then(i64.wrap (a0.1+a1.1))else 1)else(-1))) fun r2 =>
 some (r2.1,())) (
 bd (iM.f lf a0.2.1 a1.2.1) fun r3 =>
 bd (aT.f lf r3.1) fun r4 =>
 some (r4.1,())))
def E(lf:Nat):Entry:=⟨[yX,yX],[yX],fun x=>f lf x.1 x.2.1⟩
theorem ok(lf:Nat):Ok 167 (E lf):=okT (an:=(annsL [])) (lf:=lf) (tC (aT.ok lf) (tC (bC.ok lf) (tC (iM.ok lf) tN))) aoN fun x=>by kernel_rfl
end jQ
namespace iL
def f(lf:Nat)(a0:TS)(a1:TS):Option (TS×Unit) :=
 bd (ak.f lf a0) fun r1 =>
 br r1.1 (
 bd (aB.f lf) fun r2 =>
 some (r2.1,())) (
 bd (ak.f lf a1) fun r3 =>
 br r3.1 (
 bd (aB.f lf) fun r4 =>
 some (r4.1,())) (
 bd (jQ.f lf a0.1 a1.1) fun r5 =>
 bd (jQ.f lf a0.2.1 a1.2.1) fun r6 =>
 some ((r5.1,r6.1,()),())))
def E(lf:Nat):Entry:=⟨[yS,yS],[yS],fun x=>f lf x.1 x.2.1⟩
theorem ok(lf:Nat):Ok 110 (E lf):=okT (an:=(annsL [])) (lf:=lf) (tC (aB.ok lf) (tC (ak.ok lf) (tC (jQ.ok lf) tN))) aoN fun x=>by kernel_rfl
end iL
namespace jG
def f(lf:Nat)(a0:TI)(a1:TI):Option (TI×Int×Unit) :=
 bd (bV.f lf a0) fun r1 =>
 br (r1.1 != 0) (
 br (r1.1 != 0) (
 some ((false,(⟨#[]⟩:ByteArray),(⟨#[]⟩:ByteArray),()),r1.1,())) (
 bd (bF.f lf a0) fun r2 =>
 bd (bF.f lf a1) fun r3 =>
 bd (iL.f lf r2.1 r3.1) fun r4 =>
 bd (af.f lf r4.1) fun r5 =>
 some (r5.1,0,()))) (
 bd (bV.f lf a1) fun r6 =>
 br (r6.1 != 0) (
 br (r6.1 != 0) (
 some ((false,(⟨#[]⟩:ByteArray),(⟨#[]⟩:ByteArray),()),r6.1,())) (
 bd (bF.f lf a0) fun r7 =>
 bd (bF.f lf a1) fun r8 =>
 bd (iL.f lf r7.1 r8.1) fun r9 =>
 bd (af.f lf r9.1) fun r10 =>
 some (r10.1,0,()))) (
 bd (bF.f lf a0) fun r11 =>
 bd (bF.f lf a1) fun r12 =>
 bd (iL.f lf r11.1 r12.1) fun r13 =>
 bd (af.f lf r13.1) fun r14 =>
 some (r14.1,0,())))
def E(lf:Nat):Entry:=⟨[yI,yI],[yI,(.int .i64)],fun x=>f lf x.1 x.2.1⟩
theorem ok(lf:Nat):Ok 51 (E lf):=okT (an:=(annsL [])) (lf:=lf) (tC (bV.ok lf) (tC (bF.ok lf) (tC (iL.ok lf) (tC (af.ok lf) tN)))) aoN fun x=>by kernel_rfl
end jG
namespace jc
def f(lf:Nat)(a0:ByteArray):Option (ByteArray×Unit) :=
 bd (oQ.f lf a0) fun r1 =>
 some (r1.1,())
def E(lf:Nat):Entry:=⟨[.str],[.str],fun x=>f lf x.1⟩
theorem ok(lf:Nat):Ok 226 (E lf):=okT (an:=(annsL [])) (lf:=lf) (tC (oQ.ok lf) tN) aoN fun x=>by kernel_rfl
end jc
namespace jq
def f(lf:Nat)(a0:TX):Option (TX×Unit) :=
 br (a0.1 != 0) (
 bd (bC.f lf (i64.wrap (0-a0.1))) fun r1 =>
 some (r1.1,())) (
 bd (jc.f lf a0.2.1) fun r2 =>
 bd (aT.f lf r2.1) fun r3 =>
 some (r3.1,()))
def E(lf:Nat):Entry:=⟨[yX],[yX],fun x=>f lf x.1⟩
theorem ok(lf:Nat):Ok 169 (E lf):=okT (an:=(annsL [])) (lf:=lf) (tC (aT.ok lf) (tC (bC.ok lf) (tC (jc.ok lf) tN))) aoN fun x=>by kernel_rfl
end jq
namespace ax
def f(lf:Nat)(a0:TS):Option (TS×Unit) :=
 bd (ak.f lf a0) fun r1 =>
 br r1.1 (
 bd (aB.f lf) fun r2 =>
 some (r2.1,())) (
 bd (jq.f lf a0.2.1) fun r3 =>
 bd (jq.f lf a0.1) fun r4 =>
 some ((r3.1,r4.1,()),()))
def E(lf:Nat):Entry:=⟨[yS],[yS],fun x=>f lf x.1⟩
theorem ok(lf:Nat):Ok 112 (E lf):=okT (an:=(annsL [])) (lf:=lf) (tC (aB.ok lf) (tC (ak.ok lf) (tC (jq.ok lf) tN))) aoN fun x=>by kernel_rfl
end ax
namespace kU
def f(lf:Nat)(a0:TS)(a1:TS):Option (TS×Unit) :=
 bd (ax.f lf a1) fun r1 =>
 bd (iL.f lf a0 r1.1) fun r2 =>
 some (r2.1,())
def E(lf:Nat):Entry:=⟨[yS,yS],[yS],fun x=>f lf x.1 x.2.1⟩
theorem ok(lf:Nat):Ok 111 (E lf):=okT (an:=(annsL [])) (lf:=lf) (tC (iL.ok lf) (tC (ax.ok lf) tN)) aoN fun x=>by kernel_rfl
end kU
namespace jK
def f(lf:Nat)(a0:TI)(a1:TI):Option (TI×Int×Unit) :=
 bd (bV.f lf a0) fun r1 =>
 br (r1.1 != 0) (
 br (r1.1 != 0) (
 some ((false,(⟨#[]⟩:ByteArray),(⟨#[]⟩:ByteArray),()),r1.1,())) (
 bd (bF.f lf a0) fun r2 =>
 bd (bF.f lf a1) fun r3 =>
 bd (kU.f lf r2.1 r3.1) fun r4 =>
 bd (af.f lf r4.1) fun r5 =>
 some (r5.1,0,()))) (
 bd (bV.f lf a1) fun r6 =>
 br (r6.1 != 0) (
 br (r6.1 != 0) (
 some ((false,(⟨#[]⟩:ByteArray),(⟨#[]⟩:ByteArray),()),r6.1,())) (
 bd (bF.f lf a0) fun r7 =>
 bd (bF.f lf a1) fun r8 =>
 bd (kU.f lf r7.1 r8.1) fun r9 =>
 bd (af.f lf r9.1) fun r10 =>
 some (r10.1,0,()))) (
 bd (bF.f lf a0) fun r11 =>
 bd (bF.f lf a1) fun r12 =>
 bd (kU.f lf r11.1 r12.1) fun r13 =>
 bd (af.f lf r13.1) fun r14 =>
 some (r14.1,0,())))
def E(lf:Nat):Entry:=⟨[yI,yI],[yI,(.int .i64)],fun x=>f lf x.1 x.2.1⟩
theorem ok(lf:Nat):Ok 52 (E lf):=okT (an:=(annsL [])) (lf:=lf) (tC (bV.ok lf) (tC (bF.ok lf) (tC (kU.ok lf) (tC (af.ok lf) tN)))) aoN fun x=>by kernel_rfl
end jK
namespace fU
def f(lf:Nat)(a0:TX):Option (Int×Unit) :=
 br (a0.1 != 0) (
 some (a0.1,())) (
 bd (bZ.f lf a0.2.1 (⟨#[48]⟩:ByteArray)) fun r1 =>
 some (r1.1,()))
def E(lf:Nat):Entry:=⟨[yX],[(.int .i64)],fun x=>f lf x.1⟩
theorem ok(lf:Nat):Ok 170 (E lf):=okT (an:=(annsL [])) (lf:=lf) (tC (bZ.ok lf) tN) aoN fun x=>by kernel_rfl
end fU
end
end Go.Q
namespace Go.Q
open Go Go.RowKit
open Go.Rx (br bd sIdx sCat sCut iQuo iRem iShl)
noncomputable section
namespace iZ
def f(lf:Nat)(a0:ByteArray):Option (Bool×Unit) :=
 some ((decide (((a0.size:Nat):Int)≤450)),())
def E(lf:Nat):Entry:=⟨[.str],[.bool],fun x=>f lf x.1⟩
theorem ok(lf:Nat):Ok 28 (E lf):=okT (an:=(annsL [])) (lf:=lf) tN aoN fun x=>by kernel_rfl
end iZ
end
end Go.Q
namespace Go.Q
open Go.IntKind (i64)
open Go Go.RowKit
open Go.Rx (br bd sIdx sCat sCut iQuo iRem iShl)
noncomputable section
namespace eu
def f(lf:Nat)(a0:ByteArray):Option (Int×Unit) :=
 bd (jC.f lf a0) fun r1 =>
 br (r1.1 != 0) (
 some (r1.1,())) (
 bd (aF.f lf a0) fun r2 =>
 br (decide (r2.1 > 100)) (
 some (10,())) (
 some (0,())))
def E(lf:Nat):Entry:=⟨[.str],[(.int .i64)],fun x=>f lf x.1⟩
theorem ok(lf:Nat):Ok 29 (E lf):=okT (an:=(annsL [])) (lf:=lf) (tC (aF.ok lf) (tC (jC.ok lf) tN)) aoN fun x=>by kernel_rfl
end eu
namespace aO
def anns:FuncId→FA:=annsL [(6,⟨annOf [(0,⟨kx 19 [0,3],[],[]⟩,⟨kx 19 [2],[],[]⟩)],none,[]⟩)]
def r0{ρ:Type}(lf:Nat)(v0:List ByteArray)(v1:Int)(K:Int→Option ρ)(E0:Option ρ)(E1:Option ρ):Option ρ :=
 br (decide (v1 < ((v0.length:Nat):Int))) (
 bd (idxL v0 v1) fun y1 =>
 bd (iZ.f lf y1) fun r2 =>
 br (!r2.1) (
 E0) (
 K (i64.wrap (v1+1)))) (
 E1)
def l0(lf:Nat)(v0:List ByteArray):Nat→Int→Option (Bool×(Unit)×(Unit)×Unit)
 | 0,_=>none
 | n+1,v1=>r0 lf v0 v1 (l0 lf v0 n) (some (true,(()),((()),()))) (some (false,(()),((()),())))
def sh0:ShS:=⟨[.s (.sl .str),.a 2,.s (.int .i64),.a 15],[]⟩
def S0(p:(List ByteArray)×Int×Unit):St:=sh0.b p
def xh0:ShS:=⟨[.a 2,.s .bool,.a 16],[]⟩
def xh1:ShS:=⟨[.a 19],[]⟩
def o0(v0:List ByteArray)(y:Bool×(Unit)×(Unit)×Unit):Alt:=.two y.1 (.one .ret (xh0.b (false,()))) (.one (.exit 0) (xh1.b (())))
def tb(lf:Nat):List (FuncId×Entry):=[(28,iZ.E lf)]
def ae0(lf:Nat):List (Nat×(St→Option LTE)):=[(0,sumE sh0 fun(p:(List ByteArray)×Int×Unit)=>⟨Bool×(Unit)×(Unit)×Unit,l0 lf p.1 (lf+40) p.2.1,o0 p.1⟩)]
def ls(lf:Nat):List (Nat×FuncId×Sums):=[(13,6,sumsL (ae0 lf))]
def it0{ρ:Type}(lf n:Nat)(st:St)(k:KE ρ):Option ρ:=itG anns (ls lf) (tb lf) lf 13 6 0 0 (sumsL (ae0 lf)) n st k
theorem t0{ρ:Type}(lf n:Nat)(v0:List ByteArray)(v1:Int)(k:KE ρ):it0 lf (n+1) (S0 (v0,v1,())) k=r0 lf v0 v1 (fun x0=>it0 lf n (S0 (v0,x0,())) k) (k .ret (xh0.b (false,()))) (k (.exit 0) (xh1.b (()))):=by kernel_rfl
theorem u0{ρ:Type}(lf:Nat)(v0:List ByteArray)(k:KE ρ):∀ (n:Nat) (v1:Int),it0 lf n (S0 (v0,v1,())) k=bd (l0 lf v0 n v1) fun y=>altK k (o0 v0 y)
 | 0,_=>by rw[l0,bd_none];rfl
 | n+1,v1=>by
  rw[t0];simp only[l0,r0,u0 lf v0 k n,bd_br,bd_bd,bd_some',bd_none,br_t,br_f,o0,altK]
theorem sl(lf:Nat):SL anns (ls lf) (tb lf) lf (ls lf):=slC (laC (fun _=>by kernel_rfl) (fun _ (x:(List ByteArray)×Int×Unit) k=>dK (u0 lf x.1 k (lf+40) x.2.1)) laN) slN
def f(lf:Nat)(a0:List ByteArray):Option (Bool×Unit) :=
 br (decide (((a0.length:Nat):Int) > 40)) (
 some (false,())) (
 bd (l0 lf a0 (lf+40) 0) fun z3 =>
 br z3.1 (
 some (false,())) (
 some (true,())))
def E(lf:Nat):Entry:=⟨[(.sl .str)],[.bool],fun x=>f lf x.1⟩
theorem ok(lf:Nat):Ok 6 (E lf):=okL (tC (iZ.ok lf) tN) (aoC aoN) (sl lf) fun x=>by kernel_rfl
end aO
namespace aP
def anns:FuncId→FA:=annsL [(7,⟨annOf [(0,⟨kx 19 [0,3],[],[]⟩,⟨kx 19 [2],[],[]⟩)],none,[]⟩)]
def r0{ρ:Type}(lf:Nat)(v0:List ByteArray)(v1:Int)(K:Int→Option ρ)(E0:Int→Option ρ)(E1:Option ρ):Option ρ :=
 br (decide (v1 < ((v0.length:Nat):Int))) (
 bd (idxL v0 v1) fun y1 =>
 bd (eu.f lf y1) fun r2 =>
 br (r2.1 != 0) (
 E0 r2.1) (
 K (i64.wrap (v1+1)))) (
 E1)
def l0(lf:Nat)(v0:List ByteArray):Nat→Int→Option (Bool×(Int×Unit)×(Unit)×Unit)
 | 0,_=>none
 | n+1,v1=>r0 lf v0 v1 (l0 lf v0 n) (fun w0=>some (true,(w0,()),((()),()))) (some (false,(0,()),((()),())))
def sh0:ShS:=⟨[.s (.sl .str),.a 2,.s (.int .i64),.a 15],[]⟩
def S0(p:(List ByteArray)×Int×Unit):St:=sh0.b p
def xh0:ShS:=⟨[.a 2,.s (.int .i64),.a 16],[]⟩
def xh1:ShS:=⟨[.a 19],[]⟩
def o0(v0:List ByteArray)(y:Bool×(Int×Unit)×(Unit)×Unit):Alt:=.two y.1 (.one .ret (xh0.b (y.2.1.1,()))) (.one (.exit 0) (xh1.b (())))
def tb(lf:Nat):List (FuncId×Entry):=[(29,eu.E lf)]
def ae1(lf:Nat):List (Nat×(St→Option LTE)):=[(0,sumE sh0 fun(p:(List ByteArray)×Int×Unit)=>⟨Bool×(Int×Unit)×(Unit)×Unit,l0 lf p.1 (lf+40) p.2.1,o0 p.1⟩)]
def ls(lf:Nat):List (Nat×FuncId×Sums):=[(13,7,sumsL (ae1 lf))]
def it0{ρ:Type}(lf n:Nat)(st:St)(k:KE ρ):Option ρ:=itG anns (ls lf) (tb lf) lf 13 7 0 0 (sumsL (ae1 lf)) n st k
theorem t0{ρ:Type}(lf n:Nat)(v0:List ByteArray)(v1:Int)(k:KE ρ):it0 lf (n+1) (S0 (v0,v1,())) k=r0 lf v0 v1 (fun x0=>it0 lf n (S0 (v0,x0,())) k) (fun w0=>k .ret (xh0.b (w0,()))) (k (.exit 0) (xh1.b (()))):=by kernel_rfl
theorem u0{ρ:Type}(lf:Nat)(v0:List ByteArray)(k:KE ρ):∀ (n:Nat) (v1:Int),it0 lf n (S0 (v0,v1,())) k=bd (l0 lf v0 n v1) fun y=>altK k (o0 v0 y)
 | 0,_=>by rw[l0,bd_none];rfl
 | n+1,v1=>by
  rw[t0];simp only[l0,r0,u0 lf v0 k n,bd_br,bd_bd,bd_some',bd_none,br_t,br_f,o0,altK]
theorem sl(lf:Nat):SL anns (ls lf) (tb lf) lf (ls lf):=slC (laC (fun _=>by kernel_rfl) (fun _ (x:(List ByteArray)×Int×Unit) k=>dK (u0 lf x.1 k (lf+40) x.2.1)) laN) slN
def f(lf:Nat)(a0:List ByteArray):Option (Int×Unit) :=
 bd (l0 lf a0 (lf+40) 0) fun z3 =>
 br z3.1 (
 some (z3.2.1.1,())) (
 some (0,()))
def E(lf:Nat):Entry:=⟨[(.sl .str)],[(.int .i64)],fun x=>f lf x.1⟩
theorem ok(lf:Nat):Ok 7 (E lf):=okL (tC (eu.ok lf) tN) (aoC aoN) (sl lf) fun x=>by kernel_rfl
end aP
end
end Go.Q
namespace Go.Q
open Go.IntKind (i64)
open Go Go.RowKit
open Go.Rx (br bd sIdx sCat sCut iQuo iRem iShl)
noncomputable section
namespace dJ
def f(lf:Nat)(a0:TX)(a1:TX):Option (TX×Unit) :=
 bd (fU.f lf a0) fun r1 =>
 bd (fU.f lf a1) fun r2 =>
 br ((i64.wrap (r1.1*r2.1))==0) (
 bd (aT.f lf (⟨#[48]⟩:ByteArray)) fun r3 =>
 some (r3.1,())) (
 br (a0.1 != 0) (
 bd (bC.f lf (i64.wrap (r1.1*r2.1))) fun r4 =>
 some (r4.1,())) (
 br (a1.1 != 0) (
 bd (bC.f lf (i64.wrap (r1.1*r2.1))) fun r5 =>
 some (r5.1,())) (
 bd (gV.f lf a0.2.1 a1.2.1) fun r6 =>
 bd (aT.f lf r6.1) fun r7 =>
 some (r7.1,()))))
def E(lf:Nat):Entry:=⟨[yX,yX],[yX],fun x=>f lf x.1 x.2.1⟩
theorem ok(lf:Nat):Ok 113 (E lf):=okT (an:=(annsL [])) (lf:=lf) (tC (gV.ok lf) (tC (aT.ok lf) (tC (bC.ok lf) (tC (fU.ok lf) tN)))) aoN fun x=>by kernel_rfl
end dJ
namespace gQ
def f(lf:Nat)(a0:TX)(a1:TX):Option (TX×Unit) :=
 bd (dG.f lf a1 a0) fun r1 =>
 br (decide (r1.1 < 0)) (
 some (a1,())) (
 some (a0,()))
def E(lf:Nat):Entry:=⟨[yX,yX],[yX],fun x=>f lf x.1 x.2.1⟩
theorem ok(lf:Nat):Ok 178 (E lf):=okT (an:=(annsL [])) (lf:=lf) (tC (dG.ok lf) tN) aoN fun x=>by kernel_rfl
end gQ
namespace kG
def f(lf:Nat)(a0:TX)(a1:TX):Option (TX×Unit) :=
 bd (dG.f lf a1 a0) fun r1 =>
 br (decide (r1.1 > 0)) (
 some (a1,())) (
 some (a0,()))
def E(lf:Nat):Entry:=⟨[yX,yX],[yX],fun x=>f lf x.1 x.2.1⟩
theorem ok(lf:Nat):Ok 228 (E lf):=okT (an:=(annsL [])) (lf:=lf) (tC (dG.ok lf) tN) aoN fun x=>by kernel_rfl
end kG
namespace ah
def f(lf:Nat)(a0:TS)(a1:TS):Option (TS×Unit) :=
 bd (ak.f lf a0) fun r1 =>
 br r1.1 (
 some (a1,())) (
 bd (ak.f lf a1) fun r2 =>
 br r2.1 (
 some (a0,())) (
 bd (gQ.f lf a0.1 a1.1) fun r3 =>
 bd (kG.f lf a0.2.1 a1.2.1) fun r4 =>
 some ((r3.1,r4.1,()),())))
def E(lf:Nat):Entry:=⟨[yS,yS],[yS],fun x=>f lf x.1 x.2.1⟩
theorem ok(lf:Nat):Ok 172 (E lf):=okT (an:=(annsL [])) (lf:=lf) (tC (ak.ok lf) (tC (gQ.ok lf) (tC (kG.ok lf) tN))) aoN fun x=>by kernel_rfl
end ah
namespace jH
def anns:FuncId→FA:=annsL [(114,⟨annOf [(0,⟨kx 35 [3,7],[],[]⟩,⟨[],[],[]⟩)],none,[]⟩)]
def f(lf:Nat)(a0:TI)(a1:TI):Option (TI×Int×Unit) :=
 bd (bV.f lf a0) fun r1 =>
 br (r1.1 != 0) (
 br (r1.1 != 0) (
 some ((false,(⟨#[]⟩:ByteArray),(⟨#[]⟩:ByteArray),()),r1.1,())) (
 bd (bF.f lf a0) fun r2 =>
 bd (bF.f lf a1) fun r3 =>
 bd (ak.f lf r2.1) fun r4 =>
 br r4.1 (
 bd (aB.f lf) fun r5 =>
 bd (af.f lf r5.1) fun r6 =>
 some (r6.1,0,())) (
 bd (ak.f lf r3.1) fun r7 =>
 br r7.1 (
 bd (aB.f lf) fun r8 =>
 bd (af.f lf r8.1) fun r9 =>
 some (r9.1,0,())) (
 bd (aB.f lf) fun r10 =>
 bd (dJ.f lf r2.1.1 r3.1.1) fun r11 =>
 bd (ah.f lf r10.1 (r11.1,r11.1,())) fun r12 =>
 bd (dJ.f lf r2.1.1 r3.1.2.1) fun r13 =>
 bd (ah.f lf r12.1 (r13.1,r13.1,())) fun r14 =>
 bd (dJ.f lf r2.1.2.1 r3.1.1) fun r15 =>
 bd (ah.f lf r14.1 (r15.1,r15.1,())) fun r16 =>
 bd (dJ.f lf r2.1.2.1 r3.1.2.1) fun r17 =>
 bd (ah.f lf r16.1 (r17.1,r17.1,())) fun r18 =>
 bd (af.f lf r18.1) fun r19 =>
 some (r19.1,0,()))))) (
 bd (bV.f lf a1) fun r20 =>
 br (r20.1 != 0) (
 br (r20.1 != 0) (
 some ((false,(⟨#[]⟩:ByteArray),(⟨#[]⟩:ByteArray),()),r20.1,())) (
 bd (bF.f lf a0) fun r21 =>
 bd (bF.f lf a1) fun r22 =>
 bd (ak.f lf r21.1) fun r23 =>
 br r23.1 (
 bd (aB.f lf) fun r24 =>
 bd (af.f lf r24.1) fun r25 =>
 some (r25.1,0,())) (
 bd (ak.f lf r22.1) fun r26 =>
 br r26.1 (
 bd (aB.f lf) fun r27 =>
 bd (af.f lf r27.1) fun r28 =>
 some (r28.1,0,())) (
 bd (aB.f lf) fun r29 =>
 bd (dJ.f lf r21.1.1 r22.1.1) fun r30 =>
 bd (ah.f lf r29.1 (r30.1,r30.1,())) fun r31 =>
 bd (dJ.f lf r21.1.1 r22.1.2.1) fun r32 =>
 bd (ah.f lf r31.1 (r32.1,r32.1,())) fun r33 =>
 bd (dJ.f lf r21.1.2.1 r22.1.1) fun r34 =>
 bd (ah.f lf r33.1 (r34.1,r34.1,())) fun r35 =>
 bd (dJ.f lf r21.1.2.1 r22.1.2.1) fun r36 =>
 bd (ah.f lf r35.1 (r36.1,r36.1,())) fun r37 =>
 bd (af.f lf r37.1) fun r38 =>
 some (r38.1,0,()))))) (
 bd (bF.f lf a0) fun r39 =>
 bd (bF.f lf a1) fun r40 =>
 bd (ak.f lf r39.1) fun r41 =>
 br r41.1 (
 bd (aB.f lf) fun r42 =>
 bd (af.f lf r42.1) fun r43 =>
 some (r43.1,0,())) (
 bd (ak.f lf r40.1) fun r44 =>
 br r44.1 (
 bd (aB.f lf) fun r45 =>
 bd (af.f lf r45.1) fun r46 =>
 some (r46.1,0,())) (
 bd (aB.f lf) fun r47 =>
 bd (dJ.f lf r39.1.1 r40.1.1) fun r48 =>
 bd (ah.f lf r47.1 (r48.1,r48.1,())) fun r49 =>
 bd (dJ.f lf r39.1.1 r40.1.2.1) fun r50 =>
 bd (ah.f lf r49.1 (r50.1,r50.1,())) fun r51 =>
 bd (dJ.f lf r39.1.2.1 r40.1.1) fun r52 =>
 bd (ah.f lf r51.1 (r52.1,r52.1,())) fun r53 =>
 bd (dJ.f lf r39.1.2.1 r40.1.2.1) fun r54 =>
 bd (ah.f lf r53.1 (r54.1,r54.1,())) fun r55 =>
 bd (af.f lf r55.1) fun r56 =>
 some (r56.1,0,())))))
def E(lf:Nat):Entry:=⟨[yI,yI],[yI,(.int .i64)],fun x=>f lf x.1 x.2.1⟩
theorem ok(lf:Nat):Ok 53 (E lf):=okT (an:=anns) (lf:=lf) (tC (bV.ok lf) (tC (bF.ok lf) (tC (dJ.ok lf) (tC (aB.ok lf) (tC (af.ok lf) (tC (ak.ok lf) (tC (ah.ok lf) tN))))))) (aoC aoN) fun x=>by kernel_rfl
end jH
namespace jl
def f(lf:Nat)(a0:TS)(a1:TS):Option (TS×Unit) :=
 bd (kG.f lf a0.1 a1.1) fun r1 =>
 bd (gQ.f lf a0.2.1 a1.2.1) fun r2 =>
 some ((r1.1,r2.1,()),())
def E(lf:Nat):Entry:=⟨[yS,yS],[yS],fun x=>f lf x.1 x.2.1⟩
theorem ok(lf:Nat):Ok 229 (E lf):=okT (an:=(annsL [])) (lf:=lf) (tC (gQ.ok lf) (tC (kG.ok lf) tN)) aoN fun x=>by kernel_rfl
end jl
namespace aG
def f(lf:Nat)(a0:TS):Option (TS×Unit) :=
 bd (aT.f lf (⟨#[49]⟩:ByteArray)) fun r1 =>
 bd (bC.f lf 1) fun r2 =>
 bd (jl.f lf a0 (r1.1,r2.1,())) fun r3 =>
 some (r3.1,())
def E(lf:Nat):Entry:=⟨[yS],[yS],fun x=>f lf x.1⟩
theorem ok(lf:Nat):Ok 174 (E lf):=okT (an:=(annsL [])) (lf:=lf) (tC (aT.ok lf) (tC (bC.ok lf) (tC (jl.ok lf) tN))) aoN fun x=>by kernel_rfl
end aG
namespace aC
def f(lf:Nat)(a0:TX)(a1:TX):Option (TX×Unit) :=
 br (a0.1 != 0) (
 some (a0,())) (
 br (a1.1==0) (
 bd (fK.f lf a0.2.1 a1.2.1) fun r1 =>
 bd (aT.f lf r1.1) fun r2 =>
 some (r2.1,())) (
 bd (fU.f lf a0) fun r3 =>
 br (decide (r3.1 < 0)) (
 bd (aT.f lf (⟨#[45,49]⟩:ByteArray)) fun r4 =>
 some (r4.1,())) (
 bd (aT.f lf (⟨#[48]⟩:ByteArray)) fun r5 =>
 some (r5.1,()))))
def E(lf:Nat):Entry:=⟨[yX,yX],[yX],fun x=>f lf x.1 x.2.1⟩
theorem ok(lf:Nat):Ok 116 (E lf):=okT (an:=(annsL [])) (lf:=lf) (tC (fK.ok lf) (tC (aT.ok lf) (tC (fU.ok lf) tN))) aoN fun x=>by kernel_rfl
end aC
namespace aK
def f(lf:Nat)(a0:TS):Option (TS×Unit) :=
 some (a0,())
def E(lf:Nat):Entry:=⟨[yS],[yS],fun x=>f lf x.1⟩
theorem ok(lf:Nat):Ok 117 (E lf):=okT (an:=(annsL [])) (lf:=lf) tN aoN fun x=>by kernel_rfl
end aK
end
end Go.Q
