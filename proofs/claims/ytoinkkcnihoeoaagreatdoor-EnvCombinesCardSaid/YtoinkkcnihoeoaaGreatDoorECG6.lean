import Derived.Test.YtoinkkcnihoeoaaGreatDoorProg
import Derived.KernelRfl
import Derived.Test.YtoinkkcnihoeoaaGreatDoorECE3
import Derived.Test.YtoinkkcnihoeoaaGreatDoorECG1
import Derived.Test.YtoinkkcnihoeoaaGreatDoorECG3
import Derived.Test.YtoinkkcnihoeoaaGreatDoorECG4
import Derived.Test.YtoinkkcnihoeoaaGreatDoorECG5
set_option linter.unusedVariables false
set_option linter.unusedSimpArgs false
set_option linter.unusedSectionVars false
set_option maxRecDepth 100000
namespace Go.Q
open Go Go.RowKit
open Go.Rx (br bd sIdx sCat sCut iQuo iRem)
noncomputable section
namespace mP
def f(lf:Nat)  : Option (TI×Unit) :=
 some ((false,(⟨#[]⟩:ByteArray),(⟨#[]⟩:ByteArray),()),())
def E(lf:Nat):Entry:=⟨[],[yI],fun x=>f lf⟩
theorem ok(lf:Nat):Ok 40 (E lf):=okT (an:=(annsL [])) (lf:=lf) tN aoN fun x=>by kernel_rfl
end mP
namespace iV
def f(lf:Nat)(a0:TS)(a1:TS):Option (TS×Unit) :=
 bd (aA.f lf a0) fun r1 =>
 br r1.1 (
 bd (dI.f lf) fun r2 =>
 some (r2.1,())) (
 bd (aA.f lf a1) fun r3 =>
 br r3.1 (
 bd (dI.f lf) fun r4 =>
 some (r4.1,())) (
 br (a0.1.1 != 0) (
 br (a0.2.1.1 != 0) (
 some (a1,())) (
 some ((a1.1,a0.2.1,()),()))) (
 br (a0.2.1.1 != 0) (
 some ((a0.1,a1.2.1,()),())) (
 some (a0,())))))
def E(lf:Nat):Entry:=⟨[yS,yS],[yS],fun x=>f lf x.1 x.2.1⟩
theorem ok(lf:Nat):Ok 138 (E lf):=okT (an:=(annsL [])) (lf:=lf) (tC (aA.ok lf) (tC (dI.ok lf) tN)) aoN fun x=>by kernel_rfl
end iV
namespace lJ
def f(lf:Nat)(a0:TI)(a1:TI):Option (TI×Int×Unit) :=
 bd (aJ.f lf a0) fun r1 =>
 br (r1.1 != 0) (
 br (r1.1 != 0) (
 some ((false,(⟨#[]⟩:ByteArray),(⟨#[]⟩:ByteArray),()),r1.1,())) (
 bd (aF.f lf a0) fun r2 =>
 bd (aF.f lf a1) fun r3 =>
 bd (iV.f lf r2.1 r3.1) fun r4 =>
 bd (ah.f lf r4.1) fun r5 =>
 some (r5.1,0,()))) (
 bd (aJ.f lf a1) fun r6 =>
 br (r6.1 != 0) (
 br (r6.1 != 0) (
 some ((false,(⟨#[]⟩:ByteArray),(⟨#[]⟩:ByteArray),()),r6.1,())) (
 bd (aF.f lf a0) fun r7 =>
 bd (aF.f lf a1) fun r8 =>
 bd (iV.f lf r7.1 r8.1) fun r9 =>
 bd (ah.f lf r9.1) fun r10 =>
 some (r10.1,0,()))) (
 bd (aF.f lf a0) fun r11 =>
 bd (aF.f lf a1) fun r12 =>
 bd (iV.f lf r11.1 r12.1) fun r13 =>
 bd (ah.f lf r13.1) fun r14 =>
 some (r14.1,0,())))
def E(lf:Nat):Entry:=⟨[yI,yI],[yI,(.int .i64)],fun x=>f lf x.1 x.2.1⟩
theorem ok(lf:Nat):Ok 90 (E lf):=okT (an:=(annsL [])) (lf:=lf) (tC (aF.ok lf) (tC (ah.ok lf) (tC (aJ.ok lf) (tC (iV.ok lf) tN)))) aoN fun x=>by kernel_rfl
end lJ
namespace mY
def l:List ((ByteArray×ByteArray×Unit)×(TI×Int×Unit)):=[((ck_c.c59,ck_c.c37,()),((false,ck_c.c59,ck_c.c37,()),0,()))]
def f(lf:Nat)(a0:ByteArray)(a1:ByteArray):Option (TI×Int×Unit):=pick [.str,.str] l (a0,a1,())
def E(lf:Nat):Entry:=⟨[.str,.str],[yI,(.int .i64)],fun x=>f lf x.1 x.2.1⟩
def tb(lf:Nat):List (FuncId×Entry):=[(79,aF.E lf),(82,ah.E lf),(207,cu.E lf)]
abbrev an:FuncId→FA:=annsL []
theorem ok(lf:Nat):Ok 313 (E lf):=okP (an:=an) (tb:=tb lf) (lf:=lf) (tC (aF.ok lf) (tC (ah.ok lf) (tC (cu.ok lf) tN))) aoN (l:=l) (fun _=>rfl) (fun _=>rfl) ⟨by as_aux_lemma=>kernel_rfl,trivial⟩
end mY
end
end Go.Q
namespace Go.Q
open Go.IntKind (i64)
open Go Go.RowKit
open Go.Rx (br bd sIdx sCat sCut iQuo iRem)
noncomputable section
namespace kE
def f(lf:Nat)(a0:TI)(a1:TI):Option (Bool×Unit) :=
 br (decide (((a0.2.1.size:Nat):Int)≤450)) (
 br (decide (((a0.2.2.1.size:Nat):Int)≤450)) (
 br (decide (((a1.2.1.size:Nat):Int)≤450)) (
 some ((decide (((a1.2.2.1.size:Nat):Int)≤450)),())) (
 some (false,()))) (
 some (false,()))) (
 some (false,()))
def E(lf:Nat):Entry:=⟨[yI,yI],[.bool],fun x=>f lf x.1 x.2.1⟩
theorem ok(lf:Nat):Ok 47 (E lf):=okT (an:=(annsL [])) (lf:=lf) tN aoN fun x=>by kernel_rfl
end kE
namespace bJ
def f(lf:Nat)  : Option (TI×Unit) :=
 some ((true,(⟨#[]⟩:ByteArray),(⟨#[]⟩:ByteArray),()),())
def E(lf:Nat):Entry:=⟨[],[yI],fun x=>f lf⟩
theorem ok(lf:Nat):Ok 199 (E lf):=okT (an:=(annsL [])) (lf:=lf) tN aoN fun x=>by kernel_rfl
end bJ
namespace kZ
def f(lf:Nat)(a0:TI)(a1:ByteArray):Option (Bool×Unit) :=
 br (!a0.1) (
 br (a0.2.1.toList==(⟨#[]⟩:ByteArray).toList) (
 br (a0.2.2.1.toList==(⟨#[]⟩:ByteArray).toList) (
 some (true,())) (
 bd (au.f lf a0.2.2.1 a1) fun r1 =>
 some ((!r1.1),()))) (
 bd (au.f lf a1 a0.2.1) fun r2 =>
 br (!r2.1) (
 br (a0.2.2.1.toList==(⟨#[]⟩:ByteArray).toList) (
 some (true,())) (
 bd (au.f lf a0.2.2.1 a1) fun r3 =>
 some ((!r3.1),()))) (
 some (false,())))) (
 some (false,()))
def E(lf:Nat):Entry:=⟨[yI,.str],[.bool],fun x=>f lf x.1 x.2.1⟩
theorem ok(lf:Nat):Ok 183 (E lf):=okT (an:=(annsL [])) (lf:=lf) (tC (au.ok lf) tN) aoN fun x=>by kernel_rfl
end kZ
namespace fF
def f(lf:Nat)(a0:ByteArray):Option (ByteArray×Unit) :=
 br (!(a0.toList==(⟨#[]⟩:ByteArray).toList)) (
 bd (aK.f lf a0) fun r1 =>
 br (decide (r1.1 > 100)) (
 some ((⟨#[]⟩:ByteArray),())) (
 some (a0,()))) (
 some (a0,()))
def E(lf:Nat):Entry:=⟨[.str],[.str],fun x=>f lf x.1⟩
theorem ok(lf:Nat):Ok 269 (E lf):=okT (an:=(annsL [])) (lf:=lf) (tC (aK.ok lf) tN) aoN fun x=>by kernel_rfl
end fF
namespace aI
def f(lf:Nat)(a0:ByteArray)(a1:ByteArray):Option (TI×Unit) :=
 br (!(a0.toList==(⟨#[]⟩:ByteArray).toList)) (
 br (!(a1.toList==(⟨#[]⟩:ByteArray).toList)) (
 bd (au.f lf a1 a0) fun r1 =>
 br r1.1 (
 bd (bJ.f lf) fun r2 =>
 some (r2.1,())) (
 bd (fF.f lf a0) fun r3 =>
 bd (fF.f lf a1) fun r4 =>
 some ((false,r3.1,r4.1,()),()))) (
 bd (fF.f lf a0) fun r5 =>
 bd (fF.f lf a1) fun r6 =>
 some ((false,r5.1,r6.1,()),()))) (
 bd (fF.f lf a0) fun r7 =>
 bd (fF.f lf a1) fun r8 =>
 some ((false,r7.1,r8.1,()),()))
def E(lf:Nat):Entry:=⟨[.str,.str],[yI],fun x=>f lf x.1 x.2.1⟩
theorem ok(lf:Nat):Ok 187 (E lf):=okT (an:=(annsL [])) (lf:=lf) (tC (au.ok lf) (tC (bJ.ok lf) (tC (fF.ok lf) tN))) aoN fun x=>by kernel_rfl
end aI
namespace gK
def f(lf:Nat)(a0:ByteArray):Option (Int×Unit) :=
 br (a0.toList==(⟨#[]⟩:ByteArray).toList) (
 some (0,())) (
 bd (fA.f lf a0) fun r1 =>
 some (r1.1,()))
def E(lf:Nat):Entry:=⟨[.str],[(.int .i64)],fun x=>f lf x.1⟩
theorem ok(lf:Nat):Ok 254 (E lf):=okT (an:=(annsL [])) (lf:=lf) (tC (fA.ok lf) tN) aoN fun x=>by kernel_rfl
end gK
namespace jb
def f(lf:Nat)(a0:TI):Option (Int×Unit) :=
 br a0.1 (
 br (!(a0.2.1.toList==(⟨#[]⟩:ByteArray).toList)) (
 some (3,())) (
 br (!(a0.2.2.1.toList==(⟨#[]⟩:ByteArray).toList)) (
 some (3,())) (
 bd (gK.f lf a0.2.1) fun r1 =>
 br (r1.1 != 0) (
 some (r1.1,())) (
 bd (gK.f lf a0.2.2.1) fun r2 =>
 br (r2.1 != 0) (
 some (r2.1,())) (
 br (!(a0.2.1.toList==(⟨#[]⟩:ByteArray).toList)) (
 br (!(a0.2.2.1.toList==(⟨#[]⟩:ByteArray).toList)) (
 bd (au.f lf a0.2.2.1 a0.2.1) fun r3 =>
 br r3.1 (
 some (14,())) (
 some (0,()))) (
 some (0,()))) (
 some (0,()))))))) (
 bd (gK.f lf a0.2.1) fun r4 =>
 br (r4.1 != 0) (
 some (r4.1,())) (
 bd (gK.f lf a0.2.2.1) fun r5 =>
 br (r5.1 != 0) (
 some (r5.1,())) (
 br (!(a0.2.1.toList==(⟨#[]⟩:ByteArray).toList)) (
 br (!(a0.2.2.1.toList==(⟨#[]⟩:ByteArray).toList)) (
 bd (au.f lf a0.2.2.1 a0.2.1) fun r6 =>
 br r6.1 (
 some (14,())) (
 some (0,()))) (
 some (0,()))) (
 some (0,())))))
def E(lf:Nat):Entry:=⟨[yI],[(.int .i64)],fun x=>f lf x.1⟩
theorem ok(lf:Nat):Ok 170 (E lf):=okT (an:=(annsL [])) (lf:=lf) (tC (au.ok lf) (tC (gK.ok lf) tN)) aoN fun x=>by kernel_rfl
end jb
namespace jB
def f(lf:Nat)(a0:TI)(a1:TI):Option (Bool×Unit) :=
 br a0.1 (
 some (a0.1,())) (
 br a1.1 (
 some (a0.1,())) (
 br (a1.2.1.toList==(⟨#[]⟩:ByteArray).toList) (
 br (a1.2.2.1.toList==(⟨#[]⟩:ByteArray).toList) (
 some (true,())) (
 br (!(a0.2.2.1.toList==(⟨#[]⟩:ByteArray).toList)) (
 bd (au.f lf a1.2.2.1 a0.2.2.1) fun r1 =>
 some ((!r1.1),())) (
 some (false,())))) (
 br (!(a0.2.1.toList==(⟨#[]⟩:ByteArray).toList)) (
 bd (au.f lf a0.2.1 a1.2.1) fun r2 =>
 br (a1.2.2.1.toList==(⟨#[]⟩:ByteArray).toList) (
 br (!r2.1) (
 some (true,())) (
 some (false,()))) (
 br (!(a0.2.2.1.toList==(⟨#[]⟩:ByteArray).toList)) (
 bd (au.f lf a1.2.2.1 a0.2.2.1) fun r3 =>
 br (!r2.1) (
 some ((!r3.1),())) (
 some (false,()))) (
 br (!r2.1) (
 some (false,())) (
 some (false,()))))) (
 br (a1.2.2.1.toList==(⟨#[]⟩:ByteArray).toList) (
 some (false,())) (
 br (!(a0.2.2.1.toList==(⟨#[]⟩:ByteArray).toList)) (
 bd (au.f lf a1.2.2.1 a0.2.2.1) fun r4 =>
 some (false,())) (
 some (false,())))))))
def E(lf:Nat):Entry:=⟨[yI,yI],[.bool],fun x=>f lf x.1 x.2.1⟩
theorem ok(lf:Nat):Ok 110 (E lf):=okT (an:=(annsL [])) (lf:=lf) (tC (au.ok lf) tN) aoN fun x=>by kernel_rfl
end jB
namespace iD
def f(lf:Nat)(a0:ByteArray)(a1:ByteArray):Option (ByteArray×Unit) :=
 br (a0.toList==(⟨#[]⟩:ByteArray).toList) (
 some ((⟨#[]⟩:ByteArray),())) (
 br (a1.toList==(⟨#[]⟩:ByteArray).toList) (
 some ((⟨#[]⟩:ByteArray),())) (
 bd (au.f lf a1 a0) fun r1 =>
 br r1.1 (
 some (a1,())) (
 some (a0,()))))
def E(lf:Nat):Entry:=⟨[.str,.str],[.str],fun x=>f lf x.1 x.2.1⟩
theorem ok(lf:Nat):Ok 188 (E lf):=okT (an:=(annsL [])) (lf:=lf) (tC (au.ok lf) tN) aoN fun x=>by kernel_rfl
end iD
namespace fZ
def f(lf:Nat)(a0:ByteArray)(a1:ByteArray):Option (ByteArray×Unit) :=
 br (a0.toList==(⟨#[]⟩:ByteArray).toList) (
 some ((⟨#[]⟩:ByteArray),())) (
 br (a1.toList==(⟨#[]⟩:ByteArray).toList) (
 some ((⟨#[]⟩:ByteArray),())) (
 bd (au.f lf a0 a1) fun r1 =>
 br r1.1 (
 some (a1,())) (
 some (a0,()))))
def E(lf:Nat):Entry:=⟨[.str,.str],[.str],fun x=>f lf x.1 x.2.1⟩
theorem ok(lf:Nat):Ok 189 (E lf):=okT (an:=(annsL [])) (lf:=lf) (tC (au.ok lf) tN) aoN fun x=>by kernel_rfl
end fZ
namespace gY
def f(lf:Nat)(a0:TI)(a1:TI):Option (TI×Unit) :=
 br a0.1 (
 some (a1,())) (
 br a1.1 (
 some (a0,())) (
 bd (iD.f lf a0.2.1 a1.2.1) fun r1 =>
 bd (fZ.f lf a0.2.2.1 a1.2.2.1) fun r2 =>
 bd (aI.f lf r1.1 r2.1) fun r3 =>
 some (r3.1,())))
def E(lf:Nat):Entry:=⟨[yI,yI],[yI],fun x=>f lf x.1 x.2.1⟩
theorem ok(lf:Nat):Ok 117 (E lf):=okT (an:=(annsL [])) (lf:=lf) (tC (aI.ok lf) (tC (iD.ok lf) (tC (fZ.ok lf) tN))) aoN fun x=>by kernel_rfl
end gY
namespace jQ
def f(lf:Nat)(a0:ByteArray)(a1:ByteArray):Option (ByteArray×Unit) :=
 br (a0.toList==(⟨#[]⟩:ByteArray).toList) (
 some (a1,())) (
 br (a1.toList==(⟨#[]⟩:ByteArray).toList) (
 some (a0,())) (
 bd (fZ.f lf a0 a1) fun r1 =>
 some (r1.1,())))
def E(lf:Nat):Entry:=⟨[.str,.str],[.str],fun x=>f lf x.1 x.2.1⟩
theorem ok(lf:Nat):Ok 200 (E lf):=okT (an:=(annsL [])) (lf:=lf) (tC (fZ.ok lf) tN) aoN fun x=>by kernel_rfl
end jQ
namespace jR
def f(lf:Nat)(a0:ByteArray)(a1:ByteArray):Option (ByteArray×Unit) :=
 br (a0.toList==(⟨#[]⟩:ByteArray).toList) (
 some (a1,())) (
 br (a1.toList==(⟨#[]⟩:ByteArray).toList) (
 some (a0,())) (
 bd (iD.f lf a0 a1) fun r1 =>
 some (r1.1,())))
def E(lf:Nat):Entry:=⟨[.str,.str],[.str],fun x=>f lf x.1 x.2.1⟩
theorem ok(lf:Nat):Ok 201 (E lf):=okT (an:=(annsL [])) (lf:=lf) (tC (iD.ok lf) tN) aoN fun x=>by kernel_rfl
end jR
namespace kF
def f(lf:Nat)(a0:TI)(a1:TI):Option (TI×Unit) :=
 br a0.1 (
 bd (bJ.f lf) fun r1 =>
 some (r1.1,())) (
 br a1.1 (
 bd (bJ.f lf) fun r2 =>
 some (r2.1,())) (
 bd (jQ.f lf a0.2.1 a1.2.1) fun r3 =>
 bd (jR.f lf a0.2.2.1 a1.2.2.1) fun r4 =>
 bd (aI.f lf r3.1 r4.1) fun r5 =>
 some (r5.1,())))
def E(lf:Nat):Entry:=⟨[yI,yI],[yI],fun x=>f lf x.1 x.2.1⟩
theorem ok(lf:Nat):Ok 122 (E lf):=okT (an:=(annsL [])) (lf:=lf) (tC (aI.ok lf) (tC (bJ.ok lf) (tC (jQ.ok lf) (tC (jR.ok lf) tN)))) aoN fun x=>by kernel_rfl
end kF
namespace bW
def anns:FuncId→FA:=annsL [(43,⟨annOf [(0,⟨kx 37 [0,3],[],[]⟩,⟨kx 37 [2],[],[]⟩)],none,[]⟩)]
def r0{ρ:Type}(lf:Nat)(v0:List ByteArray)(v1:Int)(K:Int→Option ρ)(E0:Int→Option ρ)(E1:Option ρ):Option ρ :=
 br (decide (v1 < ((v0.length:Nat):Int))) (
 bd (idxL v0 v1) fun y1 =>
 bd (fA.f lf y1) fun r2 =>
 br (r2.1 != 0) (
 E0 r2.1) (
 br (decide (v1 > 0)) (
 bd (idxL v0 (i64.wrap (v1-1))) fun y3 =>
 bd (idxL v0 v1) fun y4 =>
 bd (au.f lf y3 y4) fun r5 =>
 br (!r5.1) (
 E0 14) (
 K (i64.wrap (v1+1)))) (
 K (i64.wrap (v1+1))))) (
 E1)
def l0(lf:Nat)(v0:List ByteArray):Nat→Int→Option (Bool×(Int×Unit)×(Unit)×Unit)
 | 0,_=>none
 | n+1,v1=>r0 lf v0 v1 (l0 lf v0 n) (fun w0=>some (true,(w0,()),((()),()))) (some (false,(0,()),((()),())))
def sh0:ShS:=⟨[.s (.sl .str),.a 2,.s (.int .i64),.a 33],[]⟩
def S0(p:(List ByteArray)×Int×Unit):St:=sh0.b p
def xh0:ShS:=⟨[.a 2,.s (.int .i64),.a 34],[]⟩
def xh1:ShS:=⟨[.a 37],[]⟩
def o0(v0:List ByteArray)(y:Bool×(Int×Unit)×(Unit)×Unit):Alt:=.two y.1 (.one .ret (xh0.b (y.2.1.1,()))) (.one (.exit 0) (xh1.b (())))
def tb(lf:Nat):List (FuncId×Entry):=[(87,fA.E lf),(88,au.E lf)]
def aec(lf:Nat):List (Nat×(St→Option LTE)):=[(0,sumE sh0 fun(p:(List ByteArray)×Int×Unit)=>⟨Bool×(Int×Unit)×(Unit)×Unit,l0 lf p.1 (lf+40) p.2.1,o0 p.1⟩)]
def ls(lf:Nat):List (Nat×FuncId×Sums):=[(13,43,sumsL (aec lf))]
def it0{ρ:Type}(lf n:Nat)(st:St)(k:KE ρ):Option ρ:=itG anns (ls lf) (tb lf) lf 13 43 0 0 (sumsL (aec lf)) n st k
theorem t0{ρ:Type}(lf n:Nat)(v0:List ByteArray)(v1:Int)(k:KE ρ):it0 lf (n+1) (S0 (v0,v1,())) k=r0 lf v0 v1 (fun x0=>it0 lf n (S0 (v0,x0,())) k) (fun w0=>k .ret (xh0.b (w0,()))) (k (.exit 0) (xh1.b (()))):=by kernel_rfl
theorem u0{ρ:Type}(lf:Nat)(v0:List ByteArray)(k:KE ρ):∀ (n:Nat) (v1:Int),it0 lf n (S0 (v0,v1,())) k=bd (l0 lf v0 n v1) fun y=>altK k (o0 v0 y)
 | 0,_=>by rw[l0,bd_none];rfl
 | n+1,v1=>by
  rw[t0];simp only[l0,r0,u0 lf v0 k n,bd_br,bd_bd,bd_some',bd_none,br_t,br_f,o0,altK]
theorem sl(lf:Nat):SL anns (ls lf) (tb lf) lf (ls lf):=slC (laC (fun _=>by kernel_rfl) (fun _ (x:(List ByteArray)×Int×Unit) k=>bH (u0 lf x.1 k (lf+40) x.2.1)) laN) slN
def f(lf:Nat)(a0:List ByteArray):Option (Int×Unit) :=
 br (decide (((a0.length:Nat):Int) > 1024)) (
 some (5,())) (
 bd (l0 lf a0 (lf+40) 0) fun z6 =>
 br z6.1 (
 some (z6.2.1.1,())) (
 some (0,())))
def E(lf:Nat):Entry:=⟨[(.sl .str)],[(.int .i64)],fun x=>f lf x.1⟩
theorem ok(lf:Nat):Ok 43 (E lf):=okL (tC (fA.ok lf) (tC (au.ok lf) tN)) (aoC aoN) (sl lf) fun x=>by kernel_rfl
end bW
namespace eF
def anns:FuncId→FA:=annsL [(221,⟨annOf [(0,⟨kx 29 [0,1,5,6],[],[]⟩,⟨kx 29 [4,5],[],[]⟩)],none,[]⟩)]
def r0{ρ:Type}(lf:Nat)(v0:List ByteArray)(v1:ByteArray)(v2:ByteArray)(v3:Int)(K:ByteArray→Int→Option ρ)(E0:ByteArray→Option ρ):Option ρ :=
 br (decide (v3 < ((v0.length:Nat):Int))) (
 br (!(v1.toList==(⟨#[]⟩:ByteArray).toList)) (
 bd (idxL v0 v3) fun y1 =>
 bd (au.f lf v1 y1) fun r2 =>
 br (!r2.1) (
 bd (idxL v0 v3) fun y3 =>
 K y3 (i64.wrap (v3+1))) (
 K v2 (i64.wrap (v3+1)))) (
 K v2 (i64.wrap (v3+1)))) (
 E0 v2)
def l0(lf:Nat)(v0:List ByteArray)(v1:ByteArray):Nat→ByteArray→Int→Option ((ByteArray×Unit)×Unit)
 | 0,_,_=>none
 | n+1,v2,v3=>r0 lf v0 v1 v2 v3 (l0 lf v0 v1 n) (fun w0=>some ((w0,()),()))
def sh0:ShS:=⟨[.s (.sl .str),.s .str,.a 3,.s .str,.s (.int .i64),.a 22],[]⟩
def S0(p:(List ByteArray)×ByteArray×ByteArray×Int×Unit):St:=sh0.b p
def xh0:ShS:=⟨[.a 5,.s .str,.a 23],[]⟩
def o0(v0:List ByteArray)(v1:ByteArray)(y:(ByteArray×Unit)×Unit):Alt:=.one (.exit 0) (xh0.b (y.1.1,()))
def tb(lf:Nat):List (FuncId×Entry):=[(88,au.E lf)]
def abZ(lf:Nat):List (Nat×(St→Option LTE)):=[(0,sumE sh0 fun(p:(List ByteArray)×ByteArray×ByteArray×Int×Unit)=>⟨(ByteArray×Unit)×Unit,l0 lf p.1 p.2.1 (lf+40) p.2.2.1 p.2.2.2.1,o0 p.1 p.2.1⟩)]
def ls(lf:Nat):List (Nat×FuncId×Sums):=[(13,221,sumsL (abZ lf))]
def it0{ρ:Type}(lf n:Nat)(st:St)(k:KE ρ):Option ρ:=itG anns (ls lf) (tb lf) lf 13 221 0 0 (sumsL (abZ lf)) n st k
theorem t0{ρ:Type}(lf n:Nat)(v0:List ByteArray)(v1 v2:ByteArray)(v3:Int)(k:KE ρ):it0 lf (n+1) (S0 (v0,v1,v2,v3,())) k=r0 lf v0 v1 v2 v3 (fun x0 x1=>it0 lf n (S0 (v0,v1,x0,x1,())) k) (fun w0=>k (.exit 0) (xh0.b (w0,()))):=by kernel_rfl
theorem u0{ρ:Type}(lf:Nat)(v0:List ByteArray)(v1:ByteArray)(k:KE ρ):∀ (n:Nat) (v2:ByteArray) (v3:Int),it0 lf n (S0 (v0,v1,v2,v3,())) k=bd (l0 lf v0 v1 n v2 v3) fun y=>altK k (o0 v0 v1 y)
 | 0,_,_=>by rw[l0,bd_none];rfl
 | n+1,v2,v3=>by
  rw[t0];simp only[l0,r0,u0 lf v0 v1 k n,bd_br,bd_bd,bd_some',bd_none,br_t,br_f,o0,altK]
theorem sl(lf:Nat):SL anns (ls lf) (tb lf) lf (ls lf):=slC (laC (fun _=>by kernel_rfl) (fun _ (x:(List ByteArray)×ByteArray×ByteArray×Int×Unit) k=>bH (u0 lf x.1 x.2.1 k (lf+40) x.2.2.1 x.2.2.2.1)) laN) slN
def f(lf:Nat)(a0:List ByteArray)(a1:ByteArray):Option (ByteArray×Unit) :=
 bd (l0 lf a0 a1 (lf+40) (⟨#[]⟩:ByteArray) 0) fun z4 =>
 some (z4.1.1,())
def E(lf:Nat):Entry:=⟨[(.sl .str),.str],[.str],fun x=>f lf x.1 x.2.1⟩
theorem ok(lf:Nat):Ok 221 (E lf):=okL (tC (au.ok lf) tN) (aoC aoN) (sl lf) fun x=>by kernel_rfl
end eF
end
end Go.Q
namespace Go.Q
open Go.IntKind (i64)
open Go Go.RowKit
open Go.Rx (br bd sIdx sCat sCut iQuo iRem)
noncomputable section
namespace dO
def anns:FuncId→FA:=annsL [(222,⟨annOf [(0,⟨kx 27 [0,1,5],[],[]⟩,⟨kx 27 [4],[],[]⟩)],none,[]⟩)]
def r0{ρ:Type}(lf:Nat)(v0:List ByteArray)(v1:ByteArray)(v2:Int)(K:Int→Option ρ)(E0:ByteArray→Option ρ)(E1:Option ρ):Option ρ :=
 br (decide (v2 < ((v0.length:Nat):Int))) (
 br (!(v1.toList==(⟨#[]⟩:ByteArray).toList)) (
 bd (idxL v0 v2) fun y1 =>
 bd (au.f lf y1 v1) fun r2 =>
 br (!r2.1) (
 bd (idxL v0 v2) fun y3 =>
 E0 y3) (
 K (i64.wrap (v2+1)))) (
 K (i64.wrap (v2+1)))) (
 E1)
def l0(lf:Nat)(v0:List ByteArray)(v1:ByteArray):Nat→Int→Option (Bool×(ByteArray×Unit)×(Unit)×Unit)
 | 0,_=>none
 | n+1,v2=>r0 lf v0 v1 v2 (l0 lf v0 v1 n) (fun w0=>some (true,(w0,()),((()),()))) (some (false,((⟨#[]⟩:ByteArray),()),((()),())))
def sh0:ShS:=⟨[.s (.sl .str),.s .str,.a 3,.s (.int .i64),.a 21],[]⟩
def S0(p:(List ByteArray)×ByteArray×Int×Unit):St:=sh0.b p
def xh0:ShS:=⟨[.a 4,.s .str,.a 22],[]⟩
def xh1:ShS:=⟨[.a 27],[]⟩
def o0(v0:List ByteArray)(v1:ByteArray)(y:Bool×(ByteArray×Unit)×(Unit)×Unit):Alt:=.two y.1 (.one .ret (xh0.b (y.2.1.1,()))) (.one (.exit 0) (xh1.b (())))
def tb(lf:Nat):List (FuncId×Entry):=[(88,au.E lf)]
def ab1(lf:Nat):List (Nat×(St→Option LTE)):=[(0,sumE sh0 fun(p:(List ByteArray)×ByteArray×Int×Unit)=>⟨Bool×(ByteArray×Unit)×(Unit)×Unit,l0 lf p.1 p.2.1 (lf+40) p.2.2.1,o0 p.1 p.2.1⟩)]
def ls(lf:Nat):List (Nat×FuncId×Sums):=[(13,222,sumsL (ab1 lf))]
def it0{ρ:Type}(lf n:Nat)(st:St)(k:KE ρ):Option ρ:=itG anns (ls lf) (tb lf) lf 13 222 0 0 (sumsL (ab1 lf)) n st k
theorem t0{ρ:Type}(lf n:Nat)(v0:List ByteArray)(v1:ByteArray)(v2:Int)(k:KE ρ):it0 lf (n+1) (S0 (v0,v1,v2,())) k=r0 lf v0 v1 v2 (fun x0=>it0 lf n (S0 (v0,v1,x0,())) k) (fun w0=>k .ret (xh0.b (w0,()))) (k (.exit 0) (xh1.b (()))):=by kernel_rfl
theorem u0{ρ:Type}(lf:Nat)(v0:List ByteArray)(v1:ByteArray)(k:KE ρ):∀ (n:Nat) (v2:Int),it0 lf n (S0 (v0,v1,v2,())) k=bd (l0 lf v0 v1 n v2) fun y=>altK k (o0 v0 v1 y)
 | 0,_=>by rw[l0,bd_none];rfl
 | n+1,v2=>by
  rw[t0];simp only[l0,r0,u0 lf v0 v1 k n,bd_br,bd_bd,bd_some',bd_none,br_t,br_f,o0,altK]
theorem sl(lf:Nat):SL anns (ls lf) (tb lf) lf (ls lf):=slC (laC (fun _=>by kernel_rfl) (fun _ (x:(List ByteArray)×ByteArray×Int×Unit) k=>bH (u0 lf x.1 x.2.1 k (lf+40) x.2.2.1)) laN) slN
def f(lf:Nat)(a0:List ByteArray)(a1:ByteArray):Option (ByteArray×Unit) :=
 bd (l0 lf a0 a1 (lf+40) 0) fun z4 =>
 br z4.1 (
 some (z4.2.1.1,())) (
 some ((⟨#[]⟩:ByteArray),()))
def E(lf:Nat):Entry:=⟨[(.sl .str),.str],[.str],fun x=>f lf x.1 x.2.1⟩
theorem ok(lf:Nat):Ok 222 (E lf):=okL (tC (au.ok lf) tN) (aoC aoN) (sl lf) fun x=>by kernel_rfl
end dO
namespace jh
def f(lf:Nat)(a0:TI)(a1:TI)(a2:List ByteArray):Option (TI×Unit) :=
 br a0.1 (
 some (a1,())) (
 br a1.1 (
 some (a0,())) (
 bd (gY.f lf a0 a1) fun r1 =>
 br (!(r1.1.2.1.toList==a0.2.1.toList)) (
 bd (eF.f lf a2 r1.1.2.1) fun r2 =>
 br (!(r1.1.2.2.1.toList==a0.2.2.1.toList)) (
 bd (dO.f lf a2 r1.1.2.2.1) fun r3 =>
 some ((r1.1.1,r2.1,r3.1,()),())) (
 some ((r1.1.1,r2.1,r1.1.2.2.1,()),()))) (
 br (!(r1.1.2.2.1.toList==a0.2.2.1.toList)) (
 bd (dO.f lf a2 r1.1.2.2.1) fun r4 =>
 some ((r1.1.1,r1.1.2.1,r4.1,()),())) (
 some (r1.1,())))))
def E(lf:Nat):Entry:=⟨[yI,yI,(.sl .str)],[yI],fun x=>f lf x.1 x.2.1 x.2.2.1⟩
theorem ok(lf:Nat):Ok 137 (E lf):=okT (an:=(annsL [])) (lf:=lf) (tC (gY.ok lf) (tC (eF.ok lf) (tC (dO.ok lf) tN))) aoN fun x=>by kernel_rfl
end jh
namespace iq
def f(lf:Nat)(a0:TI)(a1:TI):Option (TI×Unit) :=
 br a0.1 (
 bd (bJ.f lf) fun r1 =>
 some (r1.1,())) (
 br a1.1 (
 bd (bJ.f lf) fun r2 =>
 some (r2.1,())) (
 br (a0.2.1.toList==(⟨#[]⟩:ByteArray).toList) (
 br (a0.2.2.1.toList==(⟨#[]⟩:ByteArray).toList) (
 bd (aI.f lf a1.2.1 a1.2.2.1) fun r3 =>
 some (r3.1,())) (
 bd (aI.f lf a1.2.1 a0.2.2.1) fun r4 =>
 some (r4.1,()))) (
 br (a0.2.2.1.toList==(⟨#[]⟩:ByteArray).toList) (
 bd (aI.f lf a0.2.1 a1.2.2.1) fun r5 =>
 some (r5.1,())) (
 bd (aI.f lf a0.2.1 a0.2.2.1) fun r6 =>
 some (r6.1,())))))
def E(lf:Nat):Entry:=⟨[yI,yI],[yI],fun x=>f lf x.1 x.2.1⟩
theorem ok(lf:Nat):Ok 140 (E lf):=okT (an:=(annsL [])) (lf:=lf) (tC (aI.ok lf) (tC (bJ.ok lf) tN)) aoN fun x=>by kernel_rfl
end iq
end
end Go.Q
namespace Go.Q
open Go Go.RowKit
open Go.Rx (br bd sIdx sCat sCut iQuo iRem)
noncomputable section
namespace iF
def f(lf:Nat)(a0:ByteArray)(a1:Int):Option (ByteArray×Unit) :=
 some (a0,())
def E(lf:Nat):Entry:=⟨[.str,(.int .i64)],[.str],fun x=>f lf x.1 x.2.1⟩
theorem ok(lf:Nat):Ok 175 (E lf):=okT (an:=(annsL [])) (lf:=lf) tN aoN fun x=>by kernel_rfl
end iF
namespace dU
def f(lf:Nat)(a0:TV)(a1:Int):Option (TV×Unit) :=
 some (a0,())
def E(lf:Nat):Entry:=⟨[yV,(.int .i64)],[yV],fun x=>f lf x.1 x.2.1⟩
theorem ok(lf:Nat):Ok 68 (E lf):=okT (an:=(annsL [])) (lf:=lf) tN aoN fun x=>by kernel_rfl
end dU
end
end Go.Q
namespace Go.Q
open Go Go.RowKit
open Go.Rx (br bd sIdx sCat sCut iQuo iRem)
noncomputable section
namespace gB
def f(lf:Nat)(a0:ByteArray):Option (Bool×Unit) :=
 bd (strings_TrimPrefix.f lf a0 (⟨#[45]⟩:ByteArray)) fun r1 =>
 some ((decide (((r1.1.size:Nat):Int) > 100)),())
def E(lf:Nat):Entry:=⟨[.str],[.bool],fun x=>f lf x.1⟩
theorem ok(lf:Nat):Ok 178 (E lf):=okT (an:=(annsL [])) (lf:=lf) (tC (strings_TrimPrefix.ok lf) tN) aoN fun x=>by kernel_rfl
end gB
namespace jD
def f(lf:Nat)(a0:ByteArray):Option (Int×Unit) :=
 bd (cu.f lf a0) fun r1 =>
 br (r1.1==10) (
 some (10,())) (
 br (r1.1==0) (
 bd (gB.f lf a0) fun r2 =>
 br r2.1 (
 some (10,())) (
 br (r1.1 != 0) (
 some (r1.1,())) (
 some (0,())))) (
 br (r1.1 != 0) (
 some (r1.1,())) (
 some (0,()))))
def E(lf:Nat):Entry:=⟨[.str],[(.int .i64)],fun x=>f lf x.1⟩
theorem ok(lf:Nat):Ok 245 (E lf):=okT (an:=(annsL [])) (lf:=lf) (tC (gB.ok lf) (tC (cu.ok lf) tN)) aoN fun x=>by kernel_rfl
end jD
namespace kN
def f(lf:Nat)(a0:Int)(a1:Int):Option (Int×Unit) :=
 some (a0,())
def E(lf:Nat):Entry:=⟨[(.int .i64),(.int .i64)],[(.int .i64)],fun x=>f lf x.1 x.2.1⟩
theorem ok(lf:Nat):Ok 311 (E lf):=okT (an:=(annsL [])) (lf:=lf) tN aoN fun x=>by kernel_rfl
end kN
namespace gu
def f(lf:Nat)(a0:ByteArray)(a1:ByteArray):Option (Bool×Unit) :=
 bd (gq.f lf a0 a1) fun r1 =>
 bd (kN.f lf r1.1 r1.2.1) fun r2 =>
 some ((decide (r2.1 < 0)),())
def E(lf:Nat):Entry:=⟨[.str,.str],[.bool],fun x=>f lf x.1 x.2.1⟩
theorem ok(lf:Nat):Ok 246 (E lf):=okT (an:=(annsL [])) (lf:=lf) (tC (gq.ok lf) (tC (kN.ok lf) tN)) aoN fun x=>by kernel_rfl
end gu
namespace dV
def f(lf:Nat)(a0:TI):Option (Int×Unit) :=
 br a0.1 (
 br (!(a0.2.1.toList==(⟨#[]⟩:ByteArray).toList)) (
 some (3,())) (
 br (!(a0.2.2.1.toList==(⟨#[]⟩:ByteArray).toList)) (
 some (3,())) (
 some (0,())))) (
 bd (jD.f lf a0.2.1) fun r1 =>
 br (r1.1 != 0) (
 some (r1.1,())) (
 bd (jD.f lf a0.2.2.1) fun r2 =>
 br (r2.1 != 0) (
 some (r2.1,())) (
 bd (gu.f lf a0.2.1 (⟨#[48]⟩:ByteArray)) fun r3 =>
 br r3.1 (
 some (2,())) (
 br (!(a0.2.1.toList==(⟨#[48]⟩:ByteArray).toList)) (
 bd (gu.f lf a0.2.2.1 (⟨#[48]⟩:ByteArray)) fun r4 =>
 br r4.1 (
 some (2,())) (
 bd (gu.f lf a0.2.2.1 a0.2.1) fun r5 =>
 br (!r5.1) (
 some (2,())) (
 some (0,())))) (
 some (0,()))))))
def E(lf:Nat):Entry:=⟨[yI],[(.int .i64)],fun x=>f lf x.1⟩
theorem ok(lf:Nat):Ok 163 (E lf):=okT (an:=(annsL [])) (lf:=lf) (tC (jD.ok lf) (tC (gu.ok lf) tN)) aoN fun x=>by kernel_rfl
end dV
namespace dm
def f(lf:Nat)(a0:ByteArray)(a1:ByteArray):Option (ByteArray×Unit) :=
 bd (gV.f lf a0 a1) fun r1 =>
 bd (iF.f lf r1.1 r1.2.1) fun r2 =>
 some (r2.1,())
def E(lf:Nat):Entry:=⟨[.str,.str],[.str],fun x=>f lf x.1 x.2.1⟩
theorem ok(lf:Nat):Ok 115 (E lf):=okT (an:=(annsL [])) (lf:=lf) (tC (iF.ok lf) (tC (gV.ok lf) tN)) aoN fun x=>by kernel_rfl
end dm
namespace iU
def f(lf:Nat)(a0:ByteArray)(a1:ByteArray)(a2:ByteArray):Option (ByteArray×Int×Unit) :=
 bd (iT.f lf a0 a2) fun r1 =>
 br (r1.2.1 != 0) (
 some ((⟨#[]⟩:ByteArray),r1.2.1,())) (
 bd (iT.f lf a1 a2) fun r2 =>
 br (r2.2.1 != 0) (
 some ((⟨#[]⟩:ByteArray),r2.2.1,())) (
 bd (dm.f lf r1.1 r2.1) fun r3 =>
 bd (iT.f lf r3.1 a2) fun r4 =>
 some (r4.1,r4.2.1,())))
def E(lf:Nat):Entry:=⟨[.str,.str,.str],[.str,(.int .i64)],fun x=>f lf x.1 x.2.1 x.2.2.1⟩
theorem ok(lf:Nat):Ok 290 (E lf):=okT (an:=(annsL [])) (lf:=lf) (tC (dm.ok lf) (tC (iT.ok lf) tN)) aoN fun x=>by kernel_rfl
end iU
namespace kT
def f(lf:Nat)(a0:TI)(a1:ByteArray):Option (ByteArray×Int×Unit) :=
 bd (dV.f lf a0) fun r1 =>
 br (r1.1 != 0) (
 some ((⟨#[]⟩:ByteArray),r1.1,())) (
 bd (cu.f lf a1) fun r2 =>
 br (r2.1 != 0) (
 some ((⟨#[]⟩:ByteArray),r2.1,())) (
 br a0.1 (
 some ((⟨#[]⟩:ByteArray),16,())) (
 br (!(a0.2.1.toList==(⟨#[48]⟩:ByteArray).toList)) (
 bd (iU.f lf a0.2.2.1 a1 a0.2.1) fun r3 =>
 br (r3.2.1 != 0) (
 some ((⟨#[]⟩:ByteArray),r3.2.1,())) (
 bd (iC.f lf a1 r3.1) fun r4 =>
 some (r4.1,r4.2.1,()))) (
 bd (gu.f lf a0.2.2.1 a1) fun r5 =>
 br r5.1 (
 some ((⟨#[]⟩:ByteArray),6,())) (
 some (a0.2.2.1,0,()))))))
def E(lf:Nat):Entry:=⟨[yI,.str],[.str,(.int .i64)],fun x=>f lf x.1 x.2.1⟩
theorem ok(lf:Nat):Ok 212 (E lf):=okT (an:=(annsL [])) (lf:=lf) (tC (dV.ok lf) (tC (cu.ok lf) (tC (gu.ok lf) (tC (iC.ok lf) (tC (iU.ok lf) tN))))) aoN fun x=>by kernel_rfl
end kT
namespace ja
def f(lf:Nat)(a0:TI)(a1:ByteArray):Option (ByteArray×Int×Unit) :=
 bd (dV.f lf a0) fun r1 =>
 br (r1.1 != 0) (
 some ((⟨#[]⟩:ByteArray),r1.1,())) (
 bd (cu.f lf a1) fun r2 =>
 br (r2.1 != 0) (
 some ((⟨#[]⟩:ByteArray),r2.1,())) (
 br a0.1 (
 some ((⟨#[]⟩:ByteArray),16,())) (
 br (!(a0.2.1.toList==(⟨#[48]⟩:ByteArray).toList)) (
 bd (iU.f lf a1 a0.2.2.1 a0.2.1) fun r3 =>
 br (r3.2.1 != 0) (
 some ((⟨#[]⟩:ByteArray),r3.2.1,())) (
 bd (gV.f lf a1 r3.1) fun r4 =>
 some (r4.1,r4.2.1,()))) (
 bd (gu.f lf a1 a0.2.2.1) fun r5 =>
 br r5.1 (
 some ((⟨#[]⟩:ByteArray),6,())) (
 some (a0.2.2.1,0,()))))))
def E(lf:Nat):Entry:=⟨[yI,.str],[.str,(.int .i64)],fun x=>f lf x.1 x.2.1⟩
theorem ok(lf:Nat):Ok 213 (E lf):=okT (an:=(annsL [])) (lf:=lf) (tC (dV.ok lf) (tC (gV.ok lf) (tC (cu.ok lf) (tC (gu.ok lf) (tC (iU.ok lf) tN))))) aoN fun x=>by kernel_rfl
end ja
namespace dw
def f(lf:Nat)(a0:TI)(a1:TI):Option (Int×Unit) :=
 bd (dV.f lf a0) fun r1 =>
 br (r1.1 != 0) (
 some (r1.1,())) (
 bd (dV.f lf a1) fun r2 =>
 some (r2.1,()))
def E(lf:Nat):Entry:=⟨[yI,yI],[(.int .i64)],fun x=>f lf x.1 x.2.1⟩
theorem ok(lf:Nat):Ok 106 (E lf):=okT (an:=(annsL [])) (lf:=lf) (tC (dV.ok lf) tN) aoN fun x=>by kernel_rfl
end dw
namespace fE
def f(lf:Nat)(a0:ByteArray)(a1:ByteArray):Option (Bool×Unit) :=
 br (a0.toList==(⟨#[48]⟩:ByteArray).toList) (
 some ((a1.toList==(⟨#[48]⟩:ByteArray).toList),())) (
 bd (iT.f lf a1 a0) fun r1 =>
 bd (iF.f lf r1.1 r1.2.1) fun r2 =>
 some ((r2.1.toList==(⟨#[48]⟩:ByteArray).toList),()))
def E(lf:Nat):Entry:=⟨[.str,.str],[.bool],fun x=>f lf x.1 x.2.1⟩
theorem ok(lf:Nat):Ok 169 (E lf):=okT (an:=(annsL [])) (lf:=lf) (tC (iF.ok lf) (tC (iT.ok lf) tN)) aoN fun x=>by kernel_rfl
end fE
namespace iH
def f(lf:Nat)(a0:TI)(a1:TI):Option (Bool×Unit) :=
 br a0.1 (
 some (a0.1,())) (
 br a1.1 (
 some (a0.1,())) (
 bd (fE.f lf a1.2.1 a0.2.1) fun r1 =>
 br r1.1 (
 bd (dm.f lf a0.2.2.1 a1.2.2.1) fun r2 =>
 bd (fE.f lf a1.2.1 r2.1) fun r3 =>
 some (r3.1,())) (
 some (false,()))))
def E(lf:Nat):Entry:=⟨[yI,yI],[.bool],fun x=>f lf x.1 x.2.1⟩
theorem ok(lf:Nat):Ok 107 (E lf):=okT (an:=(annsL [])) (lf:=lf) (tC (dm.ok lf) (tC (fE.ok lf) tN)) aoN fun x=>by kernel_rfl
end iH
namespace lZ
def f(lf:Nat)(a0:TI)(a1:TI):Option (Bool×Int×Unit) :=
 bd (dw.f lf a0 a1) fun r1 =>
 br (r1.1==0) (
 bd (iH.f lf a0 a1) fun r2 =>
 some (r2.1,r1.1,())) (
 some (false,r1.1,()))
def E(lf:Nat):Entry:=⟨[yI,yI],[.bool,(.int .i64)],fun x=>f lf x.1 x.2.1⟩
theorem ok(lf:Nat):Ok 65 (E lf):=okT (an:=(annsL [])) (lf:=lf) (tC (dw.ok lf) (tC (iH.ok lf) tN)) aoN fun x=>by kernel_rfl
end lZ
namespace fK
def f(lf:Nat)  : Option (TI×Unit) :=
 some ((false,(⟨#[49]⟩:ByteArray),(⟨#[48]⟩:ByteArray),()),())
def E(lf:Nat):Entry:=⟨[],[yI],fun x=>f lf⟩
theorem ok(lf:Nat):Ok 179 (E lf):=okT (an:=(annsL [])) (lf:=lf) tN aoN fun x=>by kernel_rfl
end fK
namespace dB
def f(lf:Nat)(a0:ByteArray)(a1:ByteArray):Option (TI×Unit) :=
 bd (pM.f lf a0) fun r1 =>
 bd (iF.f lf r1.1 r1.2.1) fun r2 =>
 br (!(r2.1.toList==(⟨#[48]⟩:ByteArray).toList)) (
 bd (iT.f lf a1 r2.1) fun r3 =>
 bd (iF.f lf r3.1 r3.2.1) fun r4 =>
 bd (gB.f lf r2.1) fun r5 =>
 br r5.1 (
 bd (fK.f lf) fun r6 =>
 some (r6.1,())) (
 bd (gB.f lf r4.1) fun r7 =>
 br r7.1 (
 bd (fK.f lf) fun r8 =>
 some (r8.1,())) (
 some ((false,r2.1,r4.1,()),())))) (
 bd (gB.f lf r2.1) fun r9 =>
 br r9.1 (
 bd (fK.f lf) fun r10 =>
 some (r10.1,())) (
 bd (gB.f lf a1) fun r11 =>
 br r11.1 (
 bd (fK.f lf) fun r12 =>
 some (r12.1,())) (
 some ((false,r2.1,a1,()),()))))
def E(lf:Nat):Entry:=⟨[.str,.str],[yI],fun x=>f lf x.1 x.2.1⟩
theorem ok(lf:Nat):Ok 113 (E lf):=okT (an:=(annsL [])) (lf:=lf) (tC (iF.ok lf) (tC (pM.ok lf) (tC (iT.ok lf) (tC (gB.ok lf) (tC (fK.ok lf) tN))))) aoN fun x=>by kernel_rfl
end dB
namespace dN
def f(lf:Nat)(a0:ByteArray)(a1:ByteArray):Option (ByteArray×Unit) :=
 bd (pO.f lf a0 a1) fun r1 =>
 bd (iF.f lf r1.1 r1.2.1) fun r2 =>
 some (r2.1,())
def E(lf:Nat):Entry:=⟨[.str,.str],[.str],fun x=>f lf x.1 x.2.1⟩
theorem ok(lf:Nat):Ok 114 (E lf):=okT (an:=(annsL [])) (lf:=lf) (tC (iF.ok lf) (tC (pO.ok lf) tN)) aoN fun x=>by kernel_rfl
end dN
namespace jK
def f(lf:Nat)(a0:TI)(a1:TI):Option (TI×Int×Unit) :=
 bd (dw.f lf a0 a1) fun r1 =>
 br (r1.1 != 0) (
 some ((false,(⟨#[]⟩:ByteArray),(⟨#[]⟩:ByteArray),()),r1.1,())) (
 br a0.1 (
 some (a1,0,())) (
 br a1.1 (
 some (a0,0,())) (
 bd (dN.f lf a0.2.1 a1.2.1) fun r2 =>
 bd (dm.f lf a0.2.2.1 a1.2.2.1) fun r3 =>
 bd (dN.f lf r2.1 r3.1) fun r4 =>
 bd (dB.f lf r4.1 a0.2.2.1) fun r5 =>
 some (r5.1,0,()))))
def E(lf:Nat):Entry:=⟨[yI,yI],[yI,(.int .i64)],fun x=>f lf x.1 x.2.1⟩
theorem ok(lf:Nat):Ok 70 (E lf):=okT (an:=(annsL [])) (lf:=lf) (tC (dw.ok lf) (tC (dB.ok lf) (tC (dN.ok lf) (tC (dm.ok lf) tN)))) aoN fun x=>by kernel_rfl
end jK
namespace bY
def f(lf:Nat)  : Option (TI×Unit) :=
 some ((true,(⟨#[]⟩:ByteArray),(⟨#[]⟩:ByteArray),()),())
def E(lf:Nat):Entry:=⟨[],[yI],fun x=>f lf⟩
theorem ok(lf:Nat):Ok 193 (E lf):=okT (an:=(annsL [])) (lf:=lf) tN aoN fun x=>by kernel_rfl
end bY
namespace jy
def f(lf:Nat)(a0:ByteArray)(a1:ByteArray):Option (ByteArray×Unit) :=
 bd (jI.f lf a0 a1) fun r1 =>
 bd (iF.f lf r1.1 r1.2.1) fun r2 =>
 some (r2.1,())
def E(lf:Nat):Entry:=⟨[.str,.str],[.str],fun x=>f lf x.1 x.2.1⟩
theorem ok(lf:Nat):Ok 195 (E lf):=okT (an:=(annsL [])) (lf:=lf) (tC (iF.ok lf) (tC (jI.ok lf) tN)) aoN fun x=>by kernel_rfl
end jy
namespace jX
def f(lf:Nat)(a0:ByteArray)(a1:ByteArray):Option (ByteArray×Unit) :=
 bd (iC.f lf a0 a1) fun r1 =>
 bd (iF.f lf r1.1 r1.2.1) fun r2 =>
 some (r2.1,())
def E(lf:Nat):Entry:=⟨[.str,.str],[.str],fun x=>f lf x.1 x.2.1⟩
theorem ok(lf:Nat):Ok 198 (E lf):=okT (an:=(annsL [])) (lf:=lf) (tC (iF.ok lf) (tC (iC.ok lf) tN)) aoN fun x=>by kernel_rfl
end jX
namespace nH
def f(lf:Nat)(a0:TI)(a1:TI):Option (TI×Unit) :=
 bd (iH.f lf a0 a1) fun r1 =>
 br r1.1 (
 some (a0,())) (
 bd (iH.f lf a1 a0) fun r2 =>
 br r2.1 (
 some (a1,())) (
 bd (dN.f lf a0.2.1 a1.2.1) fun r3 =>
 bd (dm.f lf a1.2.2.1 a0.2.2.1) fun r4 =>
 br (a0.2.1.toList==(⟨#[48]⟩:ByteArray).toList) (
 bd (bY.f lf) fun r5 =>
 some (r5.1,())) (
 br (a1.2.1.toList==(⟨#[48]⟩:ByteArray).toList) (
 bd (bY.f lf) fun r6 =>
 some (r6.1,())) (
 bd (fE.f lf r3.1 r4.1) fun r7 =>
 br (!r7.1) (
 bd (bY.f lf) fun r8 =>
 some (r8.1,())) (
 bd (dh.f lf a0.2.1 a1.2.1) fun r9 =>
 bd (jJ.f lf r4.1 r3.1) fun r10 =>
 bd (iF.f lf r10.1 r10.2.1) fun r11 =>
 bd (jy.f lf r9.2.1 r11.1) fun r12 =>
 bd (pR.f lf a0.2.1 a1.2.1) fun r13 =>
 bd (iF.f lf r13.1 r13.2.1) fun r14 =>
 bd (jy.f lf r12.1 a0.2.1) fun r15 =>
 bd (jX.f lf a0.2.2.1 r15.1) fun r16 =>
 bd (dB.f lf r14.1 r16.1) fun r17 =>
 some (r17.1,()))))))
def E(lf:Nat):Entry:=⟨[yI,yI],[yI],fun x=>f lf x.1 x.2.1⟩
theorem ok(lf:Nat):Ok 120 (E lf):=okT (an:=(annsL [])) (lf:=lf) (tC (iH.ok lf) (tC (dB.ok lf) (tC (dN.ok lf) (tC (dm.ok lf) (tC (fE.ok lf) (tC (iF.ok lf) (tC (bY.ok lf) (tC (dh.ok lf) (tC (jy.ok lf) (tC (jJ.ok lf) (tC (pR.ok lf) (tC (jX.ok lf) tN)))))))))))) aoN fun x=>by kernel_rfl
end nH
namespace lI
def f(lf:Nat)(a0:TI)(a1:TI):Option (TI×Int×Unit) :=
 bd (dw.f lf a0 a1) fun r1 =>
 br (r1.1 != 0) (
 some ((false,(⟨#[]⟩:ByteArray),(⟨#[]⟩:ByteArray),()),r1.1,())) (
 br a0.1 (
 bd (bY.f lf) fun r2 =>
 some (r2.1,0,())) (
 br a1.1 (
 bd (bY.f lf) fun r3 =>
 some (r3.1,0,())) (
 bd (nH.f lf a0 a1) fun r4 =>
 some (r4.1,0,()))))
def E(lf:Nat):Entry:=⟨[yI,yI],[yI,(.int .i64)],fun x=>f lf x.1 x.2.1⟩
theorem ok(lf:Nat):Ok 74 (E lf):=okT (an:=(annsL [])) (lf:=lf) (tC (dw.ok lf) (tC (nH.ok lf) (tC (bY.ok lf) tN))) aoN fun x=>by kernel_rfl
end lI
end
end Go.Q
