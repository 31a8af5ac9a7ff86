import Derived.Test.YtcgfigjpbicogaaGreatDoorProg
import Derived.KernelRfl
import Derived.Test.YtcgfigjpbicogaaGreatDoorSWE3
import Derived.Test.YtcgfigjpbicogaaGreatDoorSWG10
import Derived.Test.YtcgfigjpbicogaaGreatDoorSWG4
import Derived.Test.YtcgfigjpbicogaaGreatDoorSWG6
import Derived.Test.YtcgfigjpbicogaaGreatDoorSWG7
import Derived.Test.YtcgfigjpbicogaaGreatDoorSWG9
set_option linter.unusedVariables false
set_option linter.unusedSimpArgs false
set_option linter.unusedSectionVars false
set_option maxRecDepth 100000
namespace Go.Q
open Go.IntKind (i64)
open Go Go.RowKit
open Go.Rx (br bd sIdx sCat sCut iQuo iRem)
noncomputable section
namespace gZ
def f(lf:Nat)(a0:ByteArray):Option (Bool×Unit) :=
 bd (fZ.f lf a0) fun r1 =>
 some ((!r1.1),())
def E(lf:Nat):Entry:=⟨[.str],[.bool],fun x=>f lf x.1⟩
theorem ok(lf:Nat):Ok 14 (E lf):=okT (an:=(annsL [])) (lf:=lf) (tC (fZ.ok lf) tN) aoN fun x=>by kernel_rfl
end gZ
namespace dY
def anns:FuncId→FA:=annsL [(34,⟨annOf [(0,⟨kx 19 [0,1,7,8],[],[]⟩,⟨kx 19 [4],[],[]⟩)],none,[]⟩)]
def r0{ρ:Type}(lf:Nat)(v0:List ByteArray)(v1:Int)(v2:Int)(K:Int→Option ρ)(E0:Int→Option ρ)(E1:Option ρ):Option ρ :=
 br (decide (v2 < v1)) (
 bd (idxL v0 v2) fun y1 =>
 bd (gZ.f lf y1) fun r2 =>
 br r2.1 (
 E0 v2) (
 K (i64.wrap (v2+1)))) (
 E1)
def l0(lf:Nat)(v0:List ByteArray)(v1:Int):Nat→Int→Option (Bool×(Int×Unit)×(Unit)×Unit)
 | 0,_=>none
 | n+1,v2=>r0 lf v0 v1 v2 (l0 lf v0 v1 n) (fun w0=>some (true,(w0,()),((()),()))) (some (false,(0,()),((()),())))
def sh0:ShS:=⟨[.s (.sl .str),.s (.fn 14 [] []),.a 5,.s (.int .i64),.s (.int .i64),.a 10],[]⟩
def S0(p:(List ByteArray)×Int×Int×Unit):St:=sh0.b p
def xh0:ShS:=⟨[.a 4,.s (.int .i64),.a 14],[]⟩
def xh1:ShS:=⟨[.a 19],[]⟩
def o0(v0:List ByteArray)(v1:Int)(y:Bool×(Int×Unit)×(Unit)×Unit):Alt:=.two y.1 (.one .ret (xh0.b (y.2.1.1,()))) (.one (.exit 0) (xh1.b (())))
def tb(lf:Nat):List (FuncId×Entry):=[(14,gZ.E lf)]
def acU(lf:Nat):List (Nat×(St→Option LTE)):=[(0,sumE sh0 fun(p:(List ByteArray)×Int×Int×Unit)=>⟨Bool×(Int×Unit)×(Unit)×Unit,l0 lf p.1 p.2.1 (lf+40) p.2.2.1,o0 p.1 p.2.1⟩)]
def ls(lf:Nat):List (Nat×FuncId×Sums):=[(11,34,sumsL (acU lf))]
def it0{ρ:Type}(lf n:Nat)(st:St)(k:KE ρ):Option ρ:=itG anns (ls lf) (tb lf) lf 11 34 0 0 (sumsL (acU lf)) n st k
theorem t0{ρ:Type}(lf n:Nat)(v0:List ByteArray)(v1 v2:Int)(k:KE ρ):it0 lf (n+1) (S0 (v0,v1,v2,())) k=r0 lf v0 v1 v2 (fun x0=>it0 lf n (S0 (v0,v1,x0,())) k) (fun w0=>k .ret (xh0.b (w0,()))) (k (.exit 0) (xh1.b (()))):=by kernel_rfl
theorem u0{ρ:Type}(lf:Nat)(v0:List ByteArray)(v1:Int)(k:KE ρ):∀ (n:Nat) (v2:Int),it0 lf n (S0 (v0,v1,v2,())) k=bd (l0 lf v0 v1 n v2) fun y=>altK k (o0 v0 v1 y)
 | 0,_=>by rw[l0,bd_none];rfl
 | n+1,v2=>by
  rw[t0];simp only[l0,r0,u0 lf v0 v1 k n,bd_br,bd_bd,bd_some',bd_none,br_t,br_f,o0,altK]
theorem sl(lf:Nat):SL anns (ls lf) (tb lf) lf (ls lf):=slC (laC (fun _=>by kernel_rfl) (fun _ (x:(List ByteArray)×Int×Int×Unit) k=>aS (u0 lf x.1 x.2.1 k (lf+40) x.2.2.1)) laN) slN
def f(lf:Nat)(a0:List ByteArray):Option (Bool×Unit) :=
 br (decide (((a0.length:Nat):Int)≤40)) (
 bd (l0 lf a0 ((a0.length:Nat):Int) (lf+40) 0) fun z3 =>
 br z3.1 (
 some ((!(decide (z3.2.1.1≥0))),())) (
 some (true,()))) (
 some (false,()))
def E(lf:Nat):Entry:=⟨[(.sl .str)],[.bool],fun x=>f lf x.1⟩
theorem ok(lf:Nat):Ok 5 (E lf):=okL (tC (gZ.ok lf) tN) (aoC aoN) (sl lf) fun x=>by kernel_rfl
end dY
namespace aZ
def f(lf:Nat)(a0:Int)(a1:Int):Option (TV×Unit) :=
 bd (aP.f lf a0) fun r1 =>
 bd (aP.f lf a1) fun r2 =>
 bd (aC.f lf r1.1 r2.1) fun r3 =>
 bd (gW.f lf) fun r4 =>
 bd (bf.f lf r3.1 r4.1.2.1) fun r5 =>
 some (r5.1,())
def E(lf:Nat):Entry:=⟨[(.int .i64),(.int .i64)],[yV],fun x=>f lf x.1 x.2.1⟩
theorem ok(lf:Nat):Ok 16 (E lf):=okT (an:=(annsL [])) (lf:=lf) (tC (bf.ok lf) (tC (gW.ok lf) (tC (aC.ok lf) (tC (aP.ok lf) tN)))) aoN fun x=>by kernel_rfl
end aZ
namespace fP
def f(lf:Nat)  : Option (Bool×Unit) :=
 bd (aZ.f lf 0 0) fun r1 =>
 bd (aZ.f lf 9 9) fun r2 =>
 bd (aZ.f lf 1 5) fun r3 =>
 bd (aZ.f lf 1 5) fun r4 =>
 bd (aZ.f lf 7 7) fun r5 =>
 bd (pJ.f lf [r1.1,r1.1,r1.1,r3.1,r4.1,r5.1]) fun r6 =>
 bd (kR.f lf r6.1 6) fun r7 =>
 br (r6.2.1 != 0) (
 some (false,())) (
 br (r7.2.1 != 0) (
 some (false,())) (
 br (!(r7.1.toList==(⟨#[48,45,50,58,32,91,48,44,32,48,93,59,32,51,45,52,58,32,91,49,44,32,53,93,59,32,53,58,32,91,55,44,32,55,93]⟩:ByteArray).toList)) (
 some (false,())) (
 bd (aZ.f lf 2 3) fun r8 =>
 bd (nC.f lf r6.1 6 r8.1) fun r9 =>
 bd (bf.f lf (false,(⟨#[49]⟩:ByteArray),(⟨#[]⟩:ByteArray),()) (false,(⟨#[52]⟩:ByteArray),(⟨#[49]⟩:ByteArray),())) fun r10 =>
 bd (nC.f lf r6.1 6 r10.1) fun r11 =>
 bd (aZ.f lf 1 1) fun r12 =>
 bd (lg.f lf r6.1 6 r12.1 r2.1) fun r13 =>
 bd (aZ.f lf 0 1) fun r14 =>
 bd (lg.f lf r6.1 6 r14.1 r2.1) fun r15 =>
 bd (aZ.f lf 6 6) fun r16 =>
 bd (lg.f lf r6.1 6 r16.1 r2.1) fun r17 =>
 bd (gW.f lf) fun r18 =>
 bd (aZ.f lf 4 10) fun r19 =>
 bd (pI.f lf r6.1 6 r18.1 r19.1) fun r20 =>
 bd (kR.f lf r13.1 6) fun r21 =>
 bd (kR.f lf r15.1 6) fun r22 =>
 br ((i64.wrap ((i64.wrap ((i64.wrap ((i64.wrap ((i64.wrap ((i64.wrap ((i64.wrap (r9.2.1+r11.2.1))+r13.2.2.1))+r15.2.2.1))+r17.2.2.1))+r20.2.1))+r21.2.1))+r22.2.1))==0) (
 br r13.2.1 (
 br r15.2.1 (
 br (!r17.2.1) (
 bd (aZ.f lf 0 5) fun r23 =>
 bd (some (((r9.1.1.1==r23.1.1.1)&&((r9.1.1.2.1==r23.1.1.2.1)&&((r9.1.1.2.2.1==r23.1.1.2.2.1)&&true)))&&(((r9.1.2.1.1==r23.1.2.1.1)&&((r9.1.2.1.2.1==r23.1.2.1.2.1)&&((r9.1.2.1.2.2.1==r23.1.2.1.2.2.1)&&true)))&&true))) fun r24 =>
 br r24 (
 bd (some ((r11.1.1.1==false)&&((r11.1.1.2.1==(⟨#[48]⟩:ByteArray))&&((r11.1.1.2.2.1==(⟨#[55]⟩:ByteArray))&&true)))) fun r25 =>
 br r25 (
 bd (some ((r11.1.2.1.1==false)&&((r11.1.2.1.2.1==(⟨#[55]⟩:ByteArray))&&((r11.1.2.1.2.2.1==(⟨#[48]⟩:ByteArray))&&true)))) fun r26 =>
 br r26 (
 br (r21.1.toList==(⟨#[48,58,32,91,48,44,32,48,93,59,32,49,58,32,91,57,44,32,57,93,59,32,50,58,32,91,48,44,32,48,93,59,32,51,45,52,58,32,91,49,44,32,53,93,59,32,53,58,32,91,55,44,32,55,93]⟩:ByteArray).toList) (
 br (r22.1.toList==(⟨#[48,45,49,58,32,91,48,44,32,57,93,32,109,111,100,32,57,32,61,32,48,59,32,50,58,32,91,48,44,32,48,93,59,32,51,45,52,58,32,91,49,44,32,53,93,59,32,53,58,32,91,55,44,32,55,93]⟩:ByteArray).toList) (
 bd (aZ.f lf 3 5) fun r27 =>
 bd (some (((r20.1.1.1==r27.1.1.1)&&((r20.1.1.2.1==r27.1.1.2.1)&&((r20.1.1.2.2.1==r27.1.1.2.2.1)&&true)))&&(((r20.1.2.1.1==r27.1.2.1.1)&&((r20.1.2.1.2.1==r27.1.2.1.2.1)&&((r20.1.2.1.2.2.1==r27.1.2.1.2.2.1)&&true)))&&true))) fun r28 =>
 some (r28,())) (
 some (false,()))) (
 some (false,()))) (
 some (false,()))) (
 some (false,()))) (
 some (false,()))) (
 some (false,()))) (
 some (false,()))) (
 some (false,()))) (
 some (false,())))))
def E(lf:Nat):Entry:=⟨[],[.bool],fun x=>f lf⟩
theorem ok(lf:Nat):Ok 6 (E lf):=okT (an:=(annsL [])) (lf:=lf) (tC (aZ.ok lf) (tC (pJ.ok lf) (tC (kR.ok lf) (tC (nC.ok lf) (tC (bf.ok lf) (tC (lg.ok lf) (tC (pI.ok lf) (tC (gW.ok lf) tN)))))))) aoN fun x=>by kernel_rfl
end fP
end
end Go.Q
