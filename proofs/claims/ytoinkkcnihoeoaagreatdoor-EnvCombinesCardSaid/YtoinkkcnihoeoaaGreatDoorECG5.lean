import Derived.Test.YtoinkkcnihoeoaaGreatDoorProg
import Derived.KernelRfl
import Derived.Test.YtoinkkcnihoeoaaGreatDoorECE3
import Derived.Test.YtoinkkcnihoeoaaGreatDoorECG3
import Derived.Test.YtoinkkcnihoeoaaGreatDoorECG4
set_option linter.unusedVariables false
set_option linter.unusedSimpArgs false
set_option linter.unusedSectionVars false
set_option maxRecDepth 100000
namespace Go.Q
open Go.IntKind (i64)
open Go Go.RowKit
open Go.Rx (br bd sIdx sCat sCut iQuo iRem)
noncomputable section
namespace dn
def f(lf:Nat)(a0:ByteArray)(a1:ByteArray):Option (ByteArray×Unit) :=
 bd (fJ.f lf a0 17) fun r1 =>
 br r1.1 (
 bd (fJ.f lf a1 17) fun r2 =>
 br r2.1 (
 bd (aS.f lf a0) fun r3 =>
 bd (aS.f lf a1) fun r4 =>
 bd (jP.f lf r3.1 r4.1) fun r5 =>
 bd (aV.f lf r5.1) fun r6 =>
 some (r6.1,())) (
 bd (aB.f lf a0) fun r7 =>
 bd (ay.f lf r7.1) fun r8 =>
 bd (aB.f lf a1) fun r9 =>
 bd (ay.f lf r9.1) fun r10 =>
 bd (aN.f lf r8.1 r10.1) fun r11 =>
 bd (ak.f lf a0) fun r12 =>
 bd (ak.f lf a1) fun r13 =>
 bd (aG.f lf r11.1 (r12.1 != r13.1)) fun r14 =>
 bd (ak.f lf a0) fun r15 =>
 bd (ak.f lf a1) fun r16 =>
 br (r15.1 != r16.1) (
 br (decide (((r11.2.1.length:Nat):Int) > 0)) (
 bd (aP.f lf r14.1 (⟨#[49]⟩:ByteArray)) fun r17 =>
 some (r17.1,())) (
 some (r14.1,()))) (
 some (r14.1,())))) (
 bd (aB.f lf a0) fun r18 =>
 bd (ay.f lf r18.1) fun r19 =>
 bd (aB.f lf a1) fun r20 =>
 bd (ay.f lf r20.1) fun r21 =>
 bd (aN.f lf r19.1 r21.1) fun r22 =>
 bd (ak.f lf a0) fun r23 =>
 bd (ak.f lf a1) fun r24 =>
 bd (aG.f lf r22.1 (r23.1 != r24.1)) fun r25 =>
 bd (ak.f lf a0) fun r26 =>
 bd (ak.f lf a1) fun r27 =>
 br (r26.1 != r27.1) (
 br (decide (((r22.2.1.length:Nat):Int) > 0)) (
 bd (aP.f lf r25.1 (⟨#[49]⟩:ByteArray)) fun r28 =>
 some (r28.1,())) (
 some (r25.1,()))) (
 some (r25.1,())))
def E(lf:Nat):Entry:=⟨[.str,.str],[.str],fun x=>f lf x.1 x.2.1⟩
theorem ok(lf:Nat):Ok 205 (E lf):=okT (an:=(annsL [])) (lf:=lf) (tC (aP.ok lf) (tC (ak.ok lf) (tC (ay.ok lf) (tC (aB.ok lf) (tC (aV.ok lf) (tC (aS.ok lf) (tC (aG.ok lf) (tC (fJ.ok lf) (tC (jP.ok lf) (tC (aN.ok lf) tN)))))))))) aoN fun x=>by kernel_rfl
end dn
namespace bP
def f(lf:Nat)(a0:ByteArray)(a1:ByteArray):Option (ByteArray×Unit) :=
 bd (dn.f lf a0 a1) fun r1 =>
 bd (bC.f lf a1 r1.1) fun r2 =>
 bd (aP.f lf a0 r2.1) fun r3 =>
 some (r3.1,())
def E(lf:Nat):Entry:=⟨[.str,.str],[.str],fun x=>f lf x.1 x.2.1⟩
theorem ok(lf:Nat):Ok 256 (E lf):=okT (an:=(annsL [])) (lf:=lf) (tC (aP.ok lf) (tC (bC.ok lf) (tC (dn.ok lf) tN))) aoN fun x=>by kernel_rfl
end bP
namespace aZ
def f(lf:Nat)(a0:ByteArray):Option (ByteArray×Unit) :=
 bd (ak.f lf a0) fun r1 =>
 br r1.1 (
 bd (sCut a0 (some 1) none) fun r2 =>
 some (r2,())) (
 some (a0,()))
def E(lf:Nat):Entry:=⟨[.str],[.str],fun x=>f lf x.1⟩
theorem ok(lf:Nat):Ok 270 (E lf):=okT (an:=(annsL [])) (lf:=lf) (tC (ak.ok lf) tN) aoN fun x=>by kernel_rfl
end aZ
namespace dK
def anns:FuncId→FA:=annsL [(215,⟨annOf [(0,⟨kx 42 [0,4],[],[]⟩,⟨kx 42 [2],[],[]⟩)],none,[]⟩)]
def r0{ρ:Type}(lf:Nat)(v0:ByteArray)(v1:Int)(K:Int→Option ρ)(E0:Option ρ)(E1:Option ρ):Option ρ :=
 br (decide (v1 < ((v0.size:Nat):Int))) (
 bd (sIdx v0 v1) fun r3 =>
 br (decide (((r3.toNat:Nat):Int) < 48)) (
 E0) (
 bd (sIdx v0 v1) fun r4 =>
 br (decide (((r4.toNat:Nat):Int) > 57)) (
 E0) (
 K (i64.wrap (v1+1))))) (
 E1)
def l0(lf:Nat)(v0:ByteArray):Nat→Int→Option (Bool×(Unit)×(Unit)×Unit)
 | 0,_=>none
 | n+1,v1=>r0 lf v0 v1 (l0 lf v0 n) (some (true,(()),((()),()))) (some (false,(()),((()),())))
def sh0:ShS:=⟨[.s .str,.a 3,.s (.int .i64),.a 37],[]⟩
def S0(p:ByteArray×Int×Unit):St:=sh0.b p
def xh0:ShS:=⟨[.a 2,.s .bool,.a 39],[]⟩
def xh1:ShS:=⟨[.a 42],[]⟩
def o0(v0:ByteArray)(y:Bool×(Unit)×(Unit)×Unit):Alt:=.two y.1 (.one .ret (xh0.b (false,()))) (.one (.exit 0) (xh1.b (())))
def tb(lf:Nat):List (FuncId×Entry):=[]
def abV(lf:Nat):List (Nat×(St→Option LTE)):=[(0,sumE sh0 fun(p:ByteArray×Int×Unit)=>⟨Bool×(Unit)×(Unit)×Unit,l0 lf p.1 (lf+40) p.2.1,o0 p.1⟩)]
def ls(lf:Nat):List (Nat×FuncId×Sums):=[(13,215,sumsL (abV lf))]
def it0{ρ:Type}(lf n:Nat)(st:St)(k:KE ρ):Option ρ:=itG anns (ls lf) (tb lf) lf 13 215 0 0 (sumsL (abV lf)) n st k
theorem t0{ρ:Type}(lf n:Nat)(v0:ByteArray)(v1:Int)(k:KE ρ):it0 lf (n+1) (S0 (v0,v1,())) k=r0 lf v0 v1 (fun x0=>it0 lf n (S0 (v0,x0,())) k) (k .ret (xh0.b (false,()))) (k (.exit 0) (xh1.b (()))):=by kernel_rfl
theorem u0{ρ:Type}(lf:Nat)(v0:ByteArray)(k:KE ρ):∀ (n:Nat) (v1:Int),it0 lf n (S0 (v0,v1,())) k=bd (l0 lf v0 n v1) fun y=>altK k (o0 v0 y)
 | 0,_=>by rw[l0,bd_none];rfl
 | n+1,v1=>by
  rw[t0];simp only[l0,r0,u0 lf v0 k n,bd_br,bd_bd,bd_some',bd_none,br_t,br_f,o0,altK]
theorem sl(lf:Nat):SL anns (ls lf) (tb lf) lf (ls lf):=slC (laC (fun _=>by kernel_rfl) (fun _ (x:ByteArray×Int×Unit) k=>bH (u0 lf x.1 k (lf+40) x.2.1)) laN) slN
def f(lf:Nat)(a0:ByteArray):Option (Bool×Unit) :=
 br (a0.toList==(⟨#[48]⟩:ByteArray).toList) (
 some (true,())) (
 br (decide (((a0.size:Nat):Int) > 0)) (
 bd (sIdx a0 0) fun r1 =>
 br (((r1.toNat:Nat):Int)==45) (
 br (1==((a0.size:Nat):Int)) (
 some (false,())) (
 bd (sIdx a0 1) fun r2 =>
 br (((r2.toNat:Nat):Int)==48) (
 some (false,())) (
 bd (l0 lf a0 (lf+40) 1) fun z5 =>
 br z5.1 (
 some (false,())) (
 some (true,()))))) (
 br (0==((a0.size:Nat):Int)) (
 some (false,())) (
 bd (sIdx a0 0) fun r6 =>
 br (((r6.toNat:Nat):Int)==48) (
 some (false,())) (
 bd (l0 lf a0 (lf+40) 0) fun z7 =>
 br z7.1 (
 some (false,())) (
 some (true,())))))) (
 br (0==((a0.size:Nat):Int)) (
 some (false,())) (
 bd (sIdx a0 0) fun r8 =>
 br (((r8.toNat:Nat):Int)==48) (
 some (false,())) (
 bd (l0 lf a0 (lf+40) 0) fun z9 =>
 br z9.1 (
 some (false,())) (
 some (true,()))))))
def E(lf:Nat):Entry:=⟨[.str],[.bool],fun x=>f lf x.1⟩
theorem ok(lf:Nat):Ok 215 (E lf):=okL tN (aoC aoN) (sl lf) fun x=>by kernel_rfl
end dK
namespace jM
def f(lf:Nat)(a0:ByteArray):Option (Int×Unit) :=
 bd (dK.f lf a0) fun r1 =>
 br (!r1.1) (
 some (3,())) (
 bd (aK.f lf a0) fun r2 =>
 br (decide (r2.1 > 4096)) (
 some (10,())) (
 some (0,())))
def E(lf:Nat):Entry:=⟨[.str],[(.int .i64)],fun x=>f lf x.1⟩
theorem ok(lf:Nat):Ok 134 (E lf):=okT (an:=(annsL [])) (lf:=lf) (tC (aK.ok lf) (tC (dK.ok lf) tN)) aoN fun x=>by kernel_rfl
end jM
namespace bZ
def anns:FuncId→FA:=annsL [(191,⟨annOf [(0,⟨kx 18 [5,6],[],[]⟩,⟨kx 18 [4,5],[],[]⟩)],none,[]⟩)]
def r0{ρ:Type}(lf:Nat)(v0 v1:ByteArray)(K:ByteArray→ByteArray→Option ρ)(E0:ByteArray→Option ρ):Option ρ :=
 br (!(v1.toList==(⟨#[48]⟩:ByteArray).toList)) (
 bd (bP.f lf v0 v1) fun r3 =>
 K v1 r3.1) (
 E0 v0)
def l0(lf:Nat):Nat→ByteArray→ByteArray→Option ((ByteArray×Unit)×Unit)
 | 0,_,_=>none
 | n+1,v0,v1=>r0 lf v0 v1 (l0 lf n) (fun w0=>some ((w0,()),()))
def sh0:ShS:=⟨[.a 5,.s .str,.s .str,.a 11],[]⟩
def S0(p:ByteArray×ByteArray×Unit):St:=sh0.b p
def xh0:ShS:=⟨[.a 5,.s .str,.a 12],[]⟩
def o0(y:(ByteArray×Unit)×Unit):Alt:=.one (.exit 0) (xh0.b (y.1.1,()))
def tb(lf:Nat):List (FuncId×Entry):=[(256,bP.E lf),(270,aZ.E lf)]
def abT(lf:Nat):List (Nat×(St→Option LTE)):=[(0,sumE sh0 fun(p:ByteArray×ByteArray×Unit)=>⟨(ByteArray×Unit)×Unit,l0 lf (lf+40) p.1 p.2.1,o0⟩)]
def ls(lf:Nat):List (Nat×FuncId×Sums):=[(13,191,sumsL (abT lf))]
def it0{ρ:Type}(lf n:Nat)(st:St)(k:KE ρ):Option ρ:=itG anns (ls lf) (tb lf) lf 13 191 0 0 (sumsL (abT lf)) n st k
theorem t0{ρ:Type}(lf n:Nat)(v0 v1:ByteArray)(k:KE ρ):it0 lf (n+1) (S0 (v0,v1,())) k=r0 lf v0 v1 (fun x0 x1=>it0 lf n (S0 (x0,x1,())) k) (fun w0=>k (.exit 0) (xh0.b (w0,()))):=by kernel_rfl
theorem u0{ρ:Type}(lf:Nat)(k:KE ρ):∀ (n:Nat) (v0 v1:ByteArray),it0 lf n (S0 (v0,v1,())) k=bd (l0 lf n v0 v1) fun y=>altK k (o0 y)
 | 0,_,_=>by rw[l0,bd_none];rfl
 | n+1,v0,v1=>by
  rw[t0];simp only[l0,r0,u0 lf k n,bd_br,bd_bd,bd_some',bd_none,br_t,br_f,o0,altK]
theorem sl(lf:Nat):SL anns (ls lf) (tb lf) lf (ls lf):=slC (laC (fun _=>by kernel_rfl) (fun _ (x:ByteArray×ByteArray×Unit) k=>bH (u0 lf k (lf+40) x.1 x.2.1)) laN) slN
def f(lf:Nat)(a0:ByteArray)(a1:ByteArray):Option (ByteArray×Unit) :=
 bd (aZ.f lf a0) fun r1 =>
 bd (aZ.f lf a1) fun r2 =>
 bd (l0 lf (lf+40) r1.1 r2.1) fun z4 =>
 some (z4.1.1,())
def E(lf:Nat):Entry:=⟨[.str,.str],[.str],fun x=>f lf x.1 x.2.1⟩
theorem ok(lf:Nat):Ok 191 (E lf):=okL (tC (bP.ok lf) (tC (aZ.ok lf) tN)) (aoC aoN) (sl lf) fun x=>by kernel_rfl
end bZ
namespace bg
def anns:FuncId→FA:=annsL [(203,⟨annOf [(0,⟨kx 53 [0,1,6,7,8,9],[],[]⟩,⟨kx 53 [0,1,4,5,6,8],[],[]⟩)],none,[]⟩)]
def r0{ρ:Type}(lf:Nat)(v0 v1:ByteArray)(v2 v3 v4 v5:ByteArray)(K:ByteArray→ByteArray→ByteArray→ByteArray→Option ρ)(E0:ByteArray→ByteArray→Option ρ):Option ρ :=
 br (!(v3.toList==(⟨#[48]⟩:ByteArray).toList)) (
 bd (dn.f lf v2 v3) fun r6 =>
 bd (bC.f lf r6.1 v3) fun r7 =>
 bd (aP.f lf v2 r7.1) fun r8 =>
 bd (bC.f lf r6.1 v5) fun r9 =>
 bd (aP.f lf v4 r9.1) fun r10 =>
 K v3 r8.1 v5 r10.1) (
 E0 v2 v4)
def l0(lf:Nat)(v0 v1:ByteArray):Nat→ByteArray→ByteArray→ByteArray→ByteArray→Option ((ByteArray×ByteArray×Unit)×Unit)
 | 0,_,_,_,_=>none
 | n+1,v2,v3,v4,v5=>r0 lf v0 v1 v2 v3 v4 v5 (l0 lf v0 v1 n) (fun w0 w1=>some ((w0,w1,()),()))
def sh0:ShS:=⟨[.s .str,.s .str,.a 4,.s .str,.s .str,.s .str,.s .str,.a 43],[]⟩
def S0(p:ByteArray×ByteArray×ByteArray×ByteArray×ByteArray×ByteArray×Unit):St:=sh0.b p
def xh0:ShS:=⟨[.s .str,.s .str,.a 4,.s .str,.a 1,.s .str,.a 44],[]⟩
def o0(v0 v1:ByteArray)(y:(ByteArray×ByteArray×Unit)×Unit):Alt:=.one (.exit 0) (xh0.b (v0,v1,y.1.1,y.1.2.1,()))
def tb(lf:Nat):List (FuncId×Entry):=[(192,aP.E lf),(204,bC.E lf),(205,dn.E lf),(217,dL.E lf),(256,bP.E lf),(270,aZ.E lf),(277,aV.E lf)]
def abU(lf:Nat):List (Nat×(St→Option LTE)):=[(0,sumE sh0 fun(p:ByteArray×ByteArray×ByteArray×ByteArray×ByteArray×ByteArray×Unit)=>⟨(ByteArray×ByteArray×Unit)×Unit,l0 lf p.1 p.2.1 (lf+40) p.2.2.1 p.2.2.2.1 p.2.2.2.2.1 p.2.2.2.2.2.1,o0 p.1 p.2.1⟩)]
def ls(lf:Nat):List (Nat×FuncId×Sums):=[(13,203,sumsL (abU lf))]
def it0{ρ:Type}(lf n:Nat)(st:St)(k:KE ρ):Option ρ:=itG anns (ls lf) (tb lf) lf 13 203 0 0 (sumsL (abU lf)) n st k
theorem t0{ρ:Type}(lf n:Nat)(v0 v1 v2 v3 v4 v5:ByteArray)(k:KE ρ):it0 lf (n+1) (S0 (v0,v1,v2,v3,v4,v5,())) k=r0 lf v0 v1 v2 v3 v4 v5 (fun x0 x1 x2 x3=>it0 lf n (S0 (v0,v1,x0,x1,x2,x3,())) k) (fun w0 w1=>k (.exit 0) (xh0.b (v0,v1,w0,w1,()))):=by kernel_rfl
theorem u0{ρ:Type}(lf:Nat)(v0 v1:ByteArray)(k:KE ρ):∀ (n:Nat) (v2 v3 v4 v5:ByteArray),it0 lf n (S0 (v0,v1,v2,v3,v4,v5,())) k=bd (l0 lf v0 v1 n v2 v3 v4 v5) fun y=>altK k (o0 v0 v1 y)
 | 0,_,_,_,_=>by rw[l0,bd_none];rfl
 | n+1,v2,v3,v4,v5=>by
  rw[t0];simp only[l0,r0,u0 lf v0 v1 k n,bd_br,bd_bd,bd_some',bd_none,br_t,br_f,o0,altK]
theorem sl(lf:Nat):SL anns (ls lf) (tb lf) lf (ls lf):=slC (laC (fun _=>by kernel_rfl) (fun _ (x:ByteArray×ByteArray×ByteArray×ByteArray×ByteArray×ByteArray×Unit) k=>bH (u0 lf x.1 x.2.1 k (lf+40) x.2.2.1 x.2.2.2.1 x.2.2.2.2.1 x.2.2.2.2.2.1)) laN) slN
def f(lf:Nat)(a0:ByteArray)(a1:ByteArray):Option (ByteArray×ByteArray×Unit) :=
 br (a1.toList==(⟨#[48]⟩:ByteArray).toList) (
 bd (dL.f lf a0) fun r1 =>
 bd (aV.f lf r1.1) fun r2 =>
 some (r2.1,(⟨#[48]⟩:ByteArray),())) (
 bd (aZ.f lf a1) fun r3 =>
 bd (aZ.f lf a1) fun r4 =>
 bd (bP.f lf a0 r4.1) fun r5 =>
 bd (l0 lf a0 a1 (lf+40) r3.1 r5.1 (⟨#[48]⟩:ByteArray) (⟨#[49]⟩:ByteArray)) fun z11 =>
 bd (aZ.f lf a1) fun r12 =>
 bd (dn.f lf r12.1 z11.1.1) fun r13 =>
 bd (bP.f lf z11.1.2.1 r13.1) fun r14 =>
 bd (bC.f lf a0 r14.1) fun r15 =>
 bd (aP.f lf z11.1.1 r15.1) fun r16 =>
 bd (dn.f lf r16.1 a1) fun r17 =>
 some (r14.1,r17.1,()))
def E(lf:Nat):Entry:=⟨[.str,.str],[.str,.str],fun x=>f lf x.1 x.2.1⟩
theorem ok(lf:Nat):Ok 203 (E lf):=okL (tC (aP.ok lf) (tC (bC.ok lf) (tC (dn.ok lf) (tC (dL.ok lf) (tC (bP.ok lf) (tC (aZ.ok lf) (tC (aV.ok lf) tN))))))) (aoC aoN) (sl lf) fun x=>by kernel_rfl
end bg
end
end Go.Q
namespace Go.Q
open Go Go.RowKit
open Go.Rx (br bd sIdx sCat sCut iQuo iRem)
noncomputable section
namespace fA
def f(lf:Nat)(a0:ByteArray):Option (Int×Unit) :=
 bd (jM.f lf a0) fun r1 =>
 br (r1.1 != 0) (
 some (r1.1,())) (
 bd (aK.f lf a0) fun r2 =>
 br (decide (r2.1 > 100)) (
 some (10,())) (
 some (0,())))
def E(lf:Nat):Entry:=⟨[.str],[(.int .i64)],fun x=>f lf x.1⟩
theorem ok(lf:Nat):Ok 87 (E lf):=okT (an:=(annsL [])) (lf:=lf) (tC (jM.ok lf) (tC (aK.ok lf) tN)) aoN fun x=>by kernel_rfl
end fA
end
end Go.Q
namespace Go.Q
open Go.IntKind (i64)
open Go Go.RowKit
open Go.Rx (br bd sIdx sCat sCut iQuo iRem)
noncomputable section
namespace bI
def anns:FuncId→FA:=annsL [(78,⟨annOf [(0,⟨kx 34 [0,9,10,11],[],[]⟩,⟨kx 34 [2],[],[]⟩)],none,[]⟩)]
def r0{ρ:Type}(lf:Nat)(v0 v1:List ByteArray)(v2:Int)(v3:Int)(K:Int→Option ρ)(E0:Int→Option ρ)(E1:Option ρ):Option ρ :=
 br (decide (v3 < v2)) (
 bd (idxL v1 v3) fun y1 =>
 bd (dW.f lf y1) fun r2 =>
 br (r2.1 != 0) (
 E0 r2.1) (
 br (decide (v3 > 0)) (
 bd (idxL v0 (i64.wrap (v3-1))) fun y3 =>
 bd (bV.f lf y3 y1) fun r4 =>
 br (decide (r4.1≥0)) (
 E0 14) (
 K (i64.wrap (v3+1)))) (
 K (i64.wrap (v3+1))))) (
 E1)
def l0(lf:Nat)(v0 v1:List ByteArray)(v2:Int):Nat→Int→Option (Bool×(Int×Unit)×(Unit)×Unit)
 | 0,_=>none
 | n+1,v3=>r0 lf v0 v1 v2 v3 (l0 lf v0 v1 v2 n) (fun w0=>some (true,(w0,()),((()),()))) (some (false,(0,()),((()),())))
def sh0:ShS:=⟨[.s (.sl .str),.a 8,.s (.sl .str),.s (.int .i64),.s (.int .i64),.a 22],[]⟩
def S0(p:(List ByteArray)×(List ByteArray)×Int×Int×Unit):St:=sh0.b p
def xh0:ShS:=⟨[.a 2,.s (.int .i64),.a 31],[]⟩
def xh1:ShS:=⟨[.a 34],[]⟩
def o0(v0 v1:List ByteArray)(v2:Int)(y:Bool×(Int×Unit)×(Unit)×Unit):Alt:=.two y.1 (.one .ret (xh0.b (y.2.1.1,()))) (.one (.exit 0) (xh1.b (())))
def tb(lf:Nat):List (FuncId×Entry):=[(125,dW.E lf),(126,bV.E lf)]
def aei(lf:Nat):List (Nat×(St→Option LTE)):=[(0,sumE sh0 fun(p:(List ByteArray)×(List ByteArray)×Int×Int×Unit)=>⟨Bool×(Int×Unit)×(Unit)×Unit,l0 lf p.1 p.2.1 p.2.2.1 (lf+40) p.2.2.2.1,o0 p.1 p.2.1 p.2.2.1⟩)]
def ls(lf:Nat):List (Nat×FuncId×Sums):=[(13,78,sumsL (aei lf))]
def it0{ρ:Type}(lf n:Nat)(st:St)(k:KE ρ):Option ρ:=itG anns (ls lf) (tb lf) lf 13 78 0 0 (sumsL (aei lf)) n st k
theorem t0{ρ:Type}(lf n:Nat)(v0 v1:List ByteArray)(v2 v3:Int)(k:KE ρ):it0 lf (n+1) (S0 (v0,v1,v2,v3,())) k=r0 lf v0 v1 v2 v3 (fun x0=>it0 lf n (S0 (v0,v1,v2,x0,())) k) (fun w0=>k .ret (xh0.b (w0,()))) (k (.exit 0) (xh1.b (()))):=by kernel_rfl
theorem u0{ρ:Type}(lf:Nat)(v0 v1:List ByteArray)(v2:Int)(k:KE ρ):∀ (n:Nat) (v3:Int),it0 lf n (S0 (v0,v1,v2,v3,())) k=bd (l0 lf v0 v1 v2 n v3) fun y=>altK k (o0 v0 v1 v2 y)
 | 0,_=>by rw[l0,bd_none];rfl
 | n+1,v3=>by
  rw[t0];simp only[l0,r0,u0 lf v0 v1 v2 k n,bd_br,bd_bd,bd_some',bd_none,br_t,br_f,o0,altK]
theorem sl(lf:Nat):SL anns (ls lf) (tb lf) lf (ls lf):=slC (laC (fun _=>by kernel_rfl) (fun _ (x:(List ByteArray)×(List ByteArray)×Int×Int×Unit) k=>bH (u0 lf x.1 x.2.1 x.2.2.1 k (lf+40) x.2.2.2.1)) laN) slN
def f(lf:Nat)(a0:List ByteArray):Option (Int×Unit) :=
 br (decide (((a0.length:Nat):Int) > 1024)) (
 some (5,())) (
 bd (l0 lf a0 a0 ((a0.length:Nat):Int) (lf+40) 0) fun z5 =>
 br z5.1 (
 some (z5.2.1.1,())) (
 some (0,())))
def E(lf:Nat):Entry:=⟨[(.sl .str)],[(.int .i64)],fun x=>f lf x.1⟩
theorem ok(lf:Nat):Ok 78 (E lf):=okL (tC (dW.ok lf) (tC (bV.ok lf) tN)) (aoC aoN) (sl lf) fun x=>by kernel_rfl
end bI
end
end Go.Q
namespace Go.Q
open Go.IntKind (i64)
open Go Go.RowKit
open Go.Rx (br bd sIdx sCat sCut iQuo iRem)
noncomputable section
namespace aU
def anns:FuncId→FA:=annsL [(39,⟨annOf [(0,⟨kx 103 [2,6,10,12,13,57,58,59],[],[0,1,3,5]⟩,⟨kx 103 [2,6,7,10,12,13],[],[0,1,3,5]⟩),(1,⟨kx 103 [2,6,12,16,17],[],[4]⟩,⟨kx 103 [6,7,12,16],[],[4]⟩)],none,[]⟩)]
def r0{ρ:Type}(lf:Nat)(v0 v1:List ByteArray)(v2:Int)(v4:Bool)(v5 v6:ByteArray)(v7:Int)(v8:ByteArray)(v9:Int)(v10:ByteArray)(v11:Int)(v12:ByteArray)(v13:Int)(v14:ByteArray)(v3 v15:Int)(v16:ByteArray)(K:Int→Int→ByteArray→Option ρ)(E0:Int→ByteArray→Option ρ):Option ρ :=
 br (decide (v3 < v2)) (
 bd (idxL v1 v3) fun y14 =>
 bd (aT.f lf y14) fun r15 =>
 bd (aC.f lf r15.1 (v11,v12,())) fun r16 =>
 br (decide (r16.1≤0)) (
 bd (aT.f lf y14) fun r17 =>
 K (i64.wrap (v3+1)) r17.1.1 r17.1.2.1) (
 K (i64.wrap (v3+1)) v15 v16)) (
 E0 v15 v16)
def l0(lf:Nat)(v0 v1:List ByteArray)(v2:Int)(v4:Bool)(v5 v6:ByteArray)(v7:Int)(v8:ByteArray)(v9:Int)(v10:ByteArray)(v11:Int)(v12:ByteArray)(v13:Int)(v14:ByteArray):Nat→Int→Int→ByteArray→Option ((Int×ByteArray×Unit)×Unit)
 | 0,_,_,_=>none
 | n+1,v3,v15,v16=>r0 lf v0 v1 v2 v4 v5 v6 v7 v8 v9 v10 v11 v12 v13 v14 v3 v15 v16 (l0 lf v0 v1 v2 v4 v5 v6 v7 v8 v9 v10 v11 v12 v13 v14 n) (fun w0 w1=>some ((w0,w1,()),()))
def sh0:ShS:=⟨[.a 2,.s (.sl .str),.a 3,.s (.ptr 2 0),.a 3,.s (.ptr 4 0),.a 1,.s (.ptr 6 0),.s (.ptr 7 0),.a 43,.s (.sl .str),.s (.int .i64),.s (.int .i64),.a 43],[.gone,.gone,.cells [.s .bool,.s .str,.s .str] 46,.gone,.cells [.s (.int .i64),.s .str,.s (.int .i64),.s .str] 117,.gone,.cells [.s (.int .i64),.s .str,.s (.int .i64),.s .str] 117,.cells [.s (.int .i64),.s .str] 115]⟩
def S0(p:(List ByteArray)×(List ByteArray)×Int×Int×Bool×ByteArray×ByteArray×Int×ByteArray×Int×ByteArray×Int×ByteArray×Int×ByteArray×Int×ByteArray×Unit):St:=sh0.b p
def xh0:ShS:=⟨[.a 2,.s (.sl .str),.a 3,.s (.ptr 2 0),.a 3,.s (.ptr 4 0),.a 1,.s (.ptr 6 0),.s (.ptr 7 0),.a 89],[.gone,.gone,.cells [.s .bool,.s .str,.s .str] 46,.gone,.cells [.s (.int .i64),.s .str,.s (.int .i64),.s .str] 117,.gone,.cells [.s (.int .i64),.s .str,.s (.int .i64),.s .str] 117,.cells [.s (.int .i64),.s .str] 115]⟩
def o0(v0 v1:List ByteArray)(v2:Int)(v4:Bool)(v5 v6:ByteArray)(v7:Int)(v8:ByteArray)(v9:Int)(v10:ByteArray)(v11:Int)(v12:ByteArray)(v13:Int)(v14:ByteArray)(y:(Int×ByteArray×Unit)×Unit):Alt:=.one (.exit 0) (xh0.b (v0,v4,v5,v6,v7,v8,v9,v10,v11,v12,v13,v14,y.1.1,y.1.2.1,()))
def r1{ρ:Type}(lf:Nat)(v0:List ByteArray)(v2:Bool)(v3 v4:ByteArray)(v5:Int)(v6:ByteArray)(v7:Int)(v8:ByteArray)(v9:Int)(v10:ByteArray)(v1 v11:Int)(v12:ByteArray)(K:Int→Int→ByteArray→Option ρ)(E0:Int→ByteArray→Option ρ):Option ρ :=
 br (decide (v1≥0)) (
 bd (idxL v0 v1) fun y21 =>
 bd (aT.f lf y21) fun r22 =>
 bd (aC.f lf r22.1 (v7,v8,())) fun r23 =>
 br (decide (r23.1≥0)) (
 K (i64.wrap (v1-1)) r22.1.1 r22.1.2.1) (
 K (i64.wrap (v1-1)) v11 v12)) (
 E0 v11 v12)
def l1(lf:Nat)(v0:List ByteArray)(v2:Bool)(v3 v4:ByteArray)(v5:Int)(v6:ByteArray)(v7:Int)(v8:ByteArray)(v9:Int)(v10:ByteArray):Nat→Int→Int→ByteArray→Option ((Int×ByteArray×Unit)×Unit)
 | 0,_,_,_=>none
 | n+1,v1,v11,v12=>r1 lf v0 v2 v3 v4 v5 v6 v7 v8 v9 v10 v1 v11 v12 (l1 lf v0 v2 v3 v4 v5 v6 v7 v8 v9 v10 n) (fun w0 w1=>some ((w0,w1,()),()))
def sh1:ShS:=⟨[.a 2,.s (.sl .str),.a 3,.s (.ptr 2 0),.a 5,.s (.ptr 6 0),.a 3,.s (.ptr 8 0),.s (.int .i64),.a 85],[.gone,.gone,.cells [.s .bool,.s .str,.s .str] 46,.gone,.gone,.gone,.cells [.s (.int .i64),.s .str,.s (.int .i64),.s .str] 117,.cells [.s (.int .i64),.s .str] 115,.cells [.s (.int .i64),.s .str] 115]⟩
def S1(p:(List ByteArray)×Int×Bool×ByteArray×ByteArray×Int×ByteArray×Int×ByteArray×Int×ByteArray×Int×ByteArray×Unit):St:=sh1.b p
def xh1:ShS:=⟨[.a 6,.s (.ptr 2 0),.a 5,.s (.ptr 6 0),.a 3,.s (.ptr 8 0),.a 86],[.gone,.gone,.cells [.s .bool,.s .str,.s .str] 46,.gone,.gone,.gone,.cells [.s (.int .i64),.s .str,.s (.int .i64),.s .str] 117,.cells [.s (.int .i64),.s .str] 115,.cells [.s (.int .i64),.s .str] 115]⟩
def o1(v0:List ByteArray)(v2:Bool)(v3 v4:ByteArray)(v5:Int)(v6:ByteArray)(v7:Int)(v8:ByteArray)(v9:Int)(v10:ByteArray)(y:(Int×ByteArray×Unit)×Unit):Alt:=.one (.exit 2) (xh1.b (v2,v3,v4,v5,v6,v7,v8,v9,v10,y.1.1,y.1.2.1,()))
def r2{ρ:Type}(lf:Nat)(v0:List ByteArray)(v2:Bool)(v3 v4:ByteArray)(v5:Bool)(v6 v7:ByteArray)(v8:Bool)(v9 v10:ByteArray)(v11:List TI)(v12:Int)(v13:ByteArray)(v14:Int)(v15:ByteArray)(v16:Int)(v17:ByteArray)(v18:Int)(v19:ByteArray)(v1 v20:Int)(v21:ByteArray)(K:Int→Int→ByteArray→Option ρ)(E0:Int→ByteArray→Option ρ):Option ρ :=
 br (decide (v1≥0)) (
 bd (idxL v0 v1) fun y29 =>
 bd (aT.f lf y29) fun r30 =>
 bd (aC.f lf r30.1 (v18,v19,())) fun r31 =>
 br (decide (r31.1≥0)) (
 K (i64.wrap (v1-1)) r30.1.1 r30.1.2.1) (
 K (i64.wrap (v1-1)) v20 v21)) (
 E0 v20 v21)
def l2(lf:Nat)(v0:List ByteArray)(v2:Bool)(v3 v4:ByteArray)(v5:Bool)(v6 v7:ByteArray)(v8:Bool)(v9 v10:ByteArray)(v11:List TI)(v12:Int)(v13:ByteArray)(v14:Int)(v15:ByteArray)(v16:Int)(v17:ByteArray)(v18:Int)(v19:ByteArray):Nat→Int→Int→ByteArray→Option ((Int×ByteArray×Unit)×Unit)
 | 0,_,_,_=>none
 | n+1,v1,v20,v21=>r2 lf v0 v2 v3 v4 v5 v6 v7 v8 v9 v10 v11 v12 v13 v14 v15 v16 v17 v18 v19 v1 v20 v21 (l2 lf v0 v2 v3 v4 v5 v6 v7 v8 v9 v10 v11 v12 v13 v14 v15 v16 v17 v18 v19 n) (fun w0 w1=>some ((w0,w1,()),()))
def sh2:ShS:=⟨[.a 2,.s (.sl .str),.a 3,.s (.ptr 2 0),.a 5,.s (.ptr 6 0),.a 3,.s (.ptr 7 0),.s (.int .i64),.a 85],[.cells [.s .bool,.s .str,.s .str] 46,.cells [.s .bool,.s .str,.s .str] 46,.cells [.s .bool,.s .str,.s .str] 46,.row yI 46 false,.gone,.cells [.s (.int .i64),.s .str,.s (.int .i64),.s .str] 117,.cells [.s (.int .i64),.s .str,.s (.int .i64),.s .str] 117,.cells [.s (.int .i64),.s .str] 115]⟩
def S2(p:(List ByteArray)×Int×Bool×ByteArray×ByteArray×Bool×ByteArray×ByteArray×Bool×ByteArray×ByteArray×(List TI)×Int×ByteArray×Int×ByteArray×Int×ByteArray×Int×ByteArray×Int×ByteArray×Unit):St:=sh2.b p
def xh2:ShS:=⟨[.a 6,.s (.ptr 2 0),.a 5,.s (.ptr 6 0),.a 3,.s (.ptr 7 0),.a 86],[.cells [.s .bool,.s .str,.s .str] 46,.cells [.s .bool,.s .str,.s .str] 46,.cells [.s .bool,.s .str,.s .str] 46,.row yI 46 false,.gone,.cells [.s (.int .i64),.s .str,.s (.int .i64),.s .str] 117,.cells [.s (.int .i64),.s .str,.s (.int .i64),.s .str] 117,.cells [.s (.int .i64),.s .str] 115]⟩
def o2(v0:List ByteArray)(v2:Bool)(v3 v4:ByteArray)(v5:Bool)(v6 v7:ByteArray)(v8:Bool)(v9 v10:ByteArray)(v11:List TI)(v12:Int)(v13:ByteArray)(v14:Int)(v15:ByteArray)(v16:Int)(v17:ByteArray)(v18:Int)(v19:ByteArray)(y:(Int×ByteArray×Unit)×Unit):Alt:=.one (.exit 2) (xh2.b (v2,v3,v4,v5,v6,v7,v8,v9,v10,v11,v12,v13,v14,v15,v16,v17,v18,v19,y.1.1,y.1.2.1,()))
def tb(lf:Nat):List (FuncId×Entry):=[(78,bI.E lf),(79,aF.E lf),(80,aA.E lf),(81,aY.E lf),(82,ah.E lf),(83,aC.E lf),(84,aH.E lf),(85,aT.E lf),(124,aJ.E lf)]
def zQ(lf:Nat):List (Nat×(St→Option LTE)):=[(0,sumE sh0 fun(p:(List ByteArray)×(List ByteArray)×Int×Int×Bool×ByteArray×ByteArray×Int×ByteArray×Int×ByteArray×Int×ByteArray×Int×ByteArray×Int×ByteArray×Unit)=>⟨(Int×ByteArray×Unit)×Unit,l0 lf p.1 p.2.1 p.2.2.1 p.2.2.2.2.1 p.2.2.2.2.2.1 p.2.2.2.2.2.2.1 p.2.2.2.2.2.2.2.1 p.2.2.2.2.2.2.2.2.1 p.2.2.2.2.2.2.2.2.2.1 p.2.2.2.2.2.2.2.2.2.2.1 p.2.2.2.2.2.2.2.2.2.2.2.1 p.2.2.2.2.2.2.2.2.2.2.2.2.1 p.2.2.2.2.2.2.2.2.2.2.2.2.2.1 p.2.2.2.2.2.2.2.2.2.2.2.2.2.2.1 (lf+40) p.2.2.2.1 p.2.2.2.2.2.2.2.2.2.2.2.2.2.2.2.1 p.2.2.2.2.2.2.2.2.2.2.2.2.2.2.2.2.1,o0 p.1 p.2.1 p.2.2.1 p.2.2.2.2.1 p.2.2.2.2.2.1 p.2.2.2.2.2.2.1 p.2.2.2.2.2.2.2.1 p.2.2.2.2.2.2.2.2.1 p.2.2.2.2.2.2.2.2.2.1 p.2.2.2.2.2.2.2.2.2.2.1 p.2.2.2.2.2.2.2.2.2.2.2.1 p.2.2.2.2.2.2.2.2.2.2.2.2.1 p.2.2.2.2.2.2.2.2.2.2.2.2.2.1 p.2.2.2.2.2.2.2.2.2.2.2.2.2.2.1⟩),
 (1,sumE sh1 fun(p:(List ByteArray)×Int×Bool×ByteArray×ByteArray×Int×ByteArray×Int×ByteArray×Int×ByteArray×Int×ByteArray×Unit)=>⟨(Int×ByteArray×Unit)×Unit,l1 lf p.1 p.2.2.1 p.2.2.2.1 p.2.2.2.2.1 p.2.2.2.2.2.1 p.2.2.2.2.2.2.1 p.2.2.2.2.2.2.2.1 p.2.2.2.2.2.2.2.2.1 p.2.2.2.2.2.2.2.2.2.1 p.2.2.2.2.2.2.2.2.2.2.1 (lf+40) p.2.1 p.2.2.2.2.2.2.2.2.2.2.2.1 p.2.2.2.2.2.2.2.2.2.2.2.2.1,o1 p.1 p.2.2.1 p.2.2.2.1 p.2.2.2.2.1 p.2.2.2.2.2.1 p.2.2.2.2.2.2.1 p.2.2.2.2.2.2.2.1 p.2.2.2.2.2.2.2.2.1 p.2.2.2.2.2.2.2.2.2.1 p.2.2.2.2.2.2.2.2.2.2.1⟩),
 (1,sumE sh2 fun(p:(List ByteArray)×Int×Bool×ByteArray×ByteArray×Bool×ByteArray×ByteArray×Bool×ByteArray×ByteArray×(List TI)×Int×ByteArray×Int×ByteArray×Int×ByteArray×Int×ByteArray×Int×ByteArray×Unit)=>⟨(Int×ByteArray×Unit)×Unit,l2 lf p.1 p.2.2.1 p.2.2.2.1 p.2.2.2.2.1 p.2.2.2.2.2.1 p.2.2.2.2.2.2.1 p.2.2.2.2.2.2.2.1 p.2.2.2.2.2.2.2.2.1 p.2.2.2.2.2.2.2.2.2.1 p.2.2.2.2.2.2.2.2.2.2.1 p.2.2.2.2.2.2.2.2.2.2.2.1 p.2.2.2.2.2.2.2.2.2.2.2.2.1 p.2.2.2.2.2.2.2.2.2.2.2.2.2.1 p.2.2.2.2.2.2.2.2.2.2.2.2.2.2.1 p.2.2.2.2.2.2.2.2.2.2.2.2.2.2.2.1 p.2.2.2.2.2.2.2.2.2.2.2.2.2.2.2.2.1 p.2.2.2.2.2.2.2.2.2.2.2.2.2.2.2.2.2.1 p.2.2.2.2.2.2.2.2.2.2.2.2.2.2.2.2.2.2.1 p.2.2.2.2.2.2.2.2.2.2.2.2.2.2.2.2.2.2.2.1 (lf+40) p.2.1 p.2.2.2.2.2.2.2.2.2.2.2.2.2.2.2.2.2.2.2.2.1 p.2.2.2.2.2.2.2.2.2.2.2.2.2.2.2.2.2.2.2.2.2.1,o2 p.1 p.2.2.1 p.2.2.2.1 p.2.2.2.2.1 p.2.2.2.2.2.1 p.2.2.2.2.2.2.1 p.2.2.2.2.2.2.2.1 p.2.2.2.2.2.2.2.2.1 p.2.2.2.2.2.2.2.2.2.1 p.2.2.2.2.2.2.2.2.2.2.1 p.2.2.2.2.2.2.2.2.2.2.2.1 p.2.2.2.2.2.2.2.2.2.2.2.2.1 p.2.2.2.2.2.2.2.2.2.2.2.2.2.1 p.2.2.2.2.2.2.2.2.2.2.2.2.2.2.1 p.2.2.2.2.2.2.2.2.2.2.2.2.2.2.2.1 p.2.2.2.2.2.2.2.2.2.2.2.2.2.2.2.2.1 p.2.2.2.2.2.2.2.2.2.2.2.2.2.2.2.2.2.1 p.2.2.2.2.2.2.2.2.2.2.2.2.2.2.2.2.2.2.1 p.2.2.2.2.2.2.2.2.2.2.2.2.2.2.2.2.2.2.2.1⟩)]
def ls(lf:Nat):List (Nat×FuncId×Sums):=[(13,39,sumsL (zQ lf))]
def it0{ρ:Type}(lf n:Nat)(st:St)(k:KE ρ):Option ρ:=itG anns (ls lf) (tb lf) lf 13 39 0 8 (sumsL (zQ lf)) n st k
theorem t0{ρ:Type}(lf n:Nat)(v0 v1:List ByteArray)(v2 v3:Int)(v4:Bool)(v5 v6:ByteArray)(v7:Int)(v8:ByteArray)(v9:Int)(v10:ByteArray)(v11:Int)(v12:ByteArray)(v13:Int)(v14:ByteArray)(v15:Int)(v16:ByteArray)(k:KE ρ):it0 lf (n+1) (S0 (v0,v1,v2,v3,v4,v5,v6,v7,v8,v9,v10,v11,v12,v13,v14,v15,v16,())) k=r0 lf v0 v1 v2 v4 v5 v6 v7 v8 v9 v10 v11 v12 v13 v14 v3 v15 v16 (fun x0 x1 x2=>it0 lf n (S0 (v0,v1,v2,x0,v4,v5,v6,v7,v8,v9,v10,v11,v12,v13,v14,x1,x2,())) k) (fun w0 w1=>k (.exit 0) (xh0.b (v0,v4,v5,v6,v7,v8,v9,v10,v11,v12,v13,v14,w0,w1,()))):=by kernel_rfl
theorem u0{ρ:Type}(lf:Nat)(v0 v1:List ByteArray)(v2:Int)(v4:Bool)(v5 v6:ByteArray)(v7:Int)(v8:ByteArray)(v9:Int)(v10:ByteArray)(v11:Int)(v12:ByteArray)(v13:Int)(v14:ByteArray)(k:KE ρ):∀ (n:Nat) (v3 v15:Int) (v16:ByteArray),it0 lf n (S0 (v0,v1,v2,v3,v4,v5,v6,v7,v8,v9,v10,v11,v12,v13,v14,v15,v16,())) k=bd (l0 lf v0 v1 v2 v4 v5 v6 v7 v8 v9 v10 v11 v12 v13 v14 n v3 v15 v16) fun y=>altK k (o0 v0 v1 v2 v4 v5 v6 v7 v8 v9 v10 v11 v12 v13 v14 y)
 | 0,_,_,_=>by rw[l0,bd_none];rfl
 | n+1,v3,v15,v16=>by
  rw[t0];simp only[l0,r0,u0 lf v0 v1 v2 v4 v5 v6 v7 v8 v9 v10 v11 v12 v13 v14 k n,bd_br,bd_bd,bd_some',bd_none,br_t,br_f,o0,altK]
def it1{ρ:Type}(lf n:Nat)(st:St)(k:KE ρ):Option ρ:=itG anns (ls lf) (tb lf) lf 13 39 1 9 (sumsL (zQ lf)) n st k
theorem t1{ρ:Type}(lf n:Nat)(v0:List ByteArray)(v1:Int)(v2:Bool)(v3 v4:ByteArray)(v5:Int)(v6:ByteArray)(v7:Int)(v8:ByteArray)(v9:Int)(v10:ByteArray)(v11:Int)(v12:ByteArray)(k:KE ρ):it1 lf (n+1) (S1 (v0,v1,v2,v3,v4,v5,v6,v7,v8,v9,v10,v11,v12,())) k=r1 lf v0 v2 v3 v4 v5 v6 v7 v8 v9 v10 v1 v11 v12 (fun x0 x1 x2=>it1 lf n (S1 (v0,x0,v2,v3,v4,v5,v6,v7,v8,v9,v10,x1,x2,())) k) (fun w0 w1=>k (.exit 2) (xh1.b (v2,v3,v4,v5,v6,v7,v8,v9,v10,w0,w1,()))):=by kernel_rfl
theorem u1{ρ:Type}(lf:Nat)(v0:List ByteArray)(v2:Bool)(v3 v4:ByteArray)(v5:Int)(v6:ByteArray)(v7:Int)(v8:ByteArray)(v9:Int)(v10:ByteArray)(k:KE ρ):∀ (n:Nat) (v1 v11:Int) (v12:ByteArray),it1 lf n (S1 (v0,v1,v2,v3,v4,v5,v6,v7,v8,v9,v10,v11,v12,())) k=bd (l1 lf v0 v2 v3 v4 v5 v6 v7 v8 v9 v10 n v1 v11 v12) fun y=>altK k (o1 v0 v2 v3 v4 v5 v6 v7 v8 v9 v10 y)
 | 0,_,_,_=>by rw[l1,bd_none];rfl
 | n+1,v1,v11,v12=>by
  rw[t1];simp only[l1,r1,u1 lf v0 v2 v3 v4 v5 v6 v7 v8 v9 v10 k n,bd_br,bd_bd,bd_some',bd_none,br_t,br_f,o1,altK]
def it2{ρ:Type}(lf n:Nat)(st:St)(k:KE ρ):Option ρ:=itG anns (ls lf) (tb lf) lf 13 39 1 8 (sumsL (zQ lf)) n st k
theorem t2{ρ:Type}(lf n:Nat)(v0:List ByteArray)(v1:Int)(v2:Bool)(v3 v4:ByteArray)(v5:Bool)(v6 v7:ByteArray)(v8:Bool)(v9 v10:ByteArray)(v11:List TI)(v12:Int)(v13:ByteArray)(v14:Int)(v15:ByteArray)(v16:Int)(v17:ByteArray)(v18:Int)(v19:ByteArray)(v20:Int)(v21:ByteArray)(k:KE ρ):it2 lf (n+1) (S2 (v0,v1,v2,v3,v4,v5,v6,v7,v8,v9,v10,v11,v12,v13,v14,v15,v16,v17,v18,v19,v20,v21,())) k=r2 lf v0 v2 v3 v4 v5 v6 v7 v8 v9 v10 v11 v12 v13 v14 v15 v16 v17 v18 v19 v1 v20 v21 (fun x0 x1 x2=>it2 lf n (S2 (v0,x0,v2,v3,v4,v5,v6,v7,v8,v9,v10,v11,v12,v13,v14,v15,v16,v17,v18,v19,x1,x2,())) k) (fun w0 w1=>k (.exit 2) (xh2.b (v2,v3,v4,v5,v6,v7,v8,v9,v10,v11,v12,v13,v14,v15,v16,v17,v18,v19,w0,w1,()))):=by kernel_rfl
theorem u2{ρ:Type}(lf:Nat)(v0:List ByteArray)(v2:Bool)(v3 v4:ByteArray)(v5:Bool)(v6 v7:ByteArray)(v8:Bool)(v9 v10:ByteArray)(v11:List TI)(v12:Int)(v13:ByteArray)(v14:Int)(v15:ByteArray)(v16:Int)(v17:ByteArray)(v18:Int)(v19:ByteArray)(k:KE ρ):∀ (n:Nat) (v1 v20:Int) (v21:ByteArray),it2 lf n (S2 (v0,v1,v2,v3,v4,v5,v6,v7,v8,v9,v10,v11,v12,v13,v14,v15,v16,v17,v18,v19,v20,v21,())) k=bd (l2 lf v0 v2 v3 v4 v5 v6 v7 v8 v9 v10 v11 v12 v13 v14 v15 v16 v17 v18 v19 n v1 v20 v21) fun y=>altK k (o2 v0 v2 v3 v4 v5 v6 v7 v8 v9 v10 v11 v12 v13 v14 v15 v16 v17 v18 v19 y)
 | 0,_,_,_=>by rw[l2,bd_none];rfl
 | n+1,v1,v20,v21=>by
  rw[t2];simp only[l2,r2,u2 lf v0 v2 v3 v4 v5 v6 v7 v8 v9 v10 v11 v12 v13 v14 v15 v16 v17 v18 v19 k n,bd_br,bd_bd,bd_some',bd_none,br_t,br_f,o2,altK]
theorem sl(lf:Nat):SL anns (ls lf) (tb lf) lf (ls lf):=slC (laC (fun _=>by kernel_rfl) (fun _ (x:(List ByteArray)×(List ByteArray)×Int×Int×Bool×ByteArray×ByteArray×Int×ByteArray×Int×ByteArray×Int×ByteArray×Int×ByteArray×Int×ByteArray×Unit) k=>bH (u0 lf x.1 x.2.1 x.2.2.1 x.2.2.2.2.1 x.2.2.2.2.2.1 x.2.2.2.2.2.2.1 x.2.2.2.2.2.2.2.1 x.2.2.2.2.2.2.2.2.1 x.2.2.2.2.2.2.2.2.2.1 x.2.2.2.2.2.2.2.2.2.2.1 x.2.2.2.2.2.2.2.2.2.2.2.1 x.2.2.2.2.2.2.2.2.2.2.2.2.1 x.2.2.2.2.2.2.2.2.2.2.2.2.2.1 x.2.2.2.2.2.2.2.2.2.2.2.2.2.2.1 k (lf+40) x.2.2.2.1 x.2.2.2.2.2.2.2.2.2.2.2.2.2.2.2.1 x.2.2.2.2.2.2.2.2.2.2.2.2.2.2.2.2.1)) (laC (fun _=>by kernel_rfl) (fun _ (x:(List ByteArray)×Int×Bool×ByteArray×ByteArray×Int×ByteArray×Int×ByteArray×Int×ByteArray×Int×ByteArray×Unit) k=>bH (u1 lf x.1 x.2.2.1 x.2.2.2.1 x.2.2.2.2.1 x.2.2.2.2.2.1 x.2.2.2.2.2.2.1 x.2.2.2.2.2.2.2.1 x.2.2.2.2.2.2.2.2.1 x.2.2.2.2.2.2.2.2.2.1 x.2.2.2.2.2.2.2.2.2.2.1 k (lf+40) x.2.1 x.2.2.2.2.2.2.2.2.2.2.2.1 x.2.2.2.2.2.2.2.2.2.2.2.2.1)) (laC (fun _=>by kernel_rfl) (fun _ (x:(List ByteArray)×Int×Bool×ByteArray×ByteArray×Bool×ByteArray×ByteArray×Bool×ByteArray×ByteArray×(List TI)×Int×ByteArray×Int×ByteArray×Int×ByteArray×Int×ByteArray×Int×ByteArray×Unit) k=>bH (u2 lf x.1 x.2.2.1 x.2.2.2.1 x.2.2.2.2.1 x.2.2.2.2.2.1 x.2.2.2.2.2.2.1 x.2.2.2.2.2.2.2.1 x.2.2.2.2.2.2.2.2.1 x.2.2.2.2.2.2.2.2.2.1 x.2.2.2.2.2.2.2.2.2.2.1 x.2.2.2.2.2.2.2.2.2.2.2.1 x.2.2.2.2.2.2.2.2.2.2.2.2.1 x.2.2.2.2.2.2.2.2.2.2.2.2.2.1 x.2.2.2.2.2.2.2.2.2.2.2.2.2.2.1 x.2.2.2.2.2.2.2.2.2.2.2.2.2.2.2.1 x.2.2.2.2.2.2.2.2.2.2.2.2.2.2.2.2.1 x.2.2.2.2.2.2.2.2.2.2.2.2.2.2.2.2.2.1 x.2.2.2.2.2.2.2.2.2.2.2.2.2.2.2.2.2.2.1 x.2.2.2.2.2.2.2.2.2.2.2.2.2.2.2.2.2.2.2.1 k (lf+40) x.2.1 x.2.2.2.2.2.2.2.2.2.2.2.2.2.2.2.2.2.2.2.2.1 x.2.2.2.2.2.2.2.2.2.2.2.2.2.2.2.2.2.2.2.2.2.1)) laN))) slN
def f(lf:Nat)(a0:TI)(a1:TI)(a2:List ByteArray):Option (TI×Int×Unit) :=
 bd (aJ.f lf a0) fun r1 =>
 br (r1.1 != 0) (
 br (r1.1 != 0) (
 some ((false,(⟨#[]⟩:ByteArray),(⟨#[]⟩:ByteArray),()),r1.1,())) (
 bd (bI.f lf a2) fun r2 =>
 br (r2.1 != 0) (
 some ((false,(⟨#[]⟩:ByteArray),(⟨#[]⟩:ByteArray),()),r2.1,())) (
 bd (aF.f lf a0) fun r3 =>
 bd (aF.f lf a1) fun r4 =>
 bd (aA.f lf r3.1) fun r5 =>
 br r5.1 (
 bd (aY.f lf r3.1 r4.1) fun r6 =>
 bd (ah.f lf r6.1) fun r7 =>
 some (r7.1,0,())) (
 bd (aA.f lf r4.1) fun r8 =>
 br r8.1 (
 bd (aY.f lf r3.1 r4.1) fun r9 =>
 bd (ah.f lf r9.1) fun r10 =>
 some (r10.1,0,())) (
 bd (aY.f lf r3.1 r4.1) fun r11 =>
 bd (aC.f lf r11.1.1 r3.1.1) fun r12 =>
 br (r12.1 != 0) (
 bd (aH.f lf (-1)) fun r13 =>
 bd (l0 lf a2 a2 ((a2.length:Nat):Int) false (⟨#[]⟩:ByteArray) (⟨#[]⟩:ByteArray) r3.1.1.1 r3.1.1.2.1 r3.1.2.1.1 r3.1.2.1.2.1 r11.1.1.1 r11.1.1.2.1 r11.1.2.1.1 r11.1.2.1.2.1 (lf+40) 0 r13.1.1 r13.1.2.1) fun z18 =>
 bd (aC.f lf r11.1.2.1 r3.1.2.1) fun r19 =>
 br (r19.1 != 0) (
 bd (aH.f lf 1) fun r20 =>
 bd (l1 lf a2 false (⟨#[]⟩:ByteArray) (⟨#[]⟩:ByteArray) z18.1.1 z18.1.2.1 r11.1.2.1.1 r11.1.2.1.2.1 z18.1.1 z18.1.2.1 (lf+40) (i64.wrap (((a2.length:Nat):Int)-1)) r20.1.1 r20.1.2.1) fun z24 =>
 bd (ah.f lf (z18.1,z24.1,())) fun r25 =>
 some (r25.1,0,())) (
 bd (ah.f lf (z18.1,r11.1.2.1,())) fun r26 =>
 some (r26.1,0,()))) (
 bd (aC.f lf r11.1.2.1 r3.1.2.1) fun r27 =>
 br (r27.1 != 0) (
 bd (aH.f lf 1) fun r28 =>
 bd (l2 lf a2 a0.1 a0.2.1 a0.2.2.1 a1.1 a1.2.1 a1.2.2.1 false (⟨#[]⟩:ByteArray) (⟨#[]⟩:ByteArray) [a0,a1] r4.1.1.1 r4.1.1.2.1 r4.1.2.1.1 r4.1.2.1.2.1 r11.1.1.1 r11.1.1.2.1 r11.1.2.1.1 r11.1.2.1.2.1 (lf+40) (i64.wrap (((a2.length:Nat):Int)-1)) r28.1.1 r28.1.2.1) fun z32 =>
 bd (ah.f lf (r11.1.1,z32.1,())) fun r33 =>
 some (r33.1,0,())) (
 bd (ah.f lf r11.1) fun r34 =>
 some (r34.1,0,())))))))) (
 bd (aJ.f lf a1) fun r35 =>
 br (r35.1 != 0) (
 br (r35.1 != 0) (
 some ((false,(⟨#[]⟩:ByteArray),(⟨#[]⟩:ByteArray),()),r35.1,())) (
 bd (bI.f lf a2) fun r36 =>
 br (r36.1 != 0) (
 some ((false,(⟨#[]⟩:ByteArray),(⟨#[]⟩:ByteArray),()),r36.1,())) (
 bd (aF.f lf a0) fun r37 =>
 bd (aF.f lf a1) fun r38 =>
 bd (aA.f lf r37.1) fun r39 =>
 br r39.1 (
 bd (aY.f lf r37.1 r38.1) fun r40 =>
 bd (ah.f lf r40.1) fun r41 =>
 some (r41.1,0,())) (
 bd (aA.f lf r38.1) fun r42 =>
 br r42.1 (
 bd (aY.f lf r37.1 r38.1) fun r43 =>
 bd (ah.f lf r43.1) fun r44 =>
 some (r44.1,0,())) (
 bd (aY.f lf r37.1 r38.1) fun r45 =>
 bd (aC.f lf r45.1.1 r37.1.1) fun r46 =>
 br (r46.1 != 0) (
 bd (aH.f lf (-1)) fun r47 =>
 bd (l0 lf a2 a2 ((a2.length:Nat):Int) false (⟨#[]⟩:ByteArray) (⟨#[]⟩:ByteArray) r37.1.1.1 r37.1.1.2.1 r37.1.2.1.1 r37.1.2.1.2.1 r45.1.1.1 r45.1.1.2.1 r45.1.2.1.1 r45.1.2.1.2.1 (lf+40) 0 r47.1.1 r47.1.2.1) fun z48 =>
 bd (aC.f lf r45.1.2.1 r37.1.2.1) fun r49 =>
 br (r49.1 != 0) (
 bd (aH.f lf 1) fun r50 =>
 bd (l1 lf a2 false (⟨#[]⟩:ByteArray) (⟨#[]⟩:ByteArray) z48.1.1 z48.1.2.1 r45.1.2.1.1 r45.1.2.1.2.1 z48.1.1 z48.1.2.1 (lf+40) (i64.wrap (((a2.length:Nat):Int)-1)) r50.1.1 r50.1.2.1) fun z51 =>
 bd (ah.f lf (z48.1,z51.1,())) fun r52 =>
 some (r52.1,0,())) (
 bd (ah.f lf (z48.1,r45.1.2.1,())) fun r53 =>
 some (r53.1,0,()))) (
 bd (aC.f lf r45.1.2.1 r37.1.2.1) fun r54 =>
 br (r54.1 != 0) (
 bd (aH.f lf 1) fun r55 =>
 bd (l2 lf a2 a0.1 a0.2.1 a0.2.2.1 a1.1 a1.2.1 a1.2.2.1 false (⟨#[]⟩:ByteArray) (⟨#[]⟩:ByteArray) [a0,a1] r38.1.1.1 r38.1.1.2.1 r38.1.2.1.1 r38.1.2.1.2.1 r45.1.1.1 r45.1.1.2.1 r45.1.2.1.1 r45.1.2.1.2.1 (lf+40) (i64.wrap (((a2.length:Nat):Int)-1)) r55.1.1 r55.1.2.1) fun z56 =>
 bd (ah.f lf (r45.1.1,z56.1,())) fun r57 =>
 some (r57.1,0,())) (
 bd (ah.f lf r45.1) fun r58 =>
 some (r58.1,0,())))))))) (
 bd (bI.f lf a2) fun r59 =>
 br (r59.1 != 0) (
 some ((false,(⟨#[]⟩:ByteArray),(⟨#[]⟩:ByteArray),()),r59.1,())) (
 bd (aF.f lf a0) fun r60 =>
 bd (aF.f lf a1) fun r61 =>
 bd (aA.f lf r60.1) fun r62 =>
 br r62.1 (
 bd (aY.f lf r60.1 r61.1) fun r63 =>
 bd (ah.f lf r63.1) fun r64 =>
 some (r64.1,0,())) (
 bd (aA.f lf r61.1) fun r65 =>
 br r65.1 (
 bd (aY.f lf r60.1 r61.1) fun r66 =>
 bd (ah.f lf r66.1) fun r67 =>
 some (r67.1,0,())) (
 bd (aY.f lf r60.1 r61.1) fun r68 =>
 bd (aC.f lf r68.1.1 r60.1.1) fun r69 =>
 br (r69.1 != 0) (
 bd (aH.f lf (-1)) fun r70 =>
 bd (l0 lf a2 a2 ((a2.length:Nat):Int) false (⟨#[]⟩:ByteArray) (⟨#[]⟩:ByteArray) r60.1.1.1 r60.1.1.2.1 r60.1.2.1.1 r60.1.2.1.2.1 r68.1.1.1 r68.1.1.2.1 r68.1.2.1.1 r68.1.2.1.2.1 (lf+40) 0 r70.1.1 r70.1.2.1) fun z71 =>
 bd (aC.f lf r68.1.2.1 r60.1.2.1) fun r72 =>
 br (r72.1 != 0) (
 bd (aH.f lf 1) fun r73 =>
 bd (l1 lf a2 false (⟨#[]⟩:ByteArray) (⟨#[]⟩:ByteArray) z71.1.1 z71.1.2.1 r68.1.2.1.1 r68.1.2.1.2.1 z71.1.1 z71.1.2.1 (lf+40) (i64.wrap (((a2.length:Nat):Int)-1)) r73.1.1 r73.1.2.1) fun z74 =>
 bd (ah.f lf (z71.1,z74.1,())) fun r75 =>
 some (r75.1,0,())) (
 bd (ah.f lf (z71.1,r68.1.2.1,())) fun r76 =>
 some (r76.1,0,()))) (
 bd (aC.f lf r68.1.2.1 r60.1.2.1) fun r77 =>
 br (r77.1 != 0) (
 bd (aH.f lf 1) fun r78 =>
 bd (l2 lf a2 a0.1 a0.2.1 a0.2.2.1 a1.1 a1.2.1 a1.2.2.1 false (⟨#[]⟩:ByteArray) (⟨#[]⟩:ByteArray) [a0,a1] r61.1.1.1 r61.1.1.2.1 r61.1.2.1.1 r61.1.2.1.2.1 r68.1.1.1 r68.1.1.2.1 r68.1.2.1.1 r68.1.2.1.2.1 (lf+40) (i64.wrap (((a2.length:Nat):Int)-1)) r78.1.1 r78.1.2.1) fun z79 =>
 bd (ah.f lf (r68.1.1,z79.1,())) fun r80 =>
 some (r80.1,0,())) (
 bd (ah.f lf r68.1) fun r81 =>
 some (r81.1,0,()))))))))
def E(lf:Nat):Entry:=⟨[yI,yI,(.sl .str)],[yI,(.int .i64)],fun x=>f lf x.1 x.2.1 x.2.2.1⟩
theorem ok(lf:Nat):Ok 39 (E lf):=okL (tC (bI.ok lf) (tC (aF.ok lf) (tC (aA.ok lf) (tC (aY.ok lf) (tC (ah.ok lf) (tC (aC.ok lf) (tC (aH.ok lf) (tC (aT.ok lf) (tC (aJ.ok lf) tN))))))))) (aoC aoN) (sl lf) fun x=>by kernel_rfl
end aU
end
end Go.Q
namespace Go.Q
open Go Go.RowKit
open Go.Rx (br bd sIdx sCat sCut iQuo iRem)
noncomputable section
namespace ck_c
def c0:ByteArray:=⟨#[]⟩
def c1:EX:=EX.mk 1 c0 0 []
def c2:ByteArray:=⟨#[50]⟩
def c3:EX:=EX.mk 0 c2 0 []
def c4:EX:=EX.mk 5 c0 0 [c1,c3]
def c5:ByteArray:=⟨#[49]⟩
def c6:EX:=EX.mk 0 c5 0 []
def c7:EX:=EX.mk 3 c0 0 [c4,c6]
def c8:ByteArray:=⟨#[48]⟩
def c9:ByteArray:=⟨#[57]⟩
def c10:TV:=((false,c8,c9,()),(false,c5,c8,()),())
def c11:ByteArray:=⟨#[52]⟩
def c12:TV:=((false,c2,c11,()),(false,c5,c8,()),())
def c13:List TV:=[c10,c12]
def c14:TV:=((false,c2,c2,()),(false,c8,c2,()),())
def c15:ByteArray:=⟨#[49,56]⟩
def c16:TV:=((false,c8,c15,()),(false,c2,c8,()),())
def c17:TV:=((false,c5,c5,()),(false,c8,c5,()),())
def c18:ByteArray:=⟨#[49,57]⟩
def c19:TV:=((false,c5,c18,()),(false,c2,c5,()),())
def c20:EX:=EX.mk 1 c0 1 []
def c21:EX:=EX.mk 6 c0 0 [c1,c20]
def c22:TV:=((false,c8,c11,()),(false,c5,c8,()),())
def c23:List TV:=[c22,c12]
def c24:EX:=EX.mk 3 c0 0 [c1,c20]
def c25:ByteArray:=⟨#[53]⟩
def c26:EX:=EX.mk 0 c25 0 []
def c27:ByteArray:=⟨#[49,51]⟩
def c28:TV:=((false,c2,c27,()),(false,c5,c8,()),())
def c29:TV:=((false,c25,c25,()),(false,c8,c25,()),())
def c30:ByteArray:=⟨#[45,50]⟩
def c31:TV:=((false,c30,c2,()),(false,c5,c8,()),())
def c32:TV:=((false,c8,c2,()),(false,c5,c8,()),())
def c33:ByteArray:=⟨#[45,55]⟩
def c34:TV:=((false,c33,c11,()),(false,c5,c8,()),())
def c35:List TV:=[c32,c12]
def c36:EX:=EX.mk 5 c0 0 [c3,c1]
def c37:ByteArray:=⟨#[55]⟩
def c38:EX:=EX.mk 0 c37 0 []
def c39:TV:=((false,c37,c37,()),(false,c8,c37,()),())
def c40:TV:=((true,c0,c0,()),(true,c0,c0,()),())
def c41:List TV:=[]
def c42:EX:=EX.mk 0 c8 0 []
def c43:CX:=CX.mk 3 [c1,c42] []
def c44:TV:=((false,c8,c8,()),(false,c8,c8,()),())
def c45:TV:=((false,c5,c9,()),(false,c5,c8,()),())
def c46:List TV:=[c45,c12]
def c47:CX:=CX.mk 4 [c1,c3] []
def c48:CX:=CX.mk 4 [c38,c1] []
def c49:CX:=CX.mk 8 [] [c47,c48]
def c50:TV:=((false,c8,c5,()),(false,c5,c8,()),())
def c51:List TV:=[c50,c12]
def c52:ByteArray:=⟨#[56]⟩
def c53:TV:=((false,c52,c9,()),(false,c5,c8,()),())
def c54:List TV:=[c53,c12]
def c55:ByteArray:=⟨#[51]⟩
def c56:EX:=EX.mk 0 c55 0 []
def c57:TV:=((false,c55,c55,()),(false,c8,c55,()),())
def c58:EX:=EX.mk 6 c0 0 [c1,c3]
def c59:ByteArray:=⟨#[54]⟩
def c60:TV:=((false,c59,c37,()),(false,c5,c8,()),())
def c61:List TV:=[c60,c12]
def c62:EX:=EX.mk 4 c0 0 [c1,c6]
def c64:ByteArray:=⟨#[45,49]⟩
def c65:TV:=((false,c64,c52,()),(false,c5,c8,()),())
def c66:TV:=((false,c55,c25,()),(false,c5,c8,()),())
def c67:ByteArray:=⟨#[45,52]⟩
def c68:TV:=((false,c67,c37,()),(false,c5,c8,()),())
def c69:List TV:=[c66,c12]
end ck_c
end
end Go.Q
