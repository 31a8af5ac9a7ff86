import Derived.Test.YtgbokahnpmmfoaaGreatDoorProg
import Derived.KernelRfl
import Derived.Test.YtgbokahnpmmfoaaGreatDoorSLE3
import Derived.Test.YtgbokahnpmmfoaaGreatDoorSLG4
import Derived.Test.YtgbokahnpmmfoaaGreatDoorSLG5
import Derived.Test.YtgbokahnpmmfoaaGreatDoorSLG6
set_option linter.unusedVariables false
set_option linter.unusedSimpArgs false
set_option linter.unusedSectionVars false
set_option maxRecDepth 100000
namespace Go.Q
open Go Go.RowKit
open Go.Rx (br bd sIdx sCat sCut iQuo iRem)
noncomputable section
namespace iD
def f(lf:Nat)(a0:TV)(a1:TV):Option (Bool×Unit) :=
 bd (kS.f lf a0.1 a1.1) fun r1 =>
 br r1.1 (
 bd (jH.f lf a0.2.1) fun r2 =>
 br r2.1 (
 bd (jH.f lf a1.2.1) fun r3 =>
 some (r3.1,())) (
 some (false,()))) (
 some (false,()))
def E(lf:Nat):Entry:=⟨[yV,yV],[.bool],fun x=>f lf x.1 x.2.1⟩
theorem ok(lf:Nat):Ok 11 (E lf):=okT (an:=(annsL [])) (lf:=lf) (tC (kS.ok lf) (tC (jH.ok lf) tN)) aoN fun x=>by kernel_rfl
end iD
namespace aX
def f(lf:Nat)  : Option (TV×Unit) :=
 bd (dH.f lf) fun r1 =>
 bd (bH.f lf) fun r2 =>
 some ((r1.1,r2.1,()),())
def E(lf:Nat):Entry:=⟨[],[yV],fun x=>f lf⟩
theorem ok(lf:Nat):Ok 21 (E lf):=okT (an:=(annsL [])) (lf:=lf) (tC (dH.ok lf) (tC (bH.ok lf) tN)) aoN fun x=>by kernel_rfl
end aX
namespace iE
def f(lf:Nat)  : Option (TV×Unit) :=
 bd (fH.f lf) fun r1 =>
 some (((false,(⟨#[]⟩:ByteArray),(⟨#[]⟩:ByteArray),()),r1.1,()),())
def E(lf:Nat):Entry:=⟨[],[yV],fun x=>f lf⟩
theorem ok(lf:Nat):Ok 59 (E lf):=okT (an:=(annsL [])) (lf:=lf) (tC (fH.ok lf) tN) aoN fun x=>by kernel_rfl
end iE
namespace dP
def f(lf:Nat)(a0:ByteArray):Option (TV×Unit) :=
 bd (jA.f lf a0) fun r1 =>
 br (!(r1.1.2.1.toList==(⟨#[48]⟩:ByteArray).toList)) (
 bd (iE.f lf) fun r2 =>
 some (r2.1,())) (
 some (((false,a0,a0,()),r1.1,()),()))
def E(lf:Nat):Entry:=⟨[.str],[yV],fun x=>f lf x.1⟩
theorem ok(lf:Nat):Ok 28 (E lf):=okT (an:=(annsL [])) (lf:=lf) (tC (iE.ok lf) (tC (jA.ok lf) tN)) aoN fun x=>by kernel_rfl
end dP
namespace bK
def f(lf:Nat)(a0:TI)(a1:TI):Option (TV×Unit) :=
 br a0.1 (
 bd (aX.f lf) fun r1 =>
 some (r1.1,())) (
 br a1.1 (
 bd (aX.f lf) fun r2 =>
 some (r2.1,())) (
 br (a1.2.1.toList==(⟨#[48]⟩:ByteArray).toList) (
 bd (je.f lf a0 a1.2.2.1) fun r3 =>
 br (!r3.1) (
 bd (aX.f lf) fun r4 =>
 some (r4.1,())) (
 some (((false,a1.2.2.1,a1.2.2.1,()),a1,()),()))) (
 br (!(a0.2.1.toList==(⟨#[]⟩:ByteArray).toList)) (
 bd (iq.f lf a1 a0.2.1) fun r5 =>
 br (!(a0.2.2.1.toList==(⟨#[]⟩:ByteArray).toList)) (
 bd (ja.f lf a1 a0.2.2.1) fun r6 =>
 br (!(r5.1.toList==(⟨#[]⟩:ByteArray).toList)) (
 br (!(r6.1.toList==(⟨#[]⟩:ByteArray).toList)) (
 bd (ay.f lf r6.1 r5.1) fun r7 =>
 br r7.1 (
 bd (aX.f lf) fun r8 =>
 some (r8.1,())) (
 br (r5.1.toList==r6.1.toList) (
 bd (dP.f lf r5.1) fun r9 =>
 some (r9.1,())) (
 bd (aI.f lf r5.1 r6.1) fun r10 =>
 some ((r10.1,a1,()),())))) (
 bd (aI.f lf r5.1 r6.1) fun r11 =>
 some ((r11.1,a1,()),()))) (
 bd (aI.f lf r5.1 r6.1) fun r12 =>
 some ((r12.1,a1,()),()))) (
 br (!(r5.1.toList==(⟨#[]⟩:ByteArray).toList)) (
 br (!(a0.2.2.1.toList==(⟨#[]⟩:ByteArray).toList)) (
 bd (ay.f lf a0.2.2.1 r5.1) fun r13 =>
 br r13.1 (
 bd (aX.f lf) fun r14 =>
 some (r14.1,())) (
 br (r5.1.toList==a0.2.2.1.toList) (
 bd (dP.f lf r5.1) fun r15 =>
 some (r15.1,())) (
 bd (aI.f lf r5.1 a0.2.2.1) fun r16 =>
 some ((r16.1,a1,()),())))) (
 bd (aI.f lf r5.1 a0.2.2.1) fun r17 =>
 some ((r17.1,a1,()),()))) (
 bd (aI.f lf r5.1 a0.2.2.1) fun r18 =>
 some ((r18.1,a1,()),())))) (
 br (!(a0.2.2.1.toList==(⟨#[]⟩:ByteArray).toList)) (
 bd (ja.f lf a1 a0.2.2.1) fun r19 =>
 br (!(a0.2.1.toList==(⟨#[]⟩:ByteArray).toList)) (
 br (!(r19.1.toList==(⟨#[]⟩:ByteArray).toList)) (
 bd (ay.f lf r19.1 a0.2.1) fun r20 =>
 br r20.1 (
 bd (aX.f lf) fun r21 =>
 some (r21.1,())) (
 br (a0.2.1.toList==r19.1.toList) (
 bd (dP.f lf a0.2.1) fun r22 =>
 some (r22.1,())) (
 bd (aI.f lf a0.2.1 r19.1) fun r23 =>
 some ((r23.1,a1,()),())))) (
 bd (aI.f lf a0.2.1 r19.1) fun r24 =>
 some ((r24.1,a1,()),()))) (
 bd (aI.f lf a0.2.1 r19.1) fun r25 =>
 some ((r25.1,a1,()),()))) (
 br (!(a0.2.1.toList==(⟨#[]⟩:ByteArray).toList)) (
 br (!(a0.2.2.1.toList==(⟨#[]⟩:ByteArray).toList)) (
 bd (ay.f lf a0.2.2.1 a0.2.1) fun r26 =>
 br r26.1 (
 bd (aX.f lf) fun r27 =>
 some (r27.1,())) (
 br (a0.2.1.toList==a0.2.2.1.toList) (
 bd (dP.f lf a0.2.1) fun r28 =>
 some (r28.1,())) (
 bd (aI.f lf a0.2.1 a0.2.2.1) fun r29 =>
 some ((r29.1,a1,()),())))) (
 bd (aI.f lf a0.2.1 a0.2.2.1) fun r30 =>
 some ((r30.1,a1,()),()))) (
 bd (aI.f lf a0.2.1 a0.2.2.1) fun r31 =>
 some ((r31.1,a1,()),())))))))
def E(lf:Nat):Entry:=⟨[yI,yI],[yV],fun x=>f lf x.1 x.2.1⟩
theorem ok(lf:Nat):Ok 58 (E lf):=okT (an:=(annsL [])) (lf:=lf) (tC (aX.ok lf) (tC (dP.ok lf) (tC (je.ok lf) (tC (aI.ok lf) (tC (iq.ok lf) (tC (ja.ok lf) (tC (ay.ok lf) tN))))))) aoN fun x=>by kernel_rfl
end bK
namespace bP
def f(lf:Nat)(a0:TV):Option (Int×Unit) :=
 bd (iZ.f lf a0.1) fun r1 =>
 br (r1.1 != 0) (
 some (r1.1,())) (
 bd (jb.f lf a0.2.1) fun r2 =>
 br (r2.1 != 0) (
 some (r2.1,())) (
 bd (bK.f lf a0.1 a0.2.1) fun r3 =>
 bd (some (!(((r3.1.1.1==a0.1.1)&&((r3.1.1.2.1==a0.1.2.1)&&((r3.1.1.2.2.1==a0.1.2.2.1)&&true)))&&(((r3.1.2.1.1==a0.2.1.1)&&((r3.1.2.1.2.1==a0.2.1.2.1)&&((r3.1.2.1.2.2.1==a0.2.1.2.2.1)&&true)))&&true)))) fun r4 =>
 br r4 (
 some (3,())) (
 some (0,()))))
def E(lf:Nat):Entry:=⟨[yV],[(.int .i64)],fun x=>f lf x.1⟩
theorem ok(lf:Nat):Ok 42 (E lf):=okT (an:=(annsL [])) (lf:=lf) (tC (bK.ok lf) (tC (iZ.ok lf) (tC (jb.ok lf) tN))) aoN fun x=>by kernel_rfl
end bP
namespace jZ
def f(lf:Nat)(a0:TV)(a1:ByteArray):Option (Bool×Unit) :=
 bd (je.f lf a0.1 a1) fun r1 =>
 br r1.1 (
 bd (gq.f lf a0.2.1 a1) fun r2 =>
 some (r2.1,())) (
 some (false,()))
def E(lf:Nat):Entry:=⟨[yV,.str],[.bool],fun x=>f lf x.1 x.2.1⟩
theorem ok(lf:Nat):Ok 41 (E lf):=okT (an:=(annsL [])) (lf:=lf) (tC (je.ok lf) (tC (gq.ok lf) tN)) aoN fun x=>by kernel_rfl
end jZ
namespace di
def f(lf:Nat)(a0:TV)(a1:TV):Option (TV×Unit) :=
 bd (jv.f lf a0.1 a1.1) fun r1 =>
 bd (jy.f lf a0.2.1 a1.2.1) fun r2 =>
 bd (bK.f lf r1.1 r2.1) fun r3 =>
 some (r3.1,())
def E(lf:Nat):Entry:=⟨[yV,yV],[yV],fun x=>f lf x.1 x.2.1⟩
theorem ok(lf:Nat):Ok 126 (E lf):=okT (an:=(annsL [])) (lf:=lf) (tC (bK.ok lf) (tC (jv.ok lf) (tC (jy.ok lf) tN))) aoN fun x=>by kernel_rfl
end di
namespace gW
def f(lf:Nat)(a0:TV)(a1:TV):Option (Int×Unit) :=
 bd (bP.f lf a0) fun r1 =>
 br (r1.1 != 0) (
 some (r1.1,())) (
 bd (bP.f lf a1) fun r2 =>
 some (r2.1,()))
def E(lf:Nat):Entry:=⟨[yV,yV],[(.int .i64)],fun x=>f lf x.1 x.2.1⟩
theorem ok(lf:Nat):Ok 37 (E lf):=okT (an:=(annsL [])) (lf:=lf) (tC (bP.ok lf) tN) aoN fun x=>by kernel_rfl
end gW
namespace jI
def f(lf:Nat)(a0:TV)(a1:TV):Option (TV×Unit) :=
 bd (kT.f lf a0.1 a1.1) fun r1 =>
 bd (kU.f lf a0.2.1 a1.2.1) fun r2 =>
 bd (bK.f lf r1.1 r2.1) fun r3 =>
 some (r3.1,())
def E(lf:Nat):Entry:=⟨[yV,yV],[yV],fun x=>f lf x.1 x.2.1⟩
theorem ok(lf:Nat):Ok 130 (E lf):=okT (an:=(annsL [])) (lf:=lf) (tC (bK.ok lf) (tC (kT.ok lf) (tC (kU.ok lf) tN))) aoN fun x=>by kernel_rfl
end jI
end
end Go.Q
namespace Go.Q
open Go.IntKind (i64)
open Go Go.RowKit
open Go.Rx (br bd sIdx sCat sCut iQuo iRem)
noncomputable section
namespace fJ
def anns:FuncId→FA:=annsL [(10,⟨annOf [(0,⟨kx 25 [0,3],[],[]⟩,⟨kx 25 [2],[],[]⟩)],none,[]⟩)]
def r0{ρ:Type}(lf:Nat)(v0:List (Int×(Int×(TV×Unit))))(v1:Int)(K:Int→Option ρ)(E0:Option ρ)(E1:Option ρ):Option ρ :=
 br (decide (v1 < ((v0.length:Nat):Int))) (
 bd (idxL v0 v1) fun y1 =>
 bd (idxL v0 v1) fun y2 =>
 bd (iD.f lf y1.2.2.1 y2.2.2.1) fun r3 =>
 br (!r3.1) (
 E0) (
 K (i64.wrap (v1+1)))) (
 E1)
def l0(lf:Nat)(v0:List (Int×(Int×(TV×Unit)))):Nat→Int→Option (Bool×(Unit)×(Unit)×Unit)
 | 0,_=>none
 | n+1,v1=>r0 lf v0 v1 (l0 lf v0 n) (some (true,(()),((()),()))) (some (false,(()),((()),())))
def sh0:ShS:=⟨[.s (.sl (.pair (.int .i64) (.pair (.int .i64) (.pair yV .unit)))),.a 2,.s (.int .i64),.a 21],[]⟩
def S0(p:(List (Int×(Int×(TV×Unit))))×Int×Unit):St:=sh0.b p
def xh0:ShS:=⟨[.a 2,.s .bool,.a 22],[]⟩
def xh1:ShS:=⟨[.a 25],[]⟩
def o0(v0:List (Int×(Int×(TV×Unit))))(y:Bool×(Unit)×(Unit)×Unit):Alt:=.two y.1 (.one .ret (xh0.b (false,()))) (.one (.exit 0) (xh1.b (())))
def tb(lf:Nat):List (FuncId×Entry):=[(11,iD.E lf)]
def aii(lf:Nat):List (Nat×(St→Option LTE)):=[(0,sumE sh0 fun(p:(List (Int×(Int×(TV×Unit))))×Int×Unit)=>⟨Bool×(Unit)×(Unit)×Unit,l0 lf p.1 (lf+40) p.2.1,o0 p.1⟩)]
def ls(lf:Nat):List (Nat×FuncId×Sums):=[(13,10,sumsL (aii lf))]
def it0{ρ:Type}(lf n:Nat)(st:St)(k:KE ρ):Option ρ:=itG anns (ls lf) (tb lf) lf 13 10 0 0 (sumsL (aii lf)) n st k
theorem t0{ρ:Type}(lf n:Nat)(v0:List (Int×(Int×(TV×Unit))))(v1:Int)(k:KE ρ):it0 lf (n+1) (S0 (v0,v1,())) k=r0 lf v0 v1 (fun x0=>it0 lf n (S0 (v0,x0,())) k) (k .ret (xh0.b (false,()))) (k (.exit 0) (xh1.b (()))):=by kernel_rfl
theorem u0{ρ:Type}(lf:Nat)(v0:List (Int×(Int×(TV×Unit))))(k:KE ρ):∀ (n:Nat) (v1:Int),it0 lf n (S0 (v0,v1,())) k=bd (l0 lf v0 n v1) fun y=>altK k (o0 v0 y)
 | 0,_=>by rw[l0,au];rfl
 | n+1,v1=>by
  rw[t0];simp only[l0,r0,u0 lf v0 k n,dA,dw,aF,au,br_t,br_f,o0,altK]
theorem sl(lf:Nat):SL anns (ls lf) (tb lf) lf (ls lf):=slC (laC (fun _=>by kernel_rfl) (fun _ (x:(List (Int×(Int×(TV×Unit))))×Int×Unit) k=>bg (u0 lf x.1 k (lf+40) x.2.1)) laN) slN
def f(lf:Nat)(a0:List (Int×(Int×(TV×Unit)))):Option (Bool×Unit) :=
 br (decide (((a0.length:Nat):Int) > 40)) (
 some (false,())) (
 bd (l0 lf a0 (lf+40) 0) fun z4 =>
 br z4.1 (
 some (false,())) (
 some (true,())))
def E(lf:Nat):Entry:=⟨[(.sl (.pair (.int .i64) (.pair (.int .i64) (.pair yV .unit))))],[.bool],fun x=>f lf x.1⟩
theorem ok(lf:Nat):Ok 10 (E lf):=okL (tC (iD.ok lf) tN) (aoC aoN) (sl lf) fun x=>by kernel_rfl
end fJ
namespace bJ
def f(lf:Nat)(a0:TV):Option (Bool×Unit) :=
 some (a0.1.1,())
def E(lf:Nat):Entry:=⟨[yV],[.bool],fun x=>f lf x.1⟩
theorem ok(lf:Nat):Ok 43 (E lf):=okT (an:=(annsL [])) (lf:=lf) tN aoN fun x=>by kernel_rfl
end bJ
namespace jJ
def f(lf:Nat)(a0:Int×(Int×(TV×Unit)))(a1:Int)(a2:Int):Option (Int×Unit) :=
 br (a0.1 != a1) (
 some (20,())) (
 br (decide (a0.2.1≤a0.1)) (
 some (15,())) (
 br (decide (a0.2.1 > a2)) (
 some (15,())) (
 bd (bP.f lf a0.2.2.1) fun r1 =>
 br (r1.1 != 0) (
 some (r1.1,())) (
 bd (bJ.f lf a0.2.2.1) fun r2 =>
 br r2.1 (
 some (16,())) (
 some (0,()))))))
def E(lf:Nat):Entry:=⟨[(.pair (.int .i64) (.pair (.int .i64) (.pair yV .unit))),(.int .i64),(.int .i64)],[(.int .i64)],fun x=>f lf x.1 x.2.1 x.2.2.1⟩
theorem ok(lf:Nat):Ok 79 (E lf):=okT (an:=(annsL [])) (lf:=lf) (tC (bP.ok lf) (tC (bJ.ok lf) tN)) aoN fun x=>by kernel_rfl
end jJ
namespace bI
def anns:FuncId→FA:=annsL [(27,⟨annOf [(0,⟨kx 57 [0,1,5,6],[],[]⟩,⟨kx 57 [1,4,5],[],[]⟩)],none,[]⟩)]
def r0{ρ:Type}(lf:Nat)(v0:List (Int×(Int×(TV×Unit))))(v1:Int)(v2 v3:Int)(K:Int→Int→Option ρ)(E0:Int→Int→Option ρ)(E1:Int→Option ρ):Option ρ :=
 br (decide (v3 < ((v0.length:Nat):Int))) (
 bd (idxL v0 v3) fun y1 =>
 bd (jJ.f lf y1 v2 v1) fun r2 =>
 br (r2.1 != 0) (
 E0 r2.1 v2) (
 br (decide (v3 > 0)) (
 bd (idxL v0 (i64.wrap (v3-1))) fun y3 =>
 bd (idxL v0 v3) fun y4 =>
 bd (some (((y3.2.2.1.1.1==y4.2.2.1.1.1)&&((y3.2.2.1.1.2.1==y4.2.2.1.1.2.1)&&((y3.2.2.1.1.2.2.1==y4.2.2.1.1.2.2.1)&&true)))&&(((y3.2.2.1.2.1.1==y4.2.2.1.2.1.1)&&((y3.2.2.1.2.1.2.1==y4.2.2.1.2.1.2.1)&&((y3.2.2.1.2.1.2.2.1==y4.2.2.1.2.1.2.2.1)&&true)))&&true))) fun r5 =>
 br r5 (
 E0 7 v2) (
 bd (idxL v0 v3) fun y6 =>
 K y6.2.1 (i64.wrap (v3+1)))) (
 bd (idxL v0 v3) fun y7 =>
 K y7.2.1 (i64.wrap (v3+1))))) (
 E1 v2)
def l0(lf:Nat)(v0:List (Int×(Int×(TV×Unit))))(v1:Int):Nat→Int→Int→Option (Bool×(Int×Int×Unit)×(Int×Unit)×Unit)
 | 0,_,_=>none
 | n+1,v2,v3=>r0 lf v0 v1 v2 v3 (l0 lf v0 v1 n) (fun w0 w1=>some (true,(w0,w1,()),((0,()),()))) (fun w0=>some (false,(0,0,()),((w0,()),())))
def sh0:ShS:=⟨[.s (.sl (.pair (.int .i64) (.pair (.int .i64) (.pair yV .unit)))),.s (.int .i64),.a 3,.s (.int .i64),.s (.int .i64),.a 50],[]⟩
def S0(p:(List (Int×(Int×(TV×Unit))))×Int×Int×Int×Unit):St:=sh0.b p
def xh0:ShS:=⟨[.a 1,.s (.int .i64),.a 2,.s (.int .i64),.s (.int .i64),.a 51],[]⟩
def xh1:ShS:=⟨[.a 1,.s (.int .i64),.a 3,.s (.int .i64),.a 51],[]⟩
def o0(v0:List (Int×(Int×(TV×Unit))))(v1:Int)(y:Bool×(Int×Int×Unit)×(Int×Unit)×Unit):Alt:=.two y.1 (.one .ret (xh0.b (v1,y.2.1.1,y.2.1.2.1,()))) (.one (.exit 0) (xh1.b (v1,y.2.2.1.1,())))
def tb(lf:Nat):List (FuncId×Entry):=[(79,jJ.E lf)]
def ail(lf:Nat):List (Nat×(St→Option LTE)):=[(0,sumE sh0 fun(p:(List (Int×(Int×(TV×Unit))))×Int×Int×Int×Unit)=>⟨Bool×(Int×Int×Unit)×(Int×Unit)×Unit,l0 lf p.1 p.2.1 (lf+40) p.2.2.1 p.2.2.2.1,o0 p.1 p.2.1⟩)]
def ls(lf:Nat):List (Nat×FuncId×Sums):=[(13,27,sumsL (ail lf))]
def it0{ρ:Type}(lf n:Nat)(st:St)(k:KE ρ):Option ρ:=itG anns (ls lf) (tb lf) lf 13 27 0 0 (sumsL (ail lf)) n st k
theorem t0{ρ:Type}(lf n:Nat)(v0:List (Int×(Int×(TV×Unit))))(v1 v2 v3:Int)(k:KE ρ):it0 lf (n+1) (S0 (v0,v1,v2,v3,())) k=r0 lf v0 v1 v2 v3 (fun x0 x1=>it0 lf n (S0 (v0,v1,x0,x1,())) k) (fun w0 w1=>k .ret (xh0.b (v1,w0,w1,()))) (fun w0=>k (.exit 0) (xh1.b (v1,w0,()))):=by kernel_rfl
theorem u0{ρ:Type}(lf:Nat)(v0:List (Int×(Int×(TV×Unit))))(v1:Int)(k:KE ρ):∀ (n:Nat) (v2 v3:Int),it0 lf n (S0 (v0,v1,v2,v3,())) k=bd (l0 lf v0 v1 n v2 v3) fun y=>altK k (o0 v0 v1 y)
 | 0,_,_=>by rw[l0,au];rfl
 | n+1,v2,v3=>by
  rw[t0];simp only[l0,r0,u0 lf v0 v1 k n,dA,dw,aF,au,br_t,br_f,o0,altK]
theorem sl(lf:Nat):SL anns (ls lf) (tb lf) lf (ls lf):=slC (laC (fun _=>by kernel_rfl) (fun _ (x:(List (Int×(Int×(TV×Unit))))×Int×Int×Int×Unit) k=>bg (u0 lf x.1 x.2.1 k (lf+40) x.2.2.1 x.2.2.2.1)) laN) slN
def f(lf:Nat)(a0:List (Int×(Int×(TV×Unit))))(a1:Int):Option (Int×Unit) :=
 br (decide (a1 < 1)) (
 some (2,())) (
 br (decide (a1 > 32)) (
 some (2,())) (
 br (((a0.length:Nat):Int)==0) (
 some (20,())) (
 bd (l0 lf a0 a1 (lf+40) 0 0) fun z8 =>
 br z8.1 (
 some (z8.2.1.1,())) (
 br (z8.2.2.1.1 != a1) (
 some (20,())) (
 some (0,()))))))
def E(lf:Nat):Entry:=⟨[(.sl (.pair (.int .i64) (.pair (.int .i64) (.pair yV .unit)))),(.int .i64)],[(.int .i64)],fun x=>f lf x.1 x.2.1⟩
theorem ok(lf:Nat):Ok 27 (E lf):=okL (tC (jJ.ok lf) tN) (aoC aoN) (sl lf) fun x=>by kernel_rfl
end bI
end
end Go.Q
namespace Go.Q
open Go.IntKind (i64)
open Go Go.RowKit
open Go.Rx (br bd sIdx sCat sCut iQuo iRem)
noncomputable section
namespace aO
def anns:FuncId→FA:=annsL [(83,⟨annOf [(0,⟨kx 35 [0,3,4],[⟨.tmp 3,yV,29⟩],[]⟩,⟨kx 35 [2,3],[⟨.tmp 3,yV,29⟩],[]⟩),(1,⟨kx 35 [0,3,4,5],[⟨.tmp 3,yV,29⟩],[]⟩,⟨kx 35 [0,2,3,4],[⟨.tmp 3,yV,29⟩],[]⟩)],none,[]⟩)]
def r1{ρ:Type}(lf:Nat)(v0:List (Int×(Int×(TV×Unit))))(v1:Int)(v2:Int)(v3:List TV)(K:Int→(List TV)→Option ρ)(E0:(List TV)→Option ρ):Option ρ :=
 bd (idxL v0 v1) fun y2 =>
 br (decide (v2 < y2.2.1)) (
 bd (idxL v0 v1) fun y3 =>
 bd (apL true 80 v3 [y3.2.2.1]) fun q4 =>
 K (i64.wrap (v2+1)) q4) (
 E0 v3)
def l1(lf:Nat)(v0:List (Int×(Int×(TV×Unit))))(v1:Int):Nat→Int→(List TV)→Option (((List TV)×Unit)×Unit)
 | 0,_,_=>none
 | n+1,v2,v3=>r1 lf v0 v1 v2 v3 (l1 lf v0 v1 n) (fun w0=>some ((w0,()),()))
def sh1:ShS:=⟨[.s (.sl (.pair (.int .i64) (.pair (.int .i64) (.pair yV .unit)))),.a 2,.s (.row 1),.s (.int .i64),.s (.int .i64),.a 29],[.gone,.row yV 29 false]⟩
def S1(p:(List (Int×(Int×(TV×Unit))))×Int×Int×(List TV)×Unit):St:=sh1.b p
def xh0:ShS:=⟨[.s (.sl (.pair (.int .i64) (.pair (.int .i64) (.pair yV .unit)))),.a 2,.s (.row 1),.s (.int .i64),.a 30],[.gone,.row yV 29 false]⟩
def o1(v0:List (Int×(Int×(TV×Unit))))(v1:Int)(y:((List TV)×Unit)×Unit):Alt:=.one (.exit 2) (xh0.b (v0,v1,y.1.1,()))
def r0{ρ:Type}(lf:Nat)(v0:List (Int×(Int×(TV×Unit))))(v1:Int)(v2:List TV)(K:Int→(List TV)→Option ρ)(E0:(List TV)→Option ρ):Option ρ :=
 br (decide (v1 < ((v0.length:Nat):Int))) (
 bd (idxL v0 v1) fun y1 =>
 bd (l1 lf v0 v1 (lf+40) y1.1 v2) fun z5 =>
 K (i64.wrap (v1+1)) z5.1.1) (
 E0 v2)
def l0(lf:Nat)(v0:List (Int×(Int×(TV×Unit)))):Nat→Int→(List TV)→Option (((List TV)×Unit)×Unit)
 | 0,_,_=>none
 | n+1,v1,v2=>r0 lf v0 v1 v2 (l0 lf v0 n) (fun w0=>some ((w0,()),()))
def sh0:ShS:=⟨[.s (.sl (.pair (.int .i64) (.pair (.int .i64) (.pair yV .unit)))),.a 2,.s (.row 0),.s (.int .i64),.a 30],[.row yV 29 false]⟩
def S0(p:(List (Int×(Int×(TV×Unit))))×Int×(List TV)×Unit):St:=sh0.b p
def xh1:ShS:=⟨[.a 3,.s (.row 0),.a 31],[.row yV 29 false]⟩
def o0(v0:List (Int×(Int×(TV×Unit))))(y:((List TV)×Unit)×Unit):Alt:=.one (.exit 0) (xh1.b (y.1.1,()))
def tb(lf:Nat):List (FuncId×Entry):=[]
def ae2(lf:Nat):List (Nat×(St→Option LTE)):=[(0,sumE sh0 fun(p:(List (Int×(Int×(TV×Unit))))×Int×(List TV)×Unit)=>⟨((List TV)×Unit)×Unit,l0 lf p.1 (lf+40) p.2.1 p.2.2.1,o0 p.1⟩),
 (1,sumE sh1 fun(p:(List (Int×(Int×(TV×Unit))))×Int×Int×(List TV)×Unit)=>⟨((List TV)×Unit)×Unit,l1 lf p.1 p.2.1 (lf+40) p.2.2.1 p.2.2.2.1,o1 p.1 p.2.1⟩)]
def ls(lf:Nat):List (Nat×FuncId×Sums):=[(13,83,sumsL (ae2 lf))]
def it1{ρ:Type}(lf n:Nat)(st:St)(k:KE ρ):Option ρ:=itG anns (ls lf) (tb lf) lf 13 83 1 1 (sumsL (ae2 lf)) n st k
theorem t1{ρ:Type}(lf n:Nat)(v0:List (Int×(Int×(TV×Unit))))(v1 v2:Int)(v3:List TV)(k:KE ρ):it1 lf (n+1) (S1 (v0,v1,v2,v3,())) k=r1 lf v0 v1 v2 v3 (fun x0 x1=>it1 lf n (S1 (v0,v1,x0,x1,())) k) (fun w0=>k (.exit 2) (xh0.b (v0,v1,w0,()))):=by kernel_rfl
theorem u1{ρ:Type}(lf:Nat)(v0:List (Int×(Int×(TV×Unit))))(v1:Int)(k:KE ρ):∀ (n:Nat) (v2:Int) (v3:List TV),it1 lf n (S1 (v0,v1,v2,v3,())) k=bd (l1 lf v0 v1 n v2 v3) fun y=>altK k (o1 v0 v1 y)
 | 0,_,_=>by rw[l1,au];rfl
 | n+1,v2,v3=>by
  rw[t1];simp only[l1,r1,u1 lf v0 v1 k n,dA,dw,aF,au,br_t,br_f,o1,altK]
def it0{ρ:Type}(lf n:Nat)(st:St)(k:KE ρ):Option ρ:=itG anns (ls lf) (tb lf) lf 13 83 0 0 (sumsL (ae2 lf)) n st k
theorem t0{ρ:Type}(lf n:Nat)(v0:List (Int×(Int×(TV×Unit))))(v1:Int)(v2:List TV)(k:KE ρ):it0 lf (n+1) (S0 (v0,v1,v2,())) k=r0 lf v0 v1 v2 (fun x0 x1=>it0 lf n (S0 (v0,x0,x1,())) k) (fun w0=>k (.exit 0) (xh1.b (w0,()))):=by kernel_rfl
theorem u0{ρ:Type}(lf:Nat)(v0:List (Int×(Int×(TV×Unit))))(k:KE ρ):∀ (n:Nat) (v1:Int) (v2:List TV),it0 lf n (S0 (v0,v1,v2,())) k=bd (l0 lf v0 n v1 v2) fun y=>altK k (o0 v0 y)
 | 0,_,_=>by rw[l0,au];rfl
 | n+1,v1,v2=>by
  rw[t0];simp only[l0,r0,u0 lf v0 k n,dA,dw,aF,au,br_t,br_f,o0,altK]
theorem sl(lf:Nat):SL anns (ls lf) (tb lf) lf (ls lf):=slC (laC (fun _=>by kernel_rfl) (fun _ (x:(List (Int×(Int×(TV×Unit))))×Int×(List TV)×Unit) k=>bg (u0 lf x.1 k (lf+40) x.2.1 x.2.2.1)) (laC (fun _=>by kernel_rfl) (fun _ (x:(List (Int×(Int×(TV×Unit))))×Int×Int×(List TV)×Unit) k=>bg (u1 lf x.1 x.2.1 k (lf+40) x.2.2.1 x.2.2.2.1)) laN)) slN
def f(lf:Nat)(a0:List (Int×(Int×(TV×Unit)))):Option ((List TV)×Unit) :=
 bd (l0 lf a0 (lf+40) 0 []) fun z6 =>
 some (z6.1.1,())
def spk(lf:Nat):Spk:=.fresh [(.sl (.pair (.int .i64) (.pair (.int .i64) (.pair yV .unit))))] yV 29 fun x=>f lf x.1
theorem ok(lf:Nat):SpkOK Proofs.Tryz.prog (spk lf) 83:=okF tN' (aoC aoN) (sl lf) rfl fun x=>by kernel_rfl
end aO
namespace aP
def anns:FuncId→FA:=annsL [(125,⟨annOf [(0,⟨kx 21 [1,2,5,6],[⟨.tmp 5,(.int .i64),3⟩],[]⟩,⟨kx 21 [4,5],[⟨.tmp 5,(.int .i64),3⟩],[]⟩)],none,[]⟩)]
def r0{ρ:Type}(lf:Nat)(v0:Int)(v2:Bool)(v3 v4:ByteArray)(v5:Bool)(v6 v7:ByteArray)(v1:Int)(v8:List Int)(K:Int→(List Int)→Option ρ)(E0:(List Int)→Option ρ):Option ρ :=
 br (decide (v1 < v0)) (
 bd (aB.f lf v1) fun r1 =>
 bd (jZ.f lf ((v2,v3,v4,()),(v5,v6,v7,()),()) r1.1) fun r2 =>
 br r2.1 (
 bd (apL true 8 v8 [v1]) fun q3 =>
 K (i64.wrap (v1+1)) q3) (
 K (i64.wrap (v1+1)) v8)) (
 E0 v8)
def l0(lf:Nat)(v0:Int)(v2:Bool)(v3 v4:ByteArray)(v5:Bool)(v6 v7:ByteArray):Nat→Int→(List Int)→Option (((List Int)×Unit)×Unit)
 | 0,_,_=>none
 | n+1,v1,v8=>r0 lf v0 v2 v3 v4 v5 v6 v7 v1 v8 (l0 lf v0 v2 v3 v4 v5 v6 v7 n) (fun w0=>some ((w0,()),()))
def sh0:ShS:=⟨[.a 1,.s (.int .i64),.s (.ptr 0 0),.a 2,.s (.row 1),.s (.int .i64),.a 14],[.cells [.s .bool,.s .str,.s .str,.s .bool,.s .str,.s .str] 29,.row (.int .i64) 3 false]⟩
def S0(p:Int×Int×Bool×ByteArray×ByteArray×Bool×ByteArray×ByteArray×(List Int)×Unit):St:=sh0.b p
def xh0:ShS:=⟨[.a 5,.s (.row 1),.a 15],[.cells [.s .bool,.s .str,.s .str,.s .bool,.s .str,.s .str] 29,.row (.int .i64) 3 false]⟩
def o0(v0:Int)(v2:Bool)(v3 v4:ByteArray)(v5:Bool)(v6 v7:ByteArray)(y:((List Int)×Unit)×Unit):Alt:=.one (.exit 0) (xh0.b (v2,v3,v4,v5,v6,v7,y.1.1,()))
def tb(lf:Nat):List (FuncId×Entry):=[(29,aB.E lf),(41,jZ.E lf)]
def afS(lf:Nat):List (Nat×(St→Option LTE)):=[(0,sumE sh0 fun(p:Int×Int×Bool×ByteArray×ByteArray×Bool×ByteArray×ByteArray×(List Int)×Unit)=>⟨((List Int)×Unit)×Unit,l0 lf p.1 p.2.2.1 p.2.2.2.1 p.2.2.2.2.1 p.2.2.2.2.2.1 p.2.2.2.2.2.2.1 p.2.2.2.2.2.2.2.1 (lf+40) p.2.1 (e8 p).1,o0 p.1 p.2.2.1 p.2.2.2.1 p.2.2.2.2.1 p.2.2.2.2.2.1 p.2.2.2.2.2.2.1 p.2.2.2.2.2.2.2.1⟩)]
def ls(lf:Nat):List (Nat×FuncId×Sums):=[(13,125,sumsL (afS lf))]
def it0{ρ:Type}(lf n:Nat)(st:St)(k:KE ρ):Option ρ:=itG anns (ls lf) (tb lf) lf 13 125 0 1 (sumsL (afS lf)) n st k
theorem t0{ρ:Type}(lf n:Nat)(v0 v1:Int)(v2:Bool)(v3 v4:ByteArray)(v5:Bool)(v6 v7:ByteArray)(v8:List Int)(k:KE ρ):it0 lf (n+1) (S0 (v0,v1,v2,v3,v4,v5,v6,v7,v8,())) k=r0 lf v0 v2 v3 v4 v5 v6 v7 v1 v8 (fun x0 x1=>it0 lf n (S0 (v0,x0,v2,v3,v4,v5,v6,v7,x1,())) k) (fun w0=>k (.exit 0) (xh0.b (v2,v3,v4,v5,v6,v7,w0,()))):=by kernel_rfl
theorem u0{ρ:Type}(lf:Nat)(v0:Int)(v2:Bool)(v3 v4:ByteArray)(v5:Bool)(v6 v7:ByteArray)(k:KE ρ):∀ (n:Nat) (v1:Int) (v8:List Int),it0 lf n (S0 (v0,v1,v2,v3,v4,v5,v6,v7,v8,())) k=bd (l0 lf v0 v2 v3 v4 v5 v6 v7 n v1 v8) fun y=>altK k (o0 v0 v2 v3 v4 v5 v6 v7 y)
 | 0,_,_=>by rw[l0,au];rfl
 | n+1,v1,v8=>by
  rw[t0];simp only[l0,r0,u0 lf v0 v2 v3 v4 v5 v6 v7 k n,dA,dw,aF,au,br_t,br_f,o0,altK]
theorem sl(lf:Nat):SL anns (ls lf) (tb lf) lf (ls lf):=slC (laC (fun _=>by kernel_rfl) (fun _ (x:Int×Int×Bool×ByteArray×ByteArray×Bool×ByteArray×ByteArray×(List Int)×Unit) k=>bg (u0 lf x.1 x.2.2.1 x.2.2.2.1 x.2.2.2.2.1 x.2.2.2.2.2.1 x.2.2.2.2.2.2.1 x.2.2.2.2.2.2.2.1 k (lf+40) x.2.1 (e8 x).1)) laN) slN
def f(lf:Nat)(a0:TV)(a1:Int):Option ((List Int)×Unit) :=
 bd (l0 lf a1 a0.1.1 a0.1.2.1 a0.1.2.2.1 a0.2.1.1 a0.2.1.2.1 a0.2.1.2.2.1 (lf+40) 0 []) fun z4 =>
 some (z4.1.1,())
def E(lf:Nat):Entry:=⟨[yV,(.int .i64)],[(.sl (.int .i64))],fun x=>f lf x.1 x.2.1⟩
theorem ok(lf:Nat):Ok 125 (E lf):=okL (tC (aB.ok lf) (tC (jZ.ok lf) tN)) (aoC aoN) (sl lf) fun x=>by kernel_rfl
end aP
end
end Go.Q
