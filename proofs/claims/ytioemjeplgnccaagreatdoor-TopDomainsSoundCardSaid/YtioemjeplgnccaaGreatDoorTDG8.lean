import Derived.Test.YtioemjeplgnccaaGreatDoorProg
import Derived.KernelRfl
import Derived.Test.YtioemjeplgnccaaGreatDoorTDE3
import Derived.Test.YtioemjeplgnccaaGreatDoorTDG1
import Derived.Test.YtioemjeplgnccaaGreatDoorTDG2
import Derived.Test.YtioemjeplgnccaaGreatDoorTDG3
import Derived.Test.YtioemjeplgnccaaGreatDoorTDG5
import Derived.Test.YtioemjeplgnccaaGreatDoorTDG6
import Derived.Test.YtioemjeplgnccaaGreatDoorTDG7
set_option linter.unusedVariables false
set_option linter.unusedSimpArgs false
set_option linter.unusedSectionVars false
set_option maxRecDepth 100000
set_option maxHeartbeats 40000000
namespace Go.Q
open Go Go.RowKit
open Go.Rx (br bd sIdx sCat sCut iQuo iRem iShl)
noncomputable section
namespace bH
def f(lf:Nat)(a0:TV)(a1:TV):Option (Bool×Unit) :=
 bd (kD.f lf a0.1 a1.1) fun r1 =>
 br r1.1 (
 bd (jv.f lf a0.2.1) fun r2 =>
 br r2.1 (
 bd (jv.f lf a1.2.1) fun r3 =>
 some (r3.1,())) (
 some (false,()))) (
 some (false,()))
def E(lf:Nat):Entry:=⟨[yV,yV],[.bool],fun x=>f lf x.1 x.2.1⟩
theorem ok(lf:Nat):Ok 4 (E lf):=okT (an:=(annsL [])) (lf:=lf) (tC (kD.ok lf) (tC (jv.ok lf) tN)) aoN fun x=>by kernel_rfl
end bH
namespace dP
def f(lf:Nat)  : Option (TV×Unit) :=
 bd (gX.f lf) fun r1 =>
 bd (kN.f lf) fun r2 =>
 some ((r1.1,r2.1,()),())
def E(lf:Nat):Entry:=⟨[],[yV],fun x=>f lf⟩
theorem ok(lf:Nat):Ok 77 (E lf):=okT (an:=(annsL [])) (lf:=lf) (tC (gX.ok lf) (tC (kN.ok lf) tN)) aoN fun x=>by kernel_rfl
end dP
namespace nM
def f(lf:Nat)  : Option (TV×Unit) :=
 bd (fG.f lf) fun r1 =>
 some (((false,(⟨#[]⟩:ByteArray),(⟨#[]⟩:ByteArray),()),r1.1,()),())
def E(lf:Nat):Entry:=⟨[],[yV],fun x=>f lf⟩
theorem ok(lf:Nat):Ok 148 (E lf):=okT (an:=(annsL [])) (lf:=lf) (tC (fG.ok lf) tN) aoN fun x=>by kernel_rfl
end nM
namespace iQ
def f(lf:Nat)(a0:ByteArray):Option (TV×Unit) :=
 bd (kE.f lf a0) fun r1 =>
 br (!(r1.1.2.1.toList==(⟨#[48]⟩:ByteArray).toList)) (
 bd (nM.f lf) fun r2 =>
 some (r2.1,())) (
 some (((false,a0,a0,()),r1.1,()),()))
def E(lf:Nat):Entry:=⟨[.str],[yV],fun x=>f lf x.1⟩
theorem ok(lf:Nat):Ok 80 (E lf):=okT (an:=(annsL [])) (lf:=lf) (tC (kE.ok lf) (tC (nM.ok lf) tN)) aoN fun x=>by kernel_rfl
end iQ
namespace jb
def f(lf:Nat)(a0:TI)(a1:TI):Option (TV×Unit) :=
 br a0.1 (
 bd (dP.f lf) fun r1 =>
 some (r1.1,())) (
 br a1.1 (
 bd (dP.f lf) fun r2 =>
 some (r2.1,())) (
 br (a1.2.1.toList==(⟨#[48]⟩:ByteArray).toList) (
 bd (jf.f lf a0 a1.2.2.1) fun r3 =>
 br (!r3.1) (
 bd (dP.f lf) fun r4 =>
 some (r4.1,())) (
 some (((false,a1.2.2.1,a1.2.2.1,()),a1,()),()))) (
 br (!(a0.2.1.toList==(⟨#[]⟩:ByteArray).toList)) (
 bd (gm.f lf a1 a0.2.1) fun r5 =>
 br (!(a0.2.2.1.toList==(⟨#[]⟩:ByteArray).toList)) (
 bd (iU.f lf a1 a0.2.2.1) fun r6 =>
 br (!(r5.1.toList==(⟨#[]⟩:ByteArray).toList)) (
 br (!(r6.1.toList==(⟨#[]⟩:ByteArray).toList)) (
 bd (aW.f lf r6.1 r5.1) fun r7 =>
 br r7.1 (
 bd (dP.f lf) fun r8 =>
 some (r8.1,())) (
 br (r5.1.toList==r6.1.toList) (
 bd (iQ.f lf r5.1) fun r9 =>
 some (r9.1,())) (
 bd (bQ.f lf r5.1 r6.1) fun r10 =>
 some ((r10.1,a1,()),())))) (
 bd (bQ.f lf r5.1 r6.1) fun r11 =>
 some ((r11.1,a1,()),()))) (
 bd (bQ.f lf r5.1 r6.1) fun r12 =>
 some ((r12.1,a1,()),()))) (
 br (!(r5.1.toList==(⟨#[]⟩:ByteArray).toList)) (
 br (!(a0.2.2.1.toList==(⟨#[]⟩:ByteArray).toList)) (
 bd (aW.f lf a0.2.2.1 r5.1) fun r13 =>
 br r13.1 (
 bd (dP.f lf) fun r14 =>
 some (r14.1,())) (
 br (r5.1.toList==a0.2.2.1.toList) (
 bd (iQ.f lf r5.1) fun r15 =>
 some (r15.1,())) (
 bd (bQ.f lf r5.1 a0.2.2.1) fun r16 =>
 some ((r16.1,a1,()),())))) (
 bd (bQ.f lf r5.1 a0.2.2.1) fun r17 =>
 some ((r17.1,a1,()),()))) (
 bd (bQ.f lf r5.1 a0.2.2.1) fun r18 =>
 some ((r18.1,a1,()),())))) (
 br (!(a0.2.2.1.toList==(⟨#[]⟩:ByteArray).toList)) (
 bd (iU.f lf a1 a0.2.2.1) fun r19 =>
 br (!(a0.2.1.toList==(⟨#[]⟩:ByteArray).toList)) (
 br (!(r19.1.toList==(⟨#[]⟩:ByteArray).toList)) (
 bd (aW.f lf r19.1 a0.2.1) fun r20 =>
 br r20.1 (
 bd (dP.f lf) fun r21 =>
 some (r21.1,())) (
 br (a0.2.1.toList==r19.1.toList) (
 bd (iQ.f lf a0.2.1) fun r22 =>
 some (r22.1,())) (
 bd (bQ.f lf a0.2.1 r19.1) fun r23 =>
 some ((r23.1,a1,()),())))) (
 bd (bQ.f lf a0.2.1 r19.1) fun r24 =>
 some ((r24.1,a1,()),()))) (
 bd (bQ.f lf a0.2.1 r19.1) fun r25 =>
 some ((r25.1,a1,()),()))) (
 br (!(a0.2.1.toList==(⟨#[]⟩:ByteArray).toList)) (
 br (!(a0.2.2.1.toList==(⟨#[]⟩:ByteArray).toList)) (
 bd (aW.f lf a0.2.2.1 a0.2.1) fun r26 =>
 br r26.1 (
 bd (dP.f lf) fun r27 =>
 some (r27.1,())) (
 br (a0.2.1.toList==a0.2.2.1.toList) (
 bd (iQ.f lf a0.2.1) fun r28 =>
 some (r28.1,())) (
 bd (bQ.f lf a0.2.1 a0.2.2.1) fun r29 =>
 some ((r29.1,a1,()),())))) (
 bd (bQ.f lf a0.2.1 a0.2.2.1) fun r30 =>
 some ((r30.1,a1,()),()))) (
 bd (bQ.f lf a0.2.1 a0.2.2.1) fun r31 =>
 some ((r31.1,a1,()),())))))))
def E(lf:Nat):Entry:=⟨[yI,yI],[yV],fun x=>f lf x.1 x.2.1⟩
theorem ok(lf:Nat):Ok 27 (E lf):=okT (an:=(annsL [])) (lf:=lf) (tC (jf.ok lf) (tC (aW.ok lf) (tC (dP.ok lf) (tC (gm.ok lf) (tC (iU.ok lf) (tC (iQ.ok lf) (tC (bQ.ok lf) tN))))))) aoN fun x=>by kernel_rfl
end jb
namespace aN
def f(lf:Nat)(a0:TV):Option (Int×Unit) :=
 bd (iT.f lf a0.1) fun r1 =>
 br (r1.1 != 0) (
 some (r1.1,())) (
 bd (iW.f lf a0.2.1) fun r2 =>
 br (r2.1 != 0) (
 some (r2.1,())) (
 bd (jb.f lf a0.1 a0.2.1) fun r3 =>
 bd (some (!(((r3.1.1.1==a0.1.1)&&((r3.1.1.2.1==a0.1.2.1)&&((r3.1.1.2.2.1==a0.1.2.2.1)&&true)))&&(((r3.1.2.1.1==a0.2.1.1)&&((r3.1.2.1.2.1==a0.2.1.2.1)&&((r3.1.2.1.2.2.1==a0.2.1.2.2.1)&&true)))&&true)))) fun r4 =>
 br r4 (
 some (3,())) (
 some (0,()))))
def E(lf:Nat):Entry:=⟨[yV],[(.int .i64)],fun x=>f lf x.1⟩
theorem ok(lf:Nat):Ok 5 (E lf):=okT (an:=(annsL [])) (lf:=lf) (tC (iT.ok lf) (tC (iW.ok lf) (tC (jb.ok lf) tN))) aoN fun x=>by kernel_rfl
end aN
namespace aY
def f(lf:Nat)(a0:TV)(a1:ByteArray):Option (Bool×Unit) :=
 bd (jf.f lf a0.1 a1) fun r1 =>
 br r1.1 (
 bd (kW.f lf a0.2.1 a1) fun r2 =>
 some (r2.1,())) (
 some (false,()))
def E(lf:Nat):Entry:=⟨[yV,.str],[.bool],fun x=>f lf x.1 x.2.1⟩
theorem ok(lf:Nat):Ok 8 (E lf):=okT (an:=(annsL [])) (lf:=lf) (tC (jf.ok lf) (tC (kW.ok lf) tN)) aoN fun x=>by kernel_rfl
end aY
end
end Go.Q
namespace Go.Q
open Go.IntKind (i64)
open Go Go.RowKit
open Go.Rx (br bd sIdx sCat sCut iQuo iRem iShl)
noncomputable section
namespace kF
def f(lf:Nat)(a0:ByteArray):Option (Bool×Unit) :=
 bd (strings_TrimPrefix.f lf a0 (⟨#[45]⟩:ByteArray)) fun r1 =>
 some ((decide (((r1.1.size:Nat):Int) > 100)),())
def E(lf:Nat):Entry:=⟨[.str],[.bool],fun x=>f lf x.1⟩
theorem ok(lf:Nat):Ok 101 (E lf):=okT (an:=(annsL [])) (lf:=lf) (tC (strings_TrimPrefix.ok lf) tN) aoN fun x=>by kernel_rfl
end kF
namespace jy
def f(lf:Nat)(a0:ByteArray):Option (Int×Unit) :=
 bd (bY.f lf a0) fun r1 =>
 br (r1.1 != 0) (
 some (r1.1,())) (
 bd (kF.f lf a0) fun r2 =>
 br r2.1 (
 some (10,())) (
 some (0,())))
def E(lf:Nat):Entry:=⟨[.str],[(.int .i64)],fun x=>f lf x.1⟩
theorem ok(lf:Nat):Ok 42 (E lf):=okT (an:=(annsL [])) (lf:=lf) (tC (bY.ok lf) (tC (kF.ok lf) tN)) aoN fun x=>by kernel_rfl
end jy
namespace dO
def f(lf:Nat)(a0:ByteArray):Option (TX×Unit) :=
 bd (kF.f lf a0) fun r1 =>
 br r1.1 (
 some ((2,(⟨#[]⟩:ByteArray),()),())) (
 some ((1,a0,()),()))
def E(lf:Nat):Entry:=⟨[.str],[yX],fun x=>f lf x.1⟩
theorem ok(lf:Nat):Ok 43 (E lf):=okT (an:=(annsL [])) (lf:=lf) (tC (kF.ok lf) tN) aoN fun x=>by kernel_rfl
end dO
namespace bK
def f(lf:Nat)(a0:ByteArray):Option (TX×Int×Unit) :=
 bd (jy.f lf a0) fun r1 =>
 br (r1.1 != 0) (
 some ((0,(⟨#[]⟩:ByteArray),()),r1.1,())) (
 bd (dO.f lf a0) fun r2 =>
 some (r2.1,0,()))
def E(lf:Nat):Entry:=⟨[.str],[yX,(.int .i64)],fun x=>f lf x.1⟩
theorem ok(lf:Nat):Ok 12 (E lf):=okT (an:=(annsL [])) (lf:=lf) (tC (jy.ok lf) (tC (dO.ok lf) tN)) aoN fun x=>by kernel_rfl
end bK
namespace aJ
def f(lf:Nat)(a0:TX)(a1:TX):Option (TX×Unit) :=
 some ((2,(⟨#[]⟩:ByteArray),()),())
def E(lf:Nat):Entry:=⟨[yX,yX],[yX],fun x=>f lf x.1 x.2.1⟩
theorem ok(lf:Nat):Ok 104 (E lf):=okT (an:=(annsL [])) (lf:=lf) tN aoN fun x=>by kernel_rfl
end aJ
namespace aI
def anns:FuncId→FA:=annsL [(106,⟨annOf [(0,⟨kx 18 [2,7,8,9],[],[]⟩,⟨kx 18 [4],[],[]⟩)],none,[]⟩)]
def r0{ρ:Type}(lf:Nat)(v0:List ByteArray)(v1 v3:Int)(v4:ByteArray)(v2:Int)(K:Int→Option ρ)(E0:Option ρ)(E1:Option ρ):Option ρ :=
 br (decide (v2 < v1)) (
 bd (idxL v0 v2) fun y1 =>
 bd (some ((v3==1)&&((v4==y1)&&true))) fun r2 =>
 br r2 (
 E0) (
 K (i64.wrap (v2+1)))) (
 E1)
def l0(lf:Nat)(v0:List ByteArray)(v1 v3:Int)(v4:ByteArray):Nat→Int→Option (Bool×(Unit)×(Unit)×Unit)
 | 0,_=>none
 | n+1,v2=>r0 lf v0 v1 v3 v4 v2 (l0 lf v0 v1 v3 v4 n) (some (true,(()),((()),()))) (some (false,(()),((()),())))
def sh0:ShS:=⟨[.a 2,.s (.ptr 0 0),.a 4,.s (.sl .str),.s (.int .i64),.s (.int .i64),.a 8],[.cells [.s (.int .i64),.s .str] 44]⟩
def S0(p:(List ByteArray)×Int×Int×Int×ByteArray×Unit):St:=sh0.b p
def xh0:ShS:=⟨[.a 4,.s .bool,.a 13],[.cells [.s (.int .i64),.s .str] 44]⟩
def xh1:ShS:=⟨[.a 18],[.cells [.s (.int .i64),.s .str] 44]⟩
def o0(v0:List ByteArray)(v1 v3:Int)(v4:ByteArray)(y:Bool×(Unit)×(Unit)×Unit):Alt:=.two y.1 (.one .ret (xh0.b (true,v3,v4,()))) (.one (.exit 0) (xh1.b (v3,v4,())))
def tb(lf:Nat):List (FuncId×Entry):=[]
def abg(lf:Nat):List (Nat×(St→Option LTE)):=[(0,sumE sh0 fun(p:(List ByteArray)×Int×Int×Int×ByteArray×Unit)=>⟨Bool×(Unit)×(Unit)×Unit,l0 lf p.1 p.2.1 p.2.2.2.1 p.2.2.2.2.1 (lf+40) p.2.2.1,o0 p.1 p.2.1 p.2.2.2.1 p.2.2.2.2.1⟩)]
def ls(lf:Nat):List (Nat×FuncId×Sums):=[(13,106,sumsL (abg lf))]
def it0{ρ:Type}(lf n:Nat)(st:St)(k:KE ρ):Option ρ:=itG anns (ls lf) (tb lf) lf 13 106 0 1 (sumsL (abg lf)) n st k
theorem t0{ρ:Type}(lf n:Nat)(v0:List ByteArray)(v1 v2 v3:Int)(v4:ByteArray)(k:KE ρ):it0 lf (n+1) (S0 (v0,v1,v2,v3,v4,())) k=r0 lf v0 v1 v3 v4 v2 (fun x0=>it0 lf n (S0 (v0,v1,x0,v3,v4,())) k) (k .ret (xh0.b (true,v3,v4,()))) (k (.exit 0) (xh1.b (v3,v4,()))):=by kernel_rfl
theorem u0{ρ:Type}(lf:Nat)(v0:List ByteArray)(v1 v3:Int)(v4:ByteArray)(k:KE ρ):∀ (n:Nat) (v2:Int),it0 lf n (S0 (v0,v1,v2,v3,v4,())) k=bd (l0 lf v0 v1 v3 v4 n v2) fun y=>altK k (o0 v0 v1 v3 v4 y)
 | 0,_=>by rw[l0,bd_none];rfl
 | n+1,v2=>by
  rw[t0];simp only[l0,r0,u0 lf v0 v1 v3 v4 k n,bd_br,bd_bd,bd_some',bd_none,br_t,br_f,o0,altK]
theorem sl(lf:Nat):SL anns (ls lf) (tb lf) lf (ls lf):=slC (laC (fun _=>by kernel_rfl) (fun _ (x:(List ByteArray)×Int×Int×Int×ByteArray×Unit) k=>dK (u0 lf x.1 x.2.1 x.2.2.2.1 x.2.2.2.2.1 k (lf+40) x.2.2.1)) laN) slN
def f(lf:Nat)(a0:TX)(a1:List ByteArray):Option (Bool×Unit) :=
 bd (l0 lf a1 ((a1.length:Nat):Int) a0.1 a0.2.1 (lf+40) 0) fun z3 =>
 br z3.1 (
 some (true,())) (
 some (false,()))
def E(lf:Nat):Entry:=⟨[yX,(.sl .str)],[.bool],fun x=>f lf x.1 x.2.1⟩
theorem ok(lf:Nat):Ok 106 (E lf):=okL tN (aoC aoN) (sl lf) fun x=>by kernel_rfl
end aI
namespace jk
def f(lf:Nat)(a0:TX):Option (Int×Unit) :=
 br (decide (a0.1 < 0)) (
 some (1,())) (
 br (decide (a0.1 > 2)) (
 some (1,())) (
 br (a0.1==1) (
 bd (jy.f lf a0.2.1) fun r1 =>
 some (r1.1,())) (
 br (!(a0.2.1.toList==(⟨#[]⟩:ByteArray).toList)) (
 some (3,())) (
 some (0,())))))
def E(lf:Nat):Entry:=⟨[yX],[(.int .i64)],fun x=>f lf x.1⟩
theorem ok(lf:Nat):Ok 63 (E lf):=okT (an:=(annsL [])) (lf:=lf) (tC (jy.ok lf) tN) aoN fun x=>by kernel_rfl
end jk
namespace aV
def anns:FuncId→FA:=annsL [(49,⟨annOf [(0,⟨kx 18 [6,7,8],[],[]⟩,⟨kx 18 [2],[],[]⟩)],none,[]⟩)]
def r0{ρ:Type}(lf:Nat)(v0:List TX)(v1:Int)(v2:Int)(K:Int→Option ρ)(E0:Int→Option ρ)(E1:Option ρ):Option ρ :=
 br (decide (v2 < v1)) (
 bd (idxL v0 v2) fun y1 =>
 bd (jk.f lf y1) fun r2 =>
 br (r2.1 != 0) (
 E0 r2.1) (
 K (i64.wrap (v2+1)))) (
 E1)
def l0(lf:Nat)(v0:List TX)(v1:Int):Nat→Int→Option (Bool×(Int×Unit)×(Unit)×Unit)
 | 0,_=>none
 | n+1,v2=>r0 lf v0 v1 v2 (l0 lf v0 v1 n) (fun w0=>some (true,(w0,()),((()),()))) (some (false,(0,()),((()),())))
def sh0:ShS:=⟨[.a 6,.s (.sl yX),.s (.int .i64),.s (.int .i64),.a 9],[]⟩
def S0(p:(List TX)×Int×Int×Unit):St:=sh0.b p
def xh0:ShS:=⟨[.a 2,.s (.int .i64),.a 15],[]⟩
def xh1:ShS:=⟨[.a 18],[]⟩
def o0(v0:List TX)(v1:Int)(y:Bool×(Int×Unit)×(Unit)×Unit):Alt:=.two y.1 (.one .ret (xh0.b (y.2.1.1,()))) (.one (.exit 0) (xh1.b (())))
def tb(lf:Nat):List (FuncId×Entry):=[(63,jk.E lf)]
def adi(lf:Nat):List (Nat×(St→Option LTE)):=[(0,sumE sh0 fun(p:(List TX)×Int×Int×Unit)=>⟨Bool×(Int×Unit)×(Unit)×Unit,l0 lf p.1 p.2.1 (lf+40) p.2.2.1,o0 p.1 p.2.1⟩)]
def ls(lf:Nat):List (Nat×FuncId×Sums):=[(13,49,sumsL (adi lf))]
def it0{ρ:Type}(lf n:Nat)(st:St)(k:KE ρ):Option ρ:=itG anns (ls lf) (tb lf) lf 13 49 0 0 (sumsL (adi lf)) n st k
theorem t0{ρ:Type}(lf n:Nat)(v0:List TX)(v1 v2:Int)(k:KE ρ):it0 lf (n+1) (S0 (v0,v1,v2,())) k=r0 lf v0 v1 v2 (fun x0=>it0 lf n (S0 (v0,v1,x0,())) k) (fun w0=>k .ret (xh0.b (w0,()))) (k (.exit 0) (xh1.b (()))):=by kernel_rfl
theorem u0{ρ:Type}(lf:Nat)(v0:List TX)(v1:Int)(k:KE ρ):∀ (n:Nat) (v2:Int),it0 lf n (S0 (v0,v1,v2,())) k=bd (l0 lf v0 v1 n v2) fun y=>altK k (o0 v0 v1 y)
 | 0,_=>by rw[l0,bd_none];rfl
 | n+1,v2=>by
  rw[t0];simp only[l0,r0,u0 lf v0 v1 k n,bd_br,bd_bd,bd_some',bd_none,br_t,br_f,o0,altK]
theorem sl(lf:Nat):SL anns (ls lf) (tb lf) lf (ls lf):=slC (laC (fun _=>by kernel_rfl) (fun _ (x:(List TX)×Int×Int×Unit) k=>dK (u0 lf x.1 x.2.1 k (lf+40) x.2.2.1)) laN) slN
def f(lf:Nat)(a0:List TX):Option (Int×Unit) :=
 bd (l0 lf a0 ((a0.length:Nat):Int) (lf+40) 0) fun z3 =>
 br z3.1 (
 some (z3.2.1.1,())) (
 some (0,()))
def E(lf:Nat):Entry:=⟨[(.sl yX)],[(.int .i64)],fun x=>f lf x.1⟩
theorem ok(lf:Nat):Ok 49 (E lf):=okL (tC (jk.ok lf) tN) (aoC aoN) (sl lf) fun x=>by kernel_rfl
end aV
end
end Go.Q
namespace Go.Q
open Go Go.RowKit
open Go.Rx (br bd sIdx sCat sCut iQuo iRem iShl)
noncomputable section
namespace aS
abbrev PS:List Ty:=[(.int .i64),yX,yX]
abbrev RS:List Ty:=[yX,(.int .i64)]
def f0(lf:Nat)(a0:Int)(a1:TX)(a2:TX):Option (TX×Int×Unit) :=
 bd (aV.f lf [a1,a2]) fun r1 =>
 br (r1.1 != 0) (
 some ((0,(⟨#[]⟩:ByteArray),()),r1.1,())) (
 br (a1.1==0) (
 some ((0,(⟨#[]⟩:ByteArray),()),0,())) (
 br (a2.1==0) (
 some ((0,(⟨#[]⟩:ByteArray),()),0,())) (
 br (a1.1 != 1) (
 bd (aJ.f lf a1 a2) fun r2 =>
 some (r2.1,0,())) (
 br (a2.1 != 1) (
 bd (aJ.f lf a1 a2) fun r3 =>
 some (r3.1,0,())) (
 bd (fJ.f lf a1.2.1 a2.2.1) fun r4 =>
 br (r4.2.1==19) (
 some ((0,(⟨#[]⟩:ByteArray),()),0,())) (
 bd (dO.f lf r4.1) fun r5 =>
 some (r5.1,0,())))))))
def tb0(lf:Nat):List (FuncId×Entry):=[(35,fJ.E lf),(43,dO.E lf),(49,aV.E lf),(104,aJ.E lf)]
abbrev an0:FuncId→FA:=annsL []
def R0(lf:Nat):Tys PS→Option (Tys RS):=fun x=>runQ Proofs.Tryz.prog an0 noLs (lookT (tb0 lf)) (lf+40) 14 6 14 PS RS x
theorem h0(lf:Nat)(x:Tys PS)(hc:(x.1==3)=true):f0 lf x.1 x.2.1 x.2.2.1=R0 lf x:=by
 obtain⟨op,q⟩:=x
 have hc:(op==3)=true:=hc
 obtain rfl:=eq_of_beq hc
 show f0 lf 3 q.1 q.2.1=R0 lf (3,q)
 kernel_rfl
def f1(lf:Nat)(a0:Int)(a1:TX)(a2:TX):Option (TX×Int×Unit) :=
 bd (aV.f lf [a1,a2]) fun r1 =>
 br (r1.1 != 0) (
 some ((0,(⟨#[]⟩:ByteArray),()),r1.1,())) (
 br (a1.1==0) (
 some ((0,(⟨#[]⟩:ByteArray),()),0,())) (
 br (a2.1==0) (
 some ((0,(⟨#[]⟩:ByteArray),()),0,())) (
 br (a1.1 != 1) (
 bd (aJ.f lf a1 a2) fun r2 =>
 some (r2.1,0,())) (
 br (a2.1 != 1) (
 bd (aJ.f lf a1 a2) fun r3 =>
 some (r3.1,0,())) (
 bd (fM.f lf a1.2.1 a2.2.1) fun r4 =>
 br (r4.2.1==19) (
 some ((0,(⟨#[]⟩:ByteArray),()),0,())) (
 bd (dO.f lf r4.1) fun r5 =>
 some (r5.1,0,())))))))
def tb1(lf:Nat):List (FuncId×Entry):=[(36,fM.E lf),(43,dO.E lf),(49,aV.E lf),(104,aJ.E lf)]
abbrev an1:FuncId→FA:=annsL []
def R1(lf:Nat):Tys PS→Option (Tys RS):=fun x=>runQ Proofs.Tryz.prog an1 noLs (lookT (tb1 lf)) (lf+40) 14 6 14 PS RS x
theorem h1(lf:Nat)(x:Tys PS)(hc:(x.1==4)=true):f1 lf x.1 x.2.1 x.2.2.1=R1 lf x:=by
 obtain⟨op,q⟩:=x
 have hc:(op==4)=true:=hc
 obtain rfl:=eq_of_beq hc
 show f1 lf 4 q.1 q.2.1=R1 lf (4,q)
 kernel_rfl
def f2(lf:Nat)(a0:Int)(a1:TX)(a2:TX):Option (TX×Int×Unit) :=
 bd (aV.f lf [a1,a2]) fun r1 =>
 br (r1.1 != 0) (
 some ((0,(⟨#[]⟩:ByteArray),()),r1.1,())) (
 br (a1.1==0) (
 some ((0,(⟨#[]⟩:ByteArray),()),0,())) (
 br (a2.1==0) (
 some ((0,(⟨#[]⟩:ByteArray),()),0,())) (
 br (a1.1 != 1) (
 bd (aI.f lf a1 [(⟨#[48]⟩:ByteArray)]) fun r2 =>
 br r2.1 (
 some ((1,(⟨#[48]⟩:ByteArray),()),0,())) (
 bd (aI.f lf a2 [(⟨#[48]⟩:ByteArray)]) fun r3 =>
 br r3.1 (
 some ((1,(⟨#[48]⟩:ByteArray),()),0,())) (
 bd (aJ.f lf a1 a2) fun r4 =>
 some (r4.1,0,())))) (
 br (a2.1 != 1) (
 bd (aI.f lf a1 [(⟨#[48]⟩:ByteArray)]) fun r5 =>
 br r5.1 (
 some ((1,(⟨#[48]⟩:ByteArray),()),0,())) (
 bd (aI.f lf a2 [(⟨#[48]⟩:ByteArray)]) fun r6 =>
 br r6.1 (
 some ((1,(⟨#[48]⟩:ByteArray),()),0,())) (
 bd (aJ.f lf a1 a2) fun r7 =>
 some (r7.1,0,())))) (
 bd (gV.f lf a1.2.1 a2.2.1) fun r8 =>
 br (r8.2.1==19) (
 some ((0,(⟨#[]⟩:ByteArray),()),0,())) (
 bd (dO.f lf r8.1) fun r9 =>
 some (r9.1,0,())))))))
def tb2(lf:Nat):List (FuncId×Entry):=[(37,gV.E lf),(43,dO.E lf),(49,aV.E lf),(104,aJ.E lf),(106,aI.E lf)]
abbrev an2:FuncId→FA:=annsL []
def R2(lf:Nat):Tys PS→Option (Tys RS):=fun x=>runQ Proofs.Tryz.prog an2 noLs (lookT (tb2 lf)) (lf+40) 14 6 14 PS RS x
theorem h2(lf:Nat)(x:Tys PS)(hc:(x.1==5)=true):f2 lf x.1 x.2.1 x.2.2.1=R2 lf x:=by
 obtain⟨op,q⟩:=x
 have hc:(op==5)=true:=hc
 obtain rfl:=eq_of_beq hc
 show f2 lf 5 q.1 q.2.1=R2 lf (5,q)
 kernel_rfl
def f3(lf:Nat)(a0:Int)(a1:TX)(a2:TX):Option (TX×Int×Unit) :=
 bd (aV.f lf [a1,a2]) fun r1 =>
 br (r1.1 != 0) (
 some ((0,(⟨#[]⟩:ByteArray),()),r1.1,())) (
 br (a1.1==0) (
 some ((0,(⟨#[]⟩:ByteArray),()),0,())) (
 br (a2.1==0) (
 some ((0,(⟨#[]⟩:ByteArray),()),0,())) (
 br (a1.1 != 1) (
 bd (aI.f lf a2 [(⟨#[48]⟩:ByteArray)]) fun r2 =>
 br r2.1 (
 some ((0,(⟨#[]⟩:ByteArray),()),0,())) (
 bd (aI.f lf a1 [(⟨#[48]⟩:ByteArray)]) fun r3 =>
 br r3.1 (
 some ((1,(⟨#[48]⟩:ByteArray),()),0,())) (
 bd (aJ.f lf a1 a2) fun r4 =>
 some (r4.1,0,())))) (
 br (a2.1 != 1) (
 bd (aI.f lf a2 [(⟨#[48]⟩:ByteArray)]) fun r5 =>
 br r5.1 (
 some ((0,(⟨#[]⟩:ByteArray),()),0,())) (
 bd (aI.f lf a1 [(⟨#[48]⟩:ByteArray)]) fun r6 =>
 br r6.1 (
 some ((1,(⟨#[48]⟩:ByteArray),()),0,())) (
 bd (aJ.f lf a1 a2) fun r7 =>
 some (r7.1,0,())))) (
 bd (fK.f lf a1.2.1 a2.2.1) fun r8 =>
 br (r8.2.1==19) (
 some ((0,(⟨#[]⟩:ByteArray),()),0,())) (
 bd (dO.f lf r8.1) fun r9 =>
 some (r9.1,0,())))))))
def tb3(lf:Nat):List (FuncId×Entry):=[(38,fK.E lf),(43,dO.E lf),(49,aV.E lf),(104,aJ.E lf),(106,aI.E lf)]
abbrev an3:FuncId→FA:=annsL []
def R3(lf:Nat):Tys PS→Option (Tys RS):=fun x=>runQ Proofs.Tryz.prog an3 noLs (lookT (tb3 lf)) (lf+40) 14 6 14 PS RS x
theorem h3(lf:Nat)(x:Tys PS)(hc:(x.1==6)=true):f3 lf x.1 x.2.1 x.2.2.1=R3 lf x:=by
 obtain⟨op,q⟩:=x
 have hc:(op==6)=true:=hc
 obtain rfl:=eq_of_beq hc
 show f3 lf 6 q.1 q.2.1=R3 lf (6,q)
 kernel_rfl
def f4(lf:Nat)(a0:Int)(a1:TX)(a2:TX):Option (TX×Int×Unit) :=
 bd (aV.f lf [a1,a2]) fun r1 =>
 br (r1.1 != 0) (
 some ((0,(⟨#[]⟩:ByteArray),()),r1.1,())) (
 br (a1.1==0) (
 some ((0,(⟨#[]⟩:ByteArray),()),0,())) (
 br (a2.1==0) (
 some ((0,(⟨#[]⟩:ByteArray),()),0,())) (
 br (a1.1 != 1) (
 bd (aI.f lf a2 [(⟨#[48]⟩:ByteArray)]) fun r2 =>
 br r2.1 (
 some ((0,(⟨#[]⟩:ByteArray),()),0,())) (
 bd (aI.f lf a1 [(⟨#[48]⟩:ByteArray)]) fun r3 =>
 br r3.1 (
 some ((1,(⟨#[48]⟩:ByteArray),()),0,())) (
 bd (aI.f lf a2 [(⟨#[49]⟩:ByteArray),(⟨#[45,49]⟩:ByteArray)]) fun r4 =>
 br r4.1 (
 some ((1,(⟨#[48]⟩:ByteArray),()),0,())) (
 bd (aJ.f lf a1 a2) fun r5 =>
 some (r5.1,0,()))))) (
 br (a2.1 != 1) (
 bd (aI.f lf a2 [(⟨#[48]⟩:ByteArray)]) fun r6 =>
 br r6.1 (
 some ((0,(⟨#[]⟩:ByteArray),()),0,())) (
 bd (aI.f lf a1 [(⟨#[48]⟩:ByteArray)]) fun r7 =>
 br r7.1 (
 some ((1,(⟨#[48]⟩:ByteArray),()),0,())) (
 bd (aI.f lf a2 [(⟨#[49]⟩:ByteArray),(⟨#[45,49]⟩:ByteArray)]) fun r8 =>
 br r8.1 (
 some ((1,(⟨#[48]⟩:ByteArray),()),0,())) (
 bd (aJ.f lf a1 a2) fun r9 =>
 some (r9.1,0,()))))) (
 bd (dA.f lf a1.2.1 a2.2.1) fun r10 =>
 br (r10.2.1==19) (
 some ((0,(⟨#[]⟩:ByteArray),()),0,())) (
 bd (dO.f lf r10.1) fun r11 =>
 some (r11.1,0,())))))))
def tb4(lf:Nat):List (FuncId×Entry):=[(39,dA.E lf),(43,dO.E lf),(49,aV.E lf),(104,aJ.E lf),(106,aI.E lf)]
abbrev an4:FuncId→FA:=annsL []
def R4(lf:Nat):Tys PS→Option (Tys RS):=fun x=>runQ Proofs.Tryz.prog an4 noLs (lookT (tb4 lf)) (lf+40) 14 6 14 PS RS x
theorem h4(lf:Nat)(x:Tys PS)(hc:(x.1==7)=true):f4 lf x.1 x.2.1 x.2.2.1=R4 lf x:=by
 obtain⟨op,q⟩:=x
 have hc:(op==7)=true:=hc
 obtain rfl:=eq_of_beq hc
 show f4 lf 7 q.1 q.2.1=R4 lf (7,q)
 kernel_rfl
def fE(lf:Nat)(a0:Int)(a1:TX)(a2:TX):Option (TX×Int×Unit) :=
 br (a0==3) (
 bd (aV.f lf [a1,a2]) fun r1 =>
 br (r1.1 != 0) (
 some ((0,(⟨#[]⟩:ByteArray),()),r1.1,())) (
 br (a1.1==0) (
 some ((0,(⟨#[]⟩:ByteArray),()),0,())) (
 br (a2.1==0) (
 some ((0,(⟨#[]⟩:ByteArray),()),0,())) (
 br (a1.1 != 1) (
 bd (aJ.f lf a1 a2) fun r2 =>
 some (r2.1,0,())) (
 br (a2.1 != 1) (
 bd (aJ.f lf a1 a2) fun r3 =>
 some (r3.1,0,())) (
 none)))))) (
 br (a0==4) (
 bd (aV.f lf [a1,a2]) fun r4 =>
 br (r4.1 != 0) (
 some ((0,(⟨#[]⟩:ByteArray),()),r4.1,())) (
 br (a1.1==0) (
 some ((0,(⟨#[]⟩:ByteArray),()),0,())) (
 br (a2.1==0) (
 some ((0,(⟨#[]⟩:ByteArray),()),0,())) (
 br (a1.1 != 1) (
 bd (aJ.f lf a1 a2) fun r5 =>
 some (r5.1,0,())) (
 br (a2.1 != 1) (
 bd (aJ.f lf a1 a2) fun r6 =>
 some (r6.1,0,())) (
 none)))))) (
 br (a0==5) (
 bd (aV.f lf [a1,a2]) fun r7 =>
 br (r7.1 != 0) (
 some ((0,(⟨#[]⟩:ByteArray),()),r7.1,())) (
 br (a1.1==0) (
 some ((0,(⟨#[]⟩:ByteArray),()),0,())) (
 br (a2.1==0) (
 some ((0,(⟨#[]⟩:ByteArray),()),0,())) (
 br (a1.1 != 1) (
 bd (aI.f lf a1 [(⟨#[48]⟩:ByteArray)]) fun r8 =>
 br r8.1 (
 some ((1,(⟨#[48]⟩:ByteArray),()),0,())) (
 bd (aI.f lf a2 [(⟨#[48]⟩:ByteArray)]) fun r9 =>
 br r9.1 (
 some ((1,(⟨#[48]⟩:ByteArray),()),0,())) (
 bd (aJ.f lf a1 a2) fun r10 =>
 some (r10.1,0,())))) (
 br (a2.1 != 1) (
 bd (aI.f lf a1 [(⟨#[48]⟩:ByteArray)]) fun r11 =>
 br r11.1 (
 some ((1,(⟨#[48]⟩:ByteArray),()),0,())) (
 bd (aI.f lf a2 [(⟨#[48]⟩:ByteArray)]) fun r12 =>
 br r12.1 (
 some ((1,(⟨#[48]⟩:ByteArray),()),0,())) (
 bd (aJ.f lf a1 a2) fun r13 =>
 some (r13.1,0,())))) (
 none)))))) (
 br (a0==6) (
 bd (aV.f lf [a1,a2]) fun r14 =>
 br (r14.1 != 0) (
 some ((0,(⟨#[]⟩:ByteArray),()),r14.1,())) (
 br (a1.1==0) (
 some ((0,(⟨#[]⟩:ByteArray),()),0,())) (
 br (a2.1==0) (
 some ((0,(⟨#[]⟩:ByteArray),()),0,())) (
 br (a1.1 != 1) (
 bd (aI.f lf a2 [(⟨#[48]⟩:ByteArray)]) fun r15 =>
 br r15.1 (
 some ((0,(⟨#[]⟩:ByteArray),()),0,())) (
 bd (aI.f lf a1 [(⟨#[48]⟩:ByteArray)]) fun r16 =>
 br r16.1 (
 some ((1,(⟨#[48]⟩:ByteArray),()),0,())) (
 bd (aJ.f lf a1 a2) fun r17 =>
 some (r17.1,0,())))) (
 br (a2.1 != 1) (
 bd (aI.f lf a2 [(⟨#[48]⟩:ByteArray)]) fun r18 =>
 br r18.1 (
 some ((0,(⟨#[]⟩:ByteArray),()),0,())) (
 bd (aI.f lf a1 [(⟨#[48]⟩:ByteArray)]) fun r19 =>
 br r19.1 (
 some ((1,(⟨#[48]⟩:ByteArray),()),0,())) (
 bd (aJ.f lf a1 a2) fun r20 =>
 some (r20.1,0,())))) (
 none)))))) (
 br (a0==7) (
 bd (aV.f lf [a1,a2]) fun r21 =>
 br (r21.1 != 0) (
 some ((0,(⟨#[]⟩:ByteArray),()),r21.1,())) (
 br (a1.1==0) (
 some ((0,(⟨#[]⟩:ByteArray),()),0,())) (
 br (a2.1==0) (
 some ((0,(⟨#[]⟩:ByteArray),()),0,())) (
 br (a1.1 != 1) (
 bd (aI.f lf a2 [(⟨#[48]⟩:ByteArray)]) fun r22 =>
 br r22.1 (
 some ((0,(⟨#[]⟩:ByteArray),()),0,())) (
 bd (aI.f lf a1 [(⟨#[48]⟩:ByteArray)]) fun r23 =>
 br r23.1 (
 some ((1,(⟨#[48]⟩:ByteArray),()),0,())) (
 bd (aI.f lf a2 [(⟨#[49]⟩:ByteArray),(⟨#[45,49]⟩:ByteArray)]) fun r24 =>
 br r24.1 (
 some ((1,(⟨#[48]⟩:ByteArray),()),0,())) (
 bd (aJ.f lf a1 a2) fun r25 =>
 some (r25.1,0,()))))) (
 br (a2.1 != 1) (
 bd (aI.f lf a2 [(⟨#[48]⟩:ByteArray)]) fun r26 =>
 br r26.1 (
 some ((0,(⟨#[]⟩:ByteArray),()),0,())) (
 bd (aI.f lf a1 [(⟨#[48]⟩:ByteArray)]) fun r27 =>
 br r27.1 (
 some ((1,(⟨#[48]⟩:ByteArray),()),0,())) (
 bd (aI.f lf a2 [(⟨#[49]⟩:ByteArray),(⟨#[45,49]⟩:ByteArray)]) fun r28 =>
 br r28.1 (
 some ((1,(⟨#[48]⟩:ByteArray),()),0,())) (
 bd (aJ.f lf a1 a2) fun r29 =>
 some (r29.1,0,()))))) (
 none)))))) (
 some ((0,(⟨#[]⟩:ByteArray),()),1,()))))))
def tbE(lf:Nat):List (FuncId×Entry):=[(35,noE),(36,noE),(37,noE),(38,noE),(39,noE),(49,aV.E lf),(104,aJ.E lf),(106,aI.E lf)]
abbrev anE:FuncId→FA:=annsL []
theorem hE(lf:Nat):Ok 14 ⟨PS,RS,fun x=>fE lf x.1 x.2.1 x.2.2.1⟩:=okT (an:=anE) (tb:=tbE lf) (lf:=lf) (tC (okZ (E:=noE) fun _=>rfl) (tC (okZ (E:=noE) fun _=>rfl) (tC (okZ (E:=noE) fun _=>rfl) (tC (okZ (E:=noE) fun _=>rfl) (tC (okZ (E:=noE) fun _=>rfl) (tC (aV.ok lf) (tC (aJ.ok lf) (tC (aI.ok lf) tN)))))))) aoN fun x=>by kernel_rfl
def f(lf:Nat)(a0:Int)(a1:TX)(a2:TX):Option (TX×Int×Unit):=br (a0==3) (f0 lf a0 a1 a2) (br (a0==4) (f1 lf a0 a1 a2) (br (a0==5) (f2 lf a0 a1 a2) (br (a0==6) (f3 lf a0 a1 a2) (br (a0==7) (f4 lf a0 a1 a2) (fE lf a0 a1 a2)))))
def E(lf:Nat):Entry:=⟨[(.int .i64),yX,yX],[yX,(.int .i64)],fun x=>f lf x.1 x.2.1 x.2.2.1⟩
theorem ok(lf:Nat):Ok 14 (E lf):=okB (ps:=PS) (rs:=RS) (an:=an0) (tb:=tb0 lf) (lf:=lf) (tC (fJ.ok lf) (tC (dO.ok lf) (tC (aV.ok lf) (tC (aJ.ok lf) tN)))) aoN (fun x=>x.1==3) (f:=fun x=>f0 lf x.1 x.2.1 x.2.2.1) (R:=R0 lf) (fun _=>rfl) (h0 lf) (okB (ps:=PS) (rs:=RS) (an:=an1) (tb:=tb1 lf) (lf:=lf) (tC (fM.ok lf) (tC (dO.ok lf) (tC (aV.ok lf) (tC (aJ.ok lf) tN)))) aoN (fun x=>x.1==4) (f:=fun x=>f1 lf x.1 x.2.1 x.2.2.1) (R:=R1 lf) (fun _=>rfl) (h1 lf) (okB (ps:=PS) (rs:=RS) (an:=an2) (tb:=tb2 lf) (lf:=lf) (tC (gV.ok lf) (tC (dO.ok lf) (tC (aV.ok lf) (tC (aJ.ok lf) (tC (aI.ok lf) tN))))) aoN (fun x=>x.1==5) (f:=fun x=>f2 lf x.1 x.2.1 x.2.2.1) (R:=R2 lf) (fun _=>rfl) (h2 lf) (okB (ps:=PS) (rs:=RS) (an:=an3) (tb:=tb3 lf) (lf:=lf) (tC (fK.ok lf) (tC (dO.ok lf) (tC (aV.ok lf) (tC (aJ.ok lf) (tC (aI.ok lf) tN))))) aoN (fun x=>x.1==6) (f:=fun x=>f3 lf x.1 x.2.1 x.2.2.1) (R:=R3 lf) (fun _=>rfl) (h3 lf) (okB (ps:=PS) (rs:=RS) (an:=an4) (tb:=tb4 lf) (lf:=lf) (tC (dA.ok lf) (tC (dO.ok lf) (tC (aV.ok lf) (tC (aJ.ok lf) (tC (aI.ok lf) tN))))) aoN (fun x=>x.1==7) (f:=fun x=>f4 lf x.1 x.2.1 x.2.2.1) (R:=R4 lf) (fun _=>rfl) (h4 lf) (hE lf)))))
end aS
namespace bM
def f(lf:Nat)(a0:TX)(a1:ByteArray):Option (Bool×Int×Unit) :=
 bd (jk.f lf a0) fun r1 =>
 br (r1.1 != 0) (
 some (false,r1.1,())) (
 bd (bY.f lf a1) fun r2 =>
 br (r2.1 != 0) (
 some (false,r2.1,())) (
 br (a0.1==2) (
 some (true,0,())) (
 bd (some ((a0.1==1)&&((a0.2.1==a1)&&true))) fun r3 =>
 some (r3,0,()))))
def E(lf:Nat):Entry:=⟨[yX,.str],[.bool,(.int .i64)],fun x=>f lf x.1 x.2.1⟩
theorem ok(lf:Nat):Ok 19 (E lf):=okT (an:=(annsL [])) (lf:=lf) (tC (jk.ok lf) (tC (bY.ok lf) tN)) aoN fun x=>by kernel_rfl
end bM
end
end Go.Q
namespace Go.Q
open Go.IntKind (i64)
open Go Go.RowKit
open Go.Rx (br bd sIdx sCat sCut iQuo iRem iShl)
noncomputable section
namespace dS
def f(lf:Nat)(a0:ByteArray):Option (Int×Int×Unit) :=
 bd (pI.f lf a0) fun r1 =>
 br (r1.2.1 != 0) (
 some (0,r1.2.1,())) (
 bd (iShl .i64 1 (i64.wrap (r1.1+1))) fun r2 =>
 some (r2,0,()))
def E(lf:Nat):Entry:=⟨[.str],[(.int .i64),(.int .i64)],fun x=>f lf x.1⟩
theorem ok(lf:Nat):Ok 11 (E lf):=okT (an:=(annsL [])) (lf:=lf) (tC (pI.ok lf) tN) aoN fun x=>by kernel_rfl
end dS
namespace iO
def f(lf:Nat)(a0:Int):Option (Int×Unit) :=
 br (decide (a0 < 0)) (
 some (2,())) (
 br (decide (a0 > 7)) (
 some (2,())) (
 some (0,())))
def E(lf:Nat):Entry:=⟨[(.int .i64)],[(.int .i64)],fun x=>f lf x.1⟩
theorem ok(lf:Nat):Ok 62 (E lf):=okT (an:=(annsL [])) (lf:=lf) tN aoN fun x=>by kernel_rfl
end iO
namespace dN
def f(lf:Nat)(a0:Int)(a1:ByteArray):Option (Bool×Int×Unit) :=
 bd (iO.f lf a0) fun r1 =>
 br (r1.1 != 0) (
 some (false,r1.1,())) (
 bd (dS.f lf a1) fun r2 =>
 some (((i64.wrap ((BitVec.ofInt i64.bits a0 &&& BitVec.ofInt i64.bits r2.1).toNat)) != 0),r2.2.1,()))
def E(lf:Nat):Entry:=⟨[(.int .i64),.str],[.bool,(.int .i64)],fun x=>f lf x.1 x.2.1⟩
theorem ok(lf:Nat):Ok 18 (E lf):=okT (an:=(annsL [])) (lf:=lf) (tC (dS.ok lf) (tC (iO.ok lf) tN)) aoN fun x=>by kernel_rfl
end dN
namespace qj
def l:List ((Int×Int×Unit)×(Int×Int×Unit)):=[((1,1,()),(1,0,())),((1,2,()),(1,0,())),((1,4,()),(7,0,())),((2,1,()),(1,0,())),((2,2,()),(2,0,())),((2,4,()),(4,0,())),((4,1,()),(7,0,())),((4,2,()),(4,0,())),((4,4,()),(4,0,()))]
def f(lf:Nat)(a0:Int)(a1:Int):Option (Int×Int×Unit):=pick [(.int .i64),(.int .i64)] l (a0,a1,())
def E(lf:Nat):Entry:=⟨[(.int .i64),(.int .i64)],[(.int .i64),(.int .i64)],fun x=>f lf x.1 x.2.1⟩
def tb(lf:Nat):List (FuncId×Entry):=[(62,iO.E lf)]
abbrev an:FuncId→FA:=annsL [(92,⟨annOf [(0,⟨kx 24 [3,5,6,7],[],[]⟩,⟨[],[],[]⟩),(1,⟨kx 24 [3,7,8],[],[]⟩,⟨[],[],[]⟩)],none,[]⟩)]
theorem ok(lf:Nat):Ok 44 (E lf):=okP (an:=an) (tb:=tb lf) (lf:=lf) (tC (iO.ok lf) tN) (aoC aoN) (l:=l) (fun _=>rfl) (fun _=>rfl) ⟨by as_aux_lemma=>kernel_rfl,by as_aux_lemma=>kernel_rfl,by as_aux_lemma=>kernel_rfl,by as_aux_lemma=>kernel_rfl,by as_aux_lemma=>kernel_rfl,by as_aux_lemma=>kernel_rfl,by as_aux_lemma=>kernel_rfl,by as_aux_lemma=>kernel_rfl,by as_aux_lemma=>kernel_rfl,trivial⟩
end qj
namespace qw
def l:List ((Int×Int×Unit)×(Int×Int×Unit)):=[((1,1,()),(7,0,())),((1,2,()),(1,0,())),((1,4,()),(1,0,())),((2,1,()),(4,0,())),((2,2,()),(2,0,())),((2,4,()),(1,0,())),((4,1,()),(4,0,())),((4,2,()),(4,0,())),((4,4,()),(7,0,()))]
def f(lf:Nat)(a0:Int)(a1:Int):Option (Int×Int×Unit):=pick [(.int .i64),(.int .i64)] l (a0,a1,())
def E(lf:Nat):Entry:=⟨[(.int .i64),(.int .i64)],[(.int .i64),(.int .i64)],fun x=>f lf x.1 x.2.1⟩
def tb(lf:Nat):List (FuncId×Entry):=[(62,iO.E lf)]
abbrev an:FuncId→FA:=annsL [(92,⟨annOf [(0,⟨kx 24 [3,5,6,7],[],[]⟩,⟨[],[],[]⟩),(1,⟨kx 24 [3,7,8],[],[]⟩,⟨[],[],[]⟩)],none,[]⟩)]
theorem ok(lf:Nat):Ok 45 (E lf):=okP (an:=an) (tb:=tb lf) (lf:=lf) (tC (iO.ok lf) tN) (aoC aoN) (l:=l) (fun _=>rfl) (fun _=>rfl) ⟨by as_aux_lemma=>kernel_rfl,by as_aux_lemma=>kernel_rfl,by as_aux_lemma=>kernel_rfl,by as_aux_lemma=>kernel_rfl,by as_aux_lemma=>kernel_rfl,by as_aux_lemma=>kernel_rfl,by as_aux_lemma=>kernel_rfl,by as_aux_lemma=>kernel_rfl,by as_aux_lemma=>kernel_rfl,trivial⟩
end qw
namespace oH
def l:List ((Int×Int×Unit)×(Int×Int×Unit)):=[((1,1,()),(4,0,())),((1,2,()),(2,0,())),((1,4,()),(1,0,())),((2,1,()),(2,0,())),((2,2,()),(2,0,())),((2,4,()),(2,0,())),((4,1,()),(1,0,())),((4,2,()),(2,0,())),((4,4,()),(4,0,()))]
def f(lf:Nat)(a0:Int)(a1:Int):Option (Int×Int×Unit):=pick [(.int .i64),(.int .i64)] l (a0,a1,())
def E(lf:Nat):Entry:=⟨[(.int .i64),(.int .i64)],[(.int .i64),(.int .i64)],fun x=>f lf x.1 x.2.1⟩
def tb(lf:Nat):List (FuncId×Entry):=[(62,iO.E lf)]
abbrev an:FuncId→FA:=annsL [(92,⟨annOf [(0,⟨kx 24 [3,5,6,7],[],[]⟩,⟨[],[],[]⟩),(1,⟨kx 24 [3,7,8],[],[]⟩,⟨[],[],[]⟩)],none,[]⟩)]
theorem ok(lf:Nat):Ok 34 (E lf):=okP (an:=an) (tb:=tb lf) (lf:=lf) (tC (iO.ok lf) tN) (aoC aoN) (l:=l) (fun _=>rfl) (fun _=>rfl) ⟨by as_aux_lemma=>kernel_rfl,by as_aux_lemma=>kernel_rfl,by as_aux_lemma=>kernel_rfl,by as_aux_lemma=>kernel_rfl,by as_aux_lemma=>kernel_rfl,by as_aux_lemma=>kernel_rfl,by as_aux_lemma=>kernel_rfl,by as_aux_lemma=>kernel_rfl,by as_aux_lemma=>kernel_rfl,trivial⟩
end oH
namespace qm
def l:List ((Int×Int×Unit)×(Int×Int×Unit)):=[((1,1,()),(6,0,())),((1,2,()),(0,0,())),((1,4,()),(1,0,())),((2,1,()),(2,0,())),((2,2,()),(0,0,())),((2,4,()),(2,0,())),((4,1,()),(1,0,())),((4,2,()),(0,0,())),((4,4,()),(6,0,()))]
def f(lf:Nat)(a0:Int)(a1:Int):Option (Int×Int×Unit):=pick [(.int .i64),(.int .i64)] l (a0,a1,())
def E(lf:Nat):Entry:=⟨[(.int .i64),(.int .i64)],[(.int .i64),(.int .i64)],fun x=>f lf x.1 x.2.1⟩
def tb(lf:Nat):List (FuncId×Entry):=[(62,iO.E lf)]
abbrev an:FuncId→FA:=annsL [(92,⟨annOf [(0,⟨kx 24 [3,5,6,7],[],[]⟩,⟨[],[],[]⟩),(1,⟨kx 24 [3,7,8],[],[]⟩,⟨[],[],[]⟩)],none,[]⟩)]
theorem ok(lf:Nat):Ok 46 (E lf):=okP (an:=an) (tb:=tb lf) (lf:=lf) (tC (iO.ok lf) tN) (aoC aoN) (l:=l) (fun _=>rfl) (fun _=>rfl) ⟨by as_aux_lemma=>kernel_rfl,by as_aux_lemma=>kernel_rfl,by as_aux_lemma=>kernel_rfl,by as_aux_lemma=>kernel_rfl,by as_aux_lemma=>kernel_rfl,by as_aux_lemma=>kernel_rfl,by as_aux_lemma=>kernel_rfl,by as_aux_lemma=>kernel_rfl,by as_aux_lemma=>kernel_rfl,trivial⟩
end qm
namespace qo
def l:List ((Int×Int×Unit)×(Int×Int×Unit)):=[((1,1,()),(3,0,())),((1,2,()),(0,0,())),((1,4,()),(6,0,())),((2,1,()),(2,0,())),((2,2,()),(0,0,())),((2,4,()),(2,0,())),((4,1,()),(3,0,())),((4,2,()),(0,0,())),((4,4,()),(6,0,()))]
def f(lf:Nat)(a0:Int)(a1:Int):Option (Int×Int×Unit):=pick [(.int .i64),(.int .i64)] l (a0,a1,())
def E(lf:Nat):Entry:=⟨[(.int .i64),(.int .i64)],[(.int .i64),(.int .i64)],fun x=>f lf x.1 x.2.1⟩
def tb(lf:Nat):List (FuncId×Entry):=[(62,iO.E lf)]
abbrev an:FuncId→FA:=annsL [(92,⟨annOf [(0,⟨kx 24 [3,5,6,7],[],[]⟩,⟨[],[],[]⟩),(1,⟨kx 24 [3,7,8],[],[]⟩,⟨[],[],[]⟩)],none,[]⟩)]
theorem ok(lf:Nat):Ok 47 (E lf):=okP (an:=an) (tb:=tb lf) (lf:=lf) (tC (iO.ok lf) tN) (aoC aoN) (l:=l) (fun _=>rfl) (fun _=>rfl) ⟨by as_aux_lemma=>kernel_rfl,by as_aux_lemma=>kernel_rfl,by as_aux_lemma=>kernel_rfl,by as_aux_lemma=>kernel_rfl,by as_aux_lemma=>kernel_rfl,by as_aux_lemma=>kernel_rfl,by as_aux_lemma=>kernel_rfl,by as_aux_lemma=>kernel_rfl,by as_aux_lemma=>kernel_rfl,trivial⟩
end qo
end
end Go.Q
