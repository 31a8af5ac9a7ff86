import Derived.Test.YtioemjeplgnccaaGreatDoorProg
import Derived.KernelRfl
import Derived.Test.YtioemjeplgnccaaGreatDoorTDE3
import Derived.Test.YtioemjeplgnccaaGreatDoorTDG2
set_option linter.unusedVariables false
set_option linter.unusedSimpArgs false
set_option linter.unusedSectionVars false
set_option maxRecDepth 100000
namespace Go.Q
open Go.IntKind (i64)
open Go Go.RowKit
open Go.Rx (br bd sIdx sCat sCut iQuo iRem iShl)
noncomputable section
namespace eF
def anns:FuncId→FA:=annsL [(221,⟨annOf [(0,⟨kx 33 [3,4],[],[]⟩,⟨[],[],[]⟩)],none,[]⟩),(256,⟨annOf [(0,⟨kx 19 [0,1,3],[],[]⟩,⟨kx 19 [],[],[]⟩)],none,[]⟩)]
def r0{ρ:Type}(lf:Nat)(v1:List Int)(v2:Int)(v3:List Int)(v0:Int)(K:Int→Option ρ)(E0:Int→Option ρ)(E1:Option ρ):Option ρ :=
 br (decide (v0≥0)) (
 bd (idxL v3 v0) fun y1 =>
 bd (idxL v1 v0) fun y2 =>
 br (y1 != y2) (
 bd (idxL v1 v0) fun y3 =>
 E0 (i64.wrap (y1-y3))) (
 K (i64.wrap (v0-1)))) (
 E1)
def l0(lf:Nat)(v1:List Int)(v2:Int)(v3:List Int):Nat→Int→Option (Bool×(Int×Unit)×(Unit)×Unit)
 | 0,_=>none
 | n+1,v0=>r0 lf v1 v2 v3 v0 (l0 lf v1 v2 v3 n) (fun w0=>some (true,(w0,()),((()),()))) (some (false,(0,()),((()),())))
def sh0:ShS:=⟨[.s (.yld 3),.s (.ptr 2 0),.a 1,.s (.int .i64),.a 15],[.cells [.s (.sl (.int .i64))] 124,.cells [.s (.int .i64)] 3,.cells [.s (.sl (.int .i64))] 124,.rnd [.a 3,.s (.ptr 0 0),.s (.ptr 1 0),.a 28] 221 0 .ready none]⟩
def S0(p:Int×(List Int)×Int×(List Int)×Unit):St:=sh0.b p
def xh0:ShS:=⟨[.a 19],[.cells [.s (.sl (.int .i64))] 124,.cells [.s (.int .i64)] 3,.cells [.s (.sl (.int .i64))] 124,.rnd [.a 3,.s (.ptr 0 0),.s (.ptr 1 0),.a 28] 221 0 .done (some .ret)]⟩
def xh1:ShS:=⟨[.a 19],[.cells [.s (.sl (.int .i64))] 124,.cells [.s (.int .i64)] 3,.cells [.s (.sl (.int .i64))] 124,.rnd [.a 3,.s (.ptr 0 0),.s (.ptr 1 0),.a 28] 221 0 .ready none]⟩
def o0(v1:List Int)(v2:Int)(v3:List Int)(y:Bool×(Int×Unit)×(Unit)×Unit):Alt:=.two y.1 (.one .ret (xh0.b (v1,y.2.1.1,v3,()))) (.one (.exit 0) (xh1.b (v1,v2,v3,())))
def tb(lf:Nat):List (FuncId×Entry):=[]
def oh(lf:Nat):List (Nat×(St→Option LTE)):=[(0,sumE sh0 fun(p:Int×(List Int)×Int×(List Int)×Unit)=>⟨Bool×(Int×Unit)×(Unit)×Unit,l0 lf p.2.1 p.2.2.1 p.2.2.2.1 (lf+40) p.1,o0 p.2.1 p.2.2.1 p.2.2.2.1⟩)]
def ls(lf:Nat):List (Nat×FuncId×Sums):=[(12,256,sumsL (oh lf))]
def it0{ρ:Type}(lf n:Nat)(st:St)(k:KE ρ):Option ρ:=itG anns (ls lf) (tb lf) lf 12 256 0 4 (sumsL (oh lf)) n st k
theorem t0{ρ:Type}(lf n:Nat)(v0:Int)(v1:List Int)(v2:Int)(v3:List Int)(k:KE ρ):it0 lf (n+1) (S0 (v0,v1,v2,v3,())) k=r0 lf v1 v2 v3 v0 (fun x0=>it0 lf n (S0 (x0,v1,v2,v3,())) k) (fun w0=>k .ret (xh0.b (v1,w0,v3,()))) (k (.exit 0) (xh1.b (v1,v2,v3,()))):=by kernel_rfl
theorem u0{ρ:Type}(lf:Nat)(v1:List Int)(v2:Int)(v3:List Int)(k:KE ρ):∀ (n:Nat) (v0:Int),it0 lf n (S0 (v0,v1,v2,v3,())) k=bd (l0 lf v1 v2 v3 n v0) fun y=>altK k (o0 v1 v2 v3 y)
 | 0,_=>by rw[l0,bd_none];rfl
 | n+1,v0=>by
  rw[t0];simp only[l0,r0,u0 lf v1 v2 v3 k n,bd_br,bd_bd,bd_some',bd_none,br_t,br_f,o0,altK]
theorem sl(lf:Nat):SL anns (ls lf) (tb lf) lf (ls lf):=slC (laC (fun _=>by kernel_rfl) (fun _ (x:Int×(List Int)×Int×(List Int)×Unit) k=>dK (u0 lf x.2.1 x.2.2.1 x.2.2.2.1 k (lf+40) x.1)) laN) slN
def f(lf:Nat)(a0:List Int)(a1:List Int):Option (Int×Unit) :=
 br (((a0.length:Nat):Int) !=((a1.length:Nat):Int)) (
 some ((i64.wrap (((a0.length:Nat):Int)-((a1.length:Nat):Int))),())) (
 bd (l0 lf a1 0 a0 (lf+40) (i64.wrap (((a0.length:Nat):Int)-1))) fun z4 =>
 br z4.1 (
 some (z4.2.1.1,())) (
 some (0,())))
def E(lf:Nat):Entry:=⟨[(.sl (.int .i64)),(.sl (.int .i64))],[(.int .i64)],fun x=>f lf x.1 x.2.1⟩
theorem ok(lf:Nat):Ok 221 (E lf):=okL tN (aoC (aoC aoN)) (sl lf) fun x=>by kernel_rfl
end eF
namespace dW
def anns:FuncId→FA:=annsL [(222,⟨annOf [(0,⟨kx 44 [0,1,5,6,13,14],[],[]⟩,⟨kx 44 [4,5],[],[]⟩)],none,[]⟩)]
def r0{ρ:Type}(lf:Nat)(v0 v1:List Int)(v3:Int)(v2 v4:Int)(v5:List Int)(K:Int→Int→(List Int)→Option ρ)(E0:(List Int)→Option ρ):Option ρ :=
 br (decide (v4 < v3)) (
 bd (idxL v0 v4) fun y2 =>
 br (decide (v4 < ((v1.length:Nat):Int))) (
 bd (idxL v1 v4) fun y3 =>
 br (decide ((i64.wrap ((i64.wrap (y2-v2))-y3)) < 0)) (
 bd (idxB v5.length v4) fun j4 =>
 bd (upE v5 j4 fun _=>some (i64.wrap ((i64.wrap ((i64.wrap (y2-v2))-y3))+1000000000))) fun q5 =>
 K 1 (i64.wrap (v4+1)) q5) (
 bd (idxB v5.length v4) fun j7 =>
 bd (upE v5 j7 fun _=>some (i64.wrap ((i64.wrap (y2-v2))-y3))) fun q8 =>
 K 0 (i64.wrap (v4+1)) q8)) (
 br (decide ((i64.wrap (y2-v2)) < 0)) (
 bd (idxB v5.length v4) fun j10 =>
 bd (upE v5 j10 fun _=>some (i64.wrap ((i64.wrap (y2-v2))+1000000000))) fun q11 =>
 K 1 (i64.wrap (v4+1)) q11) (
 bd (idxB v5.length v4) fun j13 =>
 bd (upE v5 j13 fun _=>some (i64.wrap (y2-v2))) fun q14 =>
 K 0 (i64.wrap (v4+1)) q14))) (
 E0 v5)
def l0(lf:Nat)(v0 v1:List Int)(v3:Int):Nat→Int→Int→(List Int)→Option (((List Int)×Unit)×Unit)
 | 0,_,_,_=>none
 | n+1,v2,v4,v5=>r0 lf v0 v1 v3 v2 v4 v5 (l0 lf v0 v1 v3 n) (fun w0=>some ((w0,()),()))
def sh0:ShS:=⟨[.s (.sl (.int .i64)),.s (.sl (.int .i64)),.a 3,.s (.row 0),.s (.int .i64),.a 6,.s (.int .i64),.s (.int .i64),.a 29],[.row (.int .i64) 3 false]⟩
def S0(p:(List Int)×(List Int)×Int×Int×Int×(List Int)×Unit):St:=sh0.b p
def xh0:ShS:=⟨[.a 5,.s (.row 0),.a 38],[.row (.int .i64) 3 false]⟩
def o0(v0 v1:List Int)(v3:Int)(y:((List Int)×Unit)×Unit):Alt:=.one (.exit 0) (xh0.b (y.1.1,()))
def tb(lf:Nat):List (FuncId×Entry):=[(209,bg.E lf)]
def abu(lf:Nat):List (Nat×(St→Option LTE)):=[(0,sumE sh0 fun(p:(List Int)×(List Int)×Int×Int×Int×(List Int)×Unit)=>⟨((List Int)×Unit)×Unit,l0 lf p.1 p.2.1 p.2.2.2.1 (lf+40) p.2.2.1 p.2.2.2.2.1 p.2.2.2.2.2.1,o0 p.1 p.2.1 p.2.2.2.1⟩)]
def ls(lf:Nat):List (Nat×FuncId×Sums):=[(13,222,sumsL (abu lf))]
def it0{ρ:Type}(lf n:Nat)(st:St)(k:KE ρ):Option ρ:=itG anns (ls lf) (tb lf) lf 13 222 0 1 (sumsL (abu lf)) n st k
theorem t0{ρ:Type}(lf n:Nat)(v0 v1:List Int)(v2 v3 v4:Int)(v5:List Int)(k:KE ρ):it0 lf (n+1) (S0 (v0,v1,v2,v3,v4,v5,())) k=r0 lf v0 v1 v3 v2 v4 v5 (fun x0 x1 x2=>it0 lf n (S0 (v0,v1,x0,v3,x1,x2,())) k) (fun w0=>k (.exit 0) (xh0.b (w0,()))):=by kernel_rfl
theorem u0{ρ:Type}(lf:Nat)(v0 v1:List Int)(v3:Int)(k:KE ρ):∀ (n:Nat) (v2 v4:Int) (v5:List Int),it0 lf n (S0 (v0,v1,v2,v3,v4,v5,())) k=bd (l0 lf v0 v1 v3 n v2 v4 v5) fun y=>altK k (o0 v0 v1 v3 y)
 | 0,_,_,_=>by rw[l0,bd_none];rfl
 | n+1,v2,v4,v5=>by
  rw[t0];simp only[l0,r0,u0 lf v0 v1 v3 k n,bd_br,bd_bd,bd_some',bd_none,br_t,br_f,o0,altK]
theorem sl(lf:Nat):SL anns (ls lf) (tb lf) lf (ls lf):=slC (laC (fun _=>by kernel_rfl) (fun _ (x:(List Int)×(List Int)×Int×Int×Int×(List Int)×Unit) k=>dK (u0 lf x.1 x.2.1 x.2.2.2.1 k (lf+40) x.2.2.1 x.2.2.2.2.1 x.2.2.2.2.2.1)) laN) slN
def f(lf:Nat)(a0:List Int)(a1:List Int):Option ((List Int)×Unit) :=
 bd (mkL ((a0.length:Nat):Int) ((a0.length:Nat):Int) 8 0) fun q1 =>
 bd (l0 lf a0 a1 ((q1.length:Nat):Int) (lf+40) 0 0 q1) fun z16 =>
 bd (bg.f lf z16.1.1) fun r17 =>
 some (r17.1,())
def E(lf:Nat):Entry:=⟨[(.sl (.int .i64)),(.sl (.int .i64))],[(.sl (.int .i64))],fun x=>f lf x.1 x.2.1⟩
theorem ok(lf:Nat):Ok 222 (E lf):=okL (tC (bg.ok lf) tN) (aoC aoN) (sl lf) fun x=>by kernel_rfl
end dW
namespace kK
def f(lf:Nat)(a0:List Int)(a1:List Int):Option ((List Int)×Unit) :=
 bd (eF.f lf a0 a1) fun r1 =>
 br (decide (r1.1 < 0)) (
 bd (dW.f lf a1 a0) fun r2 =>
 some (r2.1,())) (
 bd (dW.f lf a0 a1) fun r3 =>
 some (r3.1,()))
def E(lf:Nat):Entry:=⟨[(.sl (.int .i64)),(.sl (.int .i64))],[(.sl (.int .i64))],fun x=>f lf x.1 x.2.1⟩
theorem ok(lf:Nat):Ok 220 (E lf):=okT (an:=(annsL [])) (lf:=lf) (tC (eF.ok lf) (tC (dW.ok lf) tN)) aoN fun x=>by kernel_rfl
end kK
namespace kL
def f(lf:Nat)(a0:TB)(a1:TB):Option (Bool×Unit) :=
 bd (eF.f lf a0.2.1 a1.2.1) fun r1 =>
 some (((decide (r1.1 < 0)) != a0.1),())
def E(lf:Nat):Entry:=⟨[yB,yB],[.bool],fun x=>f lf x.1 x.2.1⟩
theorem ok(lf:Nat):Ok 223 (E lf):=okT (an:=(annsL [])) (lf:=lf) (tC (eF.ok lf) tN) aoN fun x=>by kernel_rfl
end kL
namespace kZ
def f(lf:Nat)(a0:TB)(a1:TB):Option (TB×Unit) :=
 br (a0.1 != a1.1) (
 bd (kL.f lf a0 a1) fun r1 =>
 bd (kK.f lf a0.2.1 a1.2.1) fun r2 =>
 some ((r1.1,r2.1,()),())) (
 bd (kJ.f lf a0 a1) fun r3 =>
 bd (gu.f lf a0.2.1 a1.2.1) fun r4 =>
 some ((r3.1,r4.1,()),()))
def E(lf:Nat):Entry:=⟨[yB,yB],[yB],fun x=>f lf x.1 x.2.1⟩
theorem ok(lf:Nat):Ok 95 (E lf):=okT (an:=(annsL [])) (lf:=lf) (tC (gu.ok lf) (tC (kJ.ok lf) (tC (kK.ok lf) (tC (kL.ok lf) tN)))) aoN fun x=>by kernel_rfl
end kZ
namespace fJ
def f(lf:Nat)(a0:ByteArray)(a1:ByteArray):Option (ByteArray×Int×Unit) :=
 bd (fO.f lf a0 a1) fun r1 =>
 br (r1.2.2.1 != 0) (
 some ((⟨#[]⟩:ByteArray),r1.2.2.1,())) (
 bd (kZ.f lf r1.1 r1.2.1) fun r2 =>
 bd (iD.f lf r2.1) fun r3 =>
 some (r3.1,r3.2.1,()))
def E(lf:Nat):Entry:=⟨[.str,.str],[.str,(.int .i64)],fun x=>f lf x.1 x.2.1⟩
theorem ok(lf:Nat):Ok 35 (E lf):=okT (an:=(annsL [])) (lf:=lf) (tC (fO.ok lf) (tC (iD.ok lf) (tC (kZ.ok lf) tN))) aoN fun x=>by kernel_rfl
end fJ
namespace kQ
def f(lf:Nat)(a0:TB):Option (TB×Unit) :=
 some (((!a0.1),a0.2.1,()),())
def E(lf:Nat):Entry:=⟨[yB],[yB],fun x=>f lf x.1⟩
theorem ok(lf:Nat):Ok 96 (E lf):=okT (an:=(annsL [])) (lf:=lf) tN aoN fun x=>by kernel_rfl
end kQ
namespace fM
def f(lf:Nat)(a0:ByteArray)(a1:ByteArray):Option (ByteArray×Int×Unit) :=
 bd (fO.f lf a0 a1) fun r1 =>
 br (r1.2.2.1 != 0) (
 some ((⟨#[]⟩:ByteArray),r1.2.2.1,())) (
 bd (kQ.f lf r1.2.1) fun r2 =>
 bd (kZ.f lf r1.1 r2.1) fun r3 =>
 bd (iD.f lf r3.1) fun r4 =>
 some (r4.1,r4.2.1,()))
def E(lf:Nat):Entry:=⟨[.str,.str],[.str,(.int .i64)],fun x=>f lf x.1 x.2.1⟩
theorem ok(lf:Nat):Ok 36 (E lf):=okT (an:=(annsL [])) (lf:=lf) (tC (fO.ok lf) (tC (iD.ok lf) (tC (kZ.ok lf) (tC (kQ.ok lf) tN)))) aoN fun x=>by kernel_rfl
end fM
namespace eG
def anns:FuncId→FA:=annsL [(160,⟨annOf [(0,⟨kx 63 [1,5,17,18,19],[],[]⟩,⟨kx 63 [4,5],[],[]⟩),(1,⟨kx 63 [1,5,6,7,8,17,18,19,24,25,26],[],[]⟩,⟨kx 63 [1,4,5,6,8,17,18,19],[],[]⟩)],none,[]⟩)]
def r1{ρ:Type}(lf:Nat)(v0:List Int)(v1 v2:Int)(v4:List Int)(v5 v6:Int)(v7:List Int)(v8:Int)(v3 v9:Int)(v10:List Int)(K:Int→Int→(List Int)→Option ρ)(E0:Int→(List Int)→Option ρ):Option ρ :=
 br (decide (v9 < v8)) (
 bd (idxL v7 v9) fun y3 =>
 bd (idxB v10.length (i64.wrap (v1+v9))) fun j4 =>
 bd (v10[j4]?) fun y5 =>
 bd (iRem (i64.wrap (v3+(i64.wrap (y5+(i64.wrap (v2*y3)))))) 1000000000) fun r6 =>
 bd (iQuo .i64 (i64.wrap (v3+(i64.wrap (y5+(i64.wrap (v2*y3)))))) 1000000000) fun r7 =>
 bd (idxB v10.length (i64.wrap (v1+v9))) fun j8 =>
 bd (upE v10 j8 fun _=>some r6) fun q9 =>
 K r7 (i64.wrap (v9+1)) q9) (
 E0 v3 v10)
def l1(lf:Nat)(v0:List Int)(v1 v2:Int)(v4:List Int)(v5 v6:Int)(v7:List Int)(v8:Int):Nat→Int→Int→(List Int)→Option ((Int×(List Int)×Unit)×Unit)
 | 0,_,_,_=>none
 | n+1,v3,v9,v10=>r1 lf v0 v1 v2 v4 v5 v6 v7 v8 v3 v9 v10 (l1 lf v0 v1 v2 v4 v5 v6 v7 v8 n) (fun w0 w1=>some ((w0,w1,()),()))
def sh1:ShS:=⟨[.a 1,.s (.sl (.int .i64)),.a 3,.s (.row 0),.s (.int .i64),.s (.int .i64),.s (.int .i64),.a 8,.s (.sl (.int .i64)),.s (.int .i64),.s (.int .i64),.a 4,.s (.sl (.int .i64)),.s (.int .i64),.s (.int .i64),.a 36],[.row (.int .i64) 3 false]⟩
def S1(p:(List Int)×Int×Int×Int×(List Int)×Int×Int×(List Int)×Int×Int×(List Int)×Unit):St:=sh1.b p
def xh0:ShS:=⟨[.a 1,.s (.sl (.int .i64)),.a 3,.s (.row 0),.s (.int .i64),.a 1,.s (.int .i64),.a 8,.s (.sl (.int .i64)),.s (.int .i64),.s (.int .i64),.a 43],[.row (.int .i64) 3 false]⟩
def o1(v0:List Int)(v1 v2:Int)(v4:List Int)(v5 v6:Int)(v7:List Int)(v8:Int)(y:(Int×(List Int)×Unit)×Unit):Alt:=.one (.exit 2) (xh0.b (v0,v1,y.1.1,v4,v5,v6,y.1.2.1,()))
def r0{ρ:Type}(lf:Nat)(v0 v1:List Int)(v2:Int)(v3:Int)(v4:List Int)(K:Int→(List Int)→Option ρ)(E0:(List Int)→Option ρ):Option ρ :=
 br (decide (v3 < v2)) (
 bd (idxL v1 v3) fun y2 =>
 bd (l1 lf v0 v3 y2 v1 v2 v3 v0 ((v0.length:Nat):Int) (lf+40) 0 0 v4) fun z11 =>
 bd (idxB z11.1.2.1.length (i64.wrap (v3+((v0.length:Nat):Int)))) fun j12 =>
 bd (upE z11.1.2.1 j12 fun _=>some z11.1.1) fun q13 =>
 K (i64.wrap (v3+1)) q13) (
 E0 v4)
def l0(lf:Nat)(v0 v1:List Int)(v2:Int):Nat→Int→(List Int)→Option (((List Int)×Unit)×Unit)
 | 0,_,_=>none
 | n+1,v3,v4=>r0 lf v0 v1 v2 v3 v4 (l0 lf v0 v1 v2 n) (fun w0=>some ((w0,()),()))
def sh0:ShS:=⟨[.a 1,.s (.sl (.int .i64)),.a 3,.s (.row 0),.a 11,.s (.sl (.int .i64)),.s (.int .i64),.s (.int .i64),.a 43],[.row (.int .i64) 3 false]⟩
def S0(p:(List Int)×(List Int)×Int×Int×(List Int)×Unit):St:=sh0.b p
def xh1:ShS:=⟨[.a 5,.s (.row 0),.a 57],[.row (.int .i64) 3 false]⟩
def o0(v0 v1:List Int)(v2:Int)(y:((List Int)×Unit)×Unit):Alt:=.one (.exit 0) (xh1.b (y.1.1,()))
def tb(lf:Nat):List (FuncId×Entry):=[(209,bg.E lf)]
def yU(lf:Nat):List (Nat×(St→Option LTE)):=[(0,sumE sh0 fun(p:(List Int)×(List Int)×Int×Int×(List Int)×Unit)=>⟨((List Int)×Unit)×Unit,l0 lf p.1 p.2.1 p.2.2.1 (lf+40) p.2.2.2.1 p.2.2.2.2.1,o0 p.1 p.2.1 p.2.2.1⟩),
 (1,sumE sh1 fun(p:(List Int)×Int×Int×Int×(List Int)×Int×Int×(List Int)×Int×Int×(List Int)×Unit)=>⟨(Int×(List Int)×Unit)×Unit,l1 lf p.1 p.2.1 p.2.2.1 p.2.2.2.2.1 p.2.2.2.2.2.1 p.2.2.2.2.2.2.1 p.2.2.2.2.2.2.2.1 p.2.2.2.2.2.2.2.2.1 (lf+40) p.2.2.2.1 p.2.2.2.2.2.2.2.2.2.1 p.2.2.2.2.2.2.2.2.2.2.1,o1 p.1 p.2.1 p.2.2.1 p.2.2.2.2.1 p.2.2.2.2.2.1 p.2.2.2.2.2.2.1 p.2.2.2.2.2.2.2.1 p.2.2.2.2.2.2.2.2.1⟩)]
def ls(lf:Nat):List (Nat×FuncId×Sums):=[(13,160,sumsL (yU lf))]
def it1{ρ:Type}(lf n:Nat)(st:St)(k:KE ρ):Option ρ:=itG anns (ls lf) (tb lf) lf 13 160 1 1 (sumsL (yU lf)) n st k
theorem t1{ρ:Type}(lf n:Nat)(v0:List Int)(v1 v2 v3:Int)(v4:List Int)(v5 v6:Int)(v7:List Int)(v8 v9:Int)(v10:List Int)(k:KE ρ):it1 lf (n+1) (S1 (v0,v1,v2,v3,v4,v5,v6,v7,v8,v9,v10,())) k=r1 lf v0 v1 v2 v4 v5 v6 v7 v8 v3 v9 v10 (fun x0 x1 x2=>it1 lf n (S1 (v0,v1,v2,x0,v4,v5,v6,v7,v8,x1,x2,())) k) (fun w0 w1=>k (.exit 2) (xh0.b (v0,v1,w0,v4,v5,v6,w1,()))):=by kernel_rfl
theorem u1{ρ:Type}(lf:Nat)(v0:List Int)(v1 v2:Int)(v4:List Int)(v5 v6:Int)(v7:List Int)(v8:Int)(k:KE ρ):∀ (n:Nat) (v3 v9:Int) (v10:List Int),it1 lf n (S1 (v0,v1,v2,v3,v4,v5,v6,v7,v8,v9,v10,())) k=bd (l1 lf v0 v1 v2 v4 v5 v6 v7 v8 n v3 v9 v10) fun y=>altK k (o1 v0 v1 v2 v4 v5 v6 v7 v8 y)
 | 0,_,_,_=>by rw[l1,bd_none];rfl
 | n+1,v3,v9,v10=>by
  rw[t1];simp only[l1,r1,u1 lf v0 v1 v2 v4 v5 v6 v7 v8 k n,bd_br,bd_bd,bd_some',bd_none,br_t,br_f,o1,altK]
def it0{ρ:Type}(lf n:Nat)(st:St)(k:KE ρ):Option ρ:=itG anns (ls lf) (tb lf) lf 13 160 0 1 (sumsL (yU lf)) n st k
theorem t0{ρ:Type}(lf n:Nat)(v0 v1:List Int)(v2 v3:Int)(v4:List Int)(k:KE ρ):it0 lf (n+1) (S0 (v0,v1,v2,v3,v4,())) k=r0 lf v0 v1 v2 v3 v4 (fun x0 x1=>it0 lf n (S0 (v0,v1,v2,x0,x1,())) k) (fun w0=>k (.exit 0) (xh1.b (w0,()))):=by kernel_rfl
theorem u0{ρ:Type}(lf:Nat)(v0 v1:List Int)(v2:Int)(k:KE ρ):∀ (n:Nat) (v3:Int) (v4:List Int),it0 lf n (S0 (v0,v1,v2,v3,v4,())) k=bd (l0 lf v0 v1 v2 n v3 v4) fun y=>altK k (o0 v0 v1 v2 y)
 | 0,_,_=>by rw[l0,bd_none];rfl
 | n+1,v3,v4=>by
  rw[t0];simp only[l0,r0,u0 lf v0 v1 v2 k n,bd_br,bd_bd,bd_some',bd_none,br_t,br_f,o0,altK]
theorem sl(lf:Nat):SL anns (ls lf) (tb lf) lf (ls lf):=slC (laC (fun _=>by kernel_rfl) (fun _ (x:(List Int)×(List Int)×Int×Int×(List Int)×Unit) k=>dK (u0 lf x.1 x.2.1 x.2.2.1 k (lf+40) x.2.2.2.1 x.2.2.2.2.1)) (laC (fun _=>by kernel_rfl) (fun _ (x:(List Int)×Int×Int×Int×(List Int)×Int×Int×(List Int)×Int×Int×(List Int)×Unit) k=>dK (u1 lf x.1 x.2.1 x.2.2.1 x.2.2.2.2.1 x.2.2.2.2.2.1 x.2.2.2.2.2.2.1 x.2.2.2.2.2.2.2.1 x.2.2.2.2.2.2.2.2.1 k (lf+40) x.2.2.2.1 x.2.2.2.2.2.2.2.2.2.1 x.2.2.2.2.2.2.2.2.2.2.1)) laN)) slN
def f(lf:Nat)(a0:List Int)(a1:List Int):Option ((List Int)×Unit) :=
 bd (mkL (i64.wrap (((a0.length:Nat):Int)+((a1.length:Nat):Int))) (i64.wrap (((a0.length:Nat):Int)+((a1.length:Nat):Int))) 8 0) fun q1 =>
 bd (l0 lf a1 a0 ((a0.length:Nat):Int) (lf+40) 0 q1) fun z15 =>
 bd (bg.f lf z15.1.1) fun r16 =>
 some (r16.1,())
def E(lf:Nat):Entry:=⟨[(.sl (.int .i64)),(.sl (.int .i64))],[(.sl (.int .i64))],fun x=>f lf x.1 x.2.1⟩
theorem ok(lf:Nat):Ok 160 (E lf):=okL (tC (bg.ok lf) tN) (aoC aoN) (sl lf) fun x=>by kernel_rfl
end eG
namespace nC
def f(lf:Nat)(a0:TB)(a1:TB):Option (TB×Unit) :=
 bd (eG.f lf a0.2.1 a1.2.1) fun r1 =>
 some (((a0.1 != a1.1),r1.1,()),())
def E(lf:Nat):Entry:=⟨[yB,yB],[yB],fun x=>f lf x.1 x.2.1⟩
theorem ok(lf:Nat):Ok 97 (E lf):=okT (an:=(annsL [])) (lf:=lf) (tC (eG.ok lf) tN) aoN fun x=>by kernel_rfl
end nC
end
end Go.Q
namespace Go.Q
open Go.IntKind (i64)
open Go Go.RowKit
open Go.Rx (br bd sIdx sCat sCut iQuo iRem iShl)
noncomputable section
namespace gV
def f(lf:Nat)(a0:ByteArray)(a1:ByteArray):Option (ByteArray×Int×Unit) :=
 bd (fO.f lf a0 a1) fun r1 =>
 br (r1.2.2.1 != 0) (
 some ((⟨#[]⟩:ByteArray),r1.2.2.1,())) (
 bd (nC.f lf r1.1 r1.2.1) fun r2 =>
 bd (iD.f lf r2.1) fun r3 =>
 some (r3.1,r3.2.1,()))
def E(lf:Nat):Entry:=⟨[.str,.str],[.str,(.int .i64)],fun x=>f lf x.1 x.2.1⟩
theorem ok(lf:Nat):Ok 37 (E lf):=okT (an:=(annsL [])) (lf:=lf) (tC (fO.ok lf) (tC (iD.ok lf) (tC (nC.ok lf) tN))) aoN fun x=>by kernel_rfl
end gV
namespace dX
def anns:FuncId→FA:=annsL [(256,⟨annOf [(0,⟨kx 19 [0,1,3],[],[]⟩,⟨kx 19 [],[],[]⟩)],none,[]⟩),(261,⟨annOf [(0,⟨kx 33 [3,6,7],[],[]⟩,⟨[],[],[]⟩)],none,[]⟩)]
def r0{ρ:Type}(lf:Nat)(v1:Int)(v4:List Int)(v0:Int)(v2:List Int)(v3:Int)(K:Int→(List Int)→Int→Option ρ)(E0:(List Int)→Int→Option ρ):Option ρ :=
 br (decide (v0≥0)) (
 bd (idxL v4 v0) fun y2 =>
 bd (iQuo .i64 (i64.wrap ((i64.wrap (v3*1000000000))+y2)) v1) fun r3 =>
 bd (iRem (i64.wrap ((i64.wrap (v3*1000000000))+y2)) v1) fun r4 =>
 bd (idxB v2.length v0) fun j5 =>
 bd (upE v2 j5 fun _=>some r3) fun q6 =>
 K (i64.wrap (v0-1)) q6 r4) (
 E0 v2 v3)
def l0(lf:Nat)(v1:Int)(v4:List Int):Nat→Int→(List Int)→Int→Option (((List Int)×Int×Unit)×Unit)
 | 0,_,_,_=>none
 | n+1,v0,v2,v3=>r0 lf v1 v4 v0 v2 v3 (l0 lf v1 v4 n) (fun w0 w1=>some ((w0,w1,()),()))
def sh0:ShS:=⟨[.s (.yld 5),.s (.ptr 4 0),.a 1,.s (.int .i64),.a 15],[.cells [.s (.int .i64)] 3,.row (.int .i64) 3 false,.cells [.s (.row 1)] 124,.cells [.s (.int .i64)] 3,.cells [.s (.sl (.int .i64))] 124,.rnd [.a 3,.s (.ptr 0 0),.a 2,.s (.ptr 2 0),.s (.ptr 3 0),.a 25] 261 0 .ready none]⟩
def S0(p:Int×Int×(List Int)×Int×(List Int)×Unit):St:=sh0.b p
def xh0:ShS:=⟨[.a 19],[.cells [.s (.int .i64)] 3,.row (.int .i64) 3 false,.cells [.s (.row 1)] 124,.cells [.s (.int .i64)] 3,.cells [.s (.sl (.int .i64))] 124,.rnd [.a 3,.s (.ptr 0 0),.a 2,.s (.ptr 2 0),.s (.ptr 3 0),.a 25] 261 0 .ready none]⟩
def o0(v1:Int)(v4:List Int)(y:((List Int)×Int×Unit)×Unit):Alt:=.one (.exit 0) (xh0.b (v1,y.1.1,y.1.2.1,v4,()))
def tb(lf:Nat):List (FuncId×Entry):=[(209,bg.E lf)]
def oh(lf:Nat):List (Nat×(St→Option LTE)):=[(0,sumE sh0 fun(p:Int×Int×(List Int)×Int×(List Int)×Unit)=>⟨((List Int)×Int×Unit)×Unit,l0 lf p.2.1 p.2.2.2.2.1 (lf+40) p.1 p.2.2.1 p.2.2.2.1,o0 p.2.1 p.2.2.2.2.1⟩)]
def ls(lf:Nat):List (Nat×FuncId×Sums):=[(12,256,sumsL (oh lf))]
def it0{ρ:Type}(lf n:Nat)(st:St)(k:KE ρ):Option ρ:=itG anns (ls lf) (tb lf) lf 12 256 0 6 (sumsL (oh lf)) n st k
theorem t0{ρ:Type}(lf n:Nat)(v0 v1:Int)(v2:List Int)(v3:Int)(v4:List Int)(k:KE ρ):it0 lf (n+1) (S0 (v0,v1,v2,v3,v4,())) k=r0 lf v1 v4 v0 v2 v3 (fun x0 x1 x2=>it0 lf n (S0 (x0,v1,x1,x2,v4,())) k) (fun w0 w1=>k (.exit 0) (xh0.b (v1,w0,w1,v4,()))):=by kernel_rfl
theorem u0{ρ:Type}(lf:Nat)(v1:Int)(v4:List Int)(k:KE ρ):∀ (n:Nat) (v0:Int) (v2:List Int) (v3:Int),it0 lf n (S0 (v0,v1,v2,v3,v4,())) k=bd (l0 lf v1 v4 n v0 v2 v3) fun y=>altK k (o0 v1 v4 y)
 | 0,_,_,_=>by rw[l0,bd_none];rfl
 | n+1,v0,v2,v3=>by
  rw[t0];simp only[l0,r0,u0 lf v1 v4 k n,bd_br,bd_bd,bd_some',bd_none,br_t,br_f,o0,altK]
theorem sl(lf:Nat):SL anns (ls lf) (tb lf) lf (ls lf):=slC (laC (fun _=>by kernel_rfl) (fun _ (x:Int×Int×(List Int)×Int×(List Int)×Unit) k=>dK (u0 lf x.2.1 x.2.2.2.2.1 k (lf+40) x.1 x.2.2.1 x.2.2.2.1)) laN) slN
def f(lf:Nat)(a0:List Int)(a1:Int):Option ((List Int)×Int×Unit) :=
 bd (mkL ((a0.length:Nat):Int) ((a0.length:Nat):Int) 8 0) fun q1 =>
 bd (l0 lf a1 a0 (lf+40) (i64.wrap (((a0.length:Nat):Int)-1)) q1 0) fun z8 =>
 bd (bg.f lf z8.1.1) fun r9 =>
 some (r9.1,z8.1.2.1,())
def E(lf:Nat):Entry:=⟨[(.sl (.int .i64)),(.int .i64)],[(.sl (.int .i64)),(.int .i64)],fun x=>f lf x.1 x.2.1⟩
theorem ok(lf:Nat):Ok 261 (E lf):=okL (tC (bg.ok lf) tN) (aoC (aoC aoN)) (sl lf) fun x=>by kernel_rfl
end dX
end
end Go.Q
