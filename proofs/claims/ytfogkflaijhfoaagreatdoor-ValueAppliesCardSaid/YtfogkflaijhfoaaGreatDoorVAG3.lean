import Derived.Test.YtfogkflaijhfoaaGreatDoorProg
import Derived.KernelRfl
import Derived.Test.YtfogkflaijhfoaaGreatDoorVAE3
import Derived.Test.YtfogkflaijhfoaaGreatDoorVAG1
import Derived.Test.YtfogkflaijhfoaaGreatDoorVAG2
set_option linter.unusedVariables false
set_option linter.unusedSimpArgs false
set_option linter.unusedSectionVars false
set_option maxRecDepth 100000
namespace Go.Q
open Go.IntKind (i64)
open Go Go.RowKit
open Go.Rx (br bd sIdx sCat sCut iQuo iRem)
noncomputable section
namespace jk
def anns:FuncId→FA:=annsL [(370,⟨annOf [(0,⟨kx 54 [0,1,5,6,20,21],[],[]⟩,⟨kx 54 [4,5],[],[]⟩)],none,[]⟩)]
def r0{ρ:Type}(lf:Nat)(v0 v1:List Int)(v3:Int)(v2 v4:Int)(v5:List Int)(K:Int→Int→(List Int)→Option ρ)(E0:(List Int)→Option ρ):Option ρ :=
 br (decide (v4 < v3)) (
 br (decide (v4 < ((v0.length:Nat):Int))) (
 bd (idxL v0 v4) fun y2 =>
 br (decide (v4 < ((v1.length:Nat):Int))) (
 bd (idxL v1 v4) fun y3 =>
 bd (iRem (i64.wrap ((i64.wrap (v2+y2))+y3)) 1000000000) fun r4 =>
 bd (iQuo .i64 (i64.wrap ((i64.wrap (v2+y2))+y3)) 1000000000) fun r5 =>
 bd (idxB v5.length v4) fun j6 =>
 bd (upE v5 j6 fun _=>some r4) fun q7 =>
 K r5 (i64.wrap (v4+1)) q7) (
 bd (iRem (i64.wrap (v2+y2)) 1000000000) fun r9 =>
 bd (iQuo .i64 (i64.wrap (v2+y2)) 1000000000) fun r10 =>
 bd (idxB v5.length v4) fun j11 =>
 bd (upE v5 j11 fun _=>some r9) fun q12 =>
 K r10 (i64.wrap (v4+1)) q12)) (
 br (decide (v4 < ((v1.length:Nat):Int))) (
 bd (idxL v1 v4) fun y14 =>
 bd (iRem (i64.wrap (v2+y14)) 1000000000) fun r15 =>
 bd (iQuo .i64 (i64.wrap (v2+y14)) 1000000000) fun r16 =>
 bd (idxB v5.length v4) fun j17 =>
 bd (upE v5 j17 fun _=>some r15) fun q18 =>
 K r16 (i64.wrap (v4+1)) q18) (
 bd (iRem v2 1000000000) fun r20 =>
 bd (iQuo .i64 v2 1000000000) fun r21 =>
 bd (idxB v5.length v4) fun j22 =>
 bd (upE v5 j22 fun _=>some r20) fun q23 =>
 K r21 (i64.wrap (v4+1)) q23))) (
 E0 v5)
def l0(lf:Nat)(v0 v1:List Int)(v3:Int):Nat→Int→Int→(List Int)→Option (((List Int)×Unit)×Unit)
 | 0,_,_,_=>none
 | n+1,v2,v4,v5=>r0 lf v0 v1 v3 v2 v4 v5 (l0 lf v0 v1 v3 n) (fun w0=>some ((w0,()),()))
def sh0:ShS:=⟨[.s (.sl (.int .i64)),.s (.sl (.int .i64)),.a 3,.s (.row 0),.s (.int .i64),.a 13,.s (.int .i64),.s (.int .i64),.a 32],[.row (.int .i64) 3 false]⟩
def S0(p:(List Int)×(List Int)×Int×Int×Int×(List Int)×Unit):St:=sh0.b p
def xh0:ShS:=⟨[.a 5,.s (.row 0),.a 48],[.row (.int .i64) 3 false]⟩
def o0(v0 v1:List Int)(v3:Int)(y:((List Int)×Unit)×Unit):Alt:=.one (.exit 0) (xh0.b (y.1.1,()))
def tb(lf:Nat):List (FuncId×Entry):=[(367,bF.E lf)]
def ahF(lf:Nat):List (Nat×(St→Option LTE)):=[(0,sumE sh0 fun(p:(List Int)×(List Int)×Int×Int×Int×(List Int)×Unit)=>⟨((List Int)×Unit)×Unit,l0 lf p.1 p.2.1 p.2.2.2.1 (lf+40) p.2.2.1 p.2.2.2.2.1 p.2.2.2.2.2.1,o0 p.1 p.2.1 p.2.2.2.1⟩)]
def ls(lf:Nat):List (Nat×FuncId×Sums):=[(13,370,sumsL (ahF lf))]
def it0{ρ:Type}(lf n:Nat)(st:St)(k:KE ρ):Option ρ:=itG anns (ls lf) (tb lf) lf 13 370 0 1 (sumsL (ahF lf)) n st k
theorem t0{ρ:Type}(lf n:Nat)(v0 v1:List Int)(v2 v3 v4:Int)(v5:List Int)(k:KE ρ):it0 lf (n+1) (S0 (v0,v1,v2,v3,v4,v5,())) k=r0 lf v0 v1 v3 v2 v4 v5 (fun x0 x1 x2=>it0 lf n (S0 (v0,v1,x0,v3,x1,x2,())) k) (fun w0=>k (.exit 0) (xh0.b (w0,()))):=by kernel_rfl
theorem u0{ρ:Type}(lf:Nat)(v0 v1:List Int)(v3:Int)(k:KE ρ):∀ (n:Nat) (v2 v4:Int) (v5:List Int),it0 lf n (S0 (v0,v1,v2,v3,v4,v5,())) k=bd (l0 lf v0 v1 v3 n v2 v4 v5) fun y=>altK k (o0 v0 v1 v3 y)
 | 0,_,_,_=>by rw[l0,aU];rfl
 | n+1,v2,v4,v5=>by
  rw[t0];simp only[l0,r0,u0 lf v0 v1 v3 k n,iD,iC,bW,aU,br_t,br_f,o0,altK]
theorem sl(lf:Nat):SL anns (ls lf) (tb lf) lf (ls lf):=slC (laC (fun _=>by kernel_rfl) (fun _ (x:(List Int)×(List Int)×Int×Int×Int×(List Int)×Unit) k=>dY (u0 lf x.1 x.2.1 x.2.2.2.1 k (lf+40) x.2.2.1 x.2.2.2.2.1 x.2.2.2.2.2.1)) laN) slN
def f(lf:Nat)(a0:List Int)(a1:List Int):Option ((List Int)×Unit) :=
 br (decide (((a0.length:Nat):Int) < ((a1.length:Nat):Int))) (
 bd (mkL (i64.wrap (((a1.length:Nat):Int)+1)) (i64.wrap (((a1.length:Nat):Int)+1)) 8 0) fun q1 =>
 bd (l0 lf a1 a0 ((q1.length:Nat):Int) (lf+40) 0 0 q1) fun z25 =>
 bd (bF.f lf z25.1.1) fun r26 =>
 some (r26.1,())) (
 bd (mkL (i64.wrap (((a0.length:Nat):Int)+1)) (i64.wrap (((a0.length:Nat):Int)+1)) 8 0) fun q27 =>
 bd (l0 lf a0 a1 ((q27.length:Nat):Int) (lf+40) 0 0 q27) fun z28 =>
 bd (bF.f lf z28.1.1) fun r29 =>
 some (r29.1,()))
def E(lf:Nat):Entry:=⟨[(.sl (.int .i64)),(.sl (.int .i64))],[(.sl (.int .i64))],fun x=>f lf x.1 x.2.1⟩
theorem ok(lf:Nat):Ok 370 (E lf):=okL (tC (bF.ok lf) tN) (aoC aoN) (sl lf) fun x=>by kernel_rfl
end jk
namespace gu
def anns:FuncId→FA:=annsL [(374,⟨annOf [(0,⟨kx 44 [0,1,5,6,13,14],[],[]⟩,⟨kx 44 [4,5],[],[]⟩)],none,[]⟩)]
def r0{ρ:Type}(lf:Nat)(v0 v1:List Int)(v3:Int)(v2 v4:Int)(v5:List Int)(K:Int→Int→(List Int)→Option ρ)(E0:(List Int)→Option ρ):Option ρ :=
 br (decide (v4 < v3)) (
 bd (idxL v0 v4) fun y2 =>
 br (decide (v4 < ((v1.length:Nat):Int))) (
 bd (idxL v1 v4) fun y3 =>
 br (decide ((i64.wrap ((i64.wrap (y2-v2))-y3)) < 0)) (
 bd (idxB v5.length v4) fun j4 =>
 bd (upE v5 j4 fun _=>some (i64.wrap ((i64.wrap ((i64.wrap (y2-v2))-y3))+1000000000))) fun q5 =>
 K 1 (i64.wrap (v4+1)) q5) (
 bd (idxB v5.length v4) fun j7 =>
 bd (upE v5 j7 fun _=>some (i64.wrap ((i64.wrap (y2-v2))-y3))) fun q8 =>
 K 0 (i64.wrap (v4+1)) q8)) (
 br (decide ((i64.wrap (y2-v2)) < 0)) (
 bd (idxB v5.length v4) fun j10 =>
 bd (upE v5 j10 fun _=>some (i64.wrap ((i64.wrap (y2-v2))+1000000000))) fun q11 =>
 K 1 (i64.wrap (v4+1)) q11) (
 bd (idxB v5.length v4) fun j13 =>
 bd (upE v5 j13 fun _=>some (i64.wrap (y2-v2))) fun q14 =>
 K 0 (i64.wrap (v4+1)) q14))) (
 E0 v5)
def l0(lf:Nat)(v0 v1:List Int)(v3:Int):Nat→Int→Int→(List Int)→Option (((List Int)×Unit)×Unit)
 | 0,_,_,_=>none
 | n+1,v2,v4,v5=>r0 lf v0 v1 v3 v2 v4 v5 (l0 lf v0 v1 v3 n) (fun w0=>some ((w0,()),()))
def sh0:ShS:=⟨[.s (.sl (.int .i64)),.s (.sl (.int .i64)),.a 3,.s (.row 0),.s (.int .i64),.a 6,.s (.int .i64),.s (.int .i64),.a 29],[.row (.int .i64) 3 false]⟩
def S0(p:(List Int)×(List Int)×Int×Int×Int×(List Int)×Unit):St:=sh0.b p
def xh0:ShS:=⟨[.a 5,.s (.row 0),.a 38],[.row (.int .i64) 3 false]⟩
def o0(v0 v1:List Int)(v3:Int)(y:((List Int)×Unit)×Unit):Alt:=.one (.exit 0) (xh0.b (y.1.1,()))
def tb(lf:Nat):List (FuncId×Entry):=[(367,bF.E lf)]
def ahG(lf:Nat):List (Nat×(St→Option LTE)):=[(0,sumE sh0 fun(p:(List Int)×(List Int)×Int×Int×Int×(List Int)×Unit)=>⟨((List Int)×Unit)×Unit,l0 lf p.1 p.2.1 p.2.2.2.1 (lf+40) p.2.2.1 p.2.2.2.2.1 p.2.2.2.2.2.1,o0 p.1 p.2.1 p.2.2.2.1⟩)]
def ls(lf:Nat):List (Nat×FuncId×Sums):=[(13,374,sumsL (ahG lf))]
def it0{ρ:Type}(lf n:Nat)(st:St)(k:KE ρ):Option ρ:=itG anns (ls lf) (tb lf) lf 13 374 0 1 (sumsL (ahG lf)) n st k
theorem t0{ρ:Type}(lf n:Nat)(v0 v1:List Int)(v2 v3 v4:Int)(v5:List Int)(k:KE ρ):it0 lf (n+1) (S0 (v0,v1,v2,v3,v4,v5,())) k=r0 lf v0 v1 v3 v2 v4 v5 (fun x0 x1 x2=>it0 lf n (S0 (v0,v1,x0,v3,x1,x2,())) k) (fun w0=>k (.exit 0) (xh0.b (w0,()))):=by kernel_rfl
theorem u0{ρ:Type}(lf:Nat)(v0 v1:List Int)(v3:Int)(k:KE ρ):∀ (n:Nat) (v2 v4:Int) (v5:List Int),it0 lf n (S0 (v0,v1,v2,v3,v4,v5,())) k=bd (l0 lf v0 v1 v3 n v2 v4 v5) fun y=>altK k (o0 v0 v1 v3 y)
 | 0,_,_,_=>by rw[l0,aU];rfl
 | n+1,v2,v4,v5=>by
  rw[t0];simp only[l0,r0,u0 lf v0 v1 v3 k n,iD,iC,bW,aU,br_t,br_f,o0,altK]
theorem sl(lf:Nat):SL anns (ls lf) (tb lf) lf (ls lf):=slC (laC (fun _=>by kernel_rfl) (fun _ (x:(List Int)×(List Int)×Int×Int×Int×(List Int)×Unit) k=>dY (u0 lf x.1 x.2.1 x.2.2.2.1 k (lf+40) x.2.2.1 x.2.2.2.2.1 x.2.2.2.2.2.1)) laN) slN
def f(lf:Nat)(a0:List Int)(a1:List Int):Option ((List Int)×Unit) :=
 bd (mkL ((a0.length:Nat):Int) ((a0.length:Nat):Int) 8 0) fun q1 =>
 bd (l0 lf a0 a1 ((q1.length:Nat):Int) (lf+40) 0 0 q1) fun z16 =>
 bd (bF.f lf z16.1.1) fun r17 =>
 some (r17.1,())
def E(lf:Nat):Entry:=⟨[(.sl (.int .i64)),(.sl (.int .i64))],[(.sl (.int .i64))],fun x=>f lf x.1 x.2.1⟩
theorem ok(lf:Nat):Ok 374 (E lf):=okL (tC (bF.ok lf) tN) (aoC aoN) (sl lf) fun x=>by kernel_rfl
end gu
namespace bT
def f(lf:Nat)(a0:TB)(a1:TB):Option (TB×TB×Unit) :=
 bd (aB.f lf a0.2.1 a1.2.1) fun r1 =>
 br (a0.1==a1.1) (
 some ((false,r1.1,()),(a1.1,r1.2.1,()),())) (
 br (decide (((r1.2.1.length:Nat):Int) > 0)) (
 bd (jk.f lf r1.1 [1]) fun r2 =>
 bd (gu.f lf a1.2.1 r1.2.1) fun r3 =>
 some ((true,r2.1,()),(a1.1,r3.1,()),())) (
 some ((true,r1.1,()),(a1.1,r1.2.1,()),())))
def E(lf:Nat):Entry:=⟨[yB,yB],[yB,yB],fun x=>f lf x.1 x.2.1⟩
theorem ok(lf:Nat):Ok 337 (E lf):=okT (an:=(annsL [])) (lf:=lf) (tC (aB.ok lf) (tC (jk.ok lf) (tC (gu.ok lf) tN))) aoN fun x=>by kernel_rfl
end bT
namespace lV
def f(lf:Nat)(a0:ByteArray)(a1:ByteArray):Option (ByteArray×ByteArray×Int×Unit) :=
 bd (fK.f lf a0 a1) fun r1 =>
 br (r1.2.2.1 != 0) (
 some ((⟨#[]⟩:ByteArray),(⟨#[]⟩:ByteArray),r1.2.2.1,())) (
 br (((r1.2.1.2.1.length:Nat):Int)==0) (
 some ((⟨#[]⟩:ByteArray),(⟨#[]⟩:ByteArray),19,())) (
 bd (bT.f lf r1.1 r1.2.1) fun r2 =>
 bd (aG.f lf r2.1) fun r3 =>
 bd (aG.f lf r2.2.1) fun r4 =>
 some (r3.1,r4.1,0,())))
def E(lf:Nat):Entry:=⟨[.str,.str],[.str,.str,(.int .i64)],fun x=>f lf x.1 x.2.1⟩
theorem ok(lf:Nat):Ok 279 (E lf):=okT (an:=(annsL [])) (lf:=lf) (tC (fK.ok lf) (tC (aG.ok lf) (tC (bT.ok lf) tN))) aoN fun x=>by kernel_rfl
end lV
namespace iR
def f(lf:Nat)(a0:ByteArray)(a1:ByteArray):Option (ByteArray×Int×Unit) :=
 bd (lV.f lf a0 a1) fun r1 =>
 some (r1.2.1,r1.2.2.1,())
def E(lf:Nat):Entry:=⟨[.str,.str],[.str,(.int .i64)],fun x=>f lf x.1 x.2.1⟩
theorem ok(lf:Nat):Ok 186 (E lf):=okT (an:=(annsL [])) (lf:=lf) (tC (lV.ok lf) tN) aoN fun x=>by kernel_rfl
end iR
namespace uF
def f(lf:Nat)(a0:ByteArray):Option (ByteArray×Int×Unit) :=
 bd (dZ.f lf a0) fun r1 =>
 br (r1.1 != 0) (
 some ((⟨#[]⟩:ByteArray),r1.1,())) (
 bd (strings_TrimPrefix.f lf a0 (⟨#[45]⟩:ByteArray)) fun r2 =>
 some (r2.1,0,()))
def E(lf:Nat):Entry:=⟨[.str],[.str,(.int .i64)],fun x=>f lf x.1⟩
theorem ok(lf:Nat):Ok 207 (E lf):=okT (an:=(annsL [])) (lf:=lf) (tC (dZ.ok lf) (tC (strings_TrimPrefix.ok lf) tN)) aoN fun x=>by kernel_rfl
end uF
namespace gQ
def anns:FuncId→FA:=annsL [(291,⟨annOf [(0,⟨kx 19 [0,1],[],[]⟩,⟨kx 19 [0,4],[],[]⟩)],none,[]⟩)]
def r0{ρ:Type}(lf:Nat)(v0 v1:List Int)(K:(List Int)→(List Int)→Option ρ)(E0:(List Int)→Option ρ):Option ρ :=
 br (decide (((v1.length:Nat):Int) > 0)) (
 bd (aB.f lf v0 v1) fun r1 =>
 K v1 r1.2.1) (
 E0 v0)
def l0(lf:Nat):Nat→(List Int)→(List Int)→Option (((List Int)×Unit)×Unit)
 | 0,_,_=>none
 | n+1,v0,v1=>r0 lf v0 v1 (l0 lf n) (fun w0=>some ((w0,()),()))
def sh0:ShS:=⟨[.s (.sl (.int .i64)),.s (.sl (.int .i64)),.a 17],[]⟩
def S0(p:(List Int)×(List Int)×Unit):St:=sh0.b p
def xh0:ShS:=⟨[.s (.sl (.int .i64)),.a 18],[]⟩
def o0(y:((List Int)×Unit)×Unit):Alt:=.one (.exit 0) (xh0.b (y.1.1,()))
def tb(lf:Nat):List (FuncId×Entry):=[(340,aB.E lf)]
def ahB(lf:Nat):List (Nat×(St→Option LTE)):=[(0,sumE sh0 fun(p:(List Int)×(List Int)×Unit)=>⟨((List Int)×Unit)×Unit,l0 lf (lf+40) p.1 p.2.1,o0⟩)]
def ls(lf:Nat):List (Nat×FuncId×Sums):=[(13,291,sumsL (ahB lf))]
def it0{ρ:Type}(lf n:Nat)(st:St)(k:KE ρ):Option ρ:=itG anns (ls lf) (tb lf) lf 13 291 0 0 (sumsL (ahB lf)) n st k
theorem t0{ρ:Type}(lf n:Nat)(v0 v1:List Int)(k:KE ρ):it0 lf (n+1) (S0 (v0,v1,())) k=r0 lf v0 v1 (fun x0 x1=>it0 lf n (S0 (x0,x1,())) k) (fun w0=>k (.exit 0) (xh0.b (w0,()))):=by kernel_rfl
theorem u0{ρ:Type}(lf:Nat)(k:KE ρ):∀ (n:Nat) (v0 v1:List Int),it0 lf n (S0 (v0,v1,())) k=bd (l0 lf n v0 v1) fun y=>altK k (o0 y)
 | 0,_,_=>by rw[l0,aU];rfl
 | n+1,v0,v1=>by
  rw[t0];simp only[l0,r0,u0 lf k n,iD,iC,bW,aU,br_t,br_f,o0,altK]
theorem sl(lf:Nat):SL anns (ls lf) (tb lf) lf (ls lf):=slC (laC (fun _=>by kernel_rfl) (fun _ (x:(List Int)×(List Int)×Unit) k=>dY (u0 lf k (lf+40) x.1 x.2.1)) laN) slN
def f(lf:Nat)(a0:List Int)(a1:List Int):Option ((List Int)×Unit) :=
 bd (l0 lf (lf+40) a0 a1) fun z2 =>
 some (z2.1.1,())
def E(lf:Nat):Entry:=⟨[(.sl (.int .i64)),(.sl (.int .i64))],[(.sl (.int .i64))],fun x=>f lf x.1 x.2.1⟩
theorem ok(lf:Nat):Ok 291 (E lf):=okL (tC (aB.ok lf) tN) (aoC aoN) (sl lf) fun x=>by kernel_rfl
end gQ
namespace uG
def f(lf:Nat)(a0:ByteArray)(a1:ByteArray):Option (ByteArray×Int×Unit) :=
 bd (fK.f lf a0 a1) fun r1 =>
 br (r1.2.2.1 != 0) (
 some ((⟨#[]⟩:ByteArray),r1.2.2.1,())) (
 bd (gQ.f lf r1.1.2.1 r1.2.1.2.1) fun r2 =>
 bd (aG.f lf (false,r2.1,())) fun r3 =>
 some (r3.1,0,()))
def E(lf:Nat):Entry:=⟨[.str,.str],[.str,(.int .i64)],fun x=>f lf x.1 x.2.1⟩
theorem ok(lf:Nat):Ok 210 (E lf):=okT (an:=(annsL [])) (lf:=lf) (tC (fK.ok lf) (tC (gQ.ok lf) (tC (aG.ok lf) tN))) aoN fun x=>by kernel_rfl
end uG
namespace lW
def f(lf:Nat)(a0:TB):Option (Int×Unit) :=
 br (((a0.2.1.length:Nat):Int)==0) (
 some (0,())) (
 bd (idxL a0.2.1 (i64.wrap (((a0.2.1.length:Nat):Int)-1))) fun y1 =>
 bd (B.Itoa.f lf y1) fun r2 =>
 some ((i64.wrap ((i64.wrap ((i64.wrap (((a0.2.1.length:Nat):Int)-1))*9))+((r2.1.size:Nat):Int))),()))
def E(lf:Nat):Entry:=⟨[yB],[(.int .i64)],fun x=>f lf x.1⟩
theorem ok(lf:Nat):Ok 334 (E lf):=okT (an:=(annsL [])) (lf:=lf) (tC (B.Itoa.ok lf) tN) aoN fun x=>by kernel_rfl
end lW
namespace iT
def f(lf:Nat)(a0:TB):Option (ByteArray×Int×Unit) :=
 bd (lW.f lf a0) fun r1 =>
 br (decide (r1.1 > 4096)) (
 some ((⟨#[]⟩:ByteArray),10,())) (
 bd (aG.f lf a0) fun r2 =>
 some (r2.1,0,()))
def E(lf:Nat):Entry:=⟨[yB],[.str,(.int .i64)],fun x=>f lf x.1⟩
theorem ok(lf:Nat):Ok 275 (E lf):=okT (an:=(annsL [])) (lf:=lf) (tC (aG.ok lf) (tC (lW.ok lf) tN)) aoN fun x=>by kernel_rfl
end iT
namespace nH
def f(lf:Nat)(a0:TB)(a1:TB):Option (Bool×Unit) :=
 some (a0.1,())
def E(lf:Nat):Entry:=⟨[yB,yB],[.bool],fun x=>f lf x.1 x.2.1⟩
theorem ok(lf:Nat):Ok 371 (E lf):=okT (an:=(annsL [])) (lf:=lf) tN aoN fun x=>by kernel_rfl
end nH
namespace nI
def f(lf:Nat)(a0:List Int)(a1:List Int):Option ((List Int)×Unit) :=
 bd (gZ.f lf a0 a1) fun r1 =>
 br (decide (r1.1 < 0)) (
 bd (gu.f lf a1 a0) fun r2 =>
 some (r2.1,())) (
 bd (gu.f lf a0 a1) fun r3 =>
 some (r3.1,()))
def E(lf:Nat):Entry:=⟨[(.sl (.int .i64)),(.sl (.int .i64))],[(.sl (.int .i64))],fun x=>f lf x.1 x.2.1⟩
theorem ok(lf:Nat):Ok 372 (E lf):=okT (an:=(annsL [])) (lf:=lf) (tC (gZ.ok lf) (tC (gu.ok lf) tN)) aoN fun x=>by kernel_rfl
end nI
namespace nJ
def f(lf:Nat)(a0:TB)(a1:TB):Option (Bool×Unit) :=
 bd (gZ.f lf a0.2.1 a1.2.1) fun r1 =>
 some (((decide (r1.1 < 0)) != a0.1),())
def E(lf:Nat):Entry:=⟨[yB,yB],[.bool],fun x=>f lf x.1 x.2.1⟩
theorem ok(lf:Nat):Ok 375 (E lf):=okT (an:=(annsL [])) (lf:=lf) (tC (gZ.ok lf) tN) aoN fun x=>by kernel_rfl
end nJ
namespace fM
def f(lf:Nat)(a0:TB)(a1:TB):Option (TB×Unit) :=
 br (a0.1 != a1.1) (
 bd (nJ.f lf a0 a1) fun r1 =>
 bd (nI.f lf a0.2.1 a1.2.1) fun r2 =>
 some ((r1.1,r2.1,()),())) (
 bd (nH.f lf a0 a1) fun r3 =>
 bd (jk.f lf a0.2.1 a1.2.1) fun r4 =>
 some ((r3.1,r4.1,()),()))
def E(lf:Nat):Entry:=⟨[yB,yB],[yB],fun x=>f lf x.1 x.2.1⟩
theorem ok(lf:Nat):Ok 276 (E lf):=okT (an:=(annsL [])) (lf:=lf) (tC (jk.ok lf) (tC (nH.ok lf) (tC (nI.ok lf) (tC (nJ.ok lf) tN)))) aoN fun x=>by kernel_rfl
end fM
namespace nC
def f(lf:Nat)(a0:ByteArray)(a1:ByteArray):Option (ByteArray×Int×Unit) :=
 bd (fK.f lf a0 a1) fun r1 =>
 br (r1.2.2.1 != 0) (
 some ((⟨#[]⟩:ByteArray),r1.2.2.1,())) (
 bd (fM.f lf r1.1 r1.2.1) fun r2 =>
 bd (iT.f lf r2.1) fun r3 =>
 some (r3.1,r3.2.1,()))
def E(lf:Nat):Entry:=⟨[.str,.str],[.str,(.int .i64)],fun x=>f lf x.1 x.2.1⟩
theorem ok(lf:Nat):Ok 182 (E lf):=okT (an:=(annsL [])) (lf:=lf) (tC (fK.ok lf) (tC (iT.ok lf) (tC (fM.ok lf) tN))) aoN fun x=>by kernel_rfl
end nC
namespace dn
def f(lf:Nat)(a0:TB):Option (TB×Unit) :=
 some (((!a0.1),a0.2.1,()),())
def E(lf:Nat):Entry:=⟨[yB],[yB],fun x=>f lf x.1⟩
theorem ok(lf:Nat):Ok 277 (E lf):=okT (an:=(annsL [])) (lf:=lf) tN aoN fun x=>by kernel_rfl
end dn
namespace oz
def f(lf:Nat)(a0:TB):Option (Int×Unit) :=
 br (((a0.2.1.length:Nat):Int)==0) (
 some (0,())) (
 br a0.1 (
 some ((-1),())) (
 some (1,())))
def E(lf:Nat):Entry:=⟨[yB],[(.int .i64)],fun x=>f lf x.1⟩
theorem ok(lf:Nat):Ok 338 (E lf):=okT (an:=(annsL [])) (lf:=lf) tN aoN fun x=>by kernel_rfl
end oz
end
end Go.Q
namespace Go.Q
open Go Go.RowKit
open Go.Rx (br bd sIdx sCat sCut iQuo iRem)
noncomputable section
namespace iE
def f(lf:Nat)(a0:ByteArray)(a1:ByteArray):Option (Int×Int×Unit) :=
 bd (fK.f lf a0 a1) fun r1 =>
 br (r1.2.2.1 != 0) (
 some (0,r1.2.2.1,())) (
 bd (dn.f lf r1.2.1) fun r2 =>
 bd (fM.f lf r1.1 r2.1) fun r3 =>
 bd (oz.f lf r3.1) fun r4 =>
 some (r4.1,0,()))
def E(lf:Nat):Entry:=⟨[.str,.str],[(.int .i64),(.int .i64)],fun x=>f lf x.1 x.2.1⟩
theorem ok(lf:Nat):Ok 280 (E lf):=okT (an:=(annsL [])) (lf:=lf) (tC (fK.ok lf) (tC (fM.ok lf) (tC (dn.ok lf) (tC (oz.ok lf) tN)))) aoN fun x=>by kernel_rfl
end iE
namespace oD
def f(lf:Nat)(a0:ByteArray)(a1:ByteArray):Option (ByteArray×Int×Unit) :=
 bd (fK.f lf a0 a1) fun r1 =>
 br (r1.2.2.1 != 0) (
 some ((⟨#[]⟩:ByteArray),r1.2.2.1,())) (
 bd (dn.f lf r1.2.1) fun r2 =>
 bd (fM.f lf r1.1 r2.1) fun r3 =>
 bd (iT.f lf r3.1) fun r4 =>
 some (r4.1,r4.2.1,()))
def E(lf:Nat):Entry:=⟨[.str,.str],[.str,(.int .i64)],fun x=>f lf x.1 x.2.1⟩
theorem ok(lf:Nat):Ok 183 (E lf):=okT (an:=(annsL [])) (lf:=lf) (tC (fK.ok lf) (tC (iT.ok lf) (tC (fM.ok lf) (tC (dn.ok lf) tN)))) aoN fun x=>by kernel_rfl
end oD
namespace dL
def f(lf:Nat)(a0:TB)(a1:TB):Option (TB×Unit) :=
 bd (fP.f lf a0.2.1 a1.2.1) fun r1 =>
 some (((a0.1 != a1.1),r1.1,()),())
def E(lf:Nat):Entry:=⟨[yB,yB],[yB],fun x=>f lf x.1 x.2.1⟩
theorem ok(lf:Nat):Ok 278 (E lf):=okT (an:=(annsL [])) (lf:=lf) (tC (fP.ok lf) tN) aoN fun x=>by kernel_rfl
end dL
namespace oV
def f(lf:Nat)(a0:ByteArray)(a1:ByteArray):Option (ByteArray×Int×Unit) :=
 bd (fK.f lf a0 a1) fun r1 =>
 br (r1.2.2.1 != 0) (
 some ((⟨#[]⟩:ByteArray),r1.2.2.1,())) (
 bd (dL.f lf r1.1 r1.2.1) fun r2 =>
 bd (iT.f lf r2.1) fun r3 =>
 some (r3.1,r3.2.1,()))
def E(lf:Nat):Entry:=⟨[.str,.str],[.str,(.int .i64)],fun x=>f lf x.1 x.2.1⟩
theorem ok(lf:Nat):Ok 184 (E lf):=okT (an:=(annsL [])) (lf:=lf) (tC (fK.ok lf) (tC (iT.ok lf) (tC (dL.ok lf) tN))) aoN fun x=>by kernel_rfl
end oV
namespace uI
def f(lf:Nat)(a0:ByteArray):Option (ByteArray×Int×Unit) :=
 bd (oD.f lf (⟨#[48]⟩:ByteArray) a0) fun r1 =>
 some (r1.1,r1.2.1,())
def E(lf:Nat):Entry:=⟨[.str],[.str,(.int .i64)],fun x=>f lf x.1⟩
theorem ok(lf:Nat):Ok 348 (E lf):=okT (an:=(annsL [])) (lf:=lf) (tC (oD.ok lf) tN) aoN fun x=>by kernel_rfl
end uI
namespace lU
def f(lf:Nat)(a0:ByteArray)(a1:ByteArray):Option (ByteArray×Int×Unit) :=
 bd (lV.f lf a0 a1) fun r1 =>
 some (r1.1,r1.2.2.1,())
def E(lf:Nat):Entry:=⟨[.str,.str],[.str,(.int .i64)],fun x=>f lf x.1 x.2.1⟩
theorem ok(lf:Nat):Ok 185 (E lf):=okT (an:=(annsL [])) (lf:=lf) (tC (lV.ok lf) tN) aoN fun x=>by kernel_rfl
end lU
namespace yH
def f(lf:Nat)(a0:Int):Option (ByteArray×Unit) :=
 bd (B.Itoa.f lf a0) fun r1 =>
 some (r1.1,())
def E(lf:Nat):Entry:=⟨[(.int .i64)],[.str],fun x=>f lf x.1⟩
theorem ok(lf:Nat):Ok 366 (E lf):=okT (an:=(annsL [])) (lf:=lf) (tC (B.Itoa.ok lf) tN) aoN fun x=>by kernel_rfl
end yH
end
end Go.Q
namespace Go.Q
open Go Go.RowKit
open Go.Rx (br bd sIdx sCat sCut iQuo iRem)
noncomputable section
namespace dK
def anns:FuncId→FA:=annsL [(327,⟨annOf [(0,⟨kx 110 [8,9,12,13,14,15],[],[]⟩,⟨kx 110 [4,5,6,7,8,9,12,14],[],[]⟩)],none,[]⟩)]
def r2{ρ:Type}(lf:Nat)(v0:Bool)(v1:List Int)(v2:Bool)(v3 v8:List Int)(v4:Bool)(v5:List Int)(v6:Bool)(v7:List Int)(v9:Bool)(v10:List Int)(v11:Bool)(v12:List Int)(K:Bool→(List Int)→Bool→(List Int)→Bool→(List Int)→Bool→(List Int)→Option ρ)(E0:Bool→(List Int)→Bool→(List Int)→Bool→(List Int)→Bool→(List Int)→(List Int)→Bool→(List Int)→Bool→(List Int)→Option ρ):Option ρ :=
 br (decide (((v7.length:Nat):Int) > 0)) (
 bd (bT.f lf (v4,v5,()) (v6,v7,())) fun r13 =>
 bd (dL.f lf r13.1 (v11,v12,())) fun r14 =>
 bd (dn.f lf r14.1) fun r15 =>
 bd (fM.f lf (v9,v10,()) r15.1) fun r16 =>
 K v6 v7 r13.2.1.1 r13.2.1.2.1 v11 v12 r16.1.1 r16.1.2.1) (
 E0 v0 v1 v2 v3 v4 v5 v6 v7 v8 v9 v10 v11 v12)
def l2(lf:Nat)(v0:Bool)(v1:List Int)(v2:Bool)(v3 v8:List Int):Nat→Bool→(List Int)→Bool→(List Int)→Bool→(List Int)→Bool→(List Int)→Option ((Bool×(List Int)×Bool×(List Int)×Bool×(List Int)×Bool×(List Int)×(List Int)×Bool×(List Int)×Bool×(List Int)×Unit)×Unit)
 | 0,_,_,_,_,_,_,_,_=>none
 | n+1,v4,v5,v6,v7,v9,v10,v11,v12=>r2 lf v0 v1 v2 v3 v8 v4 v5 v6 v7 v9 v10 v11 v12 (l2 lf v0 v1 v2 v3 v8 n) (fun w0 w1 w2 w3 w4 w5 w6 w7 w8 w9 w10 w11 w12=>some ((w0,w1,w2,w3,w4,w5,w6,w7,w8,w9,w10,w11,w12,()),()))
def sh2:ShS:=⟨[.a 8,.s (.ptr 0 0),.s (.ptr 1 0),.a 2,.s (.ptr 2 0),.s (.ptr 3 0),.s (.ptr 5 0),.s (.ptr 6 0),.a 94],[.cells [.s .bool,.s (.sl (.int .i64))] 249,.cells [.s .bool,.s (.sl (.int .i64))] 249,.cells [.s .bool,.s (.sl (.int .i64))] 249,.cells [.s .bool,.s (.sl (.int .i64))] 249,.row (.int .i64) 3 true,.cells [.s .bool,.s (.sl (.int .i64))] 249,.cells [.s .bool,.s (.sl (.int .i64))] 249]⟩
def S2(p:Bool×(List Int)×Bool×(List Int)×Bool×(List Int)×Bool×(List Int)×(List Int)×Bool×(List Int)×Bool×(List Int)×Unit):St:=sh2.b p
def xh0:ShS:=⟨[.a 8,.s (.ptr 0 0),.s (.ptr 1 0),.a 2,.s (.ptr 2 0),.a 1,.s (.ptr 5 0),.a 95],[.cells [.s .bool,.s (.sl (.int .i64))] 249,.cells [.s .bool,.s (.sl (.int .i64))] 249,.cells [.s .bool,.s (.sl (.int .i64))] 249,.cells [.s .bool,.s (.sl (.int .i64))] 249,.row (.int .i64) 3 true,.cells [.s .bool,.s (.sl (.int .i64))] 249,.cells [.s .bool,.s (.sl (.int .i64))] 249]⟩
def o2(v0:Bool)(v1:List Int)(v2:Bool)(v3 v8:List Int)(y:(Bool×(List Int)×Bool×(List Int)×Bool×(List Int)×Bool×(List Int)×(List Int)×Bool×(List Int)×Bool×(List Int)×Unit)×Unit):Alt:=.one (.exit 0) (xh0.b (y.1.1,y.1.2.1,y.1.2.2.1,y.1.2.2.2.1,y.1.2.2.2.2.1,y.1.2.2.2.2.2.1,y.1.2.2.2.2.2.2.1,y.1.2.2.2.2.2.2.2.1,y.1.2.2.2.2.2.2.2.2.1,y.1.2.2.2.2.2.2.2.2.2.1,y.1.2.2.2.2.2.2.2.2.2.2.1,y.1.2.2.2.2.2.2.2.2.2.2.2.1,y.1.2.2.2.2.2.2.2.2.2.2.2.2.1,()))
def r1{ρ:Type}(lf:Nat)(v0:Bool)(v1:List Int)(v2:Bool)(v3:List Int)(v4:Bool)(v5:List Int)(v6:Bool)(v7 v8:List Int)(v9 v10:Bool)(v11:List Int)(K2:Bool→(List Int)→Bool→(List Int)→Bool→(List Int)→Bool→(List Int)→(List Int)→Bool→(List Int)→Bool→(List Int)→Option ρ)(E0:Bool→(List Int)→Bool→(List Int)→Bool→(List Int)→Bool→(List Int)→(List Int)→Bool→Bool→(List Int)→Option ρ):Option ρ :=
 br (decide (((v7.length:Nat):Int) > 0)) (
 bd (bT.f lf (v4,v5,()) (v6,v7,())) fun r9 =>
 bd (dL.f lf r9.1 (v10,v11,())) fun r10 =>
 bd (dn.f lf r10.1) fun r11 =>
 bd (fM.f lf (v9,[],()) r11.1) fun r12 =>
 K2 v0 v1 v2 v3 v6 v7 r9.2.1.1 r9.2.1.2.1 v8 v10 v11 r12.1.1 r12.1.2.1) (
 E0 v0 v1 v2 v3 v4 v5 v6 v7 v8 v9 v10 v11)
def l1(lf:Nat)(v0:Bool)(v1:List Int)(v2:Bool)(v3:List Int)(v4:Bool)(v5:List Int)(v6:Bool)(v7 v8:List Int)(v9 v10:Bool)(v11:List Int):Nat→Option (Bool×(Bool×(List Int)×Bool×(List Int)×Bool×(List Int)×Bool×(List Int)×(List Int)×Bool×Bool×(List Int)×Unit)×(Bool×(List Int)×Bool×(List Int)×Bool×(List Int)×Bool×(List Int)×(List Int)×Bool×(List Int)×Bool×(List Int)×Unit)×Unit)
 | 0=>none
 | n+1=>r1 lf v0 v1 v2 v3 v4 v5 v6 v7 v8 v9 v10 v11 (fun x0 x1 x2 x3 x4 x5 x6 x7 x8 x9 x10 x11 x12=>bd (l2 lf x0 x1 x2 x3 x8 n x4 x5 x6 x7 x9 x10 x11 x12) fun z17=>some (false,(false,[],false,[],false,[],false,[],[],false,false,[],()),((z17.1.1,z17.1.2.1,z17.1.2.2.1,z17.1.2.2.2.1,z17.1.2.2.2.2.1,z17.1.2.2.2.2.2.1,z17.1.2.2.2.2.2.2.1,z17.1.2.2.2.2.2.2.2.1,z17.1.2.2.2.2.2.2.2.2.1,z17.1.2.2.2.2.2.2.2.2.2.1,z17.1.2.2.2.2.2.2.2.2.2.2.1,z17.1.2.2.2.2.2.2.2.2.2.2.2.1,z17.1.2.2.2.2.2.2.2.2.2.2.2.2.1,()),()))) (fun w0 w1 w2 w3 w4 w5 w6 w7 w8 w9 w10 w11=>some (true,(w0,w1,w2,w3,w4,w5,w6,w7,w8,w9,w10,w11,()),((false,[],false,[],false,[],false,[],[],false,[],false,[],()),())))
def sh1:ShS:=⟨[.a 8,.s (.ptr 0 0),.s (.ptr 1 0),.a 2,.s (.ptr 2 0),.s (.ptr 3 0),.s (.ptr 5 0),.s (.ptr 6 0),.a 94],[.cells [.s .bool,.s (.sl (.int .i64))] 249,.cells [.s .bool,.s (.sl (.int .i64))] 249,.cells [.s .bool,.s (.sl (.int .i64))] 249,.cells [.s .bool,.s (.sl (.int .i64))] 249,.row (.int .i64) 3 true,.cells [.s .bool,.s .nil] 249,.cells [.s .bool,.s (.sl (.int .i64))] 249]⟩
def S1(p:Bool×(List Int)×Bool×(List Int)×Bool×(List Int)×Bool×(List Int)×(List Int)×Bool×Bool×(List Int)×Unit):St:=sh1.b p
def xh1:ShS:=⟨[.a 8,.s (.ptr 0 0),.s (.ptr 1 0),.a 2,.s (.ptr 2 0),.a 1,.s (.ptr 5 0),.a 95],[.cells [.s .bool,.s (.sl (.int .i64))] 249,.cells [.s .bool,.s (.sl (.int .i64))] 249,.cells [.s .bool,.s (.sl (.int .i64))] 249,.cells [.s .bool,.s (.sl (.int .i64))] 249,.row (.int .i64) 3 true,.cells [.s .bool,.s .nil] 249,.cells [.s .bool,.s (.sl (.int .i64))] 249]⟩
def o1(v0:Bool)(v1:List Int)(v2:Bool)(v3:List Int)(v4:Bool)(v5:List Int)(v6:Bool)(v7 v8:List Int)(v9 v10:Bool)(v11:List Int)(y:Bool×(Bool×(List Int)×Bool×(List Int)×Bool×(List Int)×Bool×(List Int)×(List Int)×Bool×Bool×(List Int)×Unit)×(Bool×(List Int)×Bool×(List Int)×Bool×(List Int)×Bool×(List Int)×(List Int)×Bool×(List Int)×Bool×(List Int)×Unit)×Unit):Alt:=.two y.1 (.one (.exit 0) (xh1.b (y.2.1.1,y.2.1.2.1,y.2.1.2.2.1,y.2.1.2.2.2.1,y.2.1.2.2.2.2.1,y.2.1.2.2.2.2.2.1,y.2.1.2.2.2.2.2.2.1,y.2.1.2.2.2.2.2.2.2.1,y.2.1.2.2.2.2.2.2.2.2.1,y.2.1.2.2.2.2.2.2.2.2.2.1,y.2.1.2.2.2.2.2.2.2.2.2.2.1,y.2.1.2.2.2.2.2.2.2.2.2.2.2.1,()))) (.one (.exit 0) (xh0.b (y.2.2.1.1,y.2.2.1.2.1,y.2.2.1.2.2.1,y.2.2.1.2.2.2.1,y.2.2.1.2.2.2.2.1,y.2.2.1.2.2.2.2.2.1,y.2.2.1.2.2.2.2.2.2.1,y.2.2.1.2.2.2.2.2.2.2.1,y.2.2.1.2.2.2.2.2.2.2.2.1,y.2.2.1.2.2.2.2.2.2.2.2.2.1,y.2.2.1.2.2.2.2.2.2.2.2.2.2.1,y.2.2.1.2.2.2.2.2.2.2.2.2.2.2.1,y.2.2.1.2.2.2.2.2.2.2.2.2.2.2.2.1,())))
def r0{ρ:Type}(lf:Nat)(v0:Bool)(v1:List Int)(v2:Bool)(v3:List Int)(v4:Bool)(v5:List Int)(v6:Bool)(v7 v8:List Int)(v9 v10:Bool)(K1:Bool→(List Int)→Bool→(List Int)→Bool→(List Int)→Bool→(List Int)→(List Int)→Bool→Bool→(List Int)→Option ρ)(E0:Bool→(List Int)→Bool→(List Int)→Bool→(List Int)→Bool→(List Int)→(List Int)→Bool→Bool→Option ρ):Option ρ :=
 br (decide (((v7.length:Nat):Int) > 0)) (
 bd (bT.f lf (v4,v5,()) (v6,v7,())) fun r5 =>
 bd (dL.f lf r5.1 (v10,[],())) fun r6 =>
 bd (dn.f lf r6.1) fun r7 =>
 bd (fM.f lf (v9,v8,()) r7.1) fun r8 =>
 K1 v0 v1 v2 v3 v6 v7 r5.2.1.1 r5.2.1.2.1 v8 v10 r8.1.1 r8.1.2.1) (
 E0 v0 v1 v2 v3 v4 v5 v6 v7 v8 v9 v10)
def l0(lf:Nat)(v0:Bool)(v1:List Int)(v2:Bool)(v3:List Int)(v4:Bool)(v5:List Int)(v6:Bool)(v7 v8:List Int)(v9 v10:Bool):Nat→Option (Bool×(Bool×(List Int)×Bool×(List Int)×Bool×(List Int)×Bool×(List Int)×(List Int)×Bool×Bool×Unit)×Bool×(Bool×(List Int)×Bool×(List Int)×Bool×(List Int)×Bool×(List Int)×(List Int)×Bool×Bool×(List Int)×Unit)×(Bool×(List Int)×Bool×(List Int)×Bool×(List Int)×Bool×(List Int)×(List Int)×Bool×(List Int)×Bool×(List Int)×Unit)×Unit)
 | 0=>none
 | n+1=>r0 lf v0 v1 v2 v3 v4 v5 v6 v7 v8 v9 v10 (fun x0 x1 x2 x3 x4 x5 x6 x7 x8 x9 x10 x11=>bd (l1 lf x0 x1 x2 x3 x4 x5 x6 x7 x8 x9 x10 x11 n) fun z18=>br z18.1 (some (false,(false,[],false,[],false,[],false,[],[],false,false,()),(true,(z18.2.1.1,z18.2.1.2.1,z18.2.1.2.2.1,z18.2.1.2.2.2.1,z18.2.1.2.2.2.2.1,z18.2.1.2.2.2.2.2.1,z18.2.1.2.2.2.2.2.2.1,z18.2.1.2.2.2.2.2.2.2.1,z18.2.1.2.2.2.2.2.2.2.2.1,z18.2.1.2.2.2.2.2.2.2.2.2.1,z18.2.1.2.2.2.2.2.2.2.2.2.2.1,z18.2.1.2.2.2.2.2.2.2.2.2.2.2.1,()),((false,[],false,[],false,[],false,[],[],false,[],false,[],()),())))) (some (false,(false,[],false,[],false,[],false,[],[],false,false,()),(false,(false,[],false,[],false,[],false,[],[],false,false,[],()),((z18.2.2.1.1,z18.2.2.1.2.1,z18.2.2.1.2.2.1,z18.2.2.1.2.2.2.1,z18.2.2.1.2.2.2.2.1,z18.2.2.1.2.2.2.2.2.1,z18.2.2.1.2.2.2.2.2.2.1,z18.2.2.1.2.2.2.2.2.2.2.1,z18.2.2.1.2.2.2.2.2.2.2.2.1,z18.2.2.1.2.2.2.2.2.2.2.2.2.1,z18.2.2.1.2.2.2.2.2.2.2.2.2.2.1,z18.2.2.1.2.2.2.2.2.2.2.2.2.2.2.1,z18.2.2.1.2.2.2.2.2.2.2.2.2.2.2.2.1,()),()))))) (fun w0 w1 w2 w3 w4 w5 w6 w7 w8 w9 w10=>some (true,(w0,w1,w2,w3,w4,w5,w6,w7,w8,w9,w10,()),(false,(false,[],false,[],false,[],false,[],[],false,false,[],()),((false,[],false,[],false,[],false,[],[],false,[],false,[],()),()))))
def sh0:ShS:=⟨[.a 8,.s (.ptr 0 0),.s (.ptr 1 0),.a 2,.s (.ptr 2 0),.s (.ptr 3 0),.s (.ptr 5 0),.s (.ptr 6 0),.a 94],[.cells [.s .bool,.s (.sl (.int .i64))] 249,.cells [.s .bool,.s (.sl (.int .i64))] 249,.cells [.s .bool,.s (.sl (.int .i64))] 249,.cells [.s .bool,.s (.sl (.int .i64))] 249,.row (.int .i64) 3 false,.cells [.s .bool,.s (.row 4)] 249,.cells [.s .bool,.s .nil] 249]⟩
def S0(p:Bool×(List Int)×Bool×(List Int)×Bool×(List Int)×Bool×(List Int)×(List Int)×Bool×Bool×Unit):St:=sh0.b p
def xh2:ShS:=⟨[.a 8,.s (.ptr 0 0),.s (.ptr 1 0),.a 2,.s (.ptr 2 0),.a 1,.s (.ptr 5 0),.a 95],[.cells [.s .bool,.s (.sl (.int .i64))] 249,.cells [.s .bool,.s (.sl (.int .i64))] 249,.cells [.s .bool,.s (.sl (.int .i64))] 249,.cells [.s .bool,.s (.sl (.int .i64))] 249,.row (.int .i64) 3 false,.cells [.s .bool,.s (.row 4)] 249,.cells [.s .bool,.s .nil] 249]⟩
def o0(v0:Bool)(v1:List Int)(v2:Bool)(v3:List Int)(v4:Bool)(v5:List Int)(v6:Bool)(v7 v8:List Int)(v9 v10:Bool)(y:Bool×(Bool×(List Int)×Bool×(List Int)×Bool×(List Int)×Bool×(List Int)×(List Int)×Bool×Bool×Unit)×Bool×(Bool×(List Int)×Bool×(List Int)×Bool×(List Int)×Bool×(List Int)×(List Int)×Bool×Bool×(List Int)×Unit)×(Bool×(List Int)×Bool×(List Int)×Bool×(List Int)×Bool×(List Int)×(List Int)×Bool×(List Int)×Bool×(List Int)×Unit)×Unit):Alt:=.two y.1 (.one (.exit 0) (xh2.b (y.2.1.1,y.2.1.2.1,y.2.1.2.2.1,y.2.1.2.2.2.1,y.2.1.2.2.2.2.1,y.2.1.2.2.2.2.2.1,y.2.1.2.2.2.2.2.2.1,y.2.1.2.2.2.2.2.2.2.1,y.2.1.2.2.2.2.2.2.2.2.1,y.2.1.2.2.2.2.2.2.2.2.2.1,y.2.1.2.2.2.2.2.2.2.2.2.2.1,()))) (.two y.2.2.1 (.one (.exit 0) (xh1.b (y.2.2.2.1.1,y.2.2.2.1.2.1,y.2.2.2.1.2.2.1,y.2.2.2.1.2.2.2.1,y.2.2.2.1.2.2.2.2.1,y.2.2.2.1.2.2.2.2.2.1,y.2.2.2.1.2.2.2.2.2.2.1,y.2.2.2.1.2.2.2.2.2.2.2.1,y.2.2.2.1.2.2.2.2.2.2.2.2.1,y.2.2.2.1.2.2.2.2.2.2.2.2.2.1,y.2.2.2.1.2.2.2.2.2.2.2.2.2.2.1,y.2.2.2.1.2.2.2.2.2.2.2.2.2.2.2.1,()))) (.one (.exit 0) (xh0.b (y.2.2.2.2.1.1,y.2.2.2.2.1.2.1,y.2.2.2.2.1.2.2.1,y.2.2.2.2.1.2.2.2.1,y.2.2.2.2.1.2.2.2.2.1,y.2.2.2.2.1.2.2.2.2.2.1,y.2.2.2.2.1.2.2.2.2.2.2.1,y.2.2.2.2.1.2.2.2.2.2.2.2.1,y.2.2.2.2.1.2.2.2.2.2.2.2.2.1,y.2.2.2.2.1.2.2.2.2.2.2.2.2.2.1,y.2.2.2.2.1.2.2.2.2.2.2.2.2.2.2.1,y.2.2.2.2.1.2.2.2.2.2.2.2.2.2.2.2.1,y.2.2.2.2.1.2.2.2.2.2.2.2.2.2.2.2.2.1,()))))
def tb(lf:Nat):List (FuncId×Entry):=[(274,fK.E lf),(276,fM.E lf),(277,dn.E lf),(278,dL.E lf),(292,aG.E lf),(337,bT.E lf),(338,oz.E lf),(340,aB.E lf),(366,yH.E lf)]
def abT(lf:Nat):List (Nat×(St→Option LTE)):=[(0,sumE sh2 fun(p:Bool×(List Int)×Bool×(List Int)×Bool×(List Int)×Bool×(List Int)×(List Int)×Bool×(List Int)×Bool×(List Int)×Unit)=>⟨(Bool×(List Int)×Bool×(List Int)×Bool×(List Int)×Bool×(List Int)×(List Int)×Bool×(List Int)×Bool×(List Int)×Unit)×Unit,l2 lf p.1 p.2.1 p.2.2.1 p.2.2.2.1 p.2.2.2.2.2.2.2.2.1 (lf+40) p.2.2.2.2.1 p.2.2.2.2.2.1 p.2.2.2.2.2.2.1 p.2.2.2.2.2.2.2.1 p.2.2.2.2.2.2.2.2.2.1 p.2.2.2.2.2.2.2.2.2.2.1 p.2.2.2.2.2.2.2.2.2.2.2.1 p.2.2.2.2.2.2.2.2.2.2.2.2.1,o2 p.1 p.2.1 p.2.2.1 p.2.2.2.1 p.2.2.2.2.2.2.2.2.1⟩),
 (0,sumE sh1 fun(p:Bool×(List Int)×Bool×(List Int)×Bool×(List Int)×Bool×(List Int)×(List Int)×Bool×Bool×(List Int)×Unit)=>⟨Bool×(Bool×(List Int)×Bool×(List Int)×Bool×(List Int)×Bool×(List Int)×(List Int)×Bool×Bool×(List Int)×Unit)×(Bool×(List Int)×Bool×(List Int)×Bool×(List Int)×Bool×(List Int)×(List Int)×Bool×(List Int)×Bool×(List Int)×Unit)×Unit,l1 lf p.1 p.2.1 p.2.2.1 p.2.2.2.1 p.2.2.2.2.1 p.2.2.2.2.2.1 p.2.2.2.2.2.2.1 p.2.2.2.2.2.2.2.1 p.2.2.2.2.2.2.2.2.1 p.2.2.2.2.2.2.2.2.2.1 p.2.2.2.2.2.2.2.2.2.2.1 p.2.2.2.2.2.2.2.2.2.2.2.1 (lf+40),o1 p.1 p.2.1 p.2.2.1 p.2.2.2.1 p.2.2.2.2.1 p.2.2.2.2.2.1 p.2.2.2.2.2.2.1 p.2.2.2.2.2.2.2.1 p.2.2.2.2.2.2.2.2.1 p.2.2.2.2.2.2.2.2.2.1 p.2.2.2.2.2.2.2.2.2.2.1 p.2.2.2.2.2.2.2.2.2.2.2.1⟩),
 (0,sumE sh0 fun(p:Bool×(List Int)×Bool×(List Int)×Bool×(List Int)×Bool×(List Int)×(List Int)×Bool×Bool×Unit)=>⟨Bool×(Bool×(List Int)×Bool×(List Int)×Bool×(List Int)×Bool×(List Int)×(List Int)×Bool×Bool×Unit)×Bool×(Bool×(List Int)×Bool×(List Int)×Bool×(List Int)×Bool×(List Int)×(List Int)×Bool×Bool×(List Int)×Unit)×(Bool×(List Int)×Bool×(List Int)×Bool×(List Int)×Bool×(List Int)×(List Int)×Bool×(List Int)×Bool×(List Int)×Unit)×Unit,l0 lf p.1 p.2.1 p.2.2.1 p.2.2.2.1 p.2.2.2.2.1 p.2.2.2.2.2.1 p.2.2.2.2.2.2.1 p.2.2.2.2.2.2.2.1 p.2.2.2.2.2.2.2.2.1 p.2.2.2.2.2.2.2.2.2.1 p.2.2.2.2.2.2.2.2.2.2.1 (lf+40),o0 p.1 p.2.1 p.2.2.1 p.2.2.2.1 p.2.2.2.2.1 p.2.2.2.2.2.1 p.2.2.2.2.2.2.1 p.2.2.2.2.2.2.2.1 p.2.2.2.2.2.2.2.2.1 p.2.2.2.2.2.2.2.2.2.1 p.2.2.2.2.2.2.2.2.2.2.1⟩)]
def ls(lf:Nat):List (Nat×FuncId×Sums):=[(13,327,sumsL (abT lf))]
def it2{ρ:Type}(lf n:Nat)(st:St)(k:KE ρ):Option ρ:=itG anns (ls lf) (tb lf) lf 13 327 0 7 (sumsL (abT lf)) n st k
theorem t2{ρ:Type}(lf n:Nat)(v0:Bool)(v1:List Int)(v2:Bool)(v3:List Int)(v4:Bool)(v5:List Int)(v6:Bool)(v7 v8:List Int)(v9:Bool)(v10:List Int)(v11:Bool)(v12:List Int)(k:KE ρ):it2 lf (n+1) (S2 (v0,v1,v2,v3,v4,v5,v6,v7,v8,v9,v10,v11,v12,())) k=r2 lf v0 v1 v2 v3 v8 v4 v5 v6 v7 v9 v10 v11 v12 (fun x0 x1 x2 x3 x4 x5 x6 x7=>it2 lf n (S2 (v0,v1,v2,v3,x0,x1,x2,x3,v8,x4,x5,x6,x7,())) k) (fun w0 w1 w2 w3 w4 w5 w6 w7 w8 w9 w10 w11 w12=>k (.exit 0) (xh0.b (w0,w1,w2,w3,w4,w5,w6,w7,w8,w9,w10,w11,w12,()))):=by kernel_rfl
theorem u2{ρ:Type}(lf:Nat)(v0:Bool)(v1:List Int)(v2:Bool)(v3 v8:List Int)(k:KE ρ):∀ (n:Nat) (v4:Bool) (v5:List Int) (v6:Bool) (v7:List Int) (v9:Bool) (v10:List Int) (v11:Bool) (v12:List Int),it2 lf n (S2 (v0,v1,v2,v3,v4,v5,v6,v7,v8,v9,v10,v11,v12,())) k=bd (l2 lf v0 v1 v2 v3 v8 n v4 v5 v6 v7 v9 v10 v11 v12) fun y=>altK k (o2 v0 v1 v2 v3 v8 y)
 | 0,_,_,_,_,_,_,_,_=>by rw[l2,aU];rfl
 | n+1,v4,v5,v6,v7,v9,v10,v11,v12=>by
  rw[t2];simp only[l2,r2,u2 lf v0 v1 v2 v3 v8 k n,iD,iC,bW,aU,br_t,br_f,o2,altK]
def it1{ρ:Type}(lf n:Nat)(st:St)(k:KE ρ):Option ρ:=itG anns (ls lf) (tb lf) lf 13 327 0 7 (sumsL (abT lf)) n st k
theorem t1{ρ:Type}(lf n:Nat)(v0:Bool)(v1:List Int)(v2:Bool)(v3:List Int)(v4:Bool)(v5:List Int)(v6:Bool)(v7 v8:List Int)(v9 v10:Bool)(v11:List Int)(k:KE ρ):it1 lf (n+1) (S1 (v0,v1,v2,v3,v4,v5,v6,v7,v8,v9,v10,v11,())) k=r1 lf v0 v1 v2 v3 v4 v5 v6 v7 v8 v9 v10 v11 (fun x0 x1 x2 x3 x4 x5 x6 x7 x8 x9 x10 x11 x12=>it2 lf n (S2 (x0,x1,x2,x3,x4,x5,x6,x7,x8,x9,x10,x11,x12,())) k) (fun w0 w1 w2 w3 w4 w5 w6 w7 w8 w9 w10 w11=>k (.exit 0) (xh1.b (w0,w1,w2,w3,w4,w5,w6,w7,w8,w9,w10,w11,()))):=by kernel_rfl
theorem u1{ρ:Type}(lf:Nat)(v0:Bool)(v1:List Int)(v2:Bool)(v3:List Int)(v4:Bool)(v5:List Int)(v6:Bool)(v7 v8:List Int)(v9 v10:Bool)(v11:List Int)(k:KE ρ):∀ (n:Nat),it1 lf n (S1 (v0,v1,v2,v3,v4,v5,v6,v7,v8,v9,v10,v11,())) k=bd (l1 lf v0 v1 v2 v3 v4 v5 v6 v7 v8 v9 v10 v11 n) fun y=>altK k (o1 v0 v1 v2 v3 v4 v5 v6 v7 v8 v9 v10 v11 y)
 | 0=>by rw[l1,aU];rfl
 | n+1=>by
  rw[t1];simp only[l1,r1,u2,iD,iC,bW,aU,br_t,br_f,o1,o2,altK]
def it0{ρ:Type}(lf n:Nat)(st:St)(k:KE ρ):Option ρ:=itG anns (ls lf) (tb lf) lf 13 327 0 7 (sumsL (abT lf)) n st k
theorem t0{ρ:Type}(lf n:Nat)(v0:Bool)(v1:List Int)(v2:Bool)(v3:List Int)(v4:Bool)(v5:List Int)(v6:Bool)(v7 v8:List Int)(v9 v10:Bool)(k:KE ρ):it0 lf (n+1) (S0 (v0,v1,v2,v3,v4,v5,v6,v7,v8,v9,v10,())) k=r0 lf v0 v1 v2 v3 v4 v5 v6 v7 v8 v9 v10 (fun x0 x1 x2 x3 x4 x5 x6 x7 x8 x9 x10 x11=>it1 lf n (S1 (x0,x1,x2,x3,x4,x5,x6,x7,x8,x9,x10,x11,())) k) (fun w0 w1 w2 w3 w4 w5 w6 w7 w8 w9 w10=>k (.exit 0) (xh2.b (w0,w1,w2,w3,w4,w5,w6,w7,w8,w9,w10,()))):=by kernel_rfl
theorem u0{ρ:Type}(lf:Nat)(v0:Bool)(v1:List Int)(v2:Bool)(v3:List Int)(v4:Bool)(v5:List Int)(v6:Bool)(v7 v8:List Int)(v9 v10:Bool)(k:KE ρ):∀ (n:Nat),it0 lf n (S0 (v0,v1,v2,v3,v4,v5,v6,v7,v8,v9,v10,())) k=bd (l0 lf v0 v1 v2 v3 v4 v5 v6 v7 v8 v9 v10 n) fun y=>altK k (o0 v0 v1 v2 v3 v4 v5 v6 v7 v8 v9 v10 y)
 | 0=>by rw[l0,aU];rfl
 | n+1=>by
  rw[t0];simp only[l0,r0,u1,iD,iC,bW,aU,br_t,br_f,o0,o1,altK]
theorem sl(lf:Nat):SL anns (ls lf) (tb lf) lf (ls lf):=slC (laC (fun _=>by kernel_rfl) (fun _ (x:Bool×(List Int)×Bool×(List Int)×Bool×(List Int)×Bool×(List Int)×(List Int)×Bool×(List Int)×Bool×(List Int)×Unit) k=>dY (u2 lf x.1 x.2.1 x.2.2.1 x.2.2.2.1 x.2.2.2.2.2.2.2.2.1 k (lf+40) x.2.2.2.2.1 x.2.2.2.2.2.1 x.2.2.2.2.2.2.1 x.2.2.2.2.2.2.2.1 x.2.2.2.2.2.2.2.2.2.1 x.2.2.2.2.2.2.2.2.2.2.1 x.2.2.2.2.2.2.2.2.2.2.2.1 x.2.2.2.2.2.2.2.2.2.2.2.2.1)) (laC (fun _=>by kernel_rfl) (fun _ (x:Bool×(List Int)×Bool×(List Int)×Bool×(List Int)×Bool×(List Int)×(List Int)×Bool×Bool×(List Int)×Unit) k=>dY (u1 lf x.1 x.2.1 x.2.2.1 x.2.2.2.1 x.2.2.2.2.1 x.2.2.2.2.2.1 x.2.2.2.2.2.2.1 x.2.2.2.2.2.2.2.1 x.2.2.2.2.2.2.2.2.1 x.2.2.2.2.2.2.2.2.2.1 x.2.2.2.2.2.2.2.2.2.2.1 x.2.2.2.2.2.2.2.2.2.2.2.1 k (lf+40))) (laC (fun _=>by kernel_rfl) (fun _ (x:Bool×(List Int)×Bool×(List Int)×Bool×(List Int)×Bool×(List Int)×(List Int)×Bool×Bool×Unit) k=>dY (u0 lf x.1 x.2.1 x.2.2.1 x.2.2.2.1 x.2.2.2.2.1 x.2.2.2.2.2.1 x.2.2.2.2.2.2.1 x.2.2.2.2.2.2.2.1 x.2.2.2.2.2.2.2.2.1 x.2.2.2.2.2.2.2.2.2.1 x.2.2.2.2.2.2.2.2.2.2.1 k (lf+40))) laN))) slN
def f(lf:Nat)(a0:ByteArray)(a1:ByteArray):Option (ByteArray×ByteArray×ByteArray×Int×Unit) :=
 bd (fK.f lf a0 a1) fun r1 =>
 br (r1.2.2.1 != 0) (
 some ((⟨#[]⟩:ByteArray),(⟨#[]⟩:ByteArray),(⟨#[]⟩:ByteArray),r1.2.2.1,())) (
 br (((r1.2.1.2.1.length:Nat):Int)==0) (
 bd (oz.f lf r1.1) fun r2 =>
 bd (aG.f lf (false,r1.1.2.1,())) fun r3 =>
 bd (yH.f lf r2.1) fun r4 =>
 some (r3.1,r4.1,(⟨#[48]⟩:ByteArray),0,())) (
 bd (l0 lf r1.1.1 r1.1.2.1 r1.2.1.1 r1.2.1.2.1 false r1.1.2.1 false r1.2.1.2.1 [1] false false (lf+40)) fun z19 =>
 br z19.1 (
 br z19.2.1.1 (
 bd (dn.f lf (z19.2.1.2.2.2.2.2.2.2.2.2.1,z19.2.1.2.2.2.2.2.2.2.2.1,())) fun r20 =>
 bd (aB.f lf z19.2.1.2.2.2.1 z19.2.1.2.2.2.2.2.1) fun r21 =>
 bd (bT.f lf r20.1 (false,r21.1,())) fun r22 =>
 bd (dL.f lf (z19.2.1.1,z19.2.1.2.1,()) r22.2.1) fun r23 =>
 bd (dn.f lf r23.1) fun r24 =>
 bd (fM.f lf (z19.2.1.2.2.2.2.1,z19.2.1.2.2.2.2.2.1,()) r24.1) fun r25 =>
 bd (bT.f lf r25.1 (z19.2.1.2.2.1,z19.2.1.2.2.2.1,())) fun r26 =>
 bd (aG.f lf (z19.2.1.2.2.2.2.1,z19.2.1.2.2.2.2.2.1,())) fun r27 =>
 bd (aG.f lf r22.2.1) fun r28 =>
 bd (aG.f lf r26.1) fun r29 =>
 some (r27.1,r28.1,r29.1,0,())) (
 bd (aB.f lf z19.2.1.2.2.2.1 z19.2.1.2.2.2.2.2.1) fun r30 =>
 bd (bT.f lf (z19.2.1.2.2.2.2.2.2.2.2.2.1,z19.2.1.2.2.2.2.2.2.2.2.1,()) (false,r30.1,())) fun r31 =>
 bd (dL.f lf (z19.2.1.1,z19.2.1.2.1,()) r31.2.1) fun r32 =>
 bd (dn.f lf r32.1) fun r33 =>
 bd (fM.f lf (z19.2.1.2.2.2.2.1,z19.2.1.2.2.2.2.2.1,()) r33.1) fun r34 =>
 bd (bT.f lf r34.1 (z19.2.1.2.2.1,z19.2.1.2.2.2.1,())) fun r35 =>
 bd (aG.f lf (z19.2.1.2.2.2.2.1,z19.2.1.2.2.2.2.2.1,())) fun r36 =>
 bd (aG.f lf r31.2.1) fun r37 =>
 bd (aG.f lf r35.1) fun r38 =>
 some (r36.1,r37.1,r38.1,0,()))) (
 br z19.2.2.1 (
 br z19.2.2.2.1.1 (
 bd (dn.f lf (z19.2.2.2.1.2.2.2.2.2.2.2.2.2.1,[],())) fun r39 =>
 bd (aB.f lf z19.2.2.2.1.2.2.2.1 z19.2.2.2.1.2.2.2.2.2.1) fun r40 =>
 bd (bT.f lf r39.1 (false,r40.1,())) fun r41 =>
 bd (dL.f lf (z19.2.2.2.1.1,z19.2.2.2.1.2.1,()) r41.2.1) fun r42 =>
 bd (dn.f lf r42.1) fun r43 =>
 bd (fM.f lf (z19.2.2.2.1.2.2.2.2.1,z19.2.2.2.1.2.2.2.2.2.1,()) r43.1) fun r44 =>
 bd (bT.f lf r44.1 (z19.2.2.2.1.2.2.1,z19.2.2.2.1.2.2.2.1,())) fun r45 =>
 bd (aG.f lf (z19.2.2.2.1.2.2.2.2.1,z19.2.2.2.1.2.2.2.2.2.1,())) fun r46 =>
 bd (aG.f lf r41.2.1) fun r47 =>
 bd (aG.f lf r45.1) fun r48 =>
 some (r46.1,r47.1,r48.1,0,())) (
 bd (aB.f lf z19.2.2.2.1.2.2.2.1 z19.2.2.2.1.2.2.2.2.2.1) fun r49 =>
 bd (bT.f lf (z19.2.2.2.1.2.2.2.2.2.2.2.2.2.1,[],()) (false,r49.1,())) fun r50 =>
 bd (dL.f lf (z19.2.2.2.1.1,z19.2.2.2.1.2.1,()) r50.2.1) fun r51 =>
 bd (dn.f lf r51.1) fun r52 =>
 bd (fM.f lf (z19.2.2.2.1.2.2.2.2.1,z19.2.2.2.1.2.2.2.2.2.1,()) r52.1) fun r53 =>
 bd (bT.f lf r53.1 (z19.2.2.2.1.2.2.1,z19.2.2.2.1.2.2.2.1,())) fun r54 =>
 bd (aG.f lf (z19.2.2.2.1.2.2.2.2.1,z19.2.2.2.1.2.2.2.2.2.1,())) fun r55 =>
 bd (aG.f lf r50.2.1) fun r56 =>
 bd (aG.f lf r54.1) fun r57 =>
 some (r55.1,r56.1,r57.1,0,()))) (
 br z19.2.2.2.2.1.1 (
 bd (dn.f lf (z19.2.2.2.2.1.2.2.2.2.2.2.2.2.2.1,z19.2.2.2.2.1.2.2.2.2.2.2.2.2.2.2.1,())) fun r58 =>
 bd (aB.f lf z19.2.2.2.2.1.2.2.2.1 z19.2.2.2.2.1.2.2.2.2.2.1) fun r59 =>
 bd (bT.f lf r58.1 (false,r59.1,())) fun r60 =>
 bd (dL.f lf (z19.2.2.2.2.1.1,z19.2.2.2.2.1.2.1,()) r60.2.1) fun r61 =>
 bd (dn.f lf r61.1) fun r62 =>
 bd (fM.f lf (z19.2.2.2.2.1.2.2.2.2.1,z19.2.2.2.2.1.2.2.2.2.2.1,()) r62.1) fun r63 =>
 bd (bT.f lf r63.1 (z19.2.2.2.2.1.2.2.1,z19.2.2.2.2.1.2.2.2.1,())) fun r64 =>
 bd (aG.f lf (z19.2.2.2.2.1.2.2.2.2.1,z19.2.2.2.2.1.2.2.2.2.2.1,())) fun r65 =>
 bd (aG.f lf r60.2.1) fun r66 =>
 bd (aG.f lf r64.1) fun r67 =>
 some (r65.1,r66.1,r67.1,0,())) (
 bd (aB.f lf z19.2.2.2.2.1.2.2.2.1 z19.2.2.2.2.1.2.2.2.2.2.1) fun r68 =>
 bd (bT.f lf (z19.2.2.2.2.1.2.2.2.2.2.2.2.2.2.1,z19.2.2.2.2.1.2.2.2.2.2.2.2.2.2.2.1,()) (false,r68.1,())) fun r69 =>
 bd (dL.f lf (z19.2.2.2.2.1.1,z19.2.2.2.2.1.2.1,()) r69.2.1) fun r70 =>
 bd (dn.f lf r70.1) fun r71 =>
 bd (fM.f lf (z19.2.2.2.2.1.2.2.2.2.1,z19.2.2.2.2.1.2.2.2.2.2.1,()) r71.1) fun r72 =>
 bd (bT.f lf r72.1 (z19.2.2.2.2.1.2.2.1,z19.2.2.2.2.1.2.2.2.1,())) fun r73 =>
 bd (aG.f lf (z19.2.2.2.2.1.2.2.2.2.1,z19.2.2.2.2.1.2.2.2.2.2.1,())) fun r74 =>
 bd (aG.f lf r69.2.1) fun r75 =>
 bd (aG.f lf r73.1) fun r76 =>
 some (r74.1,r75.1,r76.1,0,()))))))
def E(lf:Nat):Entry:=⟨[.str,.str],[.str,.str,.str,(.int .i64)],fun x=>f lf x.1 x.2.1⟩
theorem ok(lf:Nat):Ok 327 (E lf):=okL (tC (fK.ok lf) (tC (fM.ok lf) (tC (dn.ok lf) (tC (dL.ok lf) (tC (aG.ok lf) (tC (bT.ok lf) (tC (oz.ok lf) (tC (aB.ok lf) (tC (yH.ok lf) tN))))))))) (aoC aoN) (sl lf) fun x=>by kernel_rfl
end dK
end
end Go.Q
namespace Go.Q
open Go Go.RowKit
open Go.Rx (br bd sIdx sCat sCut iQuo iRem)
noncomputable section
namespace uH
def f(lf:Nat)(a0:ByteArray)(a1:ByteArray):Option (ByteArray×Int×Unit) :=
 bd (fK.f lf a0 a1) fun r1 =>
 br (r1.2.2.1 != 0) (
 some ((⟨#[]⟩:ByteArray),r1.2.2.1,())) (
 br (((r1.1.2.1.length:Nat):Int)==0) (
 some ((⟨#[48]⟩:ByteArray),0,())) (
 br (((r1.2.1.2.1.length:Nat):Int)==0) (
 some ((⟨#[48]⟩:ByteArray),0,())) (
 bd (gQ.f lf r1.1.2.1 r1.2.1.2.1) fun r2 =>
 bd (aB.f lf r1.1.2.1 r2.1) fun r3 =>
 bd (fP.f lf r3.1 r1.2.1.2.1) fun r4 =>
 bd (iT.f lf (false,r4.1,())) fun r5 =>
 some (r5.1,r5.2.1,()))))
def E(lf:Nat):Entry:=⟨[.str,.str],[.str,(.int .i64)],fun x=>f lf x.1 x.2.1⟩
theorem ok(lf:Nat):Ok 328 (E lf):=okT (an:=(annsL [])) (lf:=lf) (tC (fK.ok lf) (tC (iT.ok lf) (tC (gQ.ok lf) (tC (fP.ok lf) (tC (aB.ok lf) tN))))) aoN fun x=>by kernel_rfl
end uH
end
end Go.Q
