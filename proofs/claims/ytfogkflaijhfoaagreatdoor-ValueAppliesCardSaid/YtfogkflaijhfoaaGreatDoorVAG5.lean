import Derived.Test.YtfogkflaijhfoaaGreatDoorProg
import Derived.KernelRfl
import Derived.Test.YtfogkflaijhfoaaGreatDoorVAE3
import Derived.Test.YtfogkflaijhfoaaGreatDoorVAG4
set_option linter.unusedVariables false
set_option linter.unusedSimpArgs false
set_option linter.unusedSectionVars false
set_option maxRecDepth 100000
namespace Go.Q
open Go.IntKind (i64)
open Go Go.RowKit
open Go.Rx (br bd sIdx sCat sCut iQuo iRem)
noncomputable section
namespace bG
def anns:FuncId→FA:=annsL [(155,⟨annOf [(0,⟨kx 28 [0,3,4],[],[]⟩,⟨kx 28 [0,2,3],[],[]⟩)],none,[]⟩)]
def r0{ρ:Type}(lf:Nat)(v0:ByteArray)(v1 v2:Int)(K:Int→Int→Option ρ)(E0:Int→Option ρ):Option ρ :=
 br (decide (v2 < ((v0.size:Nat):Int))) (
 bd (sIdx v0 v2) fun r1 =>
 br (((r1.toNat:Nat):Int) != 45) (
 bd (sIdx v0 v2) fun r2 =>
 K (i64.wrap ((i64.wrap (v1*10))+(i64.wrap (IntKind.u8.wrap (((r2.toNat:Nat):Int)-48))))) (i64.wrap (v2+1))) (
 K v1 (i64.wrap (v2+1)))) (
 E0 v1)
def l0(lf:Nat)(v0:ByteArray):Nat→Int→Int→Option ((Int×Unit)×Unit)
 | 0,_,_=>none
 | n+1,v1,v2=>r0 lf v0 v1 v2 (l0 lf v0 n) (fun w0=>some ((w0,()),()))
def sh0:ShS:=⟨[.s .str,.a 2,.s (.int .i64),.s (.int .i64),.a 23],[]⟩
def S0(p:ByteArray×Int×Int×Unit):St:=sh0.b p
def xh0:ShS:=⟨[.s .str,.a 2,.s (.int .i64),.a 24],[]⟩
def o0(v0:ByteArray)(y:(Int×Unit)×Unit):Alt:=.one (.exit 0) (xh0.b (v0,y.1.1,()))
def tb(lf:Nat):List (FuncId×Entry):=[(156,aC.E lf)]
def ahy(lf:Nat):List (Nat×(St→Option LTE)):=[(0,sumE sh0 fun(p:ByteArray×Int×Int×Unit)=>⟨(Int×Unit)×Unit,l0 lf p.1 (lf+40) p.2.1 p.2.2.1,o0 p.1⟩)]
def ls(lf:Nat):List (Nat×FuncId×Sums):=[(13,155,sumsL (ahy lf))]
def it0{ρ:Type}(lf n:Nat)(st:St)(k:KE ρ):Option ρ:=itG anns (ls lf) (tb lf) lf 13 155 0 0 (sumsL (ahy lf)) n st k
theorem t0{ρ:Type}(lf n:Nat)(v0:ByteArray)(v1 v2:Int)(k:KE ρ):it0 lf (n+1) (S0 (v0,v1,v2,())) k=r0 lf v0 v1 v2 (fun x0 x1=>it0 lf n (S0 (v0,x0,x1,())) k) (fun w0=>k (.exit 0) (xh0.b (v0,w0,()))):=by kernel_rfl
theorem u0{ρ:Type}(lf:Nat)(v0:ByteArray)(k:KE ρ):∀ (n:Nat) (v1 v2:Int),it0 lf n (S0 (v0,v1,v2,())) k=bd (l0 lf v0 n v1 v2) fun y=>altK k (o0 v0 y)
 | 0,_,_=>by rw[l0,aU];rfl
 | n+1,v1,v2=>by
  rw[t0];simp only[l0,r0,u0 lf v0 k n,iD,iC,bW,aU,br_t,br_f,o0,altK]
theorem sl(lf:Nat):SL anns (ls lf) (tb lf) lf (ls lf):=slC (laC (fun _=>by kernel_rfl) (fun _ (x:ByteArray×Int×Int×Unit) k=>dY (u0 lf x.1 k (lf+40) x.2.1 x.2.2.1)) laN) slN
def f(lf:Nat)(a0:ByteArray):Option (Int×Unit) :=
 bd (l0 lf a0 (lf+40) 0 0) fun z3 =>
 bd (aC.f lf a0) fun r4 =>
 br r4.1 (
 some ((i64.wrap (0-z3.1.1)),())) (
 some (z3.1.1,()))
def E(lf:Nat):Entry:=⟨[.str],[(.int .i64)],fun x=>f lf x.1⟩
theorem ok(lf:Nat):Ok 155 (E lf):=okL (tC (aC.ok lf) tN) (aoC aoN) (sl lf) fun x=>by kernel_rfl
end bG
namespace aZ
def anns:FuncId→FA:=annsL [(157,⟨annOf [(0,⟨kx 34 [0,5,6],[⟨.tmp 5,(.int .u8),5⟩],[]⟩,⟨kx 34 [4,5],[⟨.tmp 5,(.int .u8),5⟩],[]⟩)],none,[]⟩)]
def r0{ρ:Type}(lf:Nat)(v0 v2:List Int)(v1:Int)(v3:List Int)(K:Int→(List Int)→Option ρ)(E0:(List Int)→Option ρ):Option ρ :=
 br (decide (v1≥0)) (
 bd (idxL v0 v1) fun y3 =>
 bd (apL true 1 v3 [(IntKind.u8.wrap (i64.wrap (48+y3)))]) fun q4 =>
 K (i64.wrap (v1-1)) q4) (
 E0 v3)
def l0(lf:Nat)(v0 v2:List Int):Nat→Int→(List Int)→Option (((List Int)×Unit)×Unit)
 | 0,_,_=>none
 | n+1,v1,v3=>r0 lf v0 v2 v1 v3 (l0 lf v0 v2 n) (fun w0=>some ((w0,()),()))
def sh0:ShS:=⟨[.s (.sl (.int .i64)),.a 4,.s (.row 2),.s (.int .i64),.a 27],[.row (.int .u8) 5 false,.gone,.row (.int .u8) 5 false]⟩
def S0(p:(List Int)×Int×(List Int)×(List Int)×Unit):St:=sh0.b p
def xh0:ShS:=⟨[.a 5,.s (.row 2),.a 28],[.row (.int .u8) 5 false,.gone,.row (.int .u8) 5 false]⟩
def o0(v0 v2:List Int)(y:((List Int)×Unit)×Unit):Alt:=.one (.exit 0) (xh0.b (v2,y.1.1,()))
def r1{ρ:Type}(lf:Nat)(v0:List Int)(v1:Int)(v2:List Int)(K:Int→(List Int)→Option ρ)(E0:(List Int)→Option ρ):Option ρ :=
 br (decide (v1≥0)) (
 bd (idxL v0 v1) fun y7 =>
 bd (apL true 1 v2 [(IntKind.u8.wrap (i64.wrap (48+y7)))]) fun q8 =>
 K (i64.wrap (v1-1)) q8) (
 E0 v2)
def l1(lf:Nat)(v0:List Int):Nat→Int→(List Int)→Option (((List Int)×Unit)×Unit)
 | 0,_,_=>none
 | n+1,v1,v2=>r1 lf v0 v1 v2 (l1 lf v0 n) (fun w0=>some ((w0,()),()))
def sh1:ShS:=⟨[.s (.sl (.int .i64)),.a 4,.s (.row 0),.s (.int .i64),.a 27],[.row (.int .u8) 5 false]⟩
def S1(p:(List Int)×Int×(List Int)×Unit):St:=sh1.b p
def xh1:ShS:=⟨[.a 5,.s (.row 0),.a 28],[.row (.int .u8) 5 false]⟩
def o1(v0:List Int)(y:((List Int)×Unit)×Unit):Alt:=.one (.exit 0) (xh1.b (y.1.1,()))
def tb(lf:Nat):List (FuncId×Entry):=[(139,aN.E lf)]
def aeA(lf:Nat):List (Nat×(St→Option LTE)):=[(0,sumE sh0 fun(p:(List Int)×Int×(List Int)×(List Int)×Unit)=>⟨((List Int)×Unit)×Unit,l0 lf p.1 p.2.2.1 (lf+40) p.2.1 p.2.2.2.1,o0 p.1 p.2.2.1⟩),
 (0,sumE sh1 fun(p:(List Int)×Int×(List Int)×Unit)=>⟨((List Int)×Unit)×Unit,l1 lf p.1 (lf+40) p.2.1 p.2.2.1,o1 p.1⟩)]
def ls(lf:Nat):List (Nat×FuncId×Sums):=[(13,157,sumsL (aeA lf))]
def it0{ρ:Type}(lf n:Nat)(st:St)(k:KE ρ):Option ρ:=itG anns (ls lf) (tb lf) lf 13 157 0 2 (sumsL (aeA lf)) n st k
theorem t0{ρ:Type}(lf n:Nat)(v0:List Int)(v1:Int)(v2 v3:List Int)(k:KE ρ):it0 lf (n+1) (S0 (v0,v1,v2,v3,())) k=r0 lf v0 v2 v1 v3 (fun x0 x1=>it0 lf n (S0 (v0,x0,v2,x1,())) k) (fun w0=>k (.exit 0) (xh0.b (v2,w0,()))):=by kernel_rfl
theorem u0{ρ:Type}(lf:Nat)(v0 v2:List Int)(k:KE ρ):∀ (n:Nat) (v1:Int) (v3:List Int),it0 lf n (S0 (v0,v1,v2,v3,())) k=bd (l0 lf v0 v2 n v1 v3) fun y=>altK k (o0 v0 v2 y)
 | 0,_,_=>by rw[l0,aU];rfl
 | n+1,v1,v3=>by
  rw[t0];simp only[l0,r0,u0 lf v0 v2 k n,iD,iC,bW,aU,br_t,br_f,o0,altK]
def it1{ρ:Type}(lf n:Nat)(st:St)(k:KE ρ):Option ρ:=itG anns (ls lf) (tb lf) lf 13 157 0 0 (sumsL (aeA lf)) n st k
theorem t1{ρ:Type}(lf n:Nat)(v0:List Int)(v1:Int)(v2:List Int)(k:KE ρ):it1 lf (n+1) (S1 (v0,v1,v2,())) k=r1 lf v0 v1 v2 (fun x0 x1=>it1 lf n (S1 (v0,x0,x1,())) k) (fun w0=>k (.exit 0) (xh1.b (w0,()))):=by kernel_rfl
theorem u1{ρ:Type}(lf:Nat)(v0:List Int)(k:KE ρ):∀ (n:Nat) (v1:Int) (v2:List Int),it1 lf n (S1 (v0,v1,v2,())) k=bd (l1 lf v0 n v1 v2) fun y=>altK k (o1 v0 y)
 | 0,_,_=>by rw[l1,aU];rfl
 | n+1,v1,v2=>by
  rw[t1];simp only[l1,r1,u1 lf v0 k n,iD,iC,bW,aU,br_t,br_f,o1,altK]
theorem sl(lf:Nat):SL anns (ls lf) (tb lf) lf (ls lf):=slC (laC (fun _=>by kernel_rfl) (fun _ (x:(List Int)×Int×(List Int)×(List Int)×Unit) k=>dY (u0 lf x.1 x.2.2.1 k (lf+40) x.2.1 x.2.2.2.1)) (laC (fun _=>by kernel_rfl) (fun _ (x:(List Int)×Int×(List Int)×Unit) k=>dY (u1 lf x.1 k (lf+40) x.2.1 x.2.2.1)) laN)) slN
def f(lf:Nat)(a0:List Int)(a1:Bool):Option (ByteArray×Unit) :=
 bd (aN.f lf a0) fun r1 =>
 br (((r1.1.length:Nat):Int)==0) (
 some ((⟨#[48]⟩:ByteArray),())) (
 br a1 (
 bd (apL true 1 [] [45]) fun q2 =>
 bd (l0 lf r1.1 [45] (lf+40) (i64.wrap (((r1.1.length:Nat):Int)-1)) q2) fun z5 =>
 bd (if true=true then some (bytesS z5.1.1)else none) fun s6 =>
 some (s6,())) (
 bd (l1 lf r1.1 (lf+40) (i64.wrap (((r1.1.length:Nat):Int)-1)) []) fun z9 =>
 bd (if true=true then some (bytesS z9.1.1)else none) fun s10 =>
 some (s10,())))
def E(lf:Nat):Entry:=⟨[(.sl (.int .i64)),.bool],[.str],fun x=>f lf x.1 x.2.1⟩
theorem ok(lf:Nat):Ok 157 (E lf):=okL (tC (aN.ok lf) tN) (aoC aoN) (sl lf) fun x=>by kernel_rfl
end aZ
namespace iH
def f(lf:Nat)(a0:List Int)(a1:Int):Option (Int×Unit) :=
 br (decide (a1 < ((a0.length:Nat):Int))) (
 bd (idxL a0 a1) fun y1 =>
 some (y1,())) (
 some (0,()))
def E(lf:Nat):Entry:=⟨[(.sl (.int .i64)),(.int .i64)],[(.int .i64)],fun x=>f lf x.1 x.2.1⟩
theorem ok(lf:Nat):Ok 259 (E lf):=okT (an:=(annsL [])) (lf:=lf) tN aoN fun x=>by kernel_rfl
end iH
namespace fA
def anns:FuncId→FA:=annsL [(158,⟨annOf [(0,⟨kx 36 [0,1,5,6,7],[⟨.tmp 5,(.int .i64),3⟩],[]⟩,⟨kx 36 [4,5],[⟨.tmp 5,(.int .i64),3⟩],[]⟩)],none,[]⟩)]
def r0{ρ:Type}(lf:Nat)(v0 v1:List Int)(v2 v3:Int)(v4:List Int)(K:Int→Int→(List Int)→Option ρ)(E0:(List Int)→Option ρ):Option ρ :=
 br (decide (v3 < (i64.wrap ((if((v1.length:Nat):Int) >((v0.length:Nat):Int)then((v1.length:Nat):Int)else((v0.length:Nat):Int))+1)))) (
 bd (iH.f lf v0 v3) fun r1 =>
 bd (iH.f lf v1 v3) fun r2 =>
 bd (iRem (i64.wrap (v2+(i64.wrap (r1.1+r2.1)))) 10) fun r3 =>
 bd (apL true 8 v4 [r3]) fun q4 =>
 bd (iQuo .i64 (i64.wrap (v2+(i64.wrap (r1.1+r2.1)))) 10) fun r5 =>
 K r5 (i64.wrap (v3+1)) q4) (
 E0 v4)
def l0(lf:Nat)(v0 v1:List Int):Nat→Int→Int→(List Int)→Option (((List Int)×Unit)×Unit)
 | 0,_,_,_=>none
 | n+1,v2,v3,v4=>r0 lf v0 v1 v2 v3 v4 (l0 lf v0 v1 n) (fun w0=>some ((w0,()),()))
def sh0:ShS:=⟨[.s (.sl (.int .i64)),.s (.sl (.int .i64)),.a 3,.s (.row 0),.s (.int .i64),.s (.int .i64),.a 28],[.row (.int .i64) 3 false]⟩
def S0(p:(List Int)×(List Int)×Int×Int×(List Int)×Unit):St:=sh0.b p
def xh0:ShS:=⟨[.a 5,.s (.row 0),.a 30],[.row (.int .i64) 3 false]⟩
def o0(v0 v1:List Int)(y:((List Int)×Unit)×Unit):Alt:=.one (.exit 0) (xh0.b (y.1.1,()))
def tb(lf:Nat):List (FuncId×Entry):=[(139,aN.E lf),(259,iH.E lf)]
def ahz(lf:Nat):List (Nat×(St→Option LTE)):=[(0,sumE sh0 fun(p:(List Int)×(List Int)×Int×Int×(List Int)×Unit)=>⟨((List Int)×Unit)×Unit,l0 lf p.1 p.2.1 (lf+40) p.2.2.1 p.2.2.2.1 p.2.2.2.2.1,o0 p.1 p.2.1⟩)]
def ls(lf:Nat):List (Nat×FuncId×Sums):=[(13,158,sumsL (ahz lf))]
def it0{ρ:Type}(lf n:Nat)(st:St)(k:KE ρ):Option ρ:=itG anns (ls lf) (tb lf) lf 13 158 0 0 (sumsL (ahz lf)) n st k
theorem t0{ρ:Type}(lf n:Nat)(v0 v1:List Int)(v2 v3:Int)(v4:List Int)(k:KE ρ):it0 lf (n+1) (S0 (v0,v1,v2,v3,v4,())) k=r0 lf v0 v1 v2 v3 v4 (fun x0 x1 x2=>it0 lf n (S0 (v0,v1,x0,x1,x2,())) k) (fun w0=>k (.exit 0) (xh0.b (w0,()))):=by kernel_rfl
theorem u0{ρ:Type}(lf:Nat)(v0 v1:List Int)(k:KE ρ):∀ (n:Nat) (v2 v3:Int) (v4:List Int),it0 lf n (S0 (v0,v1,v2,v3,v4,())) k=bd (l0 lf v0 v1 n v2 v3 v4) fun y=>altK k (o0 v0 v1 y)
 | 0,_,_,_=>by rw[l0,aU];rfl
 | n+1,v2,v3,v4=>by
  rw[t0];simp only[l0,r0,u0 lf v0 v1 k n,iD,iC,bW,aU,br_t,br_f,o0,altK]
theorem sl(lf:Nat):SL anns (ls lf) (tb lf) lf (ls lf):=slC (laC (fun _=>by kernel_rfl) (fun _ (x:(List Int)×(List Int)×Int×Int×(List Int)×Unit) k=>dY (u0 lf x.1 x.2.1 k (lf+40) x.2.2.1 x.2.2.2.1 x.2.2.2.2.1)) laN) slN
def f(lf:Nat)(a0:List Int)(a1:List Int):Option ((List Int)×Unit) :=
 bd (l0 lf a0 a1 (lf+40) 0 0 []) fun z6 =>
 bd (aN.f lf z6.1.1) fun r7 =>
 some (r7.1,())
def E(lf:Nat):Entry:=⟨[(.sl (.int .i64)),(.sl (.int .i64))],[(.sl (.int .i64))],fun x=>f lf x.1 x.2.1⟩
theorem ok(lf:Nat):Ok 158 (E lf):=okL (tC (aN.ok lf) (tC (iH.ok lf) tN)) (aoC aoN) (sl lf) fun x=>by kernel_rfl
end fA
namespace bQ
def anns:FuncId→FA:=annsL [(159,⟨annOf [(0,⟨kx 35 [0,1,5,6,7],[⟨.tmp 5,(.int .i64),3⟩],[]⟩,⟨kx 35 [4,5],[⟨.tmp 5,(.int .i64),3⟩],[]⟩)],none,[]⟩)]
def r0{ρ:Type}(lf:Nat)(v0 v1:List Int)(v2 v3:Int)(v4:List Int)(K:Int→Int→(List Int)→Option ρ)(E0:(List Int)→Option ρ):Option ρ :=
 br (decide (v3 < ((v0.length:Nat):Int))) (
 bd (idxL v0 v3) fun y1 =>
 bd (iH.f lf v1 v3) fun r2 =>
 br (decide ((i64.wrap ((i64.wrap (y1-r2.1))-v2)) < 0)) (
 bd (apL true 8 v4 [(i64.wrap ((i64.wrap ((i64.wrap (y1-r2.1))-v2))+10))]) fun q3 =>
 K 1 (i64.wrap (v3+1)) q3) (
 bd (apL true 8 v4 [(i64.wrap ((i64.wrap (y1-r2.1))-v2))]) fun q4 =>
 K 0 (i64.wrap (v3+1)) q4)) (
 E0 v4)
def l0(lf:Nat)(v0 v1:List Int):Nat→Int→Int→(List Int)→Option (((List Int)×Unit)×Unit)
 | 0,_,_,_=>none
 | n+1,v2,v3,v4=>r0 lf v0 v1 v2 v3 v4 (l0 lf v0 v1 n) (fun w0=>some ((w0,()),()))
def sh0:ShS:=⟨[.s (.sl (.int .i64)),.s (.sl (.int .i64)),.a 3,.s (.row 0),.s (.int .i64),.s (.int .i64),.a 27],[.row (.int .i64) 3 false]⟩
def S0(p:(List Int)×(List Int)×Int×Int×(List Int)×Unit):St:=sh0.b p
def xh0:ShS:=⟨[.a 5,.s (.row 0),.a 29],[.row (.int .i64) 3 false]⟩
def o0(v0 v1:List Int)(y:((List Int)×Unit)×Unit):Alt:=.one (.exit 0) (xh0.b (y.1.1,()))
def tb(lf:Nat):List (FuncId×Entry):=[(139,aN.E lf),(259,iH.E lf)]
def ahA(lf:Nat):List (Nat×(St→Option LTE)):=[(0,sumE sh0 fun(p:(List Int)×(List Int)×Int×Int×(List Int)×Unit)=>⟨((List Int)×Unit)×Unit,l0 lf p.1 p.2.1 (lf+40) p.2.2.1 p.2.2.2.1 p.2.2.2.2.1,o0 p.1 p.2.1⟩)]
def ls(lf:Nat):List (Nat×FuncId×Sums):=[(13,159,sumsL (ahA lf))]
def it0{ρ:Type}(lf n:Nat)(st:St)(k:KE ρ):Option ρ:=itG anns (ls lf) (tb lf) lf 13 159 0 0 (sumsL (ahA lf)) n st k
theorem t0{ρ:Type}(lf n:Nat)(v0 v1:List Int)(v2 v3:Int)(v4:List Int)(k:KE ρ):it0 lf (n+1) (S0 (v0,v1,v2,v3,v4,())) k=r0 lf v0 v1 v2 v3 v4 (fun x0 x1 x2=>it0 lf n (S0 (v0,v1,x0,x1,x2,())) k) (fun w0=>k (.exit 0) (xh0.b (w0,()))):=by kernel_rfl
theorem u0{ρ:Type}(lf:Nat)(v0 v1:List Int)(k:KE ρ):∀ (n:Nat) (v2 v3:Int) (v4:List Int),it0 lf n (S0 (v0,v1,v2,v3,v4,())) k=bd (l0 lf v0 v1 n v2 v3 v4) fun y=>altK k (o0 v0 v1 y)
 | 0,_,_,_=>by rw[l0,aU];rfl
 | n+1,v2,v3,v4=>by
  rw[t0];simp only[l0,r0,u0 lf v0 v1 k n,iD,iC,bW,aU,br_t,br_f,o0,altK]
theorem sl(lf:Nat):SL anns (ls lf) (tb lf) lf (ls lf):=slC (laC (fun _=>by kernel_rfl) (fun _ (x:(List Int)×(List Int)×Int×Int×(List Int)×Unit) k=>dY (u0 lf x.1 x.2.1 k (lf+40) x.2.2.1 x.2.2.2.1 x.2.2.2.2.1)) laN) slN
def f(lf:Nat)(a0:List Int)(a1:List Int):Option ((List Int)×Unit) :=
 bd (l0 lf a0 a1 (lf+40) 0 0 []) fun z5 =>
 bd (aN.f lf z5.1.1) fun r6 =>
 some (r6.1,())
def E(lf:Nat):Entry:=⟨[(.sl (.int .i64)),(.sl (.int .i64))],[(.sl (.int .i64))],fun x=>f lf x.1 x.2.1⟩
theorem ok(lf:Nat):Ok 159 (E lf):=okL (tC (aN.ok lf) (tC (iH.ok lf) tN)) (aoC aoN) (sl lf) fun x=>by kernel_rfl
end bQ
namespace dB
def f(lf:Nat)(a0:ByteArray)(a1:ByteArray):Option (ByteArray×Unit) :=
 bd (gG.f lf a0 17) fun r1 =>
 br r1.1 (
 bd (gG.f lf a1 17) fun r2 =>
 br r2.1 (
 bd (bG.f lf a0) fun r3 =>
 bd (bG.f lf a1) fun r4 =>
 bd (bP.f lf (i64.wrap (r3.1+r4.1))) fun r5 =>
 some (r5.1,())) (
 bd (aV.f lf a0) fun r6 =>
 bd (aV.f lf a1) fun r7 =>
 bd (aC.f lf a0) fun r8 =>
 bd (aC.f lf a1) fun r9 =>
 br (r8.1==r9.1) (
 bd (fA.f lf r6.1 r7.1) fun r10 =>
 bd (aC.f lf a0) fun r11 =>
 bd (aZ.f lf r10.1 r11.1) fun r12 =>
 some (r12.1,())) (
 bd (aN.f lf r6.1) fun r13 =>
 bd (aN.f lf r7.1) fun r14 =>
 bd (cu.f lf r13.1 r14.1) fun r15 =>
 br (decide (r15.1≥0)) (
 bd (bQ.f lf r6.1 r7.1) fun r16 =>
 bd (aC.f lf a0) fun r17 =>
 bd (aZ.f lf r16.1 r17.1) fun r18 =>
 some (r18.1,())) (
 bd (bQ.f lf r7.1 r6.1) fun r19 =>
 bd (aC.f lf a1) fun r20 =>
 bd (aZ.f lf r19.1 r20.1) fun r21 =>
 some (r21.1,()))))) (
 bd (aV.f lf a0) fun r22 =>
 bd (aV.f lf a1) fun r23 =>
 bd (aC.f lf a0) fun r24 =>
 bd (aC.f lf a1) fun r25 =>
 br (r24.1==r25.1) (
 bd (fA.f lf r22.1 r23.1) fun r26 =>
 bd (aC.f lf a0) fun r27 =>
 bd (aZ.f lf r26.1 r27.1) fun r28 =>
 some (r28.1,())) (
 bd (aN.f lf r22.1) fun r29 =>
 bd (aN.f lf r23.1) fun r30 =>
 bd (cu.f lf r29.1 r30.1) fun r31 =>
 br (decide (r31.1≥0)) (
 bd (bQ.f lf r22.1 r23.1) fun r32 =>
 bd (aC.f lf a0) fun r33 =>
 bd (aZ.f lf r32.1 r33.1) fun r34 =>
 some (r34.1,())) (
 bd (bQ.f lf r23.1 r22.1) fun r35 =>
 bd (aC.f lf a1) fun r36 =>
 bd (aZ.f lf r35.1 r36.1) fun r37 =>
 some (r37.1,()))))
def E(lf:Nat):Entry:=⟨[.str,.str],[.str],fun x=>f lf x.1 x.2.1⟩
theorem ok(lf:Nat):Ok 65 (E lf):=okT (an:=(annsL [])) (lf:=lf) (tC (bP.ok lf) (tC (cu.ok lf) (tC (aN.ok lf) (tC (aV.ok lf) (tC (gG.ok lf) (tC (bG.ok lf) (tC (aC.ok lf) (tC (aZ.ok lf) (tC (fA.ok lf) (tC (bQ.ok lf) tN)))))))))) aoN fun x=>by kernel_rfl
end dB
namespace di
def f(lf:Nat)(a0:ByteArray):Option (ByteArray×Unit) :=
 br (a0.toList==(⟨#[48]⟩:ByteArray).toList) (
 some (a0,())) (
 bd (aC.f lf a0) fun r1 =>
 br r1.1 (
 bd (sCut a0 (some 1) none) fun r2 =>
 some (r2,())) (
 bd (sCat (⟨#[45]⟩:ByteArray) a0) fun r3 =>
 some (r3,())))
def E(lf:Nat):Entry:=⟨[.str],[.str],fun x=>f lf x.1⟩
theorem ok(lf:Nat):Ok 70 (E lf):=okT (an:=(annsL [])) (lf:=lf) (tC (aC.ok lf) tN) aoN fun x=>by kernel_rfl
end di
namespace aQ
def f(lf:Nat)(a0:ByteArray)(a1:ByteArray):Option (ByteArray×Unit) :=
 bd (di.f lf a1) fun r1 =>
 bd (dB.f lf a0 r1.1) fun r2 =>
 some (r2.1,())
def E(lf:Nat):Entry:=⟨[.str,.str],[.str],fun x=>f lf x.1 x.2.1⟩
theorem ok(lf:Nat):Ok 66 (E lf):=okT (an:=(annsL [])) (lf:=lf) (tC (dB.ok lf) (tC (di.ok lf) tN)) aoN fun x=>by kernel_rfl
end aQ
end
end Go.Q
namespace Go.Q
open Go.IntKind (i64)
open Go Go.RowKit
open Go.Rx (br bd sIdx sCat sCut iQuo iRem)
noncomputable section
namespace dA
def anns:FuncId→FA:=annsL [(160,⟨annOf [(0,⟨kx 63 [0,1,5,6],[],[]⟩,⟨kx 63 [4,5],[],[]⟩),(1,⟨kx 63 [0,1,5,6,7,8],[],[]⟩,⟨kx 63 [0,1,4,5,6,7],[],[]⟩)],none,[]⟩)]
def r1{ρ:Type}(lf:Nat)(v0 v1:List Int)(v2:Int)(v3 v4:Int)(v5:List Int)(K:Int→Int→(List Int)→Option ρ)(E0:Int→(List Int)→Option ρ):Option ρ :=
 br (decide (v4 < ((v1.length:Nat):Int))) (
 bd (idxB v5.length (i64.wrap (v2+v4))) fun j2 =>
 bd (v5[j2]?) fun y3 =>
 bd (idxL v0 v2) fun y4 =>
 bd (idxL v1 v4) fun y5 =>
 bd (iRem (i64.wrap (v3+(i64.wrap (y3+(i64.wrap (y4*y5)))))) 10) fun r6 =>
 bd (idxB v5.length (i64.wrap (v2+v4))) fun j7 =>
 bd (upE v5 j7 fun _=>some r6) fun q8 =>
 bd (iQuo .i64 (i64.wrap (v3+(i64.wrap (y3+(i64.wrap (y4*y5)))))) 10) fun r10 =>
 K r10 (i64.wrap (v4+1)) q8) (
 E0 v3 v5)
def l1(lf:Nat)(v0 v1:List Int)(v2:Int):Nat→Int→Int→(List Int)→Option ((Int×(List Int)×Unit)×Unit)
 | 0,_,_,_=>none
 | n+1,v3,v4,v5=>r1 lf v0 v1 v2 v3 v4 v5 (l1 lf v0 v1 v2 n) (fun w0 w1=>some ((w0,w1,()),()))
def sh1:ShS:=⟨[.s (.sl (.int .i64)),.s (.sl (.int .i64)),.a 3,.s (.row 0),.s (.int .i64),.s (.int .i64),.s (.int .i64),.a 54],[.row (.int .i64) 3 false]⟩
def S1(p:(List Int)×(List Int)×Int×Int×Int×(List Int)×Unit):St:=sh1.b p
def xh0:ShS:=⟨[.s (.sl (.int .i64)),.s (.sl (.int .i64)),.a 3,.s (.row 0),.s (.int .i64),.s (.int .i64),.a 55],[.row (.int .i64) 3 false]⟩
def o1(v0 v1:List Int)(v2:Int)(y:(Int×(List Int)×Unit)×Unit):Alt:=.one (.exit 2) (xh0.b (v0,v1,v2,y.1.1,y.1.2.1,()))
def r0{ρ:Type}(lf:Nat)(v0 v1:List Int)(v2:Int)(v3:List Int)(K:Int→(List Int)→Option ρ)(E0:(List Int)→Option ρ):Option ρ :=
 br (decide (v2 < ((v0.length:Nat):Int))) (
 bd (l1 lf v0 v1 v2 (lf+40) 0 0 v3) fun z11 =>
 bd (idxB z11.1.2.1.length (i64.wrap (v2+((v1.length:Nat):Int)))) fun j12 =>
 bd (upE z11.1.2.1 j12 fun _=>some z11.1.1) fun q13 =>
 K (i64.wrap (v2+1)) q13) (
 E0 v3)
def l0(lf:Nat)(v0 v1:List Int):Nat→Int→(List Int)→Option (((List Int)×Unit)×Unit)
 | 0,_,_=>none
 | n+1,v2,v3=>r0 lf v0 v1 v2 v3 (l0 lf v0 v1 n) (fun w0=>some ((w0,()),()))
def sh0:ShS:=⟨[.s (.sl (.int .i64)),.s (.sl (.int .i64)),.a 3,.s (.row 0),.s (.int .i64),.a 56],[.row (.int .i64) 3 false]⟩
def S0(p:(List Int)×(List Int)×Int×(List Int)×Unit):St:=sh0.b p
def xh1:ShS:=⟨[.a 5,.s (.row 0),.a 57],[.row (.int .i64) 3 false]⟩
def o0(v0 v1:List Int)(y:((List Int)×Unit)×Unit):Alt:=.one (.exit 0) (xh1.b (y.1.1,()))
def tb(lf:Nat):List (FuncId×Entry):=[(139,aN.E lf)]
def aeB(lf:Nat):List (Nat×(St→Option LTE)):=[(0,sumE sh0 fun(p:(List Int)×(List Int)×Int×(List Int)×Unit)=>⟨((List Int)×Unit)×Unit,l0 lf p.1 p.2.1 (lf+40) p.2.2.1 p.2.2.2.1,o0 p.1 p.2.1⟩),
 (1,sumE sh1 fun(p:(List Int)×(List Int)×Int×Int×Int×(List Int)×Unit)=>⟨(Int×(List Int)×Unit)×Unit,l1 lf p.1 p.2.1 p.2.2.1 (lf+40) p.2.2.2.1 p.2.2.2.2.1 p.2.2.2.2.2.1,o1 p.1 p.2.1 p.2.2.1⟩)]
def ls(lf:Nat):List (Nat×FuncId×Sums):=[(13,160,sumsL (aeB lf))]
def it1{ρ:Type}(lf n:Nat)(st:St)(k:KE ρ):Option ρ:=itG anns (ls lf) (tb lf) lf 13 160 1 1 (sumsL (aeB lf)) n st k
theorem t1{ρ:Type}(lf n:Nat)(v0 v1:List Int)(v2 v3 v4:Int)(v5:List Int)(k:KE ρ):it1 lf (n+1) (S1 (v0,v1,v2,v3,v4,v5,())) k=r1 lf v0 v1 v2 v3 v4 v5 (fun x0 x1 x2=>it1 lf n (S1 (v0,v1,v2,x0,x1,x2,())) k) (fun w0 w1=>k (.exit 2) (xh0.b (v0,v1,v2,w0,w1,()))):=by kernel_rfl
theorem u1{ρ:Type}(lf:Nat)(v0 v1:List Int)(v2:Int)(k:KE ρ):∀ (n:Nat) (v3 v4:Int) (v5:List Int),it1 lf n (S1 (v0,v1,v2,v3,v4,v5,())) k=bd (l1 lf v0 v1 v2 n v3 v4 v5) fun y=>altK k (o1 v0 v1 v2 y)
 | 0,_,_,_=>by rw[l1,aU];rfl
 | n+1,v3,v4,v5=>by
  rw[t1];simp only[l1,r1,u1 lf v0 v1 v2 k n,iD,iC,bW,aU,br_t,br_f,o1,altK]
def it0{ρ:Type}(lf n:Nat)(st:St)(k:KE ρ):Option ρ:=itG anns (ls lf) (tb lf) lf 13 160 0 1 (sumsL (aeB lf)) n st k
theorem t0{ρ:Type}(lf n:Nat)(v0 v1:List Int)(v2:Int)(v3:List Int)(k:KE ρ):it0 lf (n+1) (S0 (v0,v1,v2,v3,())) k=r0 lf v0 v1 v2 v3 (fun x0 x1=>it0 lf n (S0 (v0,v1,x0,x1,())) k) (fun w0=>k (.exit 0) (xh1.b (w0,()))):=by kernel_rfl
theorem u0{ρ:Type}(lf:Nat)(v0 v1:List Int)(k:KE ρ):∀ (n:Nat) (v2:Int) (v3:List Int),it0 lf n (S0 (v0,v1,v2,v3,())) k=bd (l0 lf v0 v1 n v2 v3) fun y=>altK k (o0 v0 v1 y)
 | 0,_,_=>by rw[l0,aU];rfl
 | n+1,v2,v3=>by
  rw[t0];simp only[l0,r0,u0 lf v0 v1 k n,iD,iC,bW,aU,br_t,br_f,o0,altK]
theorem sl(lf:Nat):SL anns (ls lf) (tb lf) lf (ls lf):=slC (laC (fun _=>by kernel_rfl) (fun _ (x:(List Int)×(List Int)×Int×(List Int)×Unit) k=>dY (u0 lf x.1 x.2.1 k (lf+40) x.2.2.1 x.2.2.2.1)) (laC (fun _=>by kernel_rfl) (fun _ (x:(List Int)×(List Int)×Int×Int×Int×(List Int)×Unit) k=>dY (u1 lf x.1 x.2.1 x.2.2.1 k (lf+40) x.2.2.2.1 x.2.2.2.2.1 x.2.2.2.2.2.1)) laN)) slN
def f(lf:Nat)(a0:List Int)(a1:List Int):Option ((List Int)×Unit) :=
 bd (mkL (i64.wrap (((a0.length:Nat):Int)+((a1.length:Nat):Int))) (i64.wrap (((a0.length:Nat):Int)+((a1.length:Nat):Int))) 8 0) fun q1 =>
 bd (l0 lf a0 a1 (lf+40) 0 q1) fun z15 =>
 bd (aN.f lf z15.1.1) fun r16 =>
 some (r16.1,())
def E(lf:Nat):Entry:=⟨[(.sl (.int .i64)),(.sl (.int .i64))],[(.sl (.int .i64))],fun x=>f lf x.1 x.2.1⟩
theorem ok(lf:Nat):Ok 160 (E lf):=okL (tC (aN.ok lf) tN) (aoC aoN) (sl lf) fun x=>by kernel_rfl
end dA
namespace aX
def f(lf:Nat)(a0:ByteArray)(a1:ByteArray):Option (ByteArray×Unit) :=
 bd (bn.f lf a0) fun r1 =>
 bd (bn.f lf a1) fun r2 =>
 br (decide ((i64.wrap (r1.1+r2.1))≤18)) (
 bd (bG.f lf a0) fun r3 =>
 bd (bG.f lf a1) fun r4 =>
 bd (bP.f lf (i64.wrap (r3.1*r4.1))) fun r5 =>
 some (r5.1,())) (
 bd (aV.f lf a0) fun r6 =>
 bd (aV.f lf a1) fun r7 =>
 bd (dA.f lf r6.1 r7.1) fun r8 =>
 bd (aC.f lf a0) fun r9 =>
 bd (aC.f lf a1) fun r10 =>
 bd (aZ.f lf r8.1 (r9.1 != r10.1)) fun r11 =>
 some (r11.1,()))
def E(lf:Nat):Entry:=⟨[.str,.str],[.str],fun x=>f lf x.1 x.2.1⟩
theorem ok(lf:Nat):Ok 67 (E lf):=okT (an:=(annsL [])) (lf:=lf) (tC (bn.ok lf) (tC (bP.ok lf) (tC (aV.ok lf) (tC (bG.ok lf) (tC (aC.ok lf) (tC (aZ.ok lf) (tC (dA.ok lf) tN))))))) aoN fun x=>by kernel_rfl
end aX
namespace lG
def f(lf:Nat)(a0:Int)(a1:Int):Option (Int×Unit) :=
 bd (iQuo .i64 a0 a1) fun r1 =>
 bd (iRem a0 a1) fun r2 =>
 br (r2 != 0) (
 br ((decide (a0 < 0)) !=(decide (a1 < 0))) (
 some ((i64.wrap (r1-1)),())) (
 some (r1,()))) (
 some (r1,()))
def E(lf:Nat):Entry:=⟨[(.int .i64),(.int .i64)],[(.int .i64)],fun x=>f lf x.1 x.2.1⟩
theorem ok(lf:Nat):Ok 161 (E lf):=okT (an:=(annsL [])) (lf:=lf) tN aoN fun x=>by kernel_rfl
end lG
namespace bC
def anns:FuncId→FA:=annsL [(162,⟨annOf [(0,⟨kx 56 [0,1,7,8,9],[],[]⟩,⟨kx 56 [4,5,7,8],[],[]⟩),(1,⟨kx 56 [0,1,7,8,9],[],[]⟩,⟨kx 56 [0,1,4,5,7,8,9],[],[]⟩)],none,[]⟩)]
def r1{ρ:Type}(lf:Nat)(v0 v1:List Int)(v3:Int)(v5 v6:List Int)(v2 v4:List Int)(K:(List Int)→(List Int)→Option ρ)(E0:(List Int)→(List Int)→Option ρ):Option ρ :=
 bd (cu.f lf v2 v1) fun r7 =>
 br (decide (r7.1≥0)) (
 bd (bQ.f lf v2 v1) fun r8 =>
 bd (idxB v4.length v3) fun j9 =>
 bd (v4[j9]?) fun y10 =>
 bd (idxB v4.length v3) fun j11 =>
 bd (upE v4 j11 fun _=>some (i64.wrap (y10+1))) fun q12 =>
 K r8.1 q12) (
 E0 v2 v4)
def l1(lf:Nat)(v0 v1:List Int)(v3:Int)(v5 v6:List Int):Nat→(List Int)→(List Int)→Option (((List Int)×(List Int)×Unit)×Unit)
 | 0,_,_=>none
 | n+1,v2,v4=>r1 lf v0 v1 v3 v5 v6 v2 v4 (l1 lf v0 v1 v3 v5 v6 n) (fun w0 w1=>some ((w0,w1,()),()))
def sh1:ShS:=⟨[.s (.sl (.int .i64)),.s (.sl (.int .i64)),.a 5,.s (.row 0),.s (.sl (.int .i64)),.s (.int .i64),.a 46],[.row (.int .i64) 3 false,.gone,.row (.int .i64) 3 false,.gone,.row (.int .i64) 3 true]⟩
def S1(p:(List Int)×(List Int)×(List Int)×Int×(List Int)×(List Int)×(List Int)×Unit):St:=sh1.b p
def xh0:ShS:=⟨[.s (.sl (.int .i64)),.s (.sl (.int .i64)),.a 5,.s (.row 0),.s (.sl (.int .i64)),.s (.int .i64),.a 46],[.row (.int .i64) 3 false,.gone,.row (.int .i64) 3 false,.gone,.row (.int .i64) 3 true]⟩
def o1(v0 v1:List Int)(v3:Int)(v5 v6:List Int)(y:((List Int)×(List Int)×Unit)×Unit):Alt:=.one (.exit 2) (xh0.b (v0,v1,y.1.1,v3,y.1.2.1,v5,v6,()))
def r2{ρ:Type}(lf:Nat)(v0 v1 v5:List Int)(v2:List Int)(v3:Int)(v4:List Int)(K:(List Int)→Int→(List Int)→Option ρ)(E0:(List Int)→(List Int)→(List Int)→Option ρ):Option ρ :=
 br (decide (v3≥0)) (
 bd (idxL v0 v3) fun y15 =>
 bd (apL true 8 [y15] v2) fun q16 =>
 bd (aN.f lf q16) fun r17 =>
 bd (l1 lf v0 v1 v3 v5 q16 (lf+40) r17.1 v4) fun z18 =>
 K z18.1.1 (i64.wrap (v3-1)) z18.1.2.1) (
 E0 v2 v4 v5)
def l2(lf:Nat)(v0 v1 v5:List Int):Nat→(List Int)→Int→(List Int)→Option (((List Int)×(List Int)×(List Int)×Unit)×Unit)
 | 0,_,_,_=>none
 | n+1,v2,v3,v4=>r2 lf v0 v1 v5 v2 v3 v4 (l2 lf v0 v1 v5 n) (fun w0 w1 w2=>some ((w0,w1,w2,()),()))
def sh2:ShS:=⟨[.s (.sl (.int .i64)),.s (.sl (.int .i64)),.a 5,.s (.row 0),.s (.sl (.int .i64)),.s (.int .i64),.a 46],[.row (.int .i64) 3 false,.gone,.row (.int .i64) 3 false]⟩
def S2(p:(List Int)×(List Int)×(List Int)×Int×(List Int)×(List Int)×Unit):St:=sh2.b p
def xh1:ShS:=⟨[.a 7,.s (.row 0),.s (.sl (.int .i64)),.a 47],[.row (.int .i64) 3 false,.gone,.row (.int .i64) 3 false]⟩
def o2(v0 v1 v5:List Int)(y:((List Int)×(List Int)×(List Int)×Unit)×Unit):Alt:=.one (.exit 0) (xh1.b (y.1.1,y.1.2.1,y.1.2.2.1,()))
def r0{ρ:Type}(lf:Nat)(v0 v1:List Int)(v2:Int)(v3 v4:List Int)(K2:(List Int)→(List Int)→(List Int)→Int→(List Int)→(List Int)→Option ρ)(E0:(List Int)→(List Int)→Option ρ):Option ρ :=
 br (decide (v2≥0)) (
 bd (idxL v0 v2) fun y4 =>
 bd (apL true 8 [y4] v4) fun q5 =>
 bd (aN.f lf q5) fun r6 =>
 bd (l1 lf v0 v1 v2 v4 q5 (lf+40) r6.1 v3) fun z14 =>
 K2 v0 v1 z14.1.1 (i64.wrap (v2-1)) z14.1.2.1 v4) (
 E0 v3 v4)
def l0(lf:Nat)(v0 v1:List Int)(v2:Int)(v3 v4:List Int):Nat→Option (Bool×((List Int)×(List Int)×Unit)×((List Int)×(List Int)×(List Int)×Unit)×Unit)
 | 0=>none
 | n+1=>r0 lf v0 v1 v2 v3 v4 (fun x0 x1 x2 x3 x4 x5=>bd (l2 lf x0 x1 x5 n x2 x3 x4) fun z19=>some (false,([],[],()),((z19.1.1,z19.1.2.1,z19.1.2.2.1,()),()))) (fun w0 w1=>some (true,(w0,w1,()),(([],[],[],()),())))
def sh0:ShS:=⟨[.s (.sl (.int .i64)),.s (.sl (.int .i64)),.a 5,.s (.row 0),.s (.row 2),.s (.int .i64),.a 46],[.row (.int .i64) 3 false,.gone,.row (.int .i64) 3 false]⟩
def S0(p:(List Int)×(List Int)×Int×(List Int)×(List Int)×Unit):St:=sh0.b p
def xh2:ShS:=⟨[.a 7,.s (.row 0),.s (.row 2),.a 47],[.row (.int .i64) 3 false,.gone,.row (.int .i64) 3 false]⟩
def o0(v0 v1:List Int)(v2:Int)(v3 v4:List Int)(y:Bool×((List Int)×(List Int)×Unit)×((List Int)×(List Int)×(List Int)×Unit)×Unit):Alt:=.two y.1 (.one (.exit 0) (xh2.b (y.2.1.1,y.2.1.2.1,()))) (.one (.exit 0) (xh1.b (y.2.2.1.1,y.2.2.1.2.1,y.2.2.1.2.2.1,())))
def tb(lf:Nat):List (FuncId×Entry):=[(138,cu.E lf),(139,aN.E lf),(159,bQ.E lf)]
def abS(lf:Nat):List (Nat×(St→Option LTE)):=[(0,sumE sh2 fun(p:(List Int)×(List Int)×(List Int)×Int×(List Int)×(List Int)×Unit)=>⟨((List Int)×(List Int)×(List Int)×Unit)×Unit,l2 lf p.1 p.2.1 p.2.2.2.2.2.1 (lf+40) p.2.2.1 p.2.2.2.1 p.2.2.2.2.1,o2 p.1 p.2.1 p.2.2.2.2.2.1⟩),
 (0,sumE sh0 fun(p:(List Int)×(List Int)×Int×(List Int)×(List Int)×Unit)=>⟨Bool×((List Int)×(List Int)×Unit)×((List Int)×(List Int)×(List Int)×Unit)×Unit,l0 lf p.1 p.2.1 p.2.2.1 p.2.2.2.1 p.2.2.2.2.1 (lf+40),o0 p.1 p.2.1 p.2.2.1 p.2.2.2.1 p.2.2.2.2.1⟩),
 (1,sumE sh1 fun(p:(List Int)×(List Int)×(List Int)×Int×(List Int)×(List Int)×(List Int)×Unit)=>⟨((List Int)×(List Int)×Unit)×Unit,l1 lf p.1 p.2.1 p.2.2.2.1 p.2.2.2.2.2.1 p.2.2.2.2.2.2.1 (lf+40) p.2.2.1 p.2.2.2.2.1,o1 p.1 p.2.1 p.2.2.2.1 p.2.2.2.2.2.1 p.2.2.2.2.2.2.1⟩)]
def ls(lf:Nat):List (Nat×FuncId×Sums):=[(13,162,sumsL (abS lf))]
def it1{ρ:Type}(lf n:Nat)(st:St)(k:KE ρ):Option ρ:=itG anns (ls lf) (tb lf) lf 13 162 1 5 (sumsL (abS lf)) n st k
theorem t1{ρ:Type}(lf n:Nat)(v0 v1 v2:List Int)(v3:Int)(v4 v5 v6:List Int)(k:KE ρ):it1 lf (n+1) (S1 (v0,v1,v2,v3,v4,v5,v6,())) k=r1 lf v0 v1 v3 v5 v6 v2 v4 (fun x0 x1=>it1 lf n (S1 (v0,v1,x0,v3,x1,v5,v6,())) k) (fun w0 w1=>k (.exit 2) (xh0.b (v0,v1,w0,v3,w1,v5,v6,()))):=by kernel_rfl
theorem u1{ρ:Type}(lf:Nat)(v0 v1:List Int)(v3:Int)(v5 v6:List Int)(k:KE ρ):∀ (n:Nat) (v2 v4:List Int),it1 lf n (S1 (v0,v1,v2,v3,v4,v5,v6,())) k=bd (l1 lf v0 v1 v3 v5 v6 n v2 v4) fun y=>altK k (o1 v0 v1 v3 v5 v6 y)
 | 0,_,_=>by rw[l1,aU];rfl
 | n+1,v2,v4=>by
  rw[t1];simp only[l1,r1,u1 lf v0 v1 v3 v5 v6 k n,iD,iC,bW,aU,br_t,br_f,o1,altK]
def it2{ρ:Type}(lf n:Nat)(st:St)(k:KE ρ):Option ρ:=itG anns (ls lf) (tb lf) lf 13 162 0 3 (sumsL (abS lf)) n st k
theorem t2{ρ:Type}(lf n:Nat)(v0 v1 v2:List Int)(v3:Int)(v4 v5:List Int)(k:KE ρ):it2 lf (n+1) (S2 (v0,v1,v2,v3,v4,v5,())) k=r2 lf v0 v1 v5 v2 v3 v4 (fun x0 x1 x2=>it2 lf n (S2 (v0,v1,x0,x1,x2,v5,())) k) (fun w0 w1 w2=>k (.exit 0) (xh1.b (w0,w1,w2,()))):=by kernel_rfl
theorem u2{ρ:Type}(lf:Nat)(v0 v1 v5:List Int)(k:KE ρ):∀ (n:Nat) (v2:List Int) (v3:Int) (v4:List Int),it2 lf n (S2 (v0,v1,v2,v3,v4,v5,())) k=bd (l2 lf v0 v1 v5 n v2 v3 v4) fun y=>altK k (o2 v0 v1 v5 y)
 | 0,_,_,_=>by rw[l2,aU];rfl
 | n+1,v2,v3,v4=>by
  rw[t2];simp only[l2,r2,u2 lf v0 v1 v5 k n,iD,iC,bW,aU,br_t,br_f,o2,altK]
def it0{ρ:Type}(lf n:Nat)(st:St)(k:KE ρ):Option ρ:=itG anns (ls lf) (tb lf) lf 13 162 0 3 (sumsL (abS lf)) n st k
theorem t0{ρ:Type}(lf n:Nat)(v0 v1:List Int)(v2:Int)(v3 v4:List Int)(k:KE ρ):it0 lf (n+1) (S0 (v0,v1,v2,v3,v4,())) k=r0 lf v0 v1 v2 v3 v4 (fun x0 x1 x2 x3 x4 x5=>it2 lf n (S2 (x0,x1,x2,x3,x4,x5,())) k) (fun w0 w1=>k (.exit 0) (xh2.b (w0,w1,()))):=by kernel_rfl
theorem u0{ρ:Type}(lf:Nat)(v0 v1:List Int)(v2:Int)(v3 v4:List Int)(k:KE ρ):∀ (n:Nat),it0 lf n (S0 (v0,v1,v2,v3,v4,())) k=bd (l0 lf v0 v1 v2 v3 v4 n) fun y=>altK k (o0 v0 v1 v2 v3 v4 y)
 | 0=>by rw[l0,aU];rfl
 | n+1=>by
  rw[t0];simp only[l0,r0,u2,iD,iC,bW,aU,br_t,br_f,o0,o2,altK]
theorem sl(lf:Nat):SL anns (ls lf) (tb lf) lf (ls lf):=slC (laC (fun _=>by kernel_rfl) (fun _ (x:(List Int)×(List Int)×(List Int)×Int×(List Int)×(List Int)×Unit) k=>dY (u2 lf x.1 x.2.1 x.2.2.2.2.2.1 k (lf+40) x.2.2.1 x.2.2.2.1 x.2.2.2.2.1)) (laC (fun _=>by kernel_rfl) (fun _ (x:(List Int)×(List Int)×Int×(List Int)×(List Int)×Unit) k=>dY (u0 lf x.1 x.2.1 x.2.2.1 x.2.2.2.1 x.2.2.2.2.1 k (lf+40))) (laC (fun _=>by kernel_rfl) (fun _ (x:(List Int)×(List Int)×(List Int)×Int×(List Int)×(List Int)×(List Int)×Unit) k=>dY (u1 lf x.1 x.2.1 x.2.2.2.1 x.2.2.2.2.2.1 x.2.2.2.2.2.2.1 k (lf+40) x.2.2.1 x.2.2.2.2.1)) laN))) slN
def f(lf:Nat)(a0:List Int)(a1:List Int):Option ((List Int)×(List Int)×Unit) :=
 bd (mkL (if(i64.wrap ((i64.wrap (((a0.length:Nat):Int)-((a1.length:Nat):Int)))+1)) > 0 then(i64.wrap ((i64.wrap (((a0.length:Nat):Int)-((a1.length:Nat):Int)))+1))else 0) (if(i64.wrap ((i64.wrap (((a0.length:Nat):Int)-((a1.length:Nat):Int)))+1)) > 0 then(i64.wrap ((i64.wrap (((a0.length:Nat):Int)-((a1.length:Nat):Int)))+1))else 0) 8 0) fun q1 =>
 bd (cutL a0 (some (if(i64.wrap ((i64.wrap (((a0.length:Nat):Int)-((a1.length:Nat):Int)))+1)) > 0 then(i64.wrap ((i64.wrap (((a0.length:Nat):Int)-((a1.length:Nat):Int)))+1))else 0)) none) fun q2 =>
 bd (apL true 8 [] q2) fun q3 =>
 bd (l0 lf a0 a1 (i64.wrap ((if(i64.wrap ((i64.wrap (((a0.length:Nat):Int)-((a1.length:Nat):Int)))+1)) > 0 then(i64.wrap ((i64.wrap (((a0.length:Nat):Int)-((a1.length:Nat):Int)))+1))else 0)-1)) q1 q3 (lf+40)) fun z20 =>
 br z20.1 (
 bd (aN.f lf z20.2.1.1) fun r21 =>
 some (r21.1,z20.2.1.2.1,())) (
 bd (aN.f lf z20.2.2.1.2.1) fun r22 =>
 some (r22.1,z20.2.2.1.1,()))
def E(lf:Nat):Entry:=⟨[(.sl (.int .i64)),(.sl (.int .i64))],[(.sl (.int .i64)),(.sl (.int .i64))],fun x=>f lf x.1 x.2.1⟩
theorem ok(lf:Nat):Ok 162 (E lf):=okL (tC (cu.ok lf) (tC (aN.ok lf) (tC (bQ.ok lf) tN))) (aoC aoN) (sl lf) fun x=>by kernel_rfl
end bC
end
end Go.Q
namespace Go.Q
open Go Go.RowKit
open Go.Rx (br bd sIdx sCat sCut iQuo iRem)
noncomputable section
namespace aP
def f(lf:Nat)(a0:ByteArray)(a1:ByteArray):Option (ByteArray×Unit) :=
 bd (gG.f lf a0 17) fun r1 =>
 br r1.1 (
 bd (gG.f lf a1 17) fun r2 =>
 br r2.1 (
 bd (bG.f lf a0) fun r3 =>
 bd (bG.f lf a1) fun r4 =>
 bd (lG.f lf r3.1 r4.1) fun r5 =>
 bd (bP.f lf r5.1) fun r6 =>
 some (r6.1,())) (
 bd (aV.f lf a0) fun r7 =>
 bd (aN.f lf r7.1) fun r8 =>
 bd (aV.f lf a1) fun r9 =>
 bd (aN.f lf r9.1) fun r10 =>
 bd (bC.f lf r8.1 r10.1) fun r11 =>
 bd (aC.f lf a0) fun r12 =>
 bd (aC.f lf a1) fun r13 =>
 bd (aZ.f lf r11.1 (r12.1 != r13.1)) fun r14 =>
 bd (aC.f lf a0) fun r15 =>
 bd (aC.f lf a1) fun r16 =>
 br (r15.1 != r16.1) (
 br (decide (((r11.2.1.length:Nat):Int) > 0)) (
 bd (aQ.f lf r14.1 (⟨#[49]⟩:ByteArray)) fun r17 =>
 some (r17.1,())) (
 some (r14.1,()))) (
 some (r14.1,())))) (
 bd (aV.f lf a0) fun r18 =>
 bd (aN.f lf r18.1) fun r19 =>
 bd (aV.f lf a1) fun r20 =>
 bd (aN.f lf r20.1) fun r21 =>
 bd (bC.f lf r19.1 r21.1) fun r22 =>
 bd (aC.f lf a0) fun r23 =>
 bd (aC.f lf a1) fun r24 =>
 bd (aZ.f lf r22.1 (r23.1 != r24.1)) fun r25 =>
 bd (aC.f lf a0) fun r26 =>
 bd (aC.f lf a1) fun r27 =>
 br (r26.1 != r27.1) (
 br (decide (((r22.2.1.length:Nat):Int) > 0)) (
 bd (aQ.f lf r25.1 (⟨#[49]⟩:ByteArray)) fun r28 =>
 some (r28.1,())) (
 some (r25.1,()))) (
 some (r25.1,())))
def E(lf:Nat):Entry:=⟨[.str,.str],[.str],fun x=>f lf x.1 x.2.1⟩
theorem ok(lf:Nat):Ok 68 (E lf):=okT (an:=(annsL [])) (lf:=lf) (tC (aQ.ok lf) (tC (bP.ok lf) (tC (aN.ok lf) (tC (aV.ok lf) (tC (gG.ok lf) (tC (bG.ok lf) (tC (aC.ok lf) (tC (aZ.ok lf) (tC (lG.ok lf) (tC (bC.ok lf) tN)))))))))) aoN fun x=>by kernel_rfl
end aP
namespace bH
def f(lf:Nat)(a0:ByteArray)(a1:ByteArray):Option (ByteArray×Unit) :=
 bd (aP.f lf a0 a1) fun r1 =>
 bd (aX.f lf a1 r1.1) fun r2 =>
 bd (aQ.f lf a0 r2.1) fun r3 =>
 some (r3.1,())
def E(lf:Nat):Entry:=⟨[.str,.str],[.str],fun x=>f lf x.1 x.2.1⟩
theorem ok(lf:Nat):Ok 69 (E lf):=okT (an:=(annsL [])) (lf:=lf) (tC (aQ.ok lf) (tC (aX.ok lf) (tC (aP.ok lf) tN))) aoN fun x=>by kernel_rfl
end bH
namespace bY
def f(lf:Nat)(a0:ByteArray):Option (ByteArray×Unit) :=
 bd (aC.f lf a0) fun r1 =>
 br r1.1 (
 bd (sCut a0 (some 1) none) fun r2 =>
 some (r2,())) (
 some (a0,()))
def E(lf:Nat):Entry:=⟨[.str],[.str],fun x=>f lf x.1⟩
theorem ok(lf:Nat):Ok 347 (E lf):=okT (an:=(annsL [])) (lf:=lf) (tC (aC.ok lf) tN) aoN fun x=>by kernel_rfl
end bY
namespace bg
def anns:FuncId→FA:=annsL [(298,⟨annOf [(0,⟨kx 18 [5,6],[],[]⟩,⟨kx 18 [4,5],[],[]⟩)],none,[]⟩)]
def r0{ρ:Type}(lf:Nat)(v0 v1:ByteArray)(K:ByteArray→ByteArray→Option ρ)(E0:ByteArray→Option ρ):Option ρ :=
 br (!(v1.toList==(⟨#[48]⟩:ByteArray).toList)) (
 bd (bH.f lf v0 v1) fun r3 =>
 K v1 r3.1) (
 E0 v0)
def l0(lf:Nat):Nat→ByteArray→ByteArray→Option ((ByteArray×Unit)×Unit)
 | 0,_,_=>none
 | n+1,v0,v1=>r0 lf v0 v1 (l0 lf n) (fun w0=>some ((w0,()),()))
def sh0:ShS:=⟨[.a 5,.s .str,.s .str,.a 11],[]⟩
def S0(p:ByteArray×ByteArray×Unit):St:=sh0.b p
def xh0:ShS:=⟨[.a 5,.s .str,.a 12],[]⟩
def o0(y:(ByteArray×Unit)×Unit):Alt:=.one (.exit 0) (xh0.b (y.1.1,()))
def tb(lf:Nat):List (FuncId×Entry):=[(69,bH.E lf),(347,bY.E lf)]
def ahC(lf:Nat):List (Nat×(St→Option LTE)):=[(0,sumE sh0 fun(p:ByteArray×ByteArray×Unit)=>⟨(ByteArray×Unit)×Unit,l0 lf (lf+40) p.1 p.2.1,o0⟩)]
def ls(lf:Nat):List (Nat×FuncId×Sums):=[(13,298,sumsL (ahC lf))]
def it0{ρ:Type}(lf n:Nat)(st:St)(k:KE ρ):Option ρ:=itG anns (ls lf) (tb lf) lf 13 298 0 0 (sumsL (ahC lf)) n st k
theorem t0{ρ:Type}(lf n:Nat)(v0 v1:ByteArray)(k:KE ρ):it0 lf (n+1) (S0 (v0,v1,())) k=r0 lf v0 v1 (fun x0 x1=>it0 lf n (S0 (x0,x1,())) k) (fun w0=>k (.exit 0) (xh0.b (w0,()))):=by kernel_rfl
theorem u0{ρ:Type}(lf:Nat)(k:KE ρ):∀ (n:Nat) (v0 v1:ByteArray),it0 lf n (S0 (v0,v1,())) k=bd (l0 lf n v0 v1) fun y=>altK k (o0 y)
 | 0,_,_=>by rw[l0,aU];rfl
 | n+1,v0,v1=>by
  rw[t0];simp only[l0,r0,u0 lf k n,iD,iC,bW,aU,br_t,br_f,o0,altK]
theorem sl(lf:Nat):SL anns (ls lf) (tb lf) lf (ls lf):=slC (laC (fun _=>by kernel_rfl) (fun _ (x:ByteArray×ByteArray×Unit) k=>dY (u0 lf k (lf+40) x.1 x.2.1)) laN) slN
def f(lf:Nat)(a0:ByteArray)(a1:ByteArray):Option (ByteArray×Unit) :=
 bd (bY.f lf a0) fun r1 =>
 bd (bY.f lf a1) fun r2 =>
 bd (l0 lf (lf+40) r1.1 r2.1) fun z4 =>
 some (z4.1.1,())
def E(lf:Nat):Entry:=⟨[.str,.str],[.str],fun x=>f lf x.1 x.2.1⟩
theorem ok(lf:Nat):Ok 298 (E lf):=okL (tC (bH.ok lf) (tC (bY.ok lf) tN)) (aoC aoN) (sl lf) fun x=>by kernel_rfl
end bg
namespace bZ
def anns:FuncId→FA:=annsL [(329,⟨annOf [(0,⟨kx 53 [0,1,6,7,8,9],[],[]⟩,⟨kx 53 [0,1,4,5,6,8],[],[]⟩)],none,[]⟩)]
def r0{ρ:Type}(lf:Nat)(v0 v1:ByteArray)(v2 v3 v4 v5:ByteArray)(K:ByteArray→ByteArray→ByteArray→ByteArray→Option ρ)(E0:ByteArray→ByteArray→Option ρ):Option ρ :=
 br (!(v3.toList==(⟨#[48]⟩:ByteArray).toList)) (
 bd (aP.f lf v2 v3) fun r6 =>
 bd (aX.f lf r6.1 v3) fun r7 =>
 bd (aQ.f lf v2 r7.1) fun r8 =>
 bd (aX.f lf r6.1 v5) fun r9 =>
 bd (aQ.f lf v4 r9.1) fun r10 =>
 K v3 r8.1 v5 r10.1) (
 E0 v2 v4)
def l0(lf:Nat)(v0 v1:ByteArray):Nat→ByteArray→ByteArray→ByteArray→ByteArray→Option ((ByteArray×ByteArray×Unit)×Unit)
 | 0,_,_,_,_=>none
 | n+1,v2,v3,v4,v5=>r0 lf v0 v1 v2 v3 v4 v5 (l0 lf v0 v1 n) (fun w0 w1=>some ((w0,w1,()),()))
def sh0:ShS:=⟨[.s .str,.s .str,.a 4,.s .str,.s .str,.s .str,.s .str,.a 43],[]⟩
def S0(p:ByteArray×ByteArray×ByteArray×ByteArray×ByteArray×ByteArray×Unit):St:=sh0.b p
def xh0:ShS:=⟨[.s .str,.s .str,.a 4,.s .str,.a 1,.s .str,.a 44],[]⟩
def o0(v0 v1:ByteArray)(y:(ByteArray×ByteArray×Unit)×Unit):Alt:=.one (.exit 0) (xh0.b (v0,v1,y.1.1,y.1.2.1,()))
def tb(lf:Nat):List (FuncId×Entry):=[(66,aQ.E lf),(67,aX.E lf),(68,aP.E lf),(69,bH.E lf),(97,bK.E lf),(123,bP.E lf),(347,bY.E lf)]
def ahD(lf:Nat):List (Nat×(St→Option LTE)):=[(0,sumE sh0 fun(p:ByteArray×ByteArray×ByteArray×ByteArray×ByteArray×ByteArray×Unit)=>⟨(ByteArray×ByteArray×Unit)×Unit,l0 lf p.1 p.2.1 (lf+40) p.2.2.1 p.2.2.2.1 p.2.2.2.2.1 p.2.2.2.2.2.1,o0 p.1 p.2.1⟩)]
def ls(lf:Nat):List (Nat×FuncId×Sums):=[(13,329,sumsL (ahD lf))]
def it0{ρ:Type}(lf n:Nat)(st:St)(k:KE ρ):Option ρ:=itG anns (ls lf) (tb lf) lf 13 329 0 0 (sumsL (ahD lf)) n st k
theorem t0{ρ:Type}(lf n:Nat)(v0 v1 v2 v3 v4 v5:ByteArray)(k:KE ρ):it0 lf (n+1) (S0 (v0,v1,v2,v3,v4,v5,())) k=r0 lf v0 v1 v2 v3 v4 v5 (fun x0 x1 x2 x3=>it0 lf n (S0 (v0,v1,x0,x1,x2,x3,())) k) (fun w0 w1=>k (.exit 0) (xh0.b (v0,v1,w0,w1,()))):=by kernel_rfl
theorem u0{ρ:Type}(lf:Nat)(v0 v1:ByteArray)(k:KE ρ):∀ (n:Nat) (v2 v3 v4 v5:ByteArray),it0 lf n (S0 (v0,v1,v2,v3,v4,v5,())) k=bd (l0 lf v0 v1 n v2 v3 v4 v5) fun y=>altK k (o0 v0 v1 y)
 | 0,_,_,_,_=>by rw[l0,aU];rfl
 | n+1,v2,v3,v4,v5=>by
  rw[t0];simp only[l0,r0,u0 lf v0 v1 k n,iD,iC,bW,aU,br_t,br_f,o0,altK]
theorem sl(lf:Nat):SL anns (ls lf) (tb lf) lf (ls lf):=slC (laC (fun _=>by kernel_rfl) (fun _ (x:ByteArray×ByteArray×ByteArray×ByteArray×ByteArray×ByteArray×Unit) k=>dY (u0 lf x.1 x.2.1 k (lf+40) x.2.2.1 x.2.2.2.1 x.2.2.2.2.1 x.2.2.2.2.2.1)) laN) slN
def f(lf:Nat)(a0:ByteArray)(a1:ByteArray):Option (ByteArray×ByteArray×Unit) :=
 br (a1.toList==(⟨#[48]⟩:ByteArray).toList) (
 bd (bK.f lf a0) fun r1 =>
 bd (bP.f lf r1.1) fun r2 =>
 some (r2.1,(⟨#[48]⟩:ByteArray),())) (
 bd (bY.f lf a1) fun r3 =>
 bd (bY.f lf a1) fun r4 =>
 bd (bH.f lf a0 r4.1) fun r5 =>
 bd (l0 lf a0 a1 (lf+40) r3.1 r5.1 (⟨#[48]⟩:ByteArray) (⟨#[49]⟩:ByteArray)) fun z11 =>
 bd (bY.f lf a1) fun r12 =>
 bd (aP.f lf r12.1 z11.1.1) fun r13 =>
 bd (bH.f lf z11.1.2.1 r13.1) fun r14 =>
 bd (aX.f lf a0 r14.1) fun r15 =>
 bd (aQ.f lf z11.1.1 r15.1) fun r16 =>
 bd (aP.f lf r16.1 a1) fun r17 =>
 some (r14.1,r17.1,()))
def E(lf:Nat):Entry:=⟨[.str,.str],[.str,.str],fun x=>f lf x.1 x.2.1⟩
theorem ok(lf:Nat):Ok 329 (E lf):=okL (tC (aQ.ok lf) (tC (aX.ok lf) (tC (aP.ok lf) (tC (bH.ok lf) (tC (bK.ok lf) (tC (bP.ok lf) (tC (bY.ok lf) tN))))))) (aoC aoN) (sl lf) fun x=>by kernel_rfl
end bZ
end
end Go.Q
