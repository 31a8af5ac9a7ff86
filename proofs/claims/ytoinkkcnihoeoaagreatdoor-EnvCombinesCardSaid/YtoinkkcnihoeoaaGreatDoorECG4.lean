import Derived.Test.YtoinkkcnihoeoaaGreatDoorProg
import Derived.KernelRfl
import Derived.Test.YtoinkkcnihoeoaaGreatDoorECE3
set_option linter.unusedVariables false
set_option linter.unusedSimpArgs false
set_option linter.unusedSectionVars false
set_option maxRecDepth 100000
namespace Go.Q
open Go.IntKind (i64)
open Go Go.RowKit
open Go.Rx (br bd sIdx sCat sCut iQuo iRem)
noncomputable section
namespace kD
def f(lf:Nat)(a0:ByteArray):Option (Bool×Unit) :=
 some ((decide (((a0.size:Nat):Int)≤250)),())
def E(lf:Nat):Entry:=⟨[.str],[.bool],fun x=>f lf x.1⟩
theorem ok(lf:Nat):Ok 92 (E lf):=okT (an:=(annsL [])) (lf:=lf) tN aoN fun x=>by kernel_rfl
end kD
namespace ak
def f(lf:Nat)(a0:ByteArray):Option (Bool×Unit) :=
 bd (sIdx a0 0) fun r1 =>
 some ((((r1.toNat:Nat):Int)==45),())
def E(lf:Nat):Entry:=⟨[.str],[.bool],fun x=>f lf x.1⟩
theorem ok(lf:Nat):Ok 216 (E lf):=okT (an:=(annsL [])) (lf:=lf) tN aoN fun x=>by kernel_rfl
end ak
namespace dL
def f(lf:Nat)(a0:ByteArray):Option (Int×Unit) :=
 br (a0.toList==(⟨#[48]⟩:ByteArray).toList) (
 some (0,())) (
 bd (ak.f lf a0) fun r1 =>
 br r1.1 (
 some ((-1),())) (
 some (1,())))
def E(lf:Nat):Entry:=⟨[.str],[(.int .i64)],fun x=>f lf x.1⟩
theorem ok(lf:Nat):Ok 217 (E lf):=okT (an:=(annsL [])) (lf:=lf) (tC (ak.ok lf) tN) aoN fun x=>by kernel_rfl
end dL
namespace bn
def anns:FuncId→FA:=annsL [(218,⟨annOf [(0,⟨kx 41 [0,1,5],[],[]⟩,⟨kx 41 [4],[],[]⟩)],none,[]⟩)]
def r0{ρ:Type}(lf:Nat)(v0 v1:List Int)(v2:Int)(K:Int→Option ρ)(E0:Int→Option ρ)(E1:Option ρ):Option ρ :=
 br (decide (v2≥0)) (
 bd (idxL v0 v2) fun y1 =>
 bd (idxL v1 v2) fun y2 =>
 br (y1 != y2) (
 bd (idxL v0 v2) fun y3 =>
 bd (idxL v1 v2) fun y4 =>
 br (decide (y3 < y4)) (
 E0 (-1)) (
 E0 1)) (
 K (i64.wrap (v2-1)))) (
 E1)
def l0(lf:Nat)(v0 v1:List Int):Nat→Int→Option (Bool×(Int×Unit)×(Unit)×Unit)
 | 0,_=>none
 | n+1,v2=>r0 lf v0 v1 v2 (l0 lf v0 v1 n) (fun w0=>some (true,(w0,()),((()),()))) (some (false,(0,()),((()),())))
def sh0:ShS:=⟨[.s (.sl (.int .i64)),.s (.sl (.int .i64)),.a 3,.s (.int .i64),.a 35],[]⟩
def S0(p:(List Int)×(List Int)×Int×Unit):St:=sh0.b p
def xh0:ShS:=⟨[.a 4,.s (.int .i64),.a 36],[]⟩
def xh1:ShS:=⟨[.a 41],[]⟩
def o0(v0 v1:List Int)(y:Bool×(Int×Unit)×(Unit)×Unit):Alt:=.two y.1 (.one .ret (xh0.b (y.2.1.1,()))) (.one (.exit 0) (xh1.b (())))
def tb(lf:Nat):List (FuncId×Entry):=[]
def abW(lf:Nat):List (Nat×(St→Option LTE)):=[(0,sumE sh0 fun(p:(List Int)×(List Int)×Int×Unit)=>⟨Bool×(Int×Unit)×(Unit)×Unit,l0 lf p.1 p.2.1 (lf+40) p.2.2.1,o0 p.1 p.2.1⟩)]
def ls(lf:Nat):List (Nat×FuncId×Sums):=[(13,218,sumsL (abW lf))]
def it0{ρ:Type}(lf n:Nat)(st:St)(k:KE ρ):Option ρ:=itG anns (ls lf) (tb lf) lf 13 218 0 0 (sumsL (abW lf)) n st k
theorem t0{ρ:Type}(lf n:Nat)(v0 v1:List Int)(v2:Int)(k:KE ρ):it0 lf (n+1) (S0 (v0,v1,v2,())) k=r0 lf v0 v1 v2 (fun x0=>it0 lf n (S0 (v0,v1,x0,())) k) (fun w0=>k .ret (xh0.b (w0,()))) (k (.exit 0) (xh1.b (()))):=by kernel_rfl
theorem u0{ρ:Type}(lf:Nat)(v0 v1:List Int)(k:KE ρ):∀ (n:Nat) (v2:Int),it0 lf n (S0 (v0,v1,v2,())) k=bd (l0 lf v0 v1 n v2) fun y=>altK k (o0 v0 v1 y)
 | 0,_=>by rw[l0,bd_none];rfl
 | n+1,v2=>by
  rw[t0];simp only[l0,r0,u0 lf v0 v1 k n,bd_br,bd_bd,bd_some',bd_none,br_t,br_f,o0,altK]
theorem sl(lf:Nat):SL anns (ls lf) (tb lf) lf (ls lf):=slC (laC (fun _=>by kernel_rfl) (fun _ (x:(List Int)×(List Int)×Int×Unit) k=>bH (u0 lf x.1 x.2.1 k (lf+40) x.2.2.1)) laN) slN
def f(lf:Nat)(a0:List Int)(a1:List Int):Option (Int×Unit) :=
 br (((a0.length:Nat):Int) !=((a1.length:Nat):Int)) (
 br (decide (((a0.length:Nat):Int) < ((a1.length:Nat):Int))) (
 some ((-1),())) (
 some (1,()))) (
 bd (l0 lf a0 a1 (lf+40) (i64.wrap (((a0.length:Nat):Int)-1))) fun z5 =>
 br z5.1 (
 some (z5.2.1.1,())) (
 some (0,())))
def E(lf:Nat):Entry:=⟨[(.sl (.int .i64)),(.sl (.int .i64))],[(.int .i64)],fun x=>f lf x.1 x.2.1⟩
theorem ok(lf:Nat):Ok 218 (E lf):=okL tN (aoC aoN) (sl lf) fun x=>by kernel_rfl
end bn
namespace ay
def anns:FuncId→FA:=annsL [(219,⟨annOf [(0,⟨kx 21 [0,3],[],[]⟩,⟨kx 21 [0,2,3],[],[]⟩)],none,[]⟩)]
def r0{ρ:Type}(lf:Nat)(v0:List Int)(v1:Int)(K:Int→Option ρ)(E0:Int→Option ρ):Option ρ :=
 br (decide (v1 > 0)) (
 bd (idxL v0 (i64.wrap (v1-1))) fun y1 =>
 br (y1==0) (
 K (i64.wrap (v1-1))) (
 E0 v1)) (
 E0 v1)
def l0(lf:Nat)(v0:List Int):Nat→Int→Option ((Int×Unit)×Unit)
 | 0,_=>none
 | n+1,v1=>r0 lf v0 v1 (l0 lf v0 n) (fun w0=>some ((w0,()),()))
def sh0:ShS:=⟨[.s (.sl (.int .i64)),.a 2,.s (.int .i64),.a 17],[]⟩
def S0(p:(List Int)×Int×Unit):St:=sh0.b p
def xh0:ShS:=⟨[.s (.sl (.int .i64)),.a 2,.s (.int .i64),.a 17],[]⟩
def o0(v0:List Int)(y:(Int×Unit)×Unit):Alt:=.one (.exit 0) (xh0.b (v0,y.1.1,()))
def tb(lf:Nat):List (FuncId×Entry):=[]
def abX(lf:Nat):List (Nat×(St→Option LTE)):=[(0,sumE sh0 fun(p:(List Int)×Int×Unit)=>⟨(Int×Unit)×Unit,l0 lf p.1 (lf+40) p.2.1,o0 p.1⟩)]
def ls(lf:Nat):List (Nat×FuncId×Sums):=[(13,219,sumsL (abX lf))]
def it0{ρ:Type}(lf n:Nat)(st:St)(k:KE ρ):Option ρ:=itG anns (ls lf) (tb lf) lf 13 219 0 0 (sumsL (abX lf)) n st k
theorem t0{ρ:Type}(lf n:Nat)(v0:List Int)(v1:Int)(k:KE ρ):it0 lf (n+1) (S0 (v0,v1,())) k=r0 lf v0 v1 (fun x0=>it0 lf n (S0 (v0,x0,())) k) (fun w0=>k (.exit 0) (xh0.b (v0,w0,()))):=by kernel_rfl
theorem u0{ρ:Type}(lf:Nat)(v0:List Int)(k:KE ρ):∀ (n:Nat) (v1:Int),it0 lf n (S0 (v0,v1,())) k=bd (l0 lf v0 n v1) fun y=>altK k (o0 v0 y)
 | 0,_=>by rw[l0,bd_none];rfl
 | n+1,v1=>by
  rw[t0];simp only[l0,r0,u0 lf v0 k n,bd_br,bd_bd,bd_some',bd_none,br_t,br_f,o0,altK]
theorem sl(lf:Nat):SL anns (ls lf) (tb lf) lf (ls lf):=slC (laC (fun _=>by kernel_rfl) (fun _ (x:(List Int)×Int×Unit) k=>bH (u0 lf x.1 k (lf+40) x.2.1)) laN) slN
def f(lf:Nat)(a0:List Int):Option ((List Int)×Unit) :=
 bd (l0 lf a0 (lf+40) ((a0.length:Nat):Int)) fun z2 =>
 bd (cutL a0 none (some z2.1.1)) fun q3 =>
 some (q3,())
def E(lf:Nat):Entry:=⟨[(.sl (.int .i64))],[(.sl (.int .i64))],fun x=>f lf x.1⟩
theorem ok(lf:Nat):Ok 219 (E lf):=okL tN (aoC aoN) (sl lf) fun x=>by kernel_rfl
end ay
namespace aB
def anns:FuncId→FA:=annsL [(220,⟨annOf [(0,⟨kx 27 [0,3,4],[⟨.tmp 3,(.int .i64),3⟩],[]⟩,⟨kx 27 [2,3],[⟨.tmp 3,(.int .i64),3⟩],[]⟩)],none,[]⟩)]
def r0{ρ:Type}(lf:Nat)(v0:ByteArray)(v1:Int)(v2:List Int)(K:Int→(List Int)→Option ρ)(E0:(List Int)→Option ρ):Option ρ :=
 br (decide (v1≥0)) (
 bd (sIdx v0 v1) fun r1 =>
 br (((r1.toNat:Nat):Int) != 45) (
 bd (sIdx v0 v1) fun r2 =>
 bd (apL true 8 v2 [(i64.wrap (IntKind.u8.wrap (((r2.toNat:Nat):Int)-48)))]) fun q3 =>
 K (i64.wrap (v1-1)) q3) (
 E0 v2)) (
 E0 v2)
def l0(lf:Nat)(v0:ByteArray):Nat→Int→(List Int)→Option (((List Int)×Unit)×Unit)
 | 0,_,_=>none
 | n+1,v1,v2=>r0 lf v0 v1 v2 (l0 lf v0 n) (fun w0=>some ((w0,()),()))
def sh0:ShS:=⟨[.s .str,.a 2,.s (.row 0),.s (.int .i64),.a 22],[.row (.int .i64) 3 false]⟩
def S0(p:ByteArray×Int×(List Int)×Unit):St:=sh0.b p
def xh0:ShS:=⟨[.a 3,.s (.row 0),.a 23],[.row (.int .i64) 3 false]⟩
def o0(v0:ByteArray)(y:((List Int)×Unit)×Unit):Alt:=.one (.exit 0) (xh0.b (y.1.1,()))
def tb(lf:Nat):List (FuncId×Entry):=[]
def abY(lf:Nat):List (Nat×(St→Option LTE)):=[(0,sumE sh0 fun(p:ByteArray×Int×(List Int)×Unit)=>⟨((List Int)×Unit)×Unit,l0 lf p.1 (lf+40) p.2.1 p.2.2.1,o0 p.1⟩)]
def ls(lf:Nat):List (Nat×FuncId×Sums):=[(13,220,sumsL (abY lf))]
def it0{ρ:Type}(lf n:Nat)(st:St)(k:KE ρ):Option ρ:=itG anns (ls lf) (tb lf) lf 13 220 0 0 (sumsL (abY lf)) n st k
theorem t0{ρ:Type}(lf n:Nat)(v0:ByteArray)(v1:Int)(v2:List Int)(k:KE ρ):it0 lf (n+1) (S0 (v0,v1,v2,())) k=r0 lf v0 v1 v2 (fun x0 x1=>it0 lf n (S0 (v0,x0,x1,())) k) (fun w0=>k (.exit 0) (xh0.b (w0,()))):=by kernel_rfl
theorem u0{ρ:Type}(lf:Nat)(v0:ByteArray)(k:KE ρ):∀ (n:Nat) (v1:Int) (v2:List Int),it0 lf n (S0 (v0,v1,v2,())) k=bd (l0 lf v0 n v1 v2) fun y=>altK k (o0 v0 y)
 | 0,_,_=>by rw[l0,bd_none];rfl
 | n+1,v1,v2=>by
  rw[t0];simp only[l0,r0,u0 lf v0 k n,bd_br,bd_bd,bd_some',bd_none,br_t,br_f,o0,altK]
theorem sl(lf:Nat):SL anns (ls lf) (tb lf) lf (ls lf):=slC (laC (fun _=>by kernel_rfl) (fun _ (x:ByteArray×Int×(List Int)×Unit) k=>bH (u0 lf x.1 k (lf+40) x.2.1 x.2.2.1)) laN) slN
def f(lf:Nat)(a0:ByteArray):Option ((List Int)×Unit) :=
 bd (l0 lf a0 (lf+40) (i64.wrap (((a0.size:Nat):Int)-1)) []) fun z4 =>
 some (z4.1.1,())
def E(lf:Nat):Entry:=⟨[.str],[(.sl (.int .i64))],fun x=>f lf x.1⟩
theorem ok(lf:Nat):Ok 220 (E lf):=okL tN (aoC aoN) (sl lf) fun x=>by kernel_rfl
end aB
namespace jO
def f(lf:Nat)(a0:ByteArray)(a1:ByteArray):Option (Int×Unit) :=
 bd (dL.f lf a0) fun r1 =>
 bd (dL.f lf a1) fun r2 =>
 br (r1.1 != r2.1) (
 br (decide (r1.1 < r2.1)) (
 some ((-1),())) (
 some (1,()))) (
 bd (aB.f lf a0) fun r3 =>
 bd (ay.f lf r3.1) fun r4 =>
 bd (aB.f lf a1) fun r5 =>
 bd (ay.f lf r5.1) fun r6 =>
 bd (bn.f lf r4.1 r6.1) fun r7 =>
 some ((i64.wrap (r1.1*r7.1)),()))
def E(lf:Nat):Entry:=⟨[.str,.str],[(.int .i64)],fun x=>f lf x.1 x.2.1⟩
theorem ok(lf:Nat):Ok 136 (E lf):=okT (an:=(annsL [])) (lf:=lf) (tC (dL.ok lf) (tC (bn.ok lf) (tC (ay.ok lf) (tC (aB.ok lf) tN)))) aoN fun x=>by kernel_rfl
end jO
namespace au
def f(lf:Nat)(a0:ByteArray)(a1:ByteArray):Option (Bool×Unit) :=
 bd (jO.f lf a0 a1) fun r1 =>
 some ((decide (r1.1 < 0)),())
def E(lf:Nat):Entry:=⟨[.str,.str],[.bool],fun x=>f lf x.1 x.2.1⟩
theorem ok(lf:Nat):Ok 88 (E lf):=okT (an:=(annsL [])) (lf:=lf) (tC (jO.ok lf) tN) aoN fun x=>by kernel_rfl
end au
namespace aV
def anns:FuncId→FA:=annsL [(277,⟨annOf [(0,⟨kx 30 [0,3,4],[],[]⟩,⟨kx 30 [0,2,3],[],[]⟩)],none,[]⟩)]
def r0{ρ:Type}(lf:Nat)(v0:Int)(v1:ByteArray)(v2:Int)(K:ByteArray→Int→Option ρ)(E0:ByteArray→Option ρ):Option ρ :=
 br (v2 != 0) (
 bd (iRem v2 10) fun r1 =>
 bd (iRem v2 10) fun r2 =>
 bd (sCut (⟨#[48,49,50,51,52,53,54,55,56,57]⟩:ByteArray) (some (if(i64.wrap (0-r2)) > r1 then(i64.wrap (0-r2))else r1)) (some (i64.wrap ((if(i64.wrap (0-r2)) > r1 then(i64.wrap (0-r2))else r1)+1)))) fun r3 =>
 bd (sCat r3 v1) fun r4 =>
 bd (iQuo .i64 v2 10) fun r5 =>
 K r4 r5) (
 E0 v1)
def l0(lf:Nat)(v0:Int):Nat→ByteArray→Int→Option ((ByteArray×Unit)×Unit)
 | 0,_,_=>none
 | n+1,v1,v2=>r0 lf v0 v1 v2 (l0 lf v0 n) (fun w0=>some ((w0,()),()))
def sh0:ShS:=⟨[.s (.int .i64),.a 2,.s .str,.s (.int .i64),.a 25],[]⟩
def S0(p:Int×ByteArray×Int×Unit):St:=sh0.b p
def xh0:ShS:=⟨[.s (.int .i64),.a 2,.s .str,.a 26],[]⟩
def o0(v0:Int)(y:(ByteArray×Unit)×Unit):Alt:=.one (.exit 0) (xh0.b (v0,y.1.1,()))
def tb(lf:Nat):List (FuncId×Entry):=[]
def ab3(lf:Nat):List (Nat×(St→Option LTE)):=[(0,sumE sh0 fun(p:Int×ByteArray×Int×Unit)=>⟨(ByteArray×Unit)×Unit,l0 lf p.1 (lf+40) p.2.1 p.2.2.1,o0 p.1⟩)]
def ls(lf:Nat):List (Nat×FuncId×Sums):=[(13,277,sumsL (ab3 lf))]
def it0{ρ:Type}(lf n:Nat)(st:St)(k:KE ρ):Option ρ:=itG anns (ls lf) (tb lf) lf 13 277 0 0 (sumsL (ab3 lf)) n st k
theorem t0{ρ:Type}(lf n:Nat)(v0:Int)(v1:ByteArray)(v2:Int)(k:KE ρ):it0 lf (n+1) (S0 (v0,v1,v2,())) k=r0 lf v0 v1 v2 (fun x0 x1=>it0 lf n (S0 (v0,x0,x1,())) k) (fun w0=>k (.exit 0) (xh0.b (v0,w0,()))):=by kernel_rfl
theorem u0{ρ:Type}(lf:Nat)(v0:Int)(k:KE ρ):∀ (n:Nat) (v1:ByteArray) (v2:Int),it0 lf n (S0 (v0,v1,v2,())) k=bd (l0 lf v0 n v1 v2) fun y=>altK k (o0 v0 y)
 | 0,_,_=>by rw[l0,bd_none];rfl
 | n+1,v1,v2=>by
  rw[t0];simp only[l0,r0,u0 lf v0 k n,bd_br,bd_bd,bd_some',bd_none,br_t,br_f,o0,altK]
theorem sl(lf:Nat):SL anns (ls lf) (tb lf) lf (ls lf):=slC (laC (fun _=>by kernel_rfl) (fun _ (x:Int×ByteArray×Int×Unit) k=>bH (u0 lf x.1 k (lf+40) x.2.1 x.2.2.1)) laN) slN
def f(lf:Nat)(a0:Int):Option (ByteArray×Unit) :=
 br (a0==0) (
 some ((⟨#[48]⟩:ByteArray),())) (
 bd (l0 lf a0 (lf+40) (⟨#[]⟩:ByteArray) a0) fun z6 =>
 br (decide (a0 < 0)) (
 bd (sCat (⟨#[45]⟩:ByteArray) z6.1.1) fun r7 =>
 some (r7,())) (
 some (z6.1.1,())))
def E(lf:Nat):Entry:=⟨[(.int .i64)],[.str],fun x=>f lf x.1⟩
theorem ok(lf:Nat):Ok 277 (E lf):=okL tN (aoC aoN) (sl lf) fun x=>by kernel_rfl
end aV
namespace aS
def anns:FuncId→FA:=annsL [(278,⟨annOf [(0,⟨kx 28 [0,3,4],[],[]⟩,⟨kx 28 [0,2,3],[],[]⟩)],none,[]⟩)]
def r0{ρ:Type}(lf:Nat)(v0:ByteArray)(v1 v2:Int)(K:Int→Int→Option ρ)(E0:Int→Option ρ):Option ρ :=
 br (decide (v2 < ((v0.size:Nat):Int))) (
 bd (sIdx v0 v2) fun r1 =>
 br (((r1.toNat:Nat):Int) != 45) (
 bd (sIdx v0 v2) fun r2 =>
 K (i64.wrap ((i64.wrap (v1*10))+(i64.wrap (IntKind.u8.wrap (((r2.toNat:Nat):Int)-48))))) (i64.wrap (v2+1))) (
 K v1 (i64.wrap (v2+1)))) (
 E0 v1)
def l0(lf:Nat)(v0:ByteArray):Nat→Int→Int→Option ((Int×Unit)×Unit)
 | 0,_,_=>none
 | n+1,v1,v2=>r0 lf v0 v1 v2 (l0 lf v0 n) (fun w0=>some ((w0,()),()))
def sh0:ShS:=⟨[.s .str,.a 2,.s (.int .i64),.s (.int .i64),.a 23],[]⟩
def S0(p:ByteArray×Int×Int×Unit):St:=sh0.b p
def xh0:ShS:=⟨[.s .str,.a 2,.s (.int .i64),.a 24],[]⟩
def o0(v0:ByteArray)(y:(Int×Unit)×Unit):Alt:=.one (.exit 0) (xh0.b (v0,y.1.1,()))
def tb(lf:Nat):List (FuncId×Entry):=[(216,ak.E lf)]
def ab4(lf:Nat):List (Nat×(St→Option LTE)):=[(0,sumE sh0 fun(p:ByteArray×Int×Int×Unit)=>⟨(Int×Unit)×Unit,l0 lf p.1 (lf+40) p.2.1 p.2.2.1,o0 p.1⟩)]
def ls(lf:Nat):List (Nat×FuncId×Sums):=[(13,278,sumsL (ab4 lf))]
def it0{ρ:Type}(lf n:Nat)(st:St)(k:KE ρ):Option ρ:=itG anns (ls lf) (tb lf) lf 13 278 0 0 (sumsL (ab4 lf)) n st k
theorem t0{ρ:Type}(lf n:Nat)(v0:ByteArray)(v1 v2:Int)(k:KE ρ):it0 lf (n+1) (S0 (v0,v1,v2,())) k=r0 lf v0 v1 v2 (fun x0 x1=>it0 lf n (S0 (v0,x0,x1,())) k) (fun w0=>k (.exit 0) (xh0.b (v0,w0,()))):=by kernel_rfl
theorem u0{ρ:Type}(lf:Nat)(v0:ByteArray)(k:KE ρ):∀ (n:Nat) (v1 v2:Int),it0 lf n (S0 (v0,v1,v2,())) k=bd (l0 lf v0 n v1 v2) fun y=>altK k (o0 v0 y)
 | 0,_,_=>by rw[l0,bd_none];rfl
 | n+1,v1,v2=>by
  rw[t0];simp only[l0,r0,u0 lf v0 k n,bd_br,bd_bd,bd_some',bd_none,br_t,br_f,o0,altK]
theorem sl(lf:Nat):SL anns (ls lf) (tb lf) lf (ls lf):=slC (laC (fun _=>by kernel_rfl) (fun _ (x:ByteArray×Int×Int×Unit) k=>bH (u0 lf x.1 k (lf+40) x.2.1 x.2.2.1)) laN) slN
def f(lf:Nat)(a0:ByteArray):Option (Int×Unit) :=
 bd (l0 lf a0 (lf+40) 0 0) fun z3 =>
 bd (ak.f lf a0) fun r4 =>
 br r4.1 (
 some ((i64.wrap (0-z3.1.1)),())) (
 some (z3.1.1,()))
def E(lf:Nat):Entry:=⟨[.str],[(.int .i64)],fun x=>f lf x.1⟩
theorem ok(lf:Nat):Ok 278 (E lf):=okL (tC (ak.ok lf) tN) (aoC aoN) (sl lf) fun x=>by kernel_rfl
end aS
end
end Go.Q
namespace Go.Q
open Go.IntKind (i64)
open Go Go.RowKit
open Go.Rx (br bd sIdx sCat sCut iQuo iRem)
noncomputable section
namespace aG
def anns:FuncId→FA:=annsL [(279,⟨annOf [(0,⟨kx 34 [0,5,6],[⟨.tmp 5,(.int .u8),5⟩],[]⟩,⟨kx 34 [4,5],[⟨.tmp 5,(.int .u8),5⟩],[]⟩)],none,[]⟩)]
def r0{ρ:Type}(lf:Nat)(v0 v2:List Int)(v1:Int)(v3:List Int)(K:Int→(List Int)→Option ρ)(E0:(List Int)→Option ρ):Option ρ :=
 br (decide (v1≥0)) (
 bd (idxL v0 v1) fun y3 =>
 bd (apL true 1 v3 [(IntKind.u8.wrap (i64.wrap (48+y3)))]) fun q4 =>
 K (i64.wrap (v1-1)) q4) (
 E0 v3)
def l0(lf:Nat)(v0 v2:List Int):Nat→Int→(List Int)→Option (((List Int)×Unit)×Unit)
 | 0,_,_=>none
 | n+1,v1,v3=>r0 lf v0 v2 v1 v3 (l0 lf v0 v2 n) (fun w0=>some ((w0,()),()))
def sh0:ShS:=⟨[.s (.sl (.int .i64)),.a 4,.s (.row 2),.s (.int .i64),.a 27],[.row (.int .u8) 5 false,.gone,.row (.int .u8) 5 false]⟩
def S0(p:(List Int)×Int×(List Int)×(List Int)×Unit):St:=sh0.b p
def xh0:ShS:=⟨[.a 5,.s (.row 2),.a 28],[.row (.int .u8) 5 false,.gone,.row (.int .u8) 5 false]⟩
def o0(v0 v2:List Int)(y:((List Int)×Unit)×Unit):Alt:=.one (.exit 0) (xh0.b (v2,y.1.1,()))
def r1{ρ:Type}(lf:Nat)(v0:List Int)(v1:Int)(v2:List Int)(K:Int→(List Int)→Option ρ)(E0:(List Int)→Option ρ):Option ρ :=
 br (decide (v1≥0)) (
 bd (idxL v0 v1) fun y7 =>
 bd (apL true 1 v2 [(IntKind.u8.wrap (i64.wrap (48+y7)))]) fun q8 =>
 K (i64.wrap (v1-1)) q8) (
 E0 v2)
def l1(lf:Nat)(v0:List Int):Nat→Int→(List Int)→Option (((List Int)×Unit)×Unit)
 | 0,_,_=>none
 | n+1,v1,v2=>r1 lf v0 v1 v2 (l1 lf v0 n) (fun w0=>some ((w0,()),()))
def sh1:ShS:=⟨[.s (.sl (.int .i64)),.a 4,.s (.row 0),.s (.int .i64),.a 27],[.row (.int .u8) 5 false]⟩
def S1(p:(List Int)×Int×(List Int)×Unit):St:=sh1.b p
def xh1:ShS:=⟨[.a 5,.s (.row 0),.a 28],[.row (.int .u8) 5 false]⟩
def o1(v0:List Int)(y:((List Int)×Unit)×Unit):Alt:=.one (.exit 0) (xh1.b (y.1.1,()))
def tb(lf:Nat):List (FuncId×Entry):=[(219,ay.E lf)]
def zN(lf:Nat):List (Nat×(St→Option LTE)):=[(0,sumE sh0 fun(p:(List Int)×Int×(List Int)×(List Int)×Unit)=>⟨((List Int)×Unit)×Unit,l0 lf p.1 p.2.2.1 (lf+40) p.2.1 p.2.2.2.1,o0 p.1 p.2.2.1⟩),
 (0,sumE sh1 fun(p:(List Int)×Int×(List Int)×Unit)=>⟨((List Int)×Unit)×Unit,l1 lf p.1 (lf+40) p.2.1 p.2.2.1,o1 p.1⟩)]
def ls(lf:Nat):List (Nat×FuncId×Sums):=[(13,279,sumsL (zN lf))]
def it0{ρ:Type}(lf n:Nat)(st:St)(k:KE ρ):Option ρ:=itG anns (ls lf) (tb lf) lf 13 279 0 2 (sumsL (zN lf)) n st k
theorem t0{ρ:Type}(lf n:Nat)(v0:List Int)(v1:Int)(v2 v3:List Int)(k:KE ρ):it0 lf (n+1) (S0 (v0,v1,v2,v3,())) k=r0 lf v0 v2 v1 v3 (fun x0 x1=>it0 lf n (S0 (v0,x0,v2,x1,())) k) (fun w0=>k (.exit 0) (xh0.b (v2,w0,()))):=by kernel_rfl
theorem u0{ρ:Type}(lf:Nat)(v0 v2:List Int)(k:KE ρ):∀ (n:Nat) (v1:Int) (v3:List Int),it0 lf n (S0 (v0,v1,v2,v3,())) k=bd (l0 lf v0 v2 n v1 v3) fun y=>altK k (o0 v0 v2 y)
 | 0,_,_=>by rw[l0,bd_none];rfl
 | n+1,v1,v3=>by
  rw[t0];simp only[l0,r0,u0 lf v0 v2 k n,bd_br,bd_bd,bd_some',bd_none,br_t,br_f,o0,altK]
def it1{ρ:Type}(lf n:Nat)(st:St)(k:KE ρ):Option ρ:=itG anns (ls lf) (tb lf) lf 13 279 0 0 (sumsL (zN lf)) n st k
theorem t1{ρ:Type}(lf n:Nat)(v0:List Int)(v1:Int)(v2:List Int)(k:KE ρ):it1 lf (n+1) (S1 (v0,v1,v2,())) k=r1 lf v0 v1 v2 (fun x0 x1=>it1 lf n (S1 (v0,x0,x1,())) k) (fun w0=>k (.exit 0) (xh1.b (w0,()))):=by kernel_rfl
theorem u1{ρ:Type}(lf:Nat)(v0:List Int)(k:KE ρ):∀ (n:Nat) (v1:Int) (v2:List Int),it1 lf n (S1 (v0,v1,v2,())) k=bd (l1 lf v0 n v1 v2) fun y=>altK k (o1 v0 y)
 | 0,_,_=>by rw[l1,bd_none];rfl
 | n+1,v1,v2=>by
  rw[t1];simp only[l1,r1,u1 lf v0 k n,bd_br,bd_bd,bd_some',bd_none,br_t,br_f,o1,altK]
theorem sl(lf:Nat):SL anns (ls lf) (tb lf) lf (ls lf):=slC (laC (fun _=>by kernel_rfl) (fun _ (x:(List Int)×Int×(List Int)×(List Int)×Unit) k=>bH (u0 lf x.1 x.2.2.1 k (lf+40) x.2.1 x.2.2.2.1)) (laC (fun _=>by kernel_rfl) (fun _ (x:(List Int)×Int×(List Int)×Unit) k=>bH (u1 lf x.1 k (lf+40) x.2.1 x.2.2.1)) laN)) slN
def f(lf:Nat)(a0:List Int)(a1:Bool):Option (ByteArray×Unit) :=
 bd (ay.f lf a0) fun r1 =>
 br (((r1.1.length:Nat):Int)==0) (
 some ((⟨#[48]⟩:ByteArray),())) (
 br a1 (
 bd (apL true 1 [] [45]) fun q2 =>
 bd (l0 lf r1.1 [45] (lf+40) (i64.wrap (((r1.1.length:Nat):Int)-1)) q2) fun z5 =>
 bd (if true=true then some (bytesS z5.1.1)else none) fun s6 =>
 some (s6,())) (
 bd (l1 lf r1.1 (lf+40) (i64.wrap (((r1.1.length:Nat):Int)-1)) []) fun z9 =>
 bd (if true=true then some (bytesS z9.1.1)else none) fun s10 =>
 some (s10,())))
def E(lf:Nat):Entry:=⟨[(.sl (.int .i64)),.bool],[.str],fun x=>f lf x.1 x.2.1⟩
theorem ok(lf:Nat):Ok 279 (E lf):=okL (tC (ay.ok lf) tN) (aoC aoN) (sl lf) fun x=>by kernel_rfl
end aG
namespace aK
def f(lf:Nat)(a0:ByteArray):Option (Int×Unit) :=
 bd (ak.f lf a0) fun r1 =>
 br r1.1 (
 some ((i64.wrap (((a0.size:Nat):Int)-1)),())) (
 some (((a0.size:Nat):Int),()))
def E(lf:Nat):Entry:=⟨[.str],[(.int .i64)],fun x=>f lf x.1⟩
theorem ok(lf:Nat):Ok 135 (E lf):=okT (an:=(annsL [])) (lf:=lf) (tC (ak.ok lf) tN) aoN fun x=>by kernel_rfl
end aK
namespace fJ
def f(lf:Nat)(a0:ByteArray)(a1:Int):Option (Bool×Unit) :=
 bd (aK.f lf a0) fun r1 =>
 some ((decide (r1.1≤a1)),())
def E(lf:Nat):Entry:=⟨[.str,(.int .i64)],[.bool],fun x=>f lf x.1 x.2.1⟩
theorem ok(lf:Nat):Ok 281 (E lf):=okT (an:=(annsL [])) (lf:=lf) (tC (aK.ok lf) tN) aoN fun x=>by kernel_rfl
end fJ
namespace gI
def f(lf:Nat)(a0:List Int)(a1:Int):Option (Int×Unit) :=
 br (decide (a1 < ((a0.length:Nat):Int))) (
 bd (idxL a0 a1) fun y1 =>
 some (y1,())) (
 some (0,()))
def E(lf:Nat):Entry:=⟨[(.sl (.int .i64)),(.int .i64)],[(.int .i64)],fun x=>f lf x.1 x.2.1⟩
theorem ok(lf:Nat):Ok 330 (E lf):=okT (an:=(annsL [])) (lf:=lf) tN aoN fun x=>by kernel_rfl
end gI
namespace dM
def anns:FuncId→FA:=annsL [(284,⟨annOf [(0,⟨kx 36 [0,1,5,6,7],[⟨.tmp 5,(.int .i64),3⟩],[]⟩,⟨kx 36 [4,5],[⟨.tmp 5,(.int .i64),3⟩],[]⟩)],none,[]⟩)]
def r0{ρ:Type}(lf:Nat)(v0 v1:List Int)(v2 v3:Int)(v4:List Int)(K:Int→Int→(List Int)→Option ρ)(E0:(List Int)→Option ρ):Option ρ :=
 br (decide (v3 < (i64.wrap ((if((v1.length:Nat):Int) >((v0.length:Nat):Int)then((v1.length:Nat):Int)else((v0.length:Nat):Int))+1)))) (
 bd (gI.f lf v0 v3) fun r1 =>
 bd (gI.f lf v1 v3) fun r2 =>
 bd (iRem (i64.wrap (v2+(i64.wrap (r1.1+r2.1)))) 10) fun r3 =>
 bd (apL true 8 v4 [r3]) fun q4 =>
 bd (iQuo .i64 (i64.wrap (v2+(i64.wrap (r1.1+r2.1)))) 10) fun r5 =>
 K r5 (i64.wrap (v3+1)) q4) (
 E0 v4)
def l0(lf:Nat)(v0 v1:List Int):Nat→Int→Int→(List Int)→Option (((List Int)×Unit)×Unit)
 | 0,_,_,_=>none
 | n+1,v2,v3,v4=>r0 lf v0 v1 v2 v3 v4 (l0 lf v0 v1 n) (fun w0=>some ((w0,()),()))
def sh0:ShS:=⟨[.s (.sl (.int .i64)),.s (.sl (.int .i64)),.a 3,.s (.row 0),.s (.int .i64),.s (.int .i64),.a 28],[.row (.int .i64) 3 false]⟩
def S0(p:(List Int)×(List Int)×Int×Int×(List Int)×Unit):St:=sh0.b p
def xh0:ShS:=⟨[.a 5,.s (.row 0),.a 30],[.row (.int .i64) 3 false]⟩
def o0(v0 v1:List Int)(y:((List Int)×Unit)×Unit):Alt:=.one (.exit 0) (xh0.b (y.1.1,()))
def tb(lf:Nat):List (FuncId×Entry):=[(219,ay.E lf),(330,gI.E lf)]
def ab5(lf:Nat):List (Nat×(St→Option LTE)):=[(0,sumE sh0 fun(p:(List Int)×(List Int)×Int×Int×(List Int)×Unit)=>⟨((List Int)×Unit)×Unit,l0 lf p.1 p.2.1 (lf+40) p.2.2.1 p.2.2.2.1 p.2.2.2.2.1,o0 p.1 p.2.1⟩)]
def ls(lf:Nat):List (Nat×FuncId×Sums):=[(13,284,sumsL (ab5 lf))]
def it0{ρ:Type}(lf n:Nat)(st:St)(k:KE ρ):Option ρ:=itG anns (ls lf) (tb lf) lf 13 284 0 0 (sumsL (ab5 lf)) n st k
theorem t0{ρ:Type}(lf n:Nat)(v0 v1:List Int)(v2 v3:Int)(v4:List Int)(k:KE ρ):it0 lf (n+1) (S0 (v0,v1,v2,v3,v4,())) k=r0 lf v0 v1 v2 v3 v4 (fun x0 x1 x2=>it0 lf n (S0 (v0,v1,x0,x1,x2,())) k) (fun w0=>k (.exit 0) (xh0.b (w0,()))):=by kernel_rfl
theorem u0{ρ:Type}(lf:Nat)(v0 v1:List Int)(k:KE ρ):∀ (n:Nat) (v2 v3:Int) (v4:List Int),it0 lf n (S0 (v0,v1,v2,v3,v4,())) k=bd (l0 lf v0 v1 n v2 v3 v4) fun y=>altK k (o0 v0 v1 y)
 | 0,_,_,_=>by rw[l0,bd_none];rfl
 | n+1,v2,v3,v4=>by
  rw[t0];simp only[l0,r0,u0 lf v0 v1 k n,bd_br,bd_bd,bd_some',bd_none,br_t,br_f,o0,altK]
theorem sl(lf:Nat):SL anns (ls lf) (tb lf) lf (ls lf):=slC (laC (fun _=>by kernel_rfl) (fun _ (x:(List Int)×(List Int)×Int×Int×(List Int)×Unit) k=>bH (u0 lf x.1 x.2.1 k (lf+40) x.2.2.1 x.2.2.2.1 x.2.2.2.2.1)) laN) slN
def f(lf:Nat)(a0:List Int)(a1:List Int):Option ((List Int)×Unit) :=
 bd (l0 lf a0 a1 (lf+40) 0 0 []) fun z6 =>
 bd (ay.f lf z6.1.1) fun r7 =>
 some (r7.1,())
def E(lf:Nat):Entry:=⟨[(.sl (.int .i64)),(.sl (.int .i64))],[(.sl (.int .i64))],fun x=>f lf x.1 x.2.1⟩
theorem ok(lf:Nat):Ok 284 (E lf):=okL (tC (ay.ok lf) (tC (gI.ok lf) tN)) (aoC aoN) (sl lf) fun x=>by kernel_rfl
end dM
namespace aW
def anns:FuncId→FA:=annsL [(285,⟨annOf [(0,⟨kx 35 [0,1,5,6,7],[⟨.tmp 5,(.int .i64),3⟩],[]⟩,⟨kx 35 [4,5],[⟨.tmp 5,(.int .i64),3⟩],[]⟩)],none,[]⟩)]
def r0{ρ:Type}(lf:Nat)(v0 v1:List Int)(v2 v3:Int)(v4:List Int)(K:Int→Int→(List Int)→Option ρ)(E0:(List Int)→Option ρ):Option ρ :=
 br (decide (v3 < ((v0.length:Nat):Int))) (
 bd (idxL v0 v3) fun y1 =>
 bd (gI.f lf v1 v3) fun r2 =>
 br (decide ((i64.wrap ((i64.wrap (y1-r2.1))-v2)) < 0)) (
 bd (apL true 8 v4 [(i64.wrap ((i64.wrap ((i64.wrap (y1-r2.1))-v2))+10))]) fun q3 =>
 K 1 (i64.wrap (v3+1)) q3) (
 bd (apL true 8 v4 [(i64.wrap ((i64.wrap (y1-r2.1))-v2))]) fun q4 =>
 K 0 (i64.wrap (v3+1)) q4)) (
 E0 v4)
def l0(lf:Nat)(v0 v1:List Int):Nat→Int→Int→(List Int)→Option (((List Int)×Unit)×Unit)
 | 0,_,_,_=>none
 | n+1,v2,v3,v4=>r0 lf v0 v1 v2 v3 v4 (l0 lf v0 v1 n) (fun w0=>some ((w0,()),()))
def sh0:ShS:=⟨[.s (.sl (.int .i64)),.s (.sl (.int .i64)),.a 3,.s (.row 0),.s (.int .i64),.s (.int .i64),.a 27],[.row (.int .i64) 3 false]⟩
def S0(p:(List Int)×(List Int)×Int×Int×(List Int)×Unit):St:=sh0.b p
def xh0:ShS:=⟨[.a 5,.s (.row 0),.a 29],[.row (.int .i64) 3 false]⟩
def o0(v0 v1:List Int)(y:((List Int)×Unit)×Unit):Alt:=.one (.exit 0) (xh0.b (y.1.1,()))
def tb(lf:Nat):List (FuncId×Entry):=[(219,ay.E lf),(330,gI.E lf)]
def ab6(lf:Nat):List (Nat×(St→Option LTE)):=[(0,sumE sh0 fun(p:(List Int)×(List Int)×Int×Int×(List Int)×Unit)=>⟨((List Int)×Unit)×Unit,l0 lf p.1 p.2.1 (lf+40) p.2.2.1 p.2.2.2.1 p.2.2.2.2.1,o0 p.1 p.2.1⟩)]
def ls(lf:Nat):List (Nat×FuncId×Sums):=[(13,285,sumsL (ab6 lf))]
def it0{ρ:Type}(lf n:Nat)(st:St)(k:KE ρ):Option ρ:=itG anns (ls lf) (tb lf) lf 13 285 0 0 (sumsL (ab6 lf)) n st k
theorem t0{ρ:Type}(lf n:Nat)(v0 v1:List Int)(v2 v3:Int)(v4:List Int)(k:KE ρ):it0 lf (n+1) (S0 (v0,v1,v2,v3,v4,())) k=r0 lf v0 v1 v2 v3 v4 (fun x0 x1 x2=>it0 lf n (S0 (v0,v1,x0,x1,x2,())) k) (fun w0=>k (.exit 0) (xh0.b (w0,()))):=by kernel_rfl
theorem u0{ρ:Type}(lf:Nat)(v0 v1:List Int)(k:KE ρ):∀ (n:Nat) (v2 v3:Int) (v4:List Int),it0 lf n (S0 (v0,v1,v2,v3,v4,())) k=bd (l0 lf v0 v1 n v2 v3 v4) fun y=>altK k (o0 v0 v1 y)
 | 0,_,_,_=>by rw[l0,bd_none];rfl
 | n+1,v2,v3,v4=>by
  rw[t0];simp only[l0,r0,u0 lf v0 v1 k n,bd_br,bd_bd,bd_some',bd_none,br_t,br_f,o0,altK]
theorem sl(lf:Nat):SL anns (ls lf) (tb lf) lf (ls lf):=slC (laC (fun _=>by kernel_rfl) (fun _ (x:(List Int)×(List Int)×Int×Int×(List Int)×Unit) k=>bH (u0 lf x.1 x.2.1 k (lf+40) x.2.2.1 x.2.2.2.1 x.2.2.2.2.1)) laN) slN
def f(lf:Nat)(a0:List Int)(a1:List Int):Option ((List Int)×Unit) :=
 bd (l0 lf a0 a1 (lf+40) 0 0 []) fun z5 =>
 bd (ay.f lf z5.1.1) fun r6 =>
 some (r6.1,())
def E(lf:Nat):Entry:=⟨[(.sl (.int .i64)),(.sl (.int .i64))],[(.sl (.int .i64))],fun x=>f lf x.1 x.2.1⟩
theorem ok(lf:Nat):Ok 285 (E lf):=okL (tC (ay.ok lf) (tC (gI.ok lf) tN)) (aoC aoN) (sl lf) fun x=>by kernel_rfl
end aW
namespace fO
def f(lf:Nat)(a0:ByteArray)(a1:ByteArray):Option (ByteArray×Unit) :=
 bd (fJ.f lf a0 17) fun r1 =>
 br r1.1 (
 bd (fJ.f lf a1 17) fun r2 =>
 br r2.1 (
 bd (aS.f lf a0) fun r3 =>
 bd (aS.f lf a1) fun r4 =>
 bd (aV.f lf (i64.wrap (r3.1+r4.1))) fun r5 =>
 some (r5.1,())) (
 bd (aB.f lf a0) fun r6 =>
 bd (aB.f lf a1) fun r7 =>
 bd (ak.f lf a0) fun r8 =>
 bd (ak.f lf a1) fun r9 =>
 br (r8.1==r9.1) (
 bd (dM.f lf r6.1 r7.1) fun r10 =>
 bd (ak.f lf a0) fun r11 =>
 bd (aG.f lf r10.1 r11.1) fun r12 =>
 some (r12.1,())) (
 bd (ay.f lf r6.1) fun r13 =>
 bd (ay.f lf r7.1) fun r14 =>
 bd (bn.f lf r13.1 r14.1) fun r15 =>
 br (decide (r15.1≥0)) (
 bd (aW.f lf r6.1 r7.1) fun r16 =>
 bd (ak.f lf a0) fun r17 =>
 bd (aG.f lf r16.1 r17.1) fun r18 =>
 some (r18.1,())) (
 bd (aW.f lf r7.1 r6.1) fun r19 =>
 bd (ak.f lf a1) fun r20 =>
 bd (aG.f lf r19.1 r20.1) fun r21 =>
 some (r21.1,()))))) (
 bd (aB.f lf a0) fun r22 =>
 bd (aB.f lf a1) fun r23 =>
 bd (ak.f lf a0) fun r24 =>
 bd (ak.f lf a1) fun r25 =>
 br (r24.1==r25.1) (
 bd (dM.f lf r22.1 r23.1) fun r26 =>
 bd (ak.f lf a0) fun r27 =>
 bd (aG.f lf r26.1 r27.1) fun r28 =>
 some (r28.1,())) (
 bd (ay.f lf r22.1) fun r29 =>
 bd (ay.f lf r23.1) fun r30 =>
 bd (bn.f lf r29.1 r30.1) fun r31 =>
 br (decide (r31.1≥0)) (
 bd (aW.f lf r22.1 r23.1) fun r32 =>
 bd (ak.f lf a0) fun r33 =>
 bd (aG.f lf r32.1 r33.1) fun r34 =>
 some (r34.1,())) (
 bd (aW.f lf r23.1 r22.1) fun r35 =>
 bd (ak.f lf a1) fun r36 =>
 bd (aG.f lf r35.1 r36.1) fun r37 =>
 some (r37.1,()))))
def E(lf:Nat):Entry:=⟨[.str,.str],[.str],fun x=>f lf x.1 x.2.1⟩
theorem ok(lf:Nat):Ok 206 (E lf):=okT (an:=(annsL [])) (lf:=lf) (tC (ak.ok lf) (tC (bn.ok lf) (tC (ay.ok lf) (tC (aB.ok lf) (tC (aV.ok lf) (tC (aS.ok lf) (tC (aG.ok lf) (tC (fJ.ok lf) (tC (dM.ok lf) (tC (aW.ok lf) tN)))))))))) aoN fun x=>by kernel_rfl
end fO
namespace cZ
def f(lf:Nat)(a0:ByteArray):Option (ByteArray×Unit) :=
 br (a0.toList==(⟨#[48]⟩:ByteArray).toList) (
 some (a0,())) (
 bd (ak.f lf a0) fun r1 =>
 br r1.1 (
 bd (sCut a0 (some 1) none) fun r2 =>
 some (r2,())) (
 bd (sCat (⟨#[45]⟩:ByteArray) a0) fun r3 =>
 some (r3,())))
def E(lf:Nat):Entry:=⟨[.str],[.str],fun x=>f lf x.1⟩
theorem ok(lf:Nat):Ok 266 (E lf):=okT (an:=(annsL [])) (lf:=lf) (tC (ak.ok lf) tN) aoN fun x=>by kernel_rfl
end cZ
namespace aP
def f(lf:Nat)(a0:ByteArray)(a1:ByteArray):Option (ByteArray×Unit) :=
 bd (cZ.f lf a1) fun r1 =>
 bd (fO.f lf a0 r1.1) fun r2 =>
 some (r2.1,())
def E(lf:Nat):Entry:=⟨[.str,.str],[.str],fun x=>f lf x.1 x.2.1⟩
theorem ok(lf:Nat):Ok 192 (E lf):=okT (an:=(annsL [])) (lf:=lf) (tC (fO.ok lf) (tC (cZ.ok lf) tN)) aoN fun x=>by kernel_rfl
end aP
end
end Go.Q
namespace Go.Q
open Go.IntKind (i64)
open Go Go.RowKit
open Go.Rx (br bd sIdx sCat sCut iQuo iRem)
noncomputable section
namespace bQ
def anns:FuncId→FA:=annsL [(280,⟨annOf [(0,⟨kx 63 [0,1,5,6],[],[]⟩,⟨kx 63 [4,5],[],[]⟩),(1,⟨kx 63 [0,1,5,6,7,8],[],[]⟩,⟨kx 63 [0,1,4,5,6,7],[],[]⟩)],none,[]⟩)]
def r1{ρ:Type}(lf:Nat)(v0 v1:List Int)(v2:Int)(v3 v4:Int)(v5:List Int)(K:Int→Int→(List Int)→Option ρ)(E0:Int→(List Int)→Option ρ):Option ρ :=
 br (decide (v4 < ((v1.length:Nat):Int))) (
 bd (idxB v5.length (i64.wrap (v2+v4))) fun j2 =>
 bd (v5[j2]?) fun y3 =>
 bd (idxL v0 v2) fun y4 =>
 bd (idxL v1 v4) fun y5 =>
 bd (iRem (i64.wrap (v3+(i64.wrap (y3+(i64.wrap (y4*y5)))))) 10) fun r6 =>
 bd (idxB v5.length (i64.wrap (v2+v4))) fun j7 =>
 bd (upE v5 j7 fun _=>some r6) fun q8 =>
 bd (iQuo .i64 (i64.wrap (v3+(i64.wrap (y3+(i64.wrap (y4*y5)))))) 10) fun r10 =>
 K r10 (i64.wrap (v4+1)) q8) (
 E0 v3 v5)
def l1(lf:Nat)(v0 v1:List Int)(v2:Int):Nat→Int→Int→(List Int)→Option ((Int×(List Int)×Unit)×Unit)
 | 0,_,_,_=>none
 | n+1,v3,v4,v5=>r1 lf v0 v1 v2 v3 v4 v5 (l1 lf v0 v1 v2 n) (fun w0 w1=>some ((w0,w1,()),()))
def sh1:ShS:=⟨[.s (.sl (.int .i64)),.s (.sl (.int .i64)),.a 3,.s (.row 0),.s (.int .i64),.s (.int .i64),.s (.int .i64),.a 54],[.row (.int .i64) 3 false]⟩
def S1(p:(List Int)×(List Int)×Int×Int×Int×(List Int)×Unit):St:=sh1.b p
def xh0:ShS:=⟨[.s (.sl (.int .i64)),.s (.sl (.int .i64)),.a 3,.s (.row 0),.s (.int .i64),.s (.int .i64),.a 55],[.row (.int .i64) 3 false]⟩
def o1(v0 v1:List Int)(v2:Int)(y:(Int×(List Int)×Unit)×Unit):Alt:=.one (.exit 2) (xh0.b (v0,v1,v2,y.1.1,y.1.2.1,()))
def r0{ρ:Type}(lf:Nat)(v0 v1:List Int)(v2:Int)(v3:List Int)(K:Int→(List Int)→Option ρ)(E0:(List Int)→Option ρ):Option ρ :=
 br (decide (v2 < ((v0.length:Nat):Int))) (
 bd (l1 lf v0 v1 v2 (lf+40) 0 0 v3) fun z11 =>
 bd (idxB z11.1.2.1.length (i64.wrap (v2+((v1.length:Nat):Int)))) fun j12 =>
 bd (upE z11.1.2.1 j12 fun _=>some z11.1.1) fun q13 =>
 K (i64.wrap (v2+1)) q13) (
 E0 v3)
def l0(lf:Nat)(v0 v1:List Int):Nat→Int→(List Int)→Option (((List Int)×Unit)×Unit)
 | 0,_,_=>none
 | n+1,v2,v3=>r0 lf v0 v1 v2 v3 (l0 lf v0 v1 n) (fun w0=>some ((w0,()),()))
def sh0:ShS:=⟨[.s (.sl (.int .i64)),.s (.sl (.int .i64)),.a 3,.s (.row 0),.s (.int .i64),.a 56],[.row (.int .i64) 3 false]⟩
def S0(p:(List Int)×(List Int)×Int×(List Int)×Unit):St:=sh0.b p
def xh1:ShS:=⟨[.a 5,.s (.row 0),.a 57],[.row (.int .i64) 3 false]⟩
def o0(v0 v1:List Int)(y:((List Int)×Unit)×Unit):Alt:=.one (.exit 0) (xh1.b (y.1.1,()))
def tb(lf:Nat):List (FuncId×Entry):=[(219,ay.E lf)]
def zO(lf:Nat):List (Nat×(St→Option LTE)):=[(0,sumE sh0 fun(p:(List Int)×(List Int)×Int×(List Int)×Unit)=>⟨((List Int)×Unit)×Unit,l0 lf p.1 p.2.1 (lf+40) p.2.2.1 p.2.2.2.1,o0 p.1 p.2.1⟩),
 (1,sumE sh1 fun(p:(List Int)×(List Int)×Int×Int×Int×(List Int)×Unit)=>⟨(Int×(List Int)×Unit)×Unit,l1 lf p.1 p.2.1 p.2.2.1 (lf+40) p.2.2.2.1 p.2.2.2.2.1 p.2.2.2.2.2.1,o1 p.1 p.2.1 p.2.2.1⟩)]
def ls(lf:Nat):List (Nat×FuncId×Sums):=[(13,280,sumsL (zO lf))]
def it1{ρ:Type}(lf n:Nat)(st:St)(k:KE ρ):Option ρ:=itG anns (ls lf) (tb lf) lf 13 280 1 1 (sumsL (zO lf)) n st k
theorem t1{ρ:Type}(lf n:Nat)(v0 v1:List Int)(v2 v3 v4:Int)(v5:List Int)(k:KE ρ):it1 lf (n+1) (S1 (v0,v1,v2,v3,v4,v5,())) k=r1 lf v0 v1 v2 v3 v4 v5 (fun x0 x1 x2=>it1 lf n (S1 (v0,v1,v2,x0,x1,x2,())) k) (fun w0 w1=>k (.exit 2) (xh0.b (v0,v1,v2,w0,w1,()))):=by kernel_rfl
theorem u1{ρ:Type}(lf:Nat)(v0 v1:List Int)(v2:Int)(k:KE ρ):∀ (n:Nat) (v3 v4:Int) (v5:List Int),it1 lf n (S1 (v0,v1,v2,v3,v4,v5,())) k=bd (l1 lf v0 v1 v2 n v3 v4 v5) fun y=>altK k (o1 v0 v1 v2 y)
 | 0,_,_,_=>by rw[l1,bd_none];rfl
 | n+1,v3,v4,v5=>by
  rw[t1];simp only[l1,r1,u1 lf v0 v1 v2 k n,bd_br,bd_bd,bd_some',bd_none,br_t,br_f,o1,altK]
def it0{ρ:Type}(lf n:Nat)(st:St)(k:KE ρ):Option ρ:=itG anns (ls lf) (tb lf) lf 13 280 0 1 (sumsL (zO lf)) n st k
theorem t0{ρ:Type}(lf n:Nat)(v0 v1:List Int)(v2:Int)(v3:List Int)(k:KE ρ):it0 lf (n+1) (S0 (v0,v1,v2,v3,())) k=r0 lf v0 v1 v2 v3 (fun x0 x1=>it0 lf n (S0 (v0,v1,x0,x1,())) k) (fun w0=>k (.exit 0) (xh1.b (w0,()))):=by kernel_rfl
theorem u0{ρ:Type}(lf:Nat)(v0 v1:List Int)(k:KE ρ):∀ (n:Nat) (v2:Int) (v3:List Int),it0 lf n (S0 (v0,v1,v2,v3,())) k=bd (l0 lf v0 v1 n v2 v3) fun y=>altK k (o0 v0 v1 y)
 | 0,_,_=>by rw[l0,bd_none];rfl
 | n+1,v2,v3=>by
  rw[t0];simp only[l0,r0,u0 lf v0 v1 k n,bd_br,bd_bd,bd_some',bd_none,br_t,br_f,o0,altK]
theorem sl(lf:Nat):SL anns (ls lf) (tb lf) lf (ls lf):=slC (laC (fun _=>by kernel_rfl) (fun _ (x:(List Int)×(List Int)×Int×(List Int)×Unit) k=>bH (u0 lf x.1 x.2.1 k (lf+40) x.2.2.1 x.2.2.2.1)) (laC (fun _=>by kernel_rfl) (fun _ (x:(List Int)×(List Int)×Int×Int×Int×(List Int)×Unit) k=>bH (u1 lf x.1 x.2.1 x.2.2.1 k (lf+40) x.2.2.2.1 x.2.2.2.2.1 x.2.2.2.2.2.1)) laN)) slN
def f(lf:Nat)(a0:List Int)(a1:List Int):Option ((List Int)×Unit) :=
 bd (mkL (i64.wrap (((a0.length:Nat):Int)+((a1.length:Nat):Int))) (i64.wrap (((a0.length:Nat):Int)+((a1.length:Nat):Int))) 8 0) fun q1 =>
 bd (l0 lf a0 a1 (lf+40) 0 q1) fun z15 =>
 bd (ay.f lf z15.1.1) fun r16 =>
 some (r16.1,())
def E(lf:Nat):Entry:=⟨[(.sl (.int .i64)),(.sl (.int .i64))],[(.sl (.int .i64))],fun x=>f lf x.1 x.2.1⟩
theorem ok(lf:Nat):Ok 280 (E lf):=okL (tC (ay.ok lf) tN) (aoC aoN) (sl lf) fun x=>by kernel_rfl
end bQ
namespace bC
def f(lf:Nat)(a0:ByteArray)(a1:ByteArray):Option (ByteArray×Unit) :=
 bd (aK.f lf a0) fun r1 =>
 bd (aK.f lf a1) fun r2 =>
 br (decide ((i64.wrap (r1.1+r2.1))≤18)) (
 bd (aS.f lf a0) fun r3 =>
 bd (aS.f lf a1) fun r4 =>
 bd (aV.f lf (i64.wrap (r3.1*r4.1))) fun r5 =>
 some (r5.1,())) (
 bd (aB.f lf a0) fun r6 =>
 bd (aB.f lf a1) fun r7 =>
 bd (bQ.f lf r6.1 r7.1) fun r8 =>
 bd (ak.f lf a0) fun r9 =>
 bd (ak.f lf a1) fun r10 =>
 bd (aG.f lf r8.1 (r9.1 != r10.1)) fun r11 =>
 some (r11.1,()))
def E(lf:Nat):Entry:=⟨[.str,.str],[.str],fun x=>f lf x.1 x.2.1⟩
theorem ok(lf:Nat):Ok 204 (E lf):=okT (an:=(annsL [])) (lf:=lf) (tC (aK.ok lf) (tC (ak.ok lf) (tC (aB.ok lf) (tC (aV.ok lf) (tC (aS.ok lf) (tC (aG.ok lf) (tC (bQ.ok lf) tN))))))) aoN fun x=>by kernel_rfl
end bC
namespace jP
def f(lf:Nat)(a0:Int)(a1:Int):Option (Int×Unit) :=
 bd (iQuo .i64 a0 a1) fun r1 =>
 bd (iRem a0 a1) fun r2 =>
 br (r2 != 0) (
 br ((decide (a0 < 0)) !=(decide (a1 < 0))) (
 some ((i64.wrap (r1-1)),())) (
 some (r1,()))) (
 some (r1,()))
def E(lf:Nat):Entry:=⟨[(.int .i64),(.int .i64)],[(.int .i64)],fun x=>f lf x.1 x.2.1⟩
theorem ok(lf:Nat):Ok 282 (E lf):=okT (an:=(annsL [])) (lf:=lf) tN aoN fun x=>by kernel_rfl
end jP
namespace aN
def anns:FuncId→FA:=annsL [(283,⟨annOf [(0,⟨kx 56 [0,1,7,8,9],[],[]⟩,⟨kx 56 [4,5,7,8],[],[]⟩),(1,⟨kx 56 [0,1,7,8,9],[],[]⟩,⟨kx 56 [0,1,4,5,7,8,9],[],[]⟩)],none,[]⟩)]
def r1{ρ:Type}(lf:Nat)(v0 v1:List Int)(v3:Int)(v5 v6:List Int)(v2 v4:List Int)(K:(List Int)→(List Int)→Option ρ)(E0:(List Int)→(List Int)→Option ρ):Option ρ :=
 bd (bn.f lf v2 v1) fun r7 =>
 br (decide (r7.1≥0)) (
 bd (aW.f lf v2 v1) fun r8 =>
 bd (idxB v4.length v3) fun j9 =>
 bd (v4[j9]?) fun y10 =>
 bd (idxB v4.length v3) fun j11 =>
 bd (upE v4 j11 fun _=>some (i64.wrap (y10+1))) fun q12 =>
 K r8.1 q12) (
 E0 v2 v4)
def l1(lf:Nat)(v0 v1:List Int)(v3:Int)(v5 v6:List Int):Nat→(List Int)→(List Int)→Option (((List Int)×(List Int)×Unit)×Unit)
 | 0,_,_=>none
 | n+1,v2,v4=>r1 lf v0 v1 v3 v5 v6 v2 v4 (l1 lf v0 v1 v3 v5 v6 n) (fun w0 w1=>some ((w0,w1,()),()))
def sh1:ShS:=⟨[.s (.sl (.int .i64)),.s (.sl (.int .i64)),.a 5,.s (.row 0),.s (.sl (.int .i64)),.s (.int .i64),.a 46],[.row (.int .i64) 3 false,.gone,.row (.int .i64) 3 false,.gone,.row (.int .i64) 3 true]⟩
def S1(p:(List Int)×(List Int)×(List Int)×Int×(List Int)×(List Int)×(List Int)×Unit):St:=sh1.b p
def xh0:ShS:=⟨[.s (.sl (.int .i64)),.s (.sl (.int .i64)),.a 5,.s (.row 0),.s (.sl (.int .i64)),.s (.int .i64),.a 46],[.row (.int .i64) 3 false,.gone,.row (.int .i64) 3 false,.gone,.row (.int .i64) 3 true]⟩
def o1(v0 v1:List Int)(v3:Int)(v5 v6:List Int)(y:((List Int)×(List Int)×Unit)×Unit):Alt:=.one (.exit 2) (xh0.b (v0,v1,y.1.1,v3,y.1.2.1,v5,v6,()))
def r2{ρ:Type}(lf:Nat)(v0 v1 v5:List Int)(v2:List Int)(v3:Int)(v4:List Int)(K:(List Int)→Int→(List Int)→Option ρ)(E0:(List Int)→(List Int)→(List Int)→Option ρ):Option ρ :=
 br (decide (v3≥0)) (
 bd (idxL v0 v3) fun y15 =>
 bd (apL true 8 [y15] v2) fun q16 =>
 bd (ay.f lf q16) fun r17 =>
 bd (l1 lf v0 v1 v3 v5 q16 (lf+40) r17.1 v4) fun z18 =>
 K z18.1.1 (i64.wrap (v3-1)) z18.1.2.1) (
 E0 v2 v4 v5)
def l2(lf:Nat)(v0 v1 v5:List Int):Nat→(List Int)→Int→(List Int)→Option (((List Int)×(List Int)×(List Int)×Unit)×Unit)
 | 0,_,_,_=>none
 | n+1,v2,v3,v4=>r2 lf v0 v1 v5 v2 v3 v4 (l2 lf v0 v1 v5 n) (fun w0 w1 w2=>some ((w0,w1,w2,()),()))
def sh2:ShS:=⟨[.s (.sl (.int .i64)),.s (.sl (.int .i64)),.a 5,.s (.row 0),.s (.sl (.int .i64)),.s (.int .i64),.a 46],[.row (.int .i64) 3 false,.gone,.row (.int .i64) 3 false]⟩
def S2(p:(List Int)×(List Int)×(List Int)×Int×(List Int)×(List Int)×Unit):St:=sh2.b p
def xh1:ShS:=⟨[.a 7,.s (.row 0),.s (.sl (.int .i64)),.a 47],[.row (.int .i64) 3 false,.gone,.row (.int .i64) 3 false]⟩
def o2(v0 v1 v5:List Int)(y:((List Int)×(List Int)×(List Int)×Unit)×Unit):Alt:=.one (.exit 0) (xh1.b (y.1.1,y.1.2.1,y.1.2.2.1,()))
def r0{ρ:Type}(lf:Nat)(v0 v1:List Int)(v2:Int)(v3 v4:List Int)(K2:(List Int)→(List Int)→(List Int)→Int→(List Int)→(List Int)→Option ρ)(E0:(List Int)→(List Int)→Option ρ):Option ρ :=
 br (decide (v2≥0)) (
 bd (idxL v0 v2) fun y4 =>
 bd (apL true 8 [y4] v4) fun q5 =>
 bd (ay.f lf q5) fun r6 =>
 bd (l1 lf v0 v1 v2 v4 q5 (lf+40) r6.1 v3) fun z14 =>
 K2 v0 v1 z14.1.1 (i64.wrap (v2-1)) z14.1.2.1 v4) (
 E0 v3 v4)
def l0(lf:Nat)(v0 v1:List Int)(v2:Int)(v3 v4:List Int):Nat→Option (Bool×((List Int)×(List Int)×Unit)×((List Int)×(List Int)×(List Int)×Unit)×Unit)
 | 0=>none
 | n+1=>r0 lf v0 v1 v2 v3 v4 (fun x0 x1 x2 x3 x4 x5=>bd (l2 lf x0 x1 x5 n x2 x3 x4) fun z19=>some (false,([],[],()),((z19.1.1,z19.1.2.1,z19.1.2.2.1,()),()))) (fun w0 w1=>some (true,(w0,w1,()),(([],[],[],()),())))
def sh0:ShS:=⟨[.s (.sl (.int .i64)),.s (.sl (.int .i64)),.a 5,.s (.row 0),.s (.row 2),.s (.int .i64),.a 46],[.row (.int .i64) 3 false,.gone,.row (.int .i64) 3 false]⟩
def S0(p:(List Int)×(List Int)×Int×(List Int)×(List Int)×Unit):St:=sh0.b p
def xh2:ShS:=⟨[.a 7,.s (.row 0),.s (.row 2),.a 47],[.row (.int .i64) 3 false,.gone,.row (.int .i64) 3 false]⟩
def o0(v0 v1:List Int)(v2:Int)(v3 v4:List Int)(y:Bool×((List Int)×(List Int)×Unit)×((List Int)×(List Int)×(List Int)×Unit)×Unit):Alt:=.two y.1 (.one (.exit 0) (xh2.b (y.2.1.1,y.2.1.2.1,()))) (.one (.exit 0) (xh1.b (y.2.2.1.1,y.2.2.1.2.1,y.2.2.1.2.2.1,())))
def tb(lf:Nat):List (FuncId×Entry):=[(218,bn.E lf),(219,ay.E lf),(285,aW.E lf)]
def wE(lf:Nat):List (Nat×(St→Option LTE)):=[(0,sumE sh2 fun(p:(List Int)×(List Int)×(List Int)×Int×(List Int)×(List Int)×Unit)=>⟨((List Int)×(List Int)×(List Int)×Unit)×Unit,l2 lf p.1 p.2.1 p.2.2.2.2.2.1 (lf+40) p.2.2.1 p.2.2.2.1 p.2.2.2.2.1,o2 p.1 p.2.1 p.2.2.2.2.2.1⟩),
 (0,sumE sh0 fun(p:(List Int)×(List Int)×Int×(List Int)×(List Int)×Unit)=>⟨Bool×((List Int)×(List Int)×Unit)×((List Int)×(List Int)×(List Int)×Unit)×Unit,l0 lf p.1 p.2.1 p.2.2.1 p.2.2.2.1 p.2.2.2.2.1 (lf+40),o0 p.1 p.2.1 p.2.2.1 p.2.2.2.1 p.2.2.2.2.1⟩),
 (1,sumE sh1 fun(p:(List Int)×(List Int)×(List Int)×Int×(List Int)×(List Int)×(List Int)×Unit)=>⟨((List Int)×(List Int)×Unit)×Unit,l1 lf p.1 p.2.1 p.2.2.2.1 p.2.2.2.2.2.1 p.2.2.2.2.2.2.1 (lf+40) p.2.2.1 p.2.2.2.2.1,o1 p.1 p.2.1 p.2.2.2.1 p.2.2.2.2.2.1 p.2.2.2.2.2.2.1⟩)]
def ls(lf:Nat):List (Nat×FuncId×Sums):=[(13,283,sumsL (wE lf))]
def it1{ρ:Type}(lf n:Nat)(st:St)(k:KE ρ):Option ρ:=itG anns (ls lf) (tb lf) lf 13 283 1 5 (sumsL (wE lf)) n st k
theorem t1{ρ:Type}(lf n:Nat)(v0 v1 v2:List Int)(v3:Int)(v4 v5 v6:List Int)(k:KE ρ):it1 lf (n+1) (S1 (v0,v1,v2,v3,v4,v5,v6,())) k=r1 lf v0 v1 v3 v5 v6 v2 v4 (fun x0 x1=>it1 lf n (S1 (v0,v1,x0,v3,x1,v5,v6,())) k) (fun w0 w1=>k (.exit 2) (xh0.b (v0,v1,w0,v3,w1,v5,v6,()))):=by kernel_rfl
theorem u1{ρ:Type}(lf:Nat)(v0 v1:List Int)(v3:Int)(v5 v6:List Int)(k:KE ρ):∀ (n:Nat) (v2 v4:List Int),it1 lf n (S1 (v0,v1,v2,v3,v4,v5,v6,())) k=bd (l1 lf v0 v1 v3 v5 v6 n v2 v4) fun y=>altK k (o1 v0 v1 v3 v5 v6 y)
 | 0,_,_=>by rw[l1,bd_none];rfl
 | n+1,v2,v4=>by
  rw[t1];simp only[l1,r1,u1 lf v0 v1 v3 v5 v6 k n,bd_br,bd_bd,bd_some',bd_none,br_t,br_f,o1,altK]
def it2{ρ:Type}(lf n:Nat)(st:St)(k:KE ρ):Option ρ:=itG anns (ls lf) (tb lf) lf 13 283 0 3 (sumsL (wE lf)) n st k
theorem t2{ρ:Type}(lf n:Nat)(v0 v1 v2:List Int)(v3:Int)(v4 v5:List Int)(k:KE ρ):it2 lf (n+1) (S2 (v0,v1,v2,v3,v4,v5,())) k=r2 lf v0 v1 v5 v2 v3 v4 (fun x0 x1 x2=>it2 lf n (S2 (v0,v1,x0,x1,x2,v5,())) k) (fun w0 w1 w2=>k (.exit 0) (xh1.b (w0,w1,w2,()))):=by kernel_rfl
theorem u2{ρ:Type}(lf:Nat)(v0 v1 v5:List Int)(k:KE ρ):∀ (n:Nat) (v2:List Int) (v3:Int) (v4:List Int),it2 lf n (S2 (v0,v1,v2,v3,v4,v5,())) k=bd (l2 lf v0 v1 v5 n v2 v3 v4) fun y=>altK k (o2 v0 v1 v5 y)
 | 0,_,_,_=>by rw[l2,bd_none];rfl
 | n+1,v2,v3,v4=>by
  rw[t2];simp only[l2,r2,u2 lf v0 v1 v5 k n,bd_br,bd_bd,bd_some',bd_none,br_t,br_f,o2,altK]
def it0{ρ:Type}(lf n:Nat)(st:St)(k:KE ρ):Option ρ:=itG anns (ls lf) (tb lf) lf 13 283 0 3 (sumsL (wE lf)) n st k
theorem t0{ρ:Type}(lf n:Nat)(v0 v1:List Int)(v2:Int)(v3 v4:List Int)(k:KE ρ):it0 lf (n+1) (S0 (v0,v1,v2,v3,v4,())) k=r0 lf v0 v1 v2 v3 v4 (fun x0 x1 x2 x3 x4 x5=>it2 lf n (S2 (x0,x1,x2,x3,x4,x5,())) k) (fun w0 w1=>k (.exit 0) (xh2.b (w0,w1,()))):=by kernel_rfl
theorem u0{ρ:Type}(lf:Nat)(v0 v1:List Int)(v2:Int)(v3 v4:List Int)(k:KE ρ):∀ (n:Nat),it0 lf n (S0 (v0,v1,v2,v3,v4,())) k=bd (l0 lf v0 v1 v2 v3 v4 n) fun y=>altK k (o0 v0 v1 v2 v3 v4 y)
 | 0=>by rw[l0,bd_none];rfl
 | n+1=>by
  rw[t0];simp only[l0,r0,u2,bd_br,bd_bd,bd_some',bd_none,br_t,br_f,o0,o2,altK]
theorem sl(lf:Nat):SL anns (ls lf) (tb lf) lf (ls lf):=slC (laC (fun _=>by kernel_rfl) (fun _ (x:(List Int)×(List Int)×(List Int)×Int×(List Int)×(List Int)×Unit) k=>bH (u2 lf x.1 x.2.1 x.2.2.2.2.2.1 k (lf+40) x.2.2.1 x.2.2.2.1 x.2.2.2.2.1)) (laC (fun _=>by kernel_rfl) (fun _ (x:(List Int)×(List Int)×Int×(List Int)×(List Int)×Unit) k=>bH (u0 lf x.1 x.2.1 x.2.2.1 x.2.2.2.1 x.2.2.2.2.1 k (lf+40))) (laC (fun _=>by kernel_rfl) (fun _ (x:(List Int)×(List Int)×(List Int)×Int×(List Int)×(List Int)×(List Int)×Unit) k=>bH (u1 lf x.1 x.2.1 x.2.2.2.1 x.2.2.2.2.2.1 x.2.2.2.2.2.2.1 k (lf+40) x.2.2.1 x.2.2.2.2.1)) laN))) slN
def f(lf:Nat)(a0:List Int)(a1:List Int):Option ((List Int)×(List Int)×Unit) :=
 bd (mkL (if(i64.wrap ((i64.wrap (((a0.length:Nat):Int)-((a1.length:Nat):Int)))+1)) > 0 then(i64.wrap ((i64.wrap (((a0.length:Nat):Int)-((a1.length:Nat):Int)))+1))else 0) (if(i64.wrap ((i64.wrap (((a0.length:Nat):Int)-((a1.length:Nat):Int)))+1)) > 0 then(i64.wrap ((i64.wrap (((a0.length:Nat):Int)-((a1.length:Nat):Int)))+1))else 0) 8 0) fun q1 =>
 bd (cutL a0 (some (if(i64.wrap ((i64.wrap (((a0.length:Nat):Int)-((a1.length:Nat):Int)))+1)) > 0 then(i64.wrap ((i64.wrap (((a0.length:Nat):Int)-((a1.length:Nat):Int)))+1))else 0)) none) fun q2 =>
 bd (apL true 8 [] q2) fun q3 =>
 bd (l0 lf a0 a1 (i64.wrap ((if(i64.wrap ((i64.wrap (((a0.length:Nat):Int)-((a1.length:Nat):Int)))+1)) > 0 then(i64.wrap ((i64.wrap (((a0.length:Nat):Int)-((a1.length:Nat):Int)))+1))else 0)-1)) q1 q3 (lf+40)) fun z20 =>
 br z20.1 (
 bd (ay.f lf z20.2.1.1) fun r21 =>
 some (r21.1,z20.2.1.2.1,())) (
 bd (ay.f lf z20.2.2.1.2.1) fun r22 =>
 some (r22.1,z20.2.2.1.1,()))
def E(lf:Nat):Entry:=⟨[(.sl (.int .i64)),(.sl (.int .i64))],[(.sl (.int .i64)),(.sl (.int .i64))],fun x=>f lf x.1 x.2.1⟩
theorem ok(lf:Nat):Ok 283 (E lf):=okL (tC (bn.ok lf) (tC (ay.ok lf) (tC (aW.ok lf) tN))) (aoC aoN) (sl lf) fun x=>by kernel_rfl
end aN
end
end Go.Q
