import Derived.Test.YtioemjeplgnccaaGreatDoorProg
import Derived.KernelRfl
import Derived.Test.YtioemjeplgnccaaGreatDoorTDE3
set_option linter.unusedVariables false
set_option linter.unusedSimpArgs false
set_option linter.unusedSectionVars false
set_option maxRecDepth 100000
namespace Go.Q
open Go.IntKind (i64)
open Go Go.RowKit
open Go.Rx (br bd sIdx sCat sCut iQuo iRem iShl)
noncomputable section
namespace kz
def f(lf:Nat)(a0:ByteArray):Option (Bool×Unit) :=
 some ((decide (((a0.size:Nat):Int)≤250)),())
def E(lf:Nat):Entry:=⟨[.str],[.bool],fun x=>f lf x.1⟩
theorem ok(lf:Nat):Ok 72 (E lf):=okT (an:=(annsL [])) (lf:=lf) tN aoN fun x=>by kernel_rfl
end kz
namespace aA
def f(lf:Nat)(a0:ByteArray):Option (Bool×Unit) :=
 bd (sIdx a0 0) fun r1 =>
 some ((((r1.toNat:Nat):Int)==45),())
def E(lf:Nat):Entry:=⟨[.str],[.bool],fun x=>f lf x.1⟩
theorem ok(lf:Nat):Ok 99 (E lf):=okT (an:=(annsL [])) (lf:=lf) tN aoN fun x=>by kernel_rfl
end aA
namespace aF
def f(lf:Nat)(a0:ByteArray):Option (Int×Unit) :=
 bd (aA.f lf a0) fun r1 =>
 br r1.1 (
 some ((i64.wrap (((a0.size:Nat):Int)-1)),())) (
 some (((a0.size:Nat):Int),()))
def E(lf:Nat):Entry:=⟨[.str],[(.int .i64)],fun x=>f lf x.1⟩
theorem ok(lf:Nat):Ok 40 (E lf):=okT (an:=(annsL [])) (lf:=lf) (tC (aA.ok lf) tN) aoN fun x=>by kernel_rfl
end aF
namespace dH
def anns:FuncId→FA:=annsL [(140,⟨annOf [(0,⟨kx 42 [0,4],[],[]⟩,⟨kx 42 [2],[],[]⟩)],none,[]⟩)]
def r0{ρ:Type}(lf:Nat)(v0:ByteArray)(v1:Int)(K:Int→Option ρ)(E0:Option ρ)(E1:Option ρ):Option ρ :=
 br (decide (v1 < ((v0.size:Nat):Int))) (
 bd (sIdx v0 v1) fun r3 =>
 br (decide (((r3.toNat:Nat):Int) < 48)) (
 E0) (
 bd (sIdx v0 v1) fun r4 =>
 br (decide (((r4.toNat:Nat):Int) > 57)) (
 E0) (
 K (i64.wrap (v1+1))))) (
 E1)
def l0(lf:Nat)(v0:ByteArray):Nat→Int→Option (Bool×(Unit)×(Unit)×Unit)
 | 0,_=>none
 | n+1,v1=>r0 lf v0 v1 (l0 lf v0 n) (some (true,(()),((()),()))) (some (false,(()),((()),())))
def sh0:ShS:=⟨[.s .str,.a 3,.s (.int .i64),.a 37],[]⟩
def S0(p:ByteArray×Int×Unit):St:=sh0.b p
def xh0:ShS:=⟨[.a 2,.s .bool,.a 39],[]⟩
def xh1:ShS:=⟨[.a 42],[]⟩
def o0(v0:ByteArray)(y:Bool×(Unit)×(Unit)×Unit):Alt:=.two y.1 (.one .ret (xh0.b (false,()))) (.one (.exit 0) (xh1.b (())))
def tb(lf:Nat):List (FuncId×Entry):=[]
def abh(lf:Nat):List (Nat×(St→Option LTE)):=[(0,sumE sh0 fun(p:ByteArray×Int×Unit)=>⟨Bool×(Unit)×(Unit)×Unit,l0 lf p.1 (lf+40) p.2.1,o0 p.1⟩)]
def ls(lf:Nat):List (Nat×FuncId×Sums):=[(13,140,sumsL (abh lf))]
def it0{ρ:Type}(lf n:Nat)(st:St)(k:KE ρ):Option ρ:=itG anns (ls lf) (tb lf) lf 13 140 0 0 (sumsL (abh lf)) n st k
theorem t0{ρ:Type}(lf n:Nat)(v0:ByteArray)(v1:Int)(k:KE ρ):it0 lf (n+1) (S0 (v0,v1,())) k=r0 lf v0 v1 (fun x0=>it0 lf n (S0 (v0,x0,())) k) (k .ret (xh0.b (false,()))) (k (.exit 0) (xh1.b (()))):=by kernel_rfl
theorem u0{ρ:Type}(lf:Nat)(v0:ByteArray)(k:KE ρ):∀ (n:Nat) (v1:Int),it0 lf n (S0 (v0,v1,())) k=bd (l0 lf v0 n v1) fun y=>altK k (o0 v0 y)
 | 0,_=>by rw[l0,bd_none];rfl
 | n+1,v1=>by
  rw[t0];simp only[l0,r0,u0 lf v0 k n,bd_br,bd_bd,bd_some',bd_none,br_t,br_f,o0,altK]
theorem sl(lf:Nat):SL anns (ls lf) (tb lf) lf (ls lf):=slC (laC (fun _=>by kernel_rfl) (fun _ (x:ByteArray×Int×Unit) k=>dK (u0 lf x.1 k (lf+40) x.2.1)) laN) slN
def f(lf:Nat)(a0:ByteArray):Option (Bool×Unit) :=
 br (a0.toList==(⟨#[48]⟩:ByteArray).toList) (
 some (true,())) (
 br (decide (((a0.size:Nat):Int) > 0)) (
 bd (sIdx a0 0) fun r1 =>
 br (((r1.toNat:Nat):Int)==45) (
 br (1==((a0.size:Nat):Int)) (
 some (false,())) (
 bd (sIdx a0 1) fun r2 =>
 br (((r2.toNat:Nat):Int)==48) (
 some (false,())) (
 bd (l0 lf a0 (lf+40) 1) fun z5 =>
 br z5.1 (
 some (false,())) (
 some (true,()))))) (
 br (0==((a0.size:Nat):Int)) (
 some (false,())) (
 bd (sIdx a0 0) fun r6 =>
 br (((r6.toNat:Nat):Int)==48) (
 some (false,())) (
 bd (l0 lf a0 (lf+40) 0) fun z7 =>
 br z7.1 (
 some (false,())) (
 some (true,())))))) (
 br (0==((a0.size:Nat):Int)) (
 some (false,())) (
 bd (sIdx a0 0) fun r8 =>
 br (((r8.toNat:Nat):Int)==48) (
 some (false,())) (
 bd (l0 lf a0 (lf+40) 0) fun z9 =>
 br z9.1 (
 some (false,())) (
 some (true,()))))))
def E(lf:Nat):Entry:=⟨[.str],[.bool],fun x=>f lf x.1⟩
theorem ok(lf:Nat):Ok 140 (E lf):=okL tN (aoC aoN) (sl lf) fun x=>by kernel_rfl
end dH
namespace jC
def f(lf:Nat)(a0:ByteArray):Option (Int×Unit) :=
 bd (dH.f lf a0) fun r1 =>
 br (!r1.1) (
 some (3,())) (
 bd (aF.f lf a0) fun r2 =>
 br (decide (r2.1 > 4096)) (
 some (10,())) (
 some (0,())))
def E(lf:Nat):Entry:=⟨[.str],[(.int .i64)],fun x=>f lf x.1⟩
theorem ok(lf:Nat):Ok 82 (E lf):=okT (an:=(annsL [])) (lf:=lf) (tC (aF.ok lf) (tC (dH.ok lf) tN)) aoN fun x=>by kernel_rfl
end jC
namespace eP
def f(lf:Nat)(a0:ByteArray):Option (Int×Unit) :=
 br (a0.toList==(⟨#[48]⟩:ByteArray).toList) (
 some (0,())) (
 bd (aA.f lf a0) fun r1 =>
 br r1.1 (
 some ((-1),())) (
 some (1,())))
def E(lf:Nat):Entry:=⟨[.str],[(.int .i64)],fun x=>f lf x.1⟩
theorem ok(lf:Nat):Ok 76 (E lf):=okT (an:=(annsL [])) (lf:=lf) (tC (aA.ok lf) tN) aoN fun x=>by kernel_rfl
end eP
namespace bP
def anns:FuncId→FA:=annsL [(191,⟨annOf [(0,⟨kx 41 [0,1,5],[],[]⟩,⟨kx 41 [4],[],[]⟩)],none,[]⟩)]
def r0{ρ:Type}(lf:Nat)(v0 v1:List Int)(v2:Int)(K:Int→Option ρ)(E0:Int→Option ρ)(E1:Option ρ):Option ρ :=
 br (decide (v2≥0)) (
 bd (idxL v0 v2) fun y1 =>
 bd (idxL v1 v2) fun y2 =>
 br (y1 != y2) (
 bd (idxL v0 v2) fun y3 =>
 bd (idxL v1 v2) fun y4 =>
 br (decide (y3 < y4)) (
 E0 (-1)) (
 E0 1)) (
 K (i64.wrap (v2-1)))) (
 E1)
def l0(lf:Nat)(v0 v1:List Int):Nat→Int→Option (Bool×(Int×Unit)×(Unit)×Unit)
 | 0,_=>none
 | n+1,v2=>r0 lf v0 v1 v2 (l0 lf v0 v1 n) (fun w0=>some (true,(w0,()),((()),()))) (some (false,(0,()),((()),())))
def sh0:ShS:=⟨[.s (.sl (.int .i64)),.s (.sl (.int .i64)),.a 3,.s (.int .i64),.a 35],[]⟩
def S0(p:(List Int)×(List Int)×Int×Unit):St:=sh0.b p
def xh0:ShS:=⟨[.a 4,.s (.int .i64),.a 36],[]⟩
def xh1:ShS:=⟨[.a 41],[]⟩
def o0(v0 v1:List Int)(y:Bool×(Int×Unit)×(Unit)×Unit):Alt:=.two y.1 (.one .ret (xh0.b (y.2.1.1,()))) (.one (.exit 0) (xh1.b (())))
def tb(lf:Nat):List (FuncId×Entry):=[]
def abj(lf:Nat):List (Nat×(St→Option LTE)):=[(0,sumE sh0 fun(p:(List Int)×(List Int)×Int×Unit)=>⟨Bool×(Int×Unit)×(Unit)×Unit,l0 lf p.1 p.2.1 (lf+40) p.2.2.1,o0 p.1 p.2.1⟩)]
def ls(lf:Nat):List (Nat×FuncId×Sums):=[(13,191,sumsL (abj lf))]
def it0{ρ:Type}(lf n:Nat)(st:St)(k:KE ρ):Option ρ:=itG anns (ls lf) (tb lf) lf 13 191 0 0 (sumsL (abj lf)) n st k
theorem t0{ρ:Type}(lf n:Nat)(v0 v1:List Int)(v2:Int)(k:KE ρ):it0 lf (n+1) (S0 (v0,v1,v2,())) k=r0 lf v0 v1 v2 (fun x0=>it0 lf n (S0 (v0,v1,x0,())) k) (fun w0=>k .ret (xh0.b (w0,()))) (k (.exit 0) (xh1.b (()))):=by kernel_rfl
theorem u0{ρ:Type}(lf:Nat)(v0 v1:List Int)(k:KE ρ):∀ (n:Nat) (v2:Int),it0 lf n (S0 (v0,v1,v2,())) k=bd (l0 lf v0 v1 n v2) fun y=>altK k (o0 v0 v1 y)
 | 0,_=>by rw[l0,bd_none];rfl
 | n+1,v2=>by
  rw[t0];simp only[l0,r0,u0 lf v0 v1 k n,bd_br,bd_bd,bd_some',bd_none,br_t,br_f,o0,altK]
theorem sl(lf:Nat):SL anns (ls lf) (tb lf) lf (ls lf):=slC (laC (fun _=>by kernel_rfl) (fun _ (x:(List Int)×(List Int)×Int×Unit) k=>dK (u0 lf x.1 x.2.1 k (lf+40) x.2.2.1)) laN) slN
def f(lf:Nat)(a0:List Int)(a1:List Int):Option (Int×Unit) :=
 br (((a0.length:Nat):Int) !=((a1.length:Nat):Int)) (
 br (decide (((a0.length:Nat):Int) < ((a1.length:Nat):Int))) (
 some ((-1),())) (
 some (1,()))) (
 bd (l0 lf a0 a1 (lf+40) (i64.wrap (((a0.length:Nat):Int)-1))) fun z5 =>
 br z5.1 (
 some (z5.2.1.1,())) (
 some (0,())))
def E(lf:Nat):Entry:=⟨[(.sl (.int .i64)),(.sl (.int .i64))],[(.int .i64)],fun x=>f lf x.1 x.2.1⟩
theorem ok(lf:Nat):Ok 191 (E lf):=okL tN (aoC aoN) (sl lf) fun x=>by kernel_rfl
end bP
namespace aH
def anns:FuncId→FA:=annsL [(192,⟨annOf [(0,⟨kx 21 [0,3],[],[]⟩,⟨kx 21 [0,2,3],[],[]⟩)],none,[]⟩)]
def r0{ρ:Type}(lf:Nat)(v0:List Int)(v1:Int)(K:Int→Option ρ)(E0:Int→Option ρ):Option ρ :=
 br (decide (v1 > 0)) (
 bd (idxL v0 (i64.wrap (v1-1))) fun y1 =>
 br (y1==0) (
 K (i64.wrap (v1-1))) (
 E0 v1)) (
 E0 v1)
def l0(lf:Nat)(v0:List Int):Nat→Int→Option ((Int×Unit)×Unit)
 | 0,_=>none
 | n+1,v1=>r0 lf v0 v1 (l0 lf v0 n) (fun w0=>some ((w0,()),()))
def sh0:ShS:=⟨[.s (.sl (.int .i64)),.a 2,.s (.int .i64),.a 17],[]⟩
def S0(p:(List Int)×Int×Unit):St:=sh0.b p
def xh0:ShS:=⟨[.s (.sl (.int .i64)),.a 2,.s (.int .i64),.a 17],[]⟩
def o0(v0:List Int)(y:(Int×Unit)×Unit):Alt:=.one (.exit 0) (xh0.b (v0,y.1.1,()))
def tb(lf:Nat):List (FuncId×Entry):=[]
def abk(lf:Nat):List (Nat×(St→Option LTE)):=[(0,sumE sh0 fun(p:(List Int)×Int×Unit)=>⟨(Int×Unit)×Unit,l0 lf p.1 (lf+40) p.2.1,o0 p.1⟩)]
def ls(lf:Nat):List (Nat×FuncId×Sums):=[(13,192,sumsL (abk lf))]
def it0{ρ:Type}(lf n:Nat)(st:St)(k:KE ρ):Option ρ:=itG anns (ls lf) (tb lf) lf 13 192 0 0 (sumsL (abk lf)) n st k
theorem t0{ρ:Type}(lf n:Nat)(v0:List Int)(v1:Int)(k:KE ρ):it0 lf (n+1) (S0 (v0,v1,())) k=r0 lf v0 v1 (fun x0=>it0 lf n (S0 (v0,x0,())) k) (fun w0=>k (.exit 0) (xh0.b (v0,w0,()))):=by kernel_rfl
theorem u0{ρ:Type}(lf:Nat)(v0:List Int)(k:KE ρ):∀ (n:Nat) (v1:Int),it0 lf n (S0 (v0,v1,())) k=bd (l0 lf v0 n v1) fun y=>altK k (o0 v0 y)
 | 0,_=>by rw[l0,bd_none];rfl
 | n+1,v1=>by
  rw[t0];simp only[l0,r0,u0 lf v0 k n,bd_br,bd_bd,bd_some',bd_none,br_t,br_f,o0,altK]
theorem sl(lf:Nat):SL anns (ls lf) (tb lf) lf (ls lf):=slC (laC (fun _=>by kernel_rfl) (fun _ (x:(List Int)×Int×Unit) k=>dK (u0 lf x.1 k (lf+40) x.2.1)) laN) slN
def f(lf:Nat)(a0:List Int):Option ((List Int)×Unit) :=
 bd (l0 lf a0 (lf+40) ((a0.length:Nat):Int)) fun z2 =>
 bd (cutL a0 none (some z2.1.1)) fun q3 =>
 some (q3,())
def E(lf:Nat):Entry:=⟨[(.sl (.int .i64))],[(.sl (.int .i64))],fun x=>f lf x.1⟩
theorem ok(lf:Nat):Ok 192 (E lf):=okL tN (aoC aoN) (sl lf) fun x=>by kernel_rfl
end aH
namespace aQ
def anns:FuncId→FA:=annsL [(193,⟨annOf [(0,⟨kx 27 [0,3,4],[⟨.tmp 3,(.int .i64),3⟩],[]⟩,⟨kx 27 [2,3],[⟨.tmp 3,(.int .i64),3⟩],[]⟩)],none,[]⟩)]
def r0{ρ:Type}(lf:Nat)(v0:ByteArray)(v1:Int)(v2:List Int)(K:Int→(List Int)→Option ρ)(E0:(List Int)→Option ρ):Option ρ :=
 br (decide (v1≥0)) (
 bd (sIdx v0 v1) fun r1 =>
 br (((r1.toNat:Nat):Int) != 45) (
 bd (sIdx v0 v1) fun r2 =>
 bd (apL true 8 v2 [(i64.wrap (IntKind.u8.wrap (((r2.toNat:Nat):Int)-48)))]) fun q3 =>
 K (i64.wrap (v1-1)) q3) (
 E0 v2)) (
 E0 v2)
def l0(lf:Nat)(v0:ByteArray):Nat→Int→(List Int)→Option (((List Int)×Unit)×Unit)
 | 0,_,_=>none
 | n+1,v1,v2=>r0 lf v0 v1 v2 (l0 lf v0 n) (fun w0=>some ((w0,()),()))
def sh0:ShS:=⟨[.s .str,.a 2,.s (.row 0),.s (.int .i64),.a 22],[.row (.int .i64) 3 false]⟩
def S0(p:ByteArray×Int×(List Int)×Unit):St:=sh0.b p
def xh0:ShS:=⟨[.a 3,.s (.row 0),.a 23],[.row (.int .i64) 3 false]⟩
def o0(v0:ByteArray)(y:((List Int)×Unit)×Unit):Alt:=.one (.exit 0) (xh0.b (y.1.1,()))
def tb(lf:Nat):List (FuncId×Entry):=[]
def abl(lf:Nat):List (Nat×(St→Option LTE)):=[(0,sumE sh0 fun(p:ByteArray×Int×(List Int)×Unit)=>⟨((List Int)×Unit)×Unit,l0 lf p.1 (lf+40) p.2.1 p.2.2.1,o0 p.1⟩)]
def ls(lf:Nat):List (Nat×FuncId×Sums):=[(13,193,sumsL (abl lf))]
def it0{ρ:Type}(lf n:Nat)(st:St)(k:KE ρ):Option ρ:=itG anns (ls lf) (tb lf) lf 13 193 0 0 (sumsL (abl lf)) n st k
theorem t0{ρ:Type}(lf n:Nat)(v0:ByteArray)(v1:Int)(v2:List Int)(k:KE ρ):it0 lf (n+1) (S0 (v0,v1,v2,())) k=r0 lf v0 v1 v2 (fun x0 x1=>it0 lf n (S0 (v0,x0,x1,())) k) (fun w0=>k (.exit 0) (xh0.b (w0,()))):=by kernel_rfl
theorem u0{ρ:Type}(lf:Nat)(v0:ByteArray)(k:KE ρ):∀ (n:Nat) (v1:Int) (v2:List Int),it0 lf n (S0 (v0,v1,v2,())) k=bd (l0 lf v0 n v1 v2) fun y=>altK k (o0 v0 y)
 | 0,_,_=>by rw[l0,bd_none];rfl
 | n+1,v1,v2=>by
  rw[t0];simp only[l0,r0,u0 lf v0 k n,bd_br,bd_bd,bd_some',bd_none,br_t,br_f,o0,altK]
theorem sl(lf:Nat):SL anns (ls lf) (tb lf) lf (ls lf):=slC (laC (fun _=>by kernel_rfl) (fun _ (x:ByteArray×Int×(List Int)×Unit) k=>dK (u0 lf x.1 k (lf+40) x.2.1 x.2.2.1)) laN) slN
def f(lf:Nat)(a0:ByteArray):Option ((List Int)×Unit) :=
 bd (l0 lf a0 (lf+40) (i64.wrap (((a0.size:Nat):Int)-1)) []) fun z4 =>
 some (z4.1.1,())
def E(lf:Nat):Entry:=⟨[.str],[(.sl (.int .i64))],fun x=>f lf x.1⟩
theorem ok(lf:Nat):Ok 193 (E lf):=okL tN (aoC aoN) (sl lf) fun x=>by kernel_rfl
end aQ
namespace jE
def f(lf:Nat)(a0:ByteArray)(a1:ByteArray):Option (Int×Unit) :=
 bd (eP.f lf a0) fun r1 =>
 bd (eP.f lf a1) fun r2 =>
 br (r1.1 != r2.1) (
 br (decide (r1.1 < r2.1)) (
 some ((-1),())) (
 some (1,()))) (
 bd (aQ.f lf a0) fun r3 =>
 bd (aH.f lf r3.1) fun r4 =>
 bd (aQ.f lf a1) fun r5 =>
 bd (aH.f lf r5.1) fun r6 =>
 bd (bP.f lf r4.1 r6.1) fun r7 =>
 some ((i64.wrap (r1.1*r7.1)),()))
def E(lf:Nat):Entry:=⟨[.str,.str],[(.int .i64)],fun x=>f lf x.1 x.2.1⟩
theorem ok(lf:Nat):Ok 139 (E lf):=okT (an:=(annsL [])) (lf:=lf) (tC (eP.ok lf) (tC (bP.ok lf) (tC (aH.ok lf) (tC (aQ.ok lf) tN)))) aoN fun x=>by kernel_rfl
end jE
namespace aW
def f(lf:Nat)(a0:ByteArray)(a1:ByteArray):Option (Bool×Unit) :=
 bd (jE.f lf a0 a1) fun r1 =>
 some ((decide (r1.1 < 0)),())
def E(lf:Nat):Entry:=⟨[.str,.str],[.bool],fun x=>f lf x.1 x.2.1⟩
theorem ok(lf:Nat):Ok 74 (E lf):=okT (an:=(annsL [])) (lf:=lf) (tC (jE.ok lf) tN) aoN fun x=>by kernel_rfl
end aW
namespace dY
def f(lf:Nat)(a0:ByteArray)(a1:Int):Option (Bool×Unit) :=
 bd (aF.f lf a0) fun r1 =>
 some ((decide (r1.1≤a1)),())
def E(lf:Nat):Entry:=⟨[.str,(.int .i64)],[.bool],fun x=>f lf x.1 x.2.1⟩
theorem ok(lf:Nat):Ok 194 (E lf):=okT (an:=(annsL [])) (lf:=lf) (tC (aF.ok lf) tN) aoN fun x=>by kernel_rfl
end dY
namespace bU
def anns:FuncId→FA:=annsL [(195,⟨annOf [(0,⟨kx 30 [0,3,4],[],[]⟩,⟨kx 30 [0,2,3],[],[]⟩)],none,[]⟩)]
def r0{ρ:Type}(lf:Nat)(v0:Int)(v1:ByteArray)(v2:Int)(K:ByteArray→Int→Option ρ)(E0:ByteArray→Option ρ):Option ρ :=
 br (v2 != 0) (
 bd (iRem v2 10) fun r1 =>
 bd (iRem v2 10) fun r2 =>
 bd (sCut (⟨#[48,49,50,51,52,53,54,55,56,57]⟩:ByteArray) (some (if(i64.wrap (0-r2)) > r1 then(i64.wrap (0-r2))else r1)) (some (i64.wrap ((if(i64.wrap (0-r2)) > r1 then(i64.wrap (0-r2))else r1)+1)))) fun r3 =>
 bd (sCat r3 v1) fun r4 =>
 bd (iQuo .i64 v2 10) fun r5 =>
 K r4 r5) (
 E0 v1)
def l0(lf:Nat)(v0:Int):Nat→ByteArray→Int→Option ((ByteArray×Unit)×Unit)
 | 0,_,_=>none
 | n+1,v1,v2=>r0 lf v0 v1 v2 (l0 lf v0 n) (fun w0=>some ((w0,()),()))
def sh0:ShS:=⟨[.s (.int .i64),.a 2,.s .str,.s (.int .i64),.a 25],[]⟩
def S0(p:Int×ByteArray×Int×Unit):St:=sh0.b p
def xh0:ShS:=⟨[.s (.int .i64),.a 2,.s .str,.a 26],[]⟩
def o0(v0:Int)(y:(ByteArray×Unit)×Unit):Alt:=.one (.exit 0) (xh0.b (v0,y.1.1,()))
def tb(lf:Nat):List (FuncId×Entry):=[]
def abm(lf:Nat):List (Nat×(St→Option LTE)):=[(0,sumE sh0 fun(p:Int×ByteArray×Int×Unit)=>⟨(ByteArray×Unit)×Unit,l0 lf p.1 (lf+40) p.2.1 p.2.2.1,o0 p.1⟩)]
def ls(lf:Nat):List (Nat×FuncId×Sums):=[(13,195,sumsL (abm lf))]
def it0{ρ:Type}(lf n:Nat)(st:St)(k:KE ρ):Option ρ:=itG anns (ls lf) (tb lf) lf 13 195 0 0 (sumsL (abm lf)) n st k
theorem t0{ρ:Type}(lf n:Nat)(v0:Int)(v1:ByteArray)(v2:Int)(k:KE ρ):it0 lf (n+1) (S0 (v0,v1,v2,())) k=r0 lf v0 v1 v2 (fun x0 x1=>it0 lf n (S0 (v0,x0,x1,())) k) (fun w0=>k (.exit 0) (xh0.b (v0,w0,()))):=by kernel_rfl
theorem u0{ρ:Type}(lf:Nat)(v0:Int)(k:KE ρ):∀ (n:Nat) (v1:ByteArray) (v2:Int),it0 lf n (S0 (v0,v1,v2,())) k=bd (l0 lf v0 n v1 v2) fun y=>altK k (o0 v0 y)
 | 0,_,_=>by rw[l0,bd_none];rfl
 | n+1,v1,v2=>by
  rw[t0];simp only[l0,r0,u0 lf v0 k n,bd_br,bd_bd,bd_some',bd_none,br_t,br_f,o0,altK]
theorem sl(lf:Nat):SL anns (ls lf) (tb lf) lf (ls lf):=slC (laC (fun _=>by kernel_rfl) (fun _ (x:Int×ByteArray×Int×Unit) k=>dK (u0 lf x.1 k (lf+40) x.2.1 x.2.2.1)) laN) slN
def f(lf:Nat)(a0:Int):Option (ByteArray×Unit) :=
 br (a0==0) (
 some ((⟨#[48]⟩:ByteArray),())) (
 bd (l0 lf a0 (lf+40) (⟨#[]⟩:ByteArray) a0) fun z6 =>
 br (decide (a0 < 0)) (
 bd (sCat (⟨#[45]⟩:ByteArray) z6.1.1) fun r7 =>
 some (r7,())) (
 some (z6.1.1,())))
def E(lf:Nat):Entry:=⟨[(.int .i64)],[.str],fun x=>f lf x.1⟩
theorem ok(lf:Nat):Ok 195 (E lf):=okL tN (aoC aoN) (sl lf) fun x=>by kernel_rfl
end bU
end
end Go.Q
namespace Go.Q
open Go.IntKind (i64)
open Go Go.RowKit
open Go.Rx (br bd sIdx sCat sCut iQuo iRem iShl)
noncomputable section
namespace bn
def anns:FuncId→FA:=annsL [(196,⟨annOf [(0,⟨kx 28 [0,3,4],[],[]⟩,⟨kx 28 [0,2,3],[],[]⟩)],none,[]⟩)]
def r0{ρ:Type}(lf:Nat)(v0:ByteArray)(v1 v2:Int)(K:Int→Int→Option ρ)(E0:Int→Option ρ):Option ρ :=
 br (decide (v2 < ((v0.size:Nat):Int))) (
 bd (sIdx v0 v2) fun r1 =>
 br (((r1.toNat:Nat):Int) != 45) (
 bd (sIdx v0 v2) fun r2 =>
 K (i64.wrap ((i64.wrap (v1*10))+(i64.wrap (IntKind.u8.wrap (((r2.toNat:Nat):Int)-48))))) (i64.wrap (v2+1))) (
 K v1 (i64.wrap (v2+1)))) (
 E0 v1)
def l0(lf:Nat)(v0:ByteArray):Nat→Int→Int→Option ((Int×Unit)×Unit)
 | 0,_,_=>none
 | n+1,v1,v2=>r0 lf v0 v1 v2 (l0 lf v0 n) (fun w0=>some ((w0,()),()))
def sh0:ShS:=⟨[.s .str,.a 2,.s (.int .i64),.s (.int .i64),.a 23],[]⟩
def S0(p:ByteArray×Int×Int×Unit):St:=sh0.b p
def xh0:ShS:=⟨[.s .str,.a 2,.s (.int .i64),.a 24],[]⟩
def o0(v0:ByteArray)(y:(Int×Unit)×Unit):Alt:=.one (.exit 0) (xh0.b (v0,y.1.1,()))
def tb(lf:Nat):List (FuncId×Entry):=[(99,aA.E lf)]
def abn(lf:Nat):List (Nat×(St→Option LTE)):=[(0,sumE sh0 fun(p:ByteArray×Int×Int×Unit)=>⟨(Int×Unit)×Unit,l0 lf p.1 (lf+40) p.2.1 p.2.2.1,o0 p.1⟩)]
def ls(lf:Nat):List (Nat×FuncId×Sums):=[(13,196,sumsL (abn lf))]
def it0{ρ:Type}(lf n:Nat)(st:St)(k:KE ρ):Option ρ:=itG anns (ls lf) (tb lf) lf 13 196 0 0 (sumsL (abn lf)) n st k
theorem t0{ρ:Type}(lf n:Nat)(v0:ByteArray)(v1 v2:Int)(k:KE ρ):it0 lf (n+1) (S0 (v0,v1,v2,())) k=r0 lf v0 v1 v2 (fun x0 x1=>it0 lf n (S0 (v0,x0,x1,())) k) (fun w0=>k (.exit 0) (xh0.b (v0,w0,()))):=by kernel_rfl
theorem u0{ρ:Type}(lf:Nat)(v0:ByteArray)(k:KE ρ):∀ (n:Nat) (v1 v2:Int),it0 lf n (S0 (v0,v1,v2,())) k=bd (l0 lf v0 n v1 v2) fun y=>altK k (o0 v0 y)
 | 0,_,_=>by rw[l0,bd_none];rfl
 | n+1,v1,v2=>by
  rw[t0];simp only[l0,r0,u0 lf v0 k n,bd_br,bd_bd,bd_some',bd_none,br_t,br_f,o0,altK]
theorem sl(lf:Nat):SL anns (ls lf) (tb lf) lf (ls lf):=slC (laC (fun _=>by kernel_rfl) (fun _ (x:ByteArray×Int×Int×Unit) k=>dK (u0 lf x.1 k (lf+40) x.2.1 x.2.2.1)) laN) slN
def f(lf:Nat)(a0:ByteArray):Option (Int×Unit) :=
 bd (l0 lf a0 (lf+40) 0 0) fun z3 =>
 bd (aA.f lf a0) fun r4 =>
 br r4.1 (
 some ((i64.wrap (0-z3.1.1)),())) (
 some (z3.1.1,()))
def E(lf:Nat):Entry:=⟨[.str],[(.int .i64)],fun x=>f lf x.1⟩
theorem ok(lf:Nat):Ok 196 (E lf):=okL (tC (aA.ok lf) tN) (aoC aoN) (sl lf) fun x=>by kernel_rfl
end bn
namespace aU
def anns:FuncId→FA:=annsL [(197,⟨annOf [(0,⟨kx 34 [0,5,6],[⟨.tmp 5,(.int .u8),5⟩],[]⟩,⟨kx 34 [4,5],[⟨.tmp 5,(.int .u8),5⟩],[]⟩)],none,[]⟩)]
def r0{ρ:Type}(lf:Nat)(v0 v2:List Int)(v1:Int)(v3:List Int)(K:Int→(List Int)→Option ρ)(E0:(List Int)→Option ρ):Option ρ :=
 br (decide (v1≥0)) (
 bd (idxL v0 v1) fun y3 =>
 bd (apL true 1 v3 [(IntKind.u8.wrap (i64.wrap (48+y3)))]) fun q4 =>
 K (i64.wrap (v1-1)) q4) (
 E0 v3)
def l0(lf:Nat)(v0 v2:List Int):Nat→Int→(List Int)→Option (((List Int)×Unit)×Unit)
 | 0,_,_=>none
 | n+1,v1,v3=>r0 lf v0 v2 v1 v3 (l0 lf v0 v2 n) (fun w0=>some ((w0,()),()))
def sh0:ShS:=⟨[.s (.sl (.int .i64)),.a 4,.s (.row 2),.s (.int .i64),.a 27],[.row (.int .u8) 5 false,.gone,.row (.int .u8) 5 false]⟩
def S0(p:(List Int)×Int×(List Int)×(List Int)×Unit):St:=sh0.b p
def xh0:ShS:=⟨[.a 5,.s (.row 2),.a 28],[.row (.int .u8) 5 false,.gone,.row (.int .u8) 5 false]⟩
def o0(v0 v2:List Int)(y:((List Int)×Unit)×Unit):Alt:=.one (.exit 0) (xh0.b (v2,y.1.1,()))
def r1{ρ:Type}(lf:Nat)(v0:List Int)(v1:Int)(v2:List Int)(K:Int→(List Int)→Option ρ)(E0:(List Int)→Option ρ):Option ρ :=
 br (decide (v1≥0)) (
 bd (idxL v0 v1) fun y7 =>
 bd (apL true 1 v2 [(IntKind.u8.wrap (i64.wrap (48+y7)))]) fun q8 =>
 K (i64.wrap (v1-1)) q8) (
 E0 v2)
def l1(lf:Nat)(v0:List Int):Nat→Int→(List Int)→Option (((List Int)×Unit)×Unit)
 | 0,_,_=>none
 | n+1,v1,v2=>r1 lf v0 v1 v2 (l1 lf v0 n) (fun w0=>some ((w0,()),()))
def sh1:ShS:=⟨[.s (.sl (.int .i64)),.a 4,.s (.row 0),.s (.int .i64),.a 27],[.row (.int .u8) 5 false]⟩
def S1(p:(List Int)×Int×(List Int)×Unit):St:=sh1.b p
def xh1:ShS:=⟨[.a 5,.s (.row 0),.a 28],[.row (.int .u8) 5 false]⟩
def o1(v0:List Int)(y:((List Int)×Unit)×Unit):Alt:=.one (.exit 0) (xh1.b (y.1.1,()))
def tb(lf:Nat):List (FuncId×Entry):=[(192,aH.E lf)]
def yY(lf:Nat):List (Nat×(St→Option LTE)):=[(0,sumE sh0 fun(p:(List Int)×Int×(List Int)×(List Int)×Unit)=>⟨((List Int)×Unit)×Unit,l0 lf p.1 p.2.2.1 (lf+40) p.2.1 p.2.2.2.1,o0 p.1 p.2.2.1⟩),
 (0,sumE sh1 fun(p:(List Int)×Int×(List Int)×Unit)=>⟨((List Int)×Unit)×Unit,l1 lf p.1 (lf+40) p.2.1 p.2.2.1,o1 p.1⟩)]
def ls(lf:Nat):List (Nat×FuncId×Sums):=[(13,197,sumsL (yY lf))]
def it0{ρ:Type}(lf n:Nat)(st:St)(k:KE ρ):Option ρ:=itG anns (ls lf) (tb lf) lf 13 197 0 2 (sumsL (yY lf)) n st k
theorem t0{ρ:Type}(lf n:Nat)(v0:List Int)(v1:Int)(v2 v3:List Int)(k:KE ρ):it0 lf (n+1) (S0 (v0,v1,v2,v3,())) k=r0 lf v0 v2 v1 v3 (fun x0 x1=>it0 lf n (S0 (v0,x0,v2,x1,())) k) (fun w0=>k (.exit 0) (xh0.b (v2,w0,()))):=by kernel_rfl
theorem u0{ρ:Type}(lf:Nat)(v0 v2:List Int)(k:KE ρ):∀ (n:Nat) (v1:Int) (v3:List Int),it0 lf n (S0 (v0,v1,v2,v3,())) k=bd (l0 lf v0 v2 n v1 v3) fun y=>altK k (o0 v0 v2 y)
 | 0,_,_=>by rw[l0,bd_none];rfl
 | n+1,v1,v3=>by
  rw[t0];simp only[l0,r0,u0 lf v0 v2 k n,bd_br,bd_bd,bd_some',bd_none,br_t,br_f,o0,altK]
def it1{ρ:Type}(lf n:Nat)(st:St)(k:KE ρ):Option ρ:=itG anns (ls lf) (tb lf) lf 13 197 0 0 (sumsL (yY lf)) n st k
theorem t1{ρ:Type}(lf n:Nat)(v0:List Int)(v1:Int)(v2:List Int)(k:KE ρ):it1 lf (n+1) (S1 (v0,v1,v2,())) k=r1 lf v0 v1 v2 (fun x0 x1=>it1 lf n (S1 (v0,x0,x1,())) k) (fun w0=>k (.exit 0) (xh1.b (w0,()))):=by kernel_rfl
theorem u1{ρ:Type}(lf:Nat)(v0:List Int)(k:KE ρ):∀ (n:Nat) (v1:Int) (v2:List Int),it1 lf n (S1 (v0,v1,v2,())) k=bd (l1 lf v0 n v1 v2) fun y=>altK k (o1 v0 y)
 | 0,_,_=>by rw[l1,bd_none];rfl
 | n+1,v1,v2=>by
  rw[t1];simp only[l1,r1,u1 lf v0 k n,bd_br,bd_bd,bd_some',bd_none,br_t,br_f,o1,altK]
theorem sl(lf:Nat):SL anns (ls lf) (tb lf) lf (ls lf):=slC (laC (fun _=>by kernel_rfl) (fun _ (x:(List Int)×Int×(List Int)×(List Int)×Unit) k=>dK (u0 lf x.1 x.2.2.1 k (lf+40) x.2.1 x.2.2.2.1)) (laC (fun _=>by kernel_rfl) (fun _ (x:(List Int)×Int×(List Int)×Unit) k=>dK (u1 lf x.1 k (lf+40) x.2.1 x.2.2.1)) laN)) slN
def f(lf:Nat)(a0:List Int)(a1:Bool):Option (ByteArray×Unit) :=
 bd (aH.f lf a0) fun r1 =>
 br (((r1.1.length:Nat):Int)==0) (
 some ((⟨#[48]⟩:ByteArray),())) (
 br a1 (
 bd (apL true 1 [] [45]) fun q2 =>
 bd (l0 lf r1.1 [45] (lf+40) (i64.wrap (((r1.1.length:Nat):Int)-1)) q2) fun z5 =>
 bd (if true=true then some (bytesS z5.1.1)else none) fun s6 =>
 some (s6,())) (
 bd (l1 lf r1.1 (lf+40) (i64.wrap (((r1.1.length:Nat):Int)-1)) []) fun z9 =>
 bd (if true=true then some (bytesS z9.1.1)else none) fun s10 =>
 some (s10,())))
def E(lf:Nat):Entry:=⟨[(.sl (.int .i64)),.bool],[.str],fun x=>f lf x.1 x.2.1⟩
theorem ok(lf:Nat):Ok 197 (E lf):=okL (tC (aH.ok lf) tN) (aoC aoN) (sl lf) fun x=>by kernel_rfl
end aU
namespace fC
def f(lf:Nat)(a0:List Int)(a1:Int):Option (Int×Unit) :=
 br (decide (a1 < ((a0.length:Nat):Int))) (
 bd (idxL a0 a1) fun y1 =>
 some (y1,())) (
 some (0,()))
def E(lf:Nat):Entry:=⟨[(.sl (.int .i64)),(.int .i64)],[(.int .i64)],fun x=>f lf x.1 x.2.1⟩
theorem ok(lf:Nat):Ok 239 (E lf):=okT (an:=(annsL [])) (lf:=lf) tN aoN fun x=>by kernel_rfl
end fC
namespace dI
def anns:FuncId→FA:=annsL [(198,⟨annOf [(0,⟨kx 36 [0,1,5,6,7],[⟨.tmp 5,(.int .i64),3⟩],[]⟩,⟨kx 36 [4,5],[⟨.tmp 5,(.int .i64),3⟩],[]⟩)],none,[]⟩)]
def r0{ρ:Type}(lf:Nat)(v0 v1:List Int)(v2 v3:Int)(v4:List Int)(K:Int→Int→(List Int)→Option ρ)(E0:(List Int)→Option ρ):Option ρ :=
 br (decide (v3 < (i64.wrap ((if((v1.length:Nat):Int) >((v0.length:Nat):Int)then((v1.length:Nat):Int)else((v0.length:Nat):Int))+1)))) (
 bd (fC.f lf v0 v3) fun r1 =>
 bd (fC.f lf v1 v3) fun r2 =>
 bd (iRem (i64.wrap (v2+(i64.wrap (r1.1+r2.1)))) 10) fun r3 =>
 bd (apL true 8 v4 [r3]) fun q4 =>
 bd (iQuo .i64 (i64.wrap (v2+(i64.wrap (r1.1+r2.1)))) 10) fun r5 =>
 K r5 (i64.wrap (v3+1)) q4) (
 E0 v4)
def l0(lf:Nat)(v0 v1:List Int):Nat→Int→Int→(List Int)→Option (((List Int)×Unit)×Unit)
 | 0,_,_,_=>none
 | n+1,v2,v3,v4=>r0 lf v0 v1 v2 v3 v4 (l0 lf v0 v1 n) (fun w0=>some ((w0,()),()))
def sh0:ShS:=⟨[.s (.sl (.int .i64)),.s (.sl (.int .i64)),.a 3,.s (.row 0),.s (.int .i64),.s (.int .i64),.a 28],[.row (.int .i64) 3 false]⟩
def S0(p:(List Int)×(List Int)×Int×Int×(List Int)×Unit):St:=sh0.b p
def xh0:ShS:=⟨[.a 5,.s (.row 0),.a 30],[.row (.int .i64) 3 false]⟩
def o0(v0 v1:List Int)(y:((List Int)×Unit)×Unit):Alt:=.one (.exit 0) (xh0.b (y.1.1,()))
def tb(lf:Nat):List (FuncId×Entry):=[(192,aH.E lf),(239,fC.E lf)]
def abp(lf:Nat):List (Nat×(St→Option LTE)):=[(0,sumE sh0 fun(p:(List Int)×(List Int)×Int×Int×(List Int)×Unit)=>⟨((List Int)×Unit)×Unit,l0 lf p.1 p.2.1 (lf+40) p.2.2.1 p.2.2.2.1 p.2.2.2.2.1,o0 p.1 p.2.1⟩)]
def ls(lf:Nat):List (Nat×FuncId×Sums):=[(13,198,sumsL (abp lf))]
def it0{ρ:Type}(lf n:Nat)(st:St)(k:KE ρ):Option ρ:=itG anns (ls lf) (tb lf) lf 13 198 0 0 (sumsL (abp lf)) n st k
theorem t0{ρ:Type}(lf n:Nat)(v0 v1:List Int)(v2 v3:Int)(v4:List Int)(k:KE ρ):it0 lf (n+1) (S0 (v0,v1,v2,v3,v4,())) k=r0 lf v0 v1 v2 v3 v4 (fun x0 x1 x2=>it0 lf n (S0 (v0,v1,x0,x1,x2,())) k) (fun w0=>k (.exit 0) (xh0.b (w0,()))):=by kernel_rfl
theorem u0{ρ:Type}(lf:Nat)(v0 v1:List Int)(k:KE ρ):∀ (n:Nat) (v2 v3:Int) (v4:List Int),it0 lf n (S0 (v0,v1,v2,v3,v4,())) k=bd (l0 lf v0 v1 n v2 v3 v4) fun y=>altK k (o0 v0 v1 y)
 | 0,_,_,_=>by rw[l0,bd_none];rfl
 | n+1,v2,v3,v4=>by
  rw[t0];simp only[l0,r0,u0 lf v0 v1 k n,bd_br,bd_bd,bd_some',bd_none,br_t,br_f,o0,altK]
theorem sl(lf:Nat):SL anns (ls lf) (tb lf) lf (ls lf):=slC (laC (fun _=>by kernel_rfl) (fun _ (x:(List Int)×(List Int)×Int×Int×(List Int)×Unit) k=>dK (u0 lf x.1 x.2.1 k (lf+40) x.2.2.1 x.2.2.2.1 x.2.2.2.2.1)) laN) slN
def f(lf:Nat)(a0:List Int)(a1:List Int):Option ((List Int)×Unit) :=
 bd (l0 lf a0 a1 (lf+40) 0 0 []) fun z6 =>
 bd (aH.f lf z6.1.1) fun r7 =>
 some (r7.1,())
def E(lf:Nat):Entry:=⟨[(.sl (.int .i64)),(.sl (.int .i64))],[(.sl (.int .i64))],fun x=>f lf x.1 x.2.1⟩
theorem ok(lf:Nat):Ok 198 (E lf):=okL (tC (aH.ok lf) (tC (fC.ok lf) tN)) (aoC aoN) (sl lf) fun x=>by kernel_rfl
end dI
namespace bI
def anns:FuncId→FA:=annsL [(199,⟨annOf [(0,⟨kx 35 [0,1,5,6,7],[⟨.tmp 5,(.int .i64),3⟩],[]⟩,⟨kx 35 [4,5],[⟨.tmp 5,(.int .i64),3⟩],[]⟩)],none,[]⟩)]
def r0{ρ:Type}(lf:Nat)(v0 v1:List Int)(v2 v3:Int)(v4:List Int)(K:Int→Int→(List Int)→Option ρ)(E0:(List Int)→Option ρ):Option ρ :=
 br (decide (v3 < ((v0.length:Nat):Int))) (
 bd (idxL v0 v3) fun y1 =>
 bd (fC.f lf v1 v3) fun r2 =>
 br (decide ((i64.wrap ((i64.wrap (y1-r2.1))-v2)) < 0)) (
 bd (apL true 8 v4 [(i64.wrap ((i64.wrap ((i64.wrap (y1-r2.1))-v2))+10))]) fun q3 =>
 K 1 (i64.wrap (v3+1)) q3) (
 bd (apL true 8 v4 [(i64.wrap ((i64.wrap (y1-r2.1))-v2))]) fun q4 =>
 K 0 (i64.wrap (v3+1)) q4)) (
 E0 v4)
def l0(lf:Nat)(v0 v1:List Int):Nat→Int→Int→(List Int)→Option (((List Int)×Unit)×Unit)
 | 0,_,_,_=>none
 | n+1,v2,v3,v4=>r0 lf v0 v1 v2 v3 v4 (l0 lf v0 v1 n) (fun w0=>some ((w0,()),()))
def sh0:ShS:=⟨[.s (.sl (.int .i64)),.s (.sl (.int .i64)),.a 3,.s (.row 0),.s (.int .i64),.s (.int .i64),.a 27],[.row (.int .i64) 3 false]⟩
def S0(p:(List Int)×(List Int)×Int×Int×(List Int)×Unit):St:=sh0.b p
def xh0:ShS:=⟨[.a 5,.s (.row 0),.a 29],[.row (.int .i64) 3 false]⟩
def o0(v0 v1:List Int)(y:((List Int)×Unit)×Unit):Alt:=.one (.exit 0) (xh0.b (y.1.1,()))
def tb(lf:Nat):List (FuncId×Entry):=[(192,aH.E lf),(239,fC.E lf)]
def abq(lf:Nat):List (Nat×(St→Option LTE)):=[(0,sumE sh0 fun(p:(List Int)×(List Int)×Int×Int×(List Int)×Unit)=>⟨((List Int)×Unit)×Unit,l0 lf p.1 p.2.1 (lf+40) p.2.2.1 p.2.2.2.1 p.2.2.2.2.1,o0 p.1 p.2.1⟩)]
def ls(lf:Nat):List (Nat×FuncId×Sums):=[(13,199,sumsL (abq lf))]
def it0{ρ:Type}(lf n:Nat)(st:St)(k:KE ρ):Option ρ:=itG anns (ls lf) (tb lf) lf 13 199 0 0 (sumsL (abq lf)) n st k
theorem t0{ρ:Type}(lf n:Nat)(v0 v1:List Int)(v2 v3:Int)(v4:List Int)(k:KE ρ):it0 lf (n+1) (S0 (v0,v1,v2,v3,v4,())) k=r0 lf v0 v1 v2 v3 v4 (fun x0 x1 x2=>it0 lf n (S0 (v0,v1,x0,x1,x2,())) k) (fun w0=>k (.exit 0) (xh0.b (w0,()))):=by kernel_rfl
theorem u0{ρ:Type}(lf:Nat)(v0 v1:List Int)(k:KE ρ):∀ (n:Nat) (v2 v3:Int) (v4:List Int),it0 lf n (S0 (v0,v1,v2,v3,v4,())) k=bd (l0 lf v0 v1 n v2 v3 v4) fun y=>altK k (o0 v0 v1 y)
 | 0,_,_,_=>by rw[l0,bd_none];rfl
 | n+1,v2,v3,v4=>by
  rw[t0];simp only[l0,r0,u0 lf v0 v1 k n,bd_br,bd_bd,bd_some',bd_none,br_t,br_f,o0,altK]
theorem sl(lf:Nat):SL anns (ls lf) (tb lf) lf (ls lf):=slC (laC (fun _=>by kernel_rfl) (fun _ (x:(List Int)×(List Int)×Int×Int×(List Int)×Unit) k=>dK (u0 lf x.1 x.2.1 k (lf+40) x.2.2.1 x.2.2.2.1 x.2.2.2.2.1)) laN) slN
def f(lf:Nat)(a0:List Int)(a1:List Int):Option ((List Int)×Unit) :=
 bd (l0 lf a0 a1 (lf+40) 0 0 []) fun z5 =>
 bd (aH.f lf z5.1.1) fun r6 =>
 some (r6.1,())
def E(lf:Nat):Entry:=⟨[(.sl (.int .i64)),(.sl (.int .i64))],[(.sl (.int .i64))],fun x=>f lf x.1 x.2.1⟩
theorem ok(lf:Nat):Ok 199 (E lf):=okL (tC (aH.ok lf) (tC (fC.ok lf) tN)) (aoC aoN) (sl lf) fun x=>by kernel_rfl
end bI
namespace gI
def f(lf:Nat)(a0:ByteArray)(a1:ByteArray):Option (ByteArray×Unit) :=
 bd (dY.f lf a0 17) fun r1 =>
 br r1.1 (
 bd (dY.f lf a1 17) fun r2 =>
 br r2.1 (
 bd (bn.f lf a0) fun r3 =>
 bd (bn.f lf a1) fun r4 =>
 bd (bU.f lf (i64.wrap (r3.1+r4.1))) fun r5 =>
 some (r5.1,())) (
 bd (aQ.f lf a0) fun r6 =>
 bd (aQ.f lf a1) fun r7 =>
 bd (aA.f lf a0) fun r8 =>
 bd (aA.f lf a1) fun r9 =>
 br (r8.1==r9.1) (
 bd (dI.f lf r6.1 r7.1) fun r10 =>
 bd (aA.f lf a0) fun r11 =>
 bd (aU.f lf r10.1 r11.1) fun r12 =>
 some (r12.1,())) (
 bd (aH.f lf r6.1) fun r13 =>
 bd (aH.f lf r7.1) fun r14 =>
 bd (bP.f lf r13.1 r14.1) fun r15 =>
 br (decide (r15.1≥0)) (
 bd (bI.f lf r6.1 r7.1) fun r16 =>
 bd (aA.f lf a0) fun r17 =>
 bd (aU.f lf r16.1 r17.1) fun r18 =>
 some (r18.1,())) (
 bd (bI.f lf r7.1 r6.1) fun r19 =>
 bd (aA.f lf a1) fun r20 =>
 bd (aU.f lf r19.1 r20.1) fun r21 =>
 some (r21.1,()))))) (
 bd (aQ.f lf a0) fun r22 =>
 bd (aQ.f lf a1) fun r23 =>
 bd (aA.f lf a0) fun r24 =>
 bd (aA.f lf a1) fun r25 =>
 br (r24.1==r25.1) (
 bd (dI.f lf r22.1 r23.1) fun r26 =>
 bd (aA.f lf a0) fun r27 =>
 bd (aU.f lf r26.1 r27.1) fun r28 =>
 some (r28.1,())) (
 bd (aH.f lf r22.1) fun r29 =>
 bd (aH.f lf r23.1) fun r30 =>
 bd (bP.f lf r29.1 r30.1) fun r31 =>
 br (decide (r31.1≥0)) (
 bd (bI.f lf r22.1 r23.1) fun r32 =>
 bd (aA.f lf a0) fun r33 =>
 bd (aU.f lf r32.1 r33.1) fun r34 =>
 some (r34.1,())) (
 bd (bI.f lf r23.1 r22.1) fun r35 =>
 bd (aA.f lf a1) fun r36 =>
 bd (aU.f lf r35.1 r36.1) fun r37 =>
 some (r37.1,()))))
def E(lf:Nat):Entry:=⟨[.str,.str],[.str],fun x=>f lf x.1 x.2.1⟩
theorem ok(lf:Nat):Ok 143 (E lf):=okT (an:=(annsL [])) (lf:=lf) (tC (aA.ok lf) (tC (bP.ok lf) (tC (aH.ok lf) (tC (aQ.ok lf) (tC (dY.ok lf) (tC (bU.ok lf) (tC (bn.ok lf) (tC (aU.ok lf) (tC (dI.ok lf) (tC (bI.ok lf) tN)))))))))) aoN fun x=>by kernel_rfl
end gI
namespace cO
def f(lf:Nat)(a0:ByteArray):Option (ByteArray×Unit) :=
 br (a0.toList==(⟨#[48]⟩:ByteArray).toList) (
 some (a0,())) (
 bd (aA.f lf a0) fun r1 =>
 br r1.1 (
 bd (sCut a0 (some 1) none) fun r2 =>
 some (r2,())) (
 bd (sCat (⟨#[45]⟩:ByteArray) a0) fun r3 =>
 some (r3,())))
def E(lf:Nat):Entry:=⟨[.str],[.str],fun x=>f lf x.1⟩
theorem ok(lf:Nat):Ok 146 (E lf):=okT (an:=(annsL [])) (lf:=lf) (tC (aA.ok lf) tN) aoN fun x=>by kernel_rfl
end cO
namespace cZ
def f(lf:Nat)(a0:ByteArray)(a1:ByteArray):Option (ByteArray×Unit) :=
 bd (cO.f lf a1) fun r1 =>
 bd (gI.f lf a0 r1.1) fun r2 =>
 some (r2.1,())
def E(lf:Nat):Entry:=⟨[.str,.str],[.str],fun x=>f lf x.1 x.2.1⟩
theorem ok(lf:Nat):Ok 84 (E lf):=okT (an:=(annsL [])) (lf:=lf) (tC (gI.ok lf) (tC (cO.ok lf) tN)) aoN fun x=>by kernel_rfl
end cZ
end
end Go.Q
