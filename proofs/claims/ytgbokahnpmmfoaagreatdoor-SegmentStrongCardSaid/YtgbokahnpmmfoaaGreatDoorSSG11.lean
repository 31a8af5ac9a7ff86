import Derived.Test.YtgbokahnpmmfoaaGreatDoorProg
import Derived.KernelRfl
import Derived.Test.YtgbokahnpmmfoaaGreatDoorSSE3
import Derived.Test.YtgbokahnpmmfoaaGreatDoorSSG10
import Derived.Test.YtgbokahnpmmfoaaGreatDoorSSG4
import Derived.Test.YtgbokahnpmmfoaaGreatDoorSSG6
import Derived.Test.YtgbokahnpmmfoaaGreatDoorSSG7
import Derived.Test.YtgbokahnpmmfoaaGreatDoorSSG8
import Derived.Test.YtgbokahnpmmfoaaGreatDoorSSG9
set_option linter.unusedVariables false
set_option linter.unusedSimpArgs false
set_option linter.unusedSectionVars false
set_option maxRecDepth 100000
namespace Go.Q
open Go.IntKind (i64)
open Go Go.RowKit
open Go.Rx (br bd sIdx sCat sCut iQuo iRem)
noncomputable section
namespace aK
def anns:FuncId→FA:=annsL [(5,⟨annOf [(0,⟨kx 119 [0,1,2,8,9,73,74],[],[0,2]⟩,⟨kx 119 [6],[],[0,2]⟩)],none,[]⟩)]
def r0{ρ:Type}(lf:Nat)(v0:List (Int×(Int×(TV×Unit))))(v1 v2:Int)(v3:List (Int×(Int×(TV×Unit))))(v4:Int)(v6:Bool)(v7 v8:ByteArray)(v9:Bool)(v10 v11:ByteArray)(v5:Int)(K:Int→Option ρ)(E0:Option ρ)(E1:Option ρ):Option ρ :=
 br (decide (v5 < v4)) (
 bd (mD.f lf v0 v1 v5) fun r13 =>
 bd (mD.f lf v3 v1 v5) fun r14 =>
 br (r13.2.1 != 0) (
 E0) (
 br (r14.2.1 != 0) (
 E0) (
 br (v5 != v2) (
 bd (some (!(((r13.1.1.1==r14.1.1.1)&&((r13.1.1.2.1==r14.1.1.2.1)&&((r13.1.1.2.2.1==r14.1.1.2.2.1)&&true)))&&(((r13.1.2.1.1==r14.1.2.1.1)&&((r13.1.2.1.2.1==r14.1.2.1.2.1)&&((r13.1.2.1.2.2.1==r14.1.2.1.2.2.1)&&true)))&&true)))) fun r15 =>
 br r15 (
 E0) (
 br (v5==v2) (
 bd (some (!(((r14.1.1.1==v6)&&((r14.1.1.2.1==v7)&&((r14.1.1.2.2.1==v8)&&true)))&&(((r14.1.2.1.1==v9)&&((r14.1.2.1.2.1==v10)&&((r14.1.2.1.2.2.1==v11)&&true)))&&true)))) fun r16 =>
 br r16 (
 E0) (
 K (i64.wrap (v5+1)))) (
 K (i64.wrap (v5+1))))) (
 br (v5==v2) (
 bd (some (!(((r14.1.1.1==v6)&&((r14.1.1.2.1==v7)&&((r14.1.1.2.2.1==v8)&&true)))&&(((r14.1.2.1.1==v9)&&((r14.1.2.1.2.1==v10)&&((r14.1.2.1.2.2.1==v11)&&true)))&&true)))) fun r17 =>
 br r17 (
 E0) (
 K (i64.wrap (v5+1)))) (
 K (i64.wrap (v5+1))))))) (
 E1)
def l0(lf:Nat)(v0:List (Int×(Int×(TV×Unit))))(v1 v2:Int)(v3:List (Int×(Int×(TV×Unit))))(v4:Int)(v6:Bool)(v7 v8:ByteArray)(v9:Bool)(v10 v11:ByteArray):Nat→Int→Option (Bool×(Unit)×(Unit)×Unit)
 | 0,_=>none
 | n+1,v5=>r0 lf v0 v1 v2 v3 v4 v6 v7 v8 v9 v10 v11 v5 (l0 lf v0 v1 v2 v3 v4 v6 v7 v8 v9 v10 v11 n) (some (true,(()),((()),()))) (some (false,(()),((()),())))
def sh0:ShS:=⟨[.s (.sl (.pair (.int .i64) (.pair (.int .i64) (.pair yV .unit)))),.s (.int .i64),.s (.int .i64),.a 5,.s (.ptr 1 0),.s (.sl (.pair (.int .i64) (.pair (.int .i64) (.pair yV .unit)))),.a 63,.s (.int .i64),.s (.int .i64),.a 44],[.gone,.cells [.s .bool,.s .str,.s .str,.s .bool,.s .str,.s .str] 29,.gone]⟩
def S0(p:(List (Int×(Int×(TV×Unit))))×Int×Int×(List (Int×(Int×(TV×Unit))))×Int×Int×Bool×ByteArray×ByteArray×Bool×ByteArray×ByteArray×Unit):St:=sh0.b p
def xh0:ShS:=⟨[.a 6,.s .bool,.a 112],[.gone,.cells [.s .bool,.s .str,.s .str,.s .bool,.s .str,.s .str] 29,.gone]⟩
def xh1:ShS:=⟨[.a 119],[.gone,.cells [.s .bool,.s .str,.s .str,.s .bool,.s .str,.s .str] 29,.gone]⟩
def o0(v0:List (Int×(Int×(TV×Unit))))(v1 v2:Int)(v3:List (Int×(Int×(TV×Unit))))(v4:Int)(v6:Bool)(v7 v8:ByteArray)(v9:Bool)(v10 v11:ByteArray)(y:Bool×(Unit)×(Unit)×Unit):Alt:=.two y.1 (.one .ret (xh0.b (false,v6,v7,v8,v9,v10,v11,()))) (.one (.exit 0) (xh1.b (v6,v7,v8,v9,v10,v11,())))
def tb(lf:Nat):List (FuncId×Entry):=[(10,dJ.E lf),(12,dN.E lf),(13,dI.E lf),(15,bM.E lf),(27,bJ.E lf),(28,bQ.E lf),(29,aG.E lf),(30,mD.E lf)]
def ajd(lf:Nat):List (Nat×(St→Option LTE)):=[(0,sumE sh0 fun(p:(List (Int×(Int×(TV×Unit))))×Int×Int×(List (Int×(Int×(TV×Unit))))×Int×Int×Bool×ByteArray×ByteArray×Bool×ByteArray×ByteArray×Unit)=>⟨Bool×(Unit)×(Unit)×Unit,l0 lf p.1 p.2.1 p.2.2.1 p.2.2.2.1 p.2.2.2.2.1 p.2.2.2.2.2.2.1 p.2.2.2.2.2.2.2.1 p.2.2.2.2.2.2.2.2.1 p.2.2.2.2.2.2.2.2.2.1 p.2.2.2.2.2.2.2.2.2.2.1 p.2.2.2.2.2.2.2.2.2.2.2.1 (lf+40) p.2.2.2.2.2.1,o0 p.1 p.2.1 p.2.2.1 p.2.2.2.1 p.2.2.2.2.1 p.2.2.2.2.2.2.1 p.2.2.2.2.2.2.2.1 p.2.2.2.2.2.2.2.2.1 p.2.2.2.2.2.2.2.2.2.1 p.2.2.2.2.2.2.2.2.2.2.1 p.2.2.2.2.2.2.2.2.2.2.2.1⟩)]
def ls(lf:Nat):List (Nat×FuncId×Sums):=[(13,5,sumsL (ajd lf))]
def it0{ρ:Type}(lf n:Nat)(st:St)(k:KE ρ):Option ρ:=itG anns (ls lf) (tb lf) lf 13 5 0 3 (sumsL (ajd lf)) n st k
theorem t0{ρ:Type}(lf n:Nat)(v0:List (Int×(Int×(TV×Unit))))(v1 v2:Int)(v3:List (Int×(Int×(TV×Unit))))(v4 v5:Int)(v6:Bool)(v7 v8:ByteArray)(v9:Bool)(v10 v11:ByteArray)(k:KE ρ):it0 lf (n+1) (S0 (v0,v1,v2,v3,v4,v5,v6,v7,v8,v9,v10,v11,())) k=r0 lf v0 v1 v2 v3 v4 v6 v7 v8 v9 v10 v11 v5 (fun x0=>it0 lf n (S0 (v0,v1,v2,v3,v4,x0,v6,v7,v8,v9,v10,v11,())) k) (k .ret (xh0.b (false,v6,v7,v8,v9,v10,v11,()))) (k (.exit 0) (xh1.b (v6,v7,v8,v9,v10,v11,()))):=by kernel_rfl
theorem u0{ρ:Type}(lf:Nat)(v0:List (Int×(Int×(TV×Unit))))(v1 v2:Int)(v3:List (Int×(Int×(TV×Unit))))(v4:Int)(v6:Bool)(v7 v8:ByteArray)(v9:Bool)(v10 v11:ByteArray)(k:KE ρ):∀ (n:Nat) (v5:Int),it0 lf n (S0 (v0,v1,v2,v3,v4,v5,v6,v7,v8,v9,v10,v11,())) k=bd (l0 lf v0 v1 v2 v3 v4 v6 v7 v8 v9 v10 v11 n v5) fun y=>altK k (o0 v0 v1 v2 v3 v4 v6 v7 v8 v9 v10 v11 y)
 | 0,_=>by rw[l0,ax];rfl
 | n+1,v5=>by
  rw[t0];simp only[l0,r0,u0 lf v0 v1 v2 v3 v4 v6 v7 v8 v9 v10 v11 k n,cO,cu,aH,ax,br_t,br_f,o0,altK]
theorem sl(lf:Nat):SL anns (ls lf) (tb lf) lf (ls lf):=slC (laC (fun _=>by kernel_rfl) (fun _ (x:(List (Int×(Int×(TV×Unit))))×Int×Int×(List (Int×(Int×(TV×Unit))))×Int×Int×Bool×ByteArray×ByteArray×Bool×ByteArray×ByteArray×Unit) k=>aX (u0 lf x.1 x.2.1 x.2.2.1 x.2.2.2.1 x.2.2.2.2.1 x.2.2.2.2.2.2.1 x.2.2.2.2.2.2.2.1 x.2.2.2.2.2.2.2.2.1 x.2.2.2.2.2.2.2.2.2.1 x.2.2.2.2.2.2.2.2.2.2.1 x.2.2.2.2.2.2.2.2.2.2.2.1 k (lf+40) x.2.2.2.2.2.1)) laN) slN
def f(lf:Nat)(a0:List (Int×(Int×(TV×Unit))))(a1:Int)(a2:Int):Option (Bool×Unit) :=
 bd (dJ.f lf a0) fun r1 =>
 br (!r1.1) (
 bd (dN.f lf) fun r2 =>
 some (r2.1,())) (
 bd (bJ.f lf a0 a1) fun r3 =>
 br (r3.1 != 0) (
 bd (dN.f lf) fun r4 =>
 some (r4.1,())) (
 br (decide (a2 < 0)) (
 bd (dN.f lf) fun r5 =>
 some (r5.1,())) (
 br (decide (a2≥a1)) (
 bd (dN.f lf) fun r6 =>
 some (r6.1,())) (
 bd (aG.f lf a2) fun r7 =>
 bd (bQ.f lf r7.1) fun r8 =>
 bd (bQ.f lf (⟨#[49,50,51,52,53]⟩:ByteArray)) fun r9 =>
 bd (bM.f lf a0 a1 r8.1 r9.1) fun r10 =>
 bd (dI.f lf r10.1 a1 r8.1) fun r11 =>
 br (r10.2.2.1 != 0) (
 some (false,())) (
 br (!r10.2.1) (
 some (false,())) (
 br (r11.2.1 != 0) (
 some (false,())) (
 bd (some (!(((r11.1.1.1==r9.1.1.1)&&((r11.1.1.2.1==r9.1.1.2.1)&&((r11.1.1.2.2.1==r9.1.1.2.2.1)&&true)))&&(((r11.1.2.1.1==r9.1.2.1.1)&&((r11.1.2.1.2.1==r9.1.2.1.2.1)&&((r11.1.2.1.2.2.1==r9.1.2.1.2.2.1)&&true)))&&true)))) fun r12 =>
 br r12 (
 some (false,())) (
 bd (l0 lf a0 a1 a2 r10.1 a1 r9.1.1.1 r9.1.1.2.1 r9.1.1.2.2.1 r9.1.2.1.1 r9.1.2.1.2.1 r9.1.2.1.2.2.1 (lf+40) 0) fun z18 =>
 br z18.1 (
 some (false,())) (
 bd (dN.f lf) fun r19 =>
 some (r19.1,()))))))))))
def E(lf:Nat):Entry:=⟨[(.sl (.pair (.int .i64) (.pair (.int .i64) (.pair yV .unit)))),(.int .i64),(.int .i64)],[.bool],fun x=>f lf x.1 x.2.1 x.2.2.1⟩
theorem ok(lf:Nat):Ok 5 (E lf):=okL (tC (dJ.ok lf) (tC (dN.ok lf) (tC (dI.ok lf) (tC (bM.ok lf) (tC (bJ.ok lf) (tC (bQ.ok lf) (tC (aG.ok lf) (tC (mD.ok lf) tN)))))))) (aoC aoN) (sl lf) fun x=>by kernel_rfl
end aK
end
end Go.Q
