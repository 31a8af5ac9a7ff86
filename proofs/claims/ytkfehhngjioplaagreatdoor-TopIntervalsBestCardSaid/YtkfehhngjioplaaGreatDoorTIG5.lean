import Derived.Test.YtkfehhngjioplaaGreatDoorProg
import Derived.KernelRfl
import Derived.Test.YtkfehhngjioplaaGreatDoorTIE3
import Derived.Test.YtkfehhngjioplaaGreatDoorTIG4
set_option linter.unusedVariables false
set_option linter.unusedSimpArgs false
set_option linter.unusedSectionVars false
set_option maxRecDepth 100000
namespace Go.Q
open Go.IntKind (i64)
open Go Go.RowKit
open Go.Rx (br bd sIdx sCat sCut iQuo iRem)
noncomputable section
namespace surveyortop_playList
def anns:FuncId→FA:=annsL [(19,⟨annOf [(0,⟨kx 23 [1,3,9,10],[⟨.tmp 3,(.int .i64),3⟩],[]⟩,⟨kx 23 [2,3],[⟨.tmp 3,(.int .i64),3⟩],[]⟩)],none,[]⟩)]
def r0{ρ:Type}(lf:Nat)(v0 v2 v3:Int)(v1:Int)(v4:List Int)(K:Int→(List Int)→Option ρ)(E0:(List Int)→Option ρ):Option ρ :=
 br (decide (v1 < v0)) (
 bd (apL true 8 v4 [(i64.wrap ((i64.wrap v2)+v1))]) fun q2 =>
 K (i64.wrap (v1+1)) q2) (
 E0 v4)
def l0(lf:Nat)(v0 v2 v3:Int):Nat→Int→(List Int)→Option (((List Int)×Unit)×Unit)
 | 0,_,_=>none
 | n+1,v1,v4=>r0 lf v0 v2 v3 v1 v4 (l0 lf v0 v2 v3 n) (fun w0=>some ((w0,()),()))
def sh0:ShS:=⟨[.a 1,.s (.ptr 0 0),.a 1,.s (.row 1),.a 5,.s (.int .i64),.s (.int .i64),.a 12],[.cells [.s (.int .i8),.s (.int .u8)] 47,.row (.int .i64) 3 false]⟩
def S0(p:Int×Int×Int×Int×(List Int)×Unit):St:=sh0.b p
def xh0:ShS:=⟨[.a 3,.s (.row 1),.a 19],[.cells [.s (.int .i8),.s (.int .u8)] 47,.row (.int .i64) 3 false]⟩
def o0(v0 v2 v3:Int)(y:((List Int)×Unit)×Unit):Alt:=.one (.exit 0) (xh0.b (v2,v3,y.1.1,()))
def tb(lf:Nat):List (FuncId×Entry):=[]
def s13_19(lf:Nat):List (Nat×(St→Option LTE)):=[(0,sumE sh0 fun(p:Int×Int×Int×Int×(List Int)×Unit)=>⟨((List Int)×Unit)×Unit,l0 lf p.1 p.2.2.1 p.2.2.2.1 (lf+40) p.2.1 p.2.2.2.2.1,o0 p.1 p.2.2.1 p.2.2.2.1⟩)]
def ls(lf:Nat):List (Nat×FuncId×Sums):=[(13,19,sumsL (s13_19 lf))]
def it0{ρ:Type}(lf n:Nat)(st:St)(k:KE ρ):Option ρ:=itG anns (ls lf) (tb lf) lf 13 19 0 1 (sumsL (s13_19 lf)) n st k
theorem t0{ρ:Type}(lf n:Nat)(v0 v1 v2 v3:Int)(v4:List Int)(k:KE ρ):it0 lf (n+1) (S0 (v0,v1,v2,v3,v4,())) k=r0 lf v0 v2 v3 v1 v4 (fun x0 x1=>it0 lf n (S0 (v0,x0,v2,v3,x1,())) k) (fun w0=>k (.exit 0) (xh0.b (v2,v3,w0,()))):=by kernel_rfl
theorem u0{ρ:Type}(lf:Nat)(v0 v2 v3:Int)(k:KE ρ):∀ (n:Nat) (v1:Int) (v4:List Int),it0 lf n (S0 (v0,v1,v2,v3,v4,())) k=bd (l0 lf v0 v2 v3 n v1 v4) fun y=>altK k (o0 v0 v2 v3 y)
 | 0,_,_=>by rw[l0,bd_none];rfl
 | n+1,v1,v4=>by
  rw[t0];simp only[l0,r0,u0 lf v0 v2 v3 k n,bd_br,bd_bd,bd_some',bd_none,br_t,br_f,o0,altK]
theorem sl(lf:Nat):SL anns (ls lf) (tb lf) lf (ls lf):=slC (laC (fun _=>by kernel_rfl) (fun _ (x:Int×Int×Int×Int×(List Int)×Unit) k=>leq_of (u0 lf x.1 x.2.2.1 x.2.2.2.1 k (lf+40) x.2.1 x.2.2.2.2.1)) laN) slN
def f(lf:Nat)(a0:Int×(Int×Unit)):Option ((List Int)×Unit) :=
 bd (iRem a0.2.1 6) fun r1 =>
 bd (l0 lf (i64.wrap (1+(i64.wrap r1))) a0.1 a0.2.1 (lf+40) 0 []) fun z3 =>
 some (z3.1.1,())
def spk(lf:Nat):Spk:=.fresh [(.pair (.int .i8) (.pair (.int .u8) .unit))] (.int .i64) 3 fun x=>f lf x.1
theorem ok(lf:Nat):SpkOK Proofs.Tryz.prog (spk lf) 19:=okF tN' (aoC aoN) (sl lf) rfl fun x=>by kernel_rfl
end surveyortop_playList
namespace surveyortop_playDown
def f(lf:Nat)(a0:Int)(a1:Int):Option (Int×Unit) :=
 bd (iQuo .i64 a0 a1) fun r1 =>
 bd (iRem a0 a1) fun r2 =>
 br (r2 != 0) (
 br ((decide (a0 < 0)) !=(decide (a1 < 0))) (
 some ((i64.wrap (r1-1)),())) (
 some (r1,()))) (
 some (r1,()))
def E(lf:Nat):Entry:=⟨[(.int .i64),(.int .i64)],[(.int .i64)],fun x=>f lf x.1 x.2.1⟩
theorem ok(lf:Nat):Ok 20 (E lf):=okT (an:=(annsL [])) (lf:=lf) tN aoN fun x=>by kernel_rfl
end surveyortop_playDown
namespace surveyortop_playSpan
def f(lf:Nat)(a0:List Int):Option (TI×Unit) :=
 br (((a0.length:Nat):Int)==0) (
 some ((true,(⟨#[]⟩:ByteArray),(⟨#[]⟩:ByteArray),()),())) (
 bd (slices_Min_int_int.f lf a0) fun r1 =>
 bd (surveyorref01_Whole.f lf r1.1) fun r2 =>
 bd (slices_Max_int_int.f lf a0) fun r3 =>
 bd (surveyorref01_Whole.f lf r3.1) fun r4 =>
 some ((false,r2.1,r4.1,()),()))
def E(lf:Nat):Entry:=⟨[(.sl (.int .i64))],[yI],fun x=>f lf x.1⟩
theorem ok(lf:Nat):Ok 22 (E lf):=okT (an:=(annsL [])) (lf:=lf) (tC (surveyorref01_Whole.ok lf) (tC (slices_Min_int_int.ok lf) (tC (slices_Max_int_int.ok lf) tN))) aoN fun x=>by kernel_rfl
end surveyortop_playSpan
namespace surveyortop_playValues
def f(lf:Nat)  : Option (Bool×Unit) :=
 bd (value_Make.f lf (false,(⟨#[50]⟩:ByteArray),(⟨#[54]⟩:ByteArray),()) (false,(⟨#[50]⟩:ByteArray),(⟨#[48]⟩:ByteArray),())) fun r1 =>
 bd (value_Of.f lf (⟨#[51]⟩:ByteArray)) fun r2 =>
 bd (value_Apply.f lf 5 r1.1 r2.1) fun r3 =>
 bd (sign_Mul.f lf 4 1) fun r4 =>
 bd (constant_Of.f lf (⟨#[55]⟩:ByteArray)) fun r5 =>
 bd (constant_Holds.f lf r5.1 (⟨#[55]⟩:ByteArray)) fun r6 =>
 br ((i64.wrap ((i64.wrap ((i64.wrap ((i64.wrap ((i64.wrap (r1.2.1+r2.2.1))+r3.2.1))+r4.2.1))+r5.2.1))+r6.2.1))==0) (
 br r6.1 (
 br (r4.1==1) (
 bd (some (((r3.1.1.1==false)&&((r3.1.1.2.1==(⟨#[54]⟩:ByteArray))&&((r3.1.1.2.2.1==(⟨#[49,56]⟩:ByteArray))&&true)))&&(((r3.1.2.1.1==false)&&((r3.1.2.1.2.1==(⟨#[54]⟩:ByteArray))&&((r3.1.2.1.2.2.1==(⟨#[48]⟩:ByteArray))&&true)))&&true))) fun r7 =>
 some (r7,())) (
 some (false,()))) (
 some (false,()))) (
 some (false,()))
def E(lf:Nat):Entry:=⟨[],[.bool],fun x=>f lf⟩
theorem ok(lf:Nat):Ok 28 (E lf):=okT (an:=(annsL [])) (lf:=lf) (tC (value_Apply.ok lf) (tC (value_Make.ok lf) (tC (value_Of.ok lf) (tC (sign_Mul.ok lf) (tC (constant_Of.ok lf) (tC (constant_Holds.ok lf) tN)))))) aoN fun x=>by kernel_rfl
end surveyortop_playValues
end
end Go.Q
