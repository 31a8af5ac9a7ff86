import Derived.Test.YtkfehhngjioplaaGreatDoorProg
import Derived.KernelRfl
import Derived.Test.YtkfehhngjioplaaGreatDoorSOE3
import Derived.Test.YtkfehhngjioplaaGreatDoorSOG6
import Derived.Test.YtkfehhngjioplaaGreatDoorSOG7
import Derived.Test.YtkfehhngjioplaaGreatDoorSOG8
import Derived.Test.YtkfehhngjioplaaGreatDoorSOG9
set_option linter.unusedVariables false
set_option linter.unusedSimpArgs false
set_option linter.unusedSectionVars false
set_option maxRecDepth 100000
namespace Go.Q
open Go.IntKind (i64)
open Go Go.RowKit
open Go.Rx (br bd sIdx sCat sCut iQuo iRem)
noncomputable section
namespace surveyorlaw23_ValueSound
def anns:FuncId→FA:=annsL [(3,⟨annOf [(0,⟨kx 177 [3,4,5,69],[],[]⟩,⟨kx 177 [3,4,5,6],[],[4]⟩)],none,[]⟩)]
def r0{ρ:Type}(lf:Nat)(v0:Bool)(v1 v2:ByteArray)(v3:Bool)(v4 v5:ByteArray)(v6:Bool)(v7 v8:ByteArray)(v9:Bool)(v10 v11 v12 v13 v14 v15 v16 v17 v18:ByteArray)(v19:List Nat)(K:(List Nat)→Option ρ)(E0:Option ρ)(E1:Option ρ):Option ρ :=
 chsF (
 E0) [
  (!v19.contains 0,
 bd (value_Apply.f lf 3 ((v0,v1,v2,()),(v3,v4,v5,()),()) ((v6,v7,v8,()),(v9,v10,v11,()),())) fun r8 =>
 bd (value_Holds.f lf r8.1 v14) fun r9 =>
 br (r8.2.1 != 0) (
 E1) (
 br (r9.2.1 != 0) (
 E1) (
 br (!r9.1) (
 bd (surveyorlaw23_short.f lf v14) fun r10 =>
 br r10.1 (
 E1) (
 K (0::v19))) (
 K (0::v19))))),
  (!v19.contains 1,
 bd (value_Apply.f lf 4 ((v0,v1,v2,()),(v3,v4,v5,()),()) ((v6,v7,v8,()),(v9,v10,v11,()),())) fun r11 =>
 bd (value_Holds.f lf r11.1 v15) fun r12 =>
 br (r11.2.1 != 0) (
 E1) (
 br (r12.2.1 != 0) (
 E1) (
 br (!r12.1) (
 bd (surveyorlaw23_short.f lf v15) fun r13 =>
 br r13.1 (
 E1) (
 K (1::v19))) (
 K (1::v19))))),
  (!v19.contains 2,
 bd (value_Apply.f lf 5 ((v0,v1,v2,()),(v3,v4,v5,()),()) ((v6,v7,v8,()),(v9,v10,v11,()),())) fun r14 =>
 bd (value_Holds.f lf r14.1 v16) fun r15 =>
 br (r14.2.1 != 0) (
 E1) (
 br (r15.2.1 != 0) (
 E1) (
 br (!r15.1) (
 bd (surveyorlaw23_short.f lf v16) fun r16 =>
 br r16.1 (
 E1) (
 K (2::v19))) (
 K (2::v19))))),
  (!v19.contains 3,
 bd (value_Apply.f lf 6 ((v0,v1,v2,()),(v3,v4,v5,()),()) ((v6,v7,v8,()),(v9,v10,v11,()),())) fun r17 =>
 bd (value_Holds.f lf r17.1 v17) fun r18 =>
 br (r17.2.1 != 0) (
 E1) (
 br (r18.2.1 != 0) (
 E1) (
 br (!r18.1) (
 bd (surveyorlaw23_short.f lf v17) fun r19 =>
 br r19.1 (
 E1) (
 K (3::v19))) (
 K (3::v19))))),
  (!v19.contains 4,
 bd (value_Apply.f lf 7 ((v0,v1,v2,()),(v3,v4,v5,()),()) ((v6,v7,v8,()),(v9,v10,v11,()),())) fun r20 =>
 bd (value_Holds.f lf r20.1 v18) fun r21 =>
 br (r20.2.1 != 0) (
 E1) (
 br (r21.2.1 != 0) (
 E1) (
 br (!r21.1) (
 bd (surveyorlaw23_short.f lf v18) fun r22 =>
 br r22.1 (
 E1) (
 K (4::v19))) (
 K (4::v19)))))]
def l0(lf:Nat)(v0:Bool)(v1 v2:ByteArray)(v3:Bool)(v4 v5:ByteArray)(v6:Bool)(v7 v8:ByteArray)(v9:Bool)(v10 v11 v12 v13 v14 v15 v16 v17 v18:ByteArray):Nat→(List Nat)→Option (Bool×(Unit)×(Unit)×Unit)
 | 0,_=>none
 | n+1,v19=>r0 lf v0 v1 v2 v3 v4 v5 v6 v7 v8 v9 v10 v11 v12 v13 v14 v15 v16 v17 v18 v19 (l0 lf v0 v1 v2 v3 v4 v5 v6 v7 v8 v9 v10 v11 v12 v13 v14 v15 v16 v17 v18 n) (some (true,(()),((()),()))) (some (false,(()),((()),())))
def sh0:ShS:=⟨[.a 3,.s (.ptr 0 0),.s (.ptr 1 0),.s (.ptr 2 0),.a 63,.s (.ptr 4 0),.a 107],[.cells [.s .bool,.s .str,.s .str,.s .bool,.s .str,.s .str] 28,.cells [.s .bool,.s .str,.s .str,.s .bool,.s .str,.s .str] 28,.cells [.s .str,.s .str] 30,.map .i64 [3,4,5,6,7] [.s .str,.s .str,.s .str,.s .str,.s .str] 3,.iter 3 5]⟩
def S0(p:Bool×ByteArray×ByteArray×Bool×ByteArray×ByteArray×Bool×ByteArray×ByteArray×Bool×ByteArray×ByteArray×ByteArray×ByteArray×ByteArray×ByteArray×ByteArray×ByteArray×ByteArray×(List Nat)×Unit):St:=sh0.b p
def xh0:ShS:=⟨[.a 3,.s (.ptr 0 0),.s (.ptr 1 0),.s (.ptr 2 0),.a 171],[.cells [.s .bool,.s .str,.s .str,.s .bool,.s .str,.s .str] 28,.cells [.s .bool,.s .str,.s .str,.s .bool,.s .str,.s .str] 28,.cells [.s .str,.s .str] 30,.map .i64 [3,4,5,6,7] [.s .str,.s .str,.s .str,.s .str,.s .str] 3,.gone]⟩
def xh1:ShS:=⟨[.a 3,.s (.ptr 0 0),.s (.ptr 1 0),.s (.ptr 2 0),.s .bool,.a 170],[.cells [.s .bool,.s .str,.s .str,.s .bool,.s .str,.s .str] 28,.cells [.s .bool,.s .str,.s .str,.s .bool,.s .str,.s .str] 28,.cells [.s .str,.s .str] 30,.map .i64 [3,4,5,6,7] [.s .str,.s .str,.s .str,.s .str,.s .str] 3,.gone]⟩
def o0(v0:Bool)(v1 v2:ByteArray)(v3:Bool)(v4 v5:ByteArray)(v6:Bool)(v7 v8:ByteArray)(v9:Bool)(v10 v11 v12 v13 v14 v15 v16 v17 v18:ByteArray)(y:Bool×(Unit)×(Unit)×Unit):Alt:=.two y.1 (.one (.exit 0) (xh0.b (v0,v1,v2,v3,v4,v5,v6,v7,v8,v9,v10,v11,v12,v13,v14,v15,v16,v17,v18,()))) (.one .ret (xh1.b (false,v0,v1,v2,v3,v4,v5,v6,v7,v8,v9,v10,v11,v12,v13,v14,v15,v16,v17,v18,())))
def r1{ρ:Type}(lf:Nat)(v0:Bool)(v1 v2:ByteArray)(v3:Bool)(v4 v5:ByteArray)(v6:Bool)(v7 v8:ByteArray)(v9:Bool)(v10 v11 v12 v13 v14 v15 v16:ByteArray)(v17:List Nat)(K:(List Nat)→Option ρ)(E0:Option ρ)(E1:Option ρ):Option ρ :=
 chsF (
 E0) [
  (!v17.contains 0,
 bd (value_Apply.f lf 3 ((v0,v1,v2,()),(v3,v4,v5,()),()) ((v6,v7,v8,()),(v9,v10,v11,()),())) fun r33 =>
 bd (value_Holds.f lf r33.1 v14) fun r34 =>
 br (r33.2.1 != 0) (
 E1) (
 br (r34.2.1 != 0) (
 E1) (
 br (!r34.1) (
 bd (surveyorlaw23_short.f lf v14) fun r35 =>
 br r35.1 (
 E1) (
 K (0::v17))) (
 K (0::v17))))),
  (!v17.contains 1,
 bd (value_Apply.f lf 4 ((v0,v1,v2,()),(v3,v4,v5,()),()) ((v6,v7,v8,()),(v9,v10,v11,()),())) fun r36 =>
 bd (value_Holds.f lf r36.1 v15) fun r37 =>
 br (r36.2.1 != 0) (
 E1) (
 br (r37.2.1 != 0) (
 E1) (
 br (!r37.1) (
 bd (surveyorlaw23_short.f lf v15) fun r38 =>
 br r38.1 (
 E1) (
 K (1::v17))) (
 K (1::v17))))),
  (!v17.contains 2,
 bd (value_Apply.f lf 5 ((v0,v1,v2,()),(v3,v4,v5,()),()) ((v6,v7,v8,()),(v9,v10,v11,()),())) fun r39 =>
 bd (value_Holds.f lf r39.1 v16) fun r40 =>
 br (r39.2.1 != 0) (
 E1) (
 br (r40.2.1 != 0) (
 E1) (
 br (!r40.1) (
 bd (surveyorlaw23_short.f lf v16) fun r41 =>
 br r41.1 (
 E1) (
 K (2::v17))) (
 K (2::v17)))))]
def l1(lf:Nat)(v0:Bool)(v1 v2:ByteArray)(v3:Bool)(v4 v5:ByteArray)(v6:Bool)(v7 v8:ByteArray)(v9:Bool)(v10 v11 v12 v13 v14 v15 v16:ByteArray):Nat→(List Nat)→Option (Bool×(Unit)×(Unit)×Unit)
 | 0,_=>none
 | n+1,v17=>r1 lf v0 v1 v2 v3 v4 v5 v6 v7 v8 v9 v10 v11 v12 v13 v14 v15 v16 v17 (l1 lf v0 v1 v2 v3 v4 v5 v6 v7 v8 v9 v10 v11 v12 v13 v14 v15 v16 n) (some (true,(()),((()),()))) (some (false,(()),((()),())))
def sh1:ShS:=⟨[.a 3,.s (.ptr 0 0),.s (.ptr 1 0),.s (.ptr 2 0),.a 63,.s (.ptr 4 0),.a 107],[.cells [.s .bool,.s .str,.s .str,.s .bool,.s .str,.s .str] 28,.cells [.s .bool,.s .str,.s .str,.s .bool,.s .str,.s .str] 28,.cells [.s .str,.s .str] 30,.map .i64 [3,4,5] [.s .str,.s .str,.s .str] 3,.iter 3 3]⟩
def S1(p:Bool×ByteArray×ByteArray×Bool×ByteArray×ByteArray×Bool×ByteArray×ByteArray×Bool×ByteArray×ByteArray×ByteArray×ByteArray×ByteArray×ByteArray×ByteArray×(List Nat)×Unit):St:=sh1.b p
def xh2:ShS:=⟨[.a 3,.s (.ptr 0 0),.s (.ptr 1 0),.s (.ptr 2 0),.a 171],[.cells [.s .bool,.s .str,.s .str,.s .bool,.s .str,.s .str] 28,.cells [.s .bool,.s .str,.s .str,.s .bool,.s .str,.s .str] 28,.cells [.s .str,.s .str] 30,.map .i64 [3,4,5] [.s .str,.s .str,.s .str] 3,.gone]⟩
def xh3:ShS:=⟨[.a 3,.s (.ptr 0 0),.s (.ptr 1 0),.s (.ptr 2 0),.s .bool,.a 170],[.cells [.s .bool,.s .str,.s .str,.s .bool,.s .str,.s .str] 28,.cells [.s .bool,.s .str,.s .str,.s .bool,.s .str,.s .str] 28,.cells [.s .str,.s .str] 30,.map .i64 [3,4,5] [.s .str,.s .str,.s .str] 3,.gone]⟩
def o1(v0:Bool)(v1 v2:ByteArray)(v3:Bool)(v4 v5:ByteArray)(v6:Bool)(v7 v8:ByteArray)(v9:Bool)(v10 v11 v12 v13 v14 v15 v16:ByteArray)(y:Bool×(Unit)×(Unit)×Unit):Alt:=.two y.1 (.one (.exit 0) (xh2.b (v0,v1,v2,v3,v4,v5,v6,v7,v8,v9,v10,v11,v12,v13,v14,v15,v16,()))) (.one .ret (xh3.b (false,v0,v1,v2,v3,v4,v5,v6,v7,v8,v9,v10,v11,v12,v13,v14,v15,v16,())))
def tb(lf:Nat):List (FuncId×Entry):=[(5,surveyorlaw23_right.E lf),(6,surveyorlaw23_awake.E lf),(7,surveyorref01_Sum.E lf),(8,surveyorref01_Diff.E lf),(9,surveyorref01_Product.E lf),(10,surveyorref01_Floor.E lf),(11,surveyorref01_Rest.E lf),(12,value_Apply.E lf),(13,value_Holds.E lf),(14,surveyorlaw23_short.E lf),(15,value_Neg.E lf),(16,value_Join.E lf),(17,value_Widen.E lf),(18,surveyorref01_Negated.E lf)]
def s13_3(lf:Nat):List (Nat×(St→Option LTE)):=[(0,sumE sh0 fun(p:Bool×ByteArray×ByteArray×Bool×ByteArray×ByteArray×Bool×ByteArray×ByteArray×Bool×ByteArray×ByteArray×ByteArray×ByteArray×ByteArray×ByteArray×ByteArray×ByteArray×ByteArray×(List Nat)×Unit)=>⟨Bool×(Unit)×(Unit)×Unit,l0 lf p.1 p.2.1 p.2.2.1 p.2.2.2.1 p.2.2.2.2.1 p.2.2.2.2.2.1 p.2.2.2.2.2.2.1 p.2.2.2.2.2.2.2.1 p.2.2.2.2.2.2.2.2.1 p.2.2.2.2.2.2.2.2.2.1 p.2.2.2.2.2.2.2.2.2.2.1 p.2.2.2.2.2.2.2.2.2.2.2.1 p.2.2.2.2.2.2.2.2.2.2.2.2.1 p.2.2.2.2.2.2.2.2.2.2.2.2.2.1 p.2.2.2.2.2.2.2.2.2.2.2.2.2.2.1 p.2.2.2.2.2.2.2.2.2.2.2.2.2.2.2.1 p.2.2.2.2.2.2.2.2.2.2.2.2.2.2.2.2.1 p.2.2.2.2.2.2.2.2.2.2.2.2.2.2.2.2.2.1 p.2.2.2.2.2.2.2.2.2.2.2.2.2.2.2.2.2.2.1 (lf+40) p.2.2.2.2.2.2.2.2.2.2.2.2.2.2.2.2.2.2.2.1,o0 p.1 p.2.1 p.2.2.1 p.2.2.2.1 p.2.2.2.2.1 p.2.2.2.2.2.1 p.2.2.2.2.2.2.1 p.2.2.2.2.2.2.2.1 p.2.2.2.2.2.2.2.2.1 p.2.2.2.2.2.2.2.2.2.1 p.2.2.2.2.2.2.2.2.2.2.1 p.2.2.2.2.2.2.2.2.2.2.2.1 p.2.2.2.2.2.2.2.2.2.2.2.2.1 p.2.2.2.2.2.2.2.2.2.2.2.2.2.1 p.2.2.2.2.2.2.2.2.2.2.2.2.2.2.1 p.2.2.2.2.2.2.2.2.2.2.2.2.2.2.2.1 p.2.2.2.2.2.2.2.2.2.2.2.2.2.2.2.2.1 p.2.2.2.2.2.2.2.2.2.2.2.2.2.2.2.2.2.1 p.2.2.2.2.2.2.2.2.2.2.2.2.2.2.2.2.2.2.1⟩),
 (0,sumE sh1 fun(p:Bool×ByteArray×ByteArray×Bool×ByteArray×ByteArray×Bool×ByteArray×ByteArray×Bool×ByteArray×ByteArray×ByteArray×ByteArray×ByteArray×ByteArray×ByteArray×(List Nat)×Unit)=>⟨Bool×(Unit)×(Unit)×Unit,l1 lf p.1 p.2.1 p.2.2.1 p.2.2.2.1 p.2.2.2.2.1 p.2.2.2.2.2.1 p.2.2.2.2.2.2.1 p.2.2.2.2.2.2.2.1 p.2.2.2.2.2.2.2.2.1 p.2.2.2.2.2.2.2.2.2.1 p.2.2.2.2.2.2.2.2.2.2.1 p.2.2.2.2.2.2.2.2.2.2.2.1 p.2.2.2.2.2.2.2.2.2.2.2.2.1 p.2.2.2.2.2.2.2.2.2.2.2.2.2.1 p.2.2.2.2.2.2.2.2.2.2.2.2.2.2.1 p.2.2.2.2.2.2.2.2.2.2.2.2.2.2.2.1 p.2.2.2.2.2.2.2.2.2.2.2.2.2.2.2.2.1 (lf+40) p.2.2.2.2.2.2.2.2.2.2.2.2.2.2.2.2.2.1,o1 p.1 p.2.1 p.2.2.1 p.2.2.2.1 p.2.2.2.2.1 p.2.2.2.2.2.1 p.2.2.2.2.2.2.1 p.2.2.2.2.2.2.2.1 p.2.2.2.2.2.2.2.2.1 p.2.2.2.2.2.2.2.2.2.1 p.2.2.2.2.2.2.2.2.2.2.1 p.2.2.2.2.2.2.2.2.2.2.2.1 p.2.2.2.2.2.2.2.2.2.2.2.2.1 p.2.2.2.2.2.2.2.2.2.2.2.2.2.1 p.2.2.2.2.2.2.2.2.2.2.2.2.2.2.1 p.2.2.2.2.2.2.2.2.2.2.2.2.2.2.2.1 p.2.2.2.2.2.2.2.2.2.2.2.2.2.2.2.2.1⟩)]
def ls(lf:Nat):List (Nat×FuncId×Sums):=[(13,3,sumsL (s13_3 lf))]
def it0{ρ:Type}(lf n:Nat)(st:St)(k:KE ρ):Option ρ:=itG anns (ls lf) (tb lf) lf 13 3 0 5 (sumsL (s13_3 lf)) n st k
theorem t0{ρ:Type}(lf n:Nat)(v0:Bool)(v1 v2:ByteArray)(v3:Bool)(v4 v5:ByteArray)(v6:Bool)(v7 v8:ByteArray)(v9:Bool)(v10 v11 v12 v13 v14 v15 v16 v17 v18:ByteArray)(v19:List Nat)(k:KE ρ):it0 lf (n+1) (S0 (v0,v1,v2,v3,v4,v5,v6,v7,v8,v9,v10,v11,v12,v13,v14,v15,v16,v17,v18,v19,())) k=r0 lf v0 v1 v2 v3 v4 v5 v6 v7 v8 v9 v10 v11 v12 v13 v14 v15 v16 v17 v18 v19 (fun x0=>it0 lf n (S0 (v0,v1,v2,v3,v4,v5,v6,v7,v8,v9,v10,v11,v12,v13,v14,v15,v16,v17,v18,x0,())) k) (k (.exit 0) (xh0.b (v0,v1,v2,v3,v4,v5,v6,v7,v8,v9,v10,v11,v12,v13,v14,v15,v16,v17,v18,()))) (k .ret (xh1.b (false,v0,v1,v2,v3,v4,v5,v6,v7,v8,v9,v10,v11,v12,v13,v14,v15,v16,v17,v18,()))):=by kernel_rfl
theorem u0{ρ:Type}(lf:Nat)(v0:Bool)(v1 v2:ByteArray)(v3:Bool)(v4 v5:ByteArray)(v6:Bool)(v7 v8:ByteArray)(v9:Bool)(v10 v11 v12 v13 v14 v15 v16 v17 v18:ByteArray)(k:KE ρ):∀ (n:Nat) (v19:List Nat),LeO (bd (l0 lf v0 v1 v2 v3 v4 v5 v6 v7 v8 v9 v10 v11 v12 v13 v14 v15 v16 v17 v18 n v19) fun y=>altK k (o0 v0 v1 v2 v3 v4 v5 v6 v7 v8 v9 v10 v11 v12 v13 v14 v15 v16 v17 v18 y)) (it0 lf n (S0 (v0,v1,v2,v3,v4,v5,v6,v7,v8,v9,v10,v11,v12,v13,v14,v15,v16,v17,v18,v19,())) k)
 | 0,_=>by rw[l0,bd_none];exact LeO.none _
 | n+1,v19=>by
  rw[t0,l0,r0,r0]
  refine LeO.chsF (by(simp only[bd_br,bd_bd,bd_some',bd_none,br_t,br_f,o0,altK];repeat' (first | exact LeO.refl _ | exact u0 lf v0 v1 v2 v3 v4 v5 v6 v7 v8 v9 v10 v11 v12 v13 v14 v15 v16 v17 v18 k n _ | apply LeO.br | (apply LeO.bd;intro _)))) ?_
  refine LeL.cons _ _ _ _ _ (by(simp only[bd_br,bd_bd,bd_some',bd_none,br_t,br_f,o0,altK];repeat' (first | exact LeO.refl _ | exact u0 lf v0 v1 v2 v3 v4 v5 v6 v7 v8 v9 v10 v11 v12 v13 v14 v15 v16 v17 v18 k n _ | apply LeO.br | (apply LeO.bd;intro _)))) ?_
  refine LeL.cons _ _ _ _ _ (by(simp only[bd_br,bd_bd,bd_some',bd_none,br_t,br_f,o0,altK];repeat' (first | exact LeO.refl _ | exact u0 lf v0 v1 v2 v3 v4 v5 v6 v7 v8 v9 v10 v11 v12 v13 v14 v15 v16 v17 v18 k n _ | apply LeO.br | (apply LeO.bd;intro _)))) ?_
  refine LeL.cons _ _ _ _ _ (by(simp only[bd_br,bd_bd,bd_some',bd_none,br_t,br_f,o0,altK];repeat' (first | exact LeO.refl _ | exact u0 lf v0 v1 v2 v3 v4 v5 v6 v7 v8 v9 v10 v11 v12 v13 v14 v15 v16 v17 v18 k n _ | apply LeO.br | (apply LeO.bd;intro _)))) ?_
  refine LeL.cons _ _ _ _ _ (by(simp only[bd_br,bd_bd,bd_some',bd_none,br_t,br_f,o0,altK];repeat' (first | exact LeO.refl _ | exact u0 lf v0 v1 v2 v3 v4 v5 v6 v7 v8 v9 v10 v11 v12 v13 v14 v15 v16 v17 v18 k n _ | apply LeO.br | (apply LeO.bd;intro _)))) ?_
  refine LeL.cons _ _ _ _ _ (by(simp only[bd_br,bd_bd,bd_some',bd_none,br_t,br_f,o0,altK];repeat' (first | exact LeO.refl _ | exact u0 lf v0 v1 v2 v3 v4 v5 v6 v7 v8 v9 v10 v11 v12 v13 v14 v15 v16 v17 v18 k n _ | apply LeO.br | (apply LeO.bd;intro _)))) ?_
  exact .nil
def it1{ρ:Type}(lf n:Nat)(st:St)(k:KE ρ):Option ρ:=itG anns (ls lf) (tb lf) lf 13 3 0 5 (sumsL (s13_3 lf)) n st k
theorem t1{ρ:Type}(lf n:Nat)(v0:Bool)(v1 v2:ByteArray)(v3:Bool)(v4 v5:ByteArray)(v6:Bool)(v7 v8:ByteArray)(v9:Bool)(v10 v11 v12 v13 v14 v15 v16:ByteArray)(v17:List Nat)(k:KE ρ):it1 lf (n+1) (S1 (v0,v1,v2,v3,v4,v5,v6,v7,v8,v9,v10,v11,v12,v13,v14,v15,v16,v17,())) k=r1 lf v0 v1 v2 v3 v4 v5 v6 v7 v8 v9 v10 v11 v12 v13 v14 v15 v16 v17 (fun x0=>it1 lf n (S1 (v0,v1,v2,v3,v4,v5,v6,v7,v8,v9,v10,v11,v12,v13,v14,v15,v16,x0,())) k) (k (.exit 0) (xh2.b (v0,v1,v2,v3,v4,v5,v6,v7,v8,v9,v10,v11,v12,v13,v14,v15,v16,()))) (k .ret (xh3.b (false,v0,v1,v2,v3,v4,v5,v6,v7,v8,v9,v10,v11,v12,v13,v14,v15,v16,()))):=by kernel_rfl
theorem u1{ρ:Type}(lf:Nat)(v0:Bool)(v1 v2:ByteArray)(v3:Bool)(v4 v5:ByteArray)(v6:Bool)(v7 v8:ByteArray)(v9:Bool)(v10 v11 v12 v13 v14 v15 v16:ByteArray)(k:KE ρ):∀ (n:Nat) (v17:List Nat),LeO (bd (l1 lf v0 v1 v2 v3 v4 v5 v6 v7 v8 v9 v10 v11 v12 v13 v14 v15 v16 n v17) fun y=>altK k (o1 v0 v1 v2 v3 v4 v5 v6 v7 v8 v9 v10 v11 v12 v13 v14 v15 v16 y)) (it1 lf n (S1 (v0,v1,v2,v3,v4,v5,v6,v7,v8,v9,v10,v11,v12,v13,v14,v15,v16,v17,())) k)
 | 0,_=>by rw[l1,bd_none];exact LeO.none _
 | n+1,v17=>by
  rw[t1,l1,r1,r1]
  refine LeO.chsF (by(simp only[bd_br,bd_bd,bd_some',bd_none,br_t,br_f,o1,altK];repeat' (first | exact LeO.refl _ | exact u1 lf v0 v1 v2 v3 v4 v5 v6 v7 v8 v9 v10 v11 v12 v13 v14 v15 v16 k n _ | apply LeO.br | (apply LeO.bd;intro _)))) ?_
  refine LeL.cons _ _ _ _ _ (by(simp only[bd_br,bd_bd,bd_some',bd_none,br_t,br_f,o1,altK];repeat' (first | exact LeO.refl _ | exact u1 lf v0 v1 v2 v3 v4 v5 v6 v7 v8 v9 v10 v11 v12 v13 v14 v15 v16 k n _ | apply LeO.br | (apply LeO.bd;intro _)))) ?_
  refine LeL.cons _ _ _ _ _ (by(simp only[bd_br,bd_bd,bd_some',bd_none,br_t,br_f,o1,altK];repeat' (first | exact LeO.refl _ | exact u1 lf v0 v1 v2 v3 v4 v5 v6 v7 v8 v9 v10 v11 v12 v13 v14 v15 v16 k n _ | apply LeO.br | (apply LeO.bd;intro _)))) ?_
  refine LeL.cons _ _ _ _ _ (by(simp only[bd_br,bd_bd,bd_some',bd_none,br_t,br_f,o1,altK];repeat' (first | exact LeO.refl _ | exact u1 lf v0 v1 v2 v3 v4 v5 v6 v7 v8 v9 v10 v11 v12 v13 v14 v15 v16 k n _ | apply LeO.br | (apply LeO.bd;intro _)))) ?_
  exact .nil
theorem sl(lf:Nat):SL anns (ls lf) (tb lf) lf (ls lf):=slC (laC (fun _=>by kernel_rfl) (fun _ (x:Bool×ByteArray×ByteArray×Bool×ByteArray×ByteArray×Bool×ByteArray×ByteArray×Bool×ByteArray×ByteArray×ByteArray×ByteArray×ByteArray×ByteArray×ByteArray×ByteArray×ByteArray×(List Nat)×Unit) k=>u0 lf x.1 x.2.1 x.2.2.1 x.2.2.2.1 x.2.2.2.2.1 x.2.2.2.2.2.1 x.2.2.2.2.2.2.1 x.2.2.2.2.2.2.2.1 x.2.2.2.2.2.2.2.2.1 x.2.2.2.2.2.2.2.2.2.1 x.2.2.2.2.2.2.2.2.2.2.1 x.2.2.2.2.2.2.2.2.2.2.2.1 x.2.2.2.2.2.2.2.2.2.2.2.2.1 x.2.2.2.2.2.2.2.2.2.2.2.2.2.1 x.2.2.2.2.2.2.2.2.2.2.2.2.2.2.1 x.2.2.2.2.2.2.2.2.2.2.2.2.2.2.2.1 x.2.2.2.2.2.2.2.2.2.2.2.2.2.2.2.2.1 x.2.2.2.2.2.2.2.2.2.2.2.2.2.2.2.2.2.1 x.2.2.2.2.2.2.2.2.2.2.2.2.2.2.2.2.2.2.1 k (lf+40) x.2.2.2.2.2.2.2.2.2.2.2.2.2.2.2.2.2.2.2.1) (laC (fun _=>by kernel_rfl) (fun _ (x:Bool×ByteArray×ByteArray×Bool×ByteArray×ByteArray×Bool×ByteArray×ByteArray×Bool×ByteArray×ByteArray×ByteArray×ByteArray×ByteArray×ByteArray×ByteArray×(List Nat)×Unit) k=>u1 lf x.1 x.2.1 x.2.2.1 x.2.2.2.1 x.2.2.2.2.1 x.2.2.2.2.2.1 x.2.2.2.2.2.2.1 x.2.2.2.2.2.2.2.1 x.2.2.2.2.2.2.2.2.1 x.2.2.2.2.2.2.2.2.2.1 x.2.2.2.2.2.2.2.2.2.2.1 x.2.2.2.2.2.2.2.2.2.2.2.1 x.2.2.2.2.2.2.2.2.2.2.2.2.1 x.2.2.2.2.2.2.2.2.2.2.2.2.2.1 x.2.2.2.2.2.2.2.2.2.2.2.2.2.2.1 x.2.2.2.2.2.2.2.2.2.2.2.2.2.2.2.1 x.2.2.2.2.2.2.2.2.2.2.2.2.2.2.2.2.1 k (lf+40) x.2.2.2.2.2.2.2.2.2.2.2.2.2.2.2.2.2.1) laN)) slN
def f(lf:Nat)(a0:TV)(a1:TV)(a2:ByteArray×(ByteArray×Unit)):Option (Bool×Unit) :=
 bd (surveyorlaw23_right.f lf a0 a1 a2) fun r1 =>
 br (!r1.1) (
 bd (surveyorlaw23_awake.f lf) fun r2 =>
 some (r2.1,())) (
 bd (surveyorref01_Sum.f lf a2.1 a2.2.1) fun r3 =>
 bd (surveyorref01_Diff.f lf a2.1 a2.2.1) fun r4 =>
 bd (surveyorref01_Product.f lf a2.1 a2.2.1) fun r5 =>
 br (!(a2.2.1.toList==(⟨#[48]⟩:ByteArray).toList)) (
 bd (surveyorref01_Floor.f lf a2.1 a2.2.1) fun r6 =>
 bd (surveyorref01_Rest.f lf a2.1 a2.2.1) fun r7 =>
 bd (l0 lf a0.1.1 a0.1.2.1 a0.1.2.2.1 a0.2.1.1 a0.2.1.2.1 a0.2.1.2.2.1 a1.1.1 a1.1.2.1 a1.1.2.2.1 a1.2.1.1 a1.2.1.2.1 a1.2.1.2.2.1 a2.1 a2.2.1 r3.1 r4.1 r5.1 r6.1 r7.1 (lf+40) []) fun z23 =>
 br z23.1 (
 bd (value_Neg.f lf a0) fun r24 =>
 bd (value_Join.f lf a0 a1) fun r25 =>
 bd (value_Widen.f lf a0 a1 []) fun r26 =>
 bd (surveyorref01_Negated.f lf a2.1) fun r27 =>
 bd (value_Holds.f lf r24.1 r27.1) fun r28 =>
 bd (value_Holds.f lf r25.1 a2.1) fun r29 =>
 bd (value_Holds.f lf r25.1 a2.2.1) fun r30 =>
 bd (value_Holds.f lf r26.1 a2.2.1) fun r31 =>
 br ((i64.wrap ((i64.wrap ((i64.wrap ((i64.wrap ((i64.wrap ((i64.wrap (r24.2.1+r25.2.1))+r26.2.1))+r28.2.1))+r29.2.1))+r30.2.1))+r31.2.1))==0) (
 br r28.1 (
 br r29.1 (
 br r30.1 (
 br r31.1 (
 bd (surveyorlaw23_awake.f lf) fun r32 =>
 some (r32.1,())) (
 some (false,()))) (
 some (false,()))) (
 some (false,()))) (
 some (false,()))) (
 some (false,()))) (
 some (false,()))) (
 bd (l1 lf a0.1.1 a0.1.2.1 a0.1.2.2.1 a0.2.1.1 a0.2.1.2.1 a0.2.1.2.2.1 a1.1.1 a1.1.2.1 a1.1.2.2.1 a1.2.1.1 a1.2.1.2.1 a1.2.1.2.2.1 a2.1 a2.2.1 r3.1 r4.1 r5.1 (lf+40) []) fun z42 =>
 br z42.1 (
 bd (value_Neg.f lf a0) fun r43 =>
 bd (value_Join.f lf a0 a1) fun r44 =>
 bd (value_Widen.f lf a0 a1 []) fun r45 =>
 bd (surveyorref01_Negated.f lf a2.1) fun r46 =>
 bd (value_Holds.f lf r43.1 r46.1) fun r47 =>
 bd (value_Holds.f lf r44.1 a2.1) fun r48 =>
 bd (value_Holds.f lf r44.1 a2.2.1) fun r49 =>
 bd (value_Holds.f lf r45.1 a2.2.1) fun r50 =>
 br ((i64.wrap ((i64.wrap ((i64.wrap ((i64.wrap ((i64.wrap ((i64.wrap (r43.2.1+r44.2.1))+r45.2.1))+r47.2.1))+r48.2.1))+r49.2.1))+r50.2.1))==0) (
 br r47.1 (
 br r48.1 (
 br r49.1 (
 br r50.1 (
 bd (surveyorlaw23_awake.f lf) fun r51 =>
 some (r51.1,())) (
 some (false,()))) (
 some (false,()))) (
 some (false,()))) (
 some (false,()))) (
 some (false,()))) (
 some (false,()))))
def E(lf:Nat):Entry:=⟨[yV,yV,(.pair .str (.pair .str .unit))],[.bool],fun x=>f lf x.1 x.2.1 x.2.2.1⟩
theorem ok(lf:Nat):Ok 3 (E lf):=okL (tC (surveyorlaw23_right.ok lf) (tC (surveyorlaw23_awake.ok lf) (tC (surveyorref01_Sum.ok lf) (tC (surveyorref01_Diff.ok lf) (tC (surveyorref01_Product.ok lf) (tC (surveyorref01_Floor.ok lf) (tC (surveyorref01_Rest.ok lf) (tC (value_Apply.ok lf) (tC (value_Holds.ok lf) (tC (surveyorlaw23_short.ok lf) (tC (value_Neg.ok lf) (tC (value_Join.ok lf) (tC (value_Widen.ok lf) (tC (surveyorref01_Negated.ok lf) tN)))))))))))))) (aoC aoN) (sl lf) fun x=>by kernel_rfl
end surveyorlaw23_ValueSound
end
end Go.Q
