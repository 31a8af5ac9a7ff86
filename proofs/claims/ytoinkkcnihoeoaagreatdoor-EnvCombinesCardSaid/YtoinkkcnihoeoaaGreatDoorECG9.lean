import Derived.Test.YtoinkkcnihoeoaaGreatDoorProg
import Derived.KernelRfl
import Derived.Test.YtoinkkcnihoeoaaGreatDoorECE3
import Derived.Test.YtoinkkcnihoeoaaGreatDoorECG1
import Derived.Test.YtoinkkcnihoeoaaGreatDoorECG3
import Derived.Test.YtoinkkcnihoeoaaGreatDoorECG5
import Derived.Test.YtoinkkcnihoeoaaGreatDoorECG6
import Derived.Test.YtoinkkcnihoeoaaGreatDoorECG7
import Derived.Test.YtoinkkcnihoeoaaGreatDoorECG8
set_option maxHeartbeats 40000000
set_option linter.unusedVariables false
set_option linter.unusedSimpArgs false
set_option linter.unusedSectionVars false
set_option maxRecDepth 100000
namespace Go.Q
open Go Go.RowKit
open Go.Rx (br bd sIdx sCat sCut iQuo iRem)
noncomputable section
namespace fU
def l0:List (((List TV)×EX×TV×Unit)×((List TV)×Bool×Unit)):=[((ck_c.c13,ck_c.c1,ck_c.c32,()),(ck_c.c35,true,())),((ck_c.c35,ck_c.c20,ck_c.c12,()),(ck_c.c35,true,())),((ck_c.c35,ck_c.c26,ck_c.c29,()),(ck_c.c35,true,())),((ck_c.c13,ck_c.c42,ck_c.c44,()),(ck_c.c13,true,())),((ck_c.c13,ck_c.c1,ck_c.c45,()),(ck_c.c46,true,())),((ck_c.c13,ck_c.c1,ck_c.c50,()),(ck_c.c51,true,())),((ck_c.c51,ck_c.c3,ck_c.c14,()),(ck_c.c51,true,())),((ck_c.c13,ck_c.c38,ck_c.c39,()),(ck_c.c13,true,())),((ck_c.c13,ck_c.c1,ck_c.c53,()),(ck_c.c54,true,())),((ck_c.c13,ck_c.c1,ck_c.c60,()),(ck_c.c61,true,())),((ck_c.c61,ck_c.c3,ck_c.c14,()),(ck_c.c61,true,())),((ck_c.c13,ck_c.c1,ck_c.c66,()),(ck_c.c69,true,())),((ck_c.c69,ck_c.c6,ck_c.c17,()),(ck_c.c69,true,()))]
def f0(lf:Nat)(a0:List TV)(a1:EX)(a2:TV):Option ((List TV)×Bool×Unit):=pick [(.sl yV),(.rc false),yV] l0 (a0,a1,a2,())
def E0(lf:Nat):Entry:=⟨[(.sl yV),(.rc false),yV],[(.sl yV),.bool],fun x=>f0 lf x.1 x.2.1 x.2.2.1⟩
def tb0(lf:Nat):List (FuncId×Entry):=[(37,iZ.E lf),(51,dA.E lf),(59,dS.E lf),(68,dU.E lf),(79,aF.E lf),(80,aA.E lf),(82,ah.E lf),(84,aH.E lf),(85,aT.E lf),(86,bD.E lf),(98,mJ.E lf),(106,dw.E lf),(113,dB.E lf),(114,dN.E lf),(115,dm.E lf),(124,aJ.E lf),(127,dI.E lf),(179,fK.E lf),(181,gV.E lf),(193,bY.E lf),(196,jJ.E lf),(247,oD.E lf),(252,jI.E lf),(253,iC.E lf),(312,qc.E lf),(313,mY.E lf)]
abbrev an0:FuncId→FA:=annsL []
theorem ok0(lf:Nat):Ok 60 (E0 lf):=okP (an:=an0) (tb:=tb0 lf) (lf:=lf) (tC (iZ.ok lf) (tC (dA.ok lf) (tC (dS.ok lf) (tC (dU.ok lf) (tC (aF.ok lf) (tC (aA.ok lf) (tC (ah.ok lf) (tC (aH.ok lf) (tC (aT.ok lf) (tC (bD.ok lf) (tC (mJ.ok lf) (tC (dw.ok lf) (tC (dB.ok lf) (tC (dN.ok lf) (tC (dm.ok lf) (tC (aJ.ok lf) (tC (dI.ok lf) (tC (fK.ok lf) (tC (gV.ok lf) (tC (bY.ok lf) (tC (jJ.ok lf) (tC (oD.ok lf) (tC (jI.ok lf) (tC (iC.ok lf) (tC (qc.ok lf) (tC (mY.ok lf) tN)))))))))))))))))))))))))) aoN (l:=l0) (fun _=>rfl) (fun _=>rfl) ⟨by as_aux_lemma=>kernel_rfl,by as_aux_lemma=>kernel_rfl,by as_aux_lemma=>kernel_rfl,by as_aux_lemma=>kernel_rfl,by as_aux_lemma=>kernel_rfl,by as_aux_lemma=>kernel_rfl,by as_aux_lemma=>kernel_rfl,by as_aux_lemma=>kernel_rfl,by as_aux_lemma=>kernel_rfl,by as_aux_lemma=>kernel_rfl,by as_aux_lemma=>kernel_rfl,by as_aux_lemma=>kernel_rfl,by as_aux_lemma=>kernel_rfl,trivial⟩
def l:List (((List TV)×EX×TV×Unit)×((List TV)×Bool×Unit)):=[((ck_c.c13,ck_c.c1,ck_c.c32,()),(ck_c.c35,true,())),((ck_c.c35,ck_c.c20,ck_c.c12,()),(ck_c.c35,true,())),((ck_c.c35,ck_c.c26,ck_c.c29,()),(ck_c.c35,true,())),((ck_c.c13,ck_c.c42,ck_c.c44,()),(ck_c.c13,true,())),((ck_c.c13,ck_c.c1,ck_c.c45,()),(ck_c.c46,true,())),((ck_c.c13,ck_c.c1,ck_c.c50,()),(ck_c.c51,true,())),((ck_c.c51,ck_c.c3,ck_c.c14,()),(ck_c.c51,true,())),((ck_c.c13,ck_c.c38,ck_c.c39,()),(ck_c.c13,true,())),((ck_c.c13,ck_c.c1,ck_c.c53,()),(ck_c.c54,true,())),((ck_c.c13,ck_c.c1,ck_c.c60,()),(ck_c.c61,true,())),((ck_c.c61,ck_c.c3,ck_c.c14,()),(ck_c.c61,true,())),((ck_c.c13,ck_c.c1,ck_c.c66,()),(ck_c.c69,true,())),((ck_c.c69,ck_c.c6,ck_c.c17,()),(ck_c.c69,true,())),((ck_c.c13,ck_c.c24,ck_c.c12,()),(ck_c.c35,true,())),((ck_c.c13,ck_c.c58,ck_c.c57,()),(ck_c.c61,true,())),((ck_c.c13,ck_c.c62,ck_c.c12,()),(ck_c.c69,true,()))]
def f(lf:Nat)(a0:List TV)(a1:EX)(a2:TV):Option ((List TV)×Bool×Unit):=pick [(.sl yV),(.rc false),yV] l (a0,a1,a2,())
def E(lf:Nat):Entry:=⟨[(.sl yV),(.rc false),yV],[(.sl yV),.bool],fun x=>f lf x.1 x.2.1 x.2.2.1⟩
def tb(lf:Nat):List (FuncId×Entry):=(60,E0 lf)::[(37,iZ.E lf),(51,dA.E lf),(59,dS.E lf),(68,dU.E lf),(79,aF.E lf),(80,aA.E lf),(82,ah.E lf),(84,aH.E lf),(85,aT.E lf),(86,bD.E lf),(98,mJ.E lf),(106,dw.E lf),(113,dB.E lf),(114,dN.E lf),(115,dm.E lf),(124,aJ.E lf),(127,dI.E lf),(179,fK.E lf),(181,gV.E lf),(193,bY.E lf),(196,jJ.E lf),(247,oD.E lf),(252,jI.E lf),(253,iC.E lf),(312,qc.E lf),(313,mY.E lf)]
abbrev an:FuncId→FA:=annsL [(60,⟨annOf [],none,[13]⟩)]
theorem ok(lf:Nat):Ok 60 (E lf):=okP (an:=an) (tb:=tb lf) (lf:=lf) (tC (ok0 lf) (tC (iZ.ok lf) (tC (dA.ok lf) (tC (dS.ok lf) (tC (dU.ok lf) (tC (aF.ok lf) (tC (aA.ok lf) (tC (ah.ok lf) (tC (aH.ok lf) (tC (aT.ok lf) (tC (bD.ok lf) (tC (mJ.ok lf) (tC (dw.ok lf) (tC (dB.ok lf) (tC (dN.ok lf) (tC (dm.ok lf) (tC (aJ.ok lf) (tC (dI.ok lf) (tC (fK.ok lf) (tC (gV.ok lf) (tC (bY.ok lf) (tC (jJ.ok lf) (tC (oD.ok lf) (tC (jI.ok lf) (tC (iC.ok lf) (tC (qc.ok lf) (tC (mY.ok lf) tN))))))))))))))))))))))))))) (aoC aoN) (l:=l) (fun _=>rfl) (fun _=>rfl) ⟨by as_aux_lemma=>kernel_rfl,by as_aux_lemma=>kernel_rfl,by as_aux_lemma=>kernel_rfl,by as_aux_lemma=>kernel_rfl,by as_aux_lemma=>kernel_rfl,by as_aux_lemma=>kernel_rfl,by as_aux_lemma=>kernel_rfl,by as_aux_lemma=>kernel_rfl,by as_aux_lemma=>kernel_rfl,by as_aux_lemma=>kernel_rfl,by as_aux_lemma=>kernel_rfl,by as_aux_lemma=>kernel_rfl,by as_aux_lemma=>kernel_rfl,by as_aux_lemma=>kernel_rfl,by as_aux_lemma=>kernel_rfl,by as_aux_lemma=>kernel_rfl,trivial⟩
end fU
namespace jA
def l:List (((List TV)×Int×EX×EX×Unit)×((List TV)×Bool×Unit)):=[((ck_c.c13,4,ck_c.c24,ck_c.c26,()),(ck_c.c35,true,())),((ck_c.c13,2,ck_c.c36,ck_c.c38,()),(ck_c.c41,false,())),((ck_c.c13,4,ck_c.c1,ck_c.c42,()),(ck_c.c41,false,())),((ck_c.c13,4,ck_c.c42,ck_c.c1,()),(ck_c.c46,true,())),((ck_c.c13,4,ck_c.c1,ck_c.c3,()),(ck_c.c51,true,())),((ck_c.c13,4,ck_c.c38,ck_c.c1,()),(ck_c.c54,true,()))]
def f(lf:Nat)(a0:List TV)(a1:Int)(a2:EX)(a3:EX):Option ((List TV)×Bool×Unit):=pick [(.sl yV),(.int .i64),(.rc false),(.rc false)] l (a0,a1,a2,a3,())
def E(lf:Nat):Entry:=⟨[(.sl yV),(.int .i64),(.rc false),(.rc false)],[(.sl yV),.bool],fun x=>f lf x.1 x.2.1 x.2.2.1 x.2.2.2.1⟩
def tb(lf:Nat):List (FuncId×Entry):=[(51,dA.E lf),(60,fU.E lf),(100,qZ.E lf)]
abbrev an:FuncId→FA:=annsL []
theorem ok(lf:Nat):Ok 55 (E lf):=okP (an:=an) (tb:=tb lf) (lf:=lf) (tC (dA.ok lf) (tC (fU.ok lf) (tC (qZ.ok lf) tN))) aoN (l:=l) (fun _=>rfl) (fun _=>rfl) ⟨by as_aux_lemma=>kernel_rfl,by as_aux_lemma=>kernel_rfl,by as_aux_lemma=>kernel_rfl,by as_aux_lemma=>kernel_rfl,by as_aux_lemma=>kernel_rfl,by as_aux_lemma=>kernel_rfl,trivial⟩
end jA
namespace lC
def l:List (((List TV)×CX×Unit)×((List TV)×Bool×Unit)):=[((ck_c.c13,ck_c.c43,()),(ck_c.c46,true,())),((ck_c.c13,ck_c.c47,()),(ck_c.c51,true,())),((ck_c.c13,ck_c.c48,()),(ck_c.c54,true,())),((ck_c.c13,ck_c.c49,()),(ck_c.c13,true,()))]
def f(lf:Nat)(a0:List TV)(a1:CX):Option ((List TV)×Bool×Unit):=pick [(.sl yV),(.rc true)] l (a0,a1,())
def E(lf:Nat):Entry:=⟨[(.sl yV),(.rc true)],[(.sl yV),.bool],fun x=>f lf x.1 x.2.1⟩
def tb(lf:Nat):List (FuncId×Entry):=[(35,mM.E lf),(55,jA.E lf),(68,dU.E lf)]
abbrev an:FuncId→FA:=annsL [(34,⟨annOf [(0,⟨kx 38 [0,1,2,8,12,13],[⟨.tmp 8,yV,50⟩],[]⟩,⟨kx 38 [6,7,8],[⟨.tmp 8,yV,50⟩],[]⟩)],none,[]⟩)]
theorem ok(lf:Nat):Ok 57 (E lf):=okP (an:=an) (tb:=tb lf) (lf:=lf) (tC (mM.ok lf) (tC (jA.ok lf) (tC (dU.ok lf) tN))) (aoC aoN) (l:=l) (fun _=>rfl) (fun _=>rfl) ⟨by as_aux_lemma=>kernel_rfl,by as_aux_lemma=>kernel_rfl,by as_aux_lemma=>kernel_rfl,by as_aux_lemma=>kernel_rfl,trivial⟩
end lC
namespace uf
def l:List (((List TV)×EX×Unit)×(TV×Int×Unit)):=[((ck_c.c13,ck_c.c7,()),(ck_c.c19,0,())),((ck_c.c13,ck_c.c56,()),(ck_c.c57,0,()))]
def f(lf:Nat)(a0:List TV)(a1:EX):Option (TV×Int×Unit):=pick [(.sl yV),(.rc false)] l (a0,a1,())
def E(lf:Nat):Entry:=⟨[(.sl yV),(.rc false)],[yV,(.int .i64)],fun x=>f lf x.1 x.2.1⟩
def tb(lf:Nat):List (FuncId×Entry):=[(49,gG.E lf),(50,jl.E lf),(51,dA.E lf)]
abbrev an:FuncId→FA:=annsL []
theorem ok(lf:Nat):Ok 21 (E lf):=okP (an:=an) (tb:=tb lf) (lf:=lf) (tC (gG.ok lf) (tC (jl.ok lf) (tC (dA.ok lf) tN))) aoN (l:=l) (fun _=>rfl) (fun _=>rfl) ⟨by as_aux_lemma=>kernel_rfl,by as_aux_lemma=>kernel_rfl,trivial⟩
end uf
namespace sS
def l:List (((List TV)×Int×EX×Unit)×((List TV)×Bool×Int×Unit)):=[((ck_c.c13,0,ck_c.c21,()),(ck_c.c23,true,0,()))]
def f(lf:Nat)(a0:List TV)(a1:Int)(a2:EX):Option ((List TV)×Bool×Int×Unit):=pick [(.sl yV),(.int .i64),(.rc false)] l (a0,a1,a2,())
def E(lf:Nat):Entry:=⟨[(.sl yV),(.int .i64),(.rc false)],[(.sl yV),.bool,(.int .i64)],fun x=>f lf x.1 x.2.1 x.2.2.1⟩
def tb(lf:Nat):List (FuncId×Entry):=[(49,gG.E lf),(50,jl.E lf),(51,dA.E lf)]
abbrev an:FuncId→FA:=annsL []
theorem ok(lf:Nat):Ok 23 (E lf):=okP (an:=an) (tb:=tb lf) (lf:=lf) (tC (gG.ok lf) (tC (jl.ok lf) (tC (dA.ok lf) tN))) aoN (l:=l) (fun _=>rfl) (fun _=>rfl) ⟨by as_aux_lemma=>kernel_rfl,trivial⟩
end sS
namespace ug
def l:List (((List TV)×Int×EX×EX×Unit)×((List TV)×Bool×Int×Unit)):=[((ck_c.c13,4,ck_c.c24,ck_c.c26,()),(ck_c.c35,true,0,())),((ck_c.c13,2,ck_c.c36,ck_c.c38,()),(ck_c.c41,false,0,()))]
def f(lf:Nat)(a0:List TV)(a1:Int)(a2:EX)(a3:EX):Option ((List TV)×Bool×Int×Unit):=pick [(.sl yV),(.int .i64),(.rc false),(.rc false)] l (a0,a1,a2,a3,())
def E(lf:Nat):Entry:=⟨[(.sl yV),(.int .i64),(.rc false),(.rc false)],[(.sl yV),.bool,(.int .i64)],fun x=>f lf x.1 x.2.1 x.2.2.1 x.2.2.2.1⟩
def tb(lf:Nat):List (FuncId×Entry):=[(49,gG.E lf),(50,jl.E lf),(55,jA.E lf)]
abbrev an:FuncId→FA:=annsL []
theorem ok(lf:Nat):Ok 24 (E lf):=okP (an:=an) (tb:=tb lf) (lf:=lf) (tC (gG.ok lf) (tC (jl.ok lf) (tC (jA.ok lf) tN))) aoN (l:=l) (fun _=>rfl) (fun _=>rfl) ⟨by as_aux_lemma=>kernel_rfl,by as_aux_lemma=>kernel_rfl,trivial⟩
end ug
namespace qR
def l:List (((List TV)×CX×Unit)×((List TV)×Bool×Int×Unit)):=[((ck_c.c13,ck_c.c43,()),(ck_c.c46,true,0,())),((ck_c.c13,ck_c.c49,()),(ck_c.c13,true,0,()))]
def f(lf:Nat)(a0:List TV)(a1:CX):Option ((List TV)×Bool×Int×Unit):=pick [(.sl yV),(.rc true)] l (a0,a1,())
def E(lf:Nat):Entry:=⟨[(.sl yV),(.rc true)],[(.sl yV),.bool,(.int .i64)],fun x=>f lf x.1 x.2.1⟩
def tb(lf:Nat):List (FuncId×Entry):=[(49,gG.E lf),(56,qA.E lf),(57,lC.E lf)]
abbrev an:FuncId→FA:=annsL []
theorem ok(lf:Nat):Ok 25 (E lf):=okP (an:=an) (tb:=tb lf) (lf:=lf) (tC (gG.ok lf) (tC (qA.ok lf) (tC (lC.ok lf) tN))) aoN (l:=l) (fun _=>rfl) (fun _=>rfl) ⟨by as_aux_lemma=>kernel_rfl,by as_aux_lemma=>kernel_rfl,trivial⟩
end qR
end
end Go.Q
namespace Go.Q
open Go Go.RowKit
open Go.Rx (br bd sIdx sCat sCut iQuo iRem)
noncomputable section
namespace sU
def l:List (((List TV)×EX×TV×Unit)×((List TV)×Bool×Int×Unit)):=[((ck_c.c13,ck_c.c58,ck_c.c57,()),(ck_c.c61,true,0,()))]
def f(lf:Nat)(a0:List TV)(a1:EX)(a2:TV):Option ((List TV)×Bool×Int×Unit):=pick [(.sl yV),(.rc false),yV] l (a0,a1,a2,())
def E(lf:Nat):Entry:=⟨[(.sl yV),(.rc false),yV],[(.sl yV),.bool,(.int .i64)],fun x=>f lf x.1 x.2.1 x.2.2.1⟩
def tb(lf:Nat):List (FuncId×Entry):=[(49,gG.E lf),(50,jl.E lf),(59,dS.E lf),(60,fU.E lf)]
abbrev an:FuncId→FA:=annsL []
theorem ok(lf:Nat):Ok 28 (E lf):=okP (an:=an) (tb:=tb lf) (lf:=lf) (tC (gG.ok lf) (tC (jl.ok lf) (tC (dS.ok lf) (tC (fU.ok lf) tN)))) aoN (l:=l) (fun _=>rfl) (fun _=>rfl) ⟨by as_aux_lemma=>kernel_rfl,trivial⟩
end sU
namespace wU
def l:List (((List TV)×(List TV)×Int×EX×Unit)×((List TV)×Bool×Int×Unit)):=[((ck_c.c13,ck_c.c13,1,ck_c.c62,()),(ck_c.c69,true,0,()))]
def f(lf:Nat)(a0:List TV)(a1:List TV)(a2:Int)(a3:EX):Option ((List TV)×Bool×Int×Unit):=pick [(.sl yV),(.sl yV),(.int .i64),(.rc false)] l (a0,a1,a2,a3,())
def E(lf:Nat):Entry:=⟨[(.sl yV),(.sl yV),(.int .i64),(.rc false)],[(.sl yV),.bool,(.int .i64)],fun x=>f lf x.1 x.2.1 x.2.2.1 x.2.2.2.1⟩
def tb(lf:Nat):List (FuncId×Entry):=[(30,iL.E lf),(37,iZ.E lf),(50,jl.E lf),(60,fU.E lf),(68,dU.E lf)]
abbrev an:FuncId→FA:=annsL [(34,⟨annOf [(0,⟨kx 38 [0,1,2,8,12,13],[⟨.tmp 8,yV,50⟩],[]⟩,⟨kx 38 [6,7,8],[⟨.tmp 8,yV,50⟩],[]⟩)],none,[]⟩)]
theorem ok(lf:Nat):Ok 29 (E lf):=okP (an:=an) (tb:=tb lf) (lf:=lf) (tC (iL.ok lf) (tC (iZ.ok lf) (tC (jl.ok lf) (tC (fU.ok lf) (tC (dU.ok lf) tN))))) (aoC aoN) (l:=l) (fun _=>rfl) (fun _=>rfl) ⟨by as_aux_lemma=>kernel_rfl,trivial⟩
end wU
end
end Go.Q
namespace Go.Q
open Go.IntKind (i64)
open Go Go.RowKit
open Go.Rx (br bd sIdx sCat sCut iQuo iRem)
noncomputable section
namespace fB
def anns:FuncId→FA:=annsL [(4,⟨annOf [(0,⟨kx 23 [0,3],[],[]⟩,⟨kx 23 [2],[],[]⟩)],none,[]⟩)]
def r0{ρ:Type}(lf:Nat)(v0:List TV)(v1:Int)(K:Int→Option ρ)(E0:Option ρ)(E1:Option ρ):Option ρ :=
 br (decide (v1 < ((v0.length:Nat):Int))) (
 bd (idxL v0 v1) fun y1 =>
 bd (idxL v0 v1) fun y2 =>
 bd (jF.f lf y1 y2) fun r3 =>
 br (!r3.1) (
 E0) (
 K (i64.wrap (v1+1)))) (
 E1)
def l0(lf:Nat)(v0:List TV):Nat→Int→Option (Bool×(Unit)×(Unit)×Unit)
 | 0,_=>none
 | n+1,v1=>r0 lf v0 v1 (l0 lf v0 n) (some (true,(()),((()),()))) (some (false,(()),((()),())))
def sh0:ShS:=⟨[.s (.sl yV),.a 2,.s (.int .i64),.a 19],[]⟩
def S0(p:(List TV)×Int×Unit):St:=sh0.b p
def xh0:ShS:=⟨[.a 2,.s .bool,.a 20],[]⟩
def xh1:ShS:=⟨[.a 23],[]⟩
def o0(v0:List TV)(y:Bool×(Unit)×(Unit)×Unit):Alt:=.two y.1 (.one .ret (xh0.b (false,()))) (.one (.exit 0) (xh1.b (())))
def tb(lf:Nat):List (FuncId×Entry):=[(17,jF.E lf)]
def afv(lf:Nat):List (Nat×(St→Option LTE)):=[(0,sumE sh0 fun(p:(List TV)×Int×Unit)=>⟨Bool×(Unit)×(Unit)×Unit,l0 lf p.1 (lf+40) p.2.1,o0 p.1⟩)]
def ls(lf:Nat):List (Nat×FuncId×Sums):=[(13,4,sumsL (afv lf))]
def it0{ρ:Type}(lf n:Nat)(st:St)(k:KE ρ):Option ρ:=itG anns (ls lf) (tb lf) lf 13 4 0 0 (sumsL (afv lf)) n st k
theorem t0{ρ:Type}(lf n:Nat)(v0:List TV)(v1:Int)(k:KE ρ):it0 lf (n+1) (S0 (v0,v1,())) k=r0 lf v0 v1 (fun x0=>it0 lf n (S0 (v0,x0,())) k) (k .ret (xh0.b (false,()))) (k (.exit 0) (xh1.b (()))):=by kernel_rfl
theorem u0{ρ:Type}(lf:Nat)(v0:List TV)(k:KE ρ):∀ (n:Nat) (v1:Int),it0 lf n (S0 (v0,v1,())) k=bd (l0 lf v0 n v1) fun y=>altK k (o0 v0 y)
 | 0,_=>by rw[l0,bd_none];rfl
 | n+1,v1=>by
  rw[t0];simp only[l0,r0,u0 lf v0 k n,bd_br,bd_bd,bd_some',bd_none,br_t,br_f,o0,altK]
theorem sl(lf:Nat):SL anns (ls lf) (tb lf) lf (ls lf):=slC (laC (fun _=>by kernel_rfl) (fun _ (x:(List TV)×Int×Unit) k=>bH (u0 lf x.1 k (lf+40) x.2.1)) laN) slN
def f(lf:Nat)(a0:List TV):Option (Bool×Unit) :=
 br (decide (((a0.length:Nat):Int) > 40)) (
 some (false,())) (
 bd (l0 lf a0 (lf+40) 0) fun z4 =>
 br z4.1 (
 some (false,())) (
 some (true,())))
def E(lf:Nat):Entry:=⟨[(.sl yV)],[.bool],fun x=>f lf x.1⟩
theorem ok(lf:Nat):Ok 4 (E lf):=okL (tC (jF.ok lf) tN) (aoC aoN) (sl lf) fun x=>by kernel_rfl
end fB
namespace gm
def f(lf:Nat)(a0:TV):Option (Bool×Unit) :=
 some (a0.1.1,())
def E(lf:Nat):Entry:=⟨[yV],[.bool],fun x=>f lf x.1⟩
theorem ok(lf:Nat):Ok 109 (E lf):=okT (an:=(annsL [])) (lf:=lf) tN aoN fun x=>by kernel_rfl
end gm
namespace dQ
def anns:FuncId→FA:=annsL [(66,⟨annOf [(0,⟨kx 27 [0,3],[],[]⟩,⟨kx 27 [2],[],[]⟩)],none,[]⟩)]
def r0{ρ:Type}(lf:Nat)(v0:List TV)(v1:Int)(K:Int→Option ρ)(E0:Int→Option ρ)(E1:Option ρ):Option ρ :=
 br (decide (v1 < ((v0.length:Nat):Int))) (
 bd (idxL v0 v1) fun y1 =>
 bd (gQ.f lf y1) fun r2 =>
 br (r2.1 != 0) (
 E0 r2.1) (
 bd (idxL v0 v1) fun y3 =>
 bd (gm.f lf y3) fun r4 =>
 br r4.1 (
 E0 16) (
 K (i64.wrap (v1+1))))) (
 E1)
def l0(lf:Nat)(v0:List TV):Nat→Int→Option (Bool×(Int×Unit)×(Unit)×Unit)
 | 0,_=>none
 | n+1,v1=>r0 lf v0 v1 (l0 lf v0 n) (fun w0=>some (true,(w0,()),((()),()))) (some (false,(0,()),((()),())))
def sh0:ShS:=⟨[.s (.sl yV),.a 2,.s (.int .i64),.a 23],[]⟩
def S0(p:(List TV)×Int×Unit):St:=sh0.b p
def xh0:ShS:=⟨[.a 2,.s (.int .i64),.a 24],[]⟩
def xh1:ShS:=⟨[.a 27],[]⟩
def o0(v0:List TV)(y:Bool×(Int×Unit)×(Unit)×Unit):Alt:=.two y.1 (.one .ret (xh0.b (y.2.1.1,()))) (.one (.exit 0) (xh1.b (())))
def tb(lf:Nat):List (FuncId×Entry):=[(108,gQ.E lf),(109,gm.E lf)]
def aeg(lf:Nat):List (Nat×(St→Option LTE)):=[(0,sumE sh0 fun(p:(List TV)×Int×Unit)=>⟨Bool×(Int×Unit)×(Unit)×Unit,l0 lf p.1 (lf+40) p.2.1,o0 p.1⟩)]
def ls(lf:Nat):List (Nat×FuncId×Sums):=[(13,66,sumsL (aeg lf))]
def it0{ρ:Type}(lf n:Nat)(st:St)(k:KE ρ):Option ρ:=itG anns (ls lf) (tb lf) lf 13 66 0 0 (sumsL (aeg lf)) n st k
theorem t0{ρ:Type}(lf n:Nat)(v0:List TV)(v1:Int)(k:KE ρ):it0 lf (n+1) (S0 (v0,v1,())) k=r0 lf v0 v1 (fun x0=>it0 lf n (S0 (v0,x0,())) k) (fun w0=>k .ret (xh0.b (w0,()))) (k (.exit 0) (xh1.b (()))):=by kernel_rfl
theorem u0{ρ:Type}(lf:Nat)(v0:List TV)(k:KE ρ):∀ (n:Nat) (v1:Int),it0 lf n (S0 (v0,v1,())) k=bd (l0 lf v0 n v1) fun y=>altK k (o0 v0 y)
 | 0,_=>by rw[l0,bd_none];rfl
 | n+1,v1=>by
  rw[t0];simp only[l0,r0,u0 lf v0 k n,bd_br,bd_bd,bd_some',bd_none,br_t,br_f,o0,altK]
theorem sl(lf:Nat):SL anns (ls lf) (tb lf) lf (ls lf):=slC (laC (fun _=>by kernel_rfl) (fun _ (x:(List TV)×Int×Unit) k=>bH (u0 lf x.1 k (lf+40) x.2.1)) laN) slN
def f(lf:Nat)(a0:List TV):Option (Int×Unit) :=
 br (decide (((a0.length:Nat):Int) > 32)) (
 some (5,())) (
 bd (l0 lf a0 (lf+40) 0) fun z5 =>
 br z5.1 (
 some (z5.2.1.1,())) (
 some (0,())))
def E(lf:Nat):Entry:=⟨[(.sl yV)],[(.int .i64)],fun x=>f lf x.1⟩
theorem ok(lf:Nat):Ok 66 (E lf):=okL (tC (gQ.ok lf) (tC (gm.ok lf) tN)) (aoC aoN) (sl lf) fun x=>by kernel_rfl
end dQ
namespace dD
def f(lf:Nat)(a0:List TV)(a1:List TV):Option (Int×Unit) :=
 bd (dQ.f lf a0) fun r1 =>
 br (r1.1 != 0) (
 some (r1.1,())) (
 bd (dQ.f lf a1) fun r2 =>
 br (r2.1 != 0) (
 some (r2.1,())) (
 br (((a0.length:Nat):Int) !=((a1.length:Nat):Int)) (
 some (22,())) (
 some (0,()))))
def E(lf:Nat):Entry:=⟨[(.sl yV),(.sl yV)],[(.int .i64)],fun x=>f lf x.1 x.2.1⟩
theorem ok(lf:Nat):Ok 32 (E lf):=okT (an:=(annsL [])) (lf:=lf) (tC (dQ.ok lf) tN) aoN fun x=>by kernel_rfl
end dD
namespace fC
def anns:FuncId→FA:=annsL [(33,⟨annOf [(0,⟨kx 22 [0,1,5],[],[]⟩,⟨kx 22 [4],[],[]⟩)],none,[]⟩)]
def r0{ρ:Type}(lf:Nat)(v0 v1:List TV)(v2:Int)(K:Int→Option ρ)(E0:Option ρ)(E1:Option ρ):Option ρ :=
 br (decide (v2 < ((v0.length:Nat):Int))) (
 bd (idxL v0 v2) fun y1 =>
 bd (idxL v1 v2) fun y2 =>
 bd (iO.f lf y1 y2) fun r3 =>
 br (!r3.1) (
 E0) (
 K (i64.wrap (v2+1)))) (
 E1)
def l0(lf:Nat)(v0 v1:List TV):Nat→Int→Option (Bool×(Unit)×(Unit)×Unit)
 | 0,_=>none
 | n+1,v2=>r0 lf v0 v1 v2 (l0 lf v0 v1 n) (some (true,(()),((()),()))) (some (false,(()),((()),())))
def sh0:ShS:=⟨[.s (.sl yV),.s (.sl yV),.a 3,.s (.int .i64),.a 16],[]⟩
def S0(p:(List TV)×(List TV)×Int×Unit):St:=sh0.b p
def xh0:ShS:=⟨[.a 4,.s .bool,.a 17],[]⟩
def xh1:ShS:=⟨[.a 22],[]⟩
def o0(v0 v1:List TV)(y:Bool×(Unit)×(Unit)×Unit):Alt:=.two y.1 (.one .ret (xh0.b (false,()))) (.one (.exit 0) (xh1.b (())))
def tb(lf:Nat):List (FuncId×Entry):=[(67,iO.E lf)]
def ad9(lf:Nat):List (Nat×(St→Option LTE)):=[(0,sumE sh0 fun(p:(List TV)×(List TV)×Int×Unit)=>⟨Bool×(Unit)×(Unit)×Unit,l0 lf p.1 p.2.1 (lf+40) p.2.2.1,o0 p.1 p.2.1⟩)]
def ls(lf:Nat):List (Nat×FuncId×Sums):=[(13,33,sumsL (ad9 lf))]
def it0{ρ:Type}(lf n:Nat)(st:St)(k:KE ρ):Option ρ:=itG anns (ls lf) (tb lf) lf 13 33 0 0 (sumsL (ad9 lf)) n st k
theorem t0{ρ:Type}(lf n:Nat)(v0 v1:List TV)(v2:Int)(k:KE ρ):it0 lf (n+1) (S0 (v0,v1,v2,())) k=r0 lf v0 v1 v2 (fun x0=>it0 lf n (S0 (v0,v1,x0,())) k) (k .ret (xh0.b (false,()))) (k (.exit 0) (xh1.b (()))):=by kernel_rfl
theorem u0{ρ:Type}(lf:Nat)(v0 v1:List TV)(k:KE ρ):∀ (n:Nat) (v2:Int),it0 lf n (S0 (v0,v1,v2,())) k=bd (l0 lf v0 v1 n v2) fun y=>altK k (o0 v0 v1 y)
 | 0,_=>by rw[l0,bd_none];rfl
 | n+1,v2=>by
  rw[t0];simp only[l0,r0,u0 lf v0 v1 k n,bd_br,bd_bd,bd_some',bd_none,br_t,br_f,o0,altK]
theorem sl(lf:Nat):SL anns (ls lf) (tb lf) lf (ls lf):=slC (laC (fun _=>by kernel_rfl) (fun _ (x:(List TV)×(List TV)×Int×Unit) k=>bH (u0 lf x.1 x.2.1 k (lf+40) x.2.2.1)) laN) slN
def f(lf:Nat)(a0:List TV)(a1:List TV):Option (Bool×Unit) :=
 bd (l0 lf a0 a1 (lf+40) 0) fun z4 =>
 br z4.1 (
 some (false,())) (
 some (true,()))
def E(lf:Nat):Entry:=⟨[(.sl yV),(.sl yV)],[.bool],fun x=>f lf x.1 x.2.1⟩
theorem ok(lf:Nat):Ok 33 (E lf):=okL (tC (iO.ok lf) tN) (aoC aoN) (sl lf) fun x=>by kernel_rfl
end fC
namespace jH
def f(lf:Nat)(a0:List TV)(a1:List TV):Option (Bool×Int×Unit) :=
 bd (dD.f lf a0 a1) fun r1 =>
 br (r1.1 != 0) (
 some (false,r1.1,())) (
 bd (fC.f lf a0 a1) fun r2 =>
 some (r2.1,0,()))
def E(lf:Nat):Entry:=⟨[(.sl yV),(.sl yV)],[.bool,(.int .i64)],fun x=>f lf x.1 x.2.1⟩
theorem ok(lf:Nat):Ok 7 (E lf):=okT (an:=(annsL [])) (lf:=lf) (tC (dD.ok lf) (tC (fC.ok lf) tN)) aoN fun x=>by kernel_rfl
end jH
end
end Go.Q
