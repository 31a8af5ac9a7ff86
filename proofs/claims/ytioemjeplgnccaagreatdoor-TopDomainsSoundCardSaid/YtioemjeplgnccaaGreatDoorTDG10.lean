import Derived.Test.YtioemjeplgnccaaGreatDoorProg
import Derived.KernelRfl
import Derived.Test.YtioemjeplgnccaaGreatDoorTDE3
import Derived.Test.YtioemjeplgnccaaGreatDoorTDG1
import Derived.Test.YtioemjeplgnccaaGreatDoorTDG3
import Derived.Test.YtioemjeplgnccaaGreatDoorTDG5
import Derived.Test.YtioemjeplgnccaaGreatDoorTDG6
import Derived.Test.YtioemjeplgnccaaGreatDoorTDG7
import Derived.Test.YtioemjeplgnccaaGreatDoorTDG8
import Derived.Test.YtioemjeplgnccaaGreatDoorTDG9
set_option linter.unusedVariables false
set_option linter.unusedSimpArgs false
set_option linter.unusedSectionVars false
set_option maxRecDepth 100000
namespace Go.Q
open Go.IntKind (i64)
open Go Go.RowKit
open Go.Rx (br bd sIdx sCat sCut iQuo iRem iShl)
noncomputable section
namespace bD
abbrev PS:List Ty:=[(.pair (.int .i64) (.pair yV (.pair yV (.pair .str (.pair .str .unit)))))]
abbrev RS:List Ty:=[.bool]
def f0(lf:Nat)(a0:Int×(TV×(TV×(ByteArray×(ByteArray×Unit))))):Option (Bool×Unit) :=
 bd (bH.f lf a0.2.1 a0.2.2.1) fun r1 =>
 br (!r1.1) (
 bd (au.f lf) fun r2 =>
 some (r2.1,())) (
 bd (aN.f lf a0.2.1) fun r3 =>
 br (r3.1 != 0) (
 bd (au.f lf) fun r4 =>
 some (r4.1,())) (
 bd (aN.f lf a0.2.2.1) fun r5 =>
 br (r5.1 != 0) (
 bd (au.f lf) fun r6 =>
 some (r6.1,())) (
 bd (aO.f lf [a0.2.2.2.1,a0.2.2.2.2.1]) fun r7 =>
 br (!r7.1) (
 bd (au.f lf) fun r8 =>
 some (r8.1,())) (
 bd (aP.f lf [a0.2.2.2.1,a0.2.2.2.2.1]) fun r9 =>
 br (r9.1 != 0) (
 bd (au.f lf) fun r10 =>
 some (r10.1,())) (
 bd (aY.f lf a0.2.1 a0.2.2.2.1) fun r11 =>
 br (!r11.1) (
 bd (au.f lf) fun r12 =>
 some (r12.1,())) (
 bd (aY.f lf a0.2.2.1 a0.2.2.2.2.1) fun r13 =>
 br (!r13.1) (
 bd (au.f lf) fun r14 =>
 some (r14.1,())) (
 bd (fJ.f lf a0.2.2.2.1 a0.2.2.2.2.1) fun r15 =>
 br (r15.2.1==0) (
 bd (aF.f lf r15.1) fun r16 =>
 br (!(decide (r16.1≤100))) (
 bd (au.f lf) fun r17 =>
 some (r17.1,())) (
 bd (dS.f lf a0.2.2.2.1) fun r18 =>
 bd (dS.f lf a0.2.2.2.2.1) fun r19 =>
 bd (bK.f lf a0.2.2.2.1) fun r20 =>
 bd (bK.f lf a0.2.2.2.2.1) fun r21 =>
 br ((i64.wrap ((i64.wrap ((i64.wrap (r18.2.1+r19.2.1))+r20.2.1))+r21.2.1)) != 0) (
 some (false,())) (
 bd (qj.f lf r18.1 r19.1) fun r22 =>
 bd (aS.f lf 3 r20.1 r21.1) fun r23 =>
 bd (jG.f lf a0.2.1.1 a0.2.2.1.1) fun r24 =>
 bd (iE.f lf a0.2.1.2.1 a0.2.2.1.2.1) fun r25 =>
 bd (di.f lf 3 a0.2.1 a0.2.2.1) fun r26 =>
 br ((i64.wrap ((i64.wrap ((i64.wrap ((i64.wrap (r22.2.1+r23.2.1))+r24.2.1))+r25.2.1))+r26.2.1)) != 0) (
 some (false,())) (
 bd (dN.f lf r22.1 r15.1) fun r27 =>
 bd (bM.f lf r23.1 r15.1) fun r28 =>
 bd (bJ.f lf r24.1 r15.1) fun r29 =>
 bd (bG.f lf r25.1 r15.1) fun r30 =>
 bd (dF.f lf r26.1 r15.1) fun r31 =>
 br ((i64.wrap ((i64.wrap ((i64.wrap ((i64.wrap (r27.2.1+r28.2.1))+r29.2.1))+r30.2.1))+r31.2.1))==0) (
 br r27.1 (
 br r28.1 (
 br r29.1 (
 br r30.1 (
 br r31.1 (
 bd (au.f lf) fun r32 =>
 some (r32.1,())) (
 some (false,()))) (
 some (false,()))) (
 some (false,()))) (
 some (false,()))) (
 some (false,()))) (
 some (false,())))))) (
 bd (au.f lf) fun r33 =>
 some (r33.1,())))))))))
def tb0(lf:Nat):List (FuncId×Entry):=[(4,bH.E lf),(5,aN.E lf),(6,aO.E lf),(7,aP.E lf),(8,aY.E lf),(9,au.E lf),(11,dS.E lf),(12,bK.E lf),(14,aS.E lf),(17,di.E lf),(18,dN.E lf),(19,bM.E lf),(20,bJ.E lf),(21,bG.E lf),(22,dF.E lf),(35,fJ.E lf),(40,aF.E lf),(44,qj.E lf),(51,jG.E lf),(56,iE.E lf)]
abbrev an0:FuncId→FA:=annsL []
def R0(lf:Nat):Tys PS→Option (Tys RS):=fun x=>runQ Proofs.Tryz.prog an0 noLs (lookT (tb0 lf)) (lf+40) 14 6 3 PS RS x
theorem h0(lf:Nat)(x:Tys PS)(hc:(x.1.1==3)=true):f0 lf x.1=R0 lf x:=by
 obtain⟨⟨op,r⟩,q⟩:=x
 have hc:(op==3)=true:=hc
 obtain rfl:=eq_of_beq hc
 show f0 lf (3,r)=R0 lf ((3,r),q)
 kernel_rfl
def f1(lf:Nat)(a0:Int×(TV×(TV×(ByteArray×(ByteArray×Unit))))):Option (Bool×Unit) :=
 bd (bH.f lf a0.2.1 a0.2.2.1) fun r1 =>
 br (!r1.1) (
 bd (au.f lf) fun r2 =>
 some (r2.1,())) (
 bd (aN.f lf a0.2.1) fun r3 =>
 br (r3.1 != 0) (
 bd (au.f lf) fun r4 =>
 some (r4.1,())) (
 bd (aN.f lf a0.2.2.1) fun r5 =>
 br (r5.1 != 0) (
 bd (au.f lf) fun r6 =>
 some (r6.1,())) (
 bd (aO.f lf [a0.2.2.2.1,a0.2.2.2.2.1]) fun r7 =>
 br (!r7.1) (
 bd (au.f lf) fun r8 =>
 some (r8.1,())) (
 bd (aP.f lf [a0.2.2.2.1,a0.2.2.2.2.1]) fun r9 =>
 br (r9.1 != 0) (
 bd (au.f lf) fun r10 =>
 some (r10.1,())) (
 bd (aY.f lf a0.2.1 a0.2.2.2.1) fun r11 =>
 br (!r11.1) (
 bd (au.f lf) fun r12 =>
 some (r12.1,())) (
 bd (aY.f lf a0.2.2.1 a0.2.2.2.2.1) fun r13 =>
 br (!r13.1) (
 bd (au.f lf) fun r14 =>
 some (r14.1,())) (
 bd (fM.f lf a0.2.2.2.1 a0.2.2.2.2.1) fun r15 =>
 br (r15.2.1==0) (
 bd (aF.f lf r15.1) fun r16 =>
 br (!(decide (r16.1≤100))) (
 bd (au.f lf) fun r17 =>
 some (r17.1,())) (
 bd (dS.f lf a0.2.2.2.1) fun r18 =>
 bd (dS.f lf a0.2.2.2.2.1) fun r19 =>
 bd (bK.f lf a0.2.2.2.1) fun r20 =>
 bd (bK.f lf a0.2.2.2.2.1) fun r21 =>
 br ((i64.wrap ((i64.wrap ((i64.wrap (r18.2.1+r19.2.1))+r20.2.1))+r21.2.1)) != 0) (
 some (false,())) (
 bd (qw.f lf r18.1 r19.1) fun r22 =>
 bd (aS.f lf 4 r20.1 r21.1) fun r23 =>
 bd (jK.f lf a0.2.1.1 a0.2.2.1.1) fun r24 =>
 bd (iJ.f lf a0.2.1.2.1 a0.2.2.1.2.1) fun r25 =>
 bd (di.f lf 4 a0.2.1 a0.2.2.1) fun r26 =>
 br ((i64.wrap ((i64.wrap ((i64.wrap ((i64.wrap (r22.2.1+r23.2.1))+r24.2.1))+r25.2.1))+r26.2.1)) != 0) (
 some (false,())) (
 bd (dN.f lf r22.1 r15.1) fun r27 =>
 bd (bM.f lf r23.1 r15.1) fun r28 =>
 bd (bJ.f lf r24.1 r15.1) fun r29 =>
 bd (bG.f lf r25.1 r15.1) fun r30 =>
 bd (dF.f lf r26.1 r15.1) fun r31 =>
 br ((i64.wrap ((i64.wrap ((i64.wrap ((i64.wrap (r27.2.1+r28.2.1))+r29.2.1))+r30.2.1))+r31.2.1))==0) (
 br r27.1 (
 br r28.1 (
 br r29.1 (
 br r30.1 (
 br r31.1 (
 bd (au.f lf) fun r32 =>
 some (r32.1,())) (
 some (false,()))) (
 some (false,()))) (
 some (false,()))) (
 some (false,()))) (
 some (false,()))) (
 some (false,())))))) (
 bd (au.f lf) fun r33 =>
 some (r33.1,())))))))))
def tb1(lf:Nat):List (FuncId×Entry):=[(4,bH.E lf),(5,aN.E lf),(6,aO.E lf),(7,aP.E lf),(8,aY.E lf),(9,au.E lf),(11,dS.E lf),(12,bK.E lf),(14,aS.E lf),(17,di.E lf),(18,dN.E lf),(19,bM.E lf),(20,bJ.E lf),(21,bG.E lf),(22,dF.E lf),(36,fM.E lf),(40,aF.E lf),(45,qw.E lf),(52,jK.E lf),(57,iJ.E lf)]
abbrev an1:FuncId→FA:=annsL []
def R1(lf:Nat):Tys PS→Option (Tys RS):=fun x=>runQ Proofs.Tryz.prog an1 noLs (lookT (tb1 lf)) (lf+40) 14 6 3 PS RS x
theorem h1(lf:Nat)(x:Tys PS)(hc:(x.1.1==4)=true):f1 lf x.1=R1 lf x:=by
 obtain⟨⟨op,r⟩,q⟩:=x
 have hc:(op==4)=true:=hc
 obtain rfl:=eq_of_beq hc
 show f1 lf (4,r)=R1 lf ((4,r),q)
 kernel_rfl
def f2(lf:Nat)(a0:Int×(TV×(TV×(ByteArray×(ByteArray×Unit))))):Option (Bool×Unit) :=
 bd (bH.f lf a0.2.1 a0.2.2.1) fun r1 =>
 br (!r1.1) (
 bd (au.f lf) fun r2 =>
 some (r2.1,())) (
 bd (aN.f lf a0.2.1) fun r3 =>
 br (r3.1 != 0) (
 bd (au.f lf) fun r4 =>
 some (r4.1,())) (
 bd (aN.f lf a0.2.2.1) fun r5 =>
 br (r5.1 != 0) (
 bd (au.f lf) fun r6 =>
 some (r6.1,())) (
 bd (aO.f lf [a0.2.2.2.1,a0.2.2.2.2.1]) fun r7 =>
 br (!r7.1) (
 bd (au.f lf) fun r8 =>
 some (r8.1,())) (
 bd (aP.f lf [a0.2.2.2.1,a0.2.2.2.2.1]) fun r9 =>
 br (r9.1 != 0) (
 bd (au.f lf) fun r10 =>
 some (r10.1,())) (
 bd (aY.f lf a0.2.1 a0.2.2.2.1) fun r11 =>
 br (!r11.1) (
 bd (au.f lf) fun r12 =>
 some (r12.1,())) (
 bd (aY.f lf a0.2.2.1 a0.2.2.2.2.1) fun r13 =>
 br (!r13.1) (
 bd (au.f lf) fun r14 =>
 some (r14.1,())) (
 bd (gV.f lf a0.2.2.2.1 a0.2.2.2.2.1) fun r15 =>
 br (r15.2.1==0) (
 bd (aF.f lf r15.1) fun r16 =>
 br (!(decide (r16.1≤100))) (
 bd (au.f lf) fun r17 =>
 some (r17.1,())) (
 bd (dS.f lf a0.2.2.2.1) fun r18 =>
 bd (dS.f lf a0.2.2.2.2.1) fun r19 =>
 bd (bK.f lf a0.2.2.2.1) fun r20 =>
 bd (bK.f lf a0.2.2.2.2.1) fun r21 =>
 br ((i64.wrap ((i64.wrap ((i64.wrap (r18.2.1+r19.2.1))+r20.2.1))+r21.2.1)) != 0) (
 some (false,())) (
 bd (oH.f lf r18.1 r19.1) fun r22 =>
 bd (aS.f lf 5 r20.1 r21.1) fun r23 =>
 bd (jH.f lf a0.2.1.1 a0.2.2.1.1) fun r24 =>
 bd (iF.f lf a0.2.1.2.1 a0.2.2.1.2.1) fun r25 =>
 bd (di.f lf 5 a0.2.1 a0.2.2.1) fun r26 =>
 br ((i64.wrap ((i64.wrap ((i64.wrap ((i64.wrap (r22.2.1+r23.2.1))+r24.2.1))+r25.2.1))+r26.2.1)) != 0) (
 some (false,())) (
 bd (dN.f lf r22.1 r15.1) fun r27 =>
 bd (bM.f lf r23.1 r15.1) fun r28 =>
 bd (bJ.f lf r24.1 r15.1) fun r29 =>
 bd (bG.f lf r25.1 r15.1) fun r30 =>
 bd (dF.f lf r26.1 r15.1) fun r31 =>
 br ((i64.wrap ((i64.wrap ((i64.wrap ((i64.wrap (r27.2.1+r28.2.1))+r29.2.1))+r30.2.1))+r31.2.1))==0) (
 br r27.1 (
 br r28.1 (
 br r29.1 (
 br r30.1 (
 br r31.1 (
 bd (au.f lf) fun r32 =>
 some (r32.1,())) (
 some (false,()))) (
 some (false,()))) (
 some (false,()))) (
 some (false,()))) (
 some (false,()))) (
 some (false,())))))) (
 bd (au.f lf) fun r33 =>
 some (r33.1,())))))))))
def tb2(lf:Nat):List (FuncId×Entry):=[(4,bH.E lf),(5,aN.E lf),(6,aO.E lf),(7,aP.E lf),(8,aY.E lf),(9,au.E lf),(11,dS.E lf),(12,bK.E lf),(14,aS.E lf),(17,di.E lf),(18,dN.E lf),(19,bM.E lf),(20,bJ.E lf),(21,bG.E lf),(22,dF.E lf),(34,oH.E lf),(37,gV.E lf),(40,aF.E lf),(53,jH.E lf),(58,iF.E lf)]
abbrev an2:FuncId→FA:=annsL []
def R2(lf:Nat):Tys PS→Option (Tys RS):=fun x=>runQ Proofs.Tryz.prog an2 noLs (lookT (tb2 lf)) (lf+40) 14 6 3 PS RS x
theorem h2(lf:Nat)(x:Tys PS)(hc:(x.1.1==5)=true):f2 lf x.1=R2 lf x:=by
 obtain⟨⟨op,r⟩,q⟩:=x
 have hc:(op==5)=true:=hc
 obtain rfl:=eq_of_beq hc
 show f2 lf (5,r)=R2 lf ((5,r),q)
 kernel_rfl
def f3(lf:Nat)(a0:Int×(TV×(TV×(ByteArray×(ByteArray×Unit))))):Option (Bool×Unit) :=
 bd (bH.f lf a0.2.1 a0.2.2.1) fun r1 =>
 br (!r1.1) (
 bd (au.f lf) fun r2 =>
 some (r2.1,())) (
 bd (aN.f lf a0.2.1) fun r3 =>
 br (r3.1 != 0) (
 bd (au.f lf) fun r4 =>
 some (r4.1,())) (
 bd (aN.f lf a0.2.2.1) fun r5 =>
 br (r5.1 != 0) (
 bd (au.f lf) fun r6 =>
 some (r6.1,())) (
 bd (aO.f lf [a0.2.2.2.1,a0.2.2.2.2.1]) fun r7 =>
 br (!r7.1) (
 bd (au.f lf) fun r8 =>
 some (r8.1,())) (
 bd (aP.f lf [a0.2.2.2.1,a0.2.2.2.2.1]) fun r9 =>
 br (r9.1 != 0) (
 bd (au.f lf) fun r10 =>
 some (r10.1,())) (
 bd (aY.f lf a0.2.1 a0.2.2.2.1) fun r11 =>
 br (!r11.1) (
 bd (au.f lf) fun r12 =>
 some (r12.1,())) (
 bd (aY.f lf a0.2.2.1 a0.2.2.2.2.1) fun r13 =>
 br (!r13.1) (
 bd (au.f lf) fun r14 =>
 some (r14.1,())) (
 bd (fK.f lf a0.2.2.2.1 a0.2.2.2.2.1) fun r15 =>
 br (r15.2.1==0) (
 bd (aF.f lf r15.1) fun r16 =>
 br (!(decide (r16.1≤100))) (
 bd (au.f lf) fun r17 =>
 some (r17.1,())) (
 bd (dS.f lf a0.2.2.2.1) fun r18 =>
 bd (dS.f lf a0.2.2.2.2.1) fun r19 =>
 bd (bK.f lf a0.2.2.2.1) fun r20 =>
 bd (bK.f lf a0.2.2.2.2.1) fun r21 =>
 br ((i64.wrap ((i64.wrap ((i64.wrap (r18.2.1+r19.2.1))+r20.2.1))+r21.2.1)) != 0) (
 some (false,())) (
 bd (qm.f lf r18.1 r19.1) fun r22 =>
 bd (aS.f lf 6 r20.1 r21.1) fun r23 =>
 bd (jI.f lf a0.2.1.1 a0.2.2.1.1) fun r24 =>
 bd (iG.f lf a0.2.1.2.1 a0.2.2.1.2.1) fun r25 =>
 bd (di.f lf 6 a0.2.1 a0.2.2.1) fun r26 =>
 br ((i64.wrap ((i64.wrap ((i64.wrap ((i64.wrap (r22.2.1+r23.2.1))+r24.2.1))+r25.2.1))+r26.2.1)) != 0) (
 some (false,())) (
 bd (dN.f lf r22.1 r15.1) fun r27 =>
 bd (bM.f lf r23.1 r15.1) fun r28 =>
 bd (bJ.f lf r24.1 r15.1) fun r29 =>
 bd (bG.f lf r25.1 r15.1) fun r30 =>
 bd (dF.f lf r26.1 r15.1) fun r31 =>
 br ((i64.wrap ((i64.wrap ((i64.wrap ((i64.wrap (r27.2.1+r28.2.1))+r29.2.1))+r30.2.1))+r31.2.1))==0) (
 br r27.1 (
 br r28.1 (
 br r29.1 (
 br r30.1 (
 br r31.1 (
 bd (au.f lf) fun r32 =>
 some (r32.1,())) (
 some (false,()))) (
 some (false,()))) (
 some (false,()))) (
 some (false,()))) (
 some (false,()))) (
 some (false,())))))) (
 bd (au.f lf) fun r33 =>
 some (r33.1,())))))))))
def tb3(lf:Nat):List (FuncId×Entry):=[(4,bH.E lf),(5,aN.E lf),(6,aO.E lf),(7,aP.E lf),(8,aY.E lf),(9,au.E lf),(11,dS.E lf),(12,bK.E lf),(14,aS.E lf),(17,di.E lf),(18,dN.E lf),(19,bM.E lf),(20,bJ.E lf),(21,bG.E lf),(22,dF.E lf),(38,fK.E lf),(40,aF.E lf),(46,qm.E lf),(54,jI.E lf),(59,iG.E lf)]
abbrev an3:FuncId→FA:=annsL []
def R3(lf:Nat):Tys PS→Option (Tys RS):=fun x=>runQ Proofs.Tryz.prog an3 noLs (lookT (tb3 lf)) (lf+40) 14 6 3 PS RS x
theorem h3(lf:Nat)(x:Tys PS)(hc:(x.1.1==6)=true):f3 lf x.1=R3 lf x:=by
 obtain⟨⟨op,r⟩,q⟩:=x
 have hc:(op==6)=true:=hc
 obtain rfl:=eq_of_beq hc
 show f3 lf (6,r)=R3 lf ((6,r),q)
 kernel_rfl
def f4(lf:Nat)(a0:Int×(TV×(TV×(ByteArray×(ByteArray×Unit))))):Option (Bool×Unit) :=
 bd (bH.f lf a0.2.1 a0.2.2.1) fun r1 =>
 br (!r1.1) (
 bd (au.f lf) fun r2 =>
 some (r2.1,())) (
 bd (aN.f lf a0.2.1) fun r3 =>
 br (r3.1 != 0) (
 bd (au.f lf) fun r4 =>
 some (r4.1,())) (
 bd (aN.f lf a0.2.2.1) fun r5 =>
 br (r5.1 != 0) (
 bd (au.f lf) fun r6 =>
 some (r6.1,())) (
 bd (aO.f lf [a0.2.2.2.1,a0.2.2.2.2.1]) fun r7 =>
 br (!r7.1) (
 bd (au.f lf) fun r8 =>
 some (r8.1,())) (
 bd (aP.f lf [a0.2.2.2.1,a0.2.2.2.2.1]) fun r9 =>
 br (r9.1 != 0) (
 bd (au.f lf) fun r10 =>
 some (r10.1,())) (
 bd (aY.f lf a0.2.1 a0.2.2.2.1) fun r11 =>
 br (!r11.1) (
 bd (au.f lf) fun r12 =>
 some (r12.1,())) (
 bd (aY.f lf a0.2.2.1 a0.2.2.2.2.1) fun r13 =>
 br (!r13.1) (
 bd (au.f lf) fun r14 =>
 some (r14.1,())) (
 bd (dA.f lf a0.2.2.2.1 a0.2.2.2.2.1) fun r15 =>
 br (r15.2.1==0) (
 bd (aF.f lf r15.1) fun r16 =>
 br (!(decide (r16.1≤100))) (
 bd (au.f lf) fun r17 =>
 some (r17.1,())) (
 bd (dS.f lf a0.2.2.2.1) fun r18 =>
 bd (dS.f lf a0.2.2.2.2.1) fun r19 =>
 bd (bK.f lf a0.2.2.2.1) fun r20 =>
 bd (bK.f lf a0.2.2.2.2.1) fun r21 =>
 br ((i64.wrap ((i64.wrap ((i64.wrap (r18.2.1+r19.2.1))+r20.2.1))+r21.2.1)) != 0) (
 some (false,())) (
 bd (qo.f lf r18.1 r19.1) fun r22 =>
 bd (aS.f lf 7 r20.1 r21.1) fun r23 =>
 bd (jJ.f lf a0.2.1.1 a0.2.2.1.1) fun r24 =>
 bd (iH.f lf a0.2.1.2.1 a0.2.2.1.2.1) fun r25 =>
 bd (di.f lf 7 a0.2.1 a0.2.2.1) fun r26 =>
 br ((i64.wrap ((i64.wrap ((i64.wrap ((i64.wrap (r22.2.1+r23.2.1))+r24.2.1))+r25.2.1))+r26.2.1)) != 0) (
 some (false,())) (
 bd (dN.f lf r22.1 r15.1) fun r27 =>
 bd (bM.f lf r23.1 r15.1) fun r28 =>
 bd (bJ.f lf r24.1 r15.1) fun r29 =>
 bd (bG.f lf r25.1 r15.1) fun r30 =>
 bd (dF.f lf r26.1 r15.1) fun r31 =>
 br ((i64.wrap ((i64.wrap ((i64.wrap ((i64.wrap (r27.2.1+r28.2.1))+r29.2.1))+r30.2.1))+r31.2.1))==0) (
 br r27.1 (
 br r28.1 (
 br r29.1 (
 br r30.1 (
 br r31.1 (
 bd (au.f lf) fun r32 =>
 some (r32.1,())) (
 some (false,()))) (
 some (false,()))) (
 some (false,()))) (
 some (false,()))) (
 some (false,()))) (
 some (false,())))))) (
 bd (au.f lf) fun r33 =>
 some (r33.1,())))))))))
def tb4(lf:Nat):List (FuncId×Entry):=[(4,bH.E lf),(5,aN.E lf),(6,aO.E lf),(7,aP.E lf),(8,aY.E lf),(9,au.E lf),(11,dS.E lf),(12,bK.E lf),(14,aS.E lf),(17,di.E lf),(18,dN.E lf),(19,bM.E lf),(20,bJ.E lf),(21,bG.E lf),(22,dF.E lf),(39,dA.E lf),(40,aF.E lf),(47,qo.E lf),(55,jJ.E lf),(60,iH.E lf)]
abbrev an4:FuncId→FA:=annsL []
def R4(lf:Nat):Tys PS→Option (Tys RS):=fun x=>runQ Proofs.Tryz.prog an4 noLs (lookT (tb4 lf)) (lf+40) 14 6 3 PS RS x
theorem h4(lf:Nat)(x:Tys PS)(hc:(x.1.1==7)=true):f4 lf x.1=R4 lf x:=by
 obtain⟨⟨op,r⟩,q⟩:=x
 have hc:(op==7)=true:=hc
 obtain rfl:=eq_of_beq hc
 show f4 lf (7,r)=R4 lf ((7,r),q)
 kernel_rfl
def fE(lf:Nat)(a0:Int×(TV×(TV×(ByteArray×(ByteArray×Unit))))):Option (Bool×Unit) :=
 bd (bH.f lf a0.2.1 a0.2.2.1) fun r1 =>
 br (!r1.1) (
 bd (au.f lf) fun r2 =>
 some (r2.1,())) (
 bd (aN.f lf a0.2.1) fun r3 =>
 br (r3.1 != 0) (
 bd (au.f lf) fun r4 =>
 some (r4.1,())) (
 bd (aN.f lf a0.2.2.1) fun r5 =>
 br (r5.1 != 0) (
 bd (au.f lf) fun r6 =>
 some (r6.1,())) (
 bd (aO.f lf [a0.2.2.2.1,a0.2.2.2.2.1]) fun r7 =>
 br (!r7.1) (
 bd (au.f lf) fun r8 =>
 some (r8.1,())) (
 bd (aP.f lf [a0.2.2.2.1,a0.2.2.2.2.1]) fun r9 =>
 br (r9.1 != 0) (
 bd (au.f lf) fun r10 =>
 some (r10.1,())) (
 bd (aY.f lf a0.2.1 a0.2.2.2.1) fun r11 =>
 br (!r11.1) (
 bd (au.f lf) fun r12 =>
 some (r12.1,())) (
 bd (aY.f lf a0.2.2.1 a0.2.2.2.2.1) fun r13 =>
 br (!r13.1) (
 bd (au.f lf) fun r14 =>
 some (r14.1,())) (
 br (a0.1==3) (
 none) (
 br (a0.1==4) (
 none) (
 br (a0.1==5) (
 none) (
 br (a0.1==6) (
 none) (
 br (a0.1==7) (
 none) (
 bd (au.f lf) fun r15 =>
 some (r15.1,())))))))))))))
def tbE(lf:Nat):List (FuncId×Entry):=[(4,bH.E lf),(5,aN.E lf),(6,aO.E lf),(7,aP.E lf),(8,aY.E lf),(9,au.E lf),(35,noE),(36,noE),(37,noE),(38,noE),(39,noE)]
abbrev anE:FuncId→FA:=annsL []
theorem hE(lf:Nat):Ok 3 ⟨PS,RS,fun x=>fE lf x.1⟩:=okT (an:=anE) (tb:=tbE lf) (lf:=lf) (tC (bH.ok lf) (tC (aN.ok lf) (tC (aO.ok lf) (tC (aP.ok lf) (tC (aY.ok lf) (tC (au.ok lf) (tC (okZ (E:=noE) fun _=>rfl) (tC (okZ (E:=noE) fun _=>rfl) (tC (okZ (E:=noE) fun _=>rfl) (tC (okZ (E:=noE) fun _=>rfl) (tC (okZ (E:=noE) fun _=>rfl) tN))))))))))) aoN fun x=>by kernel_rfl
def f(lf:Nat)(a0:Int×(TV×(TV×(ByteArray×(ByteArray×Unit))))):Option (Bool×Unit):=br (a0.1==3) (f0 lf a0) (br (a0.1==4) (f1 lf a0) (br (a0.1==5) (f2 lf a0) (br (a0.1==6) (f3 lf a0) (br (a0.1==7) (f4 lf a0) (fE lf a0)))))
def E(lf:Nat):Entry:=⟨[(.pair (.int .i64) (.pair yV (.pair yV (.pair .str (.pair .str .unit)))))],[.bool],fun x=>f lf x.1⟩
theorem ok(lf:Nat):Ok 3 (E lf):=okB (ps:=PS) (rs:=RS) (an:=an0) (tb:=tb0 lf) (lf:=lf) (tC (bH.ok lf) (tC (aN.ok lf) (tC (aO.ok lf) (tC (aP.ok lf) (tC (aY.ok lf) (tC (au.ok lf) (tC (dS.ok lf) (tC (bK.ok lf) (tC (aS.ok lf) (tC (di.ok lf) (tC (dN.ok lf) (tC (bM.ok lf) (tC (bJ.ok lf) (tC (bG.ok lf) (tC (dF.ok lf) (tC (fJ.ok lf) (tC (aF.ok lf) (tC (qj.ok lf) (tC (jG.ok lf) (tC (iE.ok lf) tN)))))))))))))))))))) aoN (fun x=>x.1.1==3) (f:=fun x=>f0 lf x.1) (R:=R0 lf) (fun _=>rfl) (h0 lf) (okB (ps:=PS) (rs:=RS) (an:=an1) (tb:=tb1 lf) (lf:=lf) (tC (bH.ok lf) (tC (aN.ok lf) (tC (aO.ok lf) (tC (aP.ok lf) (tC (aY.ok lf) (tC (au.ok lf) (tC (dS.ok lf) (tC (bK.ok lf) (tC (aS.ok lf) (tC (di.ok lf) (tC (dN.ok lf) (tC (bM.ok lf) (tC (bJ.ok lf) (tC (bG.ok lf) (tC (dF.ok lf) (tC (fM.ok lf) (tC (aF.ok lf) (tC (qw.ok lf) (tC (jK.ok lf) (tC (iJ.ok lf) tN)))))))))))))))))))) aoN (fun x=>x.1.1==4) (f:=fun x=>f1 lf x.1) (R:=R1 lf) (fun _=>rfl) (h1 lf) (okB (ps:=PS) (rs:=RS) (an:=an2) (tb:=tb2 lf) (lf:=lf) (tC (bH.ok lf) (tC (aN.ok lf) (tC (aO.ok lf) (tC (aP.ok lf) (tC (aY.ok lf) (tC (au.ok lf) (tC (dS.ok lf) (tC (bK.ok lf) (tC (aS.ok lf) (tC (di.ok lf) (tC (dN.ok lf) (tC (bM.ok lf) (tC (bJ.ok lf) (tC (bG.ok lf) (tC (dF.ok lf) (tC (oH.ok lf) (tC (gV.ok lf) (tC (aF.ok lf) (tC (jH.ok lf) (tC (iF.ok lf) tN)))))))))))))))))))) aoN (fun x=>x.1.1==5) (f:=fun x=>f2 lf x.1) (R:=R2 lf) (fun _=>rfl) (h2 lf) (okB (ps:=PS) (rs:=RS) (an:=an3) (tb:=tb3 lf) (lf:=lf) (tC (bH.ok lf) (tC (aN.ok lf) (tC (aO.ok lf) (tC (aP.ok lf) (tC (aY.ok lf) (tC (au.ok lf) (tC (dS.ok lf) (tC (bK.ok lf) (tC (aS.ok lf) (tC (di.ok lf) (tC (dN.ok lf) (tC (bM.ok lf) (tC (bJ.ok lf) (tC (bG.ok lf) (tC (dF.ok lf) (tC (fK.ok lf) (tC (aF.ok lf) (tC (qm.ok lf) (tC (jI.ok lf) (tC (iG.ok lf) tN)))))))))))))))))))) aoN (fun x=>x.1.1==6) (f:=fun x=>f3 lf x.1) (R:=R3 lf) (fun _=>rfl) (h3 lf) (okB (ps:=PS) (rs:=RS) (an:=an4) (tb:=tb4 lf) (lf:=lf) (tC (bH.ok lf) (tC (aN.ok lf) (tC (aO.ok lf) (tC (aP.ok lf) (tC (aY.ok lf) (tC (au.ok lf) (tC (dS.ok lf) (tC (bK.ok lf) (tC (aS.ok lf) (tC (di.ok lf) (tC (dN.ok lf) (tC (bM.ok lf) (tC (bJ.ok lf) (tC (bG.ok lf) (tC (dF.ok lf) (tC (dA.ok lf) (tC (aF.ok lf) (tC (qo.ok lf) (tC (jJ.ok lf) (tC (iH.ok lf) tN)))))))))))))))))))) aoN (fun x=>x.1.1==7) (f:=fun x=>f4 lf x.1) (R:=R4 lf) (fun _=>rfl) (h4 lf) (hE lf)))))
end bD
end
end Go.Q
