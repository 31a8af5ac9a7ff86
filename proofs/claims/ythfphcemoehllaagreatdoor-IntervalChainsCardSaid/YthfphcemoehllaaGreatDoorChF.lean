import Derived.Test.YthfphcemoehllaaGreatDoorProg
import Derived.KernelRfl
import Derived.Test.YthfphcemoehllaaGreatDoorE3
import Derived.Test.YthfphcemoehllaaGreatDoorU10
import Derived.Test.YthfphcemoehllaaGreatDoorU12
import Derived.Test.YthfphcemoehllaaGreatDoorU6
import Derived.Test.YthfphcemoehllaaGreatDoorU7
import Derived.Test.YthfphcemoehllaaGreatDoorU9
set_option linter.unusedVariables false
set_option linter.unusedSimpArgs false
set_option linter.unusedSectionVars false
namespace Go.Q
open Go Go.RowKit
open Go.Rx (br bd sIdx sCat sCut iQuo iRem)
set_option linter.unusedVariables false
set_option linter.unusedSimpArgs false
set_option maxRecDepth 100000
noncomputable section
noncomputable def surveyorlaw21_IntervalChains_1.f (lf : Nat) (a0 : (Bool × (ByteArray × (ByteArray × Unit)))) (a1 : (Bool × (ByteArray × (ByteArray × Unit)))) : Option (Bool × Unit) :=
 bd (interval_Leq.f lf a0 a1) fun r1 =>
 br r1.1 (
  some ((r1.2.1 == 0), ())) (
  some (false, ()))
noncomputable def surveyorlaw21_IntervalChains_1.E (lf : Nat) : Entry := ⟨[(.pair .bool (.pair .str (.pair .str .unit))), (.pair .bool (.pair .str (.pair .str .unit)))], [.bool], fun x => surveyorlaw21_IntervalChains_1.f lf x.1 x.2.1⟩
theorem surveyorlaw21_IntervalChains_1.ev (lf : Nat) (x : Tys (surveyorlaw21_IntervalChains_1.E lf).ps) : (surveyorlaw21_IntervalChains_1.E lf).f x = runQ Proofs.Tryz.prog (fun _ => FA.none) noLs (lookT [(22, interval_Leq.E lf)]) (lf + 40) 14 6 21 (surveyorlaw21_IntervalChains_1.E lf).ps (surveyorlaw21_IntervalChains_1.E lf).rs x := by kernel_rfl
theorem surveyorlaw21_IntervalChains_1.ok (lf : Nat) : EntryOK Proofs.Tryz.prog TabG 21 (surveyorlaw21_IntervalChains_1.E lf) := entryT (lookT_cons (interval_Leq.ok lf) lookT_nil) (annsOK_none fun _ => rfl) (surveyorlaw21_IntervalChains_1.ev lf)
noncomputable def surveyorlaw21_IntervalChains.anns : FuncId → FA := fun g => bif g == 4 then ⟨fun li => bif li == 0 then (⟨[0, 1, 4, 5, 6, 9, 10, 11, 12, 13, 14, 15, 16, 17, 18, 19, 20, 21, 22, 23, 24, 25, 26, 27, 28, 29, 30, 31, 32, 33, 37, 38, 39, 40, 41, 42, 43, 44, 45, 46, 47, 48, 49, 50, 51, 52, 53, 54, 55, 56, 57, 58, 59, 60, 61, 62, 63, 64, 65, 66, 67, 68, 69, 70, 71, 72, 73, 74, 75, 76, 77, 78, 79, 80, 81, 82, 83, 84, 85, 86, 87, 88, 89, 90, 91, 92, 93, 94, 95, 96, 97, 98, 99, 100, 101, 102, 103, 104, 105, 106, 107, 108, 109], [], []⟩, ⟨[0, 1, 3, 4, 5, 7, 9, 10, 11, 12, 13, 14, 15, 16, 17, 18, 19, 20, 21, 22, 23, 24, 25, 26, 27, 28, 29, 30, 31, 32, 33, 34, 35, 36, 37, 38, 39, 40, 41, 42, 43, 44, 45, 46, 47, 48, 49, 50, 51, 52, 53, 54, 55, 56, 57, 58, 59, 60, 61, 62, 63, 64, 65, 66, 67, 68, 69, 70, 71, 72, 73, 74, 75, 76, 77, 78, 79, 80, 81, 82, 83, 84, 85, 86, 87, 88, 89, 90, 91, 92, 93, 94, 95, 96, 97, 98, 99, 100, 101, 102, 103, 104, 105, 106, 107, 108, 109], [], []⟩) else (⟨[], [], []⟩, ⟨[], [], []⟩), none⟩ else FA.none
theorem surveyorlaw21_IntervalChains.sp : AnnsOK Proofs.Tryz.prog surveyorlaw21_IntervalChains.anns := by
  intro g s h
  unfold surveyorlaw21_IntervalChains.anns at h
  by_cases e4 : g = 4
  · subst e4
    cases h
  have e4' : (g == 4) = false := by simpa using e4
  rw [e4', cond_false] at h
  cases h
noncomputable def surveyorlaw21_IntervalChains.l0 (lf : Nat) (v0_0 : (List ByteArray)) (v0_2 : (List (Bool × (ByteArray × (ByteArray × Unit))))) (v0_3 : Int) : Nat → Int → Int → Bool → ByteArray → ByteArray → Option (Bool × (Bool × Int × Bool × ByteArray × ByteArray × Unit) × (Int × Bool × ByteArray × ByteArray × Unit) × Unit)
  | 0, _, _, _, _, _ => none
  | n + 1, v0_1, v0_4, v0_5, v0_6, v0_7 =>
  br (decide (v0_4 < v0_3)) (
   bd (idxL v0_2 v0_4) fun y7 =>
   bd (surveyorref21_Check.f lf y7) fun r8 =>
   br (r8.1 != 0) (
    bd (surveyorlaw21_awake.f lf) fun r9 =>
    some (true, (r9.1, v0_1, v0_5, v0_6, v0_7, ()), ((0, false, (⟨#[]⟩ : ByteArray), (⟨#[]⟩ : ByteArray), ()), ()))) (
    bd (interval_Widen.f lf (v0_5, v0_6, v0_7, ()) y7 v0_0) fun r10 =>
    br (r10.2.1 != 0) (
     some (true, (false, v0_1, v0_5, v0_6, v0_7, ()), ((0, false, (⟨#[]⟩ : ByteArray), (⟨#[]⟩ : ByteArray), ()), ()))) (
     bd (surveyorlaw21_IntervalChains_1.f lf (v0_5, v0_6, v0_7, ()) r10.1) fun r11 =>
     br (!r11.1) (
      some (true, (false, v0_1, v0_5, v0_6, v0_7, ()), ((0, false, (⟨#[]⟩ : ByteArray), (⟨#[]⟩ : ByteArray), ()), ()))) (
      bd (surveyorlaw21_IntervalChains_1.f lf y7 r10.1) fun r12 =>
      br (!r12.1) (
       some (true, (false, v0_1, v0_5, v0_6, v0_7, ()), ((0, false, (⟨#[]⟩ : ByteArray), (⟨#[]⟩ : ByteArray), ()), ()))) (
       bd (interval_Narrow.f lf r10.1 (v0_5, v0_6, v0_7, ())) fun r13 =>
       br (r13.2.1 != 0) (
        some (true, (false, v0_1, v0_5, v0_6, v0_7, ()), ((0, false, (⟨#[]⟩ : ByteArray), (⟨#[]⟩ : ByteArray), ()), ()))) (
        br (!v0_5) (
         bd (surveyorlaw21_IntervalChains_1.f lf (v0_5, v0_6, v0_7, ()) r13.1) fun r14 =>
         br (!r14.1) (
          some (true, (false, v0_1, v0_5, v0_6, v0_7, ()), ((0, false, (⟨#[]⟩ : ByteArray), (⟨#[]⟩ : ByteArray), ()), ()))) (
          bd (surveyorlaw21_IntervalChains_1.f lf r13.1 r10.1) fun r15 =>
          br (!r15.1) (
           some (true, (false, v0_1, v0_5, v0_6, v0_7, ()), ((0, false, (⟨#[]⟩ : ByteArray), (⟨#[]⟩ : ByteArray), ()), ()))) (
           bd (some (!((r10.1.1 == v0_5) && ((r10.1.2.1 == v0_6) && ((r10.1.2.2.1 == v0_7) && true))))) fun r16 =>
           br r16 (
            surveyorlaw21_IntervalChains.l0 lf v0_0 v0_2 v0_3 n (IntKind.i64.wrap (v0_1 + 1)) (IntKind.i64.wrap (v0_4 + 1)) r10.1.1 r10.1.2.1 r10.1.2.2.1) (
            surveyorlaw21_IntervalChains.l0 lf v0_0 v0_2 v0_3 n v0_1 (IntKind.i64.wrap (v0_4 + 1)) r10.1.1 r10.1.2.1 r10.1.2.2.1)))) (
         bd (some (!((r10.1.1 == v0_5) && ((r10.1.2.1 == v0_6) && ((r10.1.2.2.1 == v0_7) && true))))) fun r17 =>
         br r17 (
          surveyorlaw21_IntervalChains.l0 lf v0_0 v0_2 v0_3 n (IntKind.i64.wrap (v0_1 + 1)) (IntKind.i64.wrap (v0_4 + 1)) r10.1.1 r10.1.2.1 r10.1.2.2.1) (
          surveyorlaw21_IntervalChains.l0 lf v0_0 v0_2 v0_3 n v0_1 (IntKind.i64.wrap (v0_4 + 1)) r10.1.1 r10.1.2.1 r10.1.2.2.1)))))))) (
   some (false, (false, 0, false, (⟨#[]⟩ : ByteArray), (⟨#[]⟩ : ByteArray), ()), ((v0_1, v0_5, v0_6, v0_7, ()), ())))
noncomputable def surveyorlaw21_IntervalChains.S0 (v0_0 : (List ByteArray)) (v0_1 : Int) (v0_2 : (List (Bool × (ByteArray × (ByteArray × Unit))))) (v0_3 : Int) (v0_4 : Int) (v0_5 : Bool) (v0_6 : ByteArray) (v0_7 : ByteArray) : St := ([.any, .any, .sl .str v0_0, .ptr 0 0, .any, .any, .any, .fn 21 [] [], .v (.int .i64 v0_1), .any, .any, .any, .any, .any, .any, .any, .any, .any, .any, .any, .any, .any, .any, .any, .any, .any, .any, .any, .any, .any, .any, .any, .any, .any, .sl (.pair .bool (.pair .str (.pair .str .unit))) v0_2, .v (.int .i64 v0_3), .v (.int .i64 v0_4), .any, .any, .any, .any, .any, .any, .any, .any, .any, .any, .any, .any, .any, .any, .any, .any, .any, .any, .any, .any, .any, .any, .any, .any, .any, .any, .any, .any, .any, .any, .any, .any, .any, .any, .any, .any, .any, .any, .any, .any, .any, .any, .any, .any, .any, .any, .any, .any, .any, .any, .any, .any, .any, .any, .any, .any, .any, .any, .any, .any, .any, .any, .any, .any, .any, .any, .any, .any, .any, .any, .any, .any, .any], [some (.cells [.v (.bool v0_5), .v (.string v0_6), .v (.string v0_7)] 24)])
noncomputable def surveyorlaw21_IntervalChains.X0 (w0 : (List ByteArray)) (w1 : Bool) (w2 : Int) (w3 : Bool) (w4 : ByteArray) (w5 : ByteArray) : St := ([.any, .any, .sl .str w0, .any, .any, .any, .v (.bool w1), .any, .v (.int .i64 w2), .any, .any, .any, .any, .any, .any, .any, .any, .any, .any, .any, .any, .any, .any, .any, .any, .any, .any, .any, .any, .any, .any, .any, .any, .any, .any, .any, .any, .any, .any, .any, .any, .any, .any, .any, .any, .any, .any, .any, .any, .any, .any, .any, .any, .any, .any, .any, .any, .any, .any, .any, .any, .any, .any, .any, .any, .any, .any, .any, .any, .any, .any, .any, .any, .any, .any, .any, .any, .any, .any, .any, .any, .any, .any, .any, .any, .any, .any, .any, .any, .any, .any, .any, .any, .any, .any, .any, .any, .any, .any, .any, .any, .any, .any, .any, .any, .any, .any, .any, .any, .any], [some (.cells [.v (.bool w3), .v (.string w4), .v (.string w5)] 24)])
noncomputable def surveyorlaw21_IntervalChains.X1 (w0 : (List ByteArray)) (w1 : Int) (w2 : Bool) (w3 : ByteArray) (w4 : ByteArray) : St := ([.any, .any, .sl .str w0, .any, .any, .any, .any, .any, .v (.int .i64 w1), .any, .any, .any, .any, .any, .any, .any, .any, .any, .any, .any, .any, .any, .any, .any, .any, .any, .any, .any, .any, .any, .any, .any, .any, .any, .any, .any, .any, .any, .any, .any, .any, .any, .any, .any, .any, .any, .any, .any, .any, .any, .any, .any, .any, .any, .any, .any, .any, .any, .any, .any, .any, .any, .any, .any, .any, .any, .any, .any, .any, .any, .any, .any, .any, .any, .any, .any, .any, .any, .any, .any, .any, .any, .any, .any, .any, .any, .any, .any, .any, .any, .any, .any, .any, .any, .any, .any, .any, .any, .any, .any, .any, .any, .any, .any, .any, .any, .any, .any, .any, .any], [some (.cells [.v (.bool w2), .v (.string w3), .v (.string w4)] 24)])
noncomputable def surveyorlaw21_IntervalChains.m0 : (st : St) → Option {x : (List ByteArray) × Int × (List (Bool × (ByteArray × (ByteArray × Unit)))) × Int × Int × Bool × ByteArray × ByteArray × Unit // st = surveyorlaw21_IntervalChains.S0 x.1 x.2.1 x.2.2.1 x.2.2.2.1 x.2.2.2.2.1 x.2.2.2.2.2.1 x.2.2.2.2.2.2.1 x.2.2.2.2.2.2.2.1}
  | ((.any :: .any :: (.sl .str v0_0) :: (.ptr 0 0) :: .any :: .any :: .any :: (.fn 21 [] []) :: (.v (.int .i64 v0_1)) :: .any :: .any :: .any :: .any :: .any :: .any :: .any :: .any :: .any :: .any :: .any :: .any :: .any :: .any :: .any :: .any :: .any :: .any :: .any :: .any :: .any :: .any :: .any :: .any :: .any :: (.sl (.pair .bool (.pair .str (.pair .str .unit))) v0_2) :: (.v (.int .i64 v0_3)) :: (.v (.int .i64 v0_4)) :: .any :: .any :: .any :: .any :: .any :: .any :: .any :: .any :: .any :: .any :: .any :: .any :: .any :: .any :: .any :: .any :: .any :: .any :: .any :: .any :: .any :: .any :: .any :: .any :: .any :: .any :: .any :: .any :: .any :: .any :: .any :: .any :: .any :: .any :: .any :: .any :: .any :: .any :: .any :: .any :: .any :: .any :: .any :: .any :: .any :: .any :: .any :: .any :: .any :: .any :: .any :: .any :: .any :: .any :: .any :: .any :: .any :: .any :: .any :: .any :: .any :: .any :: .any :: .any :: .any :: .any :: .any :: .any :: .any :: .any :: .any :: .any :: .any :: []), ((some (.cells ((.v (.bool v0_5)) :: (.v (.string v0_6)) :: (.v (.string v0_7)) :: []) 24)) :: [])) => some ⟨(v0_0, v0_1, v0_2, v0_3, v0_4, v0_5, v0_6, v0_7, ()), rfl⟩
  | _ => none
noncomputable def surveyorlaw21_IntervalChains.o0 (v0_0 : (List ByteArray)) (v0_2 : (List (Bool × (ByteArray × (ByteArray × Unit))))) (v0_3 : Int) (y : Bool × (Bool × Int × Bool × ByteArray × ByteArray × Unit) × (Int × Bool × ByteArray × ByteArray × Unit) × Unit) : Alt := .two y.1 (.one .ret (surveyorlaw21_IntervalChains.X0 v0_0 y.2.1.1 y.2.1.2.1 y.2.1.2.2.1 y.2.1.2.2.2.1 y.2.1.2.2.2.2.1)) (.one (.exit 0) (surveyorlaw21_IntervalChains.X1 v0_0 y.2.2.1.1 y.2.2.1.2.1 y.2.2.1.2.2.1 y.2.2.1.2.2.2.1))
noncomputable def surveyorlaw21_IntervalChains.tb (lf : Nat) : List (FuncId × Entry) := [(12, surveyorlaw21_awake.E lf), (13, interval_Widen.E lf), (15, interval_Narrow.E lf), (19, surveyorref21_Check.E lf), (20, surveyorref21_Thresholds.E lf), (21, surveyorlaw21_IntervalChains_1.E lf)]
noncomputable def surveyorlaw21_IntervalChains.s13_4 (lf : Nat) : Sums := fun li st => match li with
  | 0 => ((surveyorlaw21_IntervalChains.m0 st).map fun p => (⟨Bool × (Bool × Int × Bool × ByteArray × ByteArray × Unit) × (Int × Bool × ByteArray × ByteArray × Unit) × Unit, surveyorlaw21_IntervalChains.l0 lf p.1.1 p.1.2.2.1 p.1.2.2.2.1 (lf + 40) p.1.2.1 p.1.2.2.2.2.1 p.1.2.2.2.2.2.1 p.1.2.2.2.2.2.2.1 p.1.2.2.2.2.2.2.2.1, surveyorlaw21_IntervalChains.o0 p.1.1 p.1.2.2.1 p.1.2.2.2.1⟩ : LTE))
  | _ => none
noncomputable def surveyorlaw21_IntervalChains.ls (lf : Nat) : List (Nat × FuncId × Sums) := [(13, 4, surveyorlaw21_IntervalChains.s13_4 lf)]
noncomputable def surveyorlaw21_IntervalChains.dr (lf : Nat) (ρ : Type) : Draws ρ := drawA Proofs.Tryz.prog (lookT (surveyorlaw21_IntervalChains.tb lf)) 0 fun n => clQ Proofs.Tryz.prog surveyorlaw21_IntervalChains.anns (lookT (surveyorlaw21_IntervalChains.tb lf)) (lf + 40) 14 6 n ρ
noncomputable def surveyorlaw21_IntervalChains.it0 {ρ : Type} (lf n : Nat) (st : St) (k : KE ρ) : Option ρ := iterK (nrmS 0 ((surveyorlaw21_IntervalChains.anns 4).ann 0).1 1) (nrmS 0 ((surveyorlaw21_IntervalChains.anns 4).ann 0).2 1) (codeK Proofs.Tryz.prog 4 (surveyorlaw21_IntervalChains.anns 4).ann (surveyorlaw21_IntervalChains.s13_4 lf) (surveyorlaw21_IntervalChains.dr lf ρ) (goK Proofs.Tryz.prog surveyorlaw21_IntervalChains.anns (lsOf (surveyorlaw21_IntervalChains.ls lf)) (surveyorlaw21_IntervalChains.dr lf ρ) (lookT (surveyorlaw21_IntervalChains.tb lf)) 0 (lf + 40) 13) 0 (lf + 40) none 1 (loopP Proofs.Tryz.prog 4 0)) n st k
theorem surveyorlaw21_IntervalChains.t0 {ρ : Type} (lf n : Nat) (v0_0 : (List ByteArray)) (v0_1 : Int) (v0_2 : (List (Bool × (ByteArray × (ByteArray × Unit))))) (v0_3 : Int) (v0_4 : Int) (v0_5 : Bool) (v0_6 : ByteArray) (v0_7 : ByteArray) (k : KE ρ) : surveyorlaw21_IntervalChains.it0 lf (n + 1) (surveyorlaw21_IntervalChains.S0 v0_0 v0_1 v0_2 v0_3 v0_4 v0_5 v0_6 v0_7) k =
  br (decide (v0_4 < v0_3)) (
   bd (idxL v0_2 v0_4) fun y7 =>
   bd (surveyorref21_Check.f lf y7) fun r8 =>
   br (r8.1 != 0) (
    bd (surveyorlaw21_awake.f lf) fun r9 =>
    k .ret (surveyorlaw21_IntervalChains.X0 v0_0 r9.1 v0_1 v0_5 v0_6 v0_7)) (
    bd (interval_Widen.f lf (v0_5, v0_6, v0_7, ()) y7 v0_0) fun r10 =>
    br (r10.2.1 != 0) (
     k .ret (surveyorlaw21_IntervalChains.X0 v0_0 false v0_1 v0_5 v0_6 v0_7)) (
     bd (surveyorlaw21_IntervalChains_1.f lf (v0_5, v0_6, v0_7, ()) r10.1) fun r11 =>
     br (!r11.1) (
      k .ret (surveyorlaw21_IntervalChains.X0 v0_0 false v0_1 v0_5 v0_6 v0_7)) (
      bd (surveyorlaw21_IntervalChains_1.f lf y7 r10.1) fun r12 =>
      br (!r12.1) (
       k .ret (surveyorlaw21_IntervalChains.X0 v0_0 false v0_1 v0_5 v0_6 v0_7)) (
       bd (interval_Narrow.f lf r10.1 (v0_5, v0_6, v0_7, ())) fun r13 =>
       br (r13.2.1 != 0) (
        k .ret (surveyorlaw21_IntervalChains.X0 v0_0 false v0_1 v0_5 v0_6 v0_7)) (
        br (!v0_5) (
         bd (surveyorlaw21_IntervalChains_1.f lf (v0_5, v0_6, v0_7, ()) r13.1) fun r14 =>
         br (!r14.1) (
          k .ret (surveyorlaw21_IntervalChains.X0 v0_0 false v0_1 v0_5 v0_6 v0_7)) (
          bd (surveyorlaw21_IntervalChains_1.f lf r13.1 r10.1) fun r15 =>
          br (!r15.1) (
           k .ret (surveyorlaw21_IntervalChains.X0 v0_0 false v0_1 v0_5 v0_6 v0_7)) (
           bd (some (!((r10.1.1 == v0_5) && ((r10.1.2.1 == v0_6) && ((r10.1.2.2.1 == v0_7) && true))))) fun r16 =>
           br r16 (
            surveyorlaw21_IntervalChains.it0 lf n (surveyorlaw21_IntervalChains.S0 v0_0 (IntKind.i64.wrap (v0_1 + 1)) v0_2 v0_3 (IntKind.i64.wrap (v0_4 + 1)) r10.1.1 r10.1.2.1 r10.1.2.2.1) k) (
            surveyorlaw21_IntervalChains.it0 lf n (surveyorlaw21_IntervalChains.S0 v0_0 v0_1 v0_2 v0_3 (IntKind.i64.wrap (v0_4 + 1)) r10.1.1 r10.1.2.1 r10.1.2.2.1) k)))) (
         bd (some (!((r10.1.1 == v0_5) && ((r10.1.2.1 == v0_6) && ((r10.1.2.2.1 == v0_7) && true))))) fun r17 =>
         br r17 (
          surveyorlaw21_IntervalChains.it0 lf n (surveyorlaw21_IntervalChains.S0 v0_0 (IntKind.i64.wrap (v0_1 + 1)) v0_2 v0_3 (IntKind.i64.wrap (v0_4 + 1)) r10.1.1 r10.1.2.1 r10.1.2.2.1) k) (
          surveyorlaw21_IntervalChains.it0 lf n (surveyorlaw21_IntervalChains.S0 v0_0 v0_1 v0_2 v0_3 (IntKind.i64.wrap (v0_4 + 1)) r10.1.1 r10.1.2.1 r10.1.2.2.1) k)))))))) (
   k (.exit 0) (surveyorlaw21_IntervalChains.X1 v0_0 v0_1 v0_5 v0_6 v0_7)) := by kernel_rfl
theorem surveyorlaw21_IntervalChains.u0 {ρ : Type} (lf : Nat) (v0_0 : (List ByteArray)) (v0_2 : (List (Bool × (ByteArray × (ByteArray × Unit))))) (v0_3 : Int) (k : KE ρ) : ∀ (n : Nat) (v0_1 : Int) (v0_4 : Int) (v0_5 : Bool) (v0_6 : ByteArray) (v0_7 : ByteArray), surveyorlaw21_IntervalChains.it0 lf n (surveyorlaw21_IntervalChains.S0 v0_0 v0_1 v0_2 v0_3 v0_4 v0_5 v0_6 v0_7) k = bd (surveyorlaw21_IntervalChains.l0 lf v0_0 v0_2 v0_3 n v0_1 v0_4 v0_5 v0_6 v0_7) fun y => altK k (surveyorlaw21_IntervalChains.o0 v0_0 v0_2 v0_3 y)
  | 0, _, _, _, _, _ => by rw [surveyorlaw21_IntervalChains.l0, bd_none]; rfl
  | n + 1, v0_1, v0_4, v0_5, v0_6, v0_7 => by
    rw [surveyorlaw21_IntervalChains.t0]; simp only [surveyorlaw21_IntervalChains.l0, surveyorlaw21_IntervalChains.u0 lf v0_0 v0_2 v0_3 k n, bd_br, bd_bd, bd_some', bd_none, br_t, br_f, surveyorlaw21_IntervalChains.o0, altK]
theorem surveyorlaw21_IntervalChains.a13_4 (lf : Nat) (ρ : Type) : ∀ i, LsAt ρ Proofs.Tryz.prog 4 (surveyorlaw21_IntervalChains.anns 4).ann (surveyorlaw21_IntervalChains.s13_4 lf) (surveyorlaw21_IntervalChains.dr lf ρ) (goK Proofs.Tryz.prog surveyorlaw21_IntervalChains.anns (lsOf (surveyorlaw21_IntervalChains.ls lf)) (surveyorlaw21_IntervalChains.dr lf ρ) (lookT (surveyorlaw21_IntervalChains.tb lf)) 0 (lf + 40) 13) 0 (lf + 40) none i (loopP Proofs.Tryz.prog 4 i)
  | 0 => by
    intro st T h k r he
    obtain ⟨p, _, rfl⟩ := Option.map_eq_some_iff.1 h
    obtain ⟨x, rfl⟩ := p
    exact (surveyorlaw21_IntervalChains.u0 lf _ _ _ k (lf + 40) _ _ _ _ _).trans he
  | _ + 1 => lsAt_none rfl
theorem surveyorlaw21_IntervalChains.sums (lf : Nat) (ρ : Type) : SumsOK ρ Proofs.Tryz.prog surveyorlaw21_IntervalChains.anns (lsOf (surveyorlaw21_IntervalChains.ls lf)) (surveyorlaw21_IntervalChains.dr lf ρ) (lookT (surveyorlaw21_IntervalChains.tb lf)) 0 (lf + 40) := by
  refine sumsOK_of rfl fun p hp => ?_
  simp only [surveyorlaw21_IntervalChains.ls, List.mem_cons, List.not_mem_nil, or_false] at hp
  subst hp
  exact surveyorlaw21_IntervalChains.a13_4 lf ρ
noncomputable def surveyorlaw21_IntervalChains.f (lf : Nat) (a0 : (Bool × (ByteArray × (ByteArray × Unit)))) (a1 : (List (Bool × (ByteArray × (ByteArray × Unit))))) (a2 : (List ByteArray)) : Option (Bool × Unit) :=
 bd (surveyorref21_Check.f lf a0) fun r1 =>
 br (r1.1 != 0) (
  bd (surveyorlaw21_awake.f lf) fun r2 =>
  some (r2.1, ())) (
  br (decide (((a1.length : Nat) : Int) > 20)) (
   bd (surveyorlaw21_awake.f lf) fun r3 =>
   some (r3.1, ())) (
   br (decide (((a2.length : Nat) : Int) > 20)) (
    bd (surveyorlaw21_awake.f lf) fun r4 =>
    some (r4.1, ())) (
    bd (surveyorref21_Thresholds.f lf a2) fun r5 =>
    br (r5.1 != 0) (
     bd (surveyorlaw21_awake.f lf) fun r6 =>
     some (r6.1, ())) (
     bd (surveyorlaw21_IntervalChains.l0 lf a2 a1 ((a1.length : Nat) : Int) (lf + 40) 0 0 a0.1 a0.2.1 a0.2.2.1) fun z18 =>
     br z18.1 (
      some (z18.2.1.1, ())) (
      br (decide (z18.2.2.1.1 ≤ (IntKind.i64.wrap ((IntKind.i64.wrap (2 * ((a2.length : Nat) : Int))) + 4)))) (
       bd (surveyorlaw21_awake.f lf) fun r19 =>
       some (r19.1, ())) (
       some (false, ())))))))
noncomputable def surveyorlaw21_IntervalChains.E (lf : Nat) : Entry := ⟨[(.pair .bool (.pair .str (.pair .str .unit))), (.sl (.pair .bool (.pair .str (.pair .str .unit)))), (.sl .str)], [.bool], fun x => surveyorlaw21_IntervalChains.f lf x.1 x.2.1 x.2.2.1⟩
theorem surveyorlaw21_IntervalChains.ev (lf : Nat) (x : Tys (surveyorlaw21_IntervalChains.E lf).ps) : (surveyorlaw21_IntervalChains.E lf).f x = runQ Proofs.Tryz.prog surveyorlaw21_IntervalChains.anns (lsOf (surveyorlaw21_IntervalChains.ls lf)) (lookT (surveyorlaw21_IntervalChains.tb lf)) (lf + 40) 14 6 4 (surveyorlaw21_IntervalChains.E lf).ps (surveyorlaw21_IntervalChains.E lf).rs x := by kernel_rfl
theorem surveyorlaw21_IntervalChains.ok (lf : Nat) : EntryOK Proofs.Tryz.prog TabG 4 (surveyorlaw21_IntervalChains.E lf) := entryL (l := surveyorlaw21_IntervalChains.tb lf) (lookT_cons (surveyorlaw21_awake.ok lf) (lookT_cons (interval_Widen.ok lf) (lookT_cons (interval_Narrow.ok lf) (lookT_cons (surveyorref21_Check.ok lf) (lookT_cons (surveyorref21_Thresholds.ok lf) (lookT_cons (surveyorlaw21_IntervalChains_1.ok lf) lookT_nil)))))) (surveyorlaw21_IntervalChains.sp) (surveyorlaw21_IntervalChains.sums lf _) (surveyorlaw21_IntervalChains.ev lf)
end
end Go.Q
