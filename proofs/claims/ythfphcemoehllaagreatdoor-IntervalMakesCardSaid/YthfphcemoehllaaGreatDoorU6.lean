import Derived.Test.YthfphcemoehllaaGreatDoorProg
import Derived.KernelRfl
import Derived.Test.YthfphcemoehllaaGreatDoorE3
import Derived.Test.YthfphcemoehllaaGreatDoorU4
set_option linter.unusedVariables false
set_option linter.unusedSimpArgs false
set_option linter.unusedSectionVars false
namespace Go.Q
open Go Go.RowKit
open Go.Rx (br bd sIdx sCat sCut iQuo iRem)
set_option linter.unusedVariables false
set_option linter.unusedSimpArgs false
set_option maxRecDepth 100000
noncomputable section
noncomputable def interval_Widen.anns : FuncId → FA := fun g => bif g == 13 then ⟨fun li => bif li == 0 then (⟨[0, 1, 3, 4, 5, 7, 8, 9, 11, 14, 15, 16, 17, 18, 19, 20, 21, 22, 23, 24, 25, 26, 27, 28, 29, 30, 31, 32, 33, 34, 35, 36, 37, 38, 39, 40, 41, 42, 43, 44, 45, 46, 47, 48, 49, 50, 51, 52, 53, 54, 55, 56, 60, 61, 62, 63, 64, 65, 66, 67, 68, 69, 70, 71, 72, 73, 74, 75, 76, 77, 78, 79, 80, 81, 82, 83, 84, 85, 86, 87, 88, 89, 90, 91, 92, 93, 94, 95, 96, 97, 98, 99, 100, 101, 102], [], [0, 1, 3, 5]⟩, ⟨[0, 1, 3, 4, 5, 8, 9, 11, 14, 15, 16, 17, 18, 19, 20, 21, 22, 23, 24, 25, 26, 27, 28, 29, 30, 31, 32, 33, 34, 35, 36, 37, 38, 39, 40, 41, 42, 43, 44, 45, 46, 47, 48, 49, 50, 51, 52, 53, 54, 55, 56, 57, 58, 59, 60, 61, 62, 63, 64, 65, 66, 67, 68, 69, 70, 71, 72, 73, 74, 75, 76, 77, 78, 79, 80, 81, 82, 83, 84, 85, 86, 87, 88, 89, 90, 91, 92, 93, 94, 95, 96, 97, 98, 99, 100, 101, 102], [], [0, 1, 3, 5]⟩) else bif li == 1 then (⟨[0, 1, 3, 4, 5, 7, 8, 9, 10, 11, 13, 14, 15, 18, 19, 20, 21, 22, 23, 24, 25, 26, 27, 28, 29, 30, 31, 32, 33, 34, 35, 36, 37, 38, 39, 40, 41, 42, 43, 44, 45, 46, 47, 48, 49, 50, 51, 52, 53, 54, 55, 56, 57, 58, 59, 60, 61, 62, 63, 64, 65, 66, 67, 68, 69, 70, 71, 72, 73, 74, 75, 76, 77, 78, 79, 80, 81, 82, 83, 84, 85, 86, 87, 88, 89, 90, 91, 92, 93, 94, 95, 96, 97, 98, 99, 100, 101, 102], [], [4]⟩, ⟨[0, 1, 2, 3, 4, 5, 8, 9, 10, 11, 13, 14, 15, 17, 18, 19, 20, 21, 22, 23, 24, 25, 26, 27, 28, 29, 30, 31, 32, 33, 34, 35, 36, 37, 38, 39, 40, 41, 42, 43, 44, 45, 46, 47, 48, 49, 50, 51, 52, 53, 54, 55, 56, 57, 58, 59, 60, 61, 62, 63, 64, 65, 66, 67, 68, 69, 70, 71, 72, 73, 74, 75, 76, 77, 78, 79, 80, 81, 82, 83, 84, 85, 86, 87, 88, 89, 90, 91, 92, 93, 94, 95, 96, 97, 98, 99, 100, 101, 102], [], [4]⟩) else (⟨[], [], []⟩, ⟨[], [], []⟩), none⟩ else FA.none
theorem interval_Widen.sp : AnnsOK Proofs.Tryz.prog interval_Widen.anns := by
  intro g s h
  unfold interval_Widen.anns at h
  by_cases e13 : g = 13
  · subst e13
    cases h
  have e13' : (g == 13) = false := by simpa using e13
  rw [e13', cond_false] at h
  cases h
noncomputable def interval_Widen.l0 (lf : Nat) (v0_0 : (List ByteArray)) (v0_1 : (List ByteArray)) (v0_2 : Int) (v0_4 : Bool) (v0_5 : ByteArray) (v0_6 : ByteArray) (v0_7 : Int) (v0_8 : ByteArray) (v0_9 : Int) (v0_10 : ByteArray) (v0_11 : Int) (v0_12 : ByteArray) (v0_13 : Int) (v0_14 : ByteArray) : Nat → Int → Int → ByteArray → Option ((Int × ByteArray × Unit) × Unit)
  | 0, _, _, _ => none
  | n + 1, v0_3, v0_15, v0_16 =>
  br (decide (v0_3 < v0_2)) (
   bd (idxL v0_1 v0_3) fun y14 =>
   bd (interval_finite.f lf y14) fun r15 =>
   bd (interval_compare.f lf r15.1 (v0_11, v0_12, ())) fun r16 =>
   br (decide (r16.1 ≤ 0)) (
    bd (interval_finite.f lf y14) fun r17 =>
    interval_Widen.l0 lf v0_0 v0_1 v0_2 v0_4 v0_5 v0_6 v0_7 v0_8 v0_9 v0_10 v0_11 v0_12 v0_13 v0_14 n (IntKind.i64.wrap (v0_3 + 1)) r17.1.1 r17.1.2.1) (
    interval_Widen.l0 lf v0_0 v0_1 v0_2 v0_4 v0_5 v0_6 v0_7 v0_8 v0_9 v0_10 v0_11 v0_12 v0_13 v0_14 n (IntKind.i64.wrap (v0_3 + 1)) v0_15 v0_16)) (
   some ((v0_15, v0_16, ()), ()))
noncomputable def interval_Widen.S0 (v0_0 : (List ByteArray)) (v0_1 : (List ByteArray)) (v0_2 : Int) (v0_3 : Int) (v0_4 : Bool) (v0_5 : ByteArray) (v0_6 : ByteArray) (v0_7 : Int) (v0_8 : ByteArray) (v0_9 : Int) (v0_10 : ByteArray) (v0_11 : Int) (v0_12 : ByteArray) (v0_13 : Int) (v0_14 : ByteArray) (v0_15 : Int) (v0_16 : ByteArray) : St := ([.any, .any, .sl .str v0_0, .any, .any, .any, .ptr 2 0, .any, .any, .any, .ptr 4 0, .any, .ptr 6 0, .ptr 7 0, .any, .any, .any, .any, .any, .any, .any, .any, .any, .any, .any, .any, .any, .any, .any, .any, .any, .any, .any, .any, .any, .any, .any, .any, .any, .any, .any, .any, .any, .any, .any, .any, .any, .any, .any, .any, .any, .any, .any, .any, .any, .any, .any, .sl .str v0_1, .v (.int .i64 v0_2), .v (.int .i64 v0_3), .any, .any, .any, .any, .any, .any, .any, .any, .any, .any, .any, .any, .any, .any, .any, .any, .any, .any, .any, .any, .any, .any, .any, .any, .any, .any, .any, .any, .any, .any, .any, .any, .any, .any, .any, .any, .any, .any, .any, .any, .any, .any, .any], [some .gone, some .gone, some (.cells [.v (.bool v0_4), .v (.string v0_5), .v (.string v0_6)] 24), some .gone, some (.cells [.v (.int .i64 v0_7), .v (.string v0_8), .v (.int .i64 v0_9), .v (.string v0_10)] 81), some .gone, some (.cells [.v (.int .i64 v0_11), .v (.string v0_12), .v (.int .i64 v0_13), .v (.string v0_14)] 81), some (.cells [.v (.int .i64 v0_15), .v (.string v0_16)] 79)])
noncomputable def interval_Widen.X0 (w0 : (List ByteArray)) (w1 : Bool) (w2 : ByteArray) (w3 : ByteArray) (w4 : Int) (w5 : ByteArray) (w6 : Int) (w7 : ByteArray) (w8 : Int) (w9 : ByteArray) (w10 : Int) (w11 : ByteArray) (w12 : Int) (w13 : ByteArray) : St := ([.any, .any, .sl .str w0, .any, .any, .any, .ptr 2 0, .any, .any, .any, .ptr 4 0, .any, .ptr 6 0, .ptr 7 0, .any, .any, .any, .any, .any, .any, .any, .any, .any, .any, .any, .any, .any, .any, .any, .any, .any, .any, .any, .any, .any, .any, .any, .any, .any, .any, .any, .any, .any, .any, .any, .any, .any, .any, .any, .any, .any, .any, .any, .any, .any, .any, .any, .any, .any, .any, .any, .any, .any, .any, .any, .any, .any, .any, .any, .any, .any, .any, .any, .any, .any, .any, .any, .any, .any, .any, .any, .any, .any, .any, .any, .any, .any, .any, .any, .any, .any, .any, .any, .any, .any, .any, .any, .any, .any, .any, .any, .any, .any], [some .gone, some .gone, some (.cells [.v (.bool w1), .v (.string w2), .v (.string w3)] 24), some .gone, some (.cells [.v (.int .i64 w4), .v (.string w5), .v (.int .i64 w6), .v (.string w7)] 81), some .gone, some (.cells [.v (.int .i64 w8), .v (.string w9), .v (.int .i64 w10), .v (.string w11)] 81), some (.cells [.v (.int .i64 w12), .v (.string w13)] 79)])
noncomputable def interval_Widen.m0 : (st : St) → Option {x : (List ByteArray) × (List ByteArray) × Int × Int × Bool × ByteArray × ByteArray × Int × ByteArray × Int × ByteArray × Int × ByteArray × Int × ByteArray × Int × ByteArray × Unit // st = interval_Widen.S0 x.1 x.2.1 x.2.2.1 x.2.2.2.1 x.2.2.2.2.1 x.2.2.2.2.2.1 x.2.2.2.2.2.2.1 x.2.2.2.2.2.2.2.1 x.2.2.2.2.2.2.2.2.1 x.2.2.2.2.2.2.2.2.2.1 x.2.2.2.2.2.2.2.2.2.2.1 x.2.2.2.2.2.2.2.2.2.2.2.1 x.2.2.2.2.2.2.2.2.2.2.2.2.1 x.2.2.2.2.2.2.2.2.2.2.2.2.2.1 x.2.2.2.2.2.2.2.2.2.2.2.2.2.2.1 x.2.2.2.2.2.2.2.2.2.2.2.2.2.2.2.1 x.2.2.2.2.2.2.2.2.2.2.2.2.2.2.2.2.1}
  | ((.any :: .any :: (.sl .str v0_0) :: .any :: .any :: .any :: (.ptr 2 0) :: .any :: .any :: .any :: (.ptr 4 0) :: .any :: (.ptr 6 0) :: (.ptr 7 0) :: .any :: .any :: .any :: .any :: .any :: .any :: .any :: .any :: .any :: .any :: .any :: .any :: .any :: .any :: .any :: .any :: .any :: .any :: .any :: .any :: .any :: .any :: .any :: .any :: .any :: .any :: .any :: .any :: .any :: .any :: .any :: .any :: .any :: .any :: .any :: .any :: .any :: .any :: .any :: .any :: .any :: .any :: .any :: (.sl .str v0_1) :: (.v (.int .i64 v0_2)) :: (.v (.int .i64 v0_3)) :: .any :: .any :: .any :: .any :: .any :: .any :: .any :: .any :: .any :: .any :: .any :: .any :: .any :: .any :: .any :: .any :: .any :: .any :: .any :: .any :: .any :: .any :: .any :: .any :: .any :: .any :: .any :: .any :: .any :: .any :: .any :: .any :: .any :: .any :: .any :: .any :: .any :: .any :: .any :: .any :: .any :: .any :: .any :: []), ((some .gone) :: (some .gone) :: (some (.cells ((.v (.bool v0_4)) :: (.v (.string v0_5)) :: (.v (.string v0_6)) :: []) 24)) :: (some .gone) :: (some (.cells ((.v (.int .i64 v0_7)) :: (.v (.string v0_8)) :: (.v (.int .i64 v0_9)) :: (.v (.string v0_10)) :: []) 81)) :: (some .gone) :: (some (.cells ((.v (.int .i64 v0_11)) :: (.v (.string v0_12)) :: (.v (.int .i64 v0_13)) :: (.v (.string v0_14)) :: []) 81)) :: (some (.cells ((.v (.int .i64 v0_15)) :: (.v (.string v0_16)) :: []) 79)) :: [])) => some ⟨(v0_0, v0_1, v0_2, v0_3, v0_4, v0_5, v0_6, v0_7, v0_8, v0_9, v0_10, v0_11, v0_12, v0_13, v0_14, v0_15, v0_16, ()), rfl⟩
  | _ => none
noncomputable def interval_Widen.o0 (v0_0 : (List ByteArray)) (v0_1 : (List ByteArray)) (v0_2 : Int) (v0_4 : Bool) (v0_5 : ByteArray) (v0_6 : ByteArray) (v0_7 : Int) (v0_8 : ByteArray) (v0_9 : Int) (v0_10 : ByteArray) (v0_11 : Int) (v0_12 : ByteArray) (v0_13 : Int) (v0_14 : ByteArray) (y : (Int × ByteArray × Unit) × Unit) : Alt := .one (.exit 0) (interval_Widen.X0 v0_0 v0_4 v0_5 v0_6 v0_7 v0_8 v0_9 v0_10 v0_11 v0_12 v0_13 v0_14 y.1.1 y.1.2.1)
noncomputable def interval_Widen.l1 (lf : Nat) (v1_0 : (List ByteArray)) (v1_2 : Bool) (v1_3 : ByteArray) (v1_4 : ByteArray) (v1_5 : Int) (v1_6 : ByteArray) (v1_7 : Int) (v1_8 : ByteArray) (v1_9 : Int) (v1_10 : ByteArray) : Nat → Int → Int → ByteArray → Option ((Int × ByteArray × Unit) × Unit)
  | 0, _, _, _ => none
  | n + 1, v1_1, v1_11, v1_12 =>
  br (decide (v1_1 ≥ 0)) (
   bd (idxL v1_0 v1_1) fun y21 =>
   bd (interval_finite.f lf y21) fun r22 =>
   bd (interval_compare.f lf r22.1 (v1_7, v1_8, ())) fun r23 =>
   br (decide (r23.1 ≥ 0)) (
    interval_Widen.l1 lf v1_0 v1_2 v1_3 v1_4 v1_5 v1_6 v1_7 v1_8 v1_9 v1_10 n (IntKind.i64.wrap (v1_1 - 1)) r22.1.1 r22.1.2.1) (
    interval_Widen.l1 lf v1_0 v1_2 v1_3 v1_4 v1_5 v1_6 v1_7 v1_8 v1_9 v1_10 n (IntKind.i64.wrap (v1_1 - 1)) v1_11 v1_12)) (
   some ((v1_11, v1_12, ()), ()))
noncomputable def interval_Widen.S1 (v1_0 : (List ByteArray)) (v1_1 : Int) (v1_2 : Bool) (v1_3 : ByteArray) (v1_4 : ByteArray) (v1_5 : Int) (v1_6 : ByteArray) (v1_7 : Int) (v1_8 : ByteArray) (v1_9 : Int) (v1_10 : ByteArray) (v1_11 : Int) (v1_12 : ByteArray) : St := ([.any, .any, .sl .str v1_0, .any, .any, .any, .ptr 2 0, .any, .any, .any, .any, .any, .ptr 6 0, .any, .any, .any, .ptr 8 0, .v (.int .i64 v1_1), .any, .any, .any, .any, .any, .any, .any, .any, .any, .any, .any, .any, .any, .any, .any, .any, .any, .any, .any, .any, .any, .any, .any, .any, .any, .any, .any, .any, .any, .any, .any, .any, .any, .any, .any, .any, .any, .any, .any, .any, .any, .any, .any, .any, .any, .any, .any, .any, .any, .any, .any, .any, .any, .any, .any, .any, .any, .any, .any, .any, .any, .any, .any, .any, .any, .any, .any, .any, .any, .any, .any, .any, .any, .any, .any, .any, .any, .any, .any, .any, .any, .any, .any, .any, .any], [some .gone, some .gone, some (.cells [.v (.bool v1_2), .v (.string v1_3), .v (.string v1_4)] 24), some .gone, some .gone, some .gone, some (.cells [.v (.int .i64 v1_5), .v (.string v1_6), .v (.int .i64 v1_7), .v (.string v1_8)] 81), some (.cells [.v (.int .i64 v1_9), .v (.string v1_10)] 79), some (.cells [.v (.int .i64 v1_11), .v (.string v1_12)] 79)])
noncomputable def interval_Widen.X1 (w0 : Bool) (w1 : ByteArray) (w2 : ByteArray) (w3 : Int) (w4 : ByteArray) (w5 : Int) (w6 : ByteArray) (w7 : Int) (w8 : ByteArray) (w9 : Int) (w10 : ByteArray) : St := ([.any, .any, .any, .any, .any, .any, .ptr 2 0, .any, .any, .any, .any, .any, .ptr 6 0, .any, .any, .any, .ptr 8 0, .any, .any, .any, .any, .any, .any, .any, .any, .any, .any, .any, .any, .any, .any, .any, .any, .any, .any, .any, .any, .any, .any, .any, .any, .any, .any, .any, .any, .any, .any, .any, .any, .any, .any, .any, .any, .any, .any, .any, .any, .any, .any, .any, .any, .any, .any, .any, .any, .any, .any, .any, .any, .any, .any, .any, .any, .any, .any, .any, .any, .any, .any, .any, .any, .any, .any, .any, .any, .any, .any, .any, .any, .any, .any, .any, .any, .any, .any, .any, .any, .any, .any, .any, .any, .any, .any], [some .gone, some .gone, some (.cells [.v (.bool w0), .v (.string w1), .v (.string w2)] 24), some .gone, some .gone, some .gone, some (.cells [.v (.int .i64 w3), .v (.string w4), .v (.int .i64 w5), .v (.string w6)] 81), some (.cells [.v (.int .i64 w7), .v (.string w8)] 79), some (.cells [.v (.int .i64 w9), .v (.string w10)] 79)])
noncomputable def interval_Widen.m1 : (st : St) → Option {x : (List ByteArray) × Int × Bool × ByteArray × ByteArray × Int × ByteArray × Int × ByteArray × Int × ByteArray × Int × ByteArray × Unit // st = interval_Widen.S1 x.1 x.2.1 x.2.2.1 x.2.2.2.1 x.2.2.2.2.1 x.2.2.2.2.2.1 x.2.2.2.2.2.2.1 x.2.2.2.2.2.2.2.1 x.2.2.2.2.2.2.2.2.1 x.2.2.2.2.2.2.2.2.2.1 x.2.2.2.2.2.2.2.2.2.2.1 x.2.2.2.2.2.2.2.2.2.2.2.1 x.2.2.2.2.2.2.2.2.2.2.2.2.1}
  | ((.any :: .any :: (.sl .str v1_0) :: .any :: .any :: .any :: (.ptr 2 0) :: .any :: .any :: .any :: .any :: .any :: (.ptr 6 0) :: .any :: .any :: .any :: (.ptr 8 0) :: (.v (.int .i64 v1_1)) :: .any :: .any :: .any :: .any :: .any :: .any :: .any :: .any :: .any :: .any :: .any :: .any :: .any :: .any :: .any :: .any :: .any :: .any :: .any :: .any :: .any :: .any :: .any :: .any :: .any :: .any :: .any :: .any :: .any :: .any :: .any :: .any :: .any :: .any :: .any :: .any :: .any :: .any :: .any :: .any :: .any :: .any :: .any :: .any :: .any :: .any :: .any :: .any :: .any :: .any :: .any :: .any :: .any :: .any :: .any :: .any :: .any :: .any :: .any :: .any :: .any :: .any :: .any :: .any :: .any :: .any :: .any :: .any :: .any :: .any :: .any :: .any :: .any :: .any :: .any :: .any :: .any :: .any :: .any :: .any :: .any :: .any :: .any :: .any :: .any :: []), ((some .gone) :: (some .gone) :: (some (.cells ((.v (.bool v1_2)) :: (.v (.string v1_3)) :: (.v (.string v1_4)) :: []) 24)) :: (some .gone) :: (some .gone) :: (some .gone) :: (some (.cells ((.v (.int .i64 v1_5)) :: (.v (.string v1_6)) :: (.v (.int .i64 v1_7)) :: (.v (.string v1_8)) :: []) 81)) :: (some (.cells ((.v (.int .i64 v1_9)) :: (.v (.string v1_10)) :: []) 79)) :: (some (.cells ((.v (.int .i64 v1_11)) :: (.v (.string v1_12)) :: []) 79)) :: [])) => some ⟨(v1_0, v1_1, v1_2, v1_3, v1_4, v1_5, v1_6, v1_7, v1_8, v1_9, v1_10, v1_11, v1_12, ()), rfl⟩
  | _ => none
noncomputable def interval_Widen.o1 (v1_0 : (List ByteArray)) (v1_2 : Bool) (v1_3 : ByteArray) (v1_4 : ByteArray) (v1_5 : Int) (v1_6 : ByteArray) (v1_7 : Int) (v1_8 : ByteArray) (v1_9 : Int) (v1_10 : ByteArray) (y : (Int × ByteArray × Unit) × Unit) : Alt := .one (.exit 2) (interval_Widen.X1 v1_2 v1_3 v1_4 v1_5 v1_6 v1_7 v1_8 v1_9 v1_10 y.1.1 y.1.2.1)
noncomputable def interval_Widen.l2 (lf : Nat) (v2_0 : (List ByteArray)) (v2_2 : Bool) (v2_3 : ByteArray) (v2_4 : ByteArray) (v2_5 : Bool) (v2_6 : ByteArray) (v2_7 : ByteArray) (v2_8 : Bool) (v2_9 : ByteArray) (v2_10 : ByteArray) (v2_11 : (List (Bool × (ByteArray × (ByteArray × Unit))))) (v2_12 : Int) (v2_13 : ByteArray) (v2_14 : Int) (v2_15 : ByteArray) (v2_16 : Int) (v2_17 : ByteArray) (v2_18 : Int) (v2_19 : ByteArray) : Nat → Int → Int → ByteArray → Option ((Int × ByteArray × Unit) × Unit)
  | 0, _, _, _ => none
  | n + 1, v2_1, v2_20, v2_21 =>
  br (decide (v2_1 ≥ 0)) (
   bd (idxL v2_0 v2_1) fun y29 =>
   bd (interval_finite.f lf y29) fun r30 =>
   bd (interval_compare.f lf r30.1 (v2_18, v2_19, ())) fun r31 =>
   br (decide (r31.1 ≥ 0)) (
    interval_Widen.l2 lf v2_0 v2_2 v2_3 v2_4 v2_5 v2_6 v2_7 v2_8 v2_9 v2_10 v2_11 v2_12 v2_13 v2_14 v2_15 v2_16 v2_17 v2_18 v2_19 n (IntKind.i64.wrap (v2_1 - 1)) r30.1.1 r30.1.2.1) (
    interval_Widen.l2 lf v2_0 v2_2 v2_3 v2_4 v2_5 v2_6 v2_7 v2_8 v2_9 v2_10 v2_11 v2_12 v2_13 v2_14 v2_15 v2_16 v2_17 v2_18 v2_19 n (IntKind.i64.wrap (v2_1 - 1)) v2_20 v2_21)) (
   some ((v2_20, v2_21, ()), ()))
noncomputable def interval_Widen.S2 (v2_0 : (List ByteArray)) (v2_1 : Int) (v2_2 : Bool) (v2_3 : ByteArray) (v2_4 : ByteArray) (v2_5 : Bool) (v2_6 : ByteArray) (v2_7 : ByteArray) (v2_8 : Bool) (v2_9 : ByteArray) (v2_10 : ByteArray) (v2_11 : (List (Bool × (ByteArray × (ByteArray × Unit))))) (v2_12 : Int) (v2_13 : ByteArray) (v2_14 : Int) (v2_15 : ByteArray) (v2_16 : Int) (v2_17 : ByteArray) (v2_18 : Int) (v2_19 : ByteArray) (v2_20 : Int) (v2_21 : ByteArray) : St := ([.any, .any, .sl .str v2_0, .any, .any, .any, .ptr 2 0, .any, .any, .any, .any, .any, .ptr 6 0, .any, .any, .any, .ptr 7 0, .v (.int .i64 v2_1), .any, .any, .any, .any, .any, .any, .any, .any, .any, .any, .any, .any, .any, .any, .any, .any, .any, .any, .any, .any, .any, .any, .any, .any, .any, .any, .any, .any, .any, .any, .any, .any, .any, .any, .any, .any, .any, .any, .any, .any, .any, .any, .any, .any, .any, .any, .any, .any, .any, .any, .any, .any, .any, .any, .any, .any, .any, .any, .any, .any, .any, .any, .any, .any, .any, .any, .any, .any, .any, .any, .any, .any, .any, .any, .any, .any, .any, .any, .any, .any, .any, .any, .any, .any, .any], [some (.cells [.v (.bool v2_2), .v (.string v2_3), .v (.string v2_4)] 24), some (.cells [.v (.bool v2_5), .v (.string v2_6), .v (.string v2_7)] 24), some (.cells [.v (.bool v2_8), .v (.string v2_9), .v (.string v2_10)] 24), some (.row (.pair .bool (.pair .str (.pair .str .unit))) v2_11 24 false), some .gone, some (.cells [.v (.int .i64 v2_12), .v (.string v2_13), .v (.int .i64 v2_14), .v (.string v2_15)] 81), some (.cells [.v (.int .i64 v2_16), .v (.string v2_17), .v (.int .i64 v2_18), .v (.string v2_19)] 81), some (.cells [.v (.int .i64 v2_20), .v (.string v2_21)] 79)])
noncomputable def interval_Widen.X2 (w0 : Bool) (w1 : ByteArray) (w2 : ByteArray) (w3 : Bool) (w4 : ByteArray) (w5 : ByteArray) (w6 : Bool) (w7 : ByteArray) (w8 : ByteArray) (w9 : (List (Bool × (ByteArray × (ByteArray × Unit))))) (w10 : Int) (w11 : ByteArray) (w12 : Int) (w13 : ByteArray) (w14 : Int) (w15 : ByteArray) (w16 : Int) (w17 : ByteArray) (w18 : Int) (w19 : ByteArray) : St := ([.any, .any, .any, .any, .any, .any, .ptr 2 0, .any, .any, .any, .any, .any, .ptr 6 0, .any, .any, .any, .ptr 7 0, .any, .any, .any, .any, .any, .any, .any, .any, .any, .any, .any, .any, .any, .any, .any, .any, .any, .any, .any, .any, .any, .any, .any, .any, .any, .any, .any, .any, .any, .any, .any, .any, .any, .any, .any, .any, .any, .any, .any, .any, .any, .any, .any, .any, .any, .any, .any, .any, .any, .any, .any, .any, .any, .any, .any, .any, .any, .any, .any, .any, .any, .any, .any, .any, .any, .any, .any, .any, .any, .any, .any, .any, .any, .any, .any, .any, .any, .any, .any, .any, .any, .any, .any, .any, .any, .any], [some (.cells [.v (.bool w0), .v (.string w1), .v (.string w2)] 24), some (.cells [.v (.bool w3), .v (.string w4), .v (.string w5)] 24), some (.cells [.v (.bool w6), .v (.string w7), .v (.string w8)] 24), some (.row (.pair .bool (.pair .str (.pair .str .unit))) w9 24 false), some .gone, some (.cells [.v (.int .i64 w10), .v (.string w11), .v (.int .i64 w12), .v (.string w13)] 81), some (.cells [.v (.int .i64 w14), .v (.string w15), .v (.int .i64 w16), .v (.string w17)] 81), some (.cells [.v (.int .i64 w18), .v (.string w19)] 79)])
noncomputable def interval_Widen.m2 : (st : St) → Option {x : (List ByteArray) × Int × Bool × ByteArray × ByteArray × Bool × ByteArray × ByteArray × Bool × ByteArray × ByteArray × (List (Bool × (ByteArray × (ByteArray × Unit)))) × Int × ByteArray × Int × ByteArray × Int × ByteArray × Int × ByteArray × Int × ByteArray × Unit // st = interval_Widen.S2 x.1 x.2.1 x.2.2.1 x.2.2.2.1 x.2.2.2.2.1 x.2.2.2.2.2.1 x.2.2.2.2.2.2.1 x.2.2.2.2.2.2.2.1 x.2.2.2.2.2.2.2.2.1 x.2.2.2.2.2.2.2.2.2.1 x.2.2.2.2.2.2.2.2.2.2.1 x.2.2.2.2.2.2.2.2.2.2.2.1 x.2.2.2.2.2.2.2.2.2.2.2.2.1 x.2.2.2.2.2.2.2.2.2.2.2.2.2.1 x.2.2.2.2.2.2.2.2.2.2.2.2.2.2.1 x.2.2.2.2.2.2.2.2.2.2.2.2.2.2.2.1 x.2.2.2.2.2.2.2.2.2.2.2.2.2.2.2.2.1 x.2.2.2.2.2.2.2.2.2.2.2.2.2.2.2.2.2.1 x.2.2.2.2.2.2.2.2.2.2.2.2.2.2.2.2.2.2.1 x.2.2.2.2.2.2.2.2.2.2.2.2.2.2.2.2.2.2.2.1 x.2.2.2.2.2.2.2.2.2.2.2.2.2.2.2.2.2.2.2.2.1 x.2.2.2.2.2.2.2.2.2.2.2.2.2.2.2.2.2.2.2.2.2.1}
  | ((.any :: .any :: (.sl .str v2_0) :: .any :: .any :: .any :: (.ptr 2 0) :: .any :: .any :: .any :: .any :: .any :: (.ptr 6 0) :: .any :: .any :: .any :: (.ptr 7 0) :: (.v (.int .i64 v2_1)) :: .any :: .any :: .any :: .any :: .any :: .any :: .any :: .any :: .any :: .any :: .any :: .any :: .any :: .any :: .any :: .any :: .any :: .any :: .any :: .any :: .any :: .any :: .any :: .any :: .any :: .any :: .any :: .any :: .any :: .any :: .any :: .any :: .any :: .any :: .any :: .any :: .any :: .any :: .any :: .any :: .any :: .any :: .any :: .any :: .any :: .any :: .any :: .any :: .any :: .any :: .any :: .any :: .any :: .any :: .any :: .any :: .any :: .any :: .any :: .any :: .any :: .any :: .any :: .any :: .any :: .any :: .any :: .any :: .any :: .any :: .any :: .any :: .any :: .any :: .any :: .any :: .any :: .any :: .any :: .any :: .any :: .any :: .any :: .any :: .any :: []), ((some (.cells ((.v (.bool v2_2)) :: (.v (.string v2_3)) :: (.v (.string v2_4)) :: []) 24)) :: (some (.cells ((.v (.bool v2_5)) :: (.v (.string v2_6)) :: (.v (.string v2_7)) :: []) 24)) :: (some (.cells ((.v (.bool v2_8)) :: (.v (.string v2_9)) :: (.v (.string v2_10)) :: []) 24)) :: (some (.row (.pair .bool (.pair .str (.pair .str .unit))) v2_11 24 false)) :: (some .gone) :: (some (.cells ((.v (.int .i64 v2_12)) :: (.v (.string v2_13)) :: (.v (.int .i64 v2_14)) :: (.v (.string v2_15)) :: []) 81)) :: (some (.cells ((.v (.int .i64 v2_16)) :: (.v (.string v2_17)) :: (.v (.int .i64 v2_18)) :: (.v (.string v2_19)) :: []) 81)) :: (some (.cells ((.v (.int .i64 v2_20)) :: (.v (.string v2_21)) :: []) 79)) :: [])) => some ⟨(v2_0, v2_1, v2_2, v2_3, v2_4, v2_5, v2_6, v2_7, v2_8, v2_9, v2_10, v2_11, v2_12, v2_13, v2_14, v2_15, v2_16, v2_17, v2_18, v2_19, v2_20, v2_21, ()), rfl⟩
  | _ => none
noncomputable def interval_Widen.o2 (v2_0 : (List ByteArray)) (v2_2 : Bool) (v2_3 : ByteArray) (v2_4 : ByteArray) (v2_5 : Bool) (v2_6 : ByteArray) (v2_7 : ByteArray) (v2_8 : Bool) (v2_9 : ByteArray) (v2_10 : ByteArray) (v2_11 : (List (Bool × (ByteArray × (ByteArray × Unit))))) (v2_12 : Int) (v2_13 : ByteArray) (v2_14 : Int) (v2_15 : ByteArray) (v2_16 : Int) (v2_17 : ByteArray) (v2_18 : Int) (v2_19 : ByteArray) (y : (Int × ByteArray × Unit) × Unit) : Alt := .one (.exit 2) (interval_Widen.X2 v2_2 v2_3 v2_4 v2_5 v2_6 v2_7 v2_8 v2_9 v2_10 v2_11 v2_12 v2_13 v2_14 v2_15 v2_16 v2_17 v2_18 v2_19 y.1.1 y.1.2.1)
noncomputable def interval_Widen.tb (lf : Nat) : List (FuncId × Entry) := [(43, interval_Check.E lf), (52, interval_ascending.E lf), (53, interval_of.E lf), (54, interval_span_empty.E lf), (55, interval_span_hull.E lf), (56, interval_span_interval.E lf), (57, interval_compare.E lf), (58, interval_infinite.E lf), (59, interval_finite.E lf)]
noncomputable def interval_Widen.s13_13 (lf : Nat) : Sums := fun li st => match li with
  | 0 => ((interval_Widen.m0 st).map fun p => (⟨(Int × ByteArray × Unit) × Unit, interval_Widen.l0 lf p.1.1 p.1.2.1 p.1.2.2.1 p.1.2.2.2.2.1 p.1.2.2.2.2.2.1 p.1.2.2.2.2.2.2.1 p.1.2.2.2.2.2.2.2.1 p.1.2.2.2.2.2.2.2.2.1 p.1.2.2.2.2.2.2.2.2.2.1 p.1.2.2.2.2.2.2.2.2.2.2.1 p.1.2.2.2.2.2.2.2.2.2.2.2.1 p.1.2.2.2.2.2.2.2.2.2.2.2.2.1 p.1.2.2.2.2.2.2.2.2.2.2.2.2.2.1 p.1.2.2.2.2.2.2.2.2.2.2.2.2.2.2.1 (lf + 40) p.1.2.2.2.1 p.1.2.2.2.2.2.2.2.2.2.2.2.2.2.2.2.1 p.1.2.2.2.2.2.2.2.2.2.2.2.2.2.2.2.2.1, interval_Widen.o0 p.1.1 p.1.2.1 p.1.2.2.1 p.1.2.2.2.2.1 p.1.2.2.2.2.2.1 p.1.2.2.2.2.2.2.1 p.1.2.2.2.2.2.2.2.1 p.1.2.2.2.2.2.2.2.2.1 p.1.2.2.2.2.2.2.2.2.2.1 p.1.2.2.2.2.2.2.2.2.2.2.1 p.1.2.2.2.2.2.2.2.2.2.2.2.1 p.1.2.2.2.2.2.2.2.2.2.2.2.2.1 p.1.2.2.2.2.2.2.2.2.2.2.2.2.2.1 p.1.2.2.2.2.2.2.2.2.2.2.2.2.2.2.1⟩ : LTE))
  | 1 => (match ((interval_Widen.m1 st).map fun p => (⟨(Int × ByteArray × Unit) × Unit, interval_Widen.l1 lf p.1.1 p.1.2.2.1 p.1.2.2.2.1 p.1.2.2.2.2.1 p.1.2.2.2.2.2.1 p.1.2.2.2.2.2.2.1 p.1.2.2.2.2.2.2.2.1 p.1.2.2.2.2.2.2.2.2.1 p.1.2.2.2.2.2.2.2.2.2.1 p.1.2.2.2.2.2.2.2.2.2.2.1 (lf + 40) p.1.2.1 p.1.2.2.2.2.2.2.2.2.2.2.2.1 p.1.2.2.2.2.2.2.2.2.2.2.2.2.1, interval_Widen.o1 p.1.1 p.1.2.2.1 p.1.2.2.2.1 p.1.2.2.2.2.1 p.1.2.2.2.2.2.1 p.1.2.2.2.2.2.2.1 p.1.2.2.2.2.2.2.2.1 p.1.2.2.2.2.2.2.2.2.1 p.1.2.2.2.2.2.2.2.2.2.1 p.1.2.2.2.2.2.2.2.2.2.2.1⟩ : LTE)) with | some T => some T | none => ((interval_Widen.m2 st).map fun p => (⟨(Int × ByteArray × Unit) × Unit, interval_Widen.l2 lf p.1.1 p.1.2.2.1 p.1.2.2.2.1 p.1.2.2.2.2.1 p.1.2.2.2.2.2.1 p.1.2.2.2.2.2.2.1 p.1.2.2.2.2.2.2.2.1 p.1.2.2.2.2.2.2.2.2.1 p.1.2.2.2.2.2.2.2.2.2.1 p.1.2.2.2.2.2.2.2.2.2.2.1 p.1.2.2.2.2.2.2.2.2.2.2.2.1 p.1.2.2.2.2.2.2.2.2.2.2.2.2.1 p.1.2.2.2.2.2.2.2.2.2.2.2.2.2.1 p.1.2.2.2.2.2.2.2.2.2.2.2.2.2.2.1 p.1.2.2.2.2.2.2.2.2.2.2.2.2.2.2.2.1 p.1.2.2.2.2.2.2.2.2.2.2.2.2.2.2.2.2.1 p.1.2.2.2.2.2.2.2.2.2.2.2.2.2.2.2.2.2.1 p.1.2.2.2.2.2.2.2.2.2.2.2.2.2.2.2.2.2.2.1 p.1.2.2.2.2.2.2.2.2.2.2.2.2.2.2.2.2.2.2.2.1 (lf + 40) p.1.2.1 p.1.2.2.2.2.2.2.2.2.2.2.2.2.2.2.2.2.2.2.2.2.1 p.1.2.2.2.2.2.2.2.2.2.2.2.2.2.2.2.2.2.2.2.2.2.1, interval_Widen.o2 p.1.1 p.1.2.2.1 p.1.2.2.2.1 p.1.2.2.2.2.1 p.1.2.2.2.2.2.1 p.1.2.2.2.2.2.2.1 p.1.2.2.2.2.2.2.2.1 p.1.2.2.2.2.2.2.2.2.1 p.1.2.2.2.2.2.2.2.2.2.1 p.1.2.2.2.2.2.2.2.2.2.2.1 p.1.2.2.2.2.2.2.2.2.2.2.2.1 p.1.2.2.2.2.2.2.2.2.2.2.2.2.1 p.1.2.2.2.2.2.2.2.2.2.2.2.2.2.1 p.1.2.2.2.2.2.2.2.2.2.2.2.2.2.2.1 p.1.2.2.2.2.2.2.2.2.2.2.2.2.2.2.2.1 p.1.2.2.2.2.2.2.2.2.2.2.2.2.2.2.2.2.1 p.1.2.2.2.2.2.2.2.2.2.2.2.2.2.2.2.2.2.1 p.1.2.2.2.2.2.2.2.2.2.2.2.2.2.2.2.2.2.2.1 p.1.2.2.2.2.2.2.2.2.2.2.2.2.2.2.2.2.2.2.2.1⟩ : LTE)))
  | _ => none
noncomputable def interval_Widen.ls (lf : Nat) : List (Nat × FuncId × Sums) := [(13, 13, interval_Widen.s13_13 lf)]
noncomputable def interval_Widen.dr (lf : Nat) (ρ : Type) : Draws ρ := drawA Proofs.Tryz.prog (lookT (interval_Widen.tb lf)) 0 fun n => clQ Proofs.Tryz.prog interval_Widen.anns (lookT (interval_Widen.tb lf)) (lf + 40) 14 6 n ρ
noncomputable def interval_Widen.it0 {ρ : Type} (lf n : Nat) (st : St) (k : KE ρ) : Option ρ := iterK (nrmS 0 ((interval_Widen.anns 13).ann 0).1 8) (nrmS 0 ((interval_Widen.anns 13).ann 0).2 8) (codeK Proofs.Tryz.prog 13 (interval_Widen.anns 13).ann (interval_Widen.s13_13 lf) (interval_Widen.dr lf ρ) (goK Proofs.Tryz.prog interval_Widen.anns (lsOf (interval_Widen.ls lf)) (interval_Widen.dr lf ρ) (lookT (interval_Widen.tb lf)) 0 (lf + 40) 13) 0 (lf + 40) none 1 (loopP Proofs.Tryz.prog 13 0)) n st k
theorem interval_Widen.t0 {ρ : Type} (lf n : Nat) (v0_0 : (List ByteArray)) (v0_1 : (List ByteArray)) (v0_2 : Int) (v0_3 : Int) (v0_4 : Bool) (v0_5 : ByteArray) (v0_6 : ByteArray) (v0_7 : Int) (v0_8 : ByteArray) (v0_9 : Int) (v0_10 : ByteArray) (v0_11 : Int) (v0_12 : ByteArray) (v0_13 : Int) (v0_14 : ByteArray) (v0_15 : Int) (v0_16 : ByteArray) (k : KE ρ) : interval_Widen.it0 lf (n + 1) (interval_Widen.S0 v0_0 v0_1 v0_2 v0_3 v0_4 v0_5 v0_6 v0_7 v0_8 v0_9 v0_10 v0_11 v0_12 v0_13 v0_14 v0_15 v0_16) k =
  br (decide (v0_3 < v0_2)) (
   bd (idxL v0_1 v0_3) fun y14 =>
   bd (interval_finite.f lf y14) fun r15 =>
   bd (interval_compare.f lf r15.1 (v0_11, v0_12, ())) fun r16 =>
   br (decide (r16.1 ≤ 0)) (
    bd (interval_finite.f lf y14) fun r17 =>
    interval_Widen.it0 lf n (interval_Widen.S0 v0_0 v0_1 v0_2 (IntKind.i64.wrap (v0_3 + 1)) v0_4 v0_5 v0_6 v0_7 v0_8 v0_9 v0_10 v0_11 v0_12 v0_13 v0_14 r17.1.1 r17.1.2.1) k) (
    interval_Widen.it0 lf n (interval_Widen.S0 v0_0 v0_1 v0_2 (IntKind.i64.wrap (v0_3 + 1)) v0_4 v0_5 v0_6 v0_7 v0_8 v0_9 v0_10 v0_11 v0_12 v0_13 v0_14 v0_15 v0_16) k)) (
   k (.exit 0) (interval_Widen.X0 v0_0 v0_4 v0_5 v0_6 v0_7 v0_8 v0_9 v0_10 v0_11 v0_12 v0_13 v0_14 v0_15 v0_16)) := by kernel_rfl
theorem interval_Widen.u0 {ρ : Type} (lf : Nat) (v0_0 : (List ByteArray)) (v0_1 : (List ByteArray)) (v0_2 : Int) (v0_4 : Bool) (v0_5 : ByteArray) (v0_6 : ByteArray) (v0_7 : Int) (v0_8 : ByteArray) (v0_9 : Int) (v0_10 : ByteArray) (v0_11 : Int) (v0_12 : ByteArray) (v0_13 : Int) (v0_14 : ByteArray) (k : KE ρ) : ∀ (n : Nat) (v0_3 : Int) (v0_15 : Int) (v0_16 : ByteArray), interval_Widen.it0 lf n (interval_Widen.S0 v0_0 v0_1 v0_2 v0_3 v0_4 v0_5 v0_6 v0_7 v0_8 v0_9 v0_10 v0_11 v0_12 v0_13 v0_14 v0_15 v0_16) k = bd (interval_Widen.l0 lf v0_0 v0_1 v0_2 v0_4 v0_5 v0_6 v0_7 v0_8 v0_9 v0_10 v0_11 v0_12 v0_13 v0_14 n v0_3 v0_15 v0_16) fun y => altK k (interval_Widen.o0 v0_0 v0_1 v0_2 v0_4 v0_5 v0_6 v0_7 v0_8 v0_9 v0_10 v0_11 v0_12 v0_13 v0_14 y)
  | 0, _, _, _ => by rw [interval_Widen.l0, bd_none]; rfl
  | n + 1, v0_3, v0_15, v0_16 => by
    rw [interval_Widen.t0]; simp only [interval_Widen.l0, interval_Widen.u0 lf v0_0 v0_1 v0_2 v0_4 v0_5 v0_6 v0_7 v0_8 v0_9 v0_10 v0_11 v0_12 v0_13 v0_14 k n, bd_br, bd_bd, bd_some', bd_none, br_t, br_f, interval_Widen.o0, altK]
noncomputable def interval_Widen.it1 {ρ : Type} (lf n : Nat) (st : St) (k : KE ρ) : Option ρ := iterK (nrmS 0 ((interval_Widen.anns 13).ann 1).1 9) (nrmS 0 ((interval_Widen.anns 13).ann 1).2 9) (codeK Proofs.Tryz.prog 13 (interval_Widen.anns 13).ann (interval_Widen.s13_13 lf) (interval_Widen.dr lf ρ) (goK Proofs.Tryz.prog interval_Widen.anns (lsOf (interval_Widen.ls lf)) (interval_Widen.dr lf ρ) (lookT (interval_Widen.tb lf)) 0 (lf + 40) 13) 0 (lf + 40) none 2 (loopP Proofs.Tryz.prog 13 1)) n st k
theorem interval_Widen.t1 {ρ : Type} (lf n : Nat) (v1_0 : (List ByteArray)) (v1_1 : Int) (v1_2 : Bool) (v1_3 : ByteArray) (v1_4 : ByteArray) (v1_5 : Int) (v1_6 : ByteArray) (v1_7 : Int) (v1_8 : ByteArray) (v1_9 : Int) (v1_10 : ByteArray) (v1_11 : Int) (v1_12 : ByteArray) (k : KE ρ) : interval_Widen.it1 lf (n + 1) (interval_Widen.S1 v1_0 v1_1 v1_2 v1_3 v1_4 v1_5 v1_6 v1_7 v1_8 v1_9 v1_10 v1_11 v1_12) k =
  br (decide (v1_1 ≥ 0)) (
   bd (idxL v1_0 v1_1) fun y21 =>
   bd (interval_finite.f lf y21) fun r22 =>
   bd (interval_compare.f lf r22.1 (v1_7, v1_8, ())) fun r23 =>
   br (decide (r23.1 ≥ 0)) (
    interval_Widen.it1 lf n (interval_Widen.S1 v1_0 (IntKind.i64.wrap (v1_1 - 1)) v1_2 v1_3 v1_4 v1_5 v1_6 v1_7 v1_8 v1_9 v1_10 r22.1.1 r22.1.2.1) k) (
    interval_Widen.it1 lf n (interval_Widen.S1 v1_0 (IntKind.i64.wrap (v1_1 - 1)) v1_2 v1_3 v1_4 v1_5 v1_6 v1_7 v1_8 v1_9 v1_10 v1_11 v1_12) k)) (
   k (.exit 2) (interval_Widen.X1 v1_2 v1_3 v1_4 v1_5 v1_6 v1_7 v1_8 v1_9 v1_10 v1_11 v1_12)) := by kernel_rfl
theorem interval_Widen.u1 {ρ : Type} (lf : Nat) (v1_0 : (List ByteArray)) (v1_2 : Bool) (v1_3 : ByteArray) (v1_4 : ByteArray) (v1_5 : Int) (v1_6 : ByteArray) (v1_7 : Int) (v1_8 : ByteArray) (v1_9 : Int) (v1_10 : ByteArray) (k : KE ρ) : ∀ (n : Nat) (v1_1 : Int) (v1_11 : Int) (v1_12 : ByteArray), interval_Widen.it1 lf n (interval_Widen.S1 v1_0 v1_1 v1_2 v1_3 v1_4 v1_5 v1_6 v1_7 v1_8 v1_9 v1_10 v1_11 v1_12) k = bd (interval_Widen.l1 lf v1_0 v1_2 v1_3 v1_4 v1_5 v1_6 v1_7 v1_8 v1_9 v1_10 n v1_1 v1_11 v1_12) fun y => altK k (interval_Widen.o1 v1_0 v1_2 v1_3 v1_4 v1_5 v1_6 v1_7 v1_8 v1_9 v1_10 y)
  | 0, _, _, _ => by rw [interval_Widen.l1, bd_none]; rfl
  | n + 1, v1_1, v1_11, v1_12 => by
    rw [interval_Widen.t1]; simp only [interval_Widen.l1, interval_Widen.u1 lf v1_0 v1_2 v1_3 v1_4 v1_5 v1_6 v1_7 v1_8 v1_9 v1_10 k n, bd_br, bd_bd, bd_some', bd_none, br_t, br_f, interval_Widen.o1, altK]
noncomputable def interval_Widen.it2 {ρ : Type} (lf n : Nat) (st : St) (k : KE ρ) : Option ρ := iterK (nrmS 0 ((interval_Widen.anns 13).ann 1).1 8) (nrmS 0 ((interval_Widen.anns 13).ann 1).2 8) (codeK Proofs.Tryz.prog 13 (interval_Widen.anns 13).ann (interval_Widen.s13_13 lf) (interval_Widen.dr lf ρ) (goK Proofs.Tryz.prog interval_Widen.anns (lsOf (interval_Widen.ls lf)) (interval_Widen.dr lf ρ) (lookT (interval_Widen.tb lf)) 0 (lf + 40) 13) 0 (lf + 40) none 2 (loopP Proofs.Tryz.prog 13 1)) n st k
theorem interval_Widen.t2 {ρ : Type} (lf n : Nat) (v2_0 : (List ByteArray)) (v2_1 : Int) (v2_2 : Bool) (v2_3 : ByteArray) (v2_4 : ByteArray) (v2_5 : Bool) (v2_6 : ByteArray) (v2_7 : ByteArray) (v2_8 : Bool) (v2_9 : ByteArray) (v2_10 : ByteArray) (v2_11 : (List (Bool × (ByteArray × (ByteArray × Unit))))) (v2_12 : Int) (v2_13 : ByteArray) (v2_14 : Int) (v2_15 : ByteArray) (v2_16 : Int) (v2_17 : ByteArray) (v2_18 : Int) (v2_19 : ByteArray) (v2_20 : Int) (v2_21 : ByteArray) (k : KE ρ) : interval_Widen.it2 lf (n + 1) (interval_Widen.S2 v2_0 v2_1 v2_2 v2_3 v2_4 v2_5 v2_6 v2_7 v2_8 v2_9 v2_10 v2_11 v2_12 v2_13 v2_14 v2_15 v2_16 v2_17 v2_18 v2_19 v2_20 v2_21) k =
  br (decide (v2_1 ≥ 0)) (
   bd (idxL v2_0 v2_1) fun y29 =>
   bd (interval_finite.f lf y29) fun r30 =>
   bd (interval_compare.f lf r30.1 (v2_18, v2_19, ())) fun r31 =>
   br (decide (r31.1 ≥ 0)) (
    interval_Widen.it2 lf n (interval_Widen.S2 v2_0 (IntKind.i64.wrap (v2_1 - 1)) v2_2 v2_3 v2_4 v2_5 v2_6 v2_7 v2_8 v2_9 v2_10 v2_11 v2_12 v2_13 v2_14 v2_15 v2_16 v2_17 v2_18 v2_19 r30.1.1 r30.1.2.1) k) (
    interval_Widen.it2 lf n (interval_Widen.S2 v2_0 (IntKind.i64.wrap (v2_1 - 1)) v2_2 v2_3 v2_4 v2_5 v2_6 v2_7 v2_8 v2_9 v2_10 v2_11 v2_12 v2_13 v2_14 v2_15 v2_16 v2_17 v2_18 v2_19 v2_20 v2_21) k)) (
   k (.exit 2) (interval_Widen.X2 v2_2 v2_3 v2_4 v2_5 v2_6 v2_7 v2_8 v2_9 v2_10 v2_11 v2_12 v2_13 v2_14 v2_15 v2_16 v2_17 v2_18 v2_19 v2_20 v2_21)) := by kernel_rfl
theorem interval_Widen.u2 {ρ : Type} (lf : Nat) (v2_0 : (List ByteArray)) (v2_2 : Bool) (v2_3 : ByteArray) (v2_4 : ByteArray) (v2_5 : Bool) (v2_6 : ByteArray) (v2_7 : ByteArray) (v2_8 : Bool) (v2_9 : ByteArray) (v2_10 : ByteArray) (v2_11 : (List (Bool × (ByteArray × (ByteArray × Unit))))) (v2_12 : Int) (v2_13 : ByteArray) (v2_14 : Int) (v2_15 : ByteArray) (v2_16 : Int) (v2_17 : ByteArray) (v2_18 : Int) (v2_19 : ByteArray) (k : KE ρ) : ∀ (n : Nat) (v2_1 : Int) (v2_20 : Int) (v2_21 : ByteArray), interval_Widen.it2 lf n (interval_Widen.S2 v2_0 v2_1 v2_2 v2_3 v2_4 v2_5 v2_6 v2_7 v2_8 v2_9 v2_10 v2_11 v2_12 v2_13 v2_14 v2_15 v2_16 v2_17 v2_18 v2_19 v2_20 v2_21) k = bd (interval_Widen.l2 lf v2_0 v2_2 v2_3 v2_4 v2_5 v2_6 v2_7 v2_8 v2_9 v2_10 v2_11 v2_12 v2_13 v2_14 v2_15 v2_16 v2_17 v2_18 v2_19 n v2_1 v2_20 v2_21) fun y => altK k (interval_Widen.o2 v2_0 v2_2 v2_3 v2_4 v2_5 v2_6 v2_7 v2_8 v2_9 v2_10 v2_11 v2_12 v2_13 v2_14 v2_15 v2_16 v2_17 v2_18 v2_19 y)
  | 0, _, _, _ => by rw [interval_Widen.l2, bd_none]; rfl
  | n + 1, v2_1, v2_20, v2_21 => by
    rw [interval_Widen.t2]; simp only [interval_Widen.l2, interval_Widen.u2 lf v2_0 v2_2 v2_3 v2_4 v2_5 v2_6 v2_7 v2_8 v2_9 v2_10 v2_11 v2_12 v2_13 v2_14 v2_15 v2_16 v2_17 v2_18 v2_19 k n, bd_br, bd_bd, bd_some', bd_none, br_t, br_f, interval_Widen.o2, altK]
theorem interval_Widen.a13_13 (lf : Nat) (ρ : Type) : ∀ i, LsAt ρ Proofs.Tryz.prog 13 (interval_Widen.anns 13).ann (interval_Widen.s13_13 lf) (interval_Widen.dr lf ρ) (goK Proofs.Tryz.prog interval_Widen.anns (lsOf (interval_Widen.ls lf)) (interval_Widen.dr lf ρ) (lookT (interval_Widen.tb lf)) 0 (lf + 40) 13) 0 (lf + 40) none i (loopP Proofs.Tryz.prog 13 i)
  | 0 => by
    intro st T h k r he
    obtain ⟨p, _, rfl⟩ := Option.map_eq_some_iff.1 h
    obtain ⟨x, rfl⟩ := p
    exact (interval_Widen.u0 lf _ _ _ _ _ _ _ _ _ _ _ _ _ _ k (lf + 40) _ _ _).trans he
  | 1 => by
    intro st T h k r he
    simp only [interval_Widen.s13_13] at h
    split at h
    · rename_i T' h'
      cases h
      replace h := h'
      obtain ⟨p, _, rfl⟩ := Option.map_eq_some_iff.1 h
      obtain ⟨x, rfl⟩ := p
      exact (interval_Widen.u1 lf _ _ _ _ _ _ _ _ _ _ k (lf + 40) _ _ _).trans he
    obtain ⟨p, _, rfl⟩ := Option.map_eq_some_iff.1 h
    obtain ⟨x, rfl⟩ := p
    exact (interval_Widen.u2 lf _ _ _ _ _ _ _ _ _ _ _ _ _ _ _ _ _ _ _ k (lf + 40) _ _ _).trans he
  | _ + 2 => lsAt_none rfl
theorem interval_Widen.sums (lf : Nat) (ρ : Type) : SumsOK ρ Proofs.Tryz.prog interval_Widen.anns (lsOf (interval_Widen.ls lf)) (interval_Widen.dr lf ρ) (lookT (interval_Widen.tb lf)) 0 (lf + 40) := by
  refine sumsOK_of rfl fun p hp => ?_
  simp only [interval_Widen.ls, List.mem_cons, List.not_mem_nil, or_false] at hp
  subst hp
  exact interval_Widen.a13_13 lf ρ
noncomputable def interval_Widen.f (lf : Nat) (a0 : (Bool × (ByteArray × (ByteArray × Unit)))) (a1 : (Bool × (ByteArray × (ByteArray × Unit)))) (a2 : (List ByteArray)) : Option ((Bool × (ByteArray × (ByteArray × Unit))) × Int × Unit) :=
 bd (interval_Check.f lf a0) fun r1 =>
 br (r1.1 != 0) (
  br (r1.1 != 0) (
   some ((false, (⟨#[]⟩ : ByteArray), (⟨#[]⟩ : ByteArray), ()), r1.1, ())) (
   bd (interval_ascending.f lf a2) fun r2 =>
   br (r2.1 != 0) (
    some ((false, (⟨#[]⟩ : ByteArray), (⟨#[]⟩ : ByteArray), ()), r2.1, ())) (
    bd (interval_of.f lf a0) fun r3 =>
    bd (interval_of.f lf a1) fun r4 =>
    bd (interval_span_empty.f lf r3.1) fun r5 =>
    br r5.1 (
     bd (interval_span_hull.f lf r3.1 r4.1) fun r6 =>
     bd (interval_span_interval.f lf r6.1) fun r7 =>
     some (r7.1, 0, ())) (
     bd (interval_span_empty.f lf r4.1) fun r8 =>
     br r8.1 (
      bd (interval_span_hull.f lf r3.1 r4.1) fun r9 =>
      bd (interval_span_interval.f lf r9.1) fun r10 =>
      some (r10.1, 0, ())) (
      bd (interval_span_hull.f lf r3.1 r4.1) fun r11 =>
      bd (interval_compare.f lf r11.1.1 r3.1.1) fun r12 =>
      br (r12.1 != 0) (
       bd (interval_infinite.f lf (-1)) fun r13 =>
       bd (interval_Widen.l0 lf a2 a2 ((a2.length : Nat) : Int) false (⟨#[]⟩ : ByteArray) (⟨#[]⟩ : ByteArray) r3.1.1.1 r3.1.1.2.1 r3.1.2.1.1 r3.1.2.1.2.1 r11.1.1.1 r11.1.1.2.1 r11.1.2.1.1 r11.1.2.1.2.1 (lf + 40) 0 r13.1.1 r13.1.2.1) fun z18 =>
       bd (interval_compare.f lf r11.1.2.1 r3.1.2.1) fun r19 =>
       br (r19.1 != 0) (
        bd (interval_infinite.f lf 1) fun r20 =>
        bd (interval_Widen.l1 lf a2 false (⟨#[]⟩ : ByteArray) (⟨#[]⟩ : ByteArray) z18.1.1 z18.1.2.1 r11.1.2.1.1 r11.1.2.1.2.1 z18.1.1 z18.1.2.1 (lf + 40) (IntKind.i64.wrap (((a2.length : Nat) : Int) - 1)) r20.1.1 r20.1.2.1) fun z24 =>
        bd (interval_span_interval.f lf (z18.1, z24.1, ())) fun r25 =>
        some (r25.1, 0, ())) (
        bd (interval_span_interval.f lf (z18.1, r11.1.2.1, ())) fun r26 =>
        some (r26.1, 0, ()))) (
       bd (interval_compare.f lf r11.1.2.1 r3.1.2.1) fun r27 =>
       br (r27.1 != 0) (
        bd (interval_infinite.f lf 1) fun r28 =>
        bd (interval_Widen.l2 lf a2 a0.1 a0.2.1 a0.2.2.1 a1.1 a1.2.1 a1.2.2.1 false (⟨#[]⟩ : ByteArray) (⟨#[]⟩ : ByteArray) [a0, a1] r4.1.1.1 r4.1.1.2.1 r4.1.2.1.1 r4.1.2.1.2.1 r11.1.1.1 r11.1.1.2.1 r11.1.2.1.1 r11.1.2.1.2.1 (lf + 40) (IntKind.i64.wrap (((a2.length : Nat) : Int) - 1)) r28.1.1 r28.1.2.1) fun z32 =>
        bd (interval_span_interval.f lf (r11.1.1, z32.1, ())) fun r33 =>
        some (r33.1, 0, ())) (
        bd (interval_span_interval.f lf r11.1) fun r34 =>
        some (r34.1, 0, ())))))))) (
  bd (interval_Check.f lf a1) fun r35 =>
  br (r35.1 != 0) (
   br (r35.1 != 0) (
    some ((false, (⟨#[]⟩ : ByteArray), (⟨#[]⟩ : ByteArray), ()), r35.1, ())) (
    bd (interval_ascending.f lf a2) fun r36 =>
    br (r36.1 != 0) (
     some ((false, (⟨#[]⟩ : ByteArray), (⟨#[]⟩ : ByteArray), ()), r36.1, ())) (
     bd (interval_of.f lf a0) fun r37 =>
     bd (interval_of.f lf a1) fun r38 =>
     bd (interval_span_empty.f lf r37.1) fun r39 =>
     br r39.1 (
      bd (interval_span_hull.f lf r37.1 r38.1) fun r40 =>
      bd (interval_span_interval.f lf r40.1) fun r41 =>
      some (r41.1, 0, ())) (
      bd (interval_span_empty.f lf r38.1) fun r42 =>
      br r42.1 (
       bd (interval_span_hull.f lf r37.1 r38.1) fun r43 =>
       bd (interval_span_interval.f lf r43.1) fun r44 =>
       some (r44.1, 0, ())) (
       bd (interval_span_hull.f lf r37.1 r38.1) fun r45 =>
       bd (interval_compare.f lf r45.1.1 r37.1.1) fun r46 =>
       br (r46.1 != 0) (
        bd (interval_infinite.f lf (-1)) fun r47 =>
        bd (interval_Widen.l0 lf a2 a2 ((a2.length : Nat) : Int) false (⟨#[]⟩ : ByteArray) (⟨#[]⟩ : ByteArray) r37.1.1.1 r37.1.1.2.1 r37.1.2.1.1 r37.1.2.1.2.1 r45.1.1.1 r45.1.1.2.1 r45.1.2.1.1 r45.1.2.1.2.1 (lf + 40) 0 r47.1.1 r47.1.2.1) fun z48 =>
        bd (interval_compare.f lf r45.1.2.1 r37.1.2.1) fun r49 =>
        br (r49.1 != 0) (
         bd (interval_infinite.f lf 1) fun r50 =>
         bd (interval_Widen.l1 lf a2 false (⟨#[]⟩ : ByteArray) (⟨#[]⟩ : ByteArray) z48.1.1 z48.1.2.1 r45.1.2.1.1 r45.1.2.1.2.1 z48.1.1 z48.1.2.1 (lf + 40) (IntKind.i64.wrap (((a2.length : Nat) : Int) - 1)) r50.1.1 r50.1.2.1) fun z51 =>
         bd (interval_span_interval.f lf (z48.1, z51.1, ())) fun r52 =>
         some (r52.1, 0, ())) (
         bd (interval_span_interval.f lf (z48.1, r45.1.2.1, ())) fun r53 =>
         some (r53.1, 0, ()))) (
        bd (interval_compare.f lf r45.1.2.1 r37.1.2.1) fun r54 =>
        br (r54.1 != 0) (
         bd (interval_infinite.f lf 1) fun r55 =>
         bd (interval_Widen.l2 lf a2 a0.1 a0.2.1 a0.2.2.1 a1.1 a1.2.1 a1.2.2.1 false (⟨#[]⟩ : ByteArray) (⟨#[]⟩ : ByteArray) [a0, a1] r38.1.1.1 r38.1.1.2.1 r38.1.2.1.1 r38.1.2.1.2.1 r45.1.1.1 r45.1.1.2.1 r45.1.2.1.1 r45.1.2.1.2.1 (lf + 40) (IntKind.i64.wrap (((a2.length : Nat) : Int) - 1)) r55.1.1 r55.1.2.1) fun z56 =>
         bd (interval_span_interval.f lf (r45.1.1, z56.1, ())) fun r57 =>
         some (r57.1, 0, ())) (
         bd (interval_span_interval.f lf r45.1) fun r58 =>
         some (r58.1, 0, ())))))))) (
   bd (interval_ascending.f lf a2) fun r59 =>
   br (r59.1 != 0) (
    some ((false, (⟨#[]⟩ : ByteArray), (⟨#[]⟩ : ByteArray), ()), r59.1, ())) (
    bd (interval_of.f lf a0) fun r60 =>
    bd (interval_of.f lf a1) fun r61 =>
    bd (interval_span_empty.f lf r60.1) fun r62 =>
    br r62.1 (
     bd (interval_span_hull.f lf r60.1 r61.1) fun r63 =>
     bd (interval_span_interval.f lf r63.1) fun r64 =>
     some (r64.1, 0, ())) (
     bd (interval_span_empty.f lf r61.1) fun r65 =>
     br r65.1 (
      bd (interval_span_hull.f lf r60.1 r61.1) fun r66 =>
      bd (interval_span_interval.f lf r66.1) fun r67 =>
      some (r67.1, 0, ())) (
      bd (interval_span_hull.f lf r60.1 r61.1) fun r68 =>
      bd (interval_compare.f lf r68.1.1 r60.1.1) fun r69 =>
      br (r69.1 != 0) (
       bd (interval_infinite.f lf (-1)) fun r70 =>
       bd (interval_Widen.l0 lf a2 a2 ((a2.length : Nat) : Int) false (⟨#[]⟩ : ByteArray) (⟨#[]⟩ : ByteArray) r60.1.1.1 r60.1.1.2.1 r60.1.2.1.1 r60.1.2.1.2.1 r68.1.1.1 r68.1.1.2.1 r68.1.2.1.1 r68.1.2.1.2.1 (lf + 40) 0 r70.1.1 r70.1.2.1) fun z71 =>
       bd (interval_compare.f lf r68.1.2.1 r60.1.2.1) fun r72 =>
       br (r72.1 != 0) (
        bd (interval_infinite.f lf 1) fun r73 =>
        bd (interval_Widen.l1 lf a2 false (⟨#[]⟩ : ByteArray) (⟨#[]⟩ : ByteArray) z71.1.1 z71.1.2.1 r68.1.2.1.1 r68.1.2.1.2.1 z71.1.1 z71.1.2.1 (lf + 40) (IntKind.i64.wrap (((a2.length : Nat) : Int) - 1)) r73.1.1 r73.1.2.1) fun z74 =>
        bd (interval_span_interval.f lf (z71.1, z74.1, ())) fun r75 =>
        some (r75.1, 0, ())) (
        bd (interval_span_interval.f lf (z71.1, r68.1.2.1, ())) fun r76 =>
        some (r76.1, 0, ()))) (
       bd (interval_compare.f lf r68.1.2.1 r60.1.2.1) fun r77 =>
       br (r77.1 != 0) (
        bd (interval_infinite.f lf 1) fun r78 =>
        bd (interval_Widen.l2 lf a2 a0.1 a0.2.1 a0.2.2.1 a1.1 a1.2.1 a1.2.2.1 false (⟨#[]⟩ : ByteArray) (⟨#[]⟩ : ByteArray) [a0, a1] r61.1.1.1 r61.1.1.2.1 r61.1.2.1.1 r61.1.2.1.2.1 r68.1.1.1 r68.1.1.2.1 r68.1.2.1.1 r68.1.2.1.2.1 (lf + 40) (IntKind.i64.wrap (((a2.length : Nat) : Int) - 1)) r78.1.1 r78.1.2.1) fun z79 =>
        bd (interval_span_interval.f lf (r68.1.1, z79.1, ())) fun r80 =>
        some (r80.1, 0, ())) (
        bd (interval_span_interval.f lf r68.1) fun r81 =>
        some (r81.1, 0, ()))))))))
noncomputable def interval_Widen.E (lf : Nat) : Entry := ⟨[(.pair .bool (.pair .str (.pair .str .unit))), (.pair .bool (.pair .str (.pair .str .unit))), (.sl .str)], [(.pair .bool (.pair .str (.pair .str .unit))), (.int .i64)], fun x => interval_Widen.f lf x.1 x.2.1 x.2.2.1⟩
theorem interval_Widen.ev (lf : Nat) (x : Tys (interval_Widen.E lf).ps) : (interval_Widen.E lf).f x = runQ Proofs.Tryz.prog interval_Widen.anns (lsOf (interval_Widen.ls lf)) (lookT (interval_Widen.tb lf)) (lf + 40) 14 6 13 (interval_Widen.E lf).ps (interval_Widen.E lf).rs x := by kernel_rfl
theorem interval_Widen.ok (lf : Nat) : EntryOK Proofs.Tryz.prog TabG 13 (interval_Widen.E lf) := entryL (l := interval_Widen.tb lf) (lookT_cons (interval_Check.ok lf) (lookT_cons (interval_ascending.ok lf) (lookT_cons (interval_of.ok lf) (lookT_cons (interval_span_empty.ok lf) (lookT_cons (interval_span_hull.ok lf) (lookT_cons (interval_span_interval.ok lf) (lookT_cons (interval_compare.ok lf) (lookT_cons (interval_infinite.ok lf) (lookT_cons (interval_finite.ok lf) lookT_nil))))))))) (interval_Widen.sp) (interval_Widen.sums lf _) (interval_Widen.ev lf)
end
end Go.Q
