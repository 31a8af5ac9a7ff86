import Derived.KernelRfl
import Derived.Test.YtfogkflaijhfoaaGreatDoorChecked
import Derived.ProofKit
import Derived.OpenShut
import Derived.LaidMore
import Derived.Lay
import Derived.Carry
import Derived.SevenTiedAt
import Derived.Stop.Joined
import Derived.Lib.LaidTab
import Derived.LaidSub
import Derived.Test.YtfogkflaijhfoaaGreatDoorCBE3
import Derived.Test.YtfogkflaijhfoaaGreatDoorCBG1
import Derived.Test.YtfogkflaijhfoaaGreatDoorCBG2
import Derived.Test.YtfogkflaijhfoaaGreatDoorCBG3
import Derived.Test.YtfogkflaijhfoaaGreatDoorCBG4
import Derived.Test.YtfogkflaijhfoaaGreatDoorCBG5
set_option linter.unusedVariables false
set_option linter.unusedSimpArgs false
set_option linter.unusedSectionVars false
set_option maxRecDepth 100000
namespace Go.N
open Go.IntKind (i64)
open Go Go.Q Go.Rx
abbrev G : Int := 1000000000
theorem trim_l0 (lf : Nat) : ∀ (l : List Int) (n : Nat), l.length < n → l.length ≤ 1000000 → bigint_trim.l0 lf n l = some ((tr l, ()), ()) := by
 intro l
 refine tr_ind (p := fun l => ∀ n, l.length < n → l.length ≤ 1000000 → bigint_trim.l0 lf n l = some ((tr l, ()), ())) l ?_ ?_ ?_
 ·intro n h _
  obtain ⟨m, rfl⟩ := Nat.exists_eq_succ_of_ne_zero (show n ≠ 0 by omega)
  rw [bigint_trim.l0, bigint_trim.r0]
  simp [brI, tr_nil]
 ·intro l ih n h hb
  obtain ⟨m, rfl⟩ := Nat.exists_eq_succ_of_ne_zero (show n ≠ 0 by omega)
  rw [List.length_append, List.length_singleton] at h hb
  have e : i64.wrap (((l ++ [0]).length : Nat) - 1 : Int) = (l.length : Nat) := by
   rw [List.length_append, List.length_singleton, w64 (by omega) (by omega)]; omega
  rw [bigint_trim.l0, bigint_trim.r0, decide_eq_true (by rw [List.length_append, List.length_singleton]; omega), brT, e, idxL_nat _ _ (by simp), bdS]
  simp only [List.getElem_concat_length, BEq.rfl, brT]
  rw [cutL_to _ _ l.length rfl (by simp), bdS, List.take_left, ih m (by omega) (by omega), tr_snoc0]
 ·intro l x hx n h hb
  obtain ⟨m, rfl⟩ := Nat.exists_eq_succ_of_ne_zero (show n ≠ 0 by omega)
  rw [List.length_append, List.length_singleton] at h hb
  have e : i64.wrap (((l ++ [x]).length : Nat) - 1 : Int) = (l.length : Nat) := by
   rw [List.length_append, List.length_singleton, w64 (by omega) (by omega)]; omega
  rw [bigint_trim.l0, bigint_trim.r0, decide_eq_true (by rw [List.length_append, List.length_singleton]; omega), brT, e, idxL_nat _ _ (by simp), bdS]
  have : (x == 0) = false := by simpa using hx
  simp only [List.getElem_concat_length, this, brF]
  rw [tr_snoc _ _ hx]
theorem trim_f (lf : Nat) (l : List Int) (h : l.length ≤ lf) (hb : l.length ≤ 1000000) : bigint_trim.f lf l = some (tr l, ()) := by
 rw [bigint_trim.f, trim_l0 lf l (lf + 40) (by omega) hb, bdS]
theorem plus_l0 (lf : Nat) (xs ys : List Int) (N : Nat) (hx : Dg G xs) (hy : Dg G ys) (hN : N ≤ 1000000) : ∀ (k n i : Nat) (c : Int) (out : List Int), i + k = N → out.length = N → 0 ≤ c → c ≤ 1 → k < n →
  bigint_plus.l0 lf xs ys (N : Nat) n c (i : Nat) out = some ((out.take i ++ addL G (xs.drop i) (ys.drop i) c k, ()), ()) := by
 intro k
 induction k with
 | zero =>
  intro n i c out hi ho h0 h1 hn
  obtain ⟨m, rfl⟩ := Nat.exists_eq_succ_of_ne_zero (show n ≠ 0 by omega)
  rw [bigint_plus.l0, bigint_plus.r0, decide_eq_false (by omega), brF, addL, List.append_nil, List.take_of_length_le (by omega)]
 | succ k ih =>
  intro n i c out hi ho h0 h1 hn
  obtain ⟨m, rfl⟩ := Nat.exists_eq_succ_of_ne_zero (show n ≠ 0 by omega)
  have ex : 0 ≤ xs.getD i 0 ∧ xs.getD i 0 < G := hx.getD (by decide) i
  have ey : 0 ≤ ys.getD i 0 ∧ ys.getD i 0 < G := hy.getD (by decide) i
  have fin : ∀ s : Int, s = c + xs.getD i 0 + ys.getD i 0 →
    (bd (iRem s 1000000000) fun r4 => bd (iQuo .i64 s 1000000000) fun r5 => bd (idxB out.length (i : Nat)) fun j6 => bd (upE out j6 fun _ => some r4) fun l7 => bigint_plus.l0 lf xs ys (N : Nat) m r5 (i64.wrap ((i : Nat) + 1)) l7) =
    some ((out.take i ++ addL G (xs.drop i) (ys.drop i) c (k + 1), ()), ()) := by
   intro s hs
   simp only [G] at ex ey
   have hs1 : 0 ≤ s := by omega
   have hs2 : s ≤ 2000000000 := by omega
   rw [iRem_nn hs1 (by decide), bdS, iQuo_nn hs1 (by decide) (by omega), bdS, idxB_nat _ _ (by omega), bdS, upE_set _ _ _ (by omega), bdS]
   rw [w64 (by omega) (by omega), show ((i : Nat) : Int) + 1 = ((i + 1 : Nat) : Int) by omega]
   rw [ih m (i + 1) _ _ (by omega) (by rw [List.length_set]; omega) (Int.ediv_nonneg hs1 (by decide)) (by omega) (by omega)]
   rw [take_set _ _ _ (by omega), addL, headD_drop, headD_drop, tail_drop', tail_drop', ← hs]
   simp
  simp only [G] at ex ey
  rw [bigint_plus.l0, bigint_plus.r0, decide_eq_true (by omega), brT]
  by_cases h1x : i < xs.length
  ·rw [decide_eq_true (by omega), brT, idxL_nat _ _ h1x, bdS]
   rw [getD_lt _ _ h1x] at ex fin
   rw [w64 (by omega) (by omega)]
   by_cases h1y : i < ys.length
   ·rw [decide_eq_true (by omega), brT, idxL_nat _ _ h1y, bdS]
    rw [getD_lt _ _ h1y] at ey fin
    rw [w64 (by omega) (by omega)]
    exact fin _ rfl
   ·rw [decide_eq_false (by omega), brF]
    rw [getD_ge _ _ h1y] at fin
    exact fin _ (by omega)
  ·rw [decide_eq_false (by omega), brF]
   rw [getD_ge _ _ h1x] at fin
   by_cases h1y : i < ys.length
   ·rw [decide_eq_true (by omega), brT, idxL_nat _ _ h1y, bdS]
    rw [getD_lt _ _ h1y] at ey fin
    rw [w64 (by omega) (by omega)]
    exact fin _ (by omega)
   ·rw [decide_eq_false (by omega), brF]
    rw [getD_ge _ _ h1y] at fin
    exact fin _ (by omega)
theorem plus_f (lf : Nat) (xs ys : List Int) (hx : Dg G xs) (hy : Dg G ys) (h1 : xs.length ≤ 100000) (h2 : ys.length ≤ 100000) (h3 : 200000 ≤ lf) :
  ∃ l, bigint_plus.f lf xs ys = some (l, ()) ∧ Dg G l ∧ Tr l ∧ lv G l = lv G xs + lv G ys ∧ l.length ≤ max xs.length ys.length + 1 := by
 have key : ∀ (a b : List Int), Dg G a → Dg G b → a.length ≤ 100000 → b.length ≤ a.length →
   ∃ l, (bd (mkL (i64.wrap (((a.length : Nat) : Int) + 1)) (i64.wrap (((a.length : Nat) : Int) + 1)) 8 0) fun l27 =>
    bd (bigint_plus.l0 lf a b ((l27.length : Nat) : Int) (lf + 40) 0 0 l27) fun z28 => bd (bigint_trim.f lf z28.1.1) fun r29 => some (r29.1, ())) = some (l, ()) ∧ Dg G l ∧ Tr l ∧ lv G l = lv G a + lv G b ∧ l.length ≤ a.length + 1 := by
  intro a b ha hb hl hle
  refine ⟨tr (addL G a b 0 (a.length + 1)), ?_, dg_tr (dg_addL (by decide) _ _ _ _), tr_tr _, ?_, ?_⟩
  ·rw [w64 (by omega) (by omega), mkL_nat _ _ _ (a.length + 1) (by omega) (by omega) (by omega), bdS]
   rw [List.length_replicate]
   have := plus_l0 lf a b (a.length + 1) ha hb (by omega) (a.length + 1) (lf + 40) 0 0 (List.replicate (a.length + 1) 0) (by omega) (by simp) (by omega) (by omega) (by omega)
   simp only [List.drop_zero, List.take_zero, List.nil_append] at this
   rw [show ((0 : Nat) : Int) = 0 from rfl] at this
   rw [this, bdS, trim_f lf _ (by rw [addL_len]; omega) (by rw [addL_len]; omega), bdS]
  ·rw [lv_tr, lv_addL (by decide), Int.zero_add]
   have a1 := lv_lt (B := G) (by decide) ha
   have a2 := lv_lt (B := G) (by decide) hb
   have a3 := pow_mono' (B := G) (by decide) hle
   have a4 := lv_nonneg (B := G) (by decide) ha
   have a5 := lv_nonneg (B := G) (by decide) hb
   apply Int.emod_eq_of_lt (by omega)
   rw [Int.pow_succ]
   have : 0 < G ^ a.length := pow_pos' (by decide) _
   simp only [G] at *
   omega
  ·have := tr_len (addL G a b 0 (a.length + 1))
   rw [addL_len] at this
   exact this
 rw [bigint_plus.f]
 by_cases h : xs.length < ys.length
 ·rw [decide_eq_true (by omega), brT]
  obtain ⟨l, e, k1, k2, k3, k4⟩ := key ys xs hy hx h2 (by omega)
  exact ⟨l, e, k1, k2, by rw [k3, Int.add_comm], by omega⟩
 ·rw [decide_eq_false (by omega), brF]
  obtain ⟨l, e, k1, k2, k3, k4⟩ := key xs ys hx hy h1 (by omega)
  exact ⟨l, e, k1, k2, k3, by omega⟩
theorem minus_l0 (lf : Nat) (xs ys : List Int) (N : Nat) (hx : Dg G xs) (hy : Dg G ys) (hN : N ≤ 1000000) (hxl : xs.length = N) : ∀ (k n i : Nat) (c : Int) (out : List Int), i + k = N → out.length = N → 0 ≤ c → c ≤ 1 → k < n →
  bigint_minus.l0 lf xs ys (N : Nat) n c (i : Nat) out = some ((out.take i ++ subL G (xs.drop i) (ys.drop i) c k, ()), ()) := by
 intro k
 induction k with
 | zero =>
  intro n i c out hi ho h0 h1 hn
  obtain ⟨m, rfl⟩ := Nat.exists_eq_succ_of_ne_zero (show n ≠ 0 by omega)
  rw [bigint_minus.l0, bigint_minus.r0, decide_eq_false (by omega), brF, subL, List.append_nil, List.take_of_length_le (by omega)]
 | succ k ih =>
  intro n i c out hi ho h0 h1 hn
  obtain ⟨m, rfl⟩ := Nat.exists_eq_succ_of_ne_zero (show n ≠ 0 by omega)
  have ex : 0 ≤ xs.getD i 0 ∧ xs.getD i 0 < G := hx.getD (by decide) i
  have ey : 0 ≤ ys.getD i 0 ∧ ys.getD i 0 < G := hy.getD (by decide) i
  simp only [G] at ex ey
  have go : ∀ (d v c' : Int), d = xs.getD i 0 - c - ys.getD i 0 → v = d % G → c' = -(d / G) → 0 ≤ c' → c' ≤ 1 →
    (bd (idxB out.length (i : Nat)) fun j6 => bd (upE out j6 fun _ => some v) fun l7 => bigint_minus.l0 lf xs ys (N : Nat) m c' (i64.wrap ((i : Nat) + 1)) l7) =
    some ((out.take i ++ subL G (xs.drop i) (ys.drop i) c (k + 1), ()), ()) := by
   intro d v c' hd hv hc c1 c2
   rw [idxB_nat _ _ (by omega), bdS, upE_set _ _ _ (by omega), bdS]
   rw [w64 (by omega) (by omega), show ((i : Nat) : Int) + 1 = ((i + 1 : Nat) : Int) by omega]
   rw [ih m (i + 1) _ _ (by omega) (by rw [List.length_set]; omega) c1 c2 (by omega)]
   rw [take_set _ _ _ (by omega), subL, headD_drop, headD_drop, tail_drop', tail_drop', ← hd, hv, hc]
   simp
  have fin : ∀ d : Int, d = xs.getD i 0 - c - ys.getD i 0 →
    (br (decide (d < 0)) (bd (idxB out.length (i : Nat)) fun j4 => bd (upE out j4 fun _ => some (i64.wrap (d + 1000000000))) fun l5 => bigint_minus.l0 lf xs ys (N : Nat) m 1 (i64.wrap ((i : Nat) + 1)) l5)
     (bd (idxB out.length (i : Nat)) fun j7 => bd (upE out j7 fun _ => some d) fun l8 => bigint_minus.l0 lf xs ys (N : Nat) m 0 (i64.wrap ((i : Nat) + 1)) l8)) =
    some ((out.take i ++ subL G (xs.drop i) (ys.drop i) c (k + 1), ()), ()) := by
   intro d hd
   by_cases hneg : d < 0
   ·rw [decide_eq_true hneg, brT, w64 (by omega) (by omega)]
    exact go d _ 1 hd (by simp only [G]; omega) (by simp only [G]; omega) (by omega) (by omega)
   ·rw [decide_eq_false hneg, brF]
    exact go d _ 0 hd (by simp only [G]; omega) (by simp only [G]; omega) (by omega) (by omega)
  have h1x : i < xs.length := by omega
  rw [getD_lt _ _ h1x] at ex fin
  rw [bigint_minus.l0, bigint_minus.r0, decide_eq_true (by omega), brT, idxL_nat _ _ h1x, bdS, w64 (by omega) (by omega)]
  by_cases h1y : i < ys.length
  ·rw [decide_eq_true (by omega), brT, idxL_nat _ _ h1y, bdS]
   rw [getD_lt _ _ h1y] at ey fin
   rw [w64 (by omega) (by omega)]
   exact fin _ rfl
  ·rw [decide_eq_false (by omega), brF]
   rw [getD_ge _ _ h1y] at fin
   exact fin _ (by omega)
theorem minus_f (lf : Nat) (xs ys : List Int) (hx : Dg G xs) (hy : Dg G ys) (h1 : xs.length ≤ 100000) (hle : lv G ys ≤ lv G xs) (h3 : 200000 ≤ lf) :
  ∃ l, bigint_minus.f lf xs ys = some (l, ()) ∧ Dg G l ∧ Tr l ∧ lv G l = lv G xs - lv G ys ∧ l.length ≤ xs.length := by
 refine ⟨tr (subL G xs ys 0 xs.length), ?_, dg_tr (dg_subL (by decide) _ _ _ _), tr_tr _, ?_, ?_⟩
 ·rw [bigint_minus.f, mkL_nat _ _ _ xs.length rfl rfl (by omega), bdS, List.length_replicate]
  have := minus_l0 lf xs ys xs.length hx hy (by omega) rfl xs.length (lf + 40) 0 0 (List.replicate xs.length 0) (by omega) (by simp) (by omega) (by omega) (by omega)
  simp only [List.drop_zero, List.take_zero, List.nil_append] at this
  rw [show ((0 : Nat) : Int) = 0 from rfl] at this
  rw [this, bdS, trim_f lf _ (by rw [subL_len]; omega) (by rw [subL_len]; omega), bdS]
 ·rw [lv_tr, lv_subL (by decide)]
  have a1 := lv_lt (B := G) (by decide) hx
  have a5 := lv_nonneg (B := G) (by decide) hy
  rw [show lv G xs - 0 - lv G ys = lv G xs - lv G ys by omega]
  exact Int.emod_eq_of_lt (by omega) (by omega)
 ·have := tr_len (subL G xs ys 0 xs.length)
  rw [subL_len] at this
  exact this
end Go.N
namespace Go.N
open Go Go.Q Go.Rx
theorem lv_take_succ (B : Int) (l : List Int) (i : Nat) (h : i < l.length) : lv B (l.take (i + 1)) = lv B (l.take i) + B ^ i * l[i] := by
 rw [List.take_succ_eq_append_getElem h, lv_app]
 simp [lv, List.length_take, Nat.min_eq_left (Nat.le_of_lt h)]
def Sg (v d : Int) : Prop := (v < 0 ↔ d < 0) ∧ (v = 0 ↔ d = 0)
theorem top_cmp {B : Int} (hB : 0 < B) {xs ys : List Int} (hx : Dg B xs) (hy : Dg B ys) (i : Nat) (h1 : i < xs.length) (h2 : i < ys.length) (h : xs[i] < ys[i]) : lv B (xs.take (i + 1)) < lv B (ys.take (i + 1)) := by
 rw [lv_take_succ B xs i h1, lv_take_succ B ys i h2]
 have a := lv_lt hB (hx.take i)
 have b := lv_nonneg hB (hy.take i)
 rw [List.length_take, Nat.min_eq_left (Nat.le_of_lt h1)] at a
 have c : B ^ i * (xs[i] + 1) ≤ B ^ i * ys[i] := Int.mul_le_mul_of_nonneg_left (by omega) (Int.le_of_lt (pow_pos' hB i))
 rw [Int.mul_add] at c
 omega
theorem order_l0 (lf : Nat) (xs ys : List Int) (hx : Dg G xs) (hy : Dg G ys) (hl : xs.length = ys.length) (hb : xs.length ≤ 1000000) : ∀ (i n : Nat) (hi : i ≤ xs.length), i < n →
  ∃ b v, bigint_order.l0 lf ys 0 xs n ((i : Nat) - 1 : Int) = some (b, (v, ()), (), ()) ∧ Sg (if b = true then v else 0) (lv G (xs.take i) - lv G (ys.take i)) := by
 intro i
 induction i with
 | zero =>
  intro n hi hn
  obtain ⟨m, rfl⟩ := Nat.exists_eq_succ_of_ne_zero (show n ≠ 0 by omega)
  refine ⟨false, 0, ?_, by simp [Sg, lv]⟩
  rw [bigint_order.l0, bigint_order.r0, decide_eq_false (by omega), brF]
 | succ i ih =>
  intro n hi hn
  obtain ⟨m, rfl⟩ := Nat.exists_eq_succ_of_ne_zero (show n ≠ 0 by omega)
  have e : ((i + 1 : Nat) : Int) - 1 = (i : Nat) := by omega
  have hxi := hx.at i (by omega)
  have hyi := hy.at i (by omega)
  simp only [G] at hxi hyi
  rw [bigint_order.l0, bigint_order.r0, decide_eq_true (by omega), brT, idxL_int xs _ i e (by omega), bdS, idxL_int ys _ i e (by omega), bdS]
  by_cases h : xs[i] = ys[i]'(by omega)
  ·have hne : (xs[i] != ys[i]'(by omega)) = false := by simp [h]
   rw [hne, brF, w64 (by omega) (by omega), e]
   obtain ⟨b, v, h1, h2⟩ := ih m (by omega) (by omega)
   refine ⟨b, v, h1, ?_⟩
   rw [lv_take_succ G xs i (by omega), lv_take_succ G ys i (by omega), h]
   rwa [show lv G (xs.take i) + G ^ i * ys[i] - (lv G (ys.take i) + G ^ i * ys[i]) = lv G (xs.take i) - lv G (ys.take i) by omega]
  ·have hne : (xs[i] != ys[i]'(by omega)) = true := by simp [h]
   rw [hne, brT, bdS, w64 (by omega) (by omega)]
   refine ⟨true, _, rfl, ?_⟩
   rw [if_pos rfl]
   rcases Int.lt_or_lt_of_ne h with hlt | hlt
   ·have := top_cmp (B := G) (by decide) hx hy i (by omega) (by omega) hlt
    exact ⟨by omega, by omega⟩
   ·have := top_cmp (B := G) (by decide) hy hx i (by omega) (by omega) hlt
    exact ⟨by omega, by omega⟩
theorem order_f (lf : Nat) (xs ys : List Int) (hx : Dg G xs) (hy : Dg G ys) (t1 : Tr xs) (t2 : Tr ys) (h1 : xs.length ≤ 100000) (h2 : ys.length ≤ 100000) (h3 : 200000 ≤ lf) :
  ∃ v, bigint_order.f lf xs ys = some (v, ()) ∧ Sg v (lv G xs - lv G ys) := by
 rw [bigint_order.f]
 by_cases h : xs.length = ys.length
 ·have hne : (((xs.length : Nat) : Int) != ((ys.length : Nat) : Int)) = false := by simp [h]
  rw [hne, brF, w64 (by omega) (by omega)]
  obtain ⟨b, v, k1, k2⟩ := order_l0 lf xs ys hx hy h (by omega) xs.length (lf + 40) (Nat.le_refl _) (by omega)
  rw [List.take_of_length_le (Nat.le_refl _), List.take_of_length_le (by omega)] at k2
  rw [k1, bdS]
  cases b with
  | true => exact ⟨v, by simp only [brT], by simpa using k2⟩
  | false => exact ⟨0, by simp only [brF], by simpa using k2⟩
 ·have hne : (((xs.length : Nat) : Int) != ((ys.length : Nat) : Int)) = true := by
   simp only [bne_iff_ne, ne_eq]; omega
  rw [hne, brT, w64 (by omega) (by omega)]
  refine ⟨_, rfl, ?_⟩
  rcases Nat.lt_or_gt_of_ne h with hlt | hlt
  ·have := lv_len_lt (B := G) (by decide) hx hy t2 hlt
   exact ⟨by omega, by omega⟩
  ·have := lv_len_lt (B := G) (by decide) hy hx t1 hlt
   exact ⟨by omega, by omega⟩
structure RN (p : Bool × (List Int × Unit)) (z : Int) (k : Nat) : Prop where
 dg : Dg G p.2.1
 tr : Tr p.2.1
 len : p.2.1.length ≤ k
 val : z = if p.1 = true then -lv G p.2.1 else lv G p.2.1
theorem RN.mono {p : Bool × (List Int × Unit)} {z : Int} {k k' : Nat} (h : RN p z k) (hk : k ≤ k') : RN p z k' := ⟨h.dg, h.tr, Nat.le_trans h.len hk, h.val⟩
theorem negated_f (lf : Nat) {p : Bool × (List Int × Unit)} {z : Int} {k : Nat} (h : RN p z k) : ∃ q, bigint_negated.f lf p = some (q, ()) ∧ RN q (-z) k := by
 refine ⟨_, rfl, h.dg, h.tr, h.len, ?_⟩
 rw [h.val]
 cases p.1 <;> simp
theorem sum_f (lf : Nat) {p q : Bool × (List Int × Unit)} {x y : Int} {k : Nat} (h1 : RN p x k) (h2 : RN q y k) (hk : k ≤ 100000) (h3 : 200000 ≤ lf) : ∃ s, bigint_sum.f lf p q = some (s, ()) ∧ RN s (x + y) (k + 1) := by
 obtain ⟨pn, pl, ⟨⟩⟩ := p
 obtain ⟨qn, ql, ⟨⟩⟩ := q
 obtain ⟨d1, t1, l1, v1⟩ := h1
 obtain ⟨d2, t2, l2, v2⟩ := h2
 simp only at d1 t1 l1 v1 d2 t2 l2 v2
 rw [bigint_sum.f]
 by_cases h : pn = qn
 ·have hne : (pn != qn) = false := by simp [h]
  simp only [hne, brF]
  rw [bigint_operations_1.f, bdS]
  obtain ⟨l, e, k1, k2, k3, k4⟩ := plus_f lf pl ql d1 d2 (by omega) (by omega) h3
  rw [e, bdS]
  refine ⟨_, rfl, k1, k2, by simp only; omega, ?_⟩
  simp only
  rw [k3, v1, v2, h]
  cases qn <;> simp <;> omega
 ·have hne : (pn != qn) = true := by simp [h]
  simp only [hne, brT]
  rw [bigint_operations_3.f, bigint_operations_2.f]
  obtain ⟨v, e, s1, s2⟩ := order_f lf pl ql d1 d2 t1 t2 (by omega) (by omega) h3
  simp only [e, bdS]
  by_cases hv : v < 0
  ·have hl := s1.1 hv
   obtain ⟨l, e2, k1, k2, k3, k4⟩ := minus_f lf ql pl d2 d1 (by omega) (by omega) h3
   rw [decide_eq_true hv, brT, e2, bdS, bdS]
   refine ⟨_, rfl, k1, k2, by simp only; omega, ?_⟩
   simp only
   rw [k3, v1, v2]
   cases pn <;> cases qn <;> simp_all <;> omega
  ·have hl : ¬ (lv G pl - lv G ql < 0) := fun h => hv (s1.2 h)
   obtain ⟨l, e2, k1, k2, k3, k4⟩ := minus_f lf pl ql d1 d2 (by omega) (by omega) h3
   rw [decide_eq_false hv, brF, e2, bdS, bdS]
   refine ⟨_, rfl, k1, k2, by simp only; omega, ?_⟩
   simp only
   rw [k3, v1, v2]
   cases pn <;> cases qn <;> simp_all <;> omega
def sgn (z : Int) : Int := if z < 0 then -1 else if z = 0 then 0 else 1
theorem sign_f (lf : Nat) {p : Bool × (List Int × Unit)} {z : Int} {k : Nat} (h : RN p z k) : bigint_sign.f lf p = some (sgn z, ()) := by
 obtain ⟨pn, pl, ⟨⟩⟩ := p
 obtain ⟨d1, t1, l1, v1⟩ := h
 simp only at d1 t1 l1 v1
 rw [bigint_sign.f]
 by_cases hn : pl = []
 ·subst hn
  have : z = 0 := by rw [v1]; cases pn <;> simp [lv]
  subst this
  simp [brT, sgn]
 ·have hp := lv_pos (B := G) (by decide) d1 t1 hn
  have : (((pl.length : Nat) : Int) == 0) = false := by
   have : pl.length ≠ 0 := fun e => hn (List.length_eq_zero_iff.1 e)
   simp only [beq_eq_false_iff_ne, ne_eq]; omega
  simp only [this, brF]
  cases pn with
  | true =>
   rw [brT, v1, sgn, if_pos (by simp; omega)]
  | false =>
   rw [brF, v1, sgn, if_neg (by simp; omega), if_neg (by simp; omega)]
end Go.N
namespace Go.N
open Go Go.Q Go.Rx
theorem hasPrefix_f (lf : Nat) (l : List UInt8) : stringslite_HasPrefix.f lf (bs l) (⟨#[45]⟩ : ByteArray) = some (neg l, ()) := by
 rw [stringslite_HasPrefix.f]
 have e1 : ((⟨#[45]⟩ : ByteArray).size : Int) = 1 := rfl
 rw [e1, bs_size]
 cases l with
 | nil => rw [decide_eq_false (by simp), brF]; rfl
 | cons b r =>
  rw [decide_eq_true (by simp; omega), brT, sCut_to (b :: r) 1 1 rfl (by simp), bdS]
  simp only [List.take_succ_cons, List.take_zero]
  rw [show (⟨#[45]⟩ : ByteArray) = bs [45] from rfl, beq_bs]
  simp [neg]
theorem cutPrefix_f (lf : Nat) (l : List UInt8) : strings_CutPrefix.f lf (bs l) (⟨#[45]⟩ : ByteArray) = some (bs (body l), neg l, ()) := by
 rw [strings_CutPrefix.f, stringslite_CutPrefix.f, hasPrefix_f, bdS]
 simp only
 cases h : neg l with
 | false =>
  simp only [Bool.not_false, brT, bdS]
  have : ¬ l.head? = some 45 := by unfold neg at h; simpa using h
  unfold body
  rw [if_neg this]
 | true =>
  have h45 : l.head? = some 45 := by unfold neg at h; simpa using h
  simp only [Bool.not_true, brF]
  have hl : 1 ≤ l.length := by cases l with
   | nil => simp at h45
   | cons b r => simp
  rw [show (((⟨#[45]⟩ : ByteArray).size : Nat) : Int) = 1 from rfl, sCut_from l 1 1 rfl hl, bdS, bdS]
  unfold body
  rw [if_pos h45]
  simp
theorem trimPrefix_f (lf : Nat) (l : List UInt8) : strings_TrimPrefix.f lf (bs l) (⟨#[45]⟩ : ByteArray) = some (bs (body l), ()) := by
 rw [strings_TrimPrefix.f, stringslite_TrimPrefix.f, hasPrefix_f, bdS]
 simp only
 cases h : neg l with
 | false =>
  simp only [brF, bdS]
  have : ¬ l.head? = some 45 := by unfold neg at h; simpa using h
  unfold body
  rw [if_neg this]
 | true =>
  have h45 : l.head? = some 45 := by unfold neg at h; simpa using h
  simp only [brT]
  have hl : 1 ≤ l.length := by cases l with
   | nil => simp at h45
   | cons b r => simp
  rw [show (((⟨#[45]⟩ : ByteArray).size : Nat) : Int) = 1 from rfl, sCut_from l 1 1 rfl hl, bdS, bdS]
  unfold body
  rw [if_pos h45]
  simp
theorem body_len (l : List UInt8) : (body l).length ≤ l.length := nlen_le l
theorem canonical_f (lf : Nat) (l : List UInt8) (hl : l.length ≤ 9223372036854775807) : bigint_canonical.f lf (bs l) = some (can l, ()) := by
 rw [bigint_canonical.f, cutPrefix_f, bdS]
 simp only
 rw [show (⟨#[48]⟩ : ByteArray) = bs [48] from rfl, show (⟨#[]⟩ : ByteArray) = bs [] from rfl, beq_bs, beq_bs]
 by_cases h48 : body l = [48]
 ·rw [decide_eq_true h48, brT]
  congr 2
  unfold can
  rw [h48]
  unfold neg body at *
  by_cases h : l.head? = some 45
  ·rw [decide_eq_true h]
   have : l ≠ [48] := by rintro rfl; simp at h
   simp [this]
  ·rw [decide_eq_false h]
   rw [if_neg h] at h48
   simp [h48]
 ·rw [decide_eq_false h48, brF]
  have hl48 : l ≠ [48] := by rintro rfl; exact h48 rfl
  unfold can
  rw [decide_eq_false hl48, Bool.false_or]
  by_cases h0 : body l = []
  ·rw [decide_eq_true h0]
   simp [brF, h0]
  ·rw [decide_eq_false h0]
   simp only [Bool.not_false, brT]
   have hlen : 0 < (body l).length := List.length_pos_iff.2 h0
   rw [sIdx_bs _ 0 0 rfl hlen, bdS]
   have hhead : (body l).head? = some ((body l)[0]) := by rw [List.head?_eq_getElem?, List.getElem?_eq_getElem hlen]
   rw [hhead]
   by_cases h4 : (body l)[0] = 48
   ·rw [h4]
    simp [brF]
   ·have : ((((body l)[0]).toNat : Int) != 48) = true := by
     simp only [bne_iff_ne, ne_eq]
     intro e
     apply h4
     apply UInt8.toNat_inj.1
     have h48' : (48 : UInt8).toNat = 48 := rfl
     omega
    rw [this, brT]
    have e1 : B.Trim.f lf (bs (body l)) (⟨#[48, 49, 50, 51, 52, 53, 54, 55, 56, 57]⟩ : ByteArray) = some (bs (Lib.trimS (body l) [48, 49, 50, 51, 52, 53, 54, 55, 56, 57]), ()) := by
     unfold B.Trim.f
     rw [if_pos ⟨by rw [bs_size]; have := body_len l; omega, by decide, by decide⟩]
    rw [e1, bdS]
    simp only
    rw [beq_bs]
    congr 2
    have : decide (some ((body l)[0]) ≠ some 48) = true := by simpa using h4
    rw [this]
    have h0' : decide (body l ≠ []) = true := by simpa using h0
    rw [h0', Bool.true_and, Bool.true_and]
    have e2 : (body l).all isDig = (body l).all (([48, 49, 50, 51, 52, 53, 54, 55, 56, 57] : List UInt8).contains ·) := by
     congr 1; funext b; exact (digs_contains b).symm
    rw [e2]
    by_cases ht : (body l).all (([48, 49, 50, 51, 52, 53, 54, 55, 56, 57] : List UInt8).contains ·) = true
    ·rw [ht]; exact decide_eq_true ((trimS_nil _ _).2 ht)
    ·rw [Bool.not_eq_true] at ht
     rw [ht]; apply decide_eq_false
     intro e
     have := (trimS_nil _ _).1 e
     rw [ht] at this; cases this
theorem digits_f (lf : Nat) (l : List UInt8) : bigint_digits.f lf (bs l) = some ((nlen l : Int), ()) := by
 rw [bigint_digits.f, trimPrefix_f, bdS]
 simp only
 rw [bs_size]; rfl
theorem check_f (lf : Nat) (l : List UInt8) (hl : l.length ≤ 9223372036854775807) : bigint_Check.f lf (bs l) = some (chk l, ()) := by
 rw [bigint_Check.f, canonical_f lf l hl, bdS, digits_f, bdS]
 simp only
 unfold chk
 cases can l with
 | false => simp [brT]
 | true =>
  simp only [Bool.not_true, brF, if_true]
  by_cases h : nlen l > 4096
  ·rw [decide_eq_true (by omega), brT, if_pos h]
  ·rw [decide_eq_false (by omega), brF, if_neg h]
theorem read_l0 (lf : Nat) (ng : Bool) (l : List UInt8) (ha : l.all isDig = true) (hl : l.length ≤ 1000000) : ∀ (e n : Nat) (acc : List Int), e ≤ l.length → e < n → acc.length + e ≤ 1000000 →
  ∃ r, bigint_read.l0 lf ng (bs l) n (e : Nat) acc = some ((acc ++ r, ()), ()) ∧ Dg G r ∧ lv G r = dv (l.take e) ∧ r.length ≤ e := by
 intro e
 induction e using Nat.strongRecOn with
 | _ e ih =>
  intro n acc he hn hacc
  obtain ⟨m, rfl⟩ := Nat.exists_eq_succ_of_ne_zero (show n ≠ 0 by omega)
  have hall : ∀ (a b : Nat), ((l.drop a).take b).all isDig = true := by
   intro a b
   rw [List.all_eq_true] at ha ⊢
   intro x hx
   exact ha x (List.mem_of_mem_drop (List.mem_of_mem_take hx))
  rw [bigint_read.l0, bigint_read.r0]
  by_cases h0 : e = 0
  ·subst h0
   rw [decide_eq_false (by omega), brF]
   exact ⟨[], by simp, Dg.nil, rfl, by simp⟩
  ·rw [decide_eq_true (by omega), brT, w64 (by omega) (by omega)]
   have step : ∀ a : Nat, a = e - 9 → ∃ y : Int, (bd (sCut (bs l) (some (a : Int)) (some (e : Int))) fun r2 => bd (B.Atoi.f lf r2) fun r3 => bd (apL true 8 acc [r3.1]) fun l4 => bigint_read.l0 lf ng (bs l) m ((e : Int) - 9) l4) =
     bigint_read.l0 lf ng (bs l) m ((e : Int) - 9) (acc ++ [y]) ∧ y = dv ((l.drop a).take (e - a)) ∧ 0 ≤ y ∧ y < G := by
    intro a hae
    have hd := dv_lt _ (hall a (e - a))
    have hlen : ((l.drop a).take (e - a)).length = e - a := by rw [List.length_take, List.length_drop]; omega
    have hp : (10 : Nat) ^ (e - a) ≤ 10 ^ 9 := Nat.pow_le_pow_right (by omega) (by omega)
    rw [hlen] at hd
    refine ⟨(dv ((l.drop a).take (e - a)) : Int), ?_, rfl, by omega, ?_⟩
    ·rw [sCut_bs l _ _ a e rfl rfl (by omega) he, bdS]
     have e2 : B.Atoi.f lf (bs ((l.drop a).take (e - a))) = some ((dv ((l.drop a).take (e - a)) : Int), (), ()) := by
      unfold B.Atoi.f
      rw [bs_size, if_pos (by omega), atoi_digs (hall a (e - a)) (by intro e0; rw [e0] at hlen; simp at hlen; omega)]
      rfl
     rw [e2, bdS]
     simp only
     rw [apL_ok 8 _ _ (by omega) (by simp; omega), bdS]
    ·simp only [G]; have : (10 : Nat) ^ 9 = 1000000000 := by decide
     omega
   by_cases h9 : e ≤ 9
   ·have hif : (if (e : Int) - 9 > 0 then (e : Int) - 9 else 0) = ((0 : Nat) : Int) := by rw [if_neg (by omega)]; rfl
    rw [hif]
    obtain ⟨y, e1, hy, y1, y2⟩ := step 0 (by omega)
    rw [e1]
    obtain ⟨k, rfl⟩ : ∃ k, m = k + 1 := Nat.exists_eq_succ_of_ne_zero (show m ≠ 0 by omega)
    rw [bigint_read.l0, bigint_read.r0, decide_eq_false (by omega), brF]
    refine ⟨[y], rfl, Dg.cons ⟨y1, y2⟩ Dg.nil, ?_, by simp; omega⟩
    simp only [lv, Int.mul_zero, Int.add_zero]
    rw [hy, List.drop_zero, Nat.sub_zero]
   ·have hif : (if (e : Int) - 9 > 0 then (e : Int) - 9 else 0) = ((e - 9 : Nat) : Int) := by rw [if_pos (by omega)]; omega
    rw [hif]
    obtain ⟨y, e1, hy, y1, y2⟩ := step (e - 9) rfl
    rw [e1, show (e : Int) - 9 = ((e - 9 : Nat) : Int) by omega]
    obtain ⟨r, k1, k2, k3, k4⟩ := ih (e - 9) (by omega) m (acc ++ [y]) (by omega) (by omega) (by simp; omega)
    rw [k1]
    refine ⟨y :: r, by simp, Dg.cons ⟨y1, y2⟩ k2, ?_, by simp; omega⟩
    rw [lv, k3, hy]
    have hsplit : l.take e = l.take (e - 9) ++ (l.drop (e - 9)).take (e - (e - 9)) := by
     conv => lhs; rw [show e = (e - 9) + (e - (e - 9)) by omega]
     rw [List.take_add]
    have hlen : ((l.drop (e - 9)).take (e - (e - 9))).length = 9 := by rw [List.length_take, List.length_drop]; omega
    rw [hsplit, dv_app, hlen]
    have : (10 : Nat) ^ 9 = 1000000000 := by decide
    rw [this]
    simp only [G]
    omega
theorem read_f (lf : Nat) (l : List UInt8) (hc : can l = true) (hl : l.length ≤ 100000) (h3 : 200000 ≤ lf) :
  ∃ p, bigint_read.f lf (bs l) = some (p, ()) ∧ RN p (iv l) (nlen l) ∧ p.1 = neg l := by
 rw [bigint_read.f, cutPrefix_f, bdS]
 simp only
 obtain ⟨ha, hne, _⟩ := can_parts hc
 have hb := body_len l
 obtain ⟨r, k1, k2, k3, k4⟩ := read_l0 lf false (body l) ha (by omega) (body l).length (lf + 40) [] (Nat.le_refl _) (by omega) (by simp; omega)
 rw [bs_size, k1, bdS]
 simp only [List.nil_append]
 rw [trim_f lf r (by omega) (by omega), bdS]
 have hlen := tr_len r
 refine ⟨_, rfl, ⟨dg_tr k2, tr_tr r, by simp only; unfold nlen; omega, ?_⟩, rfl⟩
 simp only
 rw [lv_tr, k3, List.take_of_length_le (Nat.le_refl _)]
 rfl
theorem pair_f (lf : Nat) (l m : List UInt8) (h1 : chk l = 0) (h2 : chk m = 0) (h3 : 200000 ≤ lf) :
  ∃ p q, bigint_pair.f lf (bs l) (bs m) = some (p, q, 0, ()) ∧ RN p (iv l) 4096 ∧ RN q (iv m) 4096 ∧ p.1 = neg l ∧ q.1 = neg m := by
 have a1 := chk_zero.1 h1
 have a2 := chk_zero.1 h2
 have b1 := len_nlen l
 have b2 := len_nlen m
 obtain ⟨p, e1, k1, n1⟩ := read_f lf l a1.1 (by omega) h3
 obtain ⟨q, e2, k2, n2⟩ := read_f lf m a2.1 (by omega) h3
 rw [bigint_pair.f, check_f lf l (by omega), bdS, check_f lf m (by omega), h1, h2]
 simp only [bne_self_eq_false, brF, bdS, e1, e2]
 exact ⟨p, q, rfl, k1.mono a1.2, k2.mono a2.2, n1, n2⟩
theorem compare_f (lf : Nat) (l m : List UInt8) (h1 : chk l = 0) (h2 : chk m = 0) (h3 : 200000 ≤ lf) :
  bigint_Compare.f lf (bs l) (bs m) = some (sgn (iv l - iv m), 0, ()) := by
 obtain ⟨p, q, e, k1, k2, _⟩ := pair_f lf l m h1 h2 h3
 rw [bigint_Compare.f, e, bdS]
 simp only [bne_self_eq_false, brF]
 obtain ⟨q', e2, k3⟩ := negated_f lf k2
 rw [e2, bdS]
 obtain ⟨s, e3, k4⟩ := sum_f lf k1 k3 (by omega) h3
 rw [e3, bdS, sign_f lf k4, bdS]
 simp only [Int.sub_eq_add_neg]
end Go.N
namespace Go.N
open Go.IntKind (i64)
open Go Go.Q Go.Rx
abbrev D (n : Nat) : List UInt8 := Lib.decDigits n
def zs (n : Nat) : List UInt8 := List.replicate n 48
theorem zs_all (n : Nat) : (zs n).all isDig = true := by
 unfold zs
 rw [List.all_eq_true]
 intro b hb
 rw [(List.mem_replicate.1 hb).2]; rfl
theorem dv_zs : ∀ n : Nat, dv (zs n) = 0
 | 0 => rfl
 | n + 1 => by
  unfold zs
  rw [List.replicate_succ', dv_snoc]
  have := dv_zs n
  unfold zs at this
  rw [this]; rfl
theorem dec_pad {v x k : Nat} (hv : 0 < v) (hk : 0 < k) (hx : x < 10 ^ k) : D (v * 10 ^ k + x) = D v ++ (zs (k - (D x).length) ++ D x) := by
 have hlen : (D x).length ≤ k := by
  obtain ⟨j, rfl⟩ := Nat.exists_eq_succ_of_ne_zero (show k ≠ 0 by omega)
  exact dec_len_le j x hx
 obtain ⟨b, r, e, hb⟩ := dec_head (show v ≠ 0 by omega)
 have h1 : (D v ++ (zs (k - (D x).length) ++ D x)).all isDig = true := by
  rw [List.all_append, List.all_append, dec_all, zs_all, dec_all]; rfl
 have h2 : dv (D v ++ (zs (k - (D x).length) ++ D x)) = v * 10 ^ k + x := by
  rw [dv_app, dv_app, dv_zs, dv_dec, dv_dec, List.length_append]
  unfold zs
  rw [List.length_replicate, Nat.sub_add_cancel hlen]; omega
 have h3 := dec_of h1 (by rw [show D v = b :: r from e]; simp) (.inl (by rw [show D v = b :: r from e]; simpa using hb))
 rw [h2] at h3
 exact h3.symm
theorem dec_pad_len {v x k : Nat} (hv : 0 < v) (hk : 0 < k) (hx : x < 10 ^ k) : (D (v * 10 ^ k + x)).length = (D v).length + k := by
 have hlen : (D x).length ≤ k := by
  obtain ⟨j, rfl⟩ := Nat.exists_eq_succ_of_ne_zero (show k ≠ 0 by omega)
  exact dec_len_le j x hx
 rw [dec_pad hv hk hx, List.length_append, List.length_append]
 unfold zs
 rw [List.length_replicate]; omega
def uv (L : List Int) (k : Nat) : Nat := (lv G (L.drop k)).toNat
theorem uv_succ {L : List Int} (h : Dg G L) (k : Nat) (hk : k < L.length) : uv L k = uv L (k + 1) * 10 ^ 9 + (L[k]).toNat := by
 unfold uv
 rw [List.drop_eq_getElem_cons hk, lv]
 have h1 := h.at k hk
 have h2 := lv_nonneg (B := G) (by decide) (h.drop (k + 1))
 have e : (10 : Nat) ^ 9 = 1000000000 := by decide
 rw [e]
 simp only [G] at *
 omega
theorem uv_len (L : List Int) : uv L L.length = 0 := by unfold uv; rw [List.drop_length]; rfl
theorem uv_pos {L : List Int} (h : Dg G L) (ht : Tr L) {k : Nat} (hk : k < L.length) : 0 < uv L k := by
 have hT : Tr (L.drop k) := by
  unfold Tr at *
  rw [List.getLast?_drop, if_neg (by omega)]
  exact ht
 have := lv_pos (B := G) (by decide) (h.drop k) hT (by intro e; have := congrArg List.length e; simp at this; omega)
 unfold uv; omega
theorem uv_dlen {L : List Int} (h : Dg G L) {k : Nat} (hk : k < L.length) : (D (uv L k)).length ≤ 9 * (L.length - k) := by
 have h1 := lv_lt (B := G) (by decide) (h.drop k)
 have h2 := lv_nonneg (B := G) (by decide) (h.drop k)
 rw [List.length_drop] at h1
 have h3 : uv L k < 10 ^ (9 * (L.length - k)) := by
  unfold uv
  have e : (G : Int) ^ (L.length - k) = ((10 ^ (9 * (L.length - k)) : Nat) : Int) := by
   rw [Nat.pow_mul]
   have : (10 : Nat) ^ 9 = 1000000000 := by decide
   rw [this]
   simp [G]
  rw [e] at h1
  omega
 obtain ⟨j, hj⟩ := Nat.exists_eq_succ_of_ne_zero (show 9 * (L.length - k) ≠ 0 by omega)
 rw [hj] at h3 ⊢
 exact dec_len_le j _ h3
theorem itoa_nn {y : Int} (h : 0 ≤ y) : Lib.itoa y = D y.toNat := by unfold Lib.itoa; rw [if_neg (by omega)]
theorem bItoa (lf : Nat) {y : Int} (h1 : 0 ≤ y) (h2 : y < G) : B.Itoa.f lf y = some (bs (D y.toNat), ()) := by
 simp only [G] at h2
 unfold B.Itoa.f
 rw [if_pos ⟨by omega, by omega⟩, itoa_nn h1]
theorem repeat48 : ∀ c : Nat, Lib.repeatL [48] c = zs c
 | 0 => rfl
 | c + 1 => by rw [Lib.repeatL, repeat48 c]; rfl
theorem bRepeat (lf : Nat) (c : Nat) (h : c ≤ 9) : B.Repeat.f lf (⟨#[48]⟩ : ByteArray) (c : Int) = some (bs (zs c), ()) := by
 unfold B.Repeat.f
 have e : (⟨#[48]⟩ : ByteArray).size = 1 := rfl
 rw [e, if_pos ⟨by omega, by omega, by rw [Int.toNat_natCast]; omega⟩, Int.toNat_natCast]
 show some (bs (Lib.repeatL [48] c), ()) = _
 rw [repeat48]
abbrev si (l : List UInt8) : List Int := l.map fun b => (b.toNat : Int)
theorem si_app (l m : List UInt8) : si l ++ si m = si (l ++ m) := by simp [si]
theorem limb_step (lf : Nat) {L : List Int} (h : Dg G L) (ht : Tr L) (hl : L.length ≤ 100000) (k : Nat) (hk : k < L.length) (pre : List UInt8) (hp : pre.length ≤ 1) {R : Type} (f : List Int → Option R) :
    (bd (idxL L (k : Nat)) fun y2 => bd (B.Itoa.f lf y2) fun r3 => br (decide (((k : Nat) : Int) < i64.wrap (((L.length : Nat) : Int) - 1)))
      (bd (B.Repeat.f lf (⟨#[48]⟩ : ByteArray) (i64.wrap (9 - ((r3.1.size : Nat) : Int)))) fun r4 => bd (apL true 1 (si (pre ++ (if k + 1 = L.length then [] else D (uv L (k + 1))))) (sBytes r4.1)) fun l5 => bd (apL true 1 l5 (sBytes r3.1)) fun l6 => f l6)
      (bd (apL true 1 (si (pre ++ (if k + 1 = L.length then [] else D (uv L (k + 1))))) (sBytes r3.1)) fun l7 => f l7)) = f (si (pre ++ D (uv L k))) := by
  have hy := h.at k hk
  have hlx : (D (L[k]).toNat).length ≤ 9 := dec_len_le 8 _ (by simp only [G] at hy; have : (10 : Nat) ^ (8 + 1) = 1000000000 := by decide
                                                               omega)
  rw [idxL_nat L k hk, bdS, bItoa lf hy.1 hy.2, bdS, w64 (n := ((L.length : Nat) : Int) - 1) (by omega) (by omega)]
  simp only [bs_size]
  rw [uv_succ h k hk]
  by_cases hlast : k + 1 = L.length
  · rw [decide_eq_false (by omega), brF, if_pos hlast, hlast, uv_len, List.append_nil]
    simp only [sBytes_bs]
    rw [apL_ok 1 _ _ (by omega) (by simp; omega), bdS, si_app]
    simp
  · have hd := uv_dlen h (k := k + 1) (by omega)
    rw [decide_eq_true (by omega), brT, if_neg hlast, w64 (by omega) (by omega)]
    rw [show (9 : Int) - ((D (L[k]).toNat).length : Nat) = ((9 - (D (L[k]).toNat).length : Nat) : Int) by omega, bRepeat lf _ (by omega), bdS]
    simp only [sBytes_bs]
    have hz : (zs (9 - (D (L[k]).toNat).length)).length = 9 - (D (L[k]).toNat).length := by simp [zs]
    rw [apL_ok 1 _ _ (by omega) (by simp only [List.length_map, List.length_append]; omega), bdS, si_app]
    rw [apL_ok 1 _ _ (by omega) (by simp only [List.length_map, List.length_append]; omega), bdS, si_app]
    rw [dec_pad (uv_pos h ht (by omega)) (by omega) (by simp only [G] at hy; have : (10 : Nat) ^ 9 = 1000000000 := by decide
                                                        omega)]
    simp only [List.append_assoc]
theorem text_l0 (lf : Nat) {L : List Int} (h : Dg G L) (ht : Tr L) (hl : L.length ≤ 100000) (b : Bool) (q : List Int) (pre : List UInt8) (hp : pre.length ≤ 1) : ∀ (k n : Nat), k ≤ L.length → k < n →
  bigint_number_text.l0 lf b L q L n ((k : Nat) - 1 : Int) (si (pre ++ (if k = L.length then [] else D (uv L k)))) = some ((si (pre ++ (if L.length = 0 then [] else D (uv L 0))), ()), ()) := by
 intro k
 induction k with
 | zero =>
  intro n hk hn
  obtain ⟨m, rfl⟩ := Nat.exists_eq_succ_of_ne_zero (show n ≠ 0 by omega)
  rw [bigint_number_text.l0, bigint_number_text.r0, decide_eq_false (by omega), brF]
  congr 5
  by_cases e : L.length = 0 <;> simp [e, eq_comm]
 | succ k ih =>
  intro n hk hn
  obtain ⟨m, rfl⟩ := Nat.exists_eq_succ_of_ne_zero (show n ≠ 0 by omega)
  rw [bigint_number_text.l0, bigint_number_text.r0, decide_eq_true (by omega), brT, show ((k + 1 : Nat) : Int) - 1 = (k : Nat) by omega]
  have st := limb_step lf h ht hl k (by omega) pre hp (fun l => bigint_number_text.l0 lf b L q L m (i64.wrap (((k : Nat) : Int) - 1)) l)
  rw [st, w64 (by omega) (by omega)]
  have := ih m (by omega) (by omega)
  rw [if_neg (show ¬ k = L.length by omega)] at this
  exact this
theorem text_l2 (lf : Nat) {L : List Int} (h : Dg G L) (ht : Tr L) (hl : L.length ≤ 100000) (b : Bool) (pre : List UInt8) (hp : pre.length ≤ 1) : ∀ (k n : Nat), k ≤ L.length → k < n →
  bigint_number_text.l2 lf b L L n ((k : Nat) - 1 : Int) (si (pre ++ (if k = L.length then [] else D (uv L k)))) = some ((b, L, L, si (pre ++ (if L.length = 0 then [] else D (uv L 0))), ()), ()) := by
 intro k
 induction k with
 | zero =>
  intro n hk hn
  obtain ⟨m, rfl⟩ := Nat.exists_eq_succ_of_ne_zero (show n ≠ 0 by omega)
  rw [bigint_number_text.l2, bigint_number_text.r2, decide_eq_false (by omega), brF]
  congr 8
  by_cases e : L.length = 0 <;> simp [e, eq_comm]
 | succ k ih =>
  intro n hk hn
  obtain ⟨m, rfl⟩ := Nat.exists_eq_succ_of_ne_zero (show n ≠ 0 by omega)
  rw [bigint_number_text.l2, bigint_number_text.r2, decide_eq_true (by omega), brT, show ((k + 1 : Nat) : Int) - 1 = (k : Nat) by omega]
  have st := limb_step lf h ht hl k (by omega) pre hp (fun l => bigint_number_text.l2 lf b L L m (i64.wrap (((k : Nat) : Int) - 1)) l)
  rw [st, w64 (by omega) (by omega)]
  have := ih m (by omega) (by omega)
  rw [if_neg (show ¬ k = L.length by omega)] at this
  exact this
theorem ntext_f (lf : Nat) {p : Bool × (List Int × Unit)} {z : Int} {k : Nat} (h : RN p z k) (hk : k ≤ 100000) (h3 : 200000 ≤ lf) : bigint_number_text.f lf p = some (bs (Lib.itoa z), ()) := by
 obtain ⟨ng, L, ⟨⟩⟩ := p
 obtain ⟨hd, ht, hl, hv⟩ := h
 simp only at hd ht hl hv
 rw [bigint_number_text.f]
 simp only
 by_cases h0 : L = []
 ·subst h0
  have : z = 0 := by rw [hv]; cases ng <;> simp [lv]
  subst this
  rw [show (((([] : List Int).length : Nat) : Int) == 0) = true from rfl, brT]
  have : Lib.itoa 0 = [48] := by unfold Lib.itoa; rw [if_neg (by omega)]; exact dec_zero
  rw [this]
 ·have hne : L.length ≠ 0 := fun e => h0 (List.length_eq_zero_iff.1 e)
  have hb : ((((L.length : Nat) : Int)) == 0) = false := by rw [beq_eq_false_iff_ne]; omega
  rw [hb, brF]
  have hu : (uv L 0 : Int) = lv G L := by
   have := lv_nonneg (B := G) (by decide) hd
   unfold uv; rw [List.drop_zero]; omega
  have hup := uv_pos hd ht (k := 0) (by omega)
  cases ng with
  | true =>
   rw [brT, apL_ok 1 _ _ (by omega) (by simp), bdS, w64 (by omega) (by omega)]
   have st := text_l0 lf hd ht (by omega) true [45] [45] (by simp) L.length (lf + 40) (Nat.le_refl _) (by omega)
   rw [if_pos rfl, if_neg hne] at st
   simp only [List.append_nil, List.nil_append] at st ⊢
   rw [show si [45] = ([45] : List Int) from rfl] at st
   rw [st, bdS]
   simp only
   rw [if_pos (by simp), bdS, bytesS_map]
   congr 2
   rw [if_pos rfl] at hv
   unfold Lib.itoa
   rw [if_pos (by omega), show z.natAbs = uv L 0 by omega]
   rfl
  | false =>
   rw [brF, w64 (by omega) (by omega)]
   obtain ⟨m, hm⟩ : ∃ m, lf + 40 = m + 1 := ⟨lf + 39, by omega⟩
   obtain ⟨t, htl⟩ := Nat.exists_eq_succ_of_ne_zero hne
   rw [hm, bigint_number_text.l1, bigint_number_text.r1, decide_eq_true (by omega), brT]
   have e1 : ((L.length : Nat) : Int) - 1 = (t : Nat) := by omega
   rw [e1]
   have st := limb_step lf hd ht (by omega) t (by omega) [] (by simp) (fun l => bd (bigint_number_text.l2 lf false L L m (i64.wrap (((t : Nat) : Int) - 1)) l) fun z22 => some (false, (false, ([] : List Int), ([] : List Int), ([] : List Int), ()), ((z22.1.1, z22.1.2.1, z22.1.2.2.1, z22.1.2.2.2.1, ()), ())))
   rw [if_pos (by omega)] at st
   simp only [List.append_nil, List.nil_append] at st
   rw [show si [] = ([] : List Int) from rfl, e1] at st
   rw [st, w64 (by omega) (by omega)]
   have st2 := text_l2 lf hd ht (by omega) false [] (by simp) t m (by omega) (by omega)
   rw [if_neg (by omega), if_neg hne] at st2
   simp only [List.nil_append] at st2
   rw [st2, bdS, bdS]
   simp only [brF]
   have hl0 : 0 < (D (uv L 0)).length := List.length_pos_iff.2 (dec_ne _)
   rw [if_pos (by simpa using hl0), bdS, bytesS_map]
   congr 2
   rw [if_neg (by simp)] at hv
   unfold Lib.itoa
   rw [if_neg (by omega), show z.toNat = uv L 0 by omega]
theorem uv_dlen_eq {L : List Int} (h : Dg G L) (ht : Tr L) (hn : 0 < L.length) : ∀ j, j < L.length → (D (uv L (L.length - 1 - j))).length = 9 * j + (D (L[L.length - 1]).toNat).length
  | 0, _ => by
    rw [Nat.sub_zero, uv_succ h (L.length - 1) (by omega), show L.length - 1 + 1 = L.length by omega, uv_len]
    simp
  | j + 1, hj => by
    have ih := uv_dlen_eq h ht hn j (by omega)
    have hk : L.length - 1 - (j + 1) < L.length := by omega
    have hy := h.at _ hk
    rw [uv_succ h _ hk, dec_pad_len (uv_pos h ht (by omega)) (by omega) (by simp only [G] at hy; have : (10 : Nat) ^ 9 = 1000000000 := by decide
                                                                            omega)]
    rw [show L.length - 1 - (j + 1) + 1 = L.length - 1 - j by omega, ih]; omega
theorem size_f (lf : Nat) {p : Bool × (List Int × Unit)} {z : Int} {k : Nat} (h : RN p z k) (hk : k ≤ 100000) : bigint_number_size.f lf p = some ((if z = 0 then 0 else ((D z.natAbs).length : Int)), ()) := by
  obtain ⟨ng, L, ⟨⟩⟩ := p
  obtain ⟨hd, ht, hl, hv⟩ := h
  simp only at hd ht hl hv
  rw [bigint_number_size.f]
  simp only
  by_cases h0 : L = []
  · subst h0
    have : z = 0 := by rw [hv]; cases ng <;> simp [lv]
    subst this
    rw [show (((([] : List Int).length : Nat) : Int) == 0) = true from rfl, brT]
    rfl
  · have hne : L.length ≠ 0 := fun e => h0 (List.length_eq_zero_iff.1 e)
    have hb : ((((L.length : Nat) : Int)) == 0) = false := by rw [beq_eq_false_iff_ne]; omega
    have hup := uv_pos hd ht (k := 0) (by omega)
    have hu : (uv L 0 : Int) = lv G L := by
      have := lv_nonneg (B := G) (by decide) hd
      unfold uv; rw [List.drop_zero]; omega
    have hy := hd.at (L.length - 1) (by omega)
    have hlx : (D (L[L.length - 1]).toNat).length ≤ 9 := dec_len_le 8 _ (by simp only [G] at hy; have : (10 : Nat) ^ (8 + 1) = 1000000000 := by decide
                                                                            omega)
    have e := uv_dlen_eq hd ht (by omega) (L.length - 1) (by omega)
    rw [show L.length - 1 - (L.length - 1) = 0 by omega] at e
    have hz : z.natAbs = uv L 0 ∧ z ≠ 0 := by cases ng <;> simp at hv <;> omega
    rw [hb, brF, w64 (n := ((L.length : Nat) : Int) - 1) (by omega) (by omega), idxL_int L _ (L.length - 1) (by omega) (by omega), bdS, bItoa lf hy.1 hy.2, bdS]
    simp only [bs_size]
    rw [w64 (n := (((L.length : Nat) : Int) - 1) * 9) (by omega) (by omega), w64 (by omega) (by omega), if_neg hz.2, hz.1, e]
    congr 2
    omega
theorem written_f (lf : Nat) {p : Bool × (List Int × Unit)} {z : Int} {k : Nat} (h : RN p z k) (hk : k ≤ 100000) (h3 : 200000 ≤ lf) :
  bigint_written.f lf p = some (if (D z.natAbs).length > 4096 then (bs [], 10, ()) else (bs (Lib.itoa z), 0, ())) := by
 rw [bigint_written.f, size_f lf h hk, bdS, ntext_f lf h hk h3, bdS]
 by_cases hz : z = 0
 ·rw [hz, if_pos rfl, decide_eq_false (by omega), brF]
  rw [show (0 : Int).natAbs = 0 from rfl, show (D 0).length = 1 from by rw [show D 0 = [48] from dec_zero]; rfl, if_neg (by omega)]
 ·rw [if_neg hz]
  by_cases h' : (D z.natAbs).length > 4096
  ·rw [decide_eq_true (by omega), brT, if_pos h']
  ·rw [decide_eq_false (by omega), brF, if_neg h']
theorem sub_f (lf : Nat) (l m : List UInt8) (h1 : chk l = 0) (h2 : chk m = 0) (h3 : 200000 ≤ lf) :
  bigint_Sub.f lf (bs l) (bs m) = some (if (D (iv l - iv m).natAbs).length > 4096 then (bs [], 10, ()) else (bs (Lib.itoa (iv l - iv m)), 0, ())) := by
 obtain ⟨p, q, e, k1, k2, _⟩ := pair_f lf l m h1 h2 h3
 rw [bigint_Sub.f, e, bdS]
 simp only [bne_self_eq_false, brF]
 obtain ⟨q', e2, k3⟩ := negated_f lf k2
 rw [e2, bdS]
 obtain ⟨s, e3, k4⟩ := sum_f lf k1 k3 (by omega) h3
 rw [e3, bdS, written_f lf k4 (by omega) h3, bdS, ← Int.sub_eq_add_neg]
theorem add_f (lf : Nat) (l m : List UInt8) (h1 : chk l = 0) (h2 : chk m = 0) (h3 : 200000 ≤ lf) :
  bigint_Add.f lf (bs l) (bs m) = some (if (D (iv l + iv m).natAbs).length > 4096 then (bs [], 10, ()) else (bs (Lib.itoa (iv l + iv m)), 0, ())) := by
 obtain ⟨p, q, e, k1, k2, _⟩ := pair_f lf l m h1 h2 h3
 rw [bigint_Add.f, e, bdS]
 simp only [bne_self_eq_false, brF]
 obtain ⟨s, e3, k4⟩ := sum_f lf k1 k2 (by omega) h3
 rw [e3, bdS, written_f lf k4 (by omega) h3, bdS]
end Go.N
namespace Go.N
open Go Go.Q Go.Rx
theorem iv_zero {l : List UInt8} (h : can l = true) : iv l = 0 ↔ l = [48] := by
 constructor
 ·intro e; exact iv_inj h (by decide) (by rw [e]; decide)
 ·rintro rfl; decide
end Go.N
namespace Go.N
open Go.IntKind (i64)
open Go Go.Q Go.Rx
theorem lv_set (B : Int) : ∀ (l : List Int) (k : Nat) (v : Int) (h : k < l.length), lv B (l.set k v) = lv B l + B ^ k * (v - l[k])
 | x :: l, 0, v, h => by simp [lv]; omega
 | x :: l, k + 1, v, h => by
  have ih := lv_set B l k v (by simpa using h)
  simp only [List.set_cons_succ, lv, ih, List.getElem_cons_succ, Int.pow_succ]
  grind
theorem dg_set {B : Int} {l : List Int} (h : Dg B l) (k : Nat) {v : Int} (hv : 0 ≤ v ∧ v < B) : Dg B (l.set k v) := fun y hy => by
 rcases List.mem_or_eq_of_mem_set hy with hy | rfl
 ·exact h y hy
 ·exact hv
theorem mul_bd {a y : Int} (h1 : 0 ≤ a) (h2 : a < G) (h3 : 0 ≤ y) (h4 : y < G) : 0 ≤ a * y ∧ a * y ≤ 999999998000000001 := by
 refine ⟨Int.mul_nonneg h1 h3, ?_⟩
 have := Int.mul_le_mul (show a ≤ 999999999 by simp only [G] at *; omega) (show y ≤ 999999999 by simp only [G] at *; omega) h3 (by omega)
 omega
theorem ring_step (P B s o c a y D m q : Int) (h : m + B * q = s) (hs : s = c + (o + a * y)) : P * (m - o) + P * B * (q + a * D) = P * (c + a * (y + B * D)) := by grind
theorem times_l1 (lf : Nat) (v0 v4 : List Int) (v5 v6 : Int) (a : Int) (i : Nat) (ys : List Int) (ha : 0 ≤ a ∧ a < G) (hy : Dg G ys) : ∀ (k n j : Nat) (c : Int) (out : List Int), j + k = ys.length → k < n → 0 ≤ c → c < G → Dg G out → i + ys.length ≤ out.length → out.length ≤ 1000000 →
  ∃ c' out', bigint_times.l1 lf v0 (i : Nat) a v4 v5 v6 ys ((ys.length : Nat) : Int) n c (j : Nat) out = some ((c', out', ()), ()) ∧ out'.length = out.length ∧ Dg G out' ∧ 0 ≤ c' ∧ c' < G ∧ lv G out' + G ^ (i + ys.length) * c' = lv G out + G ^ (i + j) * (c + a * lv G (ys.drop j)) ∧ ∀ q, i + ys.length ≤ q → out'[q]? = out[q]? := by
 intro k
 induction k with
 | zero =>
  intro n j c out hj hn c0 c1 hd hl hb
  obtain ⟨m, rfl⟩ := Nat.exists_eq_succ_of_ne_zero (show n ≠ 0 by omega)
  refine ⟨c, out, ?_, rfl, hd, c0, c1, ?_, fun q _ => rfl⟩
  ·rw [bigint_times.l1, bigint_times.r1, decide_eq_false (by omega), brF]
  ·rw [List.drop_of_length_le (by omega), show j = ys.length by omega]; simp [lv]
 | succ k ih =>
  intro n j c out hj hn c0 c1 hd hl hb
  obtain ⟨m, rfl⟩ := Nat.exists_eq_succ_of_ne_zero (show n ≠ 0 by omega)
  have hjl : j < ys.length := by omega
  have hp : i + j < out.length := by omega
  have y0 := hy.at j hjl
  have o0 := hd.at (i + j) hp
  have hm := mul_bd ha.1 (show a < G by omega) y0.1 (show ys[j] < G by omega)
  have hc9 : c < G := by omega
  have ho9 : out[i + j] < G := by omega
  have c0' := c0
  simp only [G] at hc9 ho9
  have e1 : i64.wrap (((i : Nat) : Int) + ((j : Nat) : Int)) = ((i + j : Nat) : Int) := by rw [w64 (by omega) (by omega)]; omega
  have e2 : i64.wrap (a * ys[j]) = a * ys[j] := w64 (by omega) (by omega)
  have e3 : i64.wrap (out[i + j] + a * ys[j]) = out[i + j] + a * ys[j] := w64 (by omega) (by omega)
  have e4 : i64.wrap (c + (out[i + j] + a * ys[j])) = c + (out[i + j] + a * ys[j]) := w64 (by omega) (by omega)
  have e5 : i64.wrap (((j : Nat) : Int) + 1) = ((j + 1 : Nat) : Int) := by rw [w64 (by omega) (by omega)]; omega
  obtain ⟨s, hs⟩ : ∃ s, s = c + (out[i + j] + a * ys[j]) := ⟨_, rfl⟩
  have s0 : 0 ≤ s := by omega
  have d0 := Int.emod_nonneg s (show G ≠ 0 by decide)
  have d1 := Int.emod_lt_of_pos s (show 0 < G by decide)
  have dd := Int.emod_add_mul_ediv s G
  have q0 : 0 ≤ s / G := Int.ediv_nonneg s0 (by decide)
  have q1 : s / G < G := by
   apply Int.ediv_lt_of_lt_mul (by decide)
   have h1 : a * ys[j] ≤ (G - 1) * (G - 1) := Int.mul_le_mul (by omega) (by omega) y0.1 (by decide)
   try simp only [G] at *
   omega
  obtain ⟨c', out', r1, r2, r3, r4, r5, r6, r7⟩ := ih m (j + 1) (s / G) (out.set (i + j) (s % G)) (by omega) (by omega) q0 q1 (dg_set hd _ ⟨d0, d1⟩) (by rw [List.length_set]; exact hl) (by rw [List.length_set]; exact hb)
  refine ⟨c', out', ?_, by rw [r2, List.length_set], r3, r4, r5, ?_, fun q hq => ?_⟩
  ·rw [bigint_times.l1, bigint_times.r1, decide_eq_true (by omega), brT]
   rw [idxL_nat _ _ hjl, bdS, e1, idxB_nat _ _ hp, bdS, List.getElem?_eq_getElem hp, bdS, e2, e3, e4, ← hs, iRem_nn s0 (by decide), bdS, iQuo_nn s0 (by decide) (by omega), bdS, bdS, upE_set _ _ _ hp, bdS, e5]
   exact r1
  ·rw [r6, lv_set G out (i + j) _ hp, List.drop_eq_getElem_cons hjl, lv, ← Nat.add_assoc, Int.pow_succ, Int.add_assoc, ring_step _ _ s out[i + j] c a ys[j] _ _ _ dd hs]
  ·rw [r7 q hq, List.getElem?_set_ne (by omega)]
theorem times_l0 (lf : Nat)  (xs ys : List Int) (hx : Dg G xs) (hy : Dg G ys) (h3 : 200000 ≤ lf) (hly : ys.length ≤ 100000): ∀ (k n i : Nat) (out : List Int), i + k = xs.length → k < n → Dg G out → out.length = xs.length + ys.length → out.length ≤ 1000000 → (∀ q, i + ys.length ≤ q → q < out.length → out[q]? = some 0) →
  ∃ out', bigint_times.l0 lf ys xs ((xs.length : Nat) : Int) n (i : Nat) out = some ((out', ()), ()) ∧ out'.length = out.length ∧ Dg G out' ∧ lv G out' = lv G out + G ^ i * (lv G (xs.drop i) * lv G ys) := by
 intro k
 induction k with
 | zero =>
  intro n i out hi hn hd hl hb hz
  obtain ⟨m, rfl⟩ := Nat.exists_eq_succ_of_ne_zero (show n ≠ 0 by omega)
  refine ⟨out, ?_, rfl, hd, ?_⟩
  ·rw [bigint_times.l0, bigint_times.r0, decide_eq_false (by omega), brF]
  ·rw [List.drop_of_length_le (by omega)]; simp [lv]
 | succ k ih =>
  intro n i out hi hn hd hl hb hz
  obtain ⟨m, rfl⟩ := Nat.exists_eq_succ_of_ne_zero (show n ≠ 0 by omega)
  have hil : i < xs.length := by omega
  have x0 := hx.at i hil
  obtain ⟨c', out', r1, r2, r3, r4, r5, r6, r7⟩ := times_l1 lf ys xs ((xs.length : Nat) : Int) (i : Nat) xs[i] i ys x0 hy ys.length (lf + 40) 0 0 out (by omega) (by omega) (by decide) (by decide) hd (by omega) hb
  rw [show ((0 : Nat) : Int) = 0 from rfl] at r1
  have hp : i + ys.length < out'.length := by rw [r2]; omega
  have hz' : out'[i + ys.length] = 0 := by
   have h1 := r7 (i + ys.length) (Nat.le_refl _)
   rw [hz (i + ys.length) (Nat.le_refl _) (by omega), List.getElem?_eq_getElem hp] at h1
   exact Option.some.inj h1
  have e1 : i64.wrap (((i : Nat) : Int) + ((ys.length : Nat) : Int)) = ((i + ys.length : Nat) : Int) := by rw [w64 (by omega) (by omega)]; omega
  have e5 : i64.wrap (((i : Nat) : Int) + 1) = ((i + 1 : Nat) : Int) := by rw [w64 (by omega) (by omega)]; omega
  obtain ⟨out2, t1, t2, t3, t4⟩ := ih m (i + 1) (out'.set (i + ys.length) c') (by omega) (by omega) (dg_set r3 _ ⟨r4, r5⟩) (by rw [List.length_set, r2]; exact hl) (by rw [List.length_set, r2]; exact hb) (fun q h1 h2 => by
   rw [List.length_set, r2] at h2
   rw [List.getElem?_set_ne (by omega), r7 q (by omega)]
   exact hz q (by omega) h2)
  refine ⟨out2, ?_, by rw [t2, List.length_set, r2], t3, ?_⟩
  ·rw [bigint_times.l0, bigint_times.r0, decide_eq_true (by omega), brT]
   rw [idxL_nat _ _ hil, bdS, r1, bdS, e1, idxB_nat _ _ hp, bdS, upE_set _ _ _ hp, bdS, e5]
   exact t1
  ·rw [t4, lv_set G out' (i + ys.length) _ hp, hz', List.drop_eq_getElem_cons hil, lv]
   simp only [List.drop_zero, Nat.add_zero] at r6
   rw [Int.pow_succ]
   grind
theorem times_val {B : Int} (xs ys : List Int) : lv B (List.replicate (xs.length + ys.length) 0) + B ^ 0 * (lv B (xs.drop 0) * lv B ys) = lv B xs * lv B ys := by
 rw [lv_zeros]; simp
theorem times_f (lf : Nat) (xs ys : List Int) (hx : Dg G xs) (hy : Dg G ys) (h1 : xs.length ≤ 50000) (h2 : ys.length ≤ 50000) (h3 : 200000 ≤ lf) :
  ∃ r, bigint_times.f lf xs ys = some (r, ()) ∧ Dg G r ∧ Tr r ∧ r.length ≤ xs.length + ys.length ∧ lv G r = lv G xs * lv G ys := by
 have e0 : i64.wrap (((xs.length : Nat) : Int) + ((ys.length : Nat) : Int)) = ((xs.length + ys.length : Nat) : Int) := by rw [w64 (by omega) (by omega)]; omega
 obtain ⟨out, r1, r2, r3, r4⟩ := times_l0 lf xs ys hx hy h3 (by omega) xs.length (lf + 40) 0 (List.replicate (xs.length + ys.length) 0) (by omega) (by omega) (Dg.zeros (by decide) _) (by simp) (by simp; omega) (fun q _ h => by rw [List.length_replicate] at h; rw [List.getElem?_replicate, if_pos h])
 rw [List.length_replicate] at r2
 rw [times_val] at r4
 rw [bigint_times.f, e0, mkL_nat _ _ _ (xs.length + ys.length) rfl rfl (by omega), bdS]
 rw [show ((0 : Nat) : Int) = 0 from rfl] at r1
 rw [r1, bdS, trim_f lf out (by omega) (by omega), bdS]
 exact ⟨_, rfl, dg_tr r3, tr_tr _, by have := tr_len out; show (tr out).length ≤ _; omega, by rw [lv_tr]; exact r4⟩
end Go.N
namespace Go.N
open Go.IntKind (i64)
open Go Go.Q Go.Rx
theorem lv_split (B : Int) (l : List Int) (k : Nat) (h : k ≤ l.length) : lv B l = lv B (l.take k) + B ^ k * lv B (l.drop k) := by
 have := lv_app B (l.take k) (l.drop k)
 rw [List.take_append_drop, List.length_take, Nat.min_eq_left h] at this
 exact this
theorem lv_dropc (B : Int) (l : List Int) (k : Nat) (h : k < l.length) : lv B (l.drop k) = l[k] + B * lv B (l.drop (k + 1)) := by
 rw [List.drop_eq_getElem_cons h, lv]
theorem lv_takes (B : Int) (l : List Int) (k : Nat) (h : k < l.length) : lv B (l.take (k + 1)) = lv B (l.take k) + B ^ k * l[k] := by
 rw [← List.take_append_getElem h, lv_app, List.length_take, Nat.min_eq_left (by omega)]; simp [lv]
theorem short_ring (P B d o x r v r1 A T : Int) (h : r1 + d * v = r * B + x) : d * (A + P * (v - 0)) + (P * r1 + T) = d * A + (P * B * r + (T + P * x)) := by grind
theorem short_l0 (lf : Nat) (xs : List Int) (d : Int) (hd0 : 0 < d) (hd1 : d < G) (hx : Dg G xs) (hb : xs.length ≤ 1000000) : ∀ (k n : Nat) (out : List Int) (r : Int), k ≤ xs.length → k < n → out.length = xs.length → 0 ≤ r → r < d → Dg G out → (∀ q, q < k → out[q]? = some 0) →
  ∃ out' r', bigint_short.l0 lf d xs n ((k : Nat) - 1 : Int) out r = some ((out', r', ()), ()) ∧ out'.length = out.length ∧ Dg G out' ∧ 0 ≤ r' ∧ r' < d ∧ d * lv G out' + r' = d * lv G out + (G ^ k * r + lv G (xs.take k)) := by
 intro k
 induction k with
 | zero =>
  intro n out r hk hn ho r0 r1 hdo hz
  obtain ⟨m, rfl⟩ := Nat.exists_eq_succ_of_ne_zero (show n ≠ 0 by omega)
  refine ⟨out, r, ?_, rfl, hdo, r0, r1, by simp [lv]⟩
  rw [bigint_short.l0, bigint_short.r0, decide_eq_false (by omega), brF]
 | succ k ih =>
  intro n out r hk hn ho r0 r1 hdo hz
  obtain ⟨m, rfl⟩ := Nat.exists_eq_succ_of_ne_zero (show n ≠ 0 by omega)
  have hkl : k < xs.length := by omega
  have x0 := hx.at k hkl
  have o0 : out[k]'(by omega) = 0 := by
   have h1 := hz k (by omega)
   rw [List.getElem?_eq_getElem (by omega)] at h1
   exact Option.some.inj h1
  simp only [G] at x0 hd1
  have e0 : ((k + 1 : Nat) : Int) - 1 = ((k : Nat) : Int) := by omega
  have e1 : i64.wrap (r * 1000000000) = r * 1000000000 := w64 (by omega) (by omega)
  obtain ⟨s, hs⟩ : ∃ s, s = r * 1000000000 + xs[k] := ⟨_, rfl⟩
  have e2 : i64.wrap s = s := w64 (by omega) (by omega)
  have e3 : i64.wrap (((k : Nat) : Int) - 1) = ((k : Nat) : Int) - 1 := w64 (by omega) (by omega)
  have s0 : 0 ≤ s := by omega
  have d0 := Int.emod_nonneg s (show d ≠ 0 by omega)
  have d1 := Int.emod_lt_of_pos s hd0
  have dd := Int.emod_add_mul_ediv s d
  have q0 : 0 ≤ s / d := Int.ediv_nonneg s0 (by omega)
  have q1 : s / d < G := by
   apply Int.ediv_lt_of_lt_mul hd0
   simp only [G]
   omega
  obtain ⟨out', r', t1, t2, t3, t4, t5, t6⟩ := ih m (out.set k (s / d)) (s % d) (by omega) (by omega) (by rw [List.length_set]; exact ho) d0 d1 (dg_set hdo _ ⟨q0, q1⟩) (fun q hq => by
   rw [List.getElem?_set_ne (by omega)]; exact hz q (by omega))
  refine ⟨out', r', ?_, by rw [t2, List.length_set], t3, t4, t5, ?_⟩
  ·rw [bigint_short.l0, bigint_short.r0, e0, decide_eq_true (by omega), brT, idxL_nat _ _ hkl, bdS, e1, ← hs, e2, iQuo_nn s0 hd0 (by omega), bdS, iRem_nn s0 (by omega), bdS, idxB_nat _ _ (by omega), bdS, upE_set _ _ _ (by omega), bdS, e3]
   exact t1
  ·rw [t6, lv_set G out k _ (by omega), o0, lv_takes G xs k hkl, Int.pow_succ]
   exact short_ring _ _ _ 0 _ _ _ _ _ _ (by rw [dd, hs])
theorem short_f (lf : Nat) (xs : List Int) (d : Int) (hd0 : 0 < d) (hd1 : d < G) (hx : Dg G xs) (hb : xs.length ≤ 100000) (h3 : 200000 ≤ lf) :
  ∃ q r, bigint_short.f lf xs d = some (q, r, ()) ∧ Dg G q ∧ Tr q ∧ q.length ≤ xs.length ∧ 0 ≤ r ∧ r < d ∧ lv G xs = d * lv G q + r := by
 obtain ⟨out, r, t1, t2, t3, t4, t5, t6⟩ := short_l0 lf xs d hd0 hd1 hx (by omega) xs.length (lf + 40) (List.replicate xs.length 0) 0 (Nat.le_refl _) (by omega) (by simp) (by omega) hd0 (Dg.zeros (by decide) _) (fun q hq => by rw [List.getElem?_replicate, if_pos hq])
 rw [List.length_replicate] at t2
 refine ⟨tr out, r, ?_, dg_tr t3, tr_tr _, by have := tr_len out; omega, t4, t5, ?_⟩
 ·rw [bigint_short.f, mkL_nat _ _ _ xs.length rfl rfl (by omega), bdS, w64 (by omega) (by omega), t1, bdS, trim_f lf out (by omega) (by omega), bdS]
 ·rw [lv_tr, t6, lv_zeros, List.take_of_length_le (Nat.le_refl _)]; simp
theorem dA_l1 (lf : Nat) (v3 : List Int) (v4 v5 : Int) (a : Int) (i : Nat) (ys : List Int) (ha : 0 ≤ a ∧ a < G) (hy : Dg G ys) : ∀ (k n j : Nat) (c : Int) (out : List Int), j + k = ys.length → k < n → 0 ≤ c → c < G → Dg G out → i + ys.length ≤ out.length → out.length ≤ 1000000 →
  ∃ c' out', bigint_divide.l1 lf (i : Nat) a v3 v4 v5 ((ys.length : Nat) : Int) ys n c (j : Nat) out = some ((c', out', ()), ()) ∧ out'.length = out.length ∧ Dg G out' ∧ 0 ≤ c' ∧ c' < G ∧ lv G out' + G ^ (i + ys.length) * c' = lv G out + G ^ (i + j) * (c + a * lv G (ys.drop j)) ∧ ∀ q, i + ys.length ≤ q → out'[q]? = out[q]? := by
 intro k
 induction k with
 | zero =>
  intro n j c out hj hn c0 c1 hd hl hb
  obtain ⟨m, rfl⟩ := Nat.exists_eq_succ_of_ne_zero (show n ≠ 0 by omega)
  refine ⟨c, out, ?_, rfl, hd, c0, c1, ?_, fun q _ => rfl⟩
  ·rw [bigint_divide.l1, bigint_divide.r1, decide_eq_false (by omega), brF]
  ·rw [List.drop_of_length_le (by omega), show j = ys.length by omega]; simp [lv]
 | succ k ih =>
  intro n j c out hj hn c0 c1 hd hl hb
  obtain ⟨m, rfl⟩ := Nat.exists_eq_succ_of_ne_zero (show n ≠ 0 by omega)
  have hjl : j < ys.length := by omega
  have hp : i + j < out.length := by omega
  have y0 := hy.at j hjl
  have o0 := hd.at (i + j) hp
  have hm := mul_bd ha.1 (show a < G by omega) y0.1 (show ys[j] < G by omega)
  have hc9 : c < G := by omega
  have ho9 : out[i + j] < G := by omega
  have c0' := c0
  simp only [G] at hc9 ho9
  have e1 : i64.wrap (((i : Nat) : Int) + ((j : Nat) : Int)) = ((i + j : Nat) : Int) := by rw [w64 (by omega) (by omega)]; omega
  have e2 : i64.wrap (a * ys[j]) = a * ys[j] := w64 (by omega) (by omega)
  have e3 : i64.wrap (out[i + j] + a * ys[j]) = out[i + j] + a * ys[j] := w64 (by omega) (by omega)
  have e4 : i64.wrap (c + (out[i + j] + a * ys[j])) = c + (out[i + j] + a * ys[j]) := w64 (by omega) (by omega)
  have e5 : i64.wrap (((j : Nat) : Int) + 1) = ((j + 1 : Nat) : Int) := by rw [w64 (by omega) (by omega)]; omega
  obtain ⟨s, hs⟩ : ∃ s, s = c + (out[i + j] + a * ys[j]) := ⟨_, rfl⟩
  have s0 : 0 ≤ s := by omega
  have d0 := Int.emod_nonneg s (show G ≠ 0 by decide)
  have d1 := Int.emod_lt_of_pos s (show 0 < G by decide)
  have dd := Int.emod_add_mul_ediv s G
  have q0 : 0 ≤ s / G := Int.ediv_nonneg s0 (by decide)
  have q1 : s / G < G := by
   apply Int.ediv_lt_of_lt_mul (by decide)
   have h1 : a * ys[j] ≤ (G - 1) * (G - 1) := Int.mul_le_mul (by omega) (by omega) y0.1 (by decide)
   try simp only [G] at *
   omega
  obtain ⟨c', out', r1, r2, r3, r4, r5, r6, r7⟩ := ih m (j + 1) (s / G) (out.set (i + j) (s % G)) (by omega) (by omega) q0 q1 (dg_set hd _ ⟨d0, d1⟩) (by rw [List.length_set]; exact hl) (by rw [List.length_set]; exact hb)
  refine ⟨c', out', ?_, by rw [r2, List.length_set], r3, r4, r5, ?_, fun q hq => ?_⟩
  ·rw [bigint_divide.l1, bigint_divide.r1, decide_eq_true (by omega), brT]
   rw [idxB_nat _ _ hjl, bdS, List.getElem?_eq_getElem hjl, bdS, e1, idxB_nat _ _ hp, bdS, List.getElem?_eq_getElem hp, bdS, e2, e3, e4, ← hs, iRem_nn s0 (by decide), bdS, iQuo_nn s0 (by decide) (by omega), bdS, bdS, upE_set _ _ _ hp, bdS, e5]
   exact r1
  ·rw [r6, lv_set G out (i + j) _ hp, List.drop_eq_getElem_cons hjl, lv, ← Nat.add_assoc, Int.pow_succ, Int.add_assoc, ring_step _ _ s out[i + j] c a ys[j] _ _ _ dd hs]
  ·rw [r7 q hq, List.getElem?_set_ne (by omega)]
theorem dA_l0 (lf : Nat)  (xs ys : List Int) (hx : Dg G xs) (hy : Dg G ys) (h3 : 200000 ≤ lf) (hly : ys.length ≤ 100000): ∀ (k n i : Nat) (out : List Int), i + k = xs.length → k < n → Dg G out → out.length = xs.length + ys.length → out.length ≤ 1000000 → (∀ q, i + ys.length ≤ q → q < out.length → out[q]? = some 0) →
  ∃ out', bigint_divide.l0 lf xs ((xs.length : Nat) : Int) ys n (i : Nat) out = some ((out', ()), ()) ∧ out'.length = out.length ∧ Dg G out' ∧ lv G out' = lv G out + G ^ i * (lv G (xs.drop i) * lv G ys) := by
 intro k
 induction k with
 | zero =>
  intro n i out hi hn hd hl hb hz
  obtain ⟨m, rfl⟩ := Nat.exists_eq_succ_of_ne_zero (show n ≠ 0 by omega)
  refine ⟨out, ?_, rfl, hd, ?_⟩
  ·rw [bigint_divide.l0, bigint_divide.r0, decide_eq_false (by omega), brF]
  ·rw [List.drop_of_length_le (by omega)]; simp [lv]
 | succ k ih =>
  intro n i out hi hn hd hl hb hz
  obtain ⟨m, rfl⟩ := Nat.exists_eq_succ_of_ne_zero (show n ≠ 0 by omega)
  have hil : i < xs.length := by omega
  have x0 := hx.at i hil
  obtain ⟨c', out', r1, r2, r3, r4, r5, r6, r7⟩ := dA_l1 lf xs ((xs.length : Nat) : Int) (i : Nat) xs[i] i ys x0 hy ys.length (lf + 40) 0 0 out (by omega) (by omega) (by decide) (by decide) hd (by omega) hb
  rw [show ((0 : Nat) : Int) = 0 from rfl] at r1
  have hp : i + ys.length < out'.length := by rw [r2]; omega
  have hz' : out'[i + ys.length] = 0 := by
   have h1 := r7 (i + ys.length) (Nat.le_refl _)
   rw [hz (i + ys.length) (Nat.le_refl _) (by omega), List.getElem?_eq_getElem hp] at h1
   exact Option.some.inj h1
  have e1 : i64.wrap (((i : Nat) : Int) + ((ys.length : Nat) : Int)) = ((i + ys.length : Nat) : Int) := by rw [w64 (by omega) (by omega)]; omega
  have e5 : i64.wrap (((i : Nat) : Int) + 1) = ((i + 1 : Nat) : Int) := by rw [w64 (by omega) (by omega)]; omega
  obtain ⟨out2, t1, t2, t3, t4⟩ := ih m (i + 1) (out'.set (i + ys.length) c') (by omega) (by omega) (dg_set r3 _ ⟨r4, r5⟩) (by rw [List.length_set, r2]; exact hl) (by rw [List.length_set, r2]; exact hb) (fun q h1 h2 => by
   rw [List.length_set, r2] at h2
   rw [List.getElem?_set_ne (by omega), r7 q (by omega)]
   exact hz q (by omega) h2)
  refine ⟨out2, ?_, by rw [t2, List.length_set, r2], t3, ?_⟩
  ·rw [bigint_divide.l0, bigint_divide.r0, decide_eq_true (by omega), brT]
   rw [idxL_nat _ _ hil, bdS, r1, bdS, e1, idxB_nat _ _ hp, bdS, upE_set _ _ _ hp, bdS, e5]
   exact t1
  ·rw [t4, lv_set G out' (i + ys.length) _ hp, hz', List.drop_eq_getElem_cons hil, lv]
   simp only [List.drop_zero, Nat.add_zero] at r6
   rw [Int.pow_succ]
   grind
theorem dB_l1 (lf : Nat) (v3 : List Int) (v4 v5 : Int) (v9 v10 : List Int) (a : Int) (i : Nat) (ys : List Int) (ha : 0 ≤ a ∧ a < G) (hy : Dg G ys) : ∀ (k n j : Nat) (c : Int) (out : List Int), j + k = ys.length → k < n → 0 ≤ c → c < G → Dg G out → i + ys.length ≤ out.length → out.length ≤ 1000000 →
  ∃ c' out', bigint_divide.l5 lf (i : Nat) a v3 v4 v5 ((ys.length : Nat) : Int) ys v9 v10 n c (j : Nat) out = some ((c', out', ()), ()) ∧ out'.length = out.length ∧ Dg G out' ∧ 0 ≤ c' ∧ c' < G ∧ lv G out' + G ^ (i + ys.length) * c' = lv G out + G ^ (i + j) * (c + a * lv G (ys.drop j)) ∧ ∀ q, i + ys.length ≤ q → out'[q]? = out[q]? := by
 intro k
 induction k with
 | zero =>
  intro n j c out hj hn c0 c1 hd hl hb
  obtain ⟨m, rfl⟩ := Nat.exists_eq_succ_of_ne_zero (show n ≠ 0 by omega)
  refine ⟨c, out, ?_, rfl, hd, c0, c1, ?_, fun q _ => rfl⟩
  ·rw [bigint_divide.l5, bigint_divide.r5, decide_eq_false (by omega), brF]
  ·rw [List.drop_of_length_le (by omega), show j = ys.length by omega]; simp [lv]
 | succ k ih =>
  intro n j c out hj hn c0 c1 hd hl hb
  obtain ⟨m, rfl⟩ := Nat.exists_eq_succ_of_ne_zero (show n ≠ 0 by omega)
  have hjl : j < ys.length := by omega
  have hp : i + j < out.length := by omega
  have y0 := hy.at j hjl
  have o0 := hd.at (i + j) hp
  have hm := mul_bd ha.1 (show a < G by omega) y0.1 (show ys[j] < G by omega)
  have hc9 : c < G := by omega
  have ho9 : out[i + j] < G := by omega
  have c0' := c0
  simp only [G] at hc9 ho9
  have e1 : i64.wrap (((i : Nat) : Int) + ((j : Nat) : Int)) = ((i + j : Nat) : Int) := by rw [w64 (by omega) (by omega)]; omega
  have e2 : i64.wrap (a * ys[j]) = a * ys[j] := w64 (by omega) (by omega)
  have e3 : i64.wrap (out[i + j] + a * ys[j]) = out[i + j] + a * ys[j] := w64 (by omega) (by omega)
  have e4 : i64.wrap (c + (out[i + j] + a * ys[j])) = c + (out[i + j] + a * ys[j]) := w64 (by omega) (by omega)
  have e5 : i64.wrap (((j : Nat) : Int) + 1) = ((j + 1 : Nat) : Int) := by rw [w64 (by omega) (by omega)]; omega
  obtain ⟨s, hs⟩ : ∃ s, s = c + (out[i + j] + a * ys[j]) := ⟨_, rfl⟩
  have s0 : 0 ≤ s := by omega
  have d0 := Int.emod_nonneg s (show G ≠ 0 by decide)
  have d1 := Int.emod_lt_of_pos s (show 0 < G by decide)
  have dd := Int.emod_add_mul_ediv s G
  have q0 : 0 ≤ s / G := Int.ediv_nonneg s0 (by decide)
  have q1 : s / G < G := by
   apply Int.ediv_lt_of_lt_mul (by decide)
   have h1 : a * ys[j] ≤ (G - 1) * (G - 1) := Int.mul_le_mul (by omega) (by omega) y0.1 (by decide)
   try simp only [G] at *
   omega
  obtain ⟨c', out', r1, r2, r3, r4, r5, r6, r7⟩ := ih m (j + 1) (s / G) (out.set (i + j) (s % G)) (by omega) (by omega) q0 q1 (dg_set hd _ ⟨d0, d1⟩) (by rw [List.length_set]; exact hl) (by rw [List.length_set]; exact hb)
  refine ⟨c', out', ?_, by rw [r2, List.length_set], r3, r4, r5, ?_, fun q hq => ?_⟩
  ·rw [bigint_divide.l5, bigint_divide.r5, decide_eq_true (by omega), brT]
   rw [idxB_nat _ _ hjl, bdS, List.getElem?_eq_getElem hjl, bdS, e1, idxB_nat _ _ hp, bdS, List.getElem?_eq_getElem hp, bdS, e2, e3, e4, ← hs, iRem_nn s0 (by decide), bdS, iQuo_nn s0 (by decide) (by omega), bdS, bdS, upE_set _ _ _ hp, bdS, e5]
   exact r1
  ·rw [r6, lv_set G out (i + j) _ hp, List.drop_eq_getElem_cons hjl, lv, ← Nat.add_assoc, Int.pow_succ, Int.add_assoc, ring_step _ _ s out[i + j] c a ys[j] _ _ _ dd hs]
  ·rw [r7 q hq, List.getElem?_set_ne (by omega)]
theorem dB_l0 (lf : Nat) (v4 v5 : List Int)  (xs ys : List Int) (hx : Dg G xs) (hy : Dg G ys) (h3 : 200000 ≤ lf) (hly : ys.length ≤ 100000): ∀ (k n i : Nat) (out : List Int), i + k = xs.length → k < n → Dg G out → out.length = xs.length + ys.length → out.length ≤ 1000000 → (∀ q, i + ys.length ≤ q → q < out.length → out[q]? = some 0) →
  ∃ out', bigint_divide.l4 lf xs ((xs.length : Nat) : Int) ys v4 v5 n (i : Nat) out = some ((out', ()), ()) ∧ out'.length = out.length ∧ Dg G out' ∧ lv G out' = lv G out + G ^ i * (lv G (xs.drop i) * lv G ys) := by
 intro k
 induction k with
 | zero =>
  intro n i out hi hn hd hl hb hz
  obtain ⟨m, rfl⟩ := Nat.exists_eq_succ_of_ne_zero (show n ≠ 0 by omega)
  refine ⟨out, ?_, rfl, hd, ?_⟩
  ·rw [bigint_divide.l4, bigint_divide.r4, decide_eq_false (by omega), brF]
  ·rw [List.drop_of_length_le (by omega)]; simp [lv]
 | succ k ih =>
  intro n i out hi hn hd hl hb hz
  obtain ⟨m, rfl⟩ := Nat.exists_eq_succ_of_ne_zero (show n ≠ 0 by omega)
  have hil : i < xs.length := by omega
  have x0 := hx.at i hil
  obtain ⟨c', out', r1, r2, r3, r4, r5, r6, r7⟩ := dB_l1 lf xs ((xs.length : Nat) : Int) (i : Nat) v4 v5 xs[i] i ys x0 hy ys.length (lf + 40) 0 0 out (by omega) (by omega) (by decide) (by decide) hd (by omega) hb
  rw [show ((0 : Nat) : Int) = 0 from rfl] at r1
  have hp : i + ys.length < out'.length := by rw [r2]; omega
  have hz' : out'[i + ys.length] = 0 := by
   have h1 := r7 (i + ys.length) (Nat.le_refl _)
   rw [hz (i + ys.length) (Nat.le_refl _) (by omega), List.getElem?_eq_getElem hp] at h1
   exact Option.some.inj h1
  have e1 : i64.wrap (((i : Nat) : Int) + ((ys.length : Nat) : Int)) = ((i + ys.length : Nat) : Int) := by rw [w64 (by omega) (by omega)]; omega
  have e5 : i64.wrap (((i : Nat) : Int) + 1) = ((i + 1 : Nat) : Int) := by rw [w64 (by omega) (by omega)]; omega
  obtain ⟨out2, t1, t2, t3, t4⟩ := ih m (i + 1) (out'.set (i + ys.length) c') (by omega) (by omega) (dg_set r3 _ ⟨r4, r5⟩) (by rw [List.length_set, r2]; exact hl) (by rw [List.length_set, r2]; exact hb) (fun q h1 h2 => by
   rw [List.length_set, r2] at h2
   rw [List.getElem?_set_ne (by omega), r7 q (by omega)]
   exact hz q (by omega) h2)
  refine ⟨out2, ?_, by rw [t2, List.length_set, r2], t3, ?_⟩
  ·rw [bigint_divide.l4, bigint_divide.r4, decide_eq_true (by omega), brT]
   rw [idxL_nat _ _ hil, bdS, r1, bdS, e1, idxB_nat _ _ hp, bdS, upE_set _ _ _ hp, bdS, e5]
   exact t1
  ·rw [t4, lv_set G out' (i + ys.length) _ hp, hz', List.drop_eq_getElem_cons hil, lv]
   simp only [List.drop_zero, Nat.add_zero] at r6
   rw [Int.pow_succ]
   grind
theorem tr_take (l : List Int) : l.take (tr l).length = tr l := by
 refine tr_ind (p := fun l => l.take (tr l).length = tr l) l rfl (fun l h => ?_) fun l x h => ?_
 ·rw [tr_snoc0, List.take_append_of_le_length (tr_len l), h]
 ·rw [tr_snoc _ _ h, List.take_length]
theorem cutB_to (n : Nat) (h : Int) (k : Nat) (e : h = k) (hk : k ≤ n) : cutB n none (some h) = some (0, k) := by
 subst e
 unfold cutB Rx.bnd
 simp only [Int.toNat_natCast]
 rw [if_pos ⟨by omega, by omega⟩]
 simp
theorem cutB_mid (n : Nat) (i j : Int) (a b : Nat) (ei : i = a) (ej : j = b) (h1 : a ≤ b) (h2 : b ≤ n) : cutB n (some i) (some j) = some (a, b - a) := by
 subst ei; subst ej
 unfold cutB Rx.bnd
 simp only [Int.toNat_natCast]
 rw [if_pos ⟨by omega, by omega⟩]
 simp only [Option.bind_some]
 rw [if_pos ⟨by omega, by omega⟩]
 simp
theorem l3_ok (lf : Nat) (v1 : List Int) (l : List Int) (hb : l.length ≤ 1000000) : ∀ (k n : Nat), k ≤ l.length → k < n → bigint_divide.l3 lf v1 l n k = some (((tr (l.take k)).length, v1, l, ()), ()) := by
 intro k
 induction k with
 | zero =>
  intro n hk hn
  obtain ⟨m, rfl⟩ := Nat.exists_eq_succ_of_ne_zero (show n ≠ 0 by omega)
  rw [bigint_divide.l3, bigint_divide.r3, decide_eq_false (by omega), brF]
  simp [tr_nil]
 | succ k ih =>
  intro n hk hn
  obtain ⟨m, rfl⟩ := Nat.exists_eq_succ_of_ne_zero (show n ≠ 0 by omega)
  have hkl : k < l.length := by omega
  have e : i64.wrap (((k + 1 : Nat) : Int) - 1) = ((k : Nat) : Int) := by rw [w64 (by omega) (by omega)]; omega
  rw [bigint_divide.l3, bigint_divide.r3, decide_eq_true (by omega), brT, e, idxB_nat _ _ (by omega), bdS, Nat.zero_add, List.getElem?_eq_getElem hkl, bdS, ← List.take_append_getElem hkl]
  by_cases h : l[k] = 0
  ·rw [beq_iff_eq.2 h, brT, cutB_to _ _ k rfl (by omega), bdS, h, tr_snoc0]
   exact ih m (by omega) (by omega)
  ·rw [beq_eq_false_iff_ne.2 h, brF, tr_snoc _ _ h, List.take_append_getElem hkl, List.length_take, Nat.min_eq_left (by omega)]
theorem l2_ok (lf : Nat) (v1 : List Int) (l : List Int) (hb : l.length ≤ 1000000) (n : Nat) (hn : l.length + 1 < n) :
  (l.getLast? ≠ some 0 ∧ bigint_divide.l2 lf v1 l n = some (true, (v1, l, ()), ((0, [], [], ()), ()))) ∨
  (l.getLast? = some 0 ∧ bigint_divide.l2 lf v1 l n = some (false, ([], [], ()), (((tr l).length, v1, l, ()), ()))) := by
 obtain ⟨m, rfl⟩ := Nat.exists_eq_succ_of_ne_zero (show n ≠ 0 by omega)
 rw [bigint_divide.l2, bigint_divide.r2]
 by_cases h0 : l = []
 ·subst h0
  left
  refine ⟨by simp, ?_⟩
  rw [decide_eq_false (by simp), brF]
 have hl : 0 < l.length := List.length_pos_iff.2 h0
 have e : i64.wrap (((l.length : Nat) : Int) - 1) = ((l.length - 1 : Nat) : Int) := by rw [w64 (by omega) (by omega)]; omega
 rw [decide_eq_true (by omega), brT, e, idxB_nat _ _ (by omega), bdS, List.getElem?_eq_getElem (by omega), bdS, List.getLast?_eq_getElem?, List.getElem?_eq_getElem (by omega)]
 by_cases h : l[l.length - 1]'(by omega) = 0
 ·right
  refine ⟨by rw [h], ?_⟩
  rw [beq_iff_eq.2 h, brT, cutB_to _ _ (l.length - 1) rfl (by omega), bdS, l3_ok lf v1 l hb (l.length - 1) m (by omega) (by omega), bdS]
  have : tr l = tr (l.take (l.length - 1)) := by
   conv => lhs; rw [← List.take_append_drop (l.length - 1) l, List.drop_eq_getElem_cons (by omega), h, List.drop_of_length_le (by omega)]
   rw [tr_snoc0]
  rw [this]
 ·left
  refine ⟨by intro x; exact h (Option.some.inj x), ?_⟩
  rw [beq_eq_false_iff_ne.2 h, brF]
theorem l7_ok (lf : Nat) (v1 v2 v3 : List Int) (l : List Int) (hb : l.length ≤ 1000000) : ∀ (k n : Nat), k ≤ l.length → k < n → bigint_divide.l7 lf v1 v2 v3 l n k = some (((tr (l.take k)).length, v1, v2, v3, l, ()), ()) := by
 intro k
 induction k with
 | zero =>
  intro n hk hn
  obtain ⟨m, rfl⟩ := Nat.exists_eq_succ_of_ne_zero (show n ≠ 0 by omega)
  rw [bigint_divide.l7, bigint_divide.r7, decide_eq_false (by omega), brF]
  simp [tr_nil]
 | succ k ih =>
  intro n hk hn
  obtain ⟨m, rfl⟩ := Nat.exists_eq_succ_of_ne_zero (show n ≠ 0 by omega)
  have hkl : k < l.length := by omega
  have e : i64.wrap (((k + 1 : Nat) : Int) - 1) = ((k : Nat) : Int) := by rw [w64 (by omega) (by omega)]; omega
  rw [bigint_divide.l7, bigint_divide.r7, decide_eq_true (by omega), brT, e, idxB_nat _ _ (by omega), bdS, Nat.zero_add, List.getElem?_eq_getElem hkl, bdS, ← List.take_append_getElem hkl]
  by_cases h : l[k] = 0
  ·rw [beq_iff_eq.2 h, brT, cutB_to _ _ k rfl (by omega), bdS, h, tr_snoc0]
   exact ih m (by omega) (by omega)
  ·rw [beq_eq_false_iff_ne.2 h, brF, tr_snoc _ _ h, List.take_append_getElem hkl, List.length_take, Nat.min_eq_left (by omega)]
theorem l6_ok (lf : Nat) (v1 v2 v3 : List Int) (l : List Int) (hb : l.length ≤ 1000000) (n : Nat) (hn : l.length + 1 < n) :
  (l.getLast? ≠ some 0 ∧ bigint_divide.l6 lf v1 v2 v3 l n = some (true, (v1, v2, v3, l, ()), ((0, [], [], [], [], ()), ()))) ∨
  (l.getLast? = some 0 ∧ bigint_divide.l6 lf v1 v2 v3 l n = some (false, ([], [], [], [], ()), (((tr l).length, v1, v2, v3, l, ()), ()))) := by
 obtain ⟨m, rfl⟩ := Nat.exists_eq_succ_of_ne_zero (show n ≠ 0 by omega)
 rw [bigint_divide.l6, bigint_divide.r6]
 by_cases h0 : l = []
 ·subst h0
  left
  refine ⟨by simp, ?_⟩
  rw [decide_eq_false (by simp), brF]
 have hl : 0 < l.length := List.length_pos_iff.2 h0
 have e : i64.wrap (((l.length : Nat) : Int) - 1) = ((l.length - 1 : Nat) : Int) := by rw [w64 (by omega) (by omega)]; omega
 rw [decide_eq_true (by omega), brT, e, idxB_nat _ _ (by omega), bdS, List.getElem?_eq_getElem (by omega), bdS, List.getLast?_eq_getElem?, List.getElem?_eq_getElem (by omega)]
 by_cases h : l[l.length - 1]'(by omega) = 0
 ·right
  refine ⟨by rw [h], ?_⟩
  rw [beq_iff_eq.2 h, brT, cutB_to _ _ (l.length - 1) rfl (by omega), bdS, l7_ok lf v1 v2 v3 l hb (l.length - 1) m (by omega) (by omega), bdS]
  have : tr l = tr (l.take (l.length - 1)) := by
   conv => lhs; rw [← List.take_append_drop (l.length - 1) l, List.drop_eq_getElem_cons (by omega), h, List.drop_of_length_le (by omega)]
   rw [tr_snoc0]
  rw [this]
 ·left
  refine ⟨by intro x; exact h (Option.some.inj x), ?_⟩
  rw [beq_eq_false_iff_ne.2 h, brF]
theorem est_over {B P v1 v2 V0 w2 W0 q t : Int} (hP : 0 < P) (hV : 0 ≤ V0) (hW : W0 < P) (hq : 0 ≤ q) (h : q * v2 > (t - q * v1) * B + w2) : (t * B + w2) * P + W0 < q * ((v1 * B + v2) * P + V0) := by
 have h1 : t * B + w2 + 1 ≤ q * (v1 * B + v2) := by
  have : q * (v1 * B + v2) = q * v2 - (t - q * v1) * B + t * B := by grind
  omega
 have h2 := Int.mul_le_mul_of_nonneg_right h1 (Int.le_of_lt hP)
 have h3 := Int.mul_nonneg hq hV
 have e1 : (t * B + w2 + 1) * P = (t * B + w2) * P + P := by grind
 have e2 : q * ((v1 * B + v2) * P + V0) = q * (v1 * B + v2) * P + q * V0 := by grind
 omega
theorem est_first {B P v1 v2 V0 w2 W0 t : Int} (hB : 0 < B) (hP : 0 < P) (h1 : 0 < v1) (h2 : 0 ≤ v2) (hV : 0 ≤ V0) (hW : W0 < P) (hw : w2 < B) (q : Int) (hq : 0 ≤ q) (h : t < (q + 1) * v1) : (t * B + w2) * P + W0 < (q + 1) * ((v1 * B + v2) * P + V0) := by
 refine est_over hP hV hW (by omega) ?_
 have a : (t - (q + 1) * v1) * B ≤ (-1) * B := Int.mul_le_mul_of_nonneg_right (by omega) (Int.le_of_lt hB)
 have b : 0 ≤ (q + 1) * v2 := Int.mul_nonneg (by omega) h2
 omega
theorem est_under {B P v1 v2 V0 w2 W0 q t : Int} (hP : 0 < P) (hB : 0 < B) (hv : 1 ≤ v1) (hv2 : 0 ≤ v2) (hv3 : v2 < B) (hV : 0 ≤ V0) (hV2 : V0 < P) (hW : 0 ≤ W0) (hw : 0 ≤ w2) (hq : 0 ≤ q) (hq2 : q < B) (h : t - q * v1 ≥ B ∨ q * v2 ≤ (t - q * v1) * B + w2) : (q - 1) * ((v1 * B + v2) * P + V0) ≤ (t * B + w2) * P + W0 := by
 have c1 : q * V0 ≤ B * P := Int.mul_le_mul (by omega) (by omega) hV (by omega)
 have c2 : B * P ≤ v1 * (B * P) := by
  have := Int.mul_le_mul_of_nonneg_right hv (Int.le_of_lt (Int.mul_pos hB hP))
  omega
 have c3 : 0 ≤ v2 * P := Int.mul_nonneg hv2 (Int.le_of_lt hP)
 have key : q * ((v1 * B + v2) * P) ≤ (t * B + w2) * P + W0 - q * V0 + B * P := by
  rcases h with h | h
  ·have a1 : B * (B * P) ≤ (t - q * v1) * (B * P) := Int.mul_le_mul_of_nonneg_right h (Int.le_of_lt (Int.mul_pos hB hP))
   have a2 : 0 ≤ w2 * P := Int.mul_nonneg hw (Int.le_of_lt hP)
   have a3 : q * (v2 * P + V0) ≤ B * (B * P) := by
    have b1 : v2 * P ≤ (B - 1) * P := Int.mul_le_mul_of_nonneg_right (by omega) (Int.le_of_lt hP)
    have b2 : (B - 1) * P = B * P - P := by grind
    exact Int.mul_le_mul (by omega) (by omega) (by omega) (by omega)
   have e1 : q * ((v1 * B + v2) * P) = t * (B * P) - (t - q * v1) * (B * P) + q * (v2 * P + V0) - q * V0 := by grind
   have e2 : (t * B + w2) * P = t * (B * P) + w2 * P := by grind
   have : 0 < B * P := Int.mul_pos hB hP
   omega
  ·have a1 : q * (v1 * B + v2) ≤ t * B + w2 := by
    have : q * (v1 * B + v2) = q * v2 - (t - q * v1) * B + t * B := by grind
    omega
   have a2 := Int.mul_le_mul_of_nonneg_right a1 (Int.le_of_lt hP)
   have : q * (v1 * B + v2) * P = q * ((v1 * B + v2) * P) := by grind
   omega
 have e1 : (q - 1) * ((v1 * B + v2) * P + V0) = q * ((v1 * B + v2) * P) + q * V0 - v1 * (B * P) - v2 * P - V0 := by grind
 omega
theorem d15_ok (lf t m : Nat) (sc vl u out : List Int) (n : Nat) (hn2 : 2 ≤ n) (hnb : n ≤ 1000000) (hvl : n ≤ vl.length) (hm : n + 1 = m) (hu : t + m ≤ u.length) (hdv : Dg G vl) (hdu : Dg G u)
  (top v1 v2 w2 : Int) (hv1 : v1 = vl[n - 1]'(by omega)) (hv2 : v2 = vl[n - 2]'(by omega)) (hw2 : w2 = u[t + (n - 2)]'(by omega)) (hp : 1 ≤ v1) :
  ∀ (k f : Nat) (q r : Int), G - r ≤ k → k < f → 0 ≤ q → q < G → 0 ≤ r → r ≤ 3000000000 → r = top - q * v1 →
  ∃ q', bigint_divide.l15 lf t m n ((n : Nat) : Int) sc vl u out f q r = some ((q', ()), ()) ∧ 0 ≤ q' ∧ q' < G ∧ q' ≤ q ∧ (top - q' * v1 ≥ G ∨ q' * v2 ≤ (top - q' * v1) * G + w2) ∧
   (q' = q ∨ (q' + 1) * v2 > (top - (q' + 1) * v1) * G + w2) := by
 have b1 := hdv.at (n - 1) (by omega)
 have b2 := hdv.at (n - 2) (by omega)
 have b3 := hdu.at (t + (n - 2)) (by omega)
 rw [← hv1] at b1
 rw [← hv2] at b2
 rw [← hw2] at b3
 simp only [G] at b1 b2 b3
 have e1 : i64.wrap (((n : Nat) : Int) - 2) = ((n - 2 : Nat) : Int) := by rw [w64 (by omega) (by omega)]; omega
 have e2 : i64.wrap (((n : Nat) : Int) - 1) = ((n - 1 : Nat) : Int) := by rw [w64 (by omega) (by omega)]; omega
 have stop : ∀ (f : Nat) (q r : Int), 0 < f → ¬ r < 1000000000 → bigint_divide.l15 lf t m n ((n : Nat) : Int) sc vl u out f q r = some ((q, ()), ()) := by
  intro f q r hf hr
  obtain ⟨g, rfl⟩ := Nat.exists_eq_succ_of_ne_zero (show f ≠ 0 by omega)
  rw [bigint_divide.l15, bigint_divide.r15, decide_eq_false hr, brF]
 intro k
 induction k with
 | zero =>
  intro f q r hk hf q0 q1 r0 r1 hr
  simp only [G] at hk
  exact ⟨q, stop f q r (by omega) (by omega), q0, q1, by omega, Or.inl (by rw [← hr]; simp only [G]; omega), Or.inl rfl⟩
 | succ k ih =>
  intro f q r hk hf q0 q1 r0 r1 hr
  by_cases hlt : r < 1000000000
  ·obtain ⟨g, rfl⟩ := Nat.exists_eq_succ_of_ne_zero (show f ≠ 0 by omega)
   have m1 := mul_bd q0 q1 b2.1 b2.2
   have e3 : i64.wrap (q * v2) = q * v2 := w64 (by omega) (by omega)
   have e4 : i64.wrap (r * 1000000000) = r * 1000000000 := w64 (by omega) (by omega)
   have e5 : i64.wrap (r * 1000000000 + w2) = r * 1000000000 + w2 := w64 (by omega) (by omega)
   rw [bigint_divide.l15, bigint_divide.r15, decide_eq_true hlt, brT, e1, idxB_nat _ _ (by omega), bdS, Nat.zero_add, List.getElem?_eq_getElem (by omega), bdS, idxB_nat _ _ (by omega), bdS, List.getElem?_eq_getElem (by omega), bdS, ← hv2, ← hw2, e3, e4, e5]
   by_cases hc : q * v2 > r * 1000000000 + w2
   ·have qp : 1 ≤ q := by
     by_cases z : q = 0
     ·subst z; omega
     ·omega
    have e6 : i64.wrap (q - 1) = q - 1 := w64 (by simp only [G] at q1; omega) (by simp only [G] at q1; omega)
    have e7 : i64.wrap (r + v1) = r + v1 := w64 (by omega) (by omega)
    rw [decide_eq_true hc, brT, e2, idxB_nat _ _ (by omega), bdS, Nat.zero_add, List.getElem?_eq_getElem (by omega), bdS, ← hv1, e6, e7]
    obtain ⟨q', t1, t2, t3, t4, t5, t6⟩ := ih g (q - 1) (r + v1) (by omega) (by omega) (by omega) (by omega) (by omega) (by omega) (by rw [hr]; grind)
    refine ⟨q', t1, t2, t3, by omega, t5, Or.inr ?_⟩
    rcases t6 with rfl | t6
    ·rw [Int.sub_add_cancel, ← hr]; exact hc
    ·exact t6
   ·rw [decide_eq_false hc, brF]
    exact ⟨q, rfl, q0, q1, by omega, Or.inr (by rw [← hr]; simp only [G]; omega), Or.inl rfl⟩
  ·exact ⟨q, stop f q r (by omega) hlt, q0, q1, by omega, Or.inl (by rw [← hr]; simp only [G]; omega), Or.inl rfl⟩
theorem sub_ring (P B s c q y D x e c2 L : Int) (h : e = x - s + B * c2) (hs : s = c + q * y) : L + P * (e - x) - P * B * (c2 + q * D) = L - P * (c + q * (y + B * D)) := by grind
theorem add_ring (P B s c y D x r c2 L : Int) (h : r + B * c2 = s) (hs : s = c + x + y) : L + P * (r - x) + P * B * (c2 + D) = L + P * (c + (y + B * D)) := by grind
theorem dropv (ys : List Int) (i : Nat) : lv G (ys.drop i) = ys.getD i 0 + G * lv G (ys.drop (i + 1)) := by
 rw [lv_headD, headD_drop, tail_drop']
theorem d16_ok (lf t m : Nat) (q : Int) (sc vl out ys : List Int) (hq0 : 0 ≤ q) (hq1 : q < G) (hdy : Dg G ys) (hvy : vl.take ys.length = ys) (hnb : m ≤ 1000000) :
  ∀ (k f i : Nat) (c : Int) (u : List Int), i + k = m → k < f → 0 ≤ c → c ≤ G → Dg G u → t + m ≤ u.length →
  ∃ c' u', bigint_divide.l16 lf t m ys.length q ((m : Nat) : Int) sc vl out f c (i : Nat) u = some ((c', u', ()), ()) ∧ u'.length = u.length ∧ Dg G u' ∧ 0 ≤ c' ∧
   lv G u' - G ^ (t + m) * (c' + q * lv G (ys.drop m)) = lv G u - G ^ (t + i) * (c + q * lv G (ys.drop i)) ∧ ∀ p, p < t + i ∨ t + m ≤ p → u'[p]? = u[p]? := by
 intro k
 induction k with
 | zero =>
  intro f i c u hi hf c0 c1 hd hl
  obtain ⟨g, rfl⟩ := Nat.exists_eq_succ_of_ne_zero (show f ≠ 0 by omega)
  obtain rfl : i = m := by omega
  refine ⟨c, u, ?_, rfl, hd, c0, rfl, fun p _ => rfl⟩
  rw [bigint_divide.l16, bigint_divide.r16, decide_eq_false (by omega), brF]
 | succ k ih =>
  intro f i c u hi hf c0 c1 hd hl
  obtain ⟨g, rfl⟩ := Nat.exists_eq_succ_of_ne_zero (show f ≠ 0 by omega)
  have hp : t + i < u.length := by omega
  have x0 := hd.at (t + i) hp
  have y0 := hdy.getD (by decide) i
  have m1 := mul_bd hq0 hq1 y0.1 y0.2
  simp only [G] at x0 c1
  have e5 : i64.wrap (((i : Nat) : Int) + 1) = ((i + 1 : Nat) : Int) := by rw [w64 (by omega) (by omega)]; omega
  have go : ∀ (s e c2 : Int), s = c + q * ys.getD i 0 → e = u[t + i] - s + G * c2 → 0 ≤ e → e < G → 0 ≤ c2 → c2 ≤ G →
    ∃ c' u', (bd (some i) fun j => bd (upE u (t + j) fun _ => some e) fun l => bigint_divide.l16 lf t m ys.length q ((m : Nat) : Int) sc vl out g c2 (i64.wrap (((i : Nat) : Int) + 1)) l) = some ((c', u', ()), ()) ∧ u'.length = u.length ∧ Dg G u' ∧ 0 ≤ c' ∧
   lv G u' - G ^ (t + m) * (c' + q * lv G (ys.drop m)) = lv G u - G ^ (t + i) * (c + q * lv G (ys.drop i)) ∧ ∀ p, p < t + i ∨ t + m ≤ p → u'[p]? = u[p]? := by
   intro s e c2 hs he g0 g1 g2 g3
   obtain ⟨c', u', t1, t2, t3, t4, t5, t6⟩ := ih g (i + 1) c2 (u.set (t + i) e) (by omega) (by omega) g2 g3 (dg_set hd _ ⟨g0, g1⟩) (by rw [List.length_set]; exact hl)
   refine ⟨c', u', ?_, by rw [t2, List.length_set], t3, t4, ?_, fun p hp' => ?_⟩
   ·rw [bdS, upE_set _ _ _ hp, bdS, e5]
    exact t1
   ·rw [t5, lv_set G u (t + i) _ hp, dropv ys i, ← Nat.add_assoc, Int.pow_succ]
    exact sub_ring _ _ s _ _ _ _ _ _ _ _ he hs
   ·rw [t6 p (by omega), List.getElem?_set_ne (by omega)]
  have fin : ∀ s : Int, s = c + q * ys.getD i 0 →
    ∃ c' u', (bd (iRem s 1000000000) fun r => bd (iQuo .i64 s 1000000000) fun r2 => br (decide ((i64.wrap (u[t + i] - r)) < 0)) (
     bd (some i) fun j => bd (upE u (t + j) fun _ => some (i64.wrap ((i64.wrap (u[t + i] - r)) + 1000000000))) fun l => bigint_divide.l16 lf t m ys.length q ((m : Nat) : Int) sc vl out g (i64.wrap (r2 + 1)) (i64.wrap (((i : Nat) : Int) + 1)) l) (
     bd (some i) fun j => bd (upE u (t + j) fun _ => some (i64.wrap (u[t + i] - r))) fun l => bigint_divide.l16 lf t m ys.length q ((m : Nat) : Int) sc vl out g r2 (i64.wrap (((i : Nat) : Int) + 1)) l)) = some ((c', u', ()), ()) ∧ u'.length = u.length ∧ Dg G u' ∧ 0 ≤ c' ∧
   lv G u' - G ^ (t + m) * (c' + q * lv G (ys.drop m)) = lv G u - G ^ (t + i) * (c + q * lv G (ys.drop i)) ∧ ∀ p, p < t + i ∨ t + m ≤ p → u'[p]? = u[p]? := by
   intro s hs
   have s0 : 0 ≤ s := by omega
   have d0 := Int.emod_nonneg s (show (1000000000 : Int) ≠ 0 by decide)
   have d1 := Int.emod_lt_of_pos s (show (0 : Int) < 1000000000 by decide)
   have dd := Int.emod_add_mul_ediv s 1000000000
   have q0 : 0 ≤ s / 1000000000 := Int.ediv_nonneg s0 (by decide)
   have q1 : s / 1000000000 < 1000000000 := Int.ediv_lt_of_lt_mul (by decide) (by omega)
   have e6 : i64.wrap (u[t + i] - s % 1000000000) = u[t + i] - s % 1000000000 := w64 (by omega) (by omega)
   rw [iRem_nn s0 (by decide), bdS, iQuo_nn s0 (by decide) (by omega), bdS, e6]
   by_cases hneg : u[t + i] - s % 1000000000 < 0
   ·have e7 : i64.wrap (u[t + i] - s % 1000000000 + 1000000000) = u[t + i] - s % 1000000000 + 1000000000 := w64 (by omega) (by omega)
    have e8 : i64.wrap (s / 1000000000 + 1) = s / 1000000000 + 1 := w64 (by omega) (by omega)
    rw [decide_eq_true hneg, brT, e7, e8]
    exact go s _ _ hs (by simp only [G]; omega) (by omega) (by simp only [G]; omega) (by omega) (by simp only [G]; omega)
   ·rw [decide_eq_false hneg, brF]
    exact go s _ _ hs (by simp only [G]; omega) (by omega) (by simp only [G]; omega) (by omega) (by simp only [G]; omega)
  rw [bigint_divide.l16, bigint_divide.r16, decide_eq_true (by omega), brT]
  by_cases hiy : i < ys.length
  ·have ev : vl[i]? = some (ys.getD i 0) := by
    rw [getD_lt _ _ hiy, ← List.getElem?_eq_getElem hiy]
    conv => rhs; rw [← hvy]
    rw [List.getElem?_take_of_lt hiy]
   have e2 : i64.wrap (q * ys.getD i 0) = q * ys.getD i 0 := w64 (by omega) (by omega)
   have e3 : i64.wrap (c + q * ys.getD i 0) = c + q * ys.getD i 0 := w64 (by omega) (by omega)
   rw [decide_eq_true (by omega), brT, idxB_nat _ _ hiy, bdS, Nat.zero_add, ev, bdS, idxB_nat _ _ (by omega), bdS, List.getElem?_eq_getElem hp, bdS, e2, e3]
   exact fin _ rfl
  ·rw [decide_eq_false (by omega), brF, idxB_nat _ _ (by omega), bdS, List.getElem?_eq_getElem hp, bdS]
   exact fin c (by rw [getD_ge _ _ hiy]; omega)
theorem d17_ok (lf t m : Nat) (q : Int) (sc vl out ys : List Int) (hdy : Dg G ys) (hvy : vl.take ys.length = ys) (hnb : m ≤ 1000000) (hyb : ys.length ≤ 1000000) :
  ∀ (k f i : Nat) (c : Int) (u : List Int), i + k = m → k < f → 0 ≤ c → c ≤ 1 → Dg G u → t + m ≤ u.length →
  ∃ c' u', bigint_divide.l17 lf t m ys.length ((ys.length : Nat) : Int) q ((m : Nat) : Int) sc vl out f c (i : Nat) u = some ((u', ()), ()) ∧ u'.length = u.length ∧ Dg G u' ∧ 0 ≤ c' ∧
   lv G u' + G ^ (t + m) * (c' + lv G (ys.drop m)) = lv G u + G ^ (t + i) * (c + lv G (ys.drop i)) ∧ ∀ p, p < t + i ∨ t + m ≤ p → u'[p]? = u[p]? := by
 intro k
 induction k with
 | zero =>
  intro f i c u hi hf c0 c1 hd hl
  obtain ⟨g, rfl⟩ := Nat.exists_eq_succ_of_ne_zero (show f ≠ 0 by omega)
  obtain rfl : i = m := by omega
  refine ⟨c, u, ?_, rfl, hd, c0, rfl, fun p _ => rfl⟩
  rw [bigint_divide.l17, bigint_divide.r17, decide_eq_false (by omega), brF]
 | succ k ih =>
  intro f i c u hi hf c0 c1 hd hl
  obtain ⟨g, rfl⟩ := Nat.exists_eq_succ_of_ne_zero (show f ≠ 0 by omega)
  have hp : t + i < u.length := by omega
  have x0 := hd.at (t + i) hp
  have y0 := hdy.getD (by decide) i
  simp only [G] at x0 y0
  have e5 : i64.wrap (((i : Nat) : Int) + 1) = ((i + 1 : Nat) : Int) := by rw [w64 (by omega) (by omega)]; omega
  have fin : ∀ s : Int, s = c + u[t + i] + ys.getD i 0 →
    ∃ c' u', (bd (iRem s 1000000000) fun r => bd (iQuo .i64 s 1000000000) fun r2 =>
     bd (some i) fun j => bd (upE u (t + j) fun _ => some r) fun l => bigint_divide.l17 lf t m ys.length ((ys.length : Nat) : Int) q ((m : Nat) : Int) sc vl out g r2 (i64.wrap (((i : Nat) : Int) + 1)) l) = some ((u', ()), ()) ∧ u'.length = u.length ∧ Dg G u' ∧ 0 ≤ c' ∧
   lv G u' + G ^ (t + m) * (c' + lv G (ys.drop m)) = lv G u + G ^ (t + i) * (c + lv G (ys.drop i)) ∧ ∀ p, p < t + i ∨ t + m ≤ p → u'[p]? = u[p]? := by
   intro s hs
   have s0 : 0 ≤ s := by omega
   have d0 := Int.emod_nonneg s (show G ≠ 0 by decide)
   have d1 := Int.emod_lt_of_pos s (show 0 < G by decide)
   have dd := Int.emod_add_mul_ediv s G
   have q0 : 0 ≤ s / G := Int.ediv_nonneg s0 (by decide)
   obtain ⟨c', u', t1, t2, t3, t4, t5, t6⟩ := ih g (i + 1) (s / G) (u.set (t + i) (s % G)) (by omega) (by omega) q0 (by simp only [G]; omega) (dg_set hd _ ⟨d0, d1⟩) (by rw [List.length_set]; exact hl)
   refine ⟨c', u', ?_, by rw [t2, List.length_set], t3, t4, ?_, fun p hp' => ?_⟩
   ·rw [iRem_nn s0 (by decide), bdS, iQuo_nn s0 (by decide) (by omega), bdS, bdS, upE_set _ _ _ hp, bdS, e5]
    exact t1
   ·rw [t5, lv_set G u (t + i) _ hp, dropv ys i, ← Nat.add_assoc, Int.pow_succ]
    exact add_ring _ _ s _ _ _ _ _ _ _ dd hs
   ·rw [t6 p (by omega), List.getElem?_set_ne (by omega)]
  have e2 : i64.wrap (c + u[t + i]) = c + u[t + i] := w64 (by omega) (by omega)
  rw [bigint_divide.l17, bigint_divide.r17, decide_eq_true (by omega), brT, idxB_nat _ _ (by omega), bdS, List.getElem?_eq_getElem hp, bdS, e2]
  by_cases hiy : i < ys.length
  ·have ev : vl[i]? = some (ys.getD i 0) := by
    rw [getD_lt _ _ hiy, ← List.getElem?_eq_getElem hiy]
    conv => rhs; rw [← hvy]
    rw [List.getElem?_take_of_lt hiy]
   have e3 : i64.wrap (c + u[t + i] + ys.getD i 0) = c + u[t + i] + ys.getD i 0 := w64 (by omega) (by omega)
   rw [decide_eq_true (by omega), brT, idxB_nat _ _ hiy, bdS, Nat.zero_add, ev, bdS, e3]
   exact fin _ rfl
  ·rw [decide_eq_false (by omega), brF]
   exact fin _ (by rw [getD_ge _ _ hiy]; omega)
theorem take_same {u u' : List Int} {j : Nat} (hl : u'.length = u.length) (h : ∀ p, p < j → u'[p]? = u[p]?) : u'.take j = u.take j := by
 apply List.ext_getElem?
 intro p
 by_cases hp : p < j
 ·rw [List.getElem?_take_of_lt hp, List.getElem?_take_of_lt hp, h p hp]
 ·rw [List.getElem?_take_eq_none (by omega), List.getElem?_take_eq_none (by omega)]
theorem drop_same {u u' : List Int} {j : Nat} (h : ∀ p, j ≤ p → u'[p]? = u[p]?) : u'.drop j = u.drop j := by
 apply List.ext_getElem?
 intro p
 rw [List.getElem?_drop, List.getElem?_drop, h _ (by omega)]
theorem win {u u' : List Int} {j m : Nat} (hl : u'.length = u.length) (hd : Dg G u') (hm : j + m ≤ u.length) (h0 : lv G (u.drop (j + m)) = 0) (h : ∀ p, p < j ∨ j + m ≤ p → u'[p]? = u[p]?) :
  lv G u' - lv G u = G ^ j * (lv G (u'.drop j) - lv G (u.drop j)) ∧ lv G (u'.drop j) < G ^ m ∧ lv G (u'.drop (j + m)) = 0 := by
 have a1 := lv_split G u j (by omega)
 have a2 := lv_split G u' j (by omega)
 rw [take_same hl (fun p hp => h p (Or.inl hp))] at a2
 have a3 := drop_same (j := j + m) (fun p hp => h p (Or.inr hp))
 have a4 := lv_split G (u'.drop j) m (by rw [List.length_drop]; omega)
 rw [List.drop_drop, a3, h0] at a4
 have a5 := lv_lt (B := G) (by decide) ((hd.drop j).take m)
 rw [List.length_take, List.length_drop, Nat.min_eq_left (by omega)] at a5
 refine ⟨by grind, by omega, by rw [a3, h0]⟩
theorem lv_eq0_of_lt {l : List Int} (n : Nat) (hd : Dg G l) (hn : n ≤ l.length) (h : lv G l < G ^ n) : lv G (l.drop n) = 0 := by
 have a := lv_split G l n hn
 have b := lv_nonneg (B := G) (by decide) (hd.take n)
 have c := lv_nonneg (B := G) (by decide) (hd.drop n)
 by_cases z : lv G (l.drop n) = 0
 ·exact z
 ·have := Int.mul_le_mul_of_nonneg_left (show 1 ≤ lv G (l.drop n) by omega) (Int.le_of_lt (pow_pos' (B := G) (by decide) n))
  omega
theorem top2 {l : List Int} (n : Nat) (hn2 : 2 ≤ n) (h1 : l.length = n) : lv G l = (l[n - 1] * G + l[n - 2]) * G ^ (n - 2) + lv G (l.take (n - 2)) := by
 have a := lv_split G l (n - 2) (by omega)
 rw [lv_dropc G l (n - 2) (by omega), show n - 2 + 1 = n - 1 by omega, lv_dropc G l (n - 1) (by omega), List.drop_of_length_le (by omega)] at a
 simp only [lv] at a
 grind
theorem top3 {u : List Int} (j n : Nat) (hn2 : 2 ≤ n) (h1 : j + n + 1 ≤ u.length) (h0 : lv G (u.drop (j + n + 1)) = 0) :
  lv G (u.drop j) = ((u[j + n] * G + u[j + (n - 1)]) * G + u[j + (n - 2)]) * G ^ (n - 2) + lv G ((u.drop j).take (n - 2)) := by
 have a := lv_split G (u.drop j) (n - 2) (by rw [List.length_drop]; omega)
 rw [List.drop_drop, lv_dropc G u (j + (n - 2)) (by omega), show j + (n - 2) + 1 = j + (n - 1) by omega, lv_dropc G u (j + (n - 1)) (by omega), show j + (n - 1) + 1 = j + n by omega, lv_dropc G u (j + n) (by omega), h0] at a
 grind
theorem win_eq {M a b d : Int} (hM : 0 < M) (h : a + M * d = b) (a0 : 0 ≤ a) (a1 : a < M) (b0 : 0 ≤ b) (b1 : b < M) : d = 0 ∧ a = b := by
 have : d = 0 := by
  rcases Int.lt_trichotomy d 0 with z | z | z
  ·have := Int.mul_le_mul_of_nonneg_left (show d ≤ -1 by omega) (Int.le_of_lt hM); omega
  ·exact z
  ·have := Int.mul_le_mul_of_nonneg_left (show 1 ≤ d by omega) (Int.le_of_lt hM); omega
 subst this
 exact ⟨rfl, by omega⟩
theorem cancel_sub (J M A A' W W1 Q c : Int) (hJ : 0 < J) (h1 : A' - J * M * c = A - J * Q) (h2 : A' - A = J * (W1 - W)) : W1 = W - Q + M * c := by
 have : J * W1 = J * (W - Q + M * c) := by grind
 exact Int.eq_of_mul_eq_mul_left (by omega) this
theorem cancel_add (J M A A' W1 W2 V c : Int) (hJ : 0 < J) (h1 : A' + J * M * c = A + J * V) (h2 : A' - A = J * (W2 - W1)) : W2 = W1 + V - M * c := by
 have : J * W2 = J * (W1 + V - M * c) := by grind
 exact Int.eq_of_mul_eq_mul_left (by omega) this
theorem off_ring (J A W W1 Q : Int) : A + (J * (W - Q - W1) + J * (W1 - W)) = A - J * Q := by grind
theorem d14_step {ρ : Type} (lf j : Nat) (sc vl ys u out : List Int) (hlf : 2000000000 ≤ lf) (hn2 : 2 ≤ ys.length) (hdy : Dg G ys) (hty : Tr ys) (hdv : Dg G vl) (hvy : vl.take ys.length = ys) (hvl : ys.length ≤ vl.length) (hdu : Dg G u) (hjl : j + ys.length + 1 ≤ u.length) (hub : u.length ≤ 500000) (hol : j < out.length)
  (hinv : lv G (u.drop (j + 1)) < lv G ys) (K : Int → List Int → List Int → Option ρ) (E0 : List Int → List Int → Option ρ) :
  ∃ u' q, bigint_divide.r14 lf ys.length ((ys.length : Nat) : Int) sc vl ((j : Nat) : Int) u out K E0 = K (((j : Nat) : Int) - 1) u' (out.set j q) ∧ u'.length = u.length ∧ Dg G u' ∧ 0 ≤ q ∧ q < G ∧
   lv G u' = lv G u - G ^ j * (q * lv G ys) ∧ lv G (u'.drop j) < lv G ys := by
 obtain ⟨n, hn⟩ : ∃ n, n = ys.length := ⟨_, rfl⟩
 obtain ⟨V, hV⟩ : ∃ V, V = lv G ys := ⟨_, rfl⟩
 obtain ⟨W, hW⟩ : ∃ W, W = lv G (u.drop j) := ⟨_, rfl⟩
 have hV1 : V < G ^ n := by rw [hV, hn]; exact lv_lt (by decide) hdy
 have hV0 : 0 < V := by rw [hV]; exact lv_pos (by decide) hdy hty (by intro e; subst e; simp at hn2)
 have hz : lv G (u.drop (j + n + 1)) = 0 := by
  have := lv_eq0_of_lt (l := u.drop (j + 1)) n (hdu.drop _) (by rw [List.length_drop]; omega) (by omega)
  rw [List.drop_drop] at this
  rw [show j + n + 1 = j + 1 + n by omega]; exact this
 have hW0 : 0 ≤ W := by rw [hW]; exact lv_nonneg (by decide) (hdu.drop j)
 have hWB : W < G * V := by
  have a := lv_dropc G u j (by omega)
  have b := hdu.at j (by omega)
  have c := Int.mul_le_mul_of_nonneg_left (show lv G (u.drop (j + 1)) + 1 ≤ V by omega) (show 0 ≤ G by decide)
  rw [Int.mul_add] at c
  omega
 have hyv : ∀ i (h : i < n), vl[i]'(by omega) = ys[i]'(by omega) := by
  intro i h
  have : vl[i]? = ys[i]? := by
   conv => rhs; rw [← hvy]
   rw [List.getElem?_take_of_lt (by omega)]
  rw [List.getElem?_eq_getElem (by omega), List.getElem?_eq_getElem (by omega)] at this
  exact Option.some.inj this
 have b1 := hdv.at (n - 1) (by omega)
 have b2 := hdv.at (n - 2) (by omega)
 have u0 := hdu.at (j + n) (by omega)
 have u1 := hdu.at (j + (n - 1)) (by omega)
 have u2 := hdu.at (j + (n - 2)) (by omega)
 have eV := top2 (l := ys) n (by omega) hn.symm
 have eW := top3 (u := u) j n (by omega) (by omega) hz
 have V00 := lv_nonneg (B := G) (by decide) (hdy.take (n - 2))
 have V01 := lv_lt (B := G) (by decide) (hdy.take (n - 2))
 have W00 := lv_nonneg (B := G) (by decide) ((hdu.drop j).take (n - 2))
 have W01 := lv_lt (B := G) (by decide) ((hdu.drop j).take (n - 2))
 rw [List.length_take, Nat.min_eq_left (by omega)] at V01
 rw [List.length_take, List.length_drop, Nat.min_eq_left (by omega)] at W01
 have hP : 0 < G ^ (n - 2) := pow_pos' (by decide) _
 have hv1 : 1 ≤ vl[n - 1]'(by omega) := by
  rw [hyv (n - 1) (by omega)]
  have c := hdy.at (n - 1) (by omega)
  have : ys[n - 1]'(by omega) ≠ 0 := by
   intro e
   apply hty
   rw [List.getLast?_eq_getElem?, List.getElem?_eq_getElem (by omega)]
   simp only [← hn, e]
  omega
 rw [← hV, ← hyv (n - 1) (by omega), ← hyv (n - 2) (by omega)] at eV
 rw [← hW] at eW
 obtain ⟨v1, ev1⟩ : ∃ v1, v1 = vl[n - 1]'(by omega) := ⟨_, rfl⟩
 obtain ⟨v2, ev2⟩ : ∃ v2, v2 = vl[n - 2]'(by omega) := ⟨_, rfl⟩
 obtain ⟨w2, ew2⟩ : ∃ w2, w2 = u[j + (n - 2)]'(by omega) := ⟨_, rfl⟩
 obtain ⟨top, etop⟩ : ∃ top, top = u[j + n]'(by omega) * 1000000000 + u[j + (n - 1)]'(by omega) := ⟨_, rfl⟩
 rw [← ev1] at eV b1 hv1
 rw [← ev2] at eV b2
 rw [← ew2] at eW u2
 rw [show u[j + n]'(by omega) * G + u[j + (n - 1)]'(by omega) = top from etop.symm] at eW
 simp only [G] at b1 b2 u0 u1 u2
 have t0 : 0 ≤ top := by omega
 have t1 : top < 1000000000000000000 := by omega
 obtain ⟨q0, eq0⟩ : ∃ q0, q0 = if 999999999 < top / v1 then 999999999 else top / v1 := ⟨_, rfl⟩
 have d0 : 0 ≤ top / v1 := Int.ediv_nonneg t0 (by omega)
 have dd := Int.emod_add_mul_ediv top v1
 have dm0 := Int.emod_nonneg top (show v1 ≠ 0 by omega)
 have dm1 := Int.emod_lt_of_pos top (show 0 < v1 by omega)
 have q00 : 0 ≤ q0 := by rw [eq0]; split <;> omega
 have q01 : q0 < G := by rw [eq0]; simp only [G]; split <;> omega
 have qv : q0 * v1 ≤ v1 * (top / v1) := by
  rw [Int.mul_comm v1]
  exact Int.mul_le_mul_of_nonneg_right (by rw [eq0]; split <;> omega) (by omega)
 have qn := Int.mul_nonneg q00 (show 0 ≤ v1 by omega)
 have hov : W < (q0 + 1) * V := by
  by_cases c : 999999999 < top / v1
  ·rw [if_pos c] at eq0
   rw [eq0]
   exact hWB
  ·rw [if_neg c] at eq0
   rw [eW, eV]
   refine est_first (by decide) hP (by omega) (by omega) V00 W01 (by simp only [G]; omega) q0 q00 ?_
   rw [eq0, Int.add_mul, Int.mul_comm (top / v1)]
   omega
 have rb : top - q0 * v1 ≤ 3000000000 := by
  by_cases c : 999999999 < top / v1
  ·have hov2 : top ≤ v1 * 1000000000 + 999999999 := by
    have a : u[j + n]'(by omega) ≤ v1 := by
     by_cases z : u[j + n]'(by omega) ≤ v1
     ·exact z
     ·exfalso
      have z1 : (v1 + 1) * G ≤ top := by simp only [G]; omega
      have z2 : ((v1 + 1) * G * G) * G ^ (n - 2) ≤ W := by
       have y1 := Int.mul_le_mul_of_nonneg_right z1 (show 0 ≤ G by decide)
       have y2 : (v1 + 1) * G * G ≤ top * G + w2 := by omega
       have := Int.mul_le_mul_of_nonneg_right y2 (Int.le_of_lt hP)
       omega
      have z3 : G * V ≤ ((v1 + 1) * G * G) * G ^ (n - 2) := by
       have x1 : (v1 * G + v2) * G ^ (n - 2) + lv G (ys.take (n - 2)) ≤ (v1 * G + v2 + 1) * G ^ (n - 2) := by
        rw [Int.add_mul (v1 * G + v2) 1]; omega
       have x2 : (v1 * G + v2 + 1) * G ^ (n - 2) ≤ ((v1 + 1) * G) * G ^ (n - 2) := Int.mul_le_mul_of_nonneg_right (by simp only [G]; omega) (Int.le_of_lt hP)
       have x3 := Int.mul_le_mul_of_nonneg_left (show V ≤ ((v1 + 1) * G) * G ^ (n - 2) by omega) (show 0 ≤ G by decide)
       have x4 : G * (((v1 + 1) * G) * G ^ (n - 2)) = ((v1 + 1) * G * G) * G ^ (n - 2) := by grind
       omega
      omega
    omega
   rw [if_pos c] at eq0
   rw [eq0]
   omega
  ·rw [if_neg c] at eq0
   rw [eq0, Int.mul_comm (top / v1)]
   omega
 have r0 : 0 ≤ top - q0 * v1 := by omega
 obtain ⟨q, k1, k2, k3, k4, k5, k6⟩ := d15_ok lf j (n + 1) sc vl u out n (by omega) (by omega) (by omega) rfl (by omega) hdv hdu top v1 v2 w2 ev1 ev2 ew2 hv1 1000000000 (lf + 40) q0 (top - q0 * v1) (by simp only [G]; omega) (by omega) q00 q01 r0 rb rfl
 have lo : (q - 1) * V ≤ W := by
  rw [eW, eV]
  exact est_under hP (by decide) hv1 b2.1 (by simp only [G]; omega) V00 V01 W00 u2.1 k2 k3 k5
 have hi : W < (q + 1) * V := by
  rcases k6 with rfl | k6
  ·exact hov
  ·rw [eW, eV]
   exact est_over hP V00 W01 (by omega) k6
 obtain ⟨c, u1', s1, s2, s3, s4, s5, s6⟩ := d16_ok lf j (n + 1) q sc vl out ys k2 k3 hdy hvy (by omega) (n + 1) (lf + 40) 0 0 u (by omega) (by omega) (by decide) (by decide) hdu (by omega)
 rw [List.drop_zero, show j + 0 = j from rfl, List.drop_of_length_le (by omega), ← hV] at s5
 simp only [lv, Int.mul_zero, Int.add_zero, Int.zero_add] at s5
 rw [show ((0 : Nat) : Int) = 0 from rfl] at s1
 obtain ⟨x1, x2, x3⟩ := win (j := j) (m := n + 1) s2 s3 (by omega) hz (fun p hp => s6 p (by omega))
 have x0 : 0 ≤ lv G (u1'.drop j) := lv_nonneg (by decide) (s3.drop j)
 obtain ⟨W1, hW1⟩ : ∃ W1, W1 = lv G (u1'.drop j) := ⟨_, rfl⟩
 rw [← hW1, ← hW] at x1
 rw [← hW1] at x0 x2
 have Pj : 0 < G ^ j := pow_pos' (by decide) _
 have M0 : 0 < G ^ (n + 1) := pow_pos' (by decide) _
 have VM : V < G ^ (n + 1) := by
  have := pow_mono' (B := G) (by decide) (show n ≤ n + 1 by omega)
  omega
 have y1 : W1 = W - q * V + G ^ (n + 1) * c := by
  rw [Int.pow_add] at s5
  exact cancel_sub _ _ _ _ _ _ _ _ Pj s5 x1
 have qV1 : (q - 1) * V = q * V - V := by grind
 have qV2 : (q + 1) * V = q * V + V := by grind
 have f1 : i64.wrap (((j : Nat) : Int) + ((n : Nat) : Int)) = ((j + n : Nat) : Int) := by rw [w64 (by omega) (by omega)]; omega
 have f2 : i64.wrap (((j + n : Nat) : Int) + 1) = ((j + n + 1 : Nat) : Int) := by rw [w64 (by omega) (by omega)]; omega
 have f3 : i64.wrap (((n : Nat) : Int) - 1) = ((n - 1 : Nat) : Int) := by rw [w64 (by omega) (by omega)]; omega
 have f4 : i64.wrap (u[j + n]'(by omega) * 1000000000) = u[j + n]'(by omega) * 1000000000 := w64 (by omega) (by omega)
 have f5 : i64.wrap top = top := w64 (by omega) (by omega)
 have f6 : i64.wrap (q0 * v1) = q0 * v1 := w64 (by omega) (by omega)
 have f7 : i64.wrap (top - q0 * v1) = top - q0 * v1 := w64 (by omega) (by omega)
 have f8 : i64.wrap (((j : Nat) : Int) - 1) = ((j : Nat) : Int) - 1 := w64 (by omega) (by omega)
 have f9 : i64.wrap (q - 1) = q - 1 := w64 (by omega) (by simp only [G] at k3; omega)
 have go : bigint_divide.r14 lf ys.length ((ys.length : Nat) : Int) sc vl ((j : Nat) : Int) u out K E0 =
   (br (!(c == 0)) (
    bd (bigint_divide.l17 lf j (n + 1) n ((n : Nat) : Int) (q - 1) ((n + 1 : Nat) : Int) sc vl out (lf + 40) 0 0 u1') fun z => K (((j : Nat) : Int) - 1) z.1.1 (out.set j (q - 1))) (K (((j : Nat) : Int) - 1) u1' (out.set j q))) := by
  rw [← hn] at s1
  rw [bigint_divide.r14, ← hn, decide_eq_true (by omega), brT, f1, f2, cutB_mid _ _ _ j (j + n + 1) rfl rfl (by omega) (by omega), bdS]
  simp only [show j + n + 1 - j = n + 1 by omega, Nat.zero_add]
  rw [idxB_nat _ _ (by omega), bdS, List.getElem?_eq_getElem (by omega), bdS, f3, idxB_nat _ _ (by omega), bdS, List.getElem?_eq_getElem (by omega), bdS, idxB_nat _ _ (by omega), bdS, List.getElem?_eq_getElem (by omega), bdS, ← ev1, f4, ← etop, f5, iQuo_nn t0 (by omega) (by omega), bdS, bdS, List.getElem?_eq_getElem (by omega), bdS, ← ev1, ← eq0, f6, f7, k1, bdS]
  simp only [s1, bdS, f9, idxB_nat _ _ hol, upE_set _ _ _ hol, f8]
 rw [go]
 by_cases hc : c = 0
 ·rw [beq_iff_eq.2 hc]
  subst hc
  refine ⟨u1', q, by rw [Bool.not_true, brF], s2, s3, k2, k3, ?_, ?_⟩
  ·rw [← hV]; omega
  ·rw [← hW1, ← hV]; omega
 ·rw [beq_eq_false_iff_ne.2 hc, Bool.not_false, brT]
  have neg : W < q * V := by
   by_cases z : W < q * V
   ·exact z
   ·have := Int.mul_le_mul_of_nonneg_left (show 1 ≤ c by omega) (Int.le_of_lt M0); omega
  have q1 : 1 ≤ q := by
   by_cases z : q = 0
   ·subst z; omega
   ·omega
  obtain ⟨c2, u2', a1, a2, a3, a4, a5, a6⟩ := d17_ok lf j (n + 1) (q - 1) sc vl out ys hdy hvy (by omega) (by omega) (n + 1) (lf + 40) 0 0 u1' (by omega) (by omega) (by decide) (by decide) s3 (by omega)
  rw [List.drop_zero, show j + 0 = j from rfl, List.drop_of_length_le (by omega), ← hV] at a5
  simp only [lv, Int.add_zero, Int.zero_add] at a5
  rw [show ((0 : Nat) : Int) = 0 from rfl, ← hn] at a1
  obtain ⟨z1, z2, z3⟩ := win (j := j) (m := n + 1) a2 a3 (by omega) x3 (fun p hp => a6 p (by omega))
  have z0 : 0 ≤ lv G (u2'.drop j) := lv_nonneg (by decide) (a3.drop j)
  obtain ⟨W2, hW2⟩ : ∃ W2, W2 = lv G (u2'.drop j) := ⟨_, rfl⟩
  rw [← hW2, ← hW1] at z1
  rw [← hW2] at z0 z2
  have y2 : W2 = W1 + V - G ^ (n + 1) * c2 := by
   rw [Int.pow_add] at a5
   exact cancel_add _ _ _ _ _ _ _ _ Pj a5 z1
  have y3 : W2 + G ^ (n + 1) * (c2 - c) = W - (q - 1) * V := by rw [y2, y1, Int.mul_sub]; omega
  obtain ⟨_, y4⟩ := win_eq M0 y3 z0 z2 (by omega) (by omega)
  refine ⟨u2', q - 1, by rw [a1, bdS], by rw [a2, s2], a3, by omega, by omega, ?_, ?_⟩
  ·rw [← hV]
   have e1 : lv G u2' = lv G u + (G ^ j * (W2 - W1) + G ^ j * (W1 - W)) := by omega
   rw [e1, y4]
   exact off_ring _ _ _ _ _
  ·rw [← hW2, ← hV]; omega
theorem d14_ok (lf : Nat) (sc vl ys : List Int) (hlf : 2000000000 ≤ lf) (hn2 : 2 ≤ ys.length) (hdy : Dg G ys) (hty : Tr ys) (hdv : Dg G vl) (hvy : vl.take ys.length = ys) (hvl : ys.length ≤ vl.length) (N : Nat) (hub : N ≤ 500000) :
  ∀ (k f : Nat) (u out : List Int), k + ys.length ≤ N → u.length = N → k < f → Dg G u → Dg G out → k ≤ out.length → (∀ p, p < k → out[p]? = some 0) → lv G (u.drop k) < lv G ys →
  ∃ u' out', bigint_divide.l14 lf ys.length ((ys.length : Nat) : Int) sc vl f (((k : Nat) : Int) - 1) u out = some ((u', out', ()), ()) ∧ Dg G u' ∧ Dg G out' ∧ u'.length = N ∧ out'.length = out.length ∧ lv G u' + lv G ys * lv G out' = lv G u + lv G ys * lv G out ∧ lv G u' < lv G ys := by
 intro k
 induction k with
 | zero =>
  intro f u out hk hN hf hdu hdo hol hz hinv
  obtain ⟨g, rfl⟩ := Nat.exists_eq_succ_of_ne_zero (show f ≠ 0 by omega)
  refine ⟨u, out, ?_, hdu, hdo, hN, rfl, rfl, hinv⟩
  rw [bigint_divide.l14, bigint_divide.r14, decide_eq_false (by omega), brF]
 | succ k ih =>
  intro f u out hk hN hf hdu hdo hol hz hinv
  obtain ⟨g, rfl⟩ := Nat.exists_eq_succ_of_ne_zero (show f ≠ 0 by omega)
  obtain ⟨u', q, t1, t2, t3, t4, t5, t6, t7⟩ := d14_step lf k sc vl ys u out hlf hn2 hdy hty hdv hvy hvl hdu (by omega) (by omega) (by omega) hinv (bigint_divide.l14 lf ys.length ((ys.length : Nat) : Int) sc vl g) (fun w0 w1 => some ((w0, w1, ()), ()))
  obtain ⟨u2, o2, s1, s2, s3, s4, s5, s6, s7⟩ := ih g u' (out.set k q) (by omega) (by omega) (by omega) t3 (dg_set hdo _ ⟨t4, t5⟩) (by rw [List.length_set]; omega) (fun p hp => by
   rw [List.getElem?_set_ne (by omega)]; exact hz p (by omega)) t7
  refine ⟨u2, o2, ?_, s2, s3, s4, by rw [s5, List.length_set], ?_, s7⟩
  ·rw [bigint_divide.l14, show ((k + 1 : Nat) : Int) - 1 = ((k : Nat) : Int) by omega, t1]
   exact s1
  ·have o0 : out[k]'(by omega) = 0 := by
    have h1 := hz k (by omega)
    rw [List.getElem?_eq_getElem (by omega)] at h1
    exact Option.some.inj h1
   rw [s6, t6, lv_set G out k q (by omega), o0]
   grind
theorem d13_ok (lf v1 : Nat) (xs v2 v3 : List Int) (hb : xs.length ≤ 1000000) : ∀ (k n : Nat) (w : List Int), xs.length < w.length + k → (0 < k → w.length + k = xs.length + 1) → w.length + k ≤ 1100000 → k < n →
  bigint_divide.l13 lf xs v1 v2 v3 n w = some ((w ++ List.replicate k 0, ()), ()) := by
 intro k
 induction k with
 | zero =>
  intro n w h1 h2 h3 hn
  obtain ⟨m, rfl⟩ := Nat.exists_eq_succ_of_ne_zero (show n ≠ 0 by omega)
  rw [bigint_divide.l13, bigint_divide.r13, decide_eq_false (by omega), brF]
  simp
 | succ k ih =>
  intro n w h1 h2 h3 hn
  obtain ⟨m, rfl⟩ := Nat.exists_eq_succ_of_ne_zero (show n ≠ 0 by omega)
  have := h2 (by omega)
  rw [bigint_divide.l13, bigint_divide.r13, decide_eq_true (by omega), brT, apL_ok _ _ _ (by decide) (by simp; omega), bdS, ih m (w ++ [0]) (by simp; omega) (by simp; omega) (by simp; omega) (by omega)]
  simp [List.replicate_succ]
theorem dtail (lf : Nat) (xs ys u0 : List Int) (s : Int) (hlf : 2000000000 ≤ lf) (hx : Dg G xs) (hy : Dg G ys) (ty : Tr ys) (hy2 : 2 ≤ ys.length) (hyx : ys.length ≤ xs.length) (hxb : xs.length ≤ 50000) (s0 : 0 < s) (s1 : s < G)
    (hs : s * lv G ys < G ^ ys.length) (hu : Dg G u0) (hul : u0.length ≤ xs.length + 2) (hu1 : 1 ≤ u0.length) (hu2 : lv G u0 < G ^ (u0.length - 1)) (hu3 : lv G u0 = lv G xs * s)
    (BIG : Bool × ((List Int) × (List Int) × (List Int) × (List Int) × Unit) × (Nat × (List Int) × (List Int) × (List Int) × (List Int) × Unit) × Unit → Option (List Int × List Int × Unit)) :
    ∃ Q R, (bd (mkL (i64.wrap (((ys.length : Nat) : Int) + ((([s] : List Int).length : Nat) : Int))) (i64.wrap (((ys.length : Nat) : Int) + ((([s] : List Int).length : Nat) : Int))) 8 0) fun q197 =>
 bd (bigint_divide.l4 lf ys ((ys.length : Nat) : Int) [s] [0] u0 (lf + 40) 0 q197) fun z198 =>
 bd (bigint_divide.l6 lf [s] [0] u0 z198.1.1 (lf + 40)) fun z199 =>
 br z199.1 (BIG z199) (
 bd (bigint_divide.l13 lf xs z199.2.2.1.1 z199.2.2.1.2.1 z199.2.2.1.2.2.2.2.1 (lf + 40) z199.2.2.1.2.2.2.1) fun z208 =>
 bd (mkL (i64.wrap (((z208.1.1.length : Nat) : Int) - ((z199.2.2.1.1 : Nat) : Int))) (i64.wrap (((z208.1.1.length : Nat) : Int) - ((z199.2.2.1.1 : Nat) : Int))) 8 0) fun q209 =>
 bd (bigint_divide.l14 lf z199.2.2.1.1 ((z199.2.2.1.1 : Nat) : Int) z199.2.2.1.2.1 z199.2.2.1.2.2.2.2.1 (lf + 40) (i64.wrap ((i64.wrap (((z208.1.1.length : Nat) : Int) - ((z199.2.2.1.1 : Nat) : Int))) - 1)) z208.1.1 q209) fun z210 =>
 bd (bigint_trim.f lf z210.1.1) fun r211 =>
 bd (idxB z199.2.2.1.2.1.length 0) fun j212 =>
 bd (z199.2.2.1.2.1[j212]?) fun y213 =>
 bd (bigint_short.f lf r211.1 y213) fun r214 =>
 bd (bigint_trim.f lf z210.1.2.1) fun r215 =>
 some (r215.1, r214.1, ()))) = some (Q, R, ()) ∧ Dg G Q ∧ Tr Q ∧ Dg G R ∧ Tr R ∧ lv G xs = lv G ys * lv G Q + lv G R ∧ lv G R < lv G ys := by
  have e0 : i64.wrap (((ys.length : Nat) : Int) + ((([s] : List Int).length : Nat) : Int)) = ((ys.length + 1 : Nat) : Int) := by rw [w64 (by simp; omega) (by simp; omega)]; simp
  obtain ⟨vl, r1, r2, r3, r4⟩ := dB_l0 lf [0] u0 ys [s] hy (Dg.cons ⟨by omega, s1⟩ Dg.nil) (by omega) (by simp) ys.length (lf + 40) 0 (List.replicate (ys.length + 1) 0) (by omega) (by omega) (Dg.zeros (by decide) _) (by simp) (by simp; omega) (fun q _ h => by rw [List.length_replicate] at h; rw [List.getElem?_replicate, if_pos h])
  rw [List.length_replicate] at r2
  rw [lv_zeros] at r4
  simp only [lv, List.drop_zero, Int.mul_zero, Int.add_zero, Int.pow_zero, Int.one_mul, Int.zero_add] at r4
  rw [show ((0 : Nat) : Int) = 0 from rfl] at r1
  obtain ⟨V, hV⟩ : ∃ V, V = lv G vl := ⟨_, rfl⟩
  have hV2 : V = s * lv G ys := by rw [hV, r4, Int.mul_comm]
  have y0 : 0 < lv G ys := lv_pos (by decide) hy ty (by intro e; subst e; simp at hy2)
  have yt := lv_top (B := G) (by decide) hy ty (by intro e; subst e; simp at hy2)
  have yV : lv G ys ≤ V := by
    have := Int.mul_le_mul_of_nonneg_right (show 1 ≤ s by omega) (Int.le_of_lt y0)
    omega
  have last : vl.getLast? = some 0 := by
    have h1 := lv_split G vl ys.length (by omega)
    rw [lv_dropc G vl ys.length (by omega), List.drop_of_length_le (by omega)] at h1
    simp only [lv, Int.mul_zero, Int.add_zero] at h1
    have h2 := lv_nonneg (B := G) (by decide) (r3.take ys.length)
    have h3 := r3.at ys.length (by omega)
    have h4 : vl[ys.length]'(by omega) = 0 := by
      by_cases z : vl[ys.length]'(by omega) = 0
      · exact z
      · have := Int.mul_le_mul_of_nonneg_left (show 1 ≤ vl[ys.length]'(by omega) by omega) (Int.le_of_lt (pow_pos' (B := G) (by decide) ys.length))
        omega
    rw [List.getLast?_eq_getElem?, r2, Nat.add_sub_cancel, List.getElem?_eq_getElem (by omega), h4]
  have h6 : bigint_divide.l6 lf [s] [0] u0 vl (lf + 40) = some (false, ([], [], [], [], ()), (((tr vl).length, [s], [0], u0, vl, ()), ())) := by
    rcases l6_ok lf [s] [0] u0 vl (by omega) (lf + 40) (by omega) with ⟨h, _⟩ | ⟨_, h⟩
    · exact absurd last h
    · exact h
  have dT := dg_tr r3
  have tT := tr_tr vl
  have vT := lv_tr G vl
  obtain ⟨n, hn⟩ : ∃ n, n = (tr vl).length := ⟨_, rfl⟩
  have n1 : n ≤ ys.length := by
    by_cases z : n ≤ ys.length
    · exact z
    · have a := lv_top (B := G) (by decide) dT tT (by intro e; rw [e] at hn; simp at hn; omega)
      have b := pow_mono' (B := G) (by decide) (show ys.length ≤ (tr vl).length - 1 by omega)
      omega
  have n2 : 2 ≤ n := by
    by_cases z : 2 ≤ n
    · exact z
    · have a := lv_lt (B := G) (by decide) dT
      have b := pow_mono' (B := G) (by decide) (show (tr vl).length ≤ ys.length - 1 by omega)
      omega
  obtain ⟨k, hk⟩ : ∃ k, k = xs.length + 1 - u0.length := ⟨_, rfl⟩
  obtain ⟨N, hN⟩ : ∃ N, N = u0.length + k := ⟨_, rfl⟩
  obtain ⟨u, hu0⟩ : ∃ u, u = u0 ++ List.replicate k 0 := ⟨_, rfl⟩
  have ul : u.length = N := by rw [hu0, List.length_append, List.length_replicate, hN]
  have ud : Dg G u := by rw [hu0]; exact hu.app (Dg.zeros (by decide) _)
  have uv' : lv G u = lv G u0 := by rw [hu0, lv_app, lv_zeros]; simp
  have h13 : bigint_divide.l13 lf xs n [s] vl (lf + 40) u0 = some ((u, ()), ()) := by
    rw [hu0]; exact d13_ok lf n xs [s] vl (by omega) k (lf + 40) u0 (by omega) (by omega) (by omega) (by omega)
  have inv : lv G (u.drop (N - n)) < lv G (tr vl) := by
    have a := lv_split G u (N - n) (by omega)
    have b := lv_nonneg (B := G) (by decide) (ud.take (N - n))
    have c := lv_top (B := G) (by decide) dT tT (by intro e; rw [e] at hn; simp at hn; omega)
    have d := pow_mono' (B := G) (by decide) (show u0.length - 1 ≤ N - 1 by omega)
    have e : G ^ (N - 1) = G ^ (N - n) * G ^ (n - 1) := by rw [← Int.pow_add]; congr 1; omega
    rw [← hn] at c
    by_cases z : lv G (u.drop (N - n)) < lv G (tr vl)
    · exact z
    · have := Int.mul_le_mul_of_nonneg_left (show G ^ (n - 1) ≤ lv G (u.drop (N - n)) by omega) (Int.le_of_lt (pow_pos' (B := G) (by decide) (N - n)))
      omega
  have e1 : i64.wrap (((u.length : Nat) : Int) - ((n : Nat) : Int)) = ((N - n : Nat) : Int) := by rw [w64 (by omega) (by omega)]; omega
  have e2 : i64.wrap (((N - n : Nat) : Int) - 1) = ((N - n : Nat) : Int) - 1 := w64 (by omega) (by omega)
  obtain ⟨u', out', t1, t2, t3, t4, t5, t6, t7⟩ := d14_ok lf [s] vl (tr vl) hlf (by omega) dT tT r3 (tr_take vl) (tr_len vl) N (by omega) (N - n) (lf + 40) u (List.replicate (N - n) 0) (by omega) ul (by omega) ud (Dg.zeros (by decide) _) (by simp) (fun p hp => by rw [List.getElem?_replicate, if_pos hp]) inv
  rw [lv_zeros, vT, uv', hu3, ← hV, hV2] at t6
  rw [vT, ← hV, hV2] at t7
  rw [← hn] at t1
  rw [List.length_replicate] at t5
  obtain ⟨q, r, p1, p2, p3, p4, p5, p6, p7⟩ := short_f lf (tr u') s s0 s1 (dg_tr t2) (by have := tr_len u'; omega) (by omega)
  rw [lv_tr] at p7
  have key : lv G xs = lv G ys * lv G out' + lv G q ∧ r = 0 := by
    have := win_eq (M := s) (a := r) (d := lv G q + lv G ys * lv G out' - lv G xs) (b := 0) s0 (by rw [p7] at t6; grind) p5 p6 (by decide) s0
    exact ⟨by omega, this.2⟩
  refine ⟨tr out', q, ?_, dg_tr t3, tr_tr _, p2, p3, by rw [lv_tr]; exact key.1, ?_⟩
  · rw [e0, mkL_nat _ _ _ (ys.length + 1) rfl rfl (by omega), bdS, r1, bdS, h6, bdS, brF]
    simp only [← hn]
    rw [h13, bdS]
    simp only [e1]
    rw [mkL_nat _ _ _ (N - n) rfl rfl (by omega), bdS, e2, t1, bdS, trim_f lf u' (by omega) (by omega), bdS]
    simp only [p1, bdS, show idxB ([s] : List Int).length 0 = some 0 from idxB_nat 1 0 (by decide), List.getElem?_cons_zero]
    rw [trim_f lf out' (by omega) (by omega), bdS]
  · exact Int.lt_of_mul_lt_mul_left (by rw [key.2] at p7; omega) (Int.le_of_lt s0)
theorem divide_f (lf : Nat) (xs ys : List Int) (hx : Dg G xs) (hy : Dg G ys) (tx : Tr xs) (ty : Tr ys) (hyn : ys ≠ []) (hxb : xs.length ≤ 50000) (hyb : ys.length ≤ 50000) (hlf : 2000000000 ≤ lf) :
  ∃ Q R, bigint_divide.f lf xs ys = some (Q, R, ()) ∧ Dg G Q ∧ Tr Q ∧ Dg G R ∧ Tr R ∧ lv G xs = lv G ys * lv G Q + lv G R ∧ lv G R < lv G ys := by
 obtain ⟨v, e, sg⟩ := order_f lf xs ys hx hy tx ty (by omega) (by omega) (by omega)
 rw [bigint_divide.f, e, bdS]
 by_cases hneg : v < 0
 ·rw [decide_eq_true hneg, brT]
  have := sg.1.1 hneg
  exact ⟨[], xs, rfl, Dg.nil, Tr.nil, hx, tx, by simp [lv], by omega⟩
 rw [decide_eq_false hneg, brF]
 have hle : lv G ys ≤ lv G xs := by
  have : ¬ (lv G xs - lv G ys < 0) := fun h => hneg (sg.1.2 h)
  omega
 have hlen : ys.length ≤ xs.length := by
  by_cases z : ys.length ≤ xs.length
  ·exact z
  ·have := lv_len_lt (B := G) (by decide) hx hy ty (by omega)
   omega
 have hy1 : 1 ≤ ys.length := List.length_pos_iff.2 hyn
 by_cases h1 : ys.length = 1
 ·rw [show (((ys.length : Nat) : Int) == 1) = true by rw [h1]; rfl, brT]
  obtain ⟨d, rfl⟩ := List.length_eq_one_iff.1 h1
  have d0 := hy d (by simp)
  have dp : 0 < d := by
   have := lv_pos (B := G) (by decide) hy ty (by simp)
   simp only [lv] at this
   omega
  obtain ⟨q, r, p1, p2, p3, p4, p5, p6, p7⟩ := short_f lf xs d dp d0.2 hx (by omega) (by omega)
  have e3 : idxL [d] 0 = some d := rfl
  refine ⟨q, tr [r], ?_, p2, p3, dg_tr (Dg.cons ⟨p5, by omega⟩ Dg.nil), tr_tr _, ?_, ?_⟩
  ·rw [e3, bdS, p1, bdS, trim_f lf [r] (by simp; omega) (by simp), bdS]
  ·rw [lv_tr, p7]; simp [lv]
  ·rw [lv_tr]; simp only [lv]; omega
 ·rw [show (((ys.length : Nat) : Int) == 1) = false by rw [beq_eq_false_iff_ne]; omega, brF]
  have yl0 := hy.at (ys.length - 1) (by omega)
  have yl1 : 1 ≤ ys[ys.length - 1]'(by omega) := by
   have : ys[ys.length - 1]'(by omega) ≠ 0 := by
    intro e
    apply ty
    rw [List.getLast?_eq_getElem?, List.getElem?_eq_getElem (by omega), e]
   omega
  obtain ⟨y, ey⟩ : ∃ y, y = ys[ys.length - 1]'(by omega) := ⟨_, rfl⟩
  rw [← ey] at yl0 yl1
  have e2 : i64.wrap (((ys.length : Nat) : Int) - 1) = ((ys.length - 1 : Nat) : Int) := by rw [w64 (by omega) (by omega)]; omega
  have e3 : i64.wrap (y + 1) = y + 1 := w64 (by omega) (by simp only [G] at yl0; omega)
  have e4 : i64.wrap (((xs.length : Nat) : Int) + 1) = ((xs.length + 1 : Nat) : Int) := by rw [w64 (by omega) (by omega)]; omega
  obtain ⟨s, es⟩ : ∃ s, s = 1000000000 / (y + 1) := ⟨_, rfl⟩
  have sm : (y + 1) * s ≤ 1000000000 := by rw [es]; exact Int.mul_ediv_self_le (by omega)
  have s0 : 0 < s := by
   have : 1 ≤ 1000000000 / (y + 1) := Int.le_ediv_of_mul_le (by omega) (by simp only [G] at yl0; omega)
   omega
  have s1 : s < G := by
   have := Int.mul_le_mul_of_nonneg_right (show 2 ≤ y + 1 by omega) (Int.le_of_lt s0)
   simp only [G]; omega
  have hs : s * lv G ys < G ^ ys.length := by
   have a := lv_split G ys (ys.length - 1) (by omega)
   rw [lv_dropc G ys (ys.length - 1) (by omega), List.drop_of_length_le (by omega), ← ey] at a
   simp only [lv, Int.mul_zero, Int.add_zero] at a
   have b := lv_lt (B := G) (by decide) (hy.take (ys.length - 1))
   rw [List.length_take, Nat.min_eq_left (by omega)] at b
   have c : lv G ys < G ^ (ys.length - 1) * (y + 1) := by rw [Int.mul_add]; omega
   have d := Int.mul_lt_mul_of_pos_left c s0
   have e : s * (G ^ (ys.length - 1) * (y + 1)) = G ^ (ys.length - 1) * ((y + 1) * s) := by grind
   have f := Int.mul_le_mul_of_nonneg_left sm (Int.le_of_lt (pow_pos' (B := G) (by decide) (ys.length - 1)))
   have g : G ^ ys.length = G ^ (ys.length - 1) * 1000000000 := by
    conv => lhs; rw [show ys.length = (ys.length - 1) + 1 by omega]
    rw [Int.pow_succ]
   omega
  rw [e2, idxL_nat _ _ (by omega), bdS, ← ey, e3, iQuo_nn (by decide) (by omega) (by decide), bdS, ← es, e4, mkL_nat _ _ _ (xs.length + 1) rfl rfl (by omega), bdS]
  obtain ⟨w, r1, r2, r3, r4⟩ := dA_l0 lf xs [s] hx (Dg.cons ⟨by omega, s1⟩ Dg.nil) (by omega) (by simp) xs.length (lf + 40) 0 (List.replicate (xs.length + 1) 0) (by omega) (by omega) (Dg.zeros (by decide) _) (by simp) (by simp; omega) (fun q _ h => by rw [List.length_replicate] at h; rw [List.getElem?_replicate, if_pos h])
  rw [List.length_replicate] at r2
  rw [lv_zeros] at r4
  simp only [lv, List.drop_zero, Int.mul_zero, Int.add_zero, Int.pow_zero, Int.one_mul, Int.zero_add] at r4
  rw [show ((0 : Nat) : Int) = 0 from rfl] at r1
  rw [r1, bdS]
  have wl := tr_len w
  have fin := dtail lf xs ys (tr w ++ [0]) s hlf hx hy ty (by omega) hlen hxb s0 s1 hs ((dg_tr r3).app (Dg.zeros (by decide) 1)) (by simp; omega) (by simp) (by
   rw [List.length_append, List.length_singleton, Nat.add_sub_cancel, lv_app]
   simp only [lv, Int.mul_zero, Int.add_zero]
   exact lv_lt (by decide) (dg_tr r3)) (by rw [lv_app, lv_tr, r4]; simp [lv])
  rcases l2_ok lf [s] w (by omega) (lf + 40) (by omega) with ⟨t, h2⟩ | ⟨_, h2⟩
  ·rw [h2, bdS, brT, apL_ok _ _ _ (by decide) (by simp; omega), bdS]
   rw [tr_of_Tr (show Tr w from t)] at fin
   exact fin _
  ·rw [h2, bdS, brF]
   simp only [tr_take]
   rw [decide_eq_true wl, Bool.true_and, apL_ok _ _ _ (by decide) (by simp; omega), bdS]
   exact fin _
end Go.N
namespace Go.N
open Go Go.Q Go.Rx
theorem mul_f (lf : Nat) (l m : List UInt8) (h1 : chk l = 0) (h2 : chk m = 0) (h3 : 200000 ≤ lf) :
  bigint_Mul.f lf (bs l) (bs m) = some (if (D (iv l * iv m).natAbs).length > 4096 then (bs [], 10, ()) else (bs (Lib.itoa (iv l * iv m)), 0, ())) := by
 obtain ⟨⟨pn, pl, ⟨⟩⟩, ⟨qn, ql, ⟨⟩⟩, e, k1, k2, _⟩ := pair_f lf l m h1 h2 h3
 rw [bigint_Mul.f, e, bdS]
 simp only [bne_self_eq_false, brF]
 obtain ⟨r, e2, d1, d2, d3, d4⟩ := times_f lf pl ql k1.dg k2.dg (by have := k1.len; simp only at this; omega) (by have := k2.len; simp only at this; omega) h3
 have k3 : RN (pn != qn, r, ()) (iv l * iv m) 8192 := by
  refine ⟨d1, d2, ?_, ?_⟩
  ·have a := k1.len; have b := k2.len; simp only at a b ⊢; omega
  ·have a := k1.val; have b := k2.val
   simp only at a b ⊢
   rw [d4, a, b]
   cases pn <;> cases qn <;> simp [Int.neg_mul, Int.mul_neg]
 rw [bigint_product.f]
 simp only [e2, bdS]
 rw [written_f lf k3 (by omega) h3, bdS]
theorem fdiv_unique {x y q r : Int} (h : x = y * q + r) (hr : (0 ≤ r ∧ r < y) ∨ (y < r ∧ r ≤ 0)) : q = x.fdiv y ∧ r = x.fmod y := by
 have e := Int.mul_fdiv_add_fmod x y
 have hf : (0 ≤ x.fmod y ∧ x.fmod y < y) ∨ (y < x.fmod y ∧ x.fmod y ≤ 0) := by
  rcases hr with hr | hr
  ·exact Or.inl ⟨Int.fmod_nonneg_of_pos x (by omega), Int.fmod_lt_of_pos x (by omega)⟩
  ·refine Or.inr ?_
   have a := Int.fmod_nonneg_of_pos (-x) (show 0 < -y by omega)
   have b := Int.fmod_lt_of_pos (-x) (show 0 < -y by omega)
   rw [Int.neg_fmod_neg] at a b
   omega
 have key : x.fdiv y = q := by
  have d : y * (x.fdiv y - q) = r - x.fmod y := by rw [Int.mul_sub]; omega
  rcases Int.lt_trichotomy (x.fdiv y) q with z | z | z
  ·rcases hr with hr | hr
   ·have := Int.mul_le_mul_of_nonneg_left (show x.fdiv y - q ≤ -1 by omega) (show 0 ≤ y by omega); omega
   ·have := Int.mul_le_mul_of_nonneg_left (show x.fdiv y - q ≤ -1 by omega) (show 0 ≤ -y by omega)
    simp only [Int.neg_mul] at this; omega
  ·exact z
  ·rcases hr with hr | hr
   ·have := Int.mul_le_mul_of_nonneg_left (show 1 ≤ x.fdiv y - q by omega) (show 0 ≤ y by omega); omega
   ·have := Int.mul_le_mul_of_nonneg_left (show 1 ≤ x.fdiv y - q by omega) (show 0 ≤ -y by omega)
    simp only [Int.neg_mul] at this; omega
 rw [key] at e
 exact ⟨key.symm, by omega⟩
theorem quotient_f (lf : Nat) (hlf : 2000000000 ≤ lf) {p q : Bool × (List Int × Unit)} {x y : Int} {k : Nat} (h1 : RN p x k) (h2 : RN q y k) (hk : k ≤ 40000) (hy : y ≠ 0) :
  ∃ s t, bigint_quotient.f lf p q = some (s, t, ()) ∧ RN s (x.fdiv y) (k + 1) ∧ RN t (x.fmod y) k := by
 obtain ⟨pn, pl, ⟨⟩⟩ := p
 obtain ⟨qn, ql, ⟨⟩⟩ := q
 obtain ⟨d1, t1, l1, v1⟩ := h1
 obtain ⟨d2, t2, l2, v2⟩ := h2
 simp only at d1 t1 l1 v1 d2 t2 l2 v2
 have hne : ql ≠ [] := by
  rintro rfl
  apply hy
  rw [v2]; simp [lv]
 obtain ⟨Q, R, e, dq, tq, dr, tr', val, lt⟩ := divide_f lf pl ql d1 d2 t1 t2 hne (by omega) (by omega) hlf
 have y0 := lv_pos (B := G) (by decide) d2 t2 hne
 have R0 := lv_nonneg (B := G) (by decide) dr
 have Q0 := lv_nonneg (B := G) (by decide) dq
 have lR : R.length ≤ ql.length := by
  by_cases z : R.length ≤ ql.length
  ·exact z
  ·have := lv_len_lt (B := G) (by decide) d2 dr tr' (by omega); omega
 have lQ : Q.length ≤ pl.length := by
  by_cases z : Q.length ≤ pl.length
  ·exact z
  ·have := lv_len_lt (B := G) (by decide) d1 dq tq (by omega)
   have := Int.mul_le_mul_of_nonneg_right (show 1 ≤ lv G ql by omega) Q0
   omega
 rw [bigint_quotient.f]
 simp only [e, bdS]
 by_cases hs : pn = qn
 ·subst hs
  simp only [BEq.rfl, brT]
  have key : lv G Q = x.fdiv y ∧ (if pn = true then -lv G R else lv G R) = x.fmod y := by
   apply fdiv_unique
   ·cases pn <;> simp only [Bool.false_eq_true, if_true, if_false] at v1 v2 ⊢ <;> rw [v1, v2, val] <;> grind
   ·cases pn <;> simp only [Bool.false_eq_true, if_true, if_false] at v1 v2 ⊢ <;> omega
  exact ⟨_, _, rfl, ⟨dq, tq, by simp only; omega, by simp [key.1]⟩, ⟨dr, tr', by simp only; omega, key.2.symm⟩⟩
 ·rw [show (pn == qn) = false from beq_eq_false_iff_ne.2 hs, brF]
  by_cases hR : R = []
  ·subst hR
   rw [decide_eq_false (by simp), brF]
   have key : -lv G Q = x.fdiv y ∧ 0 = x.fmod y := by
    apply fdiv_unique
    ·simp only [lv, Int.add_zero] at val
     cases pn <;> cases qn <;> simp only [Bool.false_eq_true, if_true, if_false, not_true, reduceCtorEq] at v1 v2 hs ⊢ <;> rw [v1, v2, val] <;> grind
    ·omega
   exact ⟨_, _, rfl, ⟨dq, tq, by simp only; omega, by simp [key.1]⟩, ⟨Dg.nil, Tr.nil, by simp, by rw [← key.2]; simp [lv]⟩⟩
  ·have Rl : 0 < R.length := List.length_pos_iff.2 hR
   have Rp := lv_pos (B := G) (by decide) dr tr' hR
   rw [decide_eq_true (by omega), brT]
   obtain ⟨Q1, f1, g1, g2, g3, g4⟩ := plus_f lf Q [1] dq (Dg.cons (by decide) Dg.nil) (by omega) (by simp) (by omega)
   obtain ⟨R1, f2, g5, g6, g7, g8⟩ := minus_f lf ql R d2 dr (by omega) (by omega) (by omega)
   have e1 : lv G [1] = 1 := by simp [lv]
   have key : -lv G Q1 = x.fdiv y ∧ (if qn = true then -lv G R1 else lv G R1) = x.fmod y := by
    apply fdiv_unique
    ·rw [g3, g7, e1]
     cases pn <;> cases qn <;> simp only [Bool.false_eq_true, if_true, if_false, not_true, reduceCtorEq] at v1 v2 hs ⊢ <;> rw [v1, v2, val] <;> grind
    ·rw [g7]
     cases pn <;> cases qn <;> simp only [Bool.false_eq_true, if_true, if_false, not_true, reduceCtorEq] at v1 v2 hs ⊢ <;> omega
   rw [f1, bdS, f2, bdS]
   refine ⟨_, _, rfl, ⟨g1, g2, ?_, by simp [key.1]⟩, ⟨g5, g6, by simp only; omega, key.2.symm⟩⟩
   simp only [List.length_singleton] at g4 ⊢
   omega
theorem divided_f (lf : Nat) (hlf : 2000000000 ≤ lf) (l m : List UInt8) (h1 : chk l = 0) (h2 : chk m = 0) :
  bigint_divided.f lf (bs l) (bs m) = some (if iv m = 0 then (bs [], bs [], 19, ()) else (bs (Lib.itoa ((iv l).fdiv (iv m))), bs (Lib.itoa ((iv l).fmod (iv m))), 0, ())) := by
 obtain ⟨p, q, e, k1, k2, _⟩ := pair_f lf l m h1 h2 (by omega)
 rw [bigint_divided.f, e, bdS]
 simp only [bne_self_eq_false, brF]
 by_cases h0 : iv m = 0
 ·rw [if_pos h0]
  have : q.2.1 = [] := by
   have a := k2.val
   rw [h0] at a
   have b := lv_eq_zero (B := G) (by decide) k2.dg k2.tr
   apply b.1
   split at a <;> omega
  simp [this, brT]
 ·rw [if_neg h0]
  have hq : q.2.1 ≠ [] := by
   intro z
   apply h0
   have a := k2.val
   rw [z] at a
   simpa [lv] using a
  have hl : 0 < q.2.1.length := List.length_pos_iff.2 hq
  rw [show (((q.2.1.length : Nat) : Int) == 0) = false from beq_eq_false_iff_ne.2 (by omega), brF]
  obtain ⟨s, t, e2, r1, r2⟩ := quotient_f lf hlf k1 k2 (by omega) h0
  simp only [e2, bdS, ntext_f lf r1 (by omega) (by omega), ntext_f lf r2 (by omega) (by omega)]
theorem rem_f (lf : Nat) (hlf : 2000000000 ≤ lf) (l m : List UInt8) (h1 : chk l = 0) (h2 : chk m = 0) :
  bigint_Rem.f lf (bs l) (bs m) = some (if iv m = 0 then (bs [], 19, ()) else (bs (Lib.itoa ((iv l).fmod (iv m))), 0, ())) := by
 rw [bigint_Rem.f, divided_f lf hlf l m h1 h2, bdS]
 split <;> rfl
end Go.N
namespace Go.N
open Go Go.Q Go.Rx
set_option exponentiation.threshold 5000
def sz (z : Int) : Nat := nlen (Lib.itoa z)
theorem body_itoa (z : Int) : body (Lib.itoa z) = Lib.decDigits z.natAbs := by
 unfold body Lib.itoa
 by_cases h : z < 0
 ·rw [if_pos h]; simp
 ·rw [if_neg h, if_neg (dec_no45 _)]
  congr 1; omega
theorem sz_le (z : Int) (k : Nat) (hk : 0 < k) : sz z ≤ k ↔ z.natAbs < 10 ^ k := by
 unfold sz nlen
 rw [body_itoa]
 constructor
 ·intro h
  have := dv_lt _ (dec_all z.natAbs)
  rw [dv_dec] at this
  exact Nat.lt_of_lt_of_le this (Nat.pow_le_pow_right (by omega) h)
 ·intro h
  obtain ⟨j, rfl⟩ := Nat.exists_eq_succ_of_ne_zero (show k ≠ 0 by omega)
  exact dec_len_le j _ h
@[irreducible] def K : Int := ((10 ^ 4096 : Nat) : Int)
@[irreducible] def C : Int := ((10 ^ 100 : Nat) : Int)
theorem sz_K (z : Int) : sz z ≤ 4096 ↔ -K < z ∧ z < K := by
 rw [sz_le z 4096 (by omega)]
 unfold K
 generalize 10 ^ 4096 = n
 omega
theorem sz_C (z : Int) : sz z ≤ 100 ↔ -C < z ∧ z < C := by
 rw [sz_le z 100 (by omega)]
 unfold C
 generalize 10 ^ 100 = n
 omega
theorem C_lt_K : C < K := by
 unfold C K
 have : (10 : Nat) ^ 100 < 10 ^ 4096 := Nat.pow_lt_pow_right (by omega) (by omega)
 exact Int.ofNat_lt.2 this
theorem C_gt : 1000000 < C := by
 unfold C
 have : (1000000 : Nat) < 10 ^ 100 := by decide +kernel
 omega
theorem K_gt : 1000000 < K := Int.lt_trans C_gt C_lt_K
theorem itoa_len (z : Int) (h : sz z ≤ 4096) : (Lib.itoa z).length ≤ 4097 := by
 have := len_nlen (Lib.itoa z)
 unfold sz at h
 omega
theorem chk_itoa (z : Int) : chk (Lib.itoa z) = 0 ↔ -K < z ∧ z < K := by
 rw [chk_zero, ← sz_K]
 exact ⟨fun h => h.2, fun h => ⟨can_itoa z, h⟩⟩
theorem num_itoa (z : Int) : num (Lib.itoa z) = 0 ↔ -C < z ∧ z < C := by
 rw [num_zero, ← sz_C]
 exact ⟨fun h => h.2, fun h => ⟨can_itoa z, h⟩⟩
theorem itoa_inj {x y : Int} (h : Lib.itoa x = Lib.itoa y) : x = y := by rw [← iv_itoa x, ← iv_itoa y, h]
inductive X where
 | ni
 | fin (z : Int)
 | pi
deriving DecidableEq
abbrev EB : Type := Int × (ByteArray × Unit)
abbrev IV : Type := Bool × (ByteArray × (ByteArray × Unit))
def xc : X → EB
 | .ni => (-1, bs [], ())
 | .fin z => (0, bs (Lib.itoa z), ())
 | .pi => (1, bs [], ())
def key : X → Int
 | .ni => -K
 | .fin z => z
 | .pi => K
def okx (k : Int) : X → Prop
 | .fin z => -k < z ∧ z < k
 | _ => True
theorem okx.mono {k k' : Int} (h : k ≤ k') {x : X} (hx : okx k x) : okx k' x := by cases x <;> simp_all [okx]; omega
structure Sp where
 lo : X
 hi : X
deriving DecidableEq
def sc (s : Sp) : EB × (EB × Unit) := (xc s.lo, xc s.hi, ())
def oks (k : Int) (s : Sp) : Prop := okx k s.lo ∧ okx k s.hi
theorem oks.mono {k k' : Int} (h : k ≤ k') {s : Sp} (hs : oks k s) : oks k' s := ⟨hs.1.mono h, hs.2.mono h⟩
def emp (s : Sp) : Bool := decide (key s.lo > key s.hi)
def non : Sp := ⟨.pi, .ni⟩
theorem non_ok {k : Int} : oks k non := ⟨trivial, trivial⟩
theorem emp_non : emp non = true := by
 have := K_gt
 show decide (K > -K) = true
 exact decide_eq_true (by omega)
def ob : Option Int → ByteArray
 | none => bs []
 | some z => bs (Lib.itoa z)
structure A where
 em : Bool
 lo : Option Int
 hi : Option Int
deriving DecidableEq
def ac (a : A) : IV := (a.em, ob a.lo, ob a.hi, ())
def okb (k : Int) : Option Int → Prop
 | none => True
 | some z => -k < z ∧ z < k
def le? : Option Int → Option Int → Prop
 | some x, some y => x ≤ y
 | _, _ => True
structure Wf (a : A) : Prop where
 em : a.em = true → a.lo = none ∧ a.hi = none
 lo : okb C a.lo
 hi : okb C a.hi
 le : le? a.lo a.hi
def lox : Option Int → X
 | none => .ni
 | some z => .fin z
def hix : Option Int → X
 | none => .pi
 | some z => .fin z
def ofA (a : A) : Sp := if a.em = true then non else ⟨lox a.lo, hix a.hi⟩
theorem okb_lox {k : Int} {x : Option Int} (h : okb k x) : okx k (lox x) := by cases x <;> simp_all [okb, lox, okx]
theorem okb_hix {k : Int} {x : Option Int} (h : okb k x) : okx k (hix x) := by cases x <;> simp_all [okb, hix, okx]
theorem ofA_ok {k : Int} {a : A} (h1 : okb k a.lo) (h2 : okb k a.hi) : oks k (ofA a) := by
 unfold ofA; split
 ·exact non_ok
 ·exact ⟨okb_lox h1, okb_hix h2⟩
def clip (z : Int) : Option Int := if -C < z ∧ z < C then some z else none
def tx : X → Option Int
 | .fin z => clip z
 | _ => none
end Go.N
namespace Go.N
open Go Go.Q Go.Rx
theorem num_chk {l : List UInt8} (h : num l = 0) : chk l = 0 := chk_zero.2 ⟨(num_zero.1 h).1, by have := (num_zero.1 h).2; omega⟩
theorem num_len {l : List UInt8} (h : num l = 0) : l.length ≤ 101 := by have := len_nlen l; have := (num_zero.1 h).2; omega
theorem bneT {x : Int} (h : ¬ x = 0) : (x != 0) = true := by simpa using h
theorem e0 : (⟨#[]⟩ : ByteArray) = bs [] := rfl
theorem Wf.okC {a : A} (h : Wf a) : oks C (ofA a) := ofA_ok h.lo h.hi
theorem Wf.okK {a : A} (h : Wf a) : oks K (ofA a) := h.okC.mono (Int.le_of_lt C_lt_K)
theorem emp_ofA {a : A} (h : Wf a) : emp (ofA a) = a.em := by
 have hK := K_gt
 have hC := C_lt_K
 obtain ⟨em, lo, hi⟩ := a
 obtain ⟨h1, h2, h3, h4⟩ := h
 unfold ofA
 cases em with
 | true => exact emp_non
 | false =>
  rw [if_neg (by simp)]
  apply decide_eq_false
  cases lo <;> cases hi <;> simp only [lox, hix, key, okb, le?] at * <;> omega
end Go.N
namespace Go.N
open Go Go.Q Go.Rx
theorem okb_len {x : Int} (h : -K < x ∧ x < K) : (Lib.itoa x).length ≤ 4097 := itoa_len x ((sz_K x).2 h)
theorem okb.mono {k k' : Int} (h : k ≤ k') {o : Option Int} (ho : okb k o) : okb k' o := by cases o <;> simp only [okb] at *; omega
end Go.N
namespace Go.N
open Go Go.Q Go.Rx
def bel (v : Int) (acc : X) (x : Int) : X := if x ≤ v then .fin x else acc
def abo (v : Int) (x : Int) (acc : X) : X := if x ≥ v then .fin x else acc
def below (zs : List Int) (v : X) : X := zs.foldl (bel (key v)) .ni
def above (zs : List Int) (v : X) : X := zs.foldr (abo (key v)) .pi
end Go.N
namespace Go.N
open Go Go.Q Go.Rx
structure Ks (s : Sp) (e : Bool) : Prop where
 ok : oks K s
 e1 : e = true → s = non
 e2 : e = false → key s.lo ≤ key s.hi ∧ key s.lo < K ∧ -K < key s.hi
theorem Wf.ks {a : A} (h : Wf a) : Ks (ofA a) a.em := by
 have hK := K_gt
 have hC := C_lt_K
 refine ⟨h.okK, fun e => by unfold ofA; rw [if_pos e], fun e => ?_⟩
 have := emp_ofA h
 rw [e] at this
 unfold emp at this
 simp only [decide_eq_false_iff_not] at this
 refine ⟨by omega, ?_, ?_⟩
 ·unfold ofA; rw [if_neg (by simp [e])]
  have h0 := h.lo
  cases hx : a.lo with
  | none => simp only [lox, key]; omega
  | some z => rw [hx] at h0; simp only [lox, key, okb] at *; omega
 ·unfold ofA; rw [if_neg (by simp [e])]
  have h0 := h.hi
  cases hx : a.hi with
  | none => simp only [hix, key]; omega
  | some z => rw [hx] at h0; simp only [hix, key, okb] at *; omega
theorem ba_beq (x y : ByteArray) : (x == y) = decide (x = y) := by
 have e : (x == y) = (x.data == y.data) := rfl
 rw [e]
 obtain ⟨x⟩ := x
 obtain ⟨y⟩ := y
 by_cases h : x = y
 ·subst h; simp
 ·have : ¬ (⟨x⟩ : ByteArray) = ⟨y⟩ := fun e => h (by injection e)
  rw [decide_eq_false this]; simpa using h
end Go.N
namespace Go.N
open Go Go.Q Go.Rx
end Go.N
namespace Go.N
open Go Go.Q Go.Rx
end Go.N
namespace Go.N
open Go Go.Q Go.Rx
section
variable (lf : Nat) (h3 : 200000 ≤ lf) {e1 e2 : Bool} {l1 m1 l2 m2 : List UInt8} (a1 : l1.length ≤ 100000) (b1 : m1.length ≤ 100000) (a2 : l2.length ≤ 100000) (b2 : m2.length ≤ 100000)
include h3 a1 b1 a2 b2
end
section
variable (lf : Nat) (h3 : 200000 ≤ lf) {e1 e2 : Bool} {l1 m1 l2 m2 : List UInt8} (a1 : l1.length ≤ 100000) (b1 : m1.length ≤ 100000) (a2 : l2.length ≤ 100000) (b2 : m2.length ≤ 100000)
include h3 a1 b1 a2 b2
end
end Go.N
namespace Go.N
open Go Go.Q Go.Rx
theorem dlen_sz (z : Int) : (D z.natAbs).length = sz z := by unfold sz nlen; rw [body_itoa]
theorem chk48 : chk [48] = 0 := by decide
theorem iv48 : iv [48] = 0 := by decide
section
variable (lf : Nat) (h3 : 200000 ≤ lf) {e1 e2 : Bool} {l1 m1 l2 m2 : List UInt8} (a1 : l1.length ≤ 100000) (b1 : m1.length ≤ 100000) (a2 : l2.length ≤ 100000) (b2 : m2.length ≤ 100000)
include h3 a1 b1 a2 b2
end
end Go.N
namespace Go.N
open Go.IntKind (i64)
open Go Go.Q Go.Rx
def D0 (m : Nat) : List UInt8 := if m = 0 then [] else D m
theorem D0_step {m : Nat} (h : m ≠ 0) : D0 m = D0 (m / 10) ++ [dch (m % 10)] := by
 unfold D0
 rw [if_neg h]
 by_cases h10 : m < 10
 ·rw [if_pos (by omega), List.nil_append]
  show Lib.decDigits m = _
  rw [dec_small h10, Nat.mod_eq_of_lt h10]
 ·rw [if_neg (by omega)]
  exact dec_big h10
theorem ten_digit (d : Nat) (h : d < 10) : (([48, 49, 50, 51, 52, 53, 54, 55, 56, 57] : List UInt8).drop d).take 1 = [dch d] := by
 have : ∀ d : Fin 10, (([48, 49, 50, 51, 52, 53, 54, 55, 56, 57] : List UInt8).drop d.val).take 1 = [dch d.val] := by decide +kernel
 exact this ⟨d, h⟩
theorem whole_l0 (lf : Nat) (v0 : Int) : ∀ (k n m : Nat) (v : Int) (acc : List UInt8), m < 10 ^ k → k < n → (v = (m : Int) ∨ v = -(m : Int)) → m ≤ 9223372036854775808 → (v = (m : Int) → m ≤ 9223372036854775807) → acc.length + k ≤ 1000000 →
  surveyorref01_Whole.l0 lf v0 n (bs acc) v = some ((bs (D0 m ++ acc), ()), ()) := by
 intro k
 induction k with
 | zero =>
  intro n m v acc hm hn hv _ _ _
  obtain ⟨f, rfl⟩ := Nat.exists_eq_succ_of_ne_zero (show n ≠ 0 by omega)
  obtain rfl : m = 0 := by simpa using hm
  obtain rfl : v = 0 := by omega
  rw [surveyorref01_Whole.l0, surveyorref01_Whole.r0, bne_self_eq_false, brF]
  rfl
 | succ k ih =>
  intro n m v acc hm hn hv hb hb2 hacc
  obtain ⟨f, rfl⟩ := Nat.exists_eq_succ_of_ne_zero (show n ≠ 0 by omega)
  by_cases h0 : m = 0
  ·subst h0
   obtain rfl : v = 0 := by omega
   rw [surveyorref01_Whole.l0, surveyorref01_Whole.r0, bne_self_eq_false, brF]
   rfl
  have vn : v ≠ 0 := by omega
  have p2 : 10 ^ (k + 1) = 10 ^ k * 10 := Nat.pow_succ ..
  have et : Int.tmod v 10 = ((m % 10 : Nat) : Int) ∨ Int.tmod v 10 = -((m % 10 : Nat) : Int) := by
   rcases hv with rfl | rfl
   ·left; rw [Int.tmod_eq_emod_of_nonneg (by omega)]; omega
   ·right; rw [Int.neg_tmod, Int.tmod_eq_emod_of_nonneg (by omega)]; omega
  have eq : (v = (m : Int) ∧ Int.tdiv v 10 = ((m / 10 : Nat) : Int)) ∨ (v = -(m : Int) ∧ Int.tdiv v 10 = -((m / 10 : Nat) : Int)) := by
   rcases hv with rfl | rfl
   ·left; exact ⟨rfl, by rw [Int.tdiv_eq_ediv_of_nonneg (by omega)]; omega⟩
   ·right; exact ⟨rfl, by rw [Int.neg_tdiv, Int.tdiv_eq_ediv_of_nonneg (by omega)]; omega⟩
  have e1 : iRem v 10 = some (Int.tmod v 10) := by unfold iRem; rw [if_neg (by decide)]
  have e2 : iQuo .i64 v 10 = some (Int.tdiv v 10) := by
   unfold iQuo; rw [if_neg (by decide)]
   congr 1
   apply w64 <;> rcases eq with ⟨_, e⟩ | ⟨_, e⟩ <;> rw [e] <;> omega
  have e3 : i64.wrap (0 - Int.tmod v 10) = 0 - Int.tmod v 10 := by apply w64 <;> rcases et with e | e <;> rw [e] <;> omega
  have e4 : (if 0 - Int.tmod v 10 > Int.tmod v 10 then 0 - Int.tmod v 10 else Int.tmod v 10) = ((m % 10 : Nat) : Int) := by
   rcases et with e | e <;> rw [e] <;> split <;> omega
  have e5 : i64.wrap (((m % 10 : Nat) : Int) + 1) = ((m % 10 + 1 : Nat) : Int) := by rw [w64 (by omega) (by omega)]; omega
  have lt10 : m % 10 < 10 := Nat.mod_lt _ (by omega)
  rw [surveyorref01_Whole.l0, surveyorref01_Whole.r0, show (v != 0) = true by simpa using vn, brT, e1, bdS, bdS, e3, e4, e5,
   show (⟨#[48, 49, 50, 51, 52, 53, 54, 55, 56, 57]⟩ : ByteArray) = bs [48, 49, 50, 51, 52, 53, 54, 55, 56, 57] from rfl, sCut_bs _ _ _ (m % 10) (m % 10 + 1) rfl rfl (by omega) (by simp; omega), bdS,
   Nat.add_sub_cancel_left, ten_digit _ lt10, sCat_bs _ _ (by simp; omega), bdS, e2, bdS, ih f (m / 10) _ _ (by omega) (by omega) (by rcases eq with ⟨_, e⟩ | ⟨_, e⟩ <;> rw [e] <;> omega) (by omega) (by omega) (by simp; omega), D0_step h0]
  simp
theorem whole_ref (lf : Nat) (h3 : 200000 ≤ lf) {z : Int} (h1 : -9223372036854775808 ≤ z) (h2 : z ≤ 9223372036854775807) : surveyorref01_Whole.f lf z = some (bs (Lib.itoa z), ()) := by
 have p19 : (10 : Nat) ^ 19 = 10000000000000000000 := by decide
 rw [surveyorref01_Whole.f]
 by_cases h0 : z = 0
 ·subst h0
  rw [BEq.rfl, brT]
  have i0 : Lib.itoa 0 = [48] := by unfold Lib.itoa; rw [if_neg (by omega)]; exact dec_zero
  rw [i0]
 ·rw [show (z == 0) = false from beq_eq_false_iff_ne.2 h0, brF, show (⟨#[]⟩ : ByteArray) = bs [] from rfl,
   whole_l0 lf z 19 (lf + 40) z.natAbs z [] (by omega) (by omega) (by omega) (by omega) (by omega) (by simp), bdS]
  simp only [List.append_nil]
  have e0 : D0 z.natAbs = D z.natAbs := by unfold D0; rw [if_neg (by omega)]
  rw [e0]
  by_cases hn : z < 0
  ·have ln : (D z.natAbs).length ≤ 19 := dec_len_le 18 _ (by omega)
   rw [decide_eq_true hn, brT, show (⟨#[45]⟩ : ByteArray) = bs [45] from rfl, sCat_bs [45] _ (by simp; omega), bdS]
   unfold Lib.itoa
   rw [if_pos hn]; rfl
  ·rw [decide_eq_false hn, brF]
   unfold Lib.itoa
   rw [if_neg hn, show z.natAbs = z.toNat by omega]
end Go.N
namespace Go.N
open Go Go.Q Go.Rx
theorem fmod_abs {x y : Int} (h0 : y ≠ 0) : (x.fmod y).natAbs < y.natAbs := by
 rcases Int.lt_or_lt_of_ne h0 with z | z
 ·have a := Int.fmod_nonneg_of_pos (-x) (show 0 < -y by omega)
  have b := Int.fmod_lt_of_pos (-x) (show 0 < -y by omega)
  rw [Int.neg_fmod_neg] at a b
  omega
 ·have a := Int.fmod_nonneg_of_pos x z
  have b := Int.fmod_lt_of_pos x z
  omega
end Go.N
namespace Go.N
open Go Go.Q Go.Rx
set_option exponentiation.threshold 5000
theorem add_small (lf : Nat) (h3 : 200000 ≤ lf) {x y : Int} (hx : -K < x ∧ x < K) (hy : -K < y ∧ y < K) (hs : -K < x + y ∧ x + y < K) : bigint_Add.f lf (bs (Lib.itoa x)) (bs (Lib.itoa y)) = some (bs (Lib.itoa (x + y)), 0, ()) := by
 have h := (sz_K (x + y)).2 hs
 rw [add_f lf _ _ ((chk_itoa x).2 hx) ((chk_itoa y).2 hy) h3, iv_itoa, iv_itoa, dlen_sz, if_neg (by omega)]
theorem i1 : (⟨#[49]⟩ : ByteArray) = bs (Lib.itoa 1) := by
 have : Lib.itoa 1 = [49] := by unfold Lib.itoa; rw [if_neg (by omega)]; exact dec_small (by omega)
 rw [this]
theorem i0 : (⟨#[48]⟩ : ByteArray) = bs (Lib.itoa 0) := by
 have : Lib.itoa 0 = [48] := by unfold Lib.itoa; rw [if_neg (by omega)]; exact dec_zero
 rw [this]
end Go.N
namespace Go.N
open Go Go.Q Go.Rx
def E0 : A := ⟨true, none, none⟩
end Go.N
namespace Go.N
open Go Go.Q Go.Rx
set_option exponentiation.threshold 5000
theorem CC_K : C * C + C + C + 10 < K := by
 have h1 : C * C = ((10 ^ 200 : Nat) : Int) := by
  unfold C
  rw [← Int.natCast_mul, ← Nat.pow_add]
 have h2 : ((10 ^ 200 : Nat) : Int) * 10 ≤ K := by
  unfold K
  have : (10 : Nat) ^ 200 * 10 ≤ 10 ^ 4096 := by rw [← Nat.pow_succ]; exact Nat.pow_le_pow_right (by omega) (by omega)
  have h : (((10 ^ 200 * 10 : Nat) : Int)) ≤ ((10 ^ 4096 : Nat) : Int) := Int.ofNat_le.2 this
  rw [Int.natCast_mul] at h
  exact h
 have h3 := C_gt
 have h4 : C * 1000000 ≤ C * C := Int.mul_le_mul_of_nonneg_left (by omega) (by omega)
 omega
@[irreducible] def Dd : Int := ((10 ^ 1000 : Nat) : Int)
theorem C_lt_Dd : C < Dd := by
 unfold C Dd
 have : (10 : Nat) ^ 100 < 10 ^ 1000 := Nat.pow_lt_pow_right (by omega) (by omega)
 exact Int.ofNat_lt.2 this
theorem mul_C {a b : Int} (ha : -C < a ∧ a < C) (hb : -C < b ∧ b < C) : -(C * C) < a * b ∧ a * b < C * C := by
 have hC := C_gt
 have h1 : (a * b).natAbs = a.natAbs * b.natAbs := Int.natAbs_mul a b
 have h2 : ((a * b).natAbs : Int) = (a.natAbs : Int) * (b.natAbs : Int) := by rw [h1, Int.natCast_mul]
 have h3 : (a.natAbs : Int) * (b.natAbs : Int) ≤ (C - 1) * (C - 1) := Int.mul_le_mul (by omega) (by omega) (by omega) (by omega)
 have h4 : (C - 1) * (C - 1) = C * C - C - C + 1 := by grind
 omega
theorem chkK {z : Int} (h : -K < z ∧ z < K) : chk (Lib.itoa z) = 0 := (chk_itoa z).2 h
theorem oks.K {s : Sp} (h : oks C s) : oks K s := h.mono (Int.le_of_lt C_lt_K)
def sg : X → Int
 | .ni => -1
 | .fin z => sgn z
 | .pi => 1
theorem mul_small (lf : Nat) (h3 : 200000 ≤ lf) {x y : Int} (hx : -K < x ∧ x < K) (hy : -K < y ∧ y < K) (hs : -K < x * y ∧ x * y < K) : bigint_Mul.f lf (bs (Lib.itoa x)) (bs (Lib.itoa y)) = some (bs (Lib.itoa (x * y)), 0, ()) := by
 have h := (sz_K (x * y)).2 hs
 rw [mul_f lf _ _ ((chk_itoa x).2 hx) ((chk_itoa y).2 hy) h3, iv_itoa, iv_itoa, dlen_sz, if_neg (by omega)]
theorem okx.D {x : X} (h : okx C x) : okx Dd x := h.mono (Int.le_of_lt C_lt_Dd)
end Go.N
namespace Go.N
open Go Go.Q Go.Rx
theorem rem_small (lf : Nat) (hlf : 2000000000 ≤ lf) {x y : Int} (hx : -K < x ∧ x < K) (hy : -K < y ∧ y < K) (h0 : y ≠ 0) : bigint_Rem.f lf (bs (Lib.itoa x)) (bs (Lib.itoa y)) = some (bs (Lib.itoa (x.fmod y)), 0, ()) := by
 rw [rem_f lf hlf _ _ (chkK hx) (chkK hy), iv_itoa, iv_itoa, if_neg h0]
end Go.N
namespace Go.N
open Go Go.Q Go.Rx
section
variable (lf : Nat) (h3 : 200000 ≤ lf)
include h3
end
end Go.N
namespace Go.N
open Go Go.Q Go.Rx
theorem gcd_step {x y q r : Int} (h : x = y * q + r) (hy : 0 < y) (h0 : 0 ≤ r) (h1 : r < y) (hx : 0 ≤ x) : Int.gcd y r = Int.gcd x y := by
 have e : r = x % y := by rw [h, Int.mul_add_emod_self_left]; exact (Int.emod_eq_of_lt h0 h1).symm
 obtain ⟨a, rfl⟩ := Int.eq_ofNat_of_zero_le hx
 obtain ⟨b, rfl⟩ := Int.eq_ofNat_of_zero_le (Int.le_of_lt hy)
 have e' : r = ((a % b : Nat) : Int) := by rw [e]; rfl
 rw [e', Int.gcd_natCast_natCast, Int.gcd_natCast_natCast, Nat.gcd_comm a b, Nat.gcd_rec b a, Nat.gcd_comm]
theorem common_l0 (lf : Nat) (hlf : 2000000000 ≤ lf) : ∀ (k n : Nat) (xs ys : List Int), lv G ys ≤ k → k < n → Dg G xs → Dg G ys → Tr xs → Tr ys → xs.length ≤ 40000 → ys.length ≤ 40000 →
  ∃ r, bigint_common.l0 lf n xs ys = some ((r, ()), ()) ∧ Dg G r ∧ Tr r ∧ r.length ≤ max xs.length ys.length ∧ lv G r = (Int.gcd (lv G xs) (lv G ys) : Int) := by
 intro k
 induction k with
 | zero =>
  intro n xs ys hk hn hx hy tx ty lx ly
  obtain ⟨m, rfl⟩ := Nat.exists_eq_succ_of_ne_zero (show n ≠ 0 by omega)
  have y0 := lv_nonneg (B := G) (by decide) hy
  have x0 := lv_nonneg (B := G) (by decide) hx
  have : ys = [] := (lv_eq_zero (B := G) (by decide) hy ty).1 (by omega)
  subst this
  refine ⟨xs, ?_, hx, tx, by omega, ?_⟩
  ·rw [bigint_common.l0, bigint_common.r0, decide_eq_false (by simp), brF]
  ·rw [show lv G [] = 0 from rfl, Int.gcd_zero_right]; omega
 | succ k ih =>
  intro n xs ys hk hn hx hy tx ty lx ly
  obtain ⟨m, rfl⟩ := Nat.exists_eq_succ_of_ne_zero (show n ≠ 0 by omega)
  have x0 := lv_nonneg (B := G) (by decide) hx
  by_cases h : ys = []
  ·subst h
   refine ⟨xs, ?_, hx, tx, by omega, ?_⟩
   ·rw [bigint_common.l0, bigint_common.r0, decide_eq_false (by simp), brF]
   ·rw [show lv G [] = 0 from rfl, Int.gcd_zero_right]; omega
  ·obtain ⟨Q, R, e, dq, tq, dr, tr', val, lt⟩ := divide_f lf xs ys hx hy tx ty h (by omega) (by omega) hlf
   have yp := lv_pos (B := G) (by decide) hy ty h
   have R0 := lv_nonneg (B := G) (by decide) dr
   have lR : R.length ≤ ys.length := by
    by_cases z : R.length ≤ ys.length
    ·exact z
    ·have := lv_len_lt (B := G) (by decide) hy dr tr' (by omega); omega
   obtain ⟨r, r1, r2, r3, r4, r5⟩ := ih m ys R (by omega) (by omega) hy dr ty tr' ly (by omega)
   refine ⟨r, ?_, r2, r3, by omega, ?_⟩
   ·have : 0 < ys.length := List.length_pos_iff.2 h
    rw [bigint_common.l0, bigint_common.r0, decide_eq_true (by omega), brT, e, bdS]
    exact r1
   ·rw [r5, gcd_step val yp R0 lt x0]
def Big (lf : Nat) : Prop := 2000000000 ≤ lf ∧ K < (lf : Int)
theorem gcd_f (lf : Nat) (hb : Big lf) {x y : Int} (hx : -K < x ∧ x < K) (hy : -K < y ∧ y < K) : bigint_Gcd.f lf (bs (Lib.itoa x)) (bs (Lib.itoa y)) = some (bs (Lib.itoa (Int.gcd x y)), 0, ()) := by
 obtain ⟨hlf, hK⟩ := hb
 obtain ⟨p, q, e, k1, k2, _⟩ := pair_f lf _ _ (chkK hx) (chkK hy) (by omega)
 rw [iv_itoa] at k1 k2
 have vx : lv G p.2.1 = (x.natAbs : Int) := by
  have := k1.val
  have := lv_nonneg (B := G) (by decide) k1.dg
  split at * <;> omega
 have vy : lv G q.2.1 = (y.natAbs : Int) := by
  have := k2.val
  have := lv_nonneg (B := G) (by decide) k2.dg
  split at * <;> omega
 obtain ⟨r, r1, r2, r3, r4, r5⟩ := common_l0 lf hlf (lf + 39) (lf + 40) p.2.1 q.2.1 (by omega) (by omega) k1.dg k2.dg k1.tr k2.tr (by have := k1.len; omega) (by have := k2.len; omega)
 rw [vx, vy] at r5
 have g : (Int.gcd (x.natAbs : Int) (y.natAbs : Int) : Int) = (Int.gcd x y : Int) := by
  rw [Int.gcd_natCast_natCast]; rfl
 have rn : RN (false, r, ()) (Int.gcd x y) 4096 := ⟨r2, r3, by have := k1.len; have := k2.len; simp only; omega, by simp only [Bool.false_eq_true, if_false]; rw [r5, g]⟩
 rw [bigint_Gcd.f, e, bdS]
 simp only [bne_self_eq_false, brF]
 rw [bigint_common.f, r1, bdS, bdS, ntext_f lf rn (by omega) (by omega), bdS]
theorem i0' : Lib.itoa 0 = [48] := by unfold Lib.itoa; rw [if_neg (by omega)]; exact dec_zero
theorem beq0 (z : Int) : ((bs (Lib.itoa z)).toList == (⟨#[48]⟩ : ByteArray).toList) = decide (z = 0) := by
 rw [show (⟨#[48]⟩ : ByteArray) = bs [48] from rfl, beq_bs, ← i0']
 simp only [decide_eq_decide]
 exact ⟨fun e => itoa_inj e, fun e => by rw [e]⟩
end Go.N
namespace Go.N
open Go Go.Q Go.Rx
def ckc (em : Bool) (l h : List UInt8) : Int :=
 if em = true then (if l ≠ [] ∨ h ≠ [] then 3 else 0) else if num l ≠ 0 then num l else if num h ≠ 0 then num h else if iv l < 0 ∨ (iv l ≠ 0 ∧ (iv h < 0 ∨ ¬ iv h < iv l)) then 2 else 0
theorem long_f (lf : Nat) (l : List UInt8) (hl : l.length ≤ 9223372036854775807) : congruence_long.f lf (bs l) = some (decide (nlen l > 100), ()) := by
 have := nlen_le l
 rw [congruence_long.f, trimPrefix_f, bdS, bs_size]
 congr 2
 simp only [decide_eq_decide]; unfold nlen; omega
theorem numC (lf : Nat) (l : List UInt8) (hl : l.length ≤ 9223372036854775807) : congruence_number.f lf (bs l) = some (num l, ()) := by
 rw [congruence_number.f, check_f lf l hl, bdS]
 simp only [long_f lf l hl, bdS]
 unfold num
 by_cases h : chk l = 0
 ·rw [h]
  simp only [show ((0 : Int) == 10) = false from rfl, brF, BEq.rfl, brT, bne_self_eq_false, ne_eq, not_true, if_false]
  by_cases h2 : nlen l > 100
  ·rw [decide_eq_true h2, brT, if_pos h2]
  ·rw [decide_eq_false h2, brF, if_neg h2]
 ·rw [if_pos h, show (chk l == 0) = false from beq_eq_false_iff_ne.2 h, brF, bneT h, brT]
  by_cases h2 : chk l = 10
  ·rw [h2, BEq.rfl, brT]
  ·rw [show (chk l == 10) = false from beq_eq_false_iff_ne.2 h2, brF]
theorem less_c (lf : Nat) (l m : List UInt8) (h1 : chk l = 0) (h2 : chk m = 0) (h3 : 200000 ≤ lf) : congruence_less.f lf (bs l) (bs m) = some (decide (iv l < iv m), ()) := by
 rw [congruence_less.f, compare_f lf l m h1 h2 h3, bdS]
 simp only
 rw [congruence_sure_int.f, bdS]
 congr 2
 simp only [decide_eq_decide]; unfold sgn; (repeat' split) <;> omega
theorem ckc_f (lf : Nat) (h3 : 200000 ≤ lf) (em : Bool) (l h : List UInt8) (hl : l.length ≤ 9223372036854775807) (hh : h.length ≤ 9223372036854775807) : congruence_Check.f lf (em, bs l, bs h, ()) = some (ckc em l h, ()) := by
 rw [congruence_Check.f]
 simp only [e0, beq_bs, numC lf l hl, numC lf h hh, bdS]
 unfold ckc
 cases em with
 | true =>
  rw [brT, if_pos rfl]
  by_cases c1 : l = [] <;> by_cases c2 : h = [] <;> simp [c1, c2, brT, brF]
 | false =>
  rw [brF, if_neg (by simp)]
  by_cases c1 : num l = 0
  ·rw [c1, bne_self_eq_false, brF, if_neg (by simp)]
   by_cases c2 : num h = 0
   ·rw [c2, bne_self_eq_false, brF, if_neg (by simp)]
    have k1 := num_chk c1
    have k2 := num_chk c2
    have z : (⟨#[48]⟩ : ByteArray) = bs [48] := rfl
    rw [z, less_c lf l [48] k1 chk48 h3, bdS, less_c lf h [48] k2 chk48 h3, less_c lf h l k2 k1 h3, iv48]
    simp only [bdS]
    have e : l = [48] ↔ iv l = 0 := (iv_zero (chk_zero.1 k1).1).symm
    by_cases a : iv l < 0
    ·rw [decide_eq_true a, brT, if_pos (.inl a)]
    ·rw [decide_eq_false a, brF]
     by_cases b : iv l = 0
     ·rw [decide_eq_true (e.2 b), Bool.not_true, brF, if_neg (by omega)]
     ·rw [decide_eq_false (fun x => b (e.1 x)), Bool.not_false, brT]
      by_cases c : iv h < 0
      ·rw [decide_eq_true c, brT, if_pos (.inr ⟨b, .inl c⟩)]
      ·rw [decide_eq_false c, brF]
       by_cases d : iv h < iv l
       ·rw [decide_eq_true d, Bool.not_true, brF, if_neg (by omega)]
       ·rw [decide_eq_false d, Bool.not_false, brT, if_pos (.inr ⟨b, .inr d⟩)]
   ·rw [bneT c2, brT, if_pos c2]
  ·rw [bneT c1, brT, if_pos c1]
structure Cg where
 em : Bool
 m : Int
 r : Int
deriving DecidableEq
def cc (c : Cg) : IV := if c.em = true then (true, bs [], bs [], ()) else (false, bs (Lib.itoa c.m), bs (Lib.itoa c.r), ())
structure WfC (c : Cg) : Prop where
 m : -C < c.m ∧ c.m < C
 r : -C < c.r ∧ c.r < C
 pos : 0 ≤ c.m
 rng : c.m ≠ 0 → 0 ≤ c.r ∧ c.r < c.m
def Ec : Cg := ⟨true, 0, 0⟩
def topC : Cg := ⟨false, 1, 0⟩
def clsF (m r : Int) : Cg :=
 if sz (m.natAbs : Int) > 100 ∨ sz (if m = 0 then r else r.fmod (m.natAbs : Int)) > 100 then topC else ⟨false, (m.natAbs : Int), if m = 0 then r else r.fmod (m.natAbs : Int)⟩
theorem longI (lf : Nat) {z : Int} (hz : -K < z ∧ z < K) : congruence_long.f lf (bs (Lib.itoa z)) = some (decide (sz z > 100), ()) := by
 have := okb_len hz
 rw [long_f lf _ (by omega)]; rfl
theorem abs_f (lf : Nat) {z : Int} (hz : -K < z ∧ z < K) : bigint_Abs.f lf (bs (Lib.itoa z)) = some (bs (Lib.itoa (z.natAbs : Int)), 0, ()) := by
 have := okb_len hz
 rw [bigint_Abs.f, check_f lf _ (by omega), bdS]
 simp only [chkK hz, bne_self_eq_false, brF]
 rw [trimPrefix_f, bdS, body_itoa]
 have e' : Lib.itoa (z.natAbs : Int) = D z.natAbs := by unfold Lib.itoa; rw [if_neg (by omega)]; rfl
 rw [e']
theorem top_c : ((false, (⟨#[49]⟩ : ByteArray), (⟨#[48]⟩ : ByteArray), ()) : IV) = cc topC := by
 unfold cc topC; rw [if_neg (by simp)]; simp only; rw [i1, i0]
theorem rest_K {x m : Int} (hx : -K < x ∧ x < K) (hm : -K < m ∧ m < K) (h0 : m ≠ 0) : -K < x.fmod m ∧ x.fmod m < K := by
 have := fmod_abs (x := x) h0
 omega
theorem class_f (lf : Nat) (hlf : 2000000000 ≤ lf) {m r : Int} (hm : -K < m ∧ m < K) (hr : -K < r ∧ r < K) : congruence_class.f lf (bs (Lib.itoa m)) (bs (Lib.itoa r)) = some (cc (clsF m r), ()) := by
 have ha : -K < (m.natAbs : Int) ∧ (m.natAbs : Int) < K := by omega
 rw [congruence_class.f, abs_f lf hm, bdS]
 simp only [api_Int.f, bdS, beq0, longI lf ha, congruence_Top.f, top_c]
 unfold clsF
 by_cases h : m = 0
 ·subst h
  simp only [longI lf hr, bdS]
  rw [decide_eq_true (by trivial), Bool.not_true, brF]
  by_cases c1 : sz ((0 : Int).natAbs : Int) > 100
  ·rw [decide_eq_true c1, brT, if_pos (.inl c1)]
  ·rw [decide_eq_false c1, brF]
   by_cases c2 : sz r > 100
   ·rw [decide_eq_true c2, brT, if_pos (.inr (by rw [if_pos trivial]; exact c2))]
   ·rw [decide_eq_false c2, brF, if_neg (by rw [if_pos trivial]; exact fun x => x.elim c1 c2), if_pos trivial]
    unfold cc; rw [if_neg (by simp)]
 ·have h' : (m.natAbs : Int) ≠ 0 := by omega
  have rk := rest_K hr ha h'
  simp only [rem_small lf hlf hr ha h', bdS, longI lf rk]
  rw [decide_eq_false h', Bool.not_false, brT]
  by_cases c1 : sz (m.natAbs : Int) > 100
  ·rw [decide_eq_true c1, brT, if_pos (.inl c1)]
  ·rw [decide_eq_false c1, brF]
   by_cases c2 : sz (r.fmod (m.natAbs : Int)) > 100
   ·rw [decide_eq_true c2, brT, if_pos (.inr (by rw [if_neg h]; exact c2))]
   ·rw [decide_eq_false c2, brF, if_neg (by rw [if_neg h]; exact fun x => x.elim c1 c2), if_neg h]
    unfold cc; rw [if_neg (by simp)]
end Go.N
namespace Go.N
open Go Go.Q Go.Rx
theorem gcd_lt {k x y : Int} (hx : -k < x ∧ x < k) (hy : -k < y ∧ y < k) : -k < (Int.gcd x y : Int) ∧ (Int.gcd x y : Int) < k := by
 by_cases h : x = 0
 ·subst h; rw [Int.gcd_zero_left]; omega
 ·have := Nat.gcd_le_left y.natAbs (show 0 < x.natAbs by omega)
  have e : Int.gcd x y = Nat.gcd x.natAbs y.natAbs := rfl
  omega
section
variable (lf : Nat) (hb : Big lf)
include hb
theorem cgcd_f {x y : Int} (hx : -K < x ∧ x < K) (hy : -K < y ∧ y < K) : congruence_gcd.f lf (bs (Lib.itoa x)) (bs (Lib.itoa y)) = some (bs (Lib.itoa (Int.gcd x y)), ()) := by
 rw [congruence_gcd.f, gcd_f lf hb hx hy, bdS, api_Int.f, bdS]
theorem csub_f {x y : Int} (hx : -K < x ∧ x < K) (hy : -K < y ∧ y < K) (h : -K < x - y ∧ x - y < K) : congruence_sub.f lf (bs (Lib.itoa x)) (bs (Lib.itoa y)) = some (bs (Lib.itoa (x - y)), ()) := by
 have := (sz_K (x - y)).2 h
 rw [congruence_sub.f, sub_f lf _ _ (chkK hx) (chkK hy) (by have := hb.1; omega), iv_itoa, iv_itoa, dlen_sz, if_neg (by omega), bdS, api_Int.f, bdS]
theorem cadd_f {x y : Int} (hx : -K < x ∧ x < K) (hy : -K < y ∧ y < K) (h : -K < x + y ∧ x + y < K) : congruence_add.f lf (bs (Lib.itoa x)) (bs (Lib.itoa y)) = some (bs (Lib.itoa (x + y)), ()) := by
 rw [congruence_add.f, add_small lf (by have := hb.1; omega) hx hy h, bdS, api_Int.f, bdS]
theorem cmul_f {x y : Int} (hx : -K < x ∧ x < K) (hy : -K < y ∧ y < K) (h : -K < x * y ∧ x * y < K) : congruence_mul.f lf (bs (Lib.itoa x)) (bs (Lib.itoa y)) = some (bs (Lib.itoa (x * y)), ()) := by
 rw [congruence_mul.f, mul_small lf (by have := hb.1; omega) hx hy h, bdS, api_Int.f, bdS]
end
def joinC (c d : Cg) : Cg := if c.em = true then d else if d.em = true then c else clsF (Int.gcd (Int.gcd c.m d.m) (c.r - d.r)) c.r
def plusC (c d : Cg) : Cg := if c.em = true then Ec else if d.em = true then Ec else clsF (Int.gcd c.m d.m) (c.r + d.r)
def minusC (c d : Cg) : Cg := if c.em = true then Ec else if d.em = true then Ec else clsF (Int.gcd c.m d.m) (c.r - d.r)
def timesC (c d : Cg) : Cg := if c.em = true then Ec else if d.em = true then Ec else clsF (Int.gcd (c.m * d.m) (Int.gcd (c.m * d.r) (d.m * c.r))) (c.r * d.r)
theorem cc_ne {c : Cg} (h : c.em = false) : cc c = (false, bs (Lib.itoa c.m), bs (Lib.itoa c.r), ()) := by unfold cc; rw [if_neg (by simp [h])]
theorem cc_em {c : Cg} (h : c.em = true) : cc c = (true, bs [], bs [], ()) := by unfold cc; rw [if_pos h]
theorem wf_ckc {c : Cg} (h : WfC c) : ∃ (l m : List UInt8), cc c = (c.em, bs l, bs m, ()) ∧ ckc c.em l m = 0 ∧ l.length ≤ 101 ∧ m.length ≤ 101 := by
 have hK := C_lt_K
 cases e : c.em with
 | true => exact ⟨[], [], cc_em e, by simp [ckc], by simp, by simp⟩
 | false =>
  have n1 := (num_itoa c.m).2 h.m
  have n2 := (num_itoa c.r).2 h.r
  refine ⟨Lib.itoa c.m, Lib.itoa c.r, cc_ne e, ?_, num_len n1, num_len n2⟩
  unfold ckc
  rw [if_neg (by simp), n1, n2, iv_itoa, iv_itoa, if_neg (by simp), if_neg (by simp), if_neg]
  have a := h.pos
  have b := h.rng
  intro x
  rcases x with x | ⟨x, y⟩
  ·omega
  ·have := b x; omega
section
variable (lf : Nat) (hb : Big lf) {c d : Cg} (hc : WfC c) (hd : WfC d)
include hb hc
theorem ccheck : congruence_Check.f lf (cc c) = some (0, ()) := by
 obtain ⟨l, m, e, h, a, b⟩ := wf_ckc hc
 rw [e, ckc_f lf (by have := hb.1; omega) _ _ _ (by omega) (by omega), h]
include hd
theorem cboth : congruence_both.f lf (cc c) (cc d) = some (0, ()) := by
 rw [congruence_both.f, ccheck lf hb hc, bdS]
 simp only [bne_self_eq_false, brF]
 rw [ccheck lf hb hd, bdS]
theorem bounds : (-K < c.m ∧ c.m < K) ∧ (-K < c.r ∧ c.r < K) ∧ (-K < d.m ∧ d.m < K) ∧ (-K < d.r ∧ d.r < K) ∧ (-K < c.r - d.r ∧ c.r - d.r < K) ∧ (-K < c.r + d.r ∧ c.r + d.r < K) ∧ (-K < c.m * d.m ∧ c.m * d.m < K) ∧ (-K < c.m * d.r ∧ c.m * d.r < K) ∧ (-K < d.m * c.r ∧ d.m * c.r < K) ∧ (-K < c.r * d.r ∧ c.r * d.r < K) := by
 have hK := CC_K
 have hC := C_gt
 have hCK := C_lt_K
 have h4 : 0 ≤ C * C := Int.mul_nonneg (by omega) (by omega)
 have a1 := hc.m
 have a2 := hc.r
 have a3 := hd.m
 have a4 := hd.r
 have m1 := mul_C a1 a3
 have m2 := mul_C a1 a4
 have m3 := mul_C a3 a2
 have m4 := mul_C a2 a4
 refine ⟨by omega, by omega, by omega, by omega, by omega, by omega, by omega, by omega, by omega, by omega⟩
theorem join_c : congruence_Join.f lf (cc c) (cc d) = some (cc (joinC c d), 0, ()) := by
 obtain ⟨b1, b2, b3, b4, b5, b6, b7, b8, b9, b10⟩ := bounds lf hb hc hd
 rw [congruence_Join.f, cboth lf hb hc hd, bdS]
 unfold joinC
 cases ec : c.em with
 | true => rw [cc_em ec]; simp only [bne_self_eq_false, brF, brT, if_true]
 | false => cases ed : d.em with
  | true => rw [cc_ne ec, cc_em ed]; simp only [bne_self_eq_false, brF, brT, if_true, if_false, Bool.false_eq_true]; rw [cc_ne ec]
  | false =>
   rw [cc_ne ec, cc_ne ed]
   have g1 := gcd_lt b1 b3
   simp only [bne_self_eq_false, brF, if_false, Bool.false_eq_true, cgcd_f lf hb b1 b3, csub_f lf hb b2 b4 b5, bdS, cgcd_f lf hb g1 b5, class_f lf hb.1 (gcd_lt g1 b5) b2]
theorem add_c : congruence_Add.f lf (cc c) (cc d) = some (cc (plusC c d), 0, ()) := by
 obtain ⟨b1, b2, b3, b4, b5, b6, b7, b8, b9, b10⟩ := bounds lf hb hc hd
 rw [congruence_Add.f, cboth lf hb hc hd, bdS]
 unfold plusC
 cases ec : c.em with
 | true => rw [cc_em ec]; simp only [bne_self_eq_false, brF, brT, if_true, congruence_none.f, bdS]; rfl
 | false => cases ed : d.em with
  | true => rw [cc_ne ec, cc_em ed]; simp only [bne_self_eq_false, brF, brT, if_true, if_false, Bool.false_eq_true, congruence_none.f, bdS]; rfl
  | false =>
   rw [cc_ne ec, cc_ne ed]
   simp only [bne_self_eq_false, brF, if_false, Bool.false_eq_true, congruence_Add_1.f, cgcd_f lf hb b1 b3, cadd_f lf hb b2 b4 b6, bdS, class_f lf hb.1 (gcd_lt b1 b3) b6]
theorem sub_c : congruence_Sub.f lf (cc c) (cc d) = some (cc (minusC c d), 0, ()) := by
 obtain ⟨b1, b2, b3, b4, b5, b6, b7, b8, b9, b10⟩ := bounds lf hb hc hd
 rw [congruence_Sub.f, cboth lf hb hc hd, bdS]
 unfold minusC
 cases ec : c.em with
 | true => rw [cc_em ec]; simp only [bne_self_eq_false, brF, brT, if_true, congruence_none.f, bdS]; rfl
 | false => cases ed : d.em with
  | true => rw [cc_ne ec, cc_em ed]; simp only [bne_self_eq_false, brF, brT, if_true, if_false, Bool.false_eq_true, congruence_none.f, bdS]; rfl
  | false =>
   rw [cc_ne ec, cc_ne ed]
   simp only [bne_self_eq_false, brF, if_false, Bool.false_eq_true, congruence_Sub_1.f, cgcd_f lf hb b1 b3, csub_f lf hb b2 b4 b5, bdS, class_f lf hb.1 (gcd_lt b1 b3) b5]
theorem mul_c : congruence_Mul.f lf (cc c) (cc d) = some (cc (timesC c d), 0, ()) := by
 obtain ⟨b1, b2, b3, b4, b5, b6, b7, b8, b9, b10⟩ := bounds lf hb hc hd
 rw [congruence_Mul.f, cboth lf hb hc hd, bdS]
 unfold timesC
 cases ec : c.em with
 | true => rw [cc_em ec]; simp only [bne_self_eq_false, brF, brT, if_true, congruence_none.f, bdS]; rfl
 | false => cases ed : d.em with
  | true => rw [cc_ne ec, cc_em ed]; simp only [bne_self_eq_false, brF, brT, if_true, if_false, Bool.false_eq_true, congruence_none.f, bdS]; rfl
  | false =>
   rw [cc_ne ec, cc_ne ed]
   have g1 := gcd_lt b8 b9
   simp only [bne_self_eq_false, brF, if_false, Bool.false_eq_true, congruence_Mul_1.f, cmul_f lf hb b1 b3 b7, cmul_f lf hb b1 b4 b8, cmul_f lf hb b3 b2 b9, cmul_f lf hb b2 b4 b10, bdS, cgcd_f lf hb b8 b9, cgcd_f lf hb b7 g1, class_f lf hb.1 (gcd_lt b7 g1) b10]
end
end Go.N
namespace Go.N
open Go Go.Q
theorem playV (lf : Nat) : surveyortop_playValues.f lf = some (true, ()) := by kernel_rfl
end Go.N
namespace Go.Q
open Go Go.RowKit Go.ChangeShapes Go.WideShapes
def flat : Ty → Bool
 | .sl _ => false
 | .pair a b => flat a && flat b
 | _ => true
def partsOf (P : Program) (t : TypeId) : List (TypeId × Nat) := match P.underlying t with
 | some (.struct fs) => fs.toList.map fun f => (f.type, f.offset)
 | some (.array n e) => (List.range n).map fun i => (e, i * P.cellsOf e)
 | _ => []
mutual
def fitT (P : Program) : Ty → TypeId → Bool
 | .int k, t => match P.underlying t with
  | some (.int k') => decide (k' = k)
  | _ => false
 | .bool, t => match P.underlying t with
  | some .bool => true
  | _ => false
 | .str, t => match P.underlying t with
  | some .string => true
  | _ => false
 | .unit, _ => false
 | .nul, _ => false
 | .pair a b, t => match partsOf P t with
  | p :: r => p.2 == 0 && (fitT P a p.1 && (P.cellsOf p.1 == a.n && (fitL P b r a.n && P.cellsOf t == a.n + b.n)))
  | [] => false
 | .sl e, t => match P.underlying t with
  | some (.slice e') => fitT P e e' && (flat e && P.cellsOf e' == e.n)
  | _ => false
def fitL (P : Program) : Ty → List (TypeId × Nat) → Nat → Bool
 | .unit, l, _ => match l with
  | [] => true
  | _ => false
 | .pair a b, l, k => match l with
  | p :: r => p.2 == k && (fitT P a p.1 && (P.cellsOf p.1 == a.n && fitL P b r (k + a.n)))
  | [] => false
 | _, _, _ => false
end
def Bnd : (T : Ty) → T.α → Prop
 | .int k, x => k.min ≤ x ∧ x ≤ k.max
 | .str, x => x.size ≤ 9223372036854775807
 | .pair a b, x => Bnd a x.1 ∧ Bnd b x.2
 | .sl e, l => l.length ≤ 9223372036854775807 ∧ ∀ y ∈ l, Bnd e y
 | _, _ => True
def Bnds : (ps : List Ty) → Tys ps → Prop
 | [], _ => True
 | t :: ts, x => Bnd t x.1 ∧ Bnds ts x.2
section
variable {H : Type} {enc : TypeId × Value → H} {P : Program} {w : World} {F : Nat → Prop} {sp : Nat → Bool} {held : Bool}
theorem trod_parts {t : TypeId} {fuel : Nat} {cs : List Value} {x : DataW H × List MemPlace} (hp : partsOf P t ≠ []) (h : DataW.trod enc P w 0 sp held fuel t cs = some x) :
  cs.length = P.cellsOf t ∧ ∃ n, ∀ p ∈ partsOf P t, ∃ y, DataW.trod enc P w 0 sp held n p.1 ((cs.drop p.2).take (P.cellsOf p.1)) = some y := by
 unfold partsOf at hp ⊢
 split at hp
 ·rename_i fs hu
  obtain ⟨xs, n, _, _, hl, hxl, hf⟩ := DataW.trod_struct hu h
  refine ⟨hl, n, fun p hm => ?_⟩
  simp only [List.mem_map] at hm
  obtain ⟨f, hfm, rfl⟩ := hm
  obtain ⟨i, hi, he⟩ := List.mem_iff_getElem.1 hfm
  have h1 : fs[i]? = some f := by
   have : fs.toList[i]? = some f := by rw [List.getElem?_eq_getElem hi, he]
   simpa using this
  have h2 : i < xs.length := by
   rw [hxl]; simpa using hi
  exact ⟨xs[i], by rw [hf i f h1, List.getElem?_eq_getElem h2]⟩
 ·rename_i n e hu
  obtain ⟨xs, m, _, _, hl, hxl, hf⟩ := DataW.trod_array hu h
  refine ⟨hl, m, fun p hm => ?_⟩
  simp only [List.mem_map, List.mem_range] at hm
  obtain ⟨i, hi, rfl⟩ := hm
  exact ⟨xs[i], by rw [hf i hi, List.getElem?_eq_getElem (by omega)]⟩
 ·exact absurd rfl hp
mutual
theorem dr_flat : ∀ (T : Ty) (t : TypeId) (cs : List Value) (x : DataW H × List MemPlace) (fuel : Nat), flat T = true → fitT P T t = true → DataW.trod enc P w 0 sp held fuel t cs = some x → ∃ y : T.α, DR F w T y cs ∧ Bnd T y
 | .int k, t, cs, x, fuel, _, hf, h => by
  unfold fitT at hf
  split at hf
  ·rename_i k' hu
   obtain rfl : k' = k := by simpa using hf
   obtain ⟨n, rfl, _, hw⟩ := DataW.trod_int hu h
   exact ⟨n, rfl, by simpa [Lit.wf, Bnd] using hw⟩
  ·cases hf
 | .bool, t, cs, x, fuel, _, hf, h => by
  unfold fitT at hf
  split at hf
  ·rename_i hu
   obtain ⟨b, rfl, _⟩ := DataW.trod_bool hu h
   exact ⟨b, rfl, trivial⟩
  ·cases hf
 | .str, t, cs, x, fuel, _, hf, h => by
  unfold fitT at hf
  split at hf
  ·rename_i hu
   obtain ⟨s, rfl, _, hs⟩ := DataW.trod_string hu h
   exact ⟨s, rfl, by simpa [maxLen, Bnd] using hs⟩
  ·cases hf
 | .unit, t, cs, x, fuel, _, hf, h => by simp [fitT] at hf
 | .nul, t, cs, x, fuel, _, hf, h => by simp [fitT] at hf
 | .sl e, t, cs, x, fuel, hfl, _, _ => by simp [flat] at hfl
 | .pair a b, t, cs, x, fuel, hfl, hf, h => by
  unfold fitT at hf
  split at hf
  ·rename_i p r hp
   simp only [Bool.and_eq_true, beq_iff_eq] at hf
   obtain ⟨h0, h1, h2, h3, h4⟩ := hf
   simp only [flat, Bool.and_eq_true] at hfl
   obtain ⟨hl, n, hm⟩ := trod_parts (by rw [hp]; simp) h
   rw [hp] at hm
   obtain ⟨y0, hy0⟩ := hm p (by simp)
   rw [h0, h2] at hy0
   obtain ⟨u, d1, b1⟩ := dr_flat a p.1 _ _ n hfl.1 h1 hy0
   obtain ⟨v, d2, b2⟩ := dr_flatL b r a.n cs n hfl.2 h3 (fun q hq => hm q (by simp [hq])) (by omega)
   refine ⟨(u, v), ⟨_, _, ?_, d1, d2⟩, b1, b2⟩
   have e : (cs.drop a.n).take b.n = cs.drop a.n := List.take_of_length_le (by rw [List.length_drop]; omega)
   rw [e]; simp
  ·cases hf
theorem dr_flatL : ∀ (T : Ty) (l : List (TypeId × Nat)) (k : Nat) (cs : List Value) (n : Nat), flat T = true → fitL P T l k = true → (∀ p ∈ l, ∃ y, DataW.trod enc P w 0 sp held n p.1 ((cs.drop p.2).take (P.cellsOf p.1)) = some y) → k + T.n ≤ cs.length → ∃ y : T.α, DR F w T y ((cs.drop k).take T.n) ∧ Bnd T y
 | .int k', l, k, cs, n, _, hf, _, _ => by simp [fitL] at hf
 | .bool, l, k, cs, n, _, hf, _, _ => by simp [fitL] at hf
 | .str, l, k, cs, n, _, hf, _, _ => by simp [fitL] at hf
 | .nul, l, k, cs, n, _, hf, _, _ => by simp [fitL] at hf
 | .sl _, l, k, cs, n, _, hf, _, _ => by simp [fitL] at hf
 | .unit, l, k, cs, n, _, hf, _, _ => ⟨(), by simp [DR, Ty.n], trivial⟩
 | .pair a b, l, k, cs, n, hfl, hf, hm, hk => by
  unfold fitL at hf
  split at hf
  ·rename_i p r
   simp only [Bool.and_eq_true, beq_iff_eq] at hf
   obtain ⟨h0, h1, h2, h3⟩ := hf
   simp only [flat, Bool.and_eq_true] at hfl
   simp only [Ty.n] at hk
   obtain ⟨y0, hy0⟩ := hm p (by simp)
   rw [h0, h2] at hy0
   obtain ⟨u, d1, b1⟩ := dr_flat a p.1 _ _ n hfl.1 h1 hy0
   obtain ⟨v, d2, b2⟩ := dr_flatL b r (k + a.n) cs n hfl.2 h3 (fun q hq => hm q (by simp [hq])) (by omega)
   refine ⟨(u, v), ⟨_, _, ?_, d1, d2⟩, b1, b2⟩
   simp only [Ty.n]
   rw [List.take_add, List.drop_drop]
  ·cases hf
end
theorem list_of {α : Type} {R : Nat → α → Prop} : ∀ (n : Nat), (∀ i, i < n → ∃ y, R i y) → ∃ l : List α, l.length = n ∧ ∀ (i : Nat) (y : α), l[i]? = some y → R i y
 | 0, _ => ⟨[], rfl, fun i y h => by simp at h⟩
 | n + 1, h => by
  obtain ⟨l, hl, hr⟩ := list_of n fun i hi => h i (by omega)
  obtain ⟨y, hy⟩ := h n (by omega)
  refine ⟨l ++ [y], by simp [hl], fun i z hz => ?_⟩
  by_cases hi : i < l.length
  ·rw [List.getElem?_append_left hi] at hz; exact hr i z hz
  ·rw [List.getElem?_append_right (by omega)] at hz
   have : i = l.length := by
    by_cases e : i - l.length = 0
    ·omega
    ·obtain ⟨q, hq⟩ := Nat.exists_eq_succ_of_ne_zero e
     rw [hq] at hz; simp at hz
   subst this
   simp only [Nat.sub_self, List.getElem?_cons_zero, Option.some.injEq] at hz
   subst hz; rw [hl]; exact hy
def topOK : Ty → Bool
 | .sl e => flat e
 | T => flat T
theorem add_none (b o n : Nat) : (Addr.add ⟨b, o, none⟩ n) = ⟨b, o + n, none⟩ := by
 unfold Addr.add; split
 ·rename_i h; rw [h]; rfl
 ·rfl
theorem isC_shape {i : Nat} {q : TypeId × Nat} (h : w.shape? i = some q) : IsC w i := by
 unfold World.shape? at h
 unfold IsC
 cases hb : w.heap[i]? with
 | none => rw [hb] at h; simp at h
 | some o => cases o <;> rw [hb] at h <;> simp_all
theorem valR_of_trod {T : Ty} {t : TypeId} {v : Value} {d : DataW H} {p : List MemPlace} {base : Nat} (ht : topOK T = true) (hf : fitT P T t = true) (hv : Value.okWide P w .any base t v) (h : DataW.Trod enc P w 0 sp held t v d p) : ∃ y : T.α, ValR (IsC w) w T y v ∧ Bnd T y := by
 obtain ⟨fuel, h⟩ := h
 unfold ValR
 cases T with
 | int k =>
  obtain ⟨y, h1, h2⟩ := dr_flat (F := IsC w) (.int k) t _ _ fuel rfl hf h
  unfold fitT at hf
  split at hf
  ·rename_i k' hu
   obtain ⟨n, rfl⟩ := okWide_int hu hv
   exact ⟨y, by rw [if_neg (by simp [isSt])]; simpa [Value.cells] using h1, h2⟩
  ·cases hf
 | bool =>
  obtain ⟨y, h1, h2⟩ := dr_flat (F := IsC w) .bool t _ _ fuel rfl hf h
  unfold fitT at hf
  split at hf
  ·rename_i hu
   obtain ⟨n, rfl⟩ := okWide_bool hu hv
   exact ⟨y, by rw [if_neg (by simp [isSt])]; simpa [Value.cells] using h1, h2⟩
  ·cases hf
 | str =>
  obtain ⟨y, h1, h2⟩ := dr_flat (F := IsC w) .str t _ _ fuel rfl hf h
  unfold fitT at hf
  split at hf
  ·rename_i hu
   obtain ⟨n, rfl⟩ := okWide_string hu hv
   exact ⟨y, by rw [if_neg (by simp [isSt])]; simpa [Value.cells] using h1, h2⟩
  ·cases hf
 | unit => simp [fitT] at hf
 | nul => simp [fitT] at hf
 | pair a b =>
  obtain ⟨y, h1, h2⟩ := dr_flat (F := IsC w) (.pair a b) t _ _ fuel ht hf h
  obtain ⟨cs, rfl⟩ : ∃ cs, v = .agg cs := by
   unfold fitT at hf
   split at hf
   ·rename_i q r hp
    unfold partsOf at hp
    unfold Value.okWide at hv
    split at hp
    ·rename_i fs hu
     rw [hu] at hv
     obtain ⟨cs, e, _⟩ := hv
     exact ⟨cs, e⟩
    ·rename_i n e hu
     rw [hu] at hv
     obtain ⟨cs, e, _⟩ := hv
     exact ⟨cs, e⟩
    ·cases hp
   ·cases hf
  exact ⟨y, by rw [if_pos (show isSt (.pair a b) = true from rfl)]; exact ⟨cs.toList, by simp, h1⟩, h2⟩
 | sl e =>
  unfold fitT at hf
  split at hf
  ·rename_i e' hu
   simp only [Bool.and_eq_true, beq_iff_eq] at hf
   obtain ⟨h1, h2, h3⟩ := hf
   obtain ⟨a, len, cap, rfl⟩ := okWide_slice hu hv
   rcases DataW.trod_slice hu h with ⟨hc, _⟩ | ⟨a', len', cap', elems, rest, n, _, hc, _, _, hle, hcm, hel, hread, _⟩
   ·simp only [Value.cells, List.cons.injEq, Value.slice.injEq, and_true] at hc
    obtain ⟨rfl, rfl, rfl⟩ := hc
    exact ⟨[], by rw [if_neg (by simp [isSt])]; exact ⟨_, rfl, .inl ⟨rfl, rfl⟩⟩, by simp [Bnd]⟩
   ·simp only [Value.cells, List.cons.injEq, Value.slice.injEq, and_true] at hc
    obtain ⟨rfl, rfl, rfl⟩ := hc
    have hhas : w.has P .any base a' e' cap := by
     unfold Value.okWide Cell.okWide Cell.ok at hv
     rw [hu] at hv
     exact hv.2.2
    obtain ⟨_, hspot, row, cells, hsh, _⟩ := hhas
    obtain ⟨b, o, s⟩ := a'
    simp only at hspot; subst hspot
    have hisc : IsC w b := isC_shape hsh
    obtain ⟨l, hl, hr⟩ := list_of (α := e.α) (R := fun i y => (∃ ds : List Value, DR (IsC w) w e y ds ∧ ∀ (j : Nat) (d : Value), ds[j]? = some d → w.cell? ⟨b, o + (i * e.n + j), none⟩ = some d) ∧ Bnd e y) len fun i hi => by
     have hq := hread i hi
     rw [List.getElem?_eq_getElem (by omega), Option.bind_eq_some_iff] at hq
     obtain ⟨cs, c1, c2⟩ := hq
     obtain ⟨y, k1, k2⟩ := dr_flat (F := IsC w) e e' cs _ n h2 h1 c2
     refine ⟨y, ⟨cs, k1, fun j d' hd => ?_⟩, k2⟩
     obtain ⟨_, m1, m2⟩ := World.cells?_some c1
     have hj : j < cs.length := (List.getElem?_eq_some_iff.1 hd).1
     have := m2 j (by omega)
     rw [add_none, add_none, h3] at this
     rw [← Nat.add_assoc, this]; exact hd
    refine ⟨l, ?_, ?_, ?_⟩
    ·rw [if_neg (by simp [isSt])]
     refine ⟨_, rfl, .inr ⟨b, o, cap, by rw [hl], hisc, by omega, fun i x hx => (hr i x hx).1⟩⟩
    ·rw [hl]; simp only [maxLen] at hcm; omega
    ·intro y hy
     obtain ⟨i, hi, he⟩ := List.mem_iff_getElem.1 hy
     exact (hr i y (by rw [List.getElem?_eq_getElem hi, he])).2
  ·cases hf
def fitAll (P : Program) : List Ty → List TypeId → Bool
 | [], [] => true
 | T :: Ts, t :: ts => (topOK T && fitT P T t) && fitAll P Ts ts
 | _, _ => false
theorem argsR_of_trod : ∀ {Ts : List Ty} {ts : List TypeId} {vs : List Value} {ds : List (DataW H)} {p : List MemPlace} {base : Nat}, fitAll P Ts ts = true → (∀ (j : Nat) t v, ts[j]? = some t → vs[j]? = some v → Value.okWide P w .any base t v) →
  DataW.TrodAll enc P w 0 sp held ts vs ds p → ∃ x : Tys Ts, ArgsR (IsC w) w Ts x vs ∧ Bnds Ts x
 | [], [], vs, ds, p, base, _, _, h => by
  cases vs with
  | nil => exact ⟨(), rfl, trivial⟩
  | cons _ _ => cases ds <;> exact absurd h (by simp [DataW.TrodAll])
 | [], _ :: _, vs, ds, p, base, hf, _, h => by simp [fitAll] at hf
 | _ :: _, [], vs, ds, p, base, hf, _, h => by simp [fitAll] at hf
 | T :: Ts, t :: ts, vs, ds, p, base, hf, hv, h => by
  simp only [fitAll, Bool.and_eq_true] at hf
  cases vs with
  | nil => cases ds <;> exact absurd h (by simp [DataW.TrodAll])
  | cons v vs =>
   cases ds with
   | nil => exact absurd h (by simp [DataW.TrodAll])
   | cons d ds =>
    obtain ⟨p1, p2, h1, h2, _⟩ := h
    obtain ⟨y, k1, k2⟩ := valR_of_trod hf.1.1 hf.1.2 (hv 0 t v rfl rfl) h1
    obtain ⟨x, m1, m2⟩ := argsR_of_trod hf.2 (fun j t' v' a b => hv (j + 1) t' v' (by simpa using a) (by simpa using b)) h2
    exact ⟨(y, x), ⟨v, vs, rfl, k1, m1⟩, k2, m2⟩
theorem trodAll_below {W W' : World} (hl : laidOutB P = true) (hb : Below W.heap.size W W') : ∀ {ts : List TypeId} {vs : List Value} {ds : List (DataW H)} {p : List MemPlace}, (ts.all fun t => P.readableRec t && decide (t < P.types.size)) = true →
  DataW.TrodAll enc P W 0 (fun _ => true) true ts vs ds p → DataW.TrodAll enc P W' 0 (fun b => decide (b < W.heap.size)) true ts vs ds p
 | [], vs, ds, p, _, h => by cases vs <;> cases ds <;> simp_all [DataW.TrodAll]
 | t :: ts, vs, ds, p, ha, h => by
  cases vs with
  | nil => cases ds <;> exact absurd h (by simp [DataW.TrodAll])
  | cons v vs =>
   cases ds with
   | nil => exact absurd h (by simp [DataW.TrodAll])
   | cons d ds =>
    simp only [List.all_cons, Bool.and_eq_true, decide_eq_true_eq] at ha
    obtain ⟨p1, p2, h1, h2, rfl⟩ := h
    have hlt : ∀ x ∈ p1, x.block < W.heap.size := by
     obtain ⟨m, hm⟩ := h1
     exact DataW.trod_lt m _ _ _ hm
    exact ⟨p1, p2, Below.trod hl ha.1.1 ha.1.2 h1 hb hlt, trodAll_below hl hb ha.2 h2, rfl⟩
theorem trodAll_len {ts : List TypeId} : ∀ {vs : List Value} {ds : List (DataW H)} {p : List MemPlace}, DataW.TrodAll enc P w 0 sp held ts vs ds p → ds.length = ts.length := by
 induction ts with
 | nil => intro vs ds p h; cases vs <;> cases ds <;> simp_all [DataW.TrodAll]
 | cons t ts ih =>
  intro vs ds p h
  cases vs with
  | nil => cases ds <;> exact absurd h (by simp [DataW.TrodAll])
  | cons v vs =>
   cases ds with
   | nil => exact absurd h (by simp [DataW.TrodAll])
   | cons d ds => obtain ⟨_, _, _, h2, _⟩ := h; simp [ih h2]
end
section
variable {H : Type} {enc : TypeId × Value → H}
theorem law_post (hl : laidOutB Proofs.Tryz.prog = true) {n : FuncId} {fn : Func} {s : ChangeSpec} {Ts : List Ty} {f : Nat → Tys Ts → Option (Bool × Unit)} (hE : ∀ lf, EntryOK Proofs.Tryz.prog TabG n ⟨Ts, [.bool], f lf⟩)
  (hf : fitAll Proofs.Tryz.prog Ts fn.params.toList = true) (hrd : (fn.params.toList.all fun t => Proofs.Tryz.prog.readableRec t && decide (t < Proofs.Tryz.prog.types.size)) = true)
  {rt : TypeId} (hrt : fn.resultTypes = #[rt]) (hub : Proofs.Tryz.prog.underlying rt = some .bool) (hsv : s.vars = [])
  (hs : ∀ ds : List (DataW H), ds.length = fn.params.toList.length → s.fn H ds = { results := [.lit (.bool true)], args := ds })
  (hpure : ∀ x : Tys Ts, Bnds Ts x → ∃ lf, f lf x = some (true, ()))
  {W : World} {base : Nat} {args : Array Value} {ds gs : List (DataW H)} {before : List MemPlace} {apart fresh handsOn : Bool}
  (hval : ∀ (j : Nat) t v, fn.params[j]? = some t → args[j]? = some v → Value.okWide Proofs.Tryz.prog W .any base t v)
  (hW : DataW.Whole enc Proofs.Tryz.prog fn.params.toList s.vars apart W args.toList ds gs before) (hG : TabG W) :
  Calls Proofs.Tryz.prog n args W fun e W' => ∃ v, e = .returned v ∧ s.post enc Proofs.Tryz.prog fn apart fresh handsOn false W args v W' := by
 have hW' := hW
 obtain ⟨p, q, hA, hV, rfl, _, _⟩ := hW
 rw [hsv] at hV
 obtain ⟨rfl, rfl⟩ := trodVars_none hV
 have hv' : ∀ (j : Nat) (t : TypeId) (v : Value), fn.params.toList[j]? = some t → args.toList[j]? = some v → Value.okWide Proofs.Tryz.prog W .any base t v := by
  intro j t v a b
  rw [Array.getElem?_toList] at a b
  exact hval j t v a b
 obtain ⟨x, k1, k2⟩ := argsR_of_trod hf hv' hA
 obtain ⟨lf, hlf⟩ := hpure x k2
 have hlen := trodAll_len hA
 have h := hE lf x (true, ()) hlf (IsC W) W args.toList hG (fun i hi => hi) k1
 rw [Array.toArray_toList] at h
 refine h.mono ?_
 rintro e W' ⟨v, rfl, hb, hr⟩
 obtain ⟨vs, ⟨u, r, rfl, h1, h2⟩, rfl⟩ := hr
 obtain rfl : r = [] := h2
 have hu : u = .bool true := by
  unfold ValR at h1
  rw [if_neg (by simp [isSt])] at h1
  simpa [DR] using h1
 subst hu
 refine ⟨_, rfl, ds, [], p ++ [], [], p, [], hW', ?_, ?_, ?_, hb.frame _, fun h => by cases h⟩
 ·rw [List.append_nil, hs ds hlen, hrt]
  exact trodAll_mk1 (shut_bool hub true)
 ·rw [List.append_nil, hs ds hlen]
  exact trodAll_below hl hb hrd hA
 ·rw [List.append_nil, hs ds hlen, hsv]
  rfl
end
theorem tabG_of_laid {laid : List (String × DataW Unit)} {W : World} (hp : (laid.all fun x => x.2.handleName?.isNone) = true) {g : Nat} {t e : TypeId} {n : Nat} {rest : List (String × DataW Unit)}
  (hg : Proofs.Tryz.prog.globalNamed "internal/strconv.uint64pow10" = some g) (hty : (Proofs.Tryz.prog.globals[g]?).map (·.type) = some t) (ht : Proofs.Tryz.prog.underlying t = some (.array n e)) (he : Proofs.Tryz.prog.underlying e = some (.int .u64))
  (hce : Proofs.Tryz.prog.cellsOf e = 1) (hct : Proofs.Tryz.prog.cellsOf t = n)
  (hh : (laid.filter fun x => x.1 == "internal/strconv.uint64pow10") = ("internal/strconv.uint64pow10", Lib.tabData .u64 Lib.pow10Tab) :: rest)
  (h : laidMetH Proofs.Tryz.prog laid W) : TabG W := by
 rw [MakeChecks.laidMetH_plain _ _ _ hp] at h
 have h' := laidMet.filter (fun x => x.1 == "internal/strconv.uint64pow10") h
 rw [hh] at h'
 exact Lib.tabIs_of_head hg hty ht he hce hct h'
theorem goes_no {P : Program} {c : OpenClaim} (h : P.funcs.any Func.goes = false) (hs : c.start = .entering) : false = c.goesBy P := by
 have key : ∀ (g : Nat) (fn : Func), P.funcs[g]? = some fn → fn.goes = false := by
  intro g fn hg
  have := Array.any_eq_false.1 h
  obtain ⟨hlt, e⟩ := Array.getElem?_eq_some_iff.1 hg
  have := this g hlt
  rw [e] at this
  simpa using this
 have k2 : ∀ g : Nat, (P.funcs[g]?).any Func.goes = false := by
  intro g
  cases hg : P.funcs[g]? with
  | none => rfl
  | some fn => simp [key g fn hg]
 unfold OpenClaim.goesBy Program.goesAt Program.goesFrom
 rw [hs]
 have k3 : ∀ f, P.goes f = false := by
  intro f
  unfold Program.goes
  rw [h, Bool.and_false, Bool.or_false]
  simp only [k2]
  simp
 cases P.funcNamed c.func with
 | none => rfl
 | some f => simp [k3]
end Go.Q
namespace Go.N
open Go.IntKind (i64)
open Go Go.Q Go.Rx
theorem pgcd_l (lf : Nat) : ∀ (n : Nat) (a b : Int), b.natAbs < n → ∃ z : Int, surveyortop_playGcd.l0 lf n a b = some ((z, ()), ()) ∧ z.natAbs = Int.gcd a b := by
 intro n
 induction n with
 | zero => intro a b h; omega
 | succ n ih =>
  intro a b h
  rw [surveyortop_playGcd.l0, surveyortop_playGcd.r0]
  by_cases hb : b = 0
  ·subst hb
   rw [bne_self_eq_false, brF]
   exact ⟨a, rfl, by rw [Int.gcd_zero_right]⟩
  ·rw [show (b != 0) = true by simpa using hb, brT, iRem, if_neg hb, bdS]
   have l : (a.tmod b).natAbs < b.natAbs := by rw [Int.natAbs_tmod]; exact Nat.mod_lt _ (by omega)
   obtain ⟨z, e, g⟩ := ih b (a.tmod b) (by omega)
   refine ⟨z, e, ?_⟩
   rw [g]
   show Nat.gcd b.natAbs (a.tmod b).natAbs = Nat.gcd a.natAbs b.natAbs
   rw [Int.natAbs_tmod, Nat.gcd_comm b.natAbs, ← Nat.gcd_rec, Nat.gcd_comm]
theorem pgcd (lf : Nat) {a b : Int} (h : b.natAbs < lf) (ha : a.natAbs < 1000000) (hb : b.natAbs < 1000000) : surveyortop_playGcd.f lf a b = some ((Int.gcd a b : Int), ()) := by
 obtain ⟨z, e, g⟩ := pgcd_l lf (lf + 40) a b (by omega)
 have z1 : z.natAbs < 1000000 := by
  rw [g]
  by_cases h0 : a = 0
  ·subst h0; rw [Int.gcd_zero_left]; exact hb
  ·exact Nat.lt_of_le_of_lt (Nat.gcd_le_left b.natAbs (show 0 < a.natAbs by omega)) ha
 rw [surveyortop_playGcd.f, e, bdS]
 simp only [w64 (n := 0 - z) (by omega) (by omega), ← g]
 congr 2
 split <;> omega
def sml (x : Int) : Bool := decide (-1000 < x) && decide (x < 1000)
def lsM (o : Int) (l : List Int) (m : Int) : Int := l.foldl (fun m a => (Int.gcd m (a - o) : Int)) m
def lstC (l : List Int) : Cg :=
 let m := lsM (l.headD 0) l 0
 ⟨false, m, if m = 0 then l.headD 0 else ((l.headD 0).tmod m + m).tmod m⟩
theorem lsM_lt (o : Int) : ∀ (l : List Int) (m : Int), (0 ≤ m ∧ m < 2000) → sml o = true → l.all sml = true → 0 ≤ lsM o l m ∧ lsM o l m < 2000
 | [], m, h, _, _ => h
 | a :: l, m, h, ho, ha => by
  rw [List.all_cons, Bool.and_eq_true] at ha
  have h1 := ha.1
  simp only [sml, Bool.and_eq_true, decide_eq_true_eq] at ho h1
  refine lsM_lt o l (Int.gcd m (a - o)) ⟨by omega, ?_⟩ (by simp only [sml, Bool.and_eq_true, decide_eq_true_eq]; exact ho) ha.2
  by_cases h0 : m = 0
  ·rw [h0, Int.gcd_zero_left]; omega
  ·have := Nat.gcd_le_left (a - o).natAbs (show 0 < m.natAbs by omega)
   have e : Int.gcd m (a - o) = Nat.gcd m.natAbs (a - o).natAbs := rfl
   omega
theorem pleast_l (lf : Nat) (h3 : 200000 ≤ lf) (o : Int) (l : List Int) (n : Int) (e : Bool) (p q : ByteArray) (hn : n = (l.length : Nat)) (hl : l.length ≤ 100) (h0 : idxL l 0 = some o) (ho : sml o = true) (ha : l.all sml = true) :
  ∀ (k j i : Nat) (m : Int), i + k = l.length → k < j → (0 ≤ m ∧ m < 2000) → surveyortop_playLeast.l0 lf l l n e p q j m (i : Nat) = some ((lsM o (l.drop i) m, ()), ()) := by
 intro k
 induction k with
 | zero =>
  intro j i m h1 h2 hm
  obtain ⟨j, rfl⟩ := Nat.exists_eq_succ_of_ne_zero (show j ≠ 0 by omega)
  rw [surveyortop_playLeast.l0, surveyortop_playLeast.r0, decide_eq_false (by omega), brF, List.drop_of_length_le (by omega)]
  rfl
 | succ k ih =>
  intro j i m h1 h2 hm
  obtain ⟨j, rfl⟩ := Nat.exists_eq_succ_of_ne_zero (show j ≠ 0 by omega)
  have hi : i < l.length := by omega
  have ww : i64.wrap (((i : Nat) : Int) + 1) = ((i + 1 : Nat) : Int) := by rw [w64 (by omega) (by omega)]; omega
  have hx := List.all_eq_true.1 ha _ (List.getElem_mem hi)
  have hx' := hx
  have ho' := ho
  simp only [sml, Bool.and_eq_true, decide_eq_true_eq] at hx' ho'
  rw [surveyortop_playLeast.l0, surveyortop_playLeast.r0, decide_eq_true (by omega), brT, idxL_nat l i hi, bdS, h0, bdS, w64 (by omega) (by omega), pgcd lf (by omega) (by omega) (by omega), bdS, ww,
   ih j (i + 1) _ (by omega) (by omega) ?_, List.drop_eq_getElem_cons hi]
  ·rfl
  ·have := lsM_lt o [l[i]] m hm ho (by rw [List.all_cons, hx]; rfl)
   exact this
theorem pleast_f (lf : Nat) (h3 : 200000 ≤ lf) (o : Int) (l : List Int) (hl : l.length < 100) (ha : (o :: l).all sml = true) : surveyortop_playLeast.f lf (o :: l) = some (cc (lstC (o :: l)), ()) := by
 have ho : sml o = true := by rw [List.all_cons, Bool.and_eq_true] at ha; exact ha.1
 have e := pleast_l lf h3 o (o :: l) ((o :: l).length : Nat) false (⟨#[]⟩ : ByteArray) (⟨#[]⟩ : ByteArray) rfl (by rw [List.length_cons]; omega) rfl ho ha (o :: l).length (lf + 40) 0 0 (by omega) (by rw [List.length_cons]; omega) (by omega)
 have r := lsM_lt o (o :: l) 0 (by omega) ho ha
 simp only [sml, Bool.and_eq_true, decide_eq_true_eq] at ho
 rw [show ((0 : Nat) : Int) = 0 from rfl] at e
 rw [surveyortop_playLeast.f, e, bdS, List.drop_zero, show idxL (o :: l) 0 = some o from rfl, bdS]
 have hm : lsM ((o :: l).headD 0) (o :: l) 0 = lsM o (o :: l) 0 := rfl
 simp only
 by_cases h0 : lsM o (o :: l) 0 = 0
 ·rw [h0, decide_eq_false (by omega), brF, whole_ref lf h3 (by omega) (by omega), bdS, whole_ref lf h3 (by omega) (by omega), bdS]
  have : lstC (o :: l) = ⟨false, 0, o⟩ := by unfold lstC; simp only [hm, h0, if_true]; rfl
  rw [this, cc_ne rfl]
 ·have t1 : (o.tmod (lsM o (o :: l) 0)).natAbs < 2000 := by rw [Int.natAbs_tmod]; exact Nat.lt_of_lt_of_le (Nat.mod_lt _ (by omega)) (by omega)
  have t2 : ((o.tmod (lsM o (o :: l) 0) + lsM o (o :: l) 0).tmod (lsM o (o :: l) 0)).natAbs < 2000 := by rw [Int.natAbs_tmod]; exact Nat.lt_of_lt_of_le (Nat.mod_lt _ (by omega)) (by omega)
  have : lstC (o :: l) = ⟨false, lsM o (o :: l) 0, (o.tmod (lsM o (o :: l) 0) + lsM o (o :: l) 0).tmod (lsM o (o :: l) 0)⟩ := by unfold lstC; simp only [hm, h0, if_false]; rfl
  rw [decide_eq_true (by omega), brT, iRem, if_neg h0, bdS, w64 (by omega) (by omega), iRem, if_neg h0, bdS, whole_ref lf h3 (by omega) (by omega), bdS, whole_ref lf h3 (by omega) (by omega), bdS, this, cc_ne rfl]
def clS (m r : Int) : Cg := ⟨false, (m.natAbs : Int), if m = 0 then r else r.fmod (m.natAbs : Int)⟩
theorem clsF_S {m r : Int} (hm : m.natAbs < 1000000) (hr : r.natAbs < 1000000) : clsF m r = clS m r := by
 have hC := C_gt
 unfold clsF clS
 rw [if_neg]
 have s1 : sz (m.natAbs : Int) ≤ 100 := (sz_C _).2 (by omega)
 have s2 : sz (if m = 0 then r else r.fmod (m.natAbs : Int)) ≤ 100 := by
  refine (sz_C _).2 ?_
  split
  ·omega
  ·have h1 := Int.fmod_nonneg_of_pos r (b := (m.natAbs : Int)) (by omega)
   have h2 := Int.fmod_lt_of_pos r (b := (m.natAbs : Int)) (by omega)
   omega
 omega
def memL (m r : Int) : List Int := if m = 0 then [r] else [r, r + m, r - m]
def prs (g : Int → Int → Int) (l k : List Int) : List Int := l.flatMap fun i => k.map fun j => g i j
def one1 (m r m' r' : Int) : Bool :=
  let l := memL m r
  let k := memL m' r'
  (decide (clS (Int.gcd m m') (r + r') = lstC (prs (· + ·) l k)) && decide (clS (Int.gcd m m') (r - r') = lstC (prs (· - ·) l k)) &&
   decide (clS (Int.gcd (m * m') (Int.gcd (m * r') (m' * r))) (r * r') = lstC (prs (· * ·) l k)) && decide (clS (Int.gcd (Int.gcd m m') (r - r')) r = lstC (l ++ k)))
def allM (m : Nat) : Bool := (List.range (if m = 0 then 13 else m)).all fun r => (List.range 13).all fun m' => (List.range (if m' = 0 then 13 else m')).all fun r' => one1 m r m' r'
theorem all_of (m m' r r' : Nat) (h1 : m < 13) (h2 : r < (if m = 0 then 13 else m)) (h3 : m' < 13) (h4 : r' < (if m' = 0 then 13 else m')) (h : ∀ m, m < 13 → allM m = true) : one1 m r m' r' = true := by
 have a := h m h1
 unfold allM at a
 have b := List.all_eq_true.1 a r (List.mem_range.2 h2)
 have c := List.all_eq_true.1 b m' (List.mem_range.2 h3)
 exact List.all_eq_true.1 c r' (List.mem_range.2 h4)
def B1 (x : Int) : Prop := -100 < x ∧ x < 100
theorem prs_sml {g : Int → Int → Int} {l k : List Int} (hl : ∀ i ∈ l, -30 < i ∧ i < 30) (hk : ∀ i ∈ k, -30 < i ∧ i < 30) (hg : ∀ i j : Int, (-30 < i ∧ i < 30) → (-30 < j ∧ j < 30) → -1000 < g i j ∧ g i j < 1000) : (prs g l k).all sml = true := by
 rw [List.all_eq_true]
 intro x hx
 unfold prs at hx
 obtain ⟨i, hi, hx⟩ := List.mem_flatMap.1 hx
 obtain ⟨j, hj, rfl⟩ := List.mem_map.1 hx
 have := hg i j (hl i hi) (hk j hj)
 simp only [sml, Bool.and_eq_true, decide_eq_true_eq]
 exact this
theorem mul30 {i j : Int} (h1 : -30 < i ∧ i < 30) (h2 : -30 < j ∧ j < 30) : -1000 < i * j ∧ i * j < 1000 := by
 have h : i.natAbs * j.natAbs ≤ 29 * 29 := Nat.mul_le_mul (by omega) (by omega)
 rw [← Int.natAbs_mul] at h
 omega
theorem memL_sml {m r : Int} (hm : 0 ≤ m ∧ m < 13) (hr : 0 ≤ r ∧ r < 13) : ∀ i ∈ memL m r, -30 < i ∧ i < 30 := by
 intro i hi
 unfold memL at hi
 split at hi
 ·rw [List.mem_singleton] at hi; omega
 ·simp only [List.mem_cons, List.not_mem_nil, or_false] at hi; omega
theorem tail_f (lf : Nat) (hb : Big lf) {m r m' r' : Int} (hm : 0 ≤ m ∧ m < 13) (hr : 0 ≤ r ∧ r < 13) (hm' : 0 ≤ m' ∧ m' < 13) (hr' : 0 ≤ r' ∧ r' < 13)
    (w : m ≠ 0 → r < m) (w' : m' ≠ 0 → r' < m') (ho : one1 m r m' r' = true) :
    (congruence_Add.f lf (cc ⟨false, m, r⟩) (cc ⟨false, m', r'⟩) = some (cc (lstC (prs (· + ·) (memL m r) (memL m' r'))), 0, ()) ∧
     congruence_Sub.f lf (cc ⟨false, m, r⟩) (cc ⟨false, m', r'⟩) = some (cc (lstC (prs (· - ·) (memL m r) (memL m' r'))), 0, ()) ∧
     congruence_Mul.f lf (cc ⟨false, m, r⟩) (cc ⟨false, m', r'⟩) = some (cc (lstC (prs (· * ·) (memL m r) (memL m' r'))), 0, ()) ∧
     congruence_Join.f lf (cc ⟨false, m, r⟩) (cc ⟨false, m', r'⟩) = some (cc (lstC (memL m r ++ memL m' r')), 0, ())) := by
  have hC := C_gt
  have wc : WfC ⟨false, m, r⟩ := ⟨by simp only; omega, by simp only; omega, hm.1, fun x => ⟨hr.1, w x⟩⟩
  have wd : WfC ⟨false, m', r'⟩ := ⟨by simp only; omega, by simp only; omega, hm'.1, fun x => ⟨hr'.1, w' x⟩⟩
  simp only [one1, Bool.and_eq_true, decide_eq_true_eq] at ho
  obtain ⟨⟨⟨o1, o2⟩, o3⟩, o4⟩ := ho
  have q1 := mul30 (i := m) (j := m') (by omega) (by omega)
  have q2 := mul30 (i := m) (j := r') (by omega) (by omega)
  have q3 := mul30 (i := m') (j := r) (by omega) (by omega)
  have q4 := mul30 (i := r) (j := r') (by omega) (by omega)
  have gl : ∀ {a b : Int}, (-1000 < a ∧ a < 1000) → (-1000 < b ∧ b < 1000) → (Int.gcd a b : Int) < 1000 := fun ha hb' => (gcd_lt (k := 1000) ha hb').2
  have g1 := gl (a := m) (b := m') (by omega) (by omega)
  have g2 := gl (a := (Int.gcd m m' : Int)) (b := r - r') (by omega) (by omega)
  have g3 := gl q2 q3
  have g4 := gl (a := m * m') (b := (Int.gcd (m * r') (m' * r) : Int)) q1 (by omega)
  refine ⟨?_, ?_, ?_, ?_⟩
  · rw [add_c lf hb wc wd, ← o1, ← clsF_S (by omega) (by omega)]; rfl
  · rw [sub_c lf hb wc wd, ← o2, ← clsF_S (by omega) (by omega)]; rfl
  · rw [mul_c lf hb wc wd, ← o3, ← clsF_S (by omega) (by omega)]; rfl
  · rw [join_c lf hb wc wd, ← o4, ← clsF_S (by omega) (by omega)]; rfl
theorem wrap64 {x : Int} (h : -1000 < x ∧ x < 1000) : i64.wrap x = x := w64 (by omega) (by omega)
end Go.N
namespace Go.N
theorem all_0 : allM 0 = true := by kernel_rfl
theorem all_1 : allM 1 = true := by kernel_rfl
theorem all_2 : allM 2 = true := by kernel_rfl
theorem all_3 : allM 3 = true := by kernel_rfl
theorem all_4 : allM 4 = true := by kernel_rfl
theorem all_5 : allM 5 = true := by kernel_rfl
theorem all_6 : allM 6 = true := by kernel_rfl
theorem all_7 : allM 7 = true := by kernel_rfl
theorem all_8 : allM 8 = true := by kernel_rfl
theorem all_9 : allM 9 = true := by kernel_rfl
theorem all_10 : allM 10 = true := by kernel_rfl
theorem all_11 : allM 11 = true := by kernel_rfl
theorem all_12 : allM 12 = true := by kernel_rfl
theorem all_t : ∀ m, m < 13 → allM m = true
 | 0, _ => all_0
 | 1, _ => all_1
 | 2, _ => all_2
 | 3, _ => all_3
 | 4, _ => all_4
 | 5, _ => all_5
 | 6, _ => all_6
 | 7, _ => all_7
 | 8, _ => all_8
 | 9, _ => all_9
 | 10, _ => all_10
 | 11, _ => all_11
 | 12, _ => all_12
 | n + 13, h => by omega
end Go.N
namespace Go.N
open Go.IntKind (i64)
open Go Go.Q Go.Rx
theorem prs_congr {g g' : Int → Int → Int} {l k : List Int} (h : ∀ i ∈ l, ∀ j ∈ k, g i j = g' i j) : prs g l k = prs g' l k := by
 unfold prs
 rw [List.flatMap_def, List.flatMap_def]
 congr 1
 exact List.map_congr_left fun i hi => List.map_congr_left fun j hj => h i hi j hj
theorem prs_len {g : Int → Int → Int} (l k : List Int) : (prs g l k).length = l.length * k.length := by
 induction l with
 | nil => simp [prs]
 | cons a l ih =>
  have : prs g (a :: l) k = k.map (fun j => g a j) ++ prs g l k := rfl
  rw [this, List.length_append, List.length_map, ih, List.length_cons, Nat.succ_mul]; omega
theorem pleast (lf : Nat) (h3 : 200000 ≤ lf) {l : List Int} (h0 : l.length ≠ 0) (hl : l.length < 100) (ha : l.all sml = true) : surveyortop_playLeast.f lf l = some (cc (lstC l), ()) := by
 cases l with
 | nil => exact absurd rfl h0
 | cons o l => exact pleast_f lf h3 o l (by rw [List.length_cons] at hl; omega) ha
def gS (i j : Int) : Int := i64.wrap (i + j)
def gD (i j : Int) : Int := i64.wrap (i - j)
def gP (i j : Int) : Int := i64.wrap (i * j)
abbrev outL (l k : List Int) : ((List Int) × (List Int) × (List Int) × Unit) × Unit := ((prs gP l k, prs gD l k, prs gS l k, ()), ())
theorem lp11 (lf : Nat) (a x : Int) (e e' : Bool) (p q p' q' : ByteArray) : surveyortop_TopClassesBest.l0 lf 1 [a] e p q [x] e' p' q' (lf + 40) 0 [] [] [] = some (outL [a] [x]) := by kernel_rfl
theorem lp13 (lf : Nat) (a x y z : Int) (e e' : Bool) (p q p' q' : ByteArray) : surveyortop_TopClassesBest.l0 lf 1 [a] e p q [x, y, z] e' p' q' (lf + 40) 0 [] [] [] = some (outL [a] [x, y, z]) := by kernel_rfl
theorem lp31 (lf : Nat) (a b c x : Int) (e e' : Bool) (p q p' q' : ByteArray) : surveyortop_TopClassesBest.l0 lf 3 [a, b, c] e p q [x] e' p' q' (lf + 40) 0 [] [] [] = some (outL [a, b, c] [x]) := by kernel_rfl
theorem lp33 (lf : Nat) (a b c x y z : Int) (e e' : Bool) (p q p' q' : ByteArray) : surveyortop_TopClassesBest.l0 lf 3 [a, b, c] e p q [x, y, z] e' p' q' (lf + 40) 0 [] [] [] = some (outL [a, b, c] [x, y, z]) := by kernel_rfl
theorem data_f (lf : Nat) (hb : Big lf) {m r m' r' : Int} (hm : 0 ≤ m ∧ m < 13) (hr : 0 ≤ r ∧ r < 13) (hm' : 0 ≤ m' ∧ m' < 13) (hr' : 0 ≤ r' ∧ r' < 13) (w : m ≠ 0 → r < m) (w' : m' ≠ 0 → r' < m') :
  ∃ A B D J : IV, (congruence_Add.f lf (false, bs (Lib.itoa m), bs (Lib.itoa r), ()) (false, bs (Lib.itoa m'), bs (Lib.itoa r'), ()) = some (A, 0, ()) ∧ surveyortop_playLeast.f lf (prs gS (memL m r) (memL m' r')) = some (A, ())) ∧
   (congruence_Sub.f lf (false, bs (Lib.itoa m), bs (Lib.itoa r), ()) (false, bs (Lib.itoa m'), bs (Lib.itoa r'), ()) = some (B, 0, ()) ∧ surveyortop_playLeast.f lf (prs gD (memL m r) (memL m' r')) = some (B, ())) ∧
   (congruence_Mul.f lf (false, bs (Lib.itoa m), bs (Lib.itoa r), ()) (false, bs (Lib.itoa m'), bs (Lib.itoa r'), ()) = some (D, 0, ()) ∧ surveyortop_playLeast.f lf (prs gP (memL m r) (memL m' r')) = some (D, ())) ∧
   (congruence_Join.f lf (false, bs (Lib.itoa m), bs (Lib.itoa r), ()) (false, bs (Lib.itoa m'), bs (Lib.itoa r'), ()) = some (J, 0, ()) ∧ surveyortop_playLeast.f lf (memL m r ++ memL m' r') = some (J, ())) := by
 have h3 : 200000 ≤ lf := by have := hb.1; omega
 obtain ⟨M, rfl⟩ := Int.eq_ofNat_of_zero_le hm.1
 obtain ⟨R, rfl⟩ := Int.eq_ofNat_of_zero_le hr.1
 obtain ⟨M', rfl⟩ := Int.eq_ofNat_of_zero_le hm'.1
 obtain ⟨R', rfl⟩ := Int.eq_ofNat_of_zero_le hr'.1
 have ho := all_of M M' R R' (by omega) (by split <;> omega) (by omega) (by split <;> omega) all_t
 obtain ⟨t1, t2, t3, t4⟩ := tail_f lf hb hm hr hm' hr' w w' ho
 have s1 := memL_sml hm hr
 have s2 := memL_sml hm' hr'
 have l1 : ∀ {m r : Int}, (memL m r).length ≠ 0 ∧ (memL m r).length ≤ 3 := by intro m r; unfold memL; split <;> simp
 have ln : ∀ g : Int → Int → Int, (prs g (memL (M : Int) R) (memL (M' : Int) R')).length ≠ 0 ∧ (prs g (memL (M : Int) R) (memL (M' : Int) R')).length < 100 := by
  intro g
  rw [prs_len]
  have a := l1 (m := (M : Int)) (r := R)
  have b := l1 (m := (M' : Int)) (r := R')
  have := Nat.mul_le_mul a.2 b.2
  exact ⟨Nat.mul_ne_zero a.1 b.1, by omega⟩
 have cS : prs gS (memL (M : Int) R) (memL (M' : Int) R') = prs (· + ·) (memL (M : Int) R) (memL (M' : Int) R') := prs_congr fun i hi j hj => by have := s1 i hi; have := s2 j hj; exact w64 (by omega) (by omega)
 have cD : prs gD (memL (M : Int) R) (memL (M' : Int) R') = prs (· - ·) (memL (M : Int) R) (memL (M' : Int) R') := prs_congr fun i hi j hj => by have := s1 i hi; have := s2 j hj; exact w64 (by omega) (by omega)
 have cP : prs gP (memL (M : Int) R) (memL (M' : Int) R') = prs (· * ·) (memL (M : Int) R) (memL (M' : Int) R') := prs_congr fun i hi j hj => by have := mul30 (s1 i hi) (s2 j hj); exact w64 (by omega) (by omega)
 refine ⟨_, _, _, _, ⟨t1, ?_⟩, ⟨t2, ?_⟩, ⟨t3, ?_⟩, ⟨t4, ?_⟩⟩
 ·rw [cS]; exact pleast lf h3 (ln _).1 (ln _).2 (prs_sml s1 s2 fun i j h1 h2 => by omega)
 ·rw [cD]; exact pleast lf h3 (ln _).1 (ln _).2 (prs_sml s1 s2 fun i j h1 h2 => by omega)
 ·rw [cP]; exact pleast lf h3 (ln _).1 (ln _).2 (prs_sml s1 s2 fun i j h1 h2 => mul30 h1 h2)
 ·have a := l1 (m := (M : Int)) (r := R)
  have b := l1 (m := (M' : Int)) (r := R')
  refine pleast lf h3 (by rw [List.length_append]; omega) (by rw [List.length_append]; omega) ?_
  rw [List.all_eq_true]
  intro x hx
  simp only [sml, Bool.and_eq_true, decide_eq_true_eq]
  rcases List.mem_append.1 hx with h | h
  ·have := s1 x h; omega
  ·have := s2 x h; omega
theorem rem13 {a : Int} (h : 0 ≤ a) : iRem a 13 = some (a % 13) := iRem_nn h (by omega)
theorem apL_s {l k : List Int} (h1 : l.length ≤ 3) (h2 : k.length ≤ 3) : apL true 8 l k = some (l ++ k) := by
 have : 6 ≤ maxLen := by decide
 unfold apL; rw [if_pos ⟨rfl, by omega, by omega⟩]
theorem zero4 : (i64.wrap (i64.wrap (i64.wrap (0 + 0) + 0) + 0) == 0) = true := by decide
end Go.N
namespace Go.Q
open Go.IntKind (i64)
open Go Go.N
open Go.Rx (iRem)
theorem best_f (lf : Nat) (hb : Big lf) (a b c d : Int) (ha : 0 ≤ a) (hbb : 0 ≤ b) (hc : 0 ≤ c) (hd : 0 ≤ d) : surveyortop_TopClassesBest.f lf (a, b, ()) (c, d, ()) = some (true, ()) := by
 have h3 : 200000 ≤ lf := by have := hb.1; omega
 rw [surveyortop_TopClassesBest.f]
 simp only [rem13 ha, rem13 hbb, rem13 hc, rem13 hd, bdS]
 have qa : 0 ≤ a % 13 ∧ a % 13 < 13 := by omega
 have qb : 0 ≤ b % 13 ∧ b % 13 < 13 := by omega
 have qc : 0 ≤ c % 13 ∧ c % 13 < 13 := by omega
 have qd : 0 ≤ d % 13 ∧ d % 13 < 13 := by omega
 generalize a % 13 = m at qa ⊢
 generalize b % 13 = r at qb ⊢
 generalize c % 13 = m' at qc ⊢
 generalize d % 13 = r' at qd ⊢
 have wm : i64.wrap m = m := wrap64 (by omega)
 have wr : i64.wrap r = r := wrap64 (by omega)
 have wm' : i64.wrap m' = m' := wrap64 (by omega)
 have wr' : i64.wrap r' = r' := wrap64 (by omega)
 have z0 : (⟨#[48]⟩ : ByteArray) = bs (Lib.itoa 0) := i0
 have W : ∀ {z : Int}, 0 ≤ z ∧ z < 13 → surveyorref01_Whole.f lf z = some (bs (Lib.itoa z), ()) := fun hz => whole_ref lf h3 (by omega) (by omega)
 have em : ∀ {m r : Int}, m ≠ 0 → memL m r = [r, r + m, r - m] := fun h => if_neg h
 have e0 : ∀ {r : Int}, memL 0 r = [r] := if_pos rfl
 simp only [wm, wr, wm', wr', W qa, W qc, bdS]
 by_cases hm : m = 0
 ·subst hm
  simp only [BEq.rfl, Go.N.brT, W qb, bdS]
  by_cases hm' : m' = 0
  ·subst hm'
   obtain ⟨A, B, D, J, ⟨a1, a2⟩, ⟨b1, b2⟩, ⟨d1, d2⟩, j1, j2⟩ := data_f lf hb qa qb qc qd (fun h => absurd rfl h) (fun h => absurd rfl h)
   rw [e0, e0] at a2 b2 d2 j2
   simp only [Go.N.brT, W qd, bdS, lp11, outL, z0, a1, b1, d1, j1, a2, b2, d2, j2, zero4, BEq.rfl, ba_beq, decide_true, Bool.and_self, Bool.and_true, playV, apL_s (l := [r]) (k := [r']) (by simp) (by simp)]
  ·have n' : (m' == 0) = false := by simpa using hm'
   have p' : 0 ≤ r' % m' ∧ r' % m' < m' := ⟨Int.emod_nonneg _ hm', Int.emod_lt_of_pos _ (by omega)⟩
   have i' : iRem r' m' = some (r' % m') := iRem_nn qd.1 hm'
   simp only [n', Go.N.brF, i', bdS]
   generalize r' % m' = s' at p' ⊢
   have u1 : i64.wrap (s' + m') = s' + m' := wrap64 (by omega)
   have u2 : i64.wrap (s' - m') = s' - m' := wrap64 (by omega)
   obtain ⟨A, B, D, J, ⟨a1, a2⟩, ⟨b1, b2⟩, ⟨d1, d2⟩, j1, j2⟩ := data_f lf hb qa qb qc (r' := s') (by omega) (fun h => absurd rfl h) (fun _ => p'.2)
   rw [e0, em hm'] at a2 b2 d2 j2
   simp only [W (z := s') (by omega), u1, u2, bdS, lp13, outL, z0, a1, b1, d1, j1, a2, b2, d2, j2, zero4, BEq.rfl, ba_beq, decide_true, Bool.and_self, Bool.and_true, playV, Go.N.brT, apL_s (l := [r]) (k := [s', s' + m', s' - m']) (by simp) (by simp)]
 ·have n : (m == 0) = false := by simpa using hm
  have p : 0 ≤ r % m ∧ r % m < m := ⟨Int.emod_nonneg _ hm, Int.emod_lt_of_pos _ (by omega)⟩
  have i : iRem r m = some (r % m) := iRem_nn qb.1 hm
  simp only [n, Go.N.brF, i, bdS]
  generalize r % m = s at p ⊢
  have u1 : i64.wrap (s + m) = s + m := wrap64 (by omega)
  have u2 : i64.wrap (s - m) = s - m := wrap64 (by omega)
  simp only [W (z := s) (by omega), u1, u2, bdS]
  by_cases hm' : m' = 0
  ·subst hm'
   obtain ⟨A, B, D, J, ⟨a1, a2⟩, ⟨b1, b2⟩, ⟨d1, d2⟩, j1, j2⟩ := data_f lf hb qa (r := s) (by omega) qc qd (fun _ => p.2) (fun h => absurd rfl h)
   rw [e0, em hm] at a2 b2 d2 j2
   simp only [Go.N.brT, W qd, bdS, lp31, outL, z0, a1, b1, d1, j1, a2, b2, d2, j2, zero4, BEq.rfl, ba_beq, decide_true, Bool.and_self, Bool.and_true, playV, apL_s (l := [s, s + m, s - m]) (k := [r']) (by simp) (by simp)]
  ·have n' : (m' == 0) = false := by simpa using hm'
   have p' : 0 ≤ r' % m' ∧ r' % m' < m' := ⟨Int.emod_nonneg _ hm', Int.emod_lt_of_pos _ (by omega)⟩
   have i' : iRem r' m' = some (r' % m') := iRem_nn qd.1 hm'
   simp only [n', Go.N.brF, i', bdS]
   generalize r' % m' = s' at p' ⊢
   have u1' : i64.wrap (s' + m') = s' + m' := wrap64 (by omega)
   have u2' : i64.wrap (s' - m') = s' - m' := wrap64 (by omega)
   obtain ⟨A, B, D, J, ⟨a1, a2⟩, ⟨b1, b2⟩, ⟨d1, d2⟩, j1, j2⟩ := data_f lf hb qa (r := s) (by omega) qc (r' := s') (by omega) (fun _ => p.2) (fun _ => p'.2)
   rw [em hm, em hm'] at a2 b2 d2 j2
   simp only [W (z := s') (by omega), u1', u2', bdS, lp33, outL, z0, a1, b1, d1, j1, a2, b2, d2, j2, zero4, BEq.rfl, ba_beq, decide_true, Bool.and_self, Bool.and_true, playV, Go.N.brT, apL_s (l := [s, s + m, s - m]) (k := [s', s' + m', s' - m']) (by simp) (by simp)]
theorem Pure.TopClassesBest (x : Tys (surveyortop_TopClassesBest.E 0).ps) (h : Bnds (surveyortop_TopClassesBest.E 0).ps x) : ∃ lf, surveyortop_TopClassesBest.f lf x.1 x.2.1 = some (true, ()) := by
 obtain ⟨⟨a, b, ⟨⟩⟩, ⟨c, d, ⟨⟩⟩, ⟨⟩⟩ := x
 obtain ⟨lf, hb⟩ : ∃ lf, Big lf := ⟨2000000000 + K.toNat, by omega, by omega⟩
 exact ⟨lf, best_f lf hb a b c d h.1.1.1 h.1.2.1.1 h.2.1.1.1 h.2.1.2.1.1⟩
end Go.Q
