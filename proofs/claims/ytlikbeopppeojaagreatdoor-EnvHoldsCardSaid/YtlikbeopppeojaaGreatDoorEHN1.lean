import Derived.Test.YtlikbeopppeojaaGreatDoorEHE3
import Derived.Test.YtlikbeopppeojaaGreatDoorEHG1
import Derived.Test.YtlikbeopppeojaaGreatDoorEHG2
import Derived.Test.YtlikbeopppeojaaGreatDoorEHG3
import Derived.Test.YtlikbeopppeojaaGreatDoorEHG4
import Derived.Test.YtlikbeopppeojaaGreatDoorEHG5
import Derived.Test.YtlikbeopppeojaaGreatDoorEHG6
set_option linter.unusedVariables false
set_option linter.unusedSimpArgs false
set_option linter.unusedSectionVars false
namespace Go.N
open Go.IntKind (i64)
open Go Go.Q Go.Rx
abbrev G : Int := 1000000000
theorem trim_l0 (lf : Nat) : ∀ (l : List Int) (n : Nat), l.length < n → l.length ≤ 1000000 → bigint_trim.l0 lf n l = some ((tr l, ()), ()) := by
 intro l
 refine tr_ind (p := fun l => ∀ n, l.length < n → l.length ≤ 1000000 → bigint_trim.l0 lf n l = some ((tr l, ()), ())) l ?_ ?_ ?_
 ·intro n h _
  obtain ⟨m, rfl⟩ := Nat.exists_eq_succ_of_ne_zero (show n ≠ 0 by omega)
  rw [bigint_trim.l0, bigint_trim.r0]
  simp [brI, tr_nil]
 ·intro l ih n h hb
  obtain ⟨m, rfl⟩ := Nat.exists_eq_succ_of_ne_zero (show n ≠ 0 by omega)
  rw [List.length_append, List.length_singleton] at h hb
  have e : i64.wrap (((l ++ [0]).length : Nat) - 1 : Int) = (l.length : Nat) := by
   rw [List.length_append, List.length_singleton, w64 (by omega) (by omega)]; omega
  rw [bigint_trim.l0, bigint_trim.r0, decide_eq_true (by rw [List.length_append, List.length_singleton]; omega), brT, e, idxL_nat _ _ (by simp), bdS]
  simp only [List.getElem_concat_length, BEq.rfl, brT]
  rw [cutL_to _ _ l.length rfl (by simp), bdS, List.take_left, ih m (by omega) (by omega), tr_snoc0]
 ·intro l x hx n h hb
  obtain ⟨m, rfl⟩ := Nat.exists_eq_succ_of_ne_zero (show n ≠ 0 by omega)
  rw [List.length_append, List.length_singleton] at h hb
  have e : i64.wrap (((l ++ [x]).length : Nat) - 1 : Int) = (l.length : Nat) := by
   rw [List.length_append, List.length_singleton, w64 (by omega) (by omega)]; omega
  rw [bigint_trim.l0, bigint_trim.r0, decide_eq_true (by rw [List.length_append, List.length_singleton]; omega), brT, e, idxL_nat _ _ (by simp), bdS]
  have : (x == 0) = false := by simpa using hx
  simp only [List.getElem_concat_length, this, brF]
  rw [tr_snoc _ _ hx]
theorem trim_f (lf : Nat) (l : List Int) (h : l.length ≤ lf) (hb : l.length ≤ 1000000) : bigint_trim.f lf l = some (tr l, ()) := by
 rw [bigint_trim.f, trim_l0 lf l (lf + 40) (by omega) hb, bdS]
theorem plus_l0 (lf : Nat) (xs ys : List Int) (N : Nat) (hx : Dg G xs) (hy : Dg G ys) (hN : N ≤ 1000000) : ∀ (k n i : Nat) (c : Int) (out : List Int), i + k = N → out.length = N → 0 ≤ c → c ≤ 1 → k < n →
  bigint_plus.l0 lf xs ys (N : Nat) n c (i : Nat) out = some ((out.take i ++ addL G (xs.drop i) (ys.drop i) c k, ()), ()) := by
 intro k
 induction k with
 | zero =>
  intro n i c out hi ho h0 h1 hn
  obtain ⟨m, rfl⟩ := Nat.exists_eq_succ_of_ne_zero (show n ≠ 0 by omega)
  rw [bigint_plus.l0, bigint_plus.r0, decide_eq_false (by omega), brF, addL, List.append_nil, List.take_of_length_le (by omega)]
 | succ k ih =>
  intro n i c out hi ho h0 h1 hn
  obtain ⟨m, rfl⟩ := Nat.exists_eq_succ_of_ne_zero (show n ≠ 0 by omega)
  have ex : 0 ≤ xs.getD i 0 ∧ xs.getD i 0 < G := hx.getD (by decide) i
  have ey : 0 ≤ ys.getD i 0 ∧ ys.getD i 0 < G := hy.getD (by decide) i
  have fin : ∀ s : Int, s = c + xs.getD i 0 + ys.getD i 0 →
    (bd (iRem s 1000000000) fun r4 => bd (iQuo .i64 s 1000000000) fun r5 => bd (idxB out.length (i : Nat)) fun j6 => bd (upE out j6 fun _ => some r4) fun l7 => bigint_plus.l0 lf xs ys (N : Nat) m r5 (i64.wrap ((i : Nat) + 1)) l7) =
    some ((out.take i ++ addL G (xs.drop i) (ys.drop i) c (k + 1), ()), ()) := by
   intro s hs
   simp only [G] at ex ey
   have hs1 : 0 ≤ s := by omega
   have hs2 : s ≤ 2000000000 := by omega
   rw [iRem_nn hs1 (by decide), bdS, iQuo_nn hs1 (by decide) (by omega), bdS, idxB_nat _ _ (by omega), bdS, upE_set _ _ _ (by omega), bdS]
   rw [w64 (by omega) (by omega), show ((i : Nat) : Int) + 1 = ((i + 1 : Nat) : Int) by omega]
   rw [ih m (i + 1) _ _ (by omega) (by rw [List.length_set]; omega) (Int.ediv_nonneg hs1 (by decide)) (by omega) (by omega)]
   rw [take_set _ _ _ (by omega), addL, headD_drop, headD_drop, tail_drop', tail_drop', ← hs]
   simp
  simp only [G] at ex ey
  rw [bigint_plus.l0, bigint_plus.r0, decide_eq_true (by omega), brT]
  by_cases h1x : i < xs.length
  ·rw [decide_eq_true (by omega), brT, idxL_nat _ _ h1x, bdS]
   rw [getD_lt _ _ h1x] at ex fin
   rw [w64 (by omega) (by omega)]
   by_cases h1y : i < ys.length
   ·rw [decide_eq_true (by omega), brT, idxL_nat _ _ h1y, bdS]
    rw [getD_lt _ _ h1y] at ey fin
    rw [w64 (by omega) (by omega)]
    exact fin _ rfl
   ·rw [decide_eq_false (by omega), brF]
    rw [getD_ge _ _ h1y] at fin
    exact fin _ (by omega)
  ·rw [decide_eq_false (by omega), brF]
   rw [getD_ge _ _ h1x] at fin
   by_cases h1y : i < ys.length
   ·rw [decide_eq_true (by omega), brT, idxL_nat _ _ h1y, bdS]
    rw [getD_lt _ _ h1y] at ey fin
    rw [w64 (by omega) (by omega)]
    exact fin _ (by omega)
   ·rw [decide_eq_false (by omega), brF]
    rw [getD_ge _ _ h1y] at fin
    exact fin _ (by omega)
theorem plus_f (lf : Nat) (xs ys : List Int) (hx : Dg G xs) (hy : Dg G ys) (h1 : xs.length ≤ 100000) (h2 : ys.length ≤ 100000) (h3 : 200000 ≤ lf) :
  ∃ l, bigint_plus.f lf xs ys = some (l, ()) ∧ Dg G l ∧ Tr l ∧ lv G l = lv G xs + lv G ys ∧ l.length ≤ max xs.length ys.length + 1 := by
 have key : ∀ (a b : List Int), Dg G a → Dg G b → a.length ≤ 100000 → b.length ≤ a.length →
   ∃ l, (bd (mkL (i64.wrap (((a.length : Nat) : Int) + 1)) (i64.wrap (((a.length : Nat) : Int) + 1)) 8 0) fun l27 =>
    bd (bigint_plus.l0 lf a b ((l27.length : Nat) : Int) (lf + 40) 0 0 l27) fun z28 => bd (bigint_trim.f lf z28.1.1) fun r29 => some (r29.1, ())) = some (l, ()) ∧ Dg G l ∧ Tr l ∧ lv G l = lv G a + lv G b ∧ l.length ≤ a.length + 1 := by
  intro a b ha hb hl hle
  refine ⟨tr (addL G a b 0 (a.length + 1)), ?_, dg_tr (dg_addL (by decide) _ _ _ _), tr_tr _, ?_, ?_⟩
  ·rw [w64 (by omega) (by omega), mkL_nat _ _ _ (a.length + 1) (by omega) (by omega) (by omega), bdS]
   rw [List.length_replicate]
   have := plus_l0 lf a b (a.length + 1) ha hb (by omega) (a.length + 1) (lf + 40) 0 0 (List.replicate (a.length + 1) 0) (by omega) (by simp) (by omega) (by omega) (by omega)
   simp only [List.drop_zero, List.take_zero, List.nil_append] at this
   rw [show ((0 : Nat) : Int) = 0 from rfl] at this
   rw [this, bdS, trim_f lf _ (by rw [addL_len]; omega) (by rw [addL_len]; omega), bdS]
  ·rw [lv_tr, lv_addL (by decide), Int.zero_add]
   have a1 := lv_lt (B := G) (by decide) ha
   have a2 := lv_lt (B := G) (by decide) hb
   have a3 := pow_mono' (B := G) (by decide) hle
   have a4 := lv_nonneg (B := G) (by decide) ha
   have a5 := lv_nonneg (B := G) (by decide) hb
   apply Int.emod_eq_of_lt (by omega)
   rw [Int.pow_succ]
   have : 0 < G ^ a.length := pow_pos' (by decide) _
   simp only [G] at *
   omega
  ·have := tr_len (addL G a b 0 (a.length + 1))
   rw [addL_len] at this
   exact this
 rw [bigint_plus.f]
 by_cases h : xs.length < ys.length
 ·rw [decide_eq_true (by omega), brT]
  obtain ⟨l, e, k1, k2, k3, k4⟩ := key ys xs hy hx h2 (by omega)
  exact ⟨l, e, k1, k2, by rw [k3, Int.add_comm], by omega⟩
 ·rw [decide_eq_false (by omega), brF]
  obtain ⟨l, e, k1, k2, k3, k4⟩ := key xs ys hx hy h1 (by omega)
  exact ⟨l, e, k1, k2, k3, by omega⟩
theorem minus_l0 (lf : Nat) (xs ys : List Int) (N : Nat) (hx : Dg G xs) (hy : Dg G ys) (hN : N ≤ 1000000) (hxl : xs.length = N) : ∀ (k n i : Nat) (c : Int) (out : List Int), i + k = N → out.length = N → 0 ≤ c → c ≤ 1 → k < n →
  bigint_minus.l0 lf xs ys (N : Nat) n c (i : Nat) out = some ((out.take i ++ subL G (xs.drop i) (ys.drop i) c k, ()), ()) := by
 intro k
 induction k with
 | zero =>
  intro n i c out hi ho h0 h1 hn
  obtain ⟨m, rfl⟩ := Nat.exists_eq_succ_of_ne_zero (show n ≠ 0 by omega)
  rw [bigint_minus.l0, bigint_minus.r0, decide_eq_false (by omega), brF, subL, List.append_nil, List.take_of_length_le (by omega)]
 | succ k ih =>
  intro n i c out hi ho h0 h1 hn
  obtain ⟨m, rfl⟩ := Nat.exists_eq_succ_of_ne_zero (show n ≠ 0 by omega)
  have ex : 0 ≤ xs.getD i 0 ∧ xs.getD i 0 < G := hx.getD (by decide) i
  have ey : 0 ≤ ys.getD i 0 ∧ ys.getD i 0 < G := hy.getD (by decide) i
  simp only [G] at ex ey
  have go : ∀ (d v c' : Int), d = xs.getD i 0 - c - ys.getD i 0 → v = d % G → c' = -(d / G) → 0 ≤ c' → c' ≤ 1 →
    (bd (idxB out.length (i : Nat)) fun j6 => bd (upE out j6 fun _ => some v) fun l7 => bigint_minus.l0 lf xs ys (N : Nat) m c' (i64.wrap ((i : Nat) + 1)) l7) =
    some ((out.take i ++ subL G (xs.drop i) (ys.drop i) c (k + 1), ()), ()) := by
   intro d v c' hd hv hc c1 c2
   rw [idxB_nat _ _ (by omega), bdS, upE_set _ _ _ (by omega), bdS]
   rw [w64 (by omega) (by omega), show ((i : Nat) : Int) + 1 = ((i + 1 : Nat) : Int) by omega]
   rw [ih m (i + 1) _ _ (by omega) (by rw [List.length_set]; omega) c1 c2 (by omega)]
   rw [take_set _ _ _ (by omega), subL, headD_drop, headD_drop, tail_drop', tail_drop', ← hd, hv, hc]
   simp
  have fin : ∀ d : Int, d = xs.getD i 0 - c - ys.getD i 0 →
    (br (decide (d < 0)) (bd (idxB out.length (i : Nat)) fun j4 => bd (upE out j4 fun _ => some (i64.wrap (d + 1000000000))) fun l5 => bigint_minus.l0 lf xs ys (N : Nat) m 1 (i64.wrap ((i : Nat) + 1)) l5)
     (bd (idxB out.length (i : Nat)) fun j7 => bd (upE out j7 fun _ => some d) fun l8 => bigint_minus.l0 lf xs ys (N : Nat) m 0 (i64.wrap ((i : Nat) + 1)) l8)) =
    some ((out.take i ++ subL G (xs.drop i) (ys.drop i) c (k + 1), ()), ()) := by
   intro d hd
   by_cases hneg : d < 0
   ·rw [decide_eq_true hneg, brT, w64 (by omega) (by omega)]
    exact go d _ 1 hd (by simp only [G]; omega) (by simp only [G]; omega) (by omega) (by omega)
   ·rw [decide_eq_false hneg, brF]
    exact go d _ 0 hd (by simp only [G]; omega) (by simp only [G]; omega) (by omega) (by omega)
  have h1x : i < xs.length := by omega
  rw [getD_lt _ _ h1x] at ex fin
  rw [bigint_minus.l0, bigint_minus.r0, decide_eq_true (by omega), brT, idxL_nat _ _ h1x, bdS, w64 (by omega) (by omega)]
  by_cases h1y : i < ys.length
  ·rw [decide_eq_true (by omega), brT, idxL_nat _ _ h1y, bdS]
   rw [getD_lt _ _ h1y] at ey fin
   rw [w64 (by omega) (by omega)]
   exact fin _ rfl
  ·rw [decide_eq_false (by omega), brF]
   rw [getD_ge _ _ h1y] at fin
   exact fin _ (by omega)
theorem minus_f (lf : Nat) (xs ys : List Int) (hx : Dg G xs) (hy : Dg G ys) (h1 : xs.length ≤ 100000) (hle : lv G ys ≤ lv G xs) (h3 : 200000 ≤ lf) :
  ∃ l, bigint_minus.f lf xs ys = some (l, ()) ∧ Dg G l ∧ Tr l ∧ lv G l = lv G xs - lv G ys ∧ l.length ≤ xs.length := by
 refine ⟨tr (subL G xs ys 0 xs.length), ?_, dg_tr (dg_subL (by decide) _ _ _ _), tr_tr _, ?_, ?_⟩
 ·rw [bigint_minus.f, mkL_nat _ _ _ xs.length rfl rfl (by omega), bdS, List.length_replicate]
  have := minus_l0 lf xs ys xs.length hx hy (by omega) rfl xs.length (lf + 40) 0 0 (List.replicate xs.length 0) (by omega) (by simp) (by omega) (by omega) (by omega)
  simp only [List.drop_zero, List.take_zero, List.nil_append] at this
  rw [show ((0 : Nat) : Int) = 0 from rfl] at this
  rw [this, bdS, trim_f lf _ (by rw [subL_len]; omega) (by rw [subL_len]; omega), bdS]
 ·rw [lv_tr, lv_subL (by decide)]
  have a1 := lv_lt (B := G) (by decide) hx
  have a5 := lv_nonneg (B := G) (by decide) hy
  rw [show lv G xs - 0 - lv G ys = lv G xs - lv G ys by omega]
  exact Int.emod_eq_of_lt (by omega) (by omega)
 ·have := tr_len (subL G xs ys 0 xs.length)
  rw [subL_len] at this
  exact this
end Go.N
namespace Go.N
open Go Go.Q Go.Rx
theorem lv_take_succ (B : Int) (l : List Int) (i : Nat) (h : i < l.length) : lv B (l.take (i + 1)) = lv B (l.take i) + B ^ i * l[i] := by
 rw [List.take_succ_eq_append_getElem h, lv_app]
 simp [lv, List.length_take, Nat.min_eq_left (Nat.le_of_lt h)]
def Sg (v d : Int) : Prop := (v < 0 ↔ d < 0) ∧ (v = 0 ↔ d = 0)
theorem top_cmp {B : Int} (hB : 0 < B) {xs ys : List Int} (hx : Dg B xs) (hy : Dg B ys) (i : Nat) (h1 : i < xs.length) (h2 : i < ys.length) (h : xs[i] < ys[i]) : lv B (xs.take (i + 1)) < lv B (ys.take (i + 1)) := by
 rw [lv_take_succ B xs i h1, lv_take_succ B ys i h2]
 have a := lv_lt hB (hx.take i)
 have b := lv_nonneg hB (hy.take i)
 rw [List.length_take, Nat.min_eq_left (Nat.le_of_lt h1)] at a
 have c : B ^ i * (xs[i] + 1) ≤ B ^ i * ys[i] := Int.mul_le_mul_of_nonneg_left (by omega) (Int.le_of_lt (pow_pos' hB i))
 rw [Int.mul_add] at c
 omega
theorem order_l0 (lf : Nat) (xs ys : List Int) (hx : Dg G xs) (hy : Dg G ys) (hl : xs.length = ys.length) (hb : xs.length ≤ 1000000) : ∀ (i n : Nat) (hi : i ≤ xs.length), i < n →
  ∃ b v, bigint_order.l0 lf ys 0 xs n ((i : Nat) - 1 : Int) = some (b, (v, ()), (), ()) ∧ Sg (if b = true then v else 0) (lv G (xs.take i) - lv G (ys.take i)) := by
 intro i
 induction i with
 | zero =>
  intro n hi hn
  obtain ⟨m, rfl⟩ := Nat.exists_eq_succ_of_ne_zero (show n ≠ 0 by omega)
  refine ⟨false, 0, ?_, by simp [Sg, lv]⟩
  rw [bigint_order.l0, bigint_order.r0, decide_eq_false (by omega), brF]
 | succ i ih =>
  intro n hi hn
  obtain ⟨m, rfl⟩ := Nat.exists_eq_succ_of_ne_zero (show n ≠ 0 by omega)
  have e : ((i + 1 : Nat) : Int) - 1 = (i : Nat) := by omega
  have hxi := hx.at i (by omega)
  have hyi := hy.at i (by omega)
  simp only [G] at hxi hyi
  rw [bigint_order.l0, bigint_order.r0, decide_eq_true (by omega), brT, idxL_int xs _ i e (by omega), bdS, idxL_int ys _ i e (by omega), bdS]
  by_cases h : xs[i] = ys[i]'(by omega)
  ·have hne : (xs[i] != ys[i]'(by omega)) = false := by simp [h]
   rw [hne, brF, w64 (by omega) (by omega), e]
   obtain ⟨b, v, h1, h2⟩ := ih m (by omega) (by omega)
   refine ⟨b, v, h1, ?_⟩
   rw [lv_take_succ G xs i (by omega), lv_take_succ G ys i (by omega), h]
   rwa [show lv G (xs.take i) + G ^ i * ys[i] - (lv G (ys.take i) + G ^ i * ys[i]) = lv G (xs.take i) - lv G (ys.take i) by omega]
  ·have hne : (xs[i] != ys[i]'(by omega)) = true := by simp [h]
   rw [hne, brT, bdS, w64 (by omega) (by omega)]
   refine ⟨true, _, rfl, ?_⟩
   rw [if_pos rfl]
   rcases Int.lt_or_lt_of_ne h with hlt | hlt
   ·have := top_cmp (B := G) (by decide) hx hy i (by omega) (by omega) hlt
    exact ⟨by omega, by omega⟩
   ·have := top_cmp (B := G) (by decide) hy hx i (by omega) (by omega) hlt
    exact ⟨by omega, by omega⟩
theorem order_f (lf : Nat) (xs ys : List Int) (hx : Dg G xs) (hy : Dg G ys) (t1 : Tr xs) (t2 : Tr ys) (h1 : xs.length ≤ 100000) (h2 : ys.length ≤ 100000) (h3 : 200000 ≤ lf) :
  ∃ v, bigint_order.f lf xs ys = some (v, ()) ∧ Sg v (lv G xs - lv G ys) := by
 rw [bigint_order.f]
 by_cases h : xs.length = ys.length
 ·have hne : (((xs.length : Nat) : Int) != ((ys.length : Nat) : Int)) = false := by simp [h]
  rw [hne, brF, w64 (by omega) (by omega)]
  obtain ⟨b, v, k1, k2⟩ := order_l0 lf xs ys hx hy h (by omega) xs.length (lf + 40) (Nat.le_refl _) (by omega)
  rw [List.take_of_length_le (Nat.le_refl _), List.take_of_length_le (by omega)] at k2
  rw [k1, bdS]
  cases b with
  | true => exact ⟨v, by simp only [brT], by simpa using k2⟩
  | false => exact ⟨0, by simp only [brF], by simpa using k2⟩
 ·have hne : (((xs.length : Nat) : Int) != ((ys.length : Nat) : Int)) = true := by
   simp only [bne_iff_ne, ne_eq]; omega
  rw [hne, brT, w64 (by omega) (by omega)]
  refine ⟨_, rfl, ?_⟩
  rcases Nat.lt_or_gt_of_ne h with hlt | hlt
  ·have := lv_len_lt (B := G) (by decide) hx hy t2 hlt
   exact ⟨by omega, by omega⟩
  ·have := lv_len_lt (B := G) (by decide) hy hx t1 hlt
   exact ⟨by omega, by omega⟩
structure RN (p : Bool × (List Int × Unit)) (z : Int) (k : Nat) : Prop where
 dg : Dg G p.2.1
 tr : Tr p.2.1
 len : p.2.1.length ≤ k
 val : z = if p.1 = true then -lv G p.2.1 else lv G p.2.1
theorem RN.mono {p : Bool × (List Int × Unit)} {z : Int} {k k' : Nat} (h : RN p z k) (hk : k ≤ k') : RN p z k' := ⟨h.dg, h.tr, Nat.le_trans h.len hk, h.val⟩
theorem negated_f (lf : Nat) {p : Bool × (List Int × Unit)} {z : Int} {k : Nat} (h : RN p z k) : ∃ q, bigint_negated.f lf p = some (q, ()) ∧ RN q (-z) k := by
 refine ⟨_, rfl, h.dg, h.tr, h.len, ?_⟩
 rw [h.val]
 cases p.1 <;> simp
theorem sum_f (lf : Nat) {p q : Bool × (List Int × Unit)} {x y : Int} {k : Nat} (h1 : RN p x k) (h2 : RN q y k) (hk : k ≤ 100000) (h3 : 200000 ≤ lf) : ∃ s, bigint_sum.f lf p q = some (s, ()) ∧ RN s (x + y) (k + 1) := by
 obtain ⟨pn, pl, ⟨⟩⟩ := p
 obtain ⟨qn, ql, ⟨⟩⟩ := q
 obtain ⟨d1, t1, l1, v1⟩ := h1
 obtain ⟨d2, t2, l2, v2⟩ := h2
 simp only at d1 t1 l1 v1 d2 t2 l2 v2
 rw [bigint_sum.f]
 by_cases h : pn = qn
 ·have hne : (pn != qn) = false := by simp [h]
  simp only [hne, brF]
  rw [bigint_operations_1.f, bdS]
  obtain ⟨l, e, k1, k2, k3, k4⟩ := plus_f lf pl ql d1 d2 (by omega) (by omega) h3
  rw [e, bdS]
  refine ⟨_, rfl, k1, k2, by simp only; omega, ?_⟩
  simp only
  rw [k3, v1, v2, h]
  cases qn <;> simp <;> omega
 ·have hne : (pn != qn) = true := by simp [h]
  simp only [hne, brT]
  rw [bigint_operations_3.f, bigint_operations_2.f]
  obtain ⟨v, e, s1, s2⟩ := order_f lf pl ql d1 d2 t1 t2 (by omega) (by omega) h3
  simp only [e, bdS]
  by_cases hv : v < 0
  ·have hl := s1.1 hv
   obtain ⟨l, e2, k1, k2, k3, k4⟩ := minus_f lf ql pl d2 d1 (by omega) (by omega) h3
   rw [decide_eq_true hv, brT, e2, bdS, bdS]
   refine ⟨_, rfl, k1, k2, by simp only; omega, ?_⟩
   simp only
   rw [k3, v1, v2]
   cases pn <;> cases qn <;> simp_all <;> omega
  ·have hl : ¬ (lv G pl - lv G ql < 0) := fun h => hv (s1.2 h)
   obtain ⟨l, e2, k1, k2, k3, k4⟩ := minus_f lf pl ql d1 d2 (by omega) (by omega) h3
   rw [decide_eq_false hv, brF, e2, bdS, bdS]
   refine ⟨_, rfl, k1, k2, by simp only; omega, ?_⟩
   simp only
   rw [k3, v1, v2]
   cases pn <;> cases qn <;> simp_all <;> omega
def sgn (z : Int) : Int := if z < 0 then -1 else if z = 0 then 0 else 1
theorem sign_f (lf : Nat) {p : Bool × (List Int × Unit)} {z : Int} {k : Nat} (h : RN p z k) : bigint_sign.f lf p = some (sgn z, ()) := by
 obtain ⟨pn, pl, ⟨⟩⟩ := p
 obtain ⟨d1, t1, l1, v1⟩ := h
 simp only at d1 t1 l1 v1
 rw [bigint_sign.f]
 by_cases hn : pl = []
 ·subst hn
  have : z = 0 := by rw [v1]; cases pn <;> simp [lv]
  subst this
  simp [brT, sgn]
 ·have hp := lv_pos (B := G) (by decide) d1 t1 hn
  have : (((pl.length : Nat) : Int) == 0) = false := by
   have : pl.length ≠ 0 := fun e => hn (List.length_eq_zero_iff.1 e)
   simp only [beq_eq_false_iff_ne, ne_eq]; omega
  simp only [this, brF]
  cases pn with
  | true =>
   rw [brT, v1, sgn, if_pos (by simp; omega)]
  | false =>
   rw [brF, v1, sgn, if_neg (by simp; omega), if_neg (by simp; omega)]
end Go.N
namespace Go.N
open Go Go.Q Go.Rx
theorem hasPrefix_f (lf : Nat) (l : List UInt8) : stringslite_HasPrefix.f lf (bs l) (⟨#[45]⟩ : ByteArray) = some (neg l, ()) := by
 rw [stringslite_HasPrefix.f]
 have e1 : ((⟨#[45]⟩ : ByteArray).size : Int) = 1 := rfl
 rw [e1, bs_size]
 cases l with
 | nil => rw [decide_eq_false (by simp), brF]; rfl
 | cons b r =>
  rw [decide_eq_true (by simp; omega), brT, sCut_to (b :: r) 1 1 rfl (by simp), bdS]
  simp only [List.take_succ_cons, List.take_zero]
  rw [show (⟨#[45]⟩ : ByteArray) = bs [45] from rfl, beq_bs]
  simp [neg]
theorem cutPrefix_f (lf : Nat) (l : List UInt8) : strings_CutPrefix.f lf (bs l) (⟨#[45]⟩ : ByteArray) = some (bs (body l), neg l, ()) := by
 rw [strings_CutPrefix.f, stringslite_CutPrefix.f, hasPrefix_f, bdS]
 simp only
 cases h : neg l with
 | false =>
  simp only [Bool.not_false, brT, bdS]
  have : ¬ l.head? = some 45 := by unfold neg at h; simpa using h
  unfold body
  rw [if_neg this]
 | true =>
  have h45 : l.head? = some 45 := by unfold neg at h; simpa using h
  simp only [Bool.not_true, brF]
  have hl : 1 ≤ l.length := by cases l with
   | nil => simp at h45
   | cons b r => simp
  rw [show (((⟨#[45]⟩ : ByteArray).size : Nat) : Int) = 1 from rfl, sCut_from l 1 1 rfl hl, bdS, bdS]
  unfold body
  rw [if_pos h45]
  simp
theorem trimPrefix_f (lf : Nat) (l : List UInt8) : strings_TrimPrefix.f lf (bs l) (⟨#[45]⟩ : ByteArray) = some (bs (body l), ()) := by
 rw [strings_TrimPrefix.f, stringslite_TrimPrefix.f, hasPrefix_f, bdS]
 simp only
 cases h : neg l with
 | false =>
  simp only [brF, bdS]
  have : ¬ l.head? = some 45 := by unfold neg at h; simpa using h
  unfold body
  rw [if_neg this]
 | true =>
  have h45 : l.head? = some 45 := by unfold neg at h; simpa using h
  simp only [brT]
  have hl : 1 ≤ l.length := by cases l with
   | nil => simp at h45
   | cons b r => simp
  rw [show (((⟨#[45]⟩ : ByteArray).size : Nat) : Int) = 1 from rfl, sCut_from l 1 1 rfl hl, bdS, bdS]
  unfold body
  rw [if_pos h45]
  simp
theorem body_len (l : List UInt8) : (body l).length ≤ l.length := nlen_le l
theorem canonical_f (lf : Nat) (l : List UInt8) (hl : l.length ≤ 9223372036854775807) : bigint_canonical.f lf (bs l) = some (can l, ()) := by
 rw [bigint_canonical.f, cutPrefix_f, bdS]
 simp only
 rw [show (⟨#[48]⟩ : ByteArray) = bs [48] from rfl, show (⟨#[]⟩ : ByteArray) = bs [] from rfl, beq_bs, beq_bs]
 by_cases h48 : body l = [48]
 ·rw [decide_eq_true h48, brT]
  congr 2
  unfold can
  rw [h48]
  unfold neg body at *
  by_cases h : l.head? = some 45
  ·rw [decide_eq_true h]
   have : l ≠ [48] := by rintro rfl; simp at h
   simp [this]
  ·rw [decide_eq_false h]
   rw [if_neg h] at h48
   simp [h48]
 ·rw [decide_eq_false h48, brF]
  have hl48 : l ≠ [48] := by rintro rfl; exact h48 rfl
  unfold can
  rw [decide_eq_false hl48, Bool.false_or]
  by_cases h0 : body l = []
  ·rw [decide_eq_true h0]
   simp [brF, h0]
  ·rw [decide_eq_false h0]
   simp only [Bool.not_false, brT]
   have hlen : 0 < (body l).length := List.length_pos_iff.2 h0
   rw [sIdx_bs _ 0 0 rfl hlen, bdS]
   have hhead : (body l).head? = some ((body l)[0]) := by rw [List.head?_eq_getElem?, List.getElem?_eq_getElem hlen]
   rw [hhead]
   by_cases h4 : (body l)[0] = 48
   ·rw [h4]
    simp [brF]
   ·have : ((((body l)[0]).toNat : Int) != 48) = true := by
     simp only [bne_iff_ne, ne_eq]
     intro e
     apply h4
     apply UInt8.toNat_inj.1
     have h48' : (48 : UInt8).toNat = 48 := rfl
     omega
    rw [this, brT]
    have e1 : B.Trim.f lf (bs (body l)) (⟨#[48, 49, 50, 51, 52, 53, 54, 55, 56, 57]⟩ : ByteArray) = some (bs (Lib.trimS (body l) [48, 49, 50, 51, 52, 53, 54, 55, 56, 57]), ()) := by
     unfold B.Trim.f
     rw [if_pos ⟨by rw [bs_size]; have := body_len l; omega, by decide, by decide⟩]
    rw [e1, bdS]
    simp only
    rw [beq_bs]
    congr 2
    have : decide (some ((body l)[0]) ≠ some 48) = true := by simpa using h4
    rw [this]
    have h0' : decide (body l ≠ []) = true := by simpa using h0
    rw [h0', Bool.true_and, Bool.true_and]
    have e2 : (body l).all isDig = (body l).all (([48, 49, 50, 51, 52, 53, 54, 55, 56, 57] : List UInt8).contains ·) := by
     congr 1; funext b; exact (digs_contains b).symm
    rw [e2]
    by_cases ht : (body l).all (([48, 49, 50, 51, 52, 53, 54, 55, 56, 57] : List UInt8).contains ·) = true
    ·rw [ht]; exact decide_eq_true ((trimS_nil _ _).2 ht)
    ·rw [Bool.not_eq_true] at ht
     rw [ht]; apply decide_eq_false
     intro e
     have := (trimS_nil _ _).1 e
     rw [ht] at this; cases this
theorem digits_f (lf : Nat) (l : List UInt8) : bigint_digits.f lf (bs l) = some ((nlen l : Int), ()) := by
 rw [bigint_digits.f, trimPrefix_f, bdS]
 simp only
 rw [bs_size]; rfl
theorem check_f (lf : Nat) (l : List UInt8) (hl : l.length ≤ 9223372036854775807) : bigint_Check.f lf (bs l) = some (chk l, ()) := by
 rw [bigint_Check.f, canonical_f lf l hl, bdS, digits_f, bdS]
 simp only
 unfold chk
 cases can l with
 | false => simp [brT]
 | true =>
  simp only [Bool.not_true, brF, if_true]
  by_cases h : nlen l > 4096
  ·rw [decide_eq_true (by omega), brT, if_pos h]
  ·rw [decide_eq_false (by omega), brF, if_neg h]
theorem idigits_f (lf : Nat) (l : List UInt8) (hl : l.length ≤ 9223372036854775807) : interval_digits.f lf (bs l) = some ((nlen l : Int), ()) := by
 rw [interval_digits.f, bs_size]
 cases l with
 | nil => rw [decide_eq_false (by simp), brF]; rfl
 | cons b r =>
  rw [decide_eq_true (by rw [List.length_cons]; omega), brT, sIdx_bs (b :: r) 0 0 rfl (by simp), bdS]
  simp only [List.getElem_cons_zero]
  unfold nlen body
  by_cases h : b = 45
  ·subst h
   have : ((((45 : UInt8).toNat : Nat) : Int) == 45) = true := by decide
   rw [this, brT]
   simp only [List.length_cons] at hl ⊢
   rw [w64 (by omega) (by omega)]
   simp
  ·have : (((b.toNat : Nat) : Int) == 45) = false := by
    rw [beq_eq_false_iff_ne]
    intro e; apply h; apply UInt8.toNat_inj.1
    have : (45 : UInt8).toNat = 45 := rfl
    omega
   rw [this, brF]
   simp [h]
theorem number_f (lf : Nat) (l : List UInt8) (hl : l.length ≤ 9223372036854775807) : interval_number.f lf (bs l) = some (num l, ()) := by
 rw [interval_number.f, check_f lf l hl, bdS, idigits_f lf l hl, bdS]
 simp only
 unfold num
 by_cases h : chk l = 0
 ·rw [h]
  simp only [bne_self_eq_false, brF, ne_eq, not_true, if_false]
  by_cases h' : nlen l > 100
  ·rw [decide_eq_true (by omega), brT, if_pos h']
  ·rw [decide_eq_false (by omega), brF, if_neg h']
 ·have : (chk l != 0) = true := by simpa using h
  rw [this, brT, if_pos h]
theorem read_l0 (lf : Nat) (ng : Bool) (l : List UInt8) (ha : l.all isDig = true) (hl : l.length ≤ 1000000) : ∀ (e n : Nat) (acc : List Int), e ≤ l.length → e < n → acc.length + e ≤ 1000000 →
  ∃ r, bigint_read.l0 lf ng (bs l) n (e : Nat) acc = some ((acc ++ r, ()), ()) ∧ Dg G r ∧ lv G r = dv (l.take e) ∧ r.length ≤ e := by
 intro e
 induction e using Nat.strongRecOn with
 | _ e ih =>
  intro n acc he hn hacc
  obtain ⟨m, rfl⟩ := Nat.exists_eq_succ_of_ne_zero (show n ≠ 0 by omega)
  have hall : ∀ (a b : Nat), ((l.drop a).take b).all isDig = true := by
   intro a b
   rw [List.all_eq_true] at ha ⊢
   intro x hx
   exact ha x (List.mem_of_mem_drop (List.mem_of_mem_take hx))
  rw [bigint_read.l0, bigint_read.r0]
  by_cases h0 : e = 0
  ·subst h0
   rw [decide_eq_false (by omega), brF]
   exact ⟨[], by simp, Dg.nil, rfl, by simp⟩
  ·rw [decide_eq_true (by omega), brT, w64 (by omega) (by omega)]
   have step : ∀ a : Nat, a = e - 9 → ∃ y : Int, (bd (sCut (bs l) (some (a : Int)) (some (e : Int))) fun r2 => bd (B.Atoi.f lf r2) fun r3 => bd (apL true 8 acc [r3.1]) fun l4 => bigint_read.l0 lf ng (bs l) m ((e : Int) - 9) l4) =
     bigint_read.l0 lf ng (bs l) m ((e : Int) - 9) (acc ++ [y]) ∧ y = dv ((l.drop a).take (e - a)) ∧ 0 ≤ y ∧ y < G := by
    intro a hae
    have hd := dv_lt _ (hall a (e - a))
    have hlen : ((l.drop a).take (e - a)).length = e - a := by rw [List.length_take, List.length_drop]; omega
    have hp : (10 : Nat) ^ (e - a) ≤ 10 ^ 9 := Nat.pow_le_pow_right (by omega) (by omega)
    rw [hlen] at hd
    refine ⟨(dv ((l.drop a).take (e - a)) : Int), ?_, rfl, by omega, ?_⟩
    ·rw [sCut_bs l _ _ a e rfl rfl (by omega) he, bdS]
     have e2 : B.Atoi.f lf (bs ((l.drop a).take (e - a))) = some ((dv ((l.drop a).take (e - a)) : Int), (), ()) := by
      unfold B.Atoi.f
      rw [bs_size, if_pos (by omega), atoi_digs (hall a (e - a)) (by intro e0; rw [e0] at hlen; simp at hlen; omega)]
      rfl
     rw [e2, bdS]
     simp only
     rw [apL_ok 8 _ _ (by omega) (by simp; omega), bdS]
    ·simp only [G]; have : (10 : Nat) ^ 9 = 1000000000 := by decide
     omega
   by_cases h9 : e ≤ 9
   ·have hif : (if (e : Int) - 9 > 0 then (e : Int) - 9 else 0) = ((0 : Nat) : Int) := by rw [if_neg (by omega)]; rfl
    rw [hif]
    obtain ⟨y, e1, hy, y1, y2⟩ := step 0 (by omega)
    rw [e1]
    obtain ⟨k, rfl⟩ : ∃ k, m = k + 1 := Nat.exists_eq_succ_of_ne_zero (show m ≠ 0 by omega)
    rw [bigint_read.l0, bigint_read.r0, decide_eq_false (by omega), brF]
    refine ⟨[y], rfl, Dg.cons ⟨y1, y2⟩ Dg.nil, ?_, by simp; omega⟩
    simp only [lv, Int.mul_zero, Int.add_zero]
    rw [hy, List.drop_zero, Nat.sub_zero]
   ·have hif : (if (e : Int) - 9 > 0 then (e : Int) - 9 else 0) = ((e - 9 : Nat) : Int) := by rw [if_pos (by omega)]; omega
    rw [hif]
    obtain ⟨y, e1, hy, y1, y2⟩ := step (e - 9) rfl
    rw [e1, show (e : Int) - 9 = ((e - 9 : Nat) : Int) by omega]
    obtain ⟨r, k1, k2, k3, k4⟩ := ih (e - 9) (by omega) m (acc ++ [y]) (by omega) (by omega) (by simp; omega)
    rw [k1]
    refine ⟨y :: r, by simp, Dg.cons ⟨y1, y2⟩ k2, ?_, by simp; omega⟩
    rw [lv, k3, hy]
    have hsplit : l.take e = l.take (e - 9) ++ (l.drop (e - 9)).take (e - (e - 9)) := by
     conv => lhs; rw [show e = (e - 9) + (e - (e - 9)) by omega]
     rw [List.take_add]
    have hlen : ((l.drop (e - 9)).take (e - (e - 9))).length = 9 := by rw [List.length_take, List.length_drop]; omega
    rw [hsplit, dv_app, hlen]
    have : (10 : Nat) ^ 9 = 1000000000 := by decide
    rw [this]
    simp only [G]
    omega
theorem read_f (lf : Nat) (l : List UInt8) (hc : can l = true) (hl : l.length ≤ 100000) (h3 : 200000 ≤ lf) :
  ∃ p, bigint_read.f lf (bs l) = some (p, ()) ∧ RN p (iv l) (nlen l) ∧ p.1 = neg l := by
 rw [bigint_read.f, cutPrefix_f, bdS]
 simp only
 obtain ⟨ha, hne, _⟩ := can_parts hc
 have hb := body_len l
 obtain ⟨r, k1, k2, k3, k4⟩ := read_l0 lf false (body l) ha (by omega) (body l).length (lf + 40) [] (Nat.le_refl _) (by omega) (by simp; omega)
 rw [bs_size, k1, bdS]
 simp only [List.nil_append]
 rw [trim_f lf r (by omega) (by omega), bdS]
 have hlen := tr_len r
 refine ⟨_, rfl, ⟨dg_tr k2, tr_tr r, by simp only; unfold nlen; omega, ?_⟩, rfl⟩
 simp only
 rw [lv_tr, k3, List.take_of_length_le (Nat.le_refl _)]
 rfl
theorem pair_f (lf : Nat) (l m : List UInt8) (h1 : chk l = 0) (h2 : chk m = 0) (h3 : 200000 ≤ lf) :
  ∃ p q, bigint_pair.f lf (bs l) (bs m) = some (p, q, 0, ()) ∧ RN p (iv l) 4096 ∧ RN q (iv m) 4096 ∧ p.1 = neg l ∧ q.1 = neg m := by
 have a1 := chk_zero.1 h1
 have a2 := chk_zero.1 h2
 have b1 := len_nlen l
 have b2 := len_nlen m
 obtain ⟨p, e1, k1, n1⟩ := read_f lf l a1.1 (by omega) h3
 obtain ⟨q, e2, k2, n2⟩ := read_f lf m a2.1 (by omega) h3
 rw [bigint_pair.f, check_f lf l (by omega), bdS, check_f lf m (by omega), h1, h2]
 simp only [bne_self_eq_false, brF, bdS, e1, e2]
 exact ⟨p, q, rfl, k1.mono a1.2, k2.mono a2.2, n1, n2⟩
theorem compare_f (lf : Nat) (l m : List UInt8) (h1 : chk l = 0) (h2 : chk m = 0) (h3 : 200000 ≤ lf) :
  bigint_Compare.f lf (bs l) (bs m) = some (sgn (iv l - iv m), 0, ()) := by
 obtain ⟨p, q, e, k1, k2, _⟩ := pair_f lf l m h1 h2 h3
 rw [bigint_Compare.f, e, bdS]
 simp only [bne_self_eq_false, brF]
 obtain ⟨q', e2, k3⟩ := negated_f lf k2
 rw [e2, bdS]
 obtain ⟨s, e3, k4⟩ := sum_f lf k1 k3 (by omega) h3
 rw [e3, bdS, sign_f lf k4, bdS]
 simp only [Int.sub_eq_add_neg]
theorem iorder_f (lf : Nat) (l m : List UInt8) (h1 : chk l = 0) (h2 : chk m = 0) (h3 : 200000 ≤ lf) :
  interval_order.f lf (bs l) (bs m) = some (sgn (iv l - iv m), ()) := by
 rw [interval_order.f, compare_f lf l m h1 h2 h3, bdS]
end Go.N
namespace Go.N
open Go.IntKind (i64)
open Go Go.Q Go.Rx
theorem u8_beq (b : UInt8) (n : Nat) (hn : n < 256) : (((b.toNat : Nat) : Int) == (n : Int)) = decide (b = UInt8.ofNat n) := by
 by_cases h : b = UInt8.ofNat n
 ·rw [decide_eq_true h]; subst h
  rw [UInt8.toNat_ofNat', Nat.mod_eq_of_lt (by omega)]; simp
 ·rw [decide_eq_false h, beq_eq_false_iff_ne]
  intro e; apply h; apply UInt8.toNat_inj.1
  rw [UInt8.toNat_ofNat', Nat.mod_eq_of_lt (by omega)]; omega
theorem u8_45 (b : UInt8) : (((b.toNat : Nat) : Int) == 45) = decide (b = 45) := u8_beq b 45 (by omega)
theorem u8_48 (b : UInt8) : (((b.toNat : Nat) : Int) == 48) = decide (b = 48) := u8_beq b 48 (by omega)
theorem form_l0 (lf : Nat) (l : List UInt8) (hl : l.length ≤ 9223372036854775807) : ∀ (k n i : Nat), i + k = l.length → k < n →
  surveyorref01_Form.l0 lf (bs l) n (i : Nat) = some (!(l.drop i).all isDig, (), (), ()) := by
 intro k
 induction k with
 | zero =>
  intro n i hi hn
  obtain ⟨m, rfl⟩ := Nat.exists_eq_succ_of_ne_zero (show n ≠ 0 by omega)
  rw [surveyorref01_Form.l0, surveyorref01_Form.r0, bs_size, decide_eq_false (by omega), brF, List.drop_of_length_le (by omega)]
  rfl
 | succ k ih =>
  intro n i hi hn
  obtain ⟨m, rfl⟩ := Nat.exists_eq_succ_of_ne_zero (show n ≠ 0 by omega)
  have hlt : i < l.length := by omega
  rw [surveyorref01_Form.l0, surveyorref01_Form.r0, bs_size, decide_eq_true (by omega), brT, sIdx_bs l _ i rfl hlt, bdS, bdS]
  rw [List.drop_eq_getElem_cons hlt, List.all_cons]
  by_cases h1 : l[i].toNat < 48
  ·rw [decide_eq_true (by omega), brT]
   have : isDig l[i] = false := by unfold isDig; apply decide_eq_false; omega
   rw [this]; rfl
  ·rw [decide_eq_false (by omega), brF]
   by_cases h2 : l[i].toNat > 57
   ·rw [decide_eq_true (by omega), brT]
    have : isDig l[i] = false := by unfold isDig; apply decide_eq_false; omega
    rw [this]; rfl
   ·rw [decide_eq_false (by omega), brF, w64 (by omega) (by omega), show ((i : Nat) : Int) + 1 = ((i + 1 : Nat) : Int) by omega]
    have : isDig l[i] = true := by unfold isDig; apply decide_eq_true; omega
    rw [this, Bool.true_and]
    exact ih m (i + 1) (by omega) (by omega)
theorem form_f (lf : Nat) (l : List UInt8) (hl : l.length ≤ 9223372036854775807) (hf : l.length ≤ lf) : surveyorref01_Form.f lf (bs l) = some (can l, ()) := by
 rw [surveyorref01_Form.f]
 rw [show (⟨#[48]⟩ : ByteArray) = bs [48] from rfl, beq_bs, bs_size]
 unfold can
 by_cases h48 : l = [48]
 ·rw [decide_eq_true h48, brT]; rfl
 ·rw [decide_eq_false h48, brF, Bool.false_or]
  cases l with
  | nil =>
   rw [decide_eq_false (by simp), brF]
   simp [brT, body]
  | cons b r =>
   rw [decide_eq_true (by rw [List.length_cons]; omega), brT, sIdx_bs (b :: r) 0 0 rfl (by simp), bdS]
   simp only [List.getElem_cons_zero]
   rw [u8_45]
   by_cases h45 : b = 45
   ·rw [decide_eq_true h45, brT]
    have hb : body (b :: r) = r := by unfold body; rw [if_pos (by simp [h45])]; rfl
    rw [hb]
    cases r with
    | nil =>
     have : ((1 : Int) == (([b].length : Nat) : Int)) = true := by simp
     rw [this, brT]; simp
    | cons d s =>
     have : ((1 : Int) == (((b :: d :: s).length : Nat) : Int)) = false := by
      rw [beq_eq_false_iff_ne]; simp only [List.length_cons]; omega
     rw [this, brF, sIdx_bs (b :: d :: s) 1 1 rfl (by simp), bdS]
     simp only [List.getElem_cons_succ, List.getElem_cons_zero]
     rw [u8_48]
     by_cases hd : d = 48
     ·rw [decide_eq_true hd, brT]; simp [hd]
     ·rw [decide_eq_false hd, brF]
      have := form_l0 lf (b :: d :: s) hl (d :: s).length (lf + 40) 1 (by simp only [List.length_cons]; omega) (by simp only [List.length_cons] at hf ⊢; omega)
      rw [show ((1 : Nat) : Int) = 1 from rfl] at this
      rw [this, bdS]
      simp only [List.drop_succ_cons, List.drop_zero]
      cases (d :: s).all isDig <;> simp [brT, brF, hd]
   ·rw [decide_eq_false h45, brF]
    have hb : body (b :: r) = b :: r := by unfold body; rw [if_neg (by simp [h45])]
    rw [hb]
    have : ((0 : Int) == (((b :: r).length : Nat) : Int)) = false := by
     rw [beq_eq_false_iff_ne]; simp only [List.length_cons]; omega
    rw [this, brF, bdS]
    rw [u8_48]
    by_cases hd : b = 48
    ·rw [decide_eq_true hd, brT]; simp [hd]
    ·rw [decide_eq_false hd, brF]
     have := form_l0 lf (b :: r) hl (b :: r).length (lf + 40) 0 (by omega) (by omega)
     rw [show ((0 : Nat) : Int) = 0 from rfl] at this
     rw [this, bdS]
     simp only [List.drop_zero]
     cases (b :: r).all isDig <;> simp [brT, brF, hd]
theorem negative_f (lf : Nat) (l : List UInt8) (h : l ≠ []) : surveyorref01_Negative.f lf (bs l) = some (neg l, ()) := by
 cases l with
 | nil => exact absurd rfl h
 | cons b r =>
  rw [surveyorref01_Negative.f, sIdx_bs (b :: r) 0 0 rfl (by simp), bdS]
  simp only [List.getElem_cons_zero]
  rw [u8_45]
  unfold neg
  simp
theorem rDigits_f (lf : Nat) (l : List UInt8) (h : l ≠ []) (hl : l.length ≤ 9223372036854775807) : surveyorref01_Digits.f lf (bs l) = some ((nlen l : Int), ()) := by
 rw [surveyorref01_Digits.f, negative_f lf l h, bdS]
 simp only
 unfold nlen body neg
 rw [bs_size]
 by_cases h45 : l.head? = some 45
 ·rw [decide_eq_true h45, brT, if_pos h45, List.length_tail]
  have : l.length ≠ 0 := fun e => h (List.length_eq_zero_iff.1 e)
  rw [w64 (by omega) (by omega)]
  congr 2; omega
 ·rw [decide_eq_false h45, brF, if_neg h45]
theorem rCheck_f (lf : Nat) (l : List UInt8) (hl : l.length ≤ 9223372036854775807) (hf : l.length ≤ lf) : surveyorref01_Check.f lf (bs l) = some (chk l, ()) := by
 rw [surveyorref01_Check.f, form_f lf l hl hf, bdS]
 simp only
 unfold chk
 cases hc : can l with
 | false => simp [brT]
 | true =>
  simp only [Bool.not_true, brF, if_true]
  rw [rDigits_f lf l (can_parts hc).2.2 hl, bdS]
  simp only
  by_cases h : nlen l > 4096
  ·rw [decide_eq_true (by omega), brT, if_pos h]
  ·rw [decide_eq_false (by omega), brF, if_neg h]
theorem rNumber_f (lf : Nat) (l : List UInt8) (hl : l.length ≤ 9223372036854775807) (hf : l.length ≤ lf) : surveyorref06_Number.f lf (bs l) = some (num l, ()) := by
 rw [surveyorref06_Number.f, rCheck_f lf l hl hf, bdS]
 simp only
 unfold num
 by_cases h : chk l = 0
 ·rw [h]
  simp only [bne_self_eq_false, brF, ne_eq, not_true, if_false]
  rw [rDigits_f lf l (can_parts (chk_zero.1 h).1).2.2 hl, bdS]
  simp only
  by_cases h' : nlen l > 100
  ·rw [decide_eq_true (by omega), brT, if_pos h']
  ·rw [decide_eq_false (by omega), brF, if_neg h']
 ·have : (chk l != 0) = true := by simpa using h
  rw [this, brT, if_pos h]
theorem iv_zero {l : List UInt8} (h : can l = true) : iv l = 0 ↔ l = [48] := by
 constructor
 ·intro e; exact iv_inj h (by decide) (by rw [e]; decide)
 ·rintro rfl; decide
theorem iv_neg {l : List UInt8} (h : can l = true) : iv l < 0 ↔ neg l = true := by
 constructor
 ·intro e
  unfold iv at e
  by_cases hn : neg l = true
  ·exact hn
  ·rw [if_neg hn] at e; omega
 ·intro hn
  have h0 : iv l ≠ 0 := by
   intro e
   have := (iv_zero h).1 e
   subst this
   cases hn
  unfold iv at h0 ⊢
  rw [if_pos hn] at h0 ⊢
  omega
theorem sign_ref (lf : Nat) (l : List UInt8) (h : can l = true) : surveyorref01_Sign.f lf (bs l) = some (sgn (iv l), ()) := by
 rw [surveyorref01_Sign.f, show (⟨#[48]⟩ : ByteArray) = bs [48] from rfl, beq_bs]
 by_cases h48 : l = [48]
 ·rw [decide_eq_true h48, brT]
  subst h48; rfl
 ·have h0 : iv l ≠ 0 := fun e => h48 ((iv_zero h).1 e)
  rw [decide_eq_false h48, brF, negative_f lf l (can_parts h).2.2, bdS]
  simp only
  cases hn : neg l with
  | true =>
   have := (iv_neg h).2 hn
   rw [brT, sgn, if_pos this]
  | false =>
   have : ¬ iv l < 0 := fun e => by have := (iv_neg h).1 e; rw [hn] at this; cases this
   rw [brF, sgn, if_neg this, if_neg h0]
def ld (l : List UInt8) : List Int := l.reverse.map fun b => (dig b : Int)
theorem ld_len (l : List UInt8) : (ld l).length = l.length := by simp [ld]
theorem ld_dg {l : List UInt8} (h : l.all isDig = true) : Dg 10 (ld l) := by
 intro y hy
 unfold ld at hy
 obtain ⟨b, hb, rfl⟩ := List.mem_map.1 hy
 have := dig_lt (List.all_eq_true.1 h b (by simpa using hb))
 omega
theorem lv_ld (l : List UInt8) : lv 10 (ld l) = dv l := by
 refine snoc_ind (p := fun l => lv 10 (ld l) = dv l) l rfl fun l b ih => ?_
 have : ld (l ++ [b]) = (dig b : Int) :: ld l := by simp [ld]
 rw [this, lv, ih, dv_snoc]
 omega
theorem digits_l0 (lf : Nat) (l : List UInt8) (ng : Bool) (hall : (body l).all isDig = true) (hl : l.length ≤ 1000000) : ∀ (k n : Nat) (acc : List Int), k ≤ l.length → k < n → acc.length + k ≤ 1000000 →
  surveyorref01_digits.l0 lf (bs l) n ((k : Nat) - 1 : Int) acc = some ((acc ++ ld (if neg l = true then (l.take k).tail else l.take k), ()), ()) := by
 intro k
 induction k with
 | zero =>
  intro n acc hk hn hacc
  obtain ⟨m, rfl⟩ := Nat.exists_eq_succ_of_ne_zero (show n ≠ 0 by omega)
  rw [surveyorref01_digits.l0, surveyorref01_digits.r0, decide_eq_false (by omega), brF]
  simp [ld]
 | succ k ih =>
  intro n acc hk hn hacc
  obtain ⟨m, rfl⟩ := Nat.exists_eq_succ_of_ne_zero (show n ≠ 0 by omega)
  have hlt : k < l.length := by omega
  rw [surveyorref01_digits.l0, surveyorref01_digits.r0, decide_eq_true (by omega), brT, sIdx_bs l _ k (by omega) hlt, bdS, bdS]
  have hne : ((((l[k]).toNat : Nat) : Int) != 45) = !decide (l[k] = 45) := by rw [bne, u8_45]
  rw [hne, List.take_succ_eq_append_getElem hlt]
  by_cases h45 : l[k] = 45
  ·-- the sign
   rw [decide_eq_true h45]
   simp only [Bool.not_true, brF]
   have hk0 : k = 0 := by
    by_cases hz : k = 0
    ·exact hz
    ·exfalso
     have hmem : l[k] ∈ body l := by
      unfold body
      split
      ·rw [List.mem_iff_getElem]
       exact ⟨k - 1, by rw [List.length_tail]; omega, by rw [List.getElem_tail]; congr 1; omega⟩
      ·exact List.getElem_mem hlt
     have := List.all_eq_true.1 hall _ hmem
     rw [h45] at this
     cases this
   subst hk0
   have hneg : neg l = true := by
    unfold neg; apply decide_eq_true
    rw [List.head?_eq_getElem?, List.getElem?_eq_getElem hlt, h45]
   rw [if_pos hneg]
   simp [ld]
  ·rw [decide_eq_false h45]
   simp only [Bool.not_false, brT]
   have hmem : isDig l[k] = true := by
    by_cases hz : k = 0 ∧ l.head? = some 45
    ·exfalso
     obtain ⟨rfl, hz⟩ := hz
     rw [List.head?_eq_getElem?, List.getElem?_eq_getElem hlt] at hz
     exact h45 (Option.some.inj hz)
    ·have hm : l[k] ∈ body l := by
      unfold body
      split
      ·rename_i hh
       have : k ≠ 0 := fun e => hz ⟨e, hh⟩
       rw [List.mem_iff_getElem]
       exact ⟨k - 1, by rw [List.length_tail]; omega, by rw [List.getElem_tail]; congr 1; omega⟩
      ·exact List.getElem_mem hlt
     exact List.all_eq_true.1 hall _ hm
   have hd := hmem
   unfold isDig at hd
   simp only [decide_eq_true_eq] at hd
   rw [w8 (by omega) (by omega), w64 (by omega) (by omega), apL_ok 8 _ _ (by omega) (by simp; omega), bdS, w64 (by omega) (by omega)]
   rw [show ((k + 1 : Nat) : Int) - 1 - 1 = ((k : Nat) : Int) - 1 by omega]
   rw [ih m _ (by omega) (by omega) (by simp; omega)]
   have hdig : (((l[k]).toNat : Nat) : Int) - 48 = (dig l[k] : Int) := by unfold dig; omega
   rw [hdig]
   congr 3
   have hld : ∀ (t : List UInt8) (b : UInt8), ld (t ++ [b]) = (dig b : Int) :: ld t := by intro t b; simp [ld]
   by_cases hneg : neg l = true
   ·rw [if_pos hneg, if_pos hneg]
    have hk0 : k ≠ 0 := by
     rintro rfl
     unfold neg at hneg
     simp only [decide_eq_true_eq] at hneg
     rw [List.head?_eq_getElem?, List.getElem?_eq_getElem hlt] at hneg
     exact h45 (Option.some.inj hneg)
    have ht : (l.take k ++ [l[k]]).tail = (l.take k).tail ++ [l[k]] := by
     rw [List.tail_append_of_ne_nil]
     intro e
     have h0 := congrArg List.length e
     rw [List.length_take, List.length_nil] at h0
     omega
    rw [ht, hld]; simp
   ·rw [if_neg hneg, if_neg hneg, hld]; simp
theorem digits_ref (lf : Nat) (l : List UInt8) (h : can l = true) (hl : l.length ≤ 100000) (h3 : 200000 ≤ lf) : surveyorref01_digits.f lf (bs l) = some (ld (body l), ()) := by
 rw [surveyorref01_digits.f, bs_size, w64 (by omega) (by omega)]
 rw [digits_l0 lf l true (can_parts h).1 (by omega) l.length (lf + 40) [] (Nat.le_refl _) (by omega) (by simp; omega), bdS]
 simp only [List.nil_append, List.take_length]
 congr 2
 unfold body neg
 by_cases h45 : l.head? = some 45
 ·rw [if_pos h45, if_pos (decide_eq_true h45)]
 ·rw [if_neg h45, if_neg (by rw [decide_eq_false h45]; simp)]
theorem cut_l0 (lf : Nat) (l : List Int) (hl : l.length ≤ 1000000) : ∀ (k n : Nat), k ≤ l.length → k < n →
  ∃ j : Nat, surveyorref01_cut.l0 lf l n (k : Nat) = some (((j : Int), ()), ()) ∧ j ≤ k ∧ l.take j = tr (l.take k) := by
 intro k
 induction k with
 | zero =>
  intro n hk hn
  obtain ⟨m, rfl⟩ := Nat.exists_eq_succ_of_ne_zero (show n ≠ 0 by omega)
  rw [surveyorref01_cut.l0, surveyorref01_cut.r0, decide_eq_false (by omega), brF]
  exact ⟨0, rfl, Nat.le_refl _, by simp [tr_nil]⟩
 | succ k ih =>
  intro n hk hn
  obtain ⟨m, rfl⟩ := Nat.exists_eq_succ_of_ne_zero (show n ≠ 0 by omega)
  have hlt : k < l.length := by omega
  have e : i64.wrap (((k + 1 : Nat) : Int) - 1) = (k : Nat) := by rw [w64 (by omega) (by omega)]; omega
  rw [surveyorref01_cut.l0, surveyorref01_cut.r0, decide_eq_true (by omega), brT, e, idxL_nat _ _ hlt, bdS, List.take_succ_eq_append_getElem hlt]
  by_cases h : l[k] = 0
  ·have : (l[k] == 0) = true := by simp [h]
   rw [this, brT, h, tr_snoc0]
   obtain ⟨j, e1, e2, e3⟩ := ih m (by omega) (by omega)
   exact ⟨j, e1, by omega, e3⟩
  ·have : (l[k] == 0) = false := by simp [h]
   rw [this, brF, tr_snoc _ _ h]
   exact ⟨k + 1, rfl, Nat.le_refl _, by rw [List.take_succ_eq_append_getElem hlt]⟩
theorem cut_f (lf : Nat) (l : List Int) (hl : l.length ≤ 100000) (h3 : 200000 ≤ lf) : surveyorref01_cut.f lf l = some (tr l, ()) := by
 obtain ⟨j, e1, e2, e3⟩ := cut_l0 lf l (by omega) l.length (lf + 40) (Nat.le_refl _) (by omega)
 rw [surveyorref01_cut.f, e1, bdS]
 simp only
 rw [cutL_to _ _ j rfl e2, bdS, e3, List.take_length]
theorem rorder_l0 (lf : Nat) (xs ys : List Int) (hx : Dg 10 xs) (hy : Dg 10 ys) (hl : xs.length = ys.length) (hb : xs.length ≤ 1000000) : ∀ (i n : Nat) (hi : i ≤ xs.length), i < n →
  ∃ b v, surveyorref01_order.l0 lf xs ys n ((i : Nat) - 1 : Int) = some (b, (v, ()), (), ()) ∧ (if b = true then v else 0) = sgn (lv 10 (xs.take i) - lv 10 (ys.take i)) := by
 intro i
 induction i with
 | zero =>
  intro n hi hn
  obtain ⟨m, rfl⟩ := Nat.exists_eq_succ_of_ne_zero (show n ≠ 0 by omega)
  refine ⟨false, 0, ?_, by simp [sgn, lv]⟩
  rw [surveyorref01_order.l0, surveyorref01_order.r0, decide_eq_false (by omega), brF]
 | succ i ih =>
  intro n hi hn
  obtain ⟨m, rfl⟩ := Nat.exists_eq_succ_of_ne_zero (show n ≠ 0 by omega)
  have e : ((i + 1 : Nat) : Int) - 1 = (i : Nat) := by omega
  rw [surveyorref01_order.l0, surveyorref01_order.r0, decide_eq_true (by omega), brT, idxL_int xs _ i e (by omega), bdS, idxL_int ys _ i e (by omega), bdS]
  by_cases h : xs[i] = ys[i]'(by omega)
  ·have hne : (xs[i] != ys[i]'(by omega)) = false := by simp [h]
   rw [hne, brF, w64 (by omega) (by omega), e]
   obtain ⟨b, v, h1, h2⟩ := ih m (by omega) (by omega)
   refine ⟨b, v, h1, ?_⟩
   rw [lv_take_succ 10 xs i (by omega), lv_take_succ 10 ys i (by omega), h]
   rwa [show lv 10 (xs.take i) + 10 ^ i * ys[i] - (lv 10 (ys.take i) + 10 ^ i * ys[i]) = lv 10 (xs.take i) - lv 10 (ys.take i) by omega]
  ·have hne : (xs[i] != ys[i]'(by omega)) = true := by simp [h]
   rw [hne, brT, bdS, bdS]
   rcases Int.lt_or_lt_of_ne h with hlt | hlt
   ·have := top_cmp (B := 10) (by decide) hx hy i (by omega) (by omega) hlt
    rw [decide_eq_true hlt, brT]
    exact ⟨true, _, rfl, by rw [if_pos rfl, sgn, if_pos (by omega)]⟩
   ·have := top_cmp (B := 10) (by decide) hy hx i (by omega) (by omega) hlt
    rw [decide_eq_false (by omega), brF]
    exact ⟨true, _, rfl, by rw [if_pos rfl, sgn, if_neg (by omega), if_neg (by omega)]⟩
theorem rorder_f (lf : Nat) (xs ys : List Int) (hx : Dg 10 xs) (hy : Dg 10 ys) (t1 : Tr xs) (t2 : Tr ys) (h1 : xs.length ≤ 100000) (h2 : ys.length ≤ 100000) (h3 : 200000 ≤ lf) :
  surveyorref01_order.f lf xs ys = some (sgn (lv 10 xs - lv 10 ys), ()) := by
 rw [surveyorref01_order.f]
 by_cases h : xs.length = ys.length
 ·have hne : (((xs.length : Nat) : Int) != ((ys.length : Nat) : Int)) = false := by simp [h]
  rw [hne, brF, w64 (by omega) (by omega)]
  obtain ⟨b, v, k1, k2⟩ := rorder_l0 lf xs ys hx hy h (by omega) xs.length (lf + 40) (Nat.le_refl _) (by omega)
  rw [List.take_of_length_le (Nat.le_refl _), List.take_of_length_le (by omega)] at k2
  rw [k1, bdS, ← k2]
  cases b with
  | true => simp only [brT]; simp
  | false => simp only [brF]; simp
 ·have hne : (((xs.length : Nat) : Int) != ((ys.length : Nat) : Int)) = true := by
   simp only [bne_iff_ne, ne_eq]; omega
  rw [hne, brT]
  rcases Nat.lt_or_gt_of_ne h with hlt | hlt
  ·have := lv_len_lt (B := 10) (by decide) hx hy t2 hlt
   rw [decide_eq_true (by omega), brT, sgn, if_pos (by omega)]
  ·have := lv_len_lt (B := 10) (by decide) hy hx t1 hlt
   rw [decide_eq_false (by omega), brF, sgn, if_neg (by omega), if_neg (by omega)]
theorem sgn_neg (z : Int) : sgn (-z) = -sgn z := by unfold sgn; (repeat' split) <;> omega
theorem sgn_pos {z : Int} (h : 0 < z) : sgn z = 1 := by unfold sgn; rw [if_neg (by omega), if_neg (by omega)]
theorem order_ref (lf : Nat) (l m : List UInt8) (h1 : can l = true) (h2 : can m = true) (l1 : l.length ≤ 100000) (l2 : m.length ≤ 100000) (h3 : 200000 ≤ lf) :
  surveyorref01_Order.f lf (bs l) (bs m) = some (sgn (iv l - iv m), ()) := by
 rw [surveyorref01_Order.f, sign_ref lf l h1, bdS, sign_ref lf m h2, bdS]
 simp only
 by_cases hs : sgn (iv l) = sgn (iv m)
 ·have hne : (sgn (iv l) != sgn (iv m)) = false := by simp [hs]
  rw [hne, brF, digits_ref lf l h1 l1 h3, bdS]
  have b1 : (body l).length ≤ l.length := nlen_le l
  have b2 : (body m).length ≤ m.length := nlen_le m
  rw [cut_f lf _ (by rw [ld_len]; omega) h3, bdS, digits_ref lf m h2 l2 h3, bdS, cut_f lf _ (by rw [ld_len]; omega) h3, bdS]
  have c1 := tr_len (ld (body l))
  have c2 := tr_len (ld (body m))
  rw [ld_len] at c1 c2
  rw [rorder_f lf _ _ (dg_tr (ld_dg (can_parts h1).1)) (dg_tr (ld_dg (can_parts h2).1)) (tr_tr _) (tr_tr _) (by omega) (by omega) h3, bdS]
  simp only
  rw [lv_tr, lv_tr, lv_ld, lv_ld]
  have hw : ∀ a b : Int, -1 ≤ a → a ≤ 1 → -1 ≤ b → b ≤ 1 → i64.wrap (a * b) = a * b := by
   intro a b a1 a2 b1 b2
   have : a = -1 ∨ a = 0 ∨ a = 1 := by omega
   have : b = -1 ∨ b = 0 ∨ b = 1 := by omega
   apply w64
   ·rcases ‹a = -1 ∨ a = 0 ∨ a = 1› with rfl | rfl | rfl <;> omega
   ·rcases ‹a = -1 ∨ a = 0 ∨ a = 1› with rfl | rfl | rfl <;> omega
  have hr : ∀ z : Int, -1 ≤ sgn z ∧ sgn z ≤ 1 := by intro z; unfold sgn; split <;> (try split) <;> omega
  rw [hw _ _ (hr _).1 (hr _).2 (hr _).1 (hr _).2]
  congr 2
  unfold iv at hs ⊢
  generalize neg l = nl at hs ⊢
  generalize neg m = nm at hs ⊢
  generalize dv (body l) = x at hs ⊢
  generalize dv (body m) = y at hs ⊢
  clear hne hr hw
  have s0 : sgn 0 = 0 := rfl
  rcases Nat.eq_zero_or_pos x with hx | hx <;> rcases Nat.eq_zero_or_pos y with hy | hy
  ·subst hx; subst hy; cases nl <;> cases nm <;> rfl
  ·subst hx
   have p2 := sgn_pos (show (0 : Int) < (y : Int) by omega)
   cases nl <;> cases nm <;> simp [sgn_neg, p2, s0] at hs
  ·subst hy
   have p2 := sgn_pos (show (0 : Int) < (x : Int) by omega)
   cases nl <;> cases nm <;> simp [sgn_neg, p2, s0] at hs
  ·have p1 := sgn_pos (show (0 : Int) < (x : Int) by omega)
   have p2 := sgn_pos (show (0 : Int) < (y : Int) by omega)
   cases nl <;> cases nm
   ·simp [p1]
   ·simp [sgn_neg, p1, p2] at hs
   ·simp [sgn_neg, p1, p2] at hs
   ·simp only [if_true, sgn_neg, p1]
    rw [show -(x : Int) - -(y : Int) = -((x : Int) - (y : Int)) by omega, sgn_neg]
    omega
 ·have hne : (sgn (iv l) != sgn (iv m)) = true := by simp [hs]
  rw [hne, brT]
  unfold sgn at hs ⊢
  by_cases h : sgn (iv l) < sgn (iv m)
  ·unfold sgn at h
   rw [decide_eq_true h, brT]
   congr 2
   repeat' split at h
   all_goals (try omega)
   all_goals (repeat' split)
   all_goals omega
  ·unfold sgn at h
   rw [decide_eq_false h, brF]
   congr 2
   repeat' split at h
   all_goals (try omega)
   all_goals (repeat' split)
   all_goals omega
theorem less_f (lf : Nat) (l m : List UInt8) (h1 : can l = true) (h2 : can m = true) (l1 : l.length ≤ 100000) (l2 : m.length ≤ 100000) (h3 : 200000 ≤ lf) :
  surveyorref01_Less.f lf (bs l) (bs m) = some (decide (iv l < iv m), ()) := by
 rw [surveyorref01_Less.f, order_ref lf l m h1 h2 l1 l2 h3, bdS]
 congr 2
 simp only [decide_eq_decide]
 unfold sgn
 split
 ·omega
 ·split <;> omega
end Go.N
namespace Go.N
open Go Go.Q Go.Rx
set_option exponentiation.threshold 5000
def sz (z : Int) : Nat := nlen (Lib.itoa z)
theorem body_itoa (z : Int) : body (Lib.itoa z) = Lib.decDigits z.natAbs := by
 unfold body Lib.itoa
 by_cases h : z < 0
 ·rw [if_pos h]; simp
 ·rw [if_neg h, if_neg (dec_no45 _)]
  congr 1; omega
theorem sz_le (z : Int) (k : Nat) (hk : 0 < k) : sz z ≤ k ↔ z.natAbs < 10 ^ k := by
 unfold sz nlen
 rw [body_itoa]
 constructor
 ·intro h
  have := dv_lt _ (dec_all z.natAbs)
  rw [dv_dec] at this
  exact Nat.lt_of_lt_of_le this (Nat.pow_le_pow_right (by omega) h)
 ·intro h
  obtain ⟨j, rfl⟩ := Nat.exists_eq_succ_of_ne_zero (show k ≠ 0 by omega)
  exact dec_len_le j _ h
@[irreducible] def K : Int := ((10 ^ 4096 : Nat) : Int)
@[irreducible] def C : Int := ((10 ^ 100 : Nat) : Int)
theorem sz_K (z : Int) : sz z ≤ 4096 ↔ -K < z ∧ z < K := by
 rw [sz_le z 4096 (by omega)]
 unfold K
 generalize 10 ^ 4096 = n
 omega
theorem sz_C (z : Int) : sz z ≤ 100 ↔ -C < z ∧ z < C := by
 rw [sz_le z 100 (by omega)]
 unfold C
 generalize 10 ^ 100 = n
 omega
theorem C_lt_K : C < K := by
 unfold C K
 have : (10 : Nat) ^ 100 < 10 ^ 4096 := Nat.pow_lt_pow_right (by omega) (by omega)
 exact Int.ofNat_lt.2 this
theorem C_gt : 1000000 < C := by
 unfold C
 have : (1000000 : Nat) < 10 ^ 100 := by decide +kernel
 omega
theorem K_gt : 1000000 < K := Int.lt_trans C_gt C_lt_K
theorem itoa_len (z : Int) (h : sz z ≤ 4096) : (Lib.itoa z).length ≤ 4097 := by
 have := len_nlen (Lib.itoa z)
 unfold sz at h
 omega
theorem chk_itoa (z : Int) : chk (Lib.itoa z) = 0 ↔ -K < z ∧ z < K := by
 rw [chk_zero, ← sz_K]
 exact ⟨fun h => h.2, fun h => ⟨can_itoa z, h⟩⟩
theorem num_itoa (z : Int) : num (Lib.itoa z) = 0 ↔ -C < z ∧ z < C := by
 rw [num_zero, ← sz_C]
 exact ⟨fun h => h.2, fun h => ⟨can_itoa z, h⟩⟩
theorem itoa_ne (z : Int) : Lib.itoa z ≠ [] := (can_parts (can_itoa z)).2.2
theorem itoa_inj {x y : Int} (h : Lib.itoa x = Lib.itoa y) : x = y := by rw [← iv_itoa x, ← iv_itoa y, h]
inductive X where
 | ni
 | fin (z : Int)
 | pi
deriving DecidableEq
abbrev EB : Type := Int × (ByteArray × Unit)
abbrev IV : Type := Bool × (ByteArray × (ByteArray × Unit))
def xc : X → EB
 | .ni => (-1, bs [], ())
 | .fin z => (0, bs (Lib.itoa z), ())
 | .pi => (1, bs [], ())
def key : X → Int
 | .ni => -K
 | .fin z => z
 | .pi => K
def okx (k : Int) : X → Prop
 | .fin z => -k < z ∧ z < k
 | _ => True
theorem okx.mono {k k' : Int} (h : k ≤ k') {x : X} (hx : okx k x) : okx k' x := by cases x <;> simp_all [okx]; omega
theorem key_le {x : X} (h : okx K x) : -K ≤ key x ∧ key x ≤ K := by
 have := K_gt
 cases x <;> simp only [okx, key] at * <;> omega
theorem key_inj {x y : X} (hx : okx K x) (hy : okx K y) (h : key x = key y) : x = y := by
 have := K_gt
 cases x <;> cases y <;> simp only [okx, key, X.fin.injEq, reduceCtorEq] at * <;> omega
theorem cmp_f (lf : Nat) (h3 : 200000 ≤ lf) {x y : X} (hx : okx K x) (hy : okx K y) : ∃ c, interval_compare.f lf (xc x) (xc y) = some (c, ()) ∧ Sg c (key x - key y) := by
 have hK := K_gt
 rw [interval_compare.f]
 cases x with
 | ni => cases y with
  | ni => exact ⟨0, (brT _ _).trans rfl, by simp [Sg, key]⟩
  | fin z => exact ⟨-1, (brT _ _).trans rfl, by simp only [okx, key, Sg] at *; omega⟩
  | pi => exact ⟨-2, (brT _ _).trans rfl, by simp only [okx, key, Sg] at *; omega⟩
 | pi => cases y with
  | ni => exact ⟨2, (brT _ _).trans rfl, by simp only [okx, key, Sg] at *; omega⟩
  | fin z => exact ⟨1, (brT _ _).trans rfl, by simp only [okx, key, Sg] at *; omega⟩
  | pi => exact ⟨0, (brT _ _).trans rfl, by simp [Sg, key]⟩
 | fin z => cases y with
  | ni => exact ⟨1, (brF _ _).trans ((brT _ _).trans rfl), by simp only [okx, key, Sg] at *; omega⟩
  | pi => exact ⟨-1, (brF _ _).trans ((brT _ _).trans rfl), by simp only [okx, key, Sg] at *; omega⟩
  | fin u =>
   refine ⟨sgn (z - u), ?_, ?_⟩
   ·simp only [xc, bne_self_eq_false, brF]
    rw [iorder_f lf _ _ ((chk_itoa z).2 hx) ((chk_itoa u).2 hy) h3, bdS, iv_itoa, iv_itoa]
   ·simp only [key, Sg, sgn]; constructor <;> (repeat' split) <;> omega
def xmin (x y : X) : X := if key y < key x then y else x
def xmax (x y : X) : X := if key y > key x then y else x
theorem xmin_ok {k : Int} {x y : X} (hx : okx k x) (hy : okx k y) : okx k (xmin x y) := by unfold xmin; split <;> assumption
theorem xmax_ok {k : Int} {x y : X} (hx : okx k x) (hy : okx k y) : okx k (xmax x y) := by unfold xmax; split <;> assumption
theorem key_min (x y : X) : key (xmin x y) = min (key x) (key y) := by unfold xmin; split <;> omega
theorem key_max (x y : X) : key (xmax x y) = max (key x) (key y) := by unfold xmax; split <;> omega
structure Sp where
 lo : X
 hi : X
deriving DecidableEq
def sc (s : Sp) : EB × (EB × Unit) := (xc s.lo, xc s.hi, ())
def oks (k : Int) (s : Sp) : Prop := okx k s.lo ∧ okx k s.hi
theorem oks.mono {k k' : Int} (h : k ≤ k') {s : Sp} (hs : oks k s) : oks k' s := ⟨hs.1.mono h, hs.2.mono h⟩
def emp (s : Sp) : Bool := decide (key s.lo > key s.hi)
def non : Sp := ⟨.pi, .ni⟩
theorem none_f (lf : Nat) : interval_none.f lf = some (sc non, ()) := by
 rw [interval_none.f, interval_infinite.f, bdS, interval_infinite.f, bdS]; rfl
theorem non_ok {k : Int} : oks k non := ⟨trivial, trivial⟩
theorem emp_non : emp non = true := by
 have := K_gt
 show decide (K > -K) = true
 exact decide_eq_true (by omega)
def hull (s t : Sp) : Sp := if emp s = true then t else if emp t = true then s else ⟨xmin s.lo t.lo, xmax s.hi t.hi⟩
theorem hull_ok {k : Int} {s t : Sp} (hs : oks k s) (ht : oks k t) : oks k (hull s t) := by
 unfold hull; split
 ·exact ht
 ·split
  ·exact hs
  ·exact ⟨xmin_ok hs.1 ht.1, xmax_ok hs.2 ht.2⟩
def common (s t : Sp) : Sp := ⟨xmax s.lo t.lo, xmin s.hi t.hi⟩
theorem common_ok {k : Int} {s t : Sp} (hs : oks k s) (ht : oks k t) : oks k (common s t) := ⟨xmax_ok hs.1 ht.1, xmin_ok hs.2 ht.2⟩
def ob : Option Int → ByteArray
 | none => bs []
 | some z => bs (Lib.itoa z)
theorem ob_inj {x y : Option Int} (h : ob x = ob y) : x = y := by
 cases x with
 | none => cases y with
  | none => rfl
  | some v => exact absurd (bs_inj h).symm (itoa_ne v)
 | some u => cases y with
  | none => exact absurd (bs_inj h) (itoa_ne u)
  | some v => rw [itoa_inj (bs_inj h)]
structure A where
 em : Bool
 lo : Option Int
 hi : Option Int
deriving DecidableEq
def ac (a : A) : IV := (a.em, ob a.lo, ob a.hi, ())
theorem ac_inj {a b : A} (h : ac a = ac b) : a = b := by
 obtain ⟨e, l, m⟩ := a
 obtain ⟨e', l', m'⟩ := b
 simp only [ac, Prod.mk.injEq] at h
 obtain ⟨rfl, h1, h2, _⟩ := h
 rw [ob_inj h1, ob_inj h2]
def okb (k : Int) : Option Int → Prop
 | none => True
 | some z => -k < z ∧ z < k
def le? : Option Int → Option Int → Prop
 | some x, some y => x ≤ y
 | _, _ => True
structure Wf (a : A) : Prop where
 em : a.em = true → a.lo = none ∧ a.hi = none
 lo : okb C a.lo
 hi : okb C a.hi
 le : le? a.lo a.hi
def lox : Option Int → X
 | none => .ni
 | some z => .fin z
def hix : Option Int → X
 | none => .pi
 | some z => .fin z
def ofA (a : A) : Sp := if a.em = true then non else ⟨lox a.lo, hix a.hi⟩
theorem okb_lox {k : Int} {x : Option Int} (h : okb k x) : okx k (lox x) := by cases x <;> simp_all [okb, lox, okx]
theorem okb_hix {k : Int} {x : Option Int} (h : okb k x) : okx k (hix x) := by cases x <;> simp_all [okb, hix, okx]
theorem ofA_ok {k : Int} {a : A} (h1 : okb k a.lo) (h2 : okb k a.hi) : oks k (ofA a) := by
 unfold ofA; split
 ·exact non_ok
 ·exact ⟨okb_lox h1, okb_hix h2⟩
theorem ob_beq (x : Option Int) : ((ob x).toList == (⟨#[]⟩ : ByteArray).toList) = decide (x = none) := by
 cases x with
 | none => rw [ob, show (⟨#[]⟩ : ByteArray) = bs [] from rfl, beq_bs]; simp
 | some z =>
  rw [ob, show (⟨#[]⟩ : ByteArray) = bs [] from rfl, beq_bs, decide_eq_false (itoa_ne z)]
  simp
theorem of_f (lf : Nat) (a : A) : interval_of.f lf (ac a) = some (sc (ofA a), ()) := by
 obtain ⟨em, lo, hi⟩ := a
 rw [interval_of.f]
 simp only [ac, ofA]
 cases em with
 | true => rw [brT, none_f, bdS]; rfl
 | false =>
  simp only [brF, interval_infinite.f, interval_finite.f, bdS, ob_beq]
  cases lo <;> cases hi <;> simp [brT, brF, sc, lox, hix, xc, ob]
def clip (z : Int) : Option Int := if -C < z ∧ z < C then some z else none
def tx : X → Option Int
 | .fin z => clip z
 | _ => none
def toA (s : Sp) : A := if emp s = true then ⟨true, none, none⟩ else ⟨false, tx s.lo, tx s.hi⟩
end Go.N
namespace Go.N
open Go Go.Q Go.Rx
def ck (em : Bool) (l h : List UInt8) : Int :=
 if em = true ∧ (l ≠ [] ∨ h ≠ []) then 3 else if l ≠ [] ∧ num l ≠ 0 then num l else if h ≠ [] ∧ num h ≠ 0 then num h else if l ≠ [] ∧ h ≠ [] ∧ iv h < iv l then 14 else 0
theorem num_chk {l : List UInt8} (h : num l = 0) : chk l = 0 := chk_zero.2 ⟨(num_zero.1 h).1, by have := (num_zero.1 h).2; omega⟩
theorem num_len {l : List UInt8} (h : num l = 0) : l.length ≤ 101 := by have := len_nlen l; have := (num_zero.1 h).2; omega
theorem bneT {x : Int} (h : ¬ x = 0) : (x != 0) = true := by simpa using h
theorem e0 : (⟨#[]⟩ : ByteArray) = bs [] := rfl
theorem sgn_gt (a b : Int) : decide (sgn (a - b) > 0) = decide (b < a) := by
 simp only [decide_eq_decide]; unfold sgn; (repeat' split) <;> omega
set_option maxHeartbeats 1000000 in
theorem check_iv (lf : Nat) (h3 : 200000 ≤ lf) (em : Bool) (l h : List UInt8) (hl : l.length ≤ 9223372036854775807) (hh : h.length ≤ 9223372036854775807) : interval_Check.f lf (em, bs l, bs h, ()) = some (ck em l h, ()) := by
 rw [interval_Check.f]
 simp only [e0, beq_bs, number_f lf l (by omega), number_f lf h (by omega), bdS]
 have ho : num l = 0 → num h = 0 → interval_order.f lf (bs l) (bs h) = some (sgn (iv l - iv h), ()) := fun a b => iorder_f lf l h (num_chk a) (num_chk b) h3
 unfold ck
 by_cases n1 : num l = 0 <;> by_cases n2 : num h = 0
 ·simp only [ho n1 n2, bdS, sgn_gt]
  by_cases h1 : l = [] <;> by_cases h2 : h = [] <;> by_cases h4 : iv h < iv l <;> cases em <;> simp [h1, h2, h4, n1, n2, brT, brF] <;> simp_all
 ·by_cases h1 : l = [] <;> by_cases h2 : h = [] <;> cases em <;> simp [h1, h2, n1, n2, bneT n2, brT, brF] <;> simp_all [bneT n2, brT]
 ·by_cases h1 : l = [] <;> by_cases h2 : h = [] <;> cases em <;> simp [h1, h2, n1, n2, bneT n1, brT, brF] <;> simp_all [bneT n1, brT]
 ·by_cases h1 : l = [] <;> by_cases h2 : h = [] <;> cases em <;> simp [h1, h2, n1, n2, bneT n1, bneT n2, brT, brF] <;> simp_all [bneT n1, bneT n2, brT]
theorem bound_ref (lf : Nat) (l : List UInt8) (hl : l.length ≤ 9223372036854775807) (hf : l.length ≤ lf) : surveyorref21_bound.f lf (bs l) = some ((if l = [] then 0 else num l), ()) := by
 rw [surveyorref21_bound.f, e0, beq_bs, rNumber_f lf l hl hf, bdS]
 by_cases h : l = []
 ·rw [decide_eq_true h, brT, if_pos h]
 ·rw [decide_eq_false h, brF, if_neg h]
set_option maxHeartbeats 1000000 in
theorem check_ref (lf : Nat) (h3 : 200000 ≤ lf) (em : Bool) (l h : List UInt8) (hl : l.length ≤ 9223372036854775807) (hh : h.length ≤ 9223372036854775807) (fl : l.length ≤ lf) (fh : h.length ≤ lf) : surveyorref21_Check.f lf (em, bs l, bs h, ()) = some (ck em l h, ()) := by
 rw [surveyorref21_Check.f]
 simp only [e0, beq_bs, bound_ref lf l hl fl, bound_ref lf h hh fh, bdS]
 have ho : num l = 0 → num h = 0 → surveyorref01_Less.f lf (bs h) (bs l) = some (decide (iv h < iv l), ()) := fun a b =>
  less_f lf h l (num_zero.1 b).1 (num_zero.1 a).1 (by have := num_len b; omega) (by have := num_len a; omega) h3
 unfold ck
 by_cases n1 : num l = 0 <;> by_cases n2 : num h = 0
 ·simp only [ho n1 n2, bdS]
  by_cases h1 : l = [] <;> by_cases h2 : h = [] <;> by_cases h4 : iv h < iv l <;> cases em <;> simp [h1, h2, h4, n1, n2, brT, brF] <;> simp_all
 ·by_cases h1 : l = [] <;> by_cases h2 : h = [] <;> cases em <;> simp [h1, h2, n1, n2, bneT n2, brT, brF] <;> simp_all [bneT n2, brT]
 ·by_cases h1 : l = [] <;> by_cases h2 : h = [] <;> cases em <;> simp [h1, h2, n1, n2, bneT n1, brT, brF] <;> simp_all [bneT n1, brT]
 ·by_cases h1 : l = [] <;> by_cases h2 : h = [] <;> cases em <;> simp [h1, h2, n1, n2, bneT n1, bneT n2, brT, brF] <;> simp_all [bneT n1, bneT n2, brT]
theorem ck_wf {em : Bool} {l h : List UInt8} (hc : ck em l h = 0) : ∃ a : A, ((em, bs l, bs h, ()) : IV) = ac a ∧ Wf a := by
 have c1 : ¬ (em = true ∧ (l ≠ [] ∨ h ≠ [])) := by intro hx; unfold ck at hc; rw [if_pos hx] at hc; cases hc
 have c2 : ¬ (l ≠ [] ∧ num l ≠ 0) := by intro hx; unfold ck at hc; rw [if_neg c1, if_pos hx] at hc; exact hx.2 hc
 have c3 : ¬ (h ≠ [] ∧ num h ≠ 0) := by intro hx; unfold ck at hc; rw [if_neg c1, if_neg c2, if_pos hx] at hc; exact hx.2 hc
 have c4 : ¬ (l ≠ [] ∧ h ≠ [] ∧ iv h < iv l) := by intro hx; unfold ck at hc; rw [if_neg c1, if_neg c2, if_neg c3, if_pos hx] at hc; cases hc
 have key : ∀ m : List UInt8, ¬ (m ≠ [] ∧ num m ≠ 0) → ∃ o : Option Int, bs m = ob o ∧ okb C o ∧ (o = none ↔ m = []) ∧ ∀ z, o = some z → z = iv m := by
  intro m hm
  by_cases h0 : m = []
  ·exact ⟨none, by rw [h0]; rfl, trivial, by simp [h0], by simp⟩
  ·have hn : num m = 0 := by
    by_cases e : num m = 0
    ·exact e
    ·exact absurd ⟨h0, e⟩ hm
   have e := itoa_iv (num_zero.1 hn).1
   have hb := hn
   rw [e, num_itoa] at hb
   exact ⟨some (iv m), by rw [ob, ← e], hb, by simp [h0], fun z hz => (Option.some.inj hz).symm⟩
 obtain ⟨o1, a1, b1, d1, f1⟩ := key l c2
 obtain ⟨o2, a2, b2, d2, f2⟩ := key h c3
 refine ⟨⟨em, o1, o2⟩, by rw [ac, a1, a2], ⟨?_, b1, b2, ?_⟩⟩
 ·intro he
  constructor
  ·apply d1.2
   by_cases e : l = []
   ·exact e
   ·exact absurd ⟨he, .inl e⟩ c1
  ·apply d2.2
   by_cases e : h = []
   ·exact e
   ·exact absurd ⟨he, .inr e⟩ c1
 ·cases o1 with
  | none => trivial
  | some x => cases o2 with
   | none => trivial
   | some y =>
    have h1 : l ≠ [] := fun e => by cases d1.2 e
    have h2 : h ≠ [] := fun e => by cases d2.2 e
    have e1 := f1 x rfl
    have e2 := f2 y rfl
    simp only [le?]
    by_cases hle : x ≤ y
    ·exact hle
    ·exact absurd ⟨h1, h2, by omega⟩ c4
theorem wf_ck {a : A} (h : Wf a) : ∃ l m, ac a = (a.em, bs l, bs m, ()) ∧ ck a.em l m = 0 ∧ l.length ≤ 101 ∧ m.length ≤ 101 := by
 have key : ∀ o : Option Int, okb C o → ∃ m, ob o = bs m ∧ (m ≠ [] → num m = 0) ∧ (m = [] ↔ o = none) ∧ (∀ z, o = some z → iv m = z) ∧ m.length ≤ 101 := by
  intro o ho
  cases o with
  | none => exact ⟨[], rfl, fun h => absurd rfl h, by simp, by simp, by simp⟩
  | some z =>
   have hn := (num_itoa z).2 ho
   exact ⟨Lib.itoa z, rfl, fun _ => hn, by simp [itoa_ne z], fun u hu => by rw [iv_itoa]; exact Option.some.inj hu, num_len hn⟩
 obtain ⟨l, a1, b1, c1, d1, e1⟩ := key a.lo h.lo
 obtain ⟨m, a2, b2, c2, d2, e2⟩ := key a.hi h.hi
 refine ⟨l, m, by rw [ac, a1, a2], ?_, e1, e2⟩
 unfold ck
 have hem := h.em
 have hle := h.le
 rw [if_neg, if_neg, if_neg, if_neg]
 ·rintro ⟨x1, x2, x3⟩
  cases hlo : a.lo with
  | none => exact x1 (c1.2 hlo)
  | some x => cases hhi : a.hi with
   | none => exact x2 (c2.2 hhi)
   | some y =>
    rw [hlo, hhi] at hle
    simp only [le?] at hle
    rw [d1 x hlo, d2 y hhi] at x3
    omega
 ·rintro ⟨x1, x2⟩; exact x2 (b2 x1)
 ·rintro ⟨x1, x2⟩; exact x2 (b1 x1)
 ·rintro ⟨x1, x2⟩
  obtain ⟨p, q⟩ := hem x1
  rcases x2 with x2 | x2
  ·exact x2 (c1.2 p)
  ·exact x2 (c2.2 q)
theorem check_wf (lf : Nat) (h3 : 200000 ≤ lf) {a : A} (h : Wf a) : interval_Check.f lf (ac a) = some (0, ()) := by
 obtain ⟨l, m, e, hc, h1, h2⟩ := wf_ck h
 rw [e, check_iv lf h3 _ _ _ (by omega) (by omega), hc]
theorem check_wf_ref (lf : Nat) (h3 : 200000 ≤ lf) {a : A} (h : Wf a) : surveyorref21_Check.f lf (ac a) = some (0, ()) := by
 obtain ⟨l, m, e, hc, h1, h2⟩ := wf_ck h
 rw [e, check_ref lf h3 _ _ _ (by omega) (by omega) (by omega) (by omega), hc]
theorem Wf.okC {a : A} (h : Wf a) : oks C (ofA a) := ofA_ok h.lo h.hi
theorem Wf.okK {a : A} (h : Wf a) : oks K (ofA a) := h.okC.mono (Int.le_of_lt C_lt_K)
theorem emp_ofA {a : A} (h : Wf a) : emp (ofA a) = a.em := by
 have hK := K_gt
 have hC := C_lt_K
 obtain ⟨em, lo, hi⟩ := a
 obtain ⟨h1, h2, h3, h4⟩ := h
 unfold ofA
 cases em with
 | true => exact emp_non
 | false =>
  rw [if_neg (by simp)]
  apply decide_eq_false
  cases lo <;> cases hi <;> simp only [lox, hix, key, okb, le?] at * <;> omega
end Go.N
namespace Go.N
open Go Go.Q Go.Rx
structure Ks (s : Sp) (e : Bool) : Prop where
 ok : oks K s
 e1 : e = true → s = non
 e2 : e = false → key s.lo ≤ key s.hi ∧ key s.lo < K ∧ -K < key s.hi
theorem Wf.ks {a : A} (h : Wf a) : Ks (ofA a) a.em := by
 have hK := K_gt
 have hC := C_lt_K
 refine ⟨h.okK, fun e => by unfold ofA; rw [if_pos e], fun e => ?_⟩
 have := emp_ofA h
 rw [e] at this
 unfold emp at this
 simp only [decide_eq_false_iff_not] at this
 refine ⟨by omega, ?_, ?_⟩
 ·unfold ofA; rw [if_neg (by simp [e])]
  have h0 := h.lo
  cases hx : a.lo with
  | none => simp only [lox, key]; omega
  | some z => rw [hx] at h0; simp only [lox, key, okb] at *; omega
 ·unfold ofA; rw [if_neg (by simp [e])]
  have h0 := h.hi
  cases hx : a.hi with
  | none => simp only [hix, key]; omega
  | some z => rw [hx] at h0; simp only [hix, key, okb] at *; omega
theorem ba_beq (x y : ByteArray) : (x == y) = decide (x = y) := by
 have e : (x == y) = (x.data == y.data) := rfl
 rw [e]
 obtain ⟨x⟩ := x
 obtain ⟨y⟩ := y
 by_cases h : x = y
 ·subst h; simp
 ·have : ¬ (⟨x⟩ : ByteArray) = ⟨y⟩ := fun e => h (by injection e)
  rw [decide_eq_false this]; simpa using h
end Go.N
namespace Go.N
open Go.IntKind (i64)
open Go Go.Q Go.Rx
abbrev D (n : Nat) : List UInt8 := Lib.decDigits n
def zs (n : Nat) : List UInt8 := List.replicate n 48
theorem zs_all (n : Nat) : (zs n).all isDig = true := by
 unfold zs
 rw [List.all_eq_true]
 intro b hb
 rw [(List.mem_replicate.1 hb).2]; rfl
theorem dv_zs : ∀ n : Nat, dv (zs n) = 0
 | 0 => rfl
 | n + 1 => by
  unfold zs
  rw [List.replicate_succ', dv_snoc]
  have := dv_zs n
  unfold zs at this
  rw [this]; rfl
theorem dec_pad {v x k : Nat} (hv : 0 < v) (hk : 0 < k) (hx : x < 10 ^ k) : D (v * 10 ^ k + x) = D v ++ (zs (k - (D x).length) ++ D x) := by
 have hlen : (D x).length ≤ k := by
  obtain ⟨j, rfl⟩ := Nat.exists_eq_succ_of_ne_zero (show k ≠ 0 by omega)
  exact dec_len_le j x hx
 obtain ⟨b, r, e, hb⟩ := dec_head (show v ≠ 0 by omega)
 have h1 : (D v ++ (zs (k - (D x).length) ++ D x)).all isDig = true := by
  rw [List.all_append, List.all_append, dec_all, zs_all, dec_all]; rfl
 have h2 : dv (D v ++ (zs (k - (D x).length) ++ D x)) = v * 10 ^ k + x := by
  rw [dv_app, dv_app, dv_zs, dv_dec, dv_dec, List.length_append]
  unfold zs
  rw [List.length_replicate, Nat.sub_add_cancel hlen]; omega
 have h3 := dec_of h1 (by rw [show D v = b :: r from e]; simp) (.inl (by rw [show D v = b :: r from e]; simpa using hb))
 rw [h2] at h3
 exact h3.symm
theorem dec_pad_len {v x k : Nat} (hv : 0 < v) (hk : 0 < k) (hx : x < 10 ^ k) : (D (v * 10 ^ k + x)).length = (D v).length + k := by
 have hlen : (D x).length ≤ k := by
  obtain ⟨j, rfl⟩ := Nat.exists_eq_succ_of_ne_zero (show k ≠ 0 by omega)
  exact dec_len_le j x hx
 rw [dec_pad hv hk hx, List.length_append, List.length_append]
 unfold zs
 rw [List.length_replicate]; omega
def uv (L : List Int) (k : Nat) : Nat := (lv G (L.drop k)).toNat
theorem uv_succ {L : List Int} (h : Dg G L) (k : Nat) (hk : k < L.length) : uv L k = uv L (k + 1) * 10 ^ 9 + (L[k]).toNat := by
 unfold uv
 rw [List.drop_eq_getElem_cons hk, lv]
 have h1 := h.at k hk
 have h2 := lv_nonneg (B := G) (by decide) (h.drop (k + 1))
 have e : (10 : Nat) ^ 9 = 1000000000 := by decide
 rw [e]
 simp only [G] at *
 omega
theorem uv_len (L : List Int) : uv L L.length = 0 := by unfold uv; rw [List.drop_length]; rfl
theorem uv_pos {L : List Int} (h : Dg G L) (ht : Tr L) {k : Nat} (hk : k < L.length) : 0 < uv L k := by
 have hT : Tr (L.drop k) := by
  unfold Tr at *
  rw [List.getLast?_drop, if_neg (by omega)]
  exact ht
 have := lv_pos (B := G) (by decide) (h.drop k) hT (by intro e; have := congrArg List.length e; simp at this; omega)
 unfold uv; omega
theorem uv_dlen {L : List Int} (h : Dg G L) {k : Nat} (hk : k < L.length) : (D (uv L k)).length ≤ 9 * (L.length - k) := by
 have h1 := lv_lt (B := G) (by decide) (h.drop k)
 have h2 := lv_nonneg (B := G) (by decide) (h.drop k)
 rw [List.length_drop] at h1
 have h3 : uv L k < 10 ^ (9 * (L.length - k)) := by
  unfold uv
  have e : (G : Int) ^ (L.length - k) = ((10 ^ (9 * (L.length - k)) : Nat) : Int) := by
   rw [Nat.pow_mul]
   have : (10 : Nat) ^ 9 = 1000000000 := by decide
   rw [this]
   simp [G]
  rw [e] at h1
  omega
 obtain ⟨j, hj⟩ := Nat.exists_eq_succ_of_ne_zero (show 9 * (L.length - k) ≠ 0 by omega)
 rw [hj] at h3 ⊢
 exact dec_len_le j _ h3
theorem itoa_nn {y : Int} (h : 0 ≤ y) : Lib.itoa y = D y.toNat := by unfold Lib.itoa; rw [if_neg (by omega)]
theorem bItoa (lf : Nat) {y : Int} (h1 : 0 ≤ y) (h2 : y < G) : B.Itoa.f lf y = some (bs (D y.toNat), ()) := by
 simp only [G] at h2
 unfold B.Itoa.f
 rw [if_pos ⟨by omega, by omega⟩, itoa_nn h1]
theorem repeat48 : ∀ c : Nat, Lib.repeatL [48] c = zs c
 | 0 => rfl
 | c + 1 => by rw [Lib.repeatL, repeat48 c]; rfl
theorem bRepeat (lf : Nat) (c : Nat) (h : c ≤ 9) : B.Repeat.f lf (⟨#[48]⟩ : ByteArray) (c : Int) = some (bs (zs c), ()) := by
 unfold B.Repeat.f
 have e : (⟨#[48]⟩ : ByteArray).size = 1 := rfl
 rw [e, if_pos ⟨by omega, by omega, by rw [Int.toNat_natCast]; omega⟩, Int.toNat_natCast]
 show some (bs (Lib.repeatL [48] c), ()) = _
 rw [repeat48]
abbrev si (l : List UInt8) : List Int := l.map fun b => (b.toNat : Int)
theorem si_app (l m : List UInt8) : si l ++ si m = si (l ++ m) := by simp [si]
theorem limb_step (lf : Nat) {L : List Int} (h : Dg G L) (ht : Tr L) (hl : L.length ≤ 100000) (k : Nat) (hk : k < L.length) (pre : List UInt8) (hp : pre.length ≤ 1) {R : Type} (f : List Int → Option R) :
    (bd (idxL L (k : Nat)) fun y2 => bd (B.Itoa.f lf y2) fun r3 => br (decide (((k : Nat) : Int) < i64.wrap (((L.length : Nat) : Int) - 1)))
      (bd (B.Repeat.f lf (⟨#[48]⟩ : ByteArray) (i64.wrap (9 - ((r3.1.size : Nat) : Int)))) fun r4 => bd (apL true 1 (si (pre ++ (if k + 1 = L.length then [] else D (uv L (k + 1))))) (sBytes r4.1)) fun l5 => bd (apL true 1 l5 (sBytes r3.1)) fun l6 => f l6)
      (bd (apL true 1 (si (pre ++ (if k + 1 = L.length then [] else D (uv L (k + 1))))) (sBytes r3.1)) fun l7 => f l7)) = f (si (pre ++ D (uv L k))) := by
  have hy := h.at k hk
  have hlx : (D (L[k]).toNat).length ≤ 9 := dec_len_le 8 _ (by simp only [G] at hy; have : (10 : Nat) ^ (8 + 1) = 1000000000 := by decide
                                                               omega)
  rw [idxL_nat L k hk, bdS, bItoa lf hy.1 hy.2, bdS, w64 (n := ((L.length : Nat) : Int) - 1) (by omega) (by omega)]
  simp only [bs_size]
  rw [uv_succ h k hk]
  by_cases hlast : k + 1 = L.length
  · rw [decide_eq_false (by omega), brF, if_pos hlast, hlast, uv_len, List.append_nil]
    simp only [sBytes_bs]
    rw [apL_ok 1 _ _ (by omega) (by simp; omega), bdS, si_app]
    simp
  · have hd := uv_dlen h (k := k + 1) (by omega)
    rw [decide_eq_true (by omega), brT, if_neg hlast, w64 (by omega) (by omega)]
    rw [show (9 : Int) - ((D (L[k]).toNat).length : Nat) = ((9 - (D (L[k]).toNat).length : Nat) : Int) by omega, bRepeat lf _ (by omega), bdS]
    simp only [sBytes_bs]
    have hz : (zs (9 - (D (L[k]).toNat).length)).length = 9 - (D (L[k]).toNat).length := by simp [zs]
    rw [apL_ok 1 _ _ (by omega) (by simp only [List.length_map, List.length_append]; omega), bdS, si_app]
    rw [apL_ok 1 _ _ (by omega) (by simp only [List.length_map, List.length_append]; omega), bdS, si_app]
    rw [dec_pad (uv_pos h ht (by omega)) (by omega) (by simp only [G] at hy; have : (10 : Nat) ^ 9 = 1000000000 := by decide
                                                        omega)]
    simp only [List.append_assoc]
theorem text_l0 (lf : Nat) {L : List Int} (h : Dg G L) (ht : Tr L) (hl : L.length ≤ 100000) (b : Bool) (q : List Int) (pre : List UInt8) (hp : pre.length ≤ 1) : ∀ (k n : Nat), k ≤ L.length → k < n →
  bigint_number_text.l0 lf b L q L n ((k : Nat) - 1 : Int) (si (pre ++ (if k = L.length then [] else D (uv L k)))) = some ((si (pre ++ (if L.length = 0 then [] else D (uv L 0))), ()), ()) := by
 intro k
 induction k with
 | zero =>
  intro n hk hn
  obtain ⟨m, rfl⟩ := Nat.exists_eq_succ_of_ne_zero (show n ≠ 0 by omega)
  rw [bigint_number_text.l0, bigint_number_text.r0, decide_eq_false (by omega), brF]
  congr 5
  by_cases e : L.length = 0 <;> simp [e, eq_comm]
 | succ k ih =>
  intro n hk hn
  obtain ⟨m, rfl⟩ := Nat.exists_eq_succ_of_ne_zero (show n ≠ 0 by omega)
  rw [bigint_number_text.l0, bigint_number_text.r0, decide_eq_true (by omega), brT, show ((k + 1 : Nat) : Int) - 1 = (k : Nat) by omega]
  have st := limb_step lf h ht hl k (by omega) pre hp (fun l => bigint_number_text.l0 lf b L q L m (i64.wrap (((k : Nat) : Int) - 1)) l)
  rw [st, w64 (by omega) (by omega)]
  have := ih m (by omega) (by omega)
  rw [if_neg (show ¬ k = L.length by omega)] at this
  exact this
theorem text_l2 (lf : Nat) {L : List Int} (h : Dg G L) (ht : Tr L) (hl : L.length ≤ 100000) (b : Bool) (pre : List UInt8) (hp : pre.length ≤ 1) : ∀ (k n : Nat), k ≤ L.length → k < n →
  bigint_number_text.l2 lf b L L n ((k : Nat) - 1 : Int) (si (pre ++ (if k = L.length then [] else D (uv L k)))) = some ((b, L, L, si (pre ++ (if L.length = 0 then [] else D (uv L 0))), ()), ()) := by
 intro k
 induction k with
 | zero =>
  intro n hk hn
  obtain ⟨m, rfl⟩ := Nat.exists_eq_succ_of_ne_zero (show n ≠ 0 by omega)
  rw [bigint_number_text.l2, bigint_number_text.r2, decide_eq_false (by omega), brF]
  congr 8
  by_cases e : L.length = 0 <;> simp [e, eq_comm]
 | succ k ih =>
  intro n hk hn
  obtain ⟨m, rfl⟩ := Nat.exists_eq_succ_of_ne_zero (show n ≠ 0 by omega)
  rw [bigint_number_text.l2, bigint_number_text.r2, decide_eq_true (by omega), brT, show ((k + 1 : Nat) : Int) - 1 = (k : Nat) by omega]
  have st := limb_step lf h ht hl k (by omega) pre hp (fun l => bigint_number_text.l2 lf b L L m (i64.wrap (((k : Nat) : Int) - 1)) l)
  rw [st, w64 (by omega) (by omega)]
  have := ih m (by omega) (by omega)
  rw [if_neg (show ¬ k = L.length by omega)] at this
  exact this
theorem ntext_f (lf : Nat) {p : Bool × (List Int × Unit)} {z : Int} {k : Nat} (h : RN p z k) (hk : k ≤ 100000) (h3 : 200000 ≤ lf) : bigint_number_text.f lf p = some (bs (Lib.itoa z), ()) := by
 obtain ⟨ng, L, ⟨⟩⟩ := p
 obtain ⟨hd, ht, hl, hv⟩ := h
 simp only at hd ht hl hv
 rw [bigint_number_text.f]
 simp only
 by_cases h0 : L = []
 ·subst h0
  have : z = 0 := by rw [hv]; cases ng <;> simp [lv]
  subst this
  rw [show (((([] : List Int).length : Nat) : Int) == 0) = true from rfl, brT]
  have : Lib.itoa 0 = [48] := by unfold Lib.itoa; rw [if_neg (by omega)]; exact dec_zero
  rw [this]
 ·have hne : L.length ≠ 0 := fun e => h0 (List.length_eq_zero_iff.1 e)
  have hb : ((((L.length : Nat) : Int)) == 0) = false := by rw [beq_eq_false_iff_ne]; omega
  rw [hb, brF]
  have hu : (uv L 0 : Int) = lv G L := by
   have := lv_nonneg (B := G) (by decide) hd
   unfold uv; rw [List.drop_zero]; omega
  have hup := uv_pos hd ht (k := 0) (by omega)
  cases ng with
  | true =>
   rw [brT, apL_ok 1 _ _ (by omega) (by simp), bdS, w64 (by omega) (by omega)]
   have st := text_l0 lf hd ht (by omega) true [45] [45] (by simp) L.length (lf + 40) (Nat.le_refl _) (by omega)
   rw [if_pos rfl, if_neg hne] at st
   simp only [List.append_nil, List.nil_append] at st ⊢
   rw [show si [45] = ([45] : List Int) from rfl] at st
   rw [st, bdS]
   simp only
   rw [if_pos (by simp), bdS, bytesS_map]
   congr 2
   rw [if_pos rfl] at hv
   unfold Lib.itoa
   rw [if_pos (by omega), show z.natAbs = uv L 0 by omega]
   rfl
  | false =>
   rw [brF, w64 (by omega) (by omega)]
   obtain ⟨m, hm⟩ : ∃ m, lf + 40 = m + 1 := ⟨lf + 39, by omega⟩
   obtain ⟨t, htl⟩ := Nat.exists_eq_succ_of_ne_zero hne
   rw [hm, bigint_number_text.l1, bigint_number_text.r1, decide_eq_true (by omega), brT]
   have e1 : ((L.length : Nat) : Int) - 1 = (t : Nat) := by omega
   rw [e1]
   have st := limb_step lf hd ht (by omega) t (by omega) [] (by simp) (fun l => bd (bigint_number_text.l2 lf false L L m (i64.wrap (((t : Nat) : Int) - 1)) l) fun z22 => some (false, (false, ([] : List Int), ([] : List Int), ([] : List Int), ()), ((z22.1.1, z22.1.2.1, z22.1.2.2.1, z22.1.2.2.2.1, ()), ())))
   rw [if_pos (by omega)] at st
   simp only [List.append_nil, List.nil_append] at st
   rw [show si [] = ([] : List Int) from rfl, e1] at st
   rw [st, w64 (by omega) (by omega)]
   have st2 := text_l2 lf hd ht (by omega) false [] (by simp) t m (by omega) (by omega)
   rw [if_neg (by omega), if_neg hne] at st2
   simp only [List.nil_append] at st2
   rw [st2, bdS, bdS]
   simp only [brF]
   have hl0 : 0 < (D (uv L 0)).length := List.length_pos_iff.2 (dec_ne _)
   rw [if_pos (by simpa using hl0), bdS, bytesS_map]
   congr 2
   rw [if_neg (by simp)] at hv
   unfold Lib.itoa
   rw [if_neg (by omega), show z.toNat = uv L 0 by omega]
theorem uv_dlen_eq {L : List Int} (h : Dg G L) (ht : Tr L) (hn : 0 < L.length) : ∀ j, j < L.length → (D (uv L (L.length - 1 - j))).length = 9 * j + (D (L[L.length - 1]).toNat).length
  | 0, _ => by
    rw [Nat.sub_zero, uv_succ h (L.length - 1) (by omega), show L.length - 1 + 1 = L.length by omega, uv_len]
    simp
  | j + 1, hj => by
    have ih := uv_dlen_eq h ht hn j (by omega)
    have hk : L.length - 1 - (j + 1) < L.length := by omega
    have hy := h.at _ hk
    rw [uv_succ h _ hk, dec_pad_len (uv_pos h ht (by omega)) (by omega) (by simp only [G] at hy; have : (10 : Nat) ^ 9 = 1000000000 := by decide
                                                                            omega)]
    rw [show L.length - 1 - (j + 1) + 1 = L.length - 1 - j by omega, ih]; omega
theorem size_f (lf : Nat) {p : Bool × (List Int × Unit)} {z : Int} {k : Nat} (h : RN p z k) (hk : k ≤ 100000) : bigint_number_size.f lf p = some ((if z = 0 then 0 else ((D z.natAbs).length : Int)), ()) := by
  obtain ⟨ng, L, ⟨⟩⟩ := p
  obtain ⟨hd, ht, hl, hv⟩ := h
  simp only at hd ht hl hv
  rw [bigint_number_size.f]
  simp only
  by_cases h0 : L = []
  · subst h0
    have : z = 0 := by rw [hv]; cases ng <;> simp [lv]
    subst this
    rw [show (((([] : List Int).length : Nat) : Int) == 0) = true from rfl, brT]
    rfl
  · have hne : L.length ≠ 0 := fun e => h0 (List.length_eq_zero_iff.1 e)
    have hb : ((((L.length : Nat) : Int)) == 0) = false := by rw [beq_eq_false_iff_ne]; omega
    have hup := uv_pos hd ht (k := 0) (by omega)
    have hu : (uv L 0 : Int) = lv G L := by
      have := lv_nonneg (B := G) (by decide) hd
      unfold uv; rw [List.drop_zero]; omega
    have hy := hd.at (L.length - 1) (by omega)
    have hlx : (D (L[L.length - 1]).toNat).length ≤ 9 := dec_len_le 8 _ (by simp only [G] at hy; have : (10 : Nat) ^ (8 + 1) = 1000000000 := by decide
                                                                            omega)
    have e := uv_dlen_eq hd ht (by omega) (L.length - 1) (by omega)
    rw [show L.length - 1 - (L.length - 1) = 0 by omega] at e
    have hz : z.natAbs = uv L 0 ∧ z ≠ 0 := by cases ng <;> simp at hv <;> omega
    rw [hb, brF, w64 (n := ((L.length : Nat) : Int) - 1) (by omega) (by omega), idxL_int L _ (L.length - 1) (by omega) (by omega), bdS, bItoa lf hy.1 hy.2, bdS]
    simp only [bs_size]
    rw [w64 (n := (((L.length : Nat) : Int) - 1) * 9) (by omega) (by omega), w64 (by omega) (by omega), if_neg hz.2, hz.1, e]
    congr 2
    omega
theorem written_f (lf : Nat) {p : Bool × (List Int × Unit)} {z : Int} {k : Nat} (h : RN p z k) (hk : k ≤ 100000) (h3 : 200000 ≤ lf) :
  bigint_written.f lf p = some (if (D z.natAbs).length > 4096 then (bs [], 10, ()) else (bs (Lib.itoa z), 0, ())) := by
 rw [bigint_written.f, size_f lf h hk, bdS, ntext_f lf h hk h3, bdS]
 by_cases hz : z = 0
 ·rw [hz, if_pos rfl, decide_eq_false (by omega), brF]
  rw [show (0 : Int).natAbs = 0 from rfl, show (D 0).length = 1 from by rw [show D 0 = [48] from dec_zero]; rfl, if_neg (by omega)]
 ·rw [if_neg hz]
  by_cases h' : (D z.natAbs).length > 4096
  ·rw [decide_eq_true (by omega), brT, if_pos h']
  ·rw [decide_eq_false (by omega), brF, if_neg h']
theorem sub_f (lf : Nat) (l m : List UInt8) (h1 : chk l = 0) (h2 : chk m = 0) (h3 : 200000 ≤ lf) :
  bigint_Sub.f lf (bs l) (bs m) = some (if (D (iv l - iv m).natAbs).length > 4096 then (bs [], 10, ()) else (bs (Lib.itoa (iv l - iv m)), 0, ())) := by
 obtain ⟨p, q, e, k1, k2, _⟩ := pair_f lf l m h1 h2 h3
 rw [bigint_Sub.f, e, bdS]
 simp only [bne_self_eq_false, brF]
 obtain ⟨q', e2, k3⟩ := negated_f lf k2
 rw [e2, bdS]
 obtain ⟨s, e3, k4⟩ := sum_f lf k1 k3 (by omega) h3
 rw [e3, bdS, written_f lf k4 (by omega) h3, bdS, ← Int.sub_eq_add_neg]
theorem add_f (lf : Nat) (l m : List UInt8) (h1 : chk l = 0) (h2 : chk m = 0) (h3 : 200000 ≤ lf) :
  bigint_Add.f lf (bs l) (bs m) = some (if (D (iv l + iv m).natAbs).length > 4096 then (bs [], 10, ()) else (bs (Lib.itoa (iv l + iv m)), 0, ())) := by
 obtain ⟨p, q, e, k1, k2, _⟩ := pair_f lf l m h1 h2 h3
 rw [bigint_Add.f, e, bdS]
 simp only [bne_self_eq_false, brF]
 obtain ⟨s, e3, k4⟩ := sum_f lf k1 k2 (by omega) h3
 rw [e3, bdS, written_f lf k4 (by omega) h3, bdS]
end Go.N
namespace Go.N
open Go.IntKind (i64)
open Go Go.Q Go.Rx
theorem lv_set (B : Int) : ∀ (l : List Int) (k : Nat) (v : Int) (h : k < l.length), lv B (l.set k v) = lv B l + B ^ k * (v - l[k])
 | x :: l, 0, v, h => by simp [lv]; omega
 | x :: l, k + 1, v, h => by
  have ih := lv_set B l k v (by simpa using h)
  simp only [List.set_cons_succ, lv, ih, List.getElem_cons_succ, Int.pow_succ]
  grind
theorem dg_set {B : Int} {l : List Int} (h : Dg B l) (k : Nat) {v : Int} (hv : 0 ≤ v ∧ v < B) : Dg B (l.set k v) := fun y hy => by
 rcases List.mem_or_eq_of_mem_set hy with hy | rfl
 ·exact h y hy
 ·exact hv
theorem mul_bd {a y : Int} (h1 : 0 ≤ a) (h2 : a < G) (h3 : 0 ≤ y) (h4 : y < G) : 0 ≤ a * y ∧ a * y ≤ 999999998000000001 := by
 refine ⟨Int.mul_nonneg h1 h3, ?_⟩
 have := Int.mul_le_mul (show a ≤ 999999999 by simp only [G] at *; omega) (show y ≤ 999999999 by simp only [G] at *; omega) h3 (by omega)
 omega
theorem ring_step (P B s o c a y D m q : Int) (h : m + B * q = s) (hs : s = c + (o + a * y)) : P * (m - o) + P * B * (q + a * D) = P * (c + a * (y + B * D)) := by grind
theorem times_val {B : Int} (xs ys : List Int) : lv B (List.replicate (xs.length + ys.length) 0) + B ^ 0 * (lv B (xs.drop 0) * lv B ys) = lv B xs * lv B ys := by
 rw [lv_zeros]; simp
theorem rtimes_l1 (lf : Nat) (xs : List Int) (a : Int) (i : Nat) (ys : List Int) (ha : 0 ≤ a ∧ a < 10) (hy : Dg 10 ys) (hi : i < xs.length) (hxa : xs[i] = a) : ∀ (k n j : Nat) (c : Int) (out : List Int), j + k = ys.length → k < n → 0 ≤ c → c < 10 → Dg 10 out → i + ys.length ≤ out.length → out.length ≤ 1000000 →
  ∃ c' out', surveyorref01_times.l1 lf xs ys (i : Nat) n c (j : Nat) out = some ((c', out', ()), ()) ∧ out'.length = out.length ∧ Dg 10 out' ∧ 0 ≤ c' ∧ c' < 10 ∧ lv 10 out' + 10 ^ (i + ys.length) * c' = lv 10 out + 10 ^ (i + j) * (c + a * lv 10 (ys.drop j)) ∧ ∀ q, i + ys.length ≤ q → out'[q]? = out[q]? := by
 intro k
 induction k with
 | zero =>
  intro n j c out hj hn c0 c1 hd hl hb
  obtain ⟨m, rfl⟩ := Nat.exists_eq_succ_of_ne_zero (show n ≠ 0 by omega)
  refine ⟨c, out, ?_, rfl, hd, c0, c1, ?_, fun q _ => rfl⟩
  ·rw [surveyorref01_times.l1, surveyorref01_times.r1, decide_eq_false (by omega), brF]
  ·rw [List.drop_of_length_le (by omega), show j = ys.length by omega]; simp [lv]
 | succ k ih =>
  intro n j c out hj hn c0 c1 hd hl hb
  obtain ⟨m, rfl⟩ := Nat.exists_eq_succ_of_ne_zero (show n ≠ 0 by omega)
  have hjl : j < ys.length := by omega
  have hp : i + j < out.length := by omega
  have y0 := hy.at j hjl
  have o0 := hd.at (i + j) hp
  have hm := mul_bd ha.1 (show a < G by simp only [G]; omega) y0.1 (show ys[j] < G by simp only [G]; omega)
  have hc9 : c < G := by simp only [G]; omega
  have ho9 : out[i + j] < G := by simp only [G]; omega
  have c0' := c0
  simp only [G] at hc9 ho9
  have e1 : i64.wrap (((i : Nat) : Int) + ((j : Nat) : Int)) = ((i + j : Nat) : Int) := by rw [w64 (by omega) (by omega)]; omega
  have e2 : i64.wrap (a * ys[j]) = a * ys[j] := w64 (by omega) (by omega)
  have e3 : i64.wrap (out[i + j] + a * ys[j]) = out[i + j] + a * ys[j] := w64 (by omega) (by omega)
  have e4 : i64.wrap (c + (out[i + j] + a * ys[j])) = c + (out[i + j] + a * ys[j]) := w64 (by omega) (by omega)
  have e5 : i64.wrap (((j : Nat) : Int) + 1) = ((j + 1 : Nat) : Int) := by rw [w64 (by omega) (by omega)]; omega
  obtain ⟨s, hs⟩ : ∃ s, s = c + (out[i + j] + a * ys[j]) := ⟨_, rfl⟩
  have s0 : 0 ≤ s := by omega
  have d0 := Int.emod_nonneg s (show 10 ≠ 0 by decide)
  have d1 := Int.emod_lt_of_pos s (show 0 < 10 by decide)
  have dd := Int.emod_add_mul_ediv s 10
  have q0 : 0 ≤ s / 10 := Int.ediv_nonneg s0 (by decide)
  have q1 : s / 10 < 10 := by
   apply Int.ediv_lt_of_lt_mul (by decide)
   have h1 : a * ys[j] ≤ (10 - 1) * (10 - 1) := Int.mul_le_mul (by omega) (by omega) y0.1 (by decide)
   try simp only [G] at *
   omega
  obtain ⟨c', out', r1, r2, r3, r4, r5, r6, r7⟩ := ih m (j + 1) (s / 10) (out.set (i + j) (s % 10)) (by omega) (by omega) q0 q1 (dg_set hd _ ⟨d0, d1⟩) (by rw [List.length_set]; exact hl) (by rw [List.length_set]; exact hb)
  refine ⟨c', out', ?_, by rw [r2, List.length_set], r3, r4, r5, ?_, fun q hq => ?_⟩
  ·rw [surveyorref01_times.l1, surveyorref01_times.r1, decide_eq_true (by omega), brT]
   rw [e1, idxB_nat _ _ hp, bdS, List.getElem?_eq_getElem hp, bdS, idxL_nat _ _ hi, bdS, idxL_nat _ _ hjl, bdS, hxa, e2, e3, e4, ← hs, iRem_nn s0 (by decide), bdS, bdS, upE_set _ _ _ hp, bdS, iQuo_nn s0 (by decide) (by omega), bdS, e5]
   exact r1
  ·rw [r6, lv_set 10 out (i + j) _ hp, List.drop_eq_getElem_cons hjl, lv, ← Nat.add_assoc, Int.pow_succ, Int.add_assoc, ring_step _ _ s out[i + j] c a ys[j] _ _ _ dd hs]
  ·rw [r7 q hq, List.getElem?_set_ne (by omega)]
theorem rtimes_l0 (lf : Nat)  (xs ys : List Int) (hx : Dg 10 xs) (hy : Dg 10 ys) (h3 : 200000 ≤ lf) (hly : ys.length ≤ 100000): ∀ (k n i : Nat) (out : List Int), i + k = xs.length → k < n → Dg 10 out → out.length = xs.length + ys.length → out.length ≤ 1000000 → (∀ q, i + ys.length ≤ q → q < out.length → out[q]? = some 0) →
  ∃ out', surveyorref01_times.l0 lf xs ys n (i : Nat) out = some ((out', ()), ()) ∧ out'.length = out.length ∧ Dg 10 out' ∧ lv 10 out' = lv 10 out + 10 ^ i * (lv 10 (xs.drop i) * lv 10 ys) := by
 intro k
 induction k with
 | zero =>
  intro n i out hi hn hd hl hb hz
  obtain ⟨m, rfl⟩ := Nat.exists_eq_succ_of_ne_zero (show n ≠ 0 by omega)
  refine ⟨out, ?_, rfl, hd, ?_⟩
  ·rw [surveyorref01_times.l0, surveyorref01_times.r0, decide_eq_false (by omega), brF]
  ·rw [List.drop_of_length_le (by omega)]; simp [lv]
 | succ k ih =>
  intro n i out hi hn hd hl hb hz
  obtain ⟨m, rfl⟩ := Nat.exists_eq_succ_of_ne_zero (show n ≠ 0 by omega)
  have hil : i < xs.length := by omega
  have x0 := hx.at i hil
  obtain ⟨c', out', r1, r2, r3, r4, r5, r6, r7⟩ := rtimes_l1 lf xs xs[i] i ys x0 hy hil rfl ys.length (lf + 40) 0 0 out (by omega) (by omega) (by decide) (by decide) hd (by omega) hb
  rw [show ((0 : Nat) : Int) = 0 from rfl] at r1
  have hp : i + ys.length < out'.length := by rw [r2]; omega
  have hz' : out'[i + ys.length] = 0 := by
   have h1 := r7 (i + ys.length) (Nat.le_refl _)
   rw [hz (i + ys.length) (Nat.le_refl _) (by omega), List.getElem?_eq_getElem hp] at h1
   exact Option.some.inj h1
  have e1 : i64.wrap (((i : Nat) : Int) + ((ys.length : Nat) : Int)) = ((i + ys.length : Nat) : Int) := by rw [w64 (by omega) (by omega)]; omega
  have e5 : i64.wrap (((i : Nat) : Int) + 1) = ((i + 1 : Nat) : Int) := by rw [w64 (by omega) (by omega)]; omega
  obtain ⟨out2, t1, t2, t3, t4⟩ := ih m (i + 1) (out'.set (i + ys.length) c') (by omega) (by omega) (dg_set r3 _ ⟨r4, r5⟩) (by rw [List.length_set, r2]; exact hl) (by rw [List.length_set, r2]; exact hb) (fun q h1 h2 => by
   rw [List.length_set, r2] at h2
   rw [List.getElem?_set_ne (by omega), r7 q (by omega)]
   exact hz q (by omega) h2)
  refine ⟨out2, ?_, by rw [t2, List.length_set, r2], t3, ?_⟩
  ·rw [surveyorref01_times.l0, surveyorref01_times.r0, decide_eq_true (by omega), brT]
   rw [r1, bdS, e1, idxB_nat _ _ hp, bdS, upE_set _ _ _ hp, bdS, e5]
   exact t1
  ·rw [t4, lv_set 10 out' (i + ys.length) _ hp, hz', List.drop_eq_getElem_cons hil, lv]
   simp only [List.drop_zero, Nat.add_zero] at r6
   rw [Int.pow_succ]
   grind
theorem rtimes_f (lf : Nat) (xs ys : List Int) (hx : Dg 10 xs) (hy : Dg 10 ys) (h1 : xs.length ≤ 50000) (h2 : ys.length ≤ 50000) (h3 : 200000 ≤ lf) :
  ∃ r, surveyorref01_times.f lf xs ys = some (r, ()) ∧ Dg 10 r ∧ r.length ≤ xs.length + ys.length ∧ lv 10 r = lv 10 xs * lv 10 ys := by
 have e0 : i64.wrap (((xs.length : Nat) : Int) + ((ys.length : Nat) : Int)) = ((xs.length + ys.length : Nat) : Int) := by rw [w64 (by omega) (by omega)]; omega
 obtain ⟨out, r1, r2, r3, r4⟩ := rtimes_l0 lf xs ys hx hy h3 (by omega) xs.length (lf + 40) 0 (List.replicate (xs.length + ys.length) 0) (by omega) (by omega) (Dg.zeros (by decide) _) (by simp) (by simp; omega) (fun q _ h => by rw [List.length_replicate] at h; rw [List.getElem?_replicate, if_pos h])
 rw [List.length_replicate] at r2
 rw [times_val] at r4
 rw [surveyorref01_times.f, e0, mkL_nat _ _ _ (xs.length + ys.length) rfl rfl (by omega), bdS]
 rw [show ((0 : Nat) : Int) = 0 from rfl] at r1
 rw [r1, bdS, cut_f lf out (by omega) (by omega), bdS]
 exact ⟨_, rfl, dg_tr r3, by have := tr_len out; show (tr out).length ≤ _; omega, by rw [lv_tr]; exact r4⟩
end Go.N
namespace Go.N
open Go.IntKind (i64)
open Go Go.Q Go.Rx
theorem lv_split (B : Int) (l : List Int) (k : Nat) (h : k ≤ l.length) : lv B l = lv B (l.take k) + B ^ k * lv B (l.drop k) := by
 have := lv_app B (l.take k) (l.drop k)
 rw [List.take_append_drop, List.length_take, Nat.min_eq_left h] at this
 exact this
theorem lv_dropc (B : Int) (l : List Int) (k : Nat) (h : k < l.length) : lv B (l.drop k) = l[k] + B * lv B (l.drop (k + 1)) := by
 rw [List.drop_eq_getElem_cons h, lv]
theorem lv_takes (B : Int) (l : List Int) (k : Nat) (h : k < l.length) : lv B (l.take (k + 1)) = lv B (l.take k) + B ^ k * l[k] := by
 rw [← List.take_append_getElem h, lv_app, List.length_take, Nat.min_eq_left (by omega)]; simp [lv]
theorem short_ring (P B d o x r v r1 A T : Int) (h : r1 + d * v = r * B + x) : d * (A + P * (v - 0)) + (P * r1 + T) = d * A + (P * B * r + (T + P * x)) := by grind
theorem short_l0 (lf : Nat) (xs : List Int) (d : Int) (hd0 : 0 < d) (hd1 : d < G) (hx : Dg G xs) (hb : xs.length ≤ 1000000) : ∀ (k n : Nat) (out : List Int) (r : Int), k ≤ xs.length → k < n → out.length = xs.length → 0 ≤ r → r < d → Dg G out → (∀ q, q < k → out[q]? = some 0) →
  ∃ out' r', bigint_short.l0 lf d xs n ((k : Nat) - 1 : Int) out r = some ((out', r', ()), ()) ∧ out'.length = out.length ∧ Dg G out' ∧ 0 ≤ r' ∧ r' < d ∧ d * lv G out' + r' = d * lv G out + (G ^ k * r + lv G (xs.take k)) := by
 intro k
 induction k with
 | zero =>
  intro n out r hk hn ho r0 r1 hdo hz
  obtain ⟨m, rfl⟩ := Nat.exists_eq_succ_of_ne_zero (show n ≠ 0 by omega)
  refine ⟨out, r, ?_, rfl, hdo, r0, r1, by simp [lv]⟩
  rw [bigint_short.l0, bigint_short.r0, decide_eq_false (by omega), brF]
 | succ k ih =>
  intro n out r hk hn ho r0 r1 hdo hz
  obtain ⟨m, rfl⟩ := Nat.exists_eq_succ_of_ne_zero (show n ≠ 0 by omega)
  have hkl : k < xs.length := by omega
  have x0 := hx.at k hkl
  have o0 : out[k]'(by omega) = 0 := by
   have h1 := hz k (by omega)
   rw [List.getElem?_eq_getElem (by omega)] at h1
   exact Option.some.inj h1
  simp only [G] at x0 hd1
  have e0 : ((k + 1 : Nat) : Int) - 1 = ((k : Nat) : Int) := by omega
  have e1 : i64.wrap (r * 1000000000) = r * 1000000000 := w64 (by omega) (by omega)
  obtain ⟨s, hs⟩ : ∃ s, s = r * 1000000000 + xs[k] := ⟨_, rfl⟩
  have e2 : i64.wrap s = s := w64 (by omega) (by omega)
  have e3 : i64.wrap (((k : Nat) : Int) - 1) = ((k : Nat) : Int) - 1 := w64 (by omega) (by omega)
  have s0 : 0 ≤ s := by omega
  have d0 := Int.emod_nonneg s (show d ≠ 0 by omega)
  have d1 := Int.emod_lt_of_pos s hd0
  have dd := Int.emod_add_mul_ediv s d
  have q0 : 0 ≤ s / d := Int.ediv_nonneg s0 (by omega)
  have q1 : s / d < G := by
   apply Int.ediv_lt_of_lt_mul hd0
   simp only [G]
   omega
  obtain ⟨out', r', t1, t2, t3, t4, t5, t6⟩ := ih m (out.set k (s / d)) (s % d) (by omega) (by omega) (by rw [List.length_set]; exact ho) d0 d1 (dg_set hdo _ ⟨q0, q1⟩) (fun q hq => by
   rw [List.getElem?_set_ne (by omega)]; exact hz q (by omega))
  refine ⟨out', r', ?_, by rw [t2, List.length_set], t3, t4, t5, ?_⟩
  ·rw [bigint_short.l0, bigint_short.r0, e0, decide_eq_true (by omega), brT, idxL_nat _ _ hkl, bdS, e1, ← hs, e2, iQuo_nn s0 hd0 (by omega), bdS, iRem_nn s0 (by omega), bdS, idxB_nat _ _ (by omega), bdS, upE_set _ _ _ (by omega), bdS, e3]
   exact t1
  ·rw [t6, lv_set G out k _ (by omega), o0, lv_takes G xs k hkl, Int.pow_succ]
   exact short_ring _ _ _ 0 _ _ _ _ _ _ (by rw [dd, hs])
theorem short_f (lf : Nat) (xs : List Int) (d : Int) (hd0 : 0 < d) (hd1 : d < G) (hx : Dg G xs) (hb : xs.length ≤ 100000) (h3 : 200000 ≤ lf) :
  ∃ q r, bigint_short.f lf xs d = some (q, r, ()) ∧ Dg G q ∧ Tr q ∧ q.length ≤ xs.length ∧ 0 ≤ r ∧ r < d ∧ lv G xs = d * lv G q + r := by
 obtain ⟨out, r, t1, t2, t3, t4, t5, t6⟩ := short_l0 lf xs d hd0 hd1 hx (by omega) xs.length (lf + 40) (List.replicate xs.length 0) 0 (Nat.le_refl _) (by omega) (by simp) (by omega) hd0 (Dg.zeros (by decide) _) (fun q hq => by rw [List.getElem?_replicate, if_pos hq])
 rw [List.length_replicate] at t2
 refine ⟨tr out, r, ?_, dg_tr t3, tr_tr _, by have := tr_len out; omega, t4, t5, ?_⟩
 ·rw [bigint_short.f, mkL_nat _ _ _ xs.length rfl rfl (by omega), bdS, w64 (by omega) (by omega), t1, bdS, trim_f lf out (by omega) (by omega), bdS]
 ·rw [lv_tr, t6, lv_zeros, List.take_of_length_le (Nat.le_refl _)]; simp
theorem dA_l1 (lf : Nat) (v3 : List Int) (v4 v5 : Int) (a : Int) (i : Nat) (ys : List Int) (ha : 0 ≤ a ∧ a < G) (hy : Dg G ys) : ∀ (k n j : Nat) (c : Int) (out : List Int), j + k = ys.length → k < n → 0 ≤ c → c < G → Dg G out → i + ys.length ≤ out.length → out.length ≤ 1000000 →
  ∃ c' out', bigint_divide.l1 lf (i : Nat) a v3 v4 v5 ((ys.length : Nat) : Int) ys n c (j : Nat) out = some ((c', out', ()), ()) ∧ out'.length = out.length ∧ Dg G out' ∧ 0 ≤ c' ∧ c' < G ∧ lv G out' + G ^ (i + ys.length) * c' = lv G out + G ^ (i + j) * (c + a * lv G (ys.drop j)) ∧ ∀ q, i + ys.length ≤ q → out'[q]? = out[q]? := by
 intro k
 induction k with
 | zero =>
  intro n j c out hj hn c0 c1 hd hl hb
  obtain ⟨m, rfl⟩ := Nat.exists_eq_succ_of_ne_zero (show n ≠ 0 by omega)
  refine ⟨c, out, ?_, rfl, hd, c0, c1, ?_, fun q _ => rfl⟩
  ·rw [bigint_divide.l1, bigint_divide.r1, decide_eq_false (by omega), brF]
  ·rw [List.drop_of_length_le (by omega), show j = ys.length by omega]; simp [lv]
 | succ k ih =>
  intro n j c out hj hn c0 c1 hd hl hb
  obtain ⟨m, rfl⟩ := Nat.exists_eq_succ_of_ne_zero (show n ≠ 0 by omega)
  have hjl : j < ys.length := by omega
  have hp : i + j < out.length := by omega
  have y0 := hy.at j hjl
  have o0 := hd.at (i + j) hp
  have hm := mul_bd ha.1 (show a < G by omega) y0.1 (show ys[j] < G by omega)
  have hc9 : c < G := by omega
  have ho9 : out[i + j] < G := by omega
  have c0' := c0
  simp only [G] at hc9 ho9
  have e1 : i64.wrap (((i : Nat) : Int) + ((j : Nat) : Int)) = ((i + j : Nat) : Int) := by rw [w64 (by omega) (by omega)]; omega
  have e2 : i64.wrap (a * ys[j]) = a * ys[j] := w64 (by omega) (by omega)
  have e3 : i64.wrap (out[i + j] + a * ys[j]) = out[i + j] + a * ys[j] := w64 (by omega) (by omega)
  have e4 : i64.wrap (c + (out[i + j] + a * ys[j])) = c + (out[i + j] + a * ys[j]) := w64 (by omega) (by omega)
  have e5 : i64.wrap (((j : Nat) : Int) + 1) = ((j + 1 : Nat) : Int) := by rw [w64 (by omega) (by omega)]; omega
  obtain ⟨s, hs⟩ : ∃ s, s = c + (out[i + j] + a * ys[j]) := ⟨_, rfl⟩
  have s0 : 0 ≤ s := by omega
  have d0 := Int.emod_nonneg s (show G ≠ 0 by decide)
  have d1 := Int.emod_lt_of_pos s (show 0 < G by decide)
  have dd := Int.emod_add_mul_ediv s G
  have q0 : 0 ≤ s / G := Int.ediv_nonneg s0 (by decide)
  have q1 : s / G < G := by
   apply Int.ediv_lt_of_lt_mul (by decide)
   have h1 : a * ys[j] ≤ (G - 1) * (G - 1) := Int.mul_le_mul (by omega) (by omega) y0.1 (by decide)
   try simp only [G] at *
   omega
  obtain ⟨c', out', r1, r2, r3, r4, r5, r6, r7⟩ := ih m (j + 1) (s / G) (out.set (i + j) (s % G)) (by omega) (by omega) q0 q1 (dg_set hd _ ⟨d0, d1⟩) (by rw [List.length_set]; exact hl) (by rw [List.length_set]; exact hb)
  refine ⟨c', out', ?_, by rw [r2, List.length_set], r3, r4, r5, ?_, fun q hq => ?_⟩
  ·rw [bigint_divide.l1, bigint_divide.r1, decide_eq_true (by omega), brT]
   rw [idxB_nat _ _ hjl, bdS, List.getElem?_eq_getElem hjl, bdS, e1, idxB_nat _ _ hp, bdS, List.getElem?_eq_getElem hp, bdS, e2, e3, e4, ← hs, iRem_nn s0 (by decide), bdS, iQuo_nn s0 (by decide) (by omega), bdS, bdS, upE_set _ _ _ hp, bdS, e5]
   exact r1
  ·rw [r6, lv_set G out (i + j) _ hp, List.drop_eq_getElem_cons hjl, lv, ← Nat.add_assoc, Int.pow_succ, Int.add_assoc, ring_step _ _ s out[i + j] c a ys[j] _ _ _ dd hs]
  ·rw [r7 q hq, List.getElem?_set_ne (by omega)]
theorem dA_l0 (lf : Nat)  (xs ys : List Int) (hx : Dg G xs) (hy : Dg G ys) (h3 : 200000 ≤ lf) (hly : ys.length ≤ 100000): ∀ (k n i : Nat) (out : List Int), i + k = xs.length → k < n → Dg G out → out.length = xs.length + ys.length → out.length ≤ 1000000 → (∀ q, i + ys.length ≤ q → q < out.length → out[q]? = some 0) →
  ∃ out', bigint_divide.l0 lf xs ((xs.length : Nat) : Int) ys n (i : Nat) out = some ((out', ()), ()) ∧ out'.length = out.length ∧ Dg G out' ∧ lv G out' = lv G out + G ^ i * (lv G (xs.drop i) * lv G ys) := by
 intro k
 induction k with
 | zero =>
  intro n i out hi hn hd hl hb hz
  obtain ⟨m, rfl⟩ := Nat.exists_eq_succ_of_ne_zero (show n ≠ 0 by omega)
  refine ⟨out, ?_, rfl, hd, ?_⟩
  ·rw [bigint_divide.l0, bigint_divide.r0, decide_eq_false (by omega), brF]
  ·rw [List.drop_of_length_le (by omega)]; simp [lv]
 | succ k ih =>
  intro n i out hi hn hd hl hb hz
  obtain ⟨m, rfl⟩ := Nat.exists_eq_succ_of_ne_zero (show n ≠ 0 by omega)
  have hil : i < xs.length := by omega
  have x0 := hx.at i hil
  obtain ⟨c', out', r1, r2, r3, r4, r5, r6, r7⟩ := dA_l1 lf xs ((xs.length : Nat) : Int) (i : Nat) xs[i] i ys x0 hy ys.length (lf + 40) 0 0 out (by omega) (by omega) (by decide) (by decide) hd (by omega) hb
  rw [show ((0 : Nat) : Int) = 0 from rfl] at r1
  have hp : i + ys.length < out'.length := by rw [r2]; omega
  have hz' : out'[i + ys.length] = 0 := by
   have h1 := r7 (i + ys.length) (Nat.le_refl _)
   rw [hz (i + ys.length) (Nat.le_refl _) (by omega), List.getElem?_eq_getElem hp] at h1
   exact Option.some.inj h1
  have e1 : i64.wrap (((i : Nat) : Int) + ((ys.length : Nat) : Int)) = ((i + ys.length : Nat) : Int) := by rw [w64 (by omega) (by omega)]; omega
  have e5 : i64.wrap (((i : Nat) : Int) + 1) = ((i + 1 : Nat) : Int) := by rw [w64 (by omega) (by omega)]; omega
  obtain ⟨out2, t1, t2, t3, t4⟩ := ih m (i + 1) (out'.set (i + ys.length) c') (by omega) (by omega) (dg_set r3 _ ⟨r4, r5⟩) (by rw [List.length_set, r2]; exact hl) (by rw [List.length_set, r2]; exact hb) (fun q h1 h2 => by
   rw [List.length_set, r2] at h2
   rw [List.getElem?_set_ne (by omega), r7 q (by omega)]
   exact hz q (by omega) h2)
  refine ⟨out2, ?_, by rw [t2, List.length_set, r2], t3, ?_⟩
  ·rw [bigint_divide.l0, bigint_divide.r0, decide_eq_true (by omega), brT]
   rw [idxL_nat _ _ hil, bdS, r1, bdS, e1, idxB_nat _ _ hp, bdS, upE_set _ _ _ hp, bdS, e5]
   exact t1
  ·rw [t4, lv_set G out' (i + ys.length) _ hp, hz', List.drop_eq_getElem_cons hil, lv]
   simp only [List.drop_zero, Nat.add_zero] at r6
   rw [Int.pow_succ]
   grind
theorem dB_l1 (lf : Nat) (v3 : List Int) (v4 v5 : Int) (v9 v10 : List Int) (a : Int) (i : Nat) (ys : List Int) (ha : 0 ≤ a ∧ a < G) (hy : Dg G ys) : ∀ (k n j : Nat) (c : Int) (out : List Int), j + k = ys.length → k < n → 0 ≤ c → c < G → Dg G out → i + ys.length ≤ out.length → out.length ≤ 1000000 →
  ∃ c' out', bigint_divide.l5 lf (i : Nat) a v3 v4 v5 ((ys.length : Nat) : Int) ys v9 v10 n c (j : Nat) out = some ((c', out', ()), ()) ∧ out'.length = out.length ∧ Dg G out' ∧ 0 ≤ c' ∧ c' < G ∧ lv G out' + G ^ (i + ys.length) * c' = lv G out + G ^ (i + j) * (c + a * lv G (ys.drop j)) ∧ ∀ q, i + ys.length ≤ q → out'[q]? = out[q]? := by
 intro k
 induction k with
 | zero =>
  intro n j c out hj hn c0 c1 hd hl hb
  obtain ⟨m, rfl⟩ := Nat.exists_eq_succ_of_ne_zero (show n ≠ 0 by omega)
  refine ⟨c, out, ?_, rfl, hd, c0, c1, ?_, fun q _ => rfl⟩
  ·rw [bigint_divide.l5, bigint_divide.r5, decide_eq_false (by omega), brF]
  ·rw [List.drop_of_length_le (by omega), show j = ys.length by omega]; simp [lv]
 | succ k ih =>
  intro n j c out hj hn c0 c1 hd hl hb
  obtain ⟨m, rfl⟩ := Nat.exists_eq_succ_of_ne_zero (show n ≠ 0 by omega)
  have hjl : j < ys.length := by omega
  have hp : i + j < out.length := by omega
  have y0 := hy.at j hjl
  have o0 := hd.at (i + j) hp
  have hm := mul_bd ha.1 (show a < G by omega) y0.1 (show ys[j] < G by omega)
  have hc9 : c < G := by omega
  have ho9 : out[i + j] < G := by omega
  have c0' := c0
  simp only [G] at hc9 ho9
  have e1 : i64.wrap (((i : Nat) : Int) + ((j : Nat) : Int)) = ((i + j : Nat) : Int) := by rw [w64 (by omega) (by omega)]; omega
  have e2 : i64.wrap (a * ys[j]) = a * ys[j] := w64 (by omega) (by omega)
  have e3 : i64.wrap (out[i + j] + a * ys[j]) = out[i + j] + a * ys[j] := w64 (by omega) (by omega)
  have e4 : i64.wrap (c + (out[i + j] + a * ys[j])) = c + (out[i + j] + a * ys[j]) := w64 (by omega) (by omega)
  have e5 : i64.wrap (((j : Nat) : Int) + 1) = ((j + 1 : Nat) : Int) := by rw [w64 (by omega) (by omega)]; omega
  obtain ⟨s, hs⟩ : ∃ s, s = c + (out[i + j] + a * ys[j]) := ⟨_, rfl⟩
  have s0 : 0 ≤ s := by omega
  have d0 := Int.emod_nonneg s (show G ≠ 0 by decide)
  have d1 := Int.emod_lt_of_pos s (show 0 < G by decide)
  have dd := Int.emod_add_mul_ediv s G
  have q0 : 0 ≤ s / G := Int.ediv_nonneg s0 (by decide)
  have q1 : s / G < G := by
   apply Int.ediv_lt_of_lt_mul (by decide)
   have h1 : a * ys[j] ≤ (G - 1) * (G - 1) := Int.mul_le_mul (by omega) (by omega) y0.1 (by decide)
   try simp only [G] at *
   omega
  obtain ⟨c', out', r1, r2, r3, r4, r5, r6, r7⟩ := ih m (j + 1) (s / G) (out.set (i + j) (s % G)) (by omega) (by omega) q0 q1 (dg_set hd _ ⟨d0, d1⟩) (by rw [List.length_set]; exact hl) (by rw [List.length_set]; exact hb)
  refine ⟨c', out', ?_, by rw [r2, List.length_set], r3, r4, r5, ?_, fun q hq => ?_⟩
  ·rw [bigint_divide.l5, bigint_divide.r5, decide_eq_true (by omega), brT]
   rw [idxB_nat _ _ hjl, bdS, List.getElem?_eq_getElem hjl, bdS, e1, idxB_nat _ _ hp, bdS, List.getElem?_eq_getElem hp, bdS, e2, e3, e4, ← hs, iRem_nn s0 (by decide), bdS, iQuo_nn s0 (by decide) (by omega), bdS, bdS, upE_set _ _ _ hp, bdS, e5]
   exact r1
  ·rw [r6, lv_set G out (i + j) _ hp, List.drop_eq_getElem_cons hjl, lv, ← Nat.add_assoc, Int.pow_succ, Int.add_assoc, ring_step _ _ s out[i + j] c a ys[j] _ _ _ dd hs]
  ·rw [r7 q hq, List.getElem?_set_ne (by omega)]
theorem dB_l0 (lf : Nat) (v4 v5 : List Int)  (xs ys : List Int) (hx : Dg G xs) (hy : Dg G ys) (h3 : 200000 ≤ lf) (hly : ys.length ≤ 100000): ∀ (k n i : Nat) (out : List Int), i + k = xs.length → k < n → Dg G out → out.length = xs.length + ys.length → out.length ≤ 1000000 → (∀ q, i + ys.length ≤ q → q < out.length → out[q]? = some 0) →
  ∃ out', bigint_divide.l4 lf xs ((xs.length : Nat) : Int) ys v4 v5 n (i : Nat) out = some ((out', ()), ()) ∧ out'.length = out.length ∧ Dg G out' ∧ lv G out' = lv G out + G ^ i * (lv G (xs.drop i) * lv G ys) := by
 intro k
 induction k with
 | zero =>
  intro n i out hi hn hd hl hb hz
  obtain ⟨m, rfl⟩ := Nat.exists_eq_succ_of_ne_zero (show n ≠ 0 by omega)
  refine ⟨out, ?_, rfl, hd, ?_⟩
  ·rw [bigint_divide.l4, bigint_divide.r4, decide_eq_false (by omega), brF]
  ·rw [List.drop_of_length_le (by omega)]; simp [lv]
 | succ k ih =>
  intro n i out hi hn hd hl hb hz
  obtain ⟨m, rfl⟩ := Nat.exists_eq_succ_of_ne_zero (show n ≠ 0 by omega)
  have hil : i < xs.length := by omega
  have x0 := hx.at i hil
  obtain ⟨c', out', r1, r2, r3, r4, r5, r6, r7⟩ := dB_l1 lf xs ((xs.length : Nat) : Int) (i : Nat) v4 v5 xs[i] i ys x0 hy ys.length (lf + 40) 0 0 out (by omega) (by omega) (by decide) (by decide) hd (by omega) hb
  rw [show ((0 : Nat) : Int) = 0 from rfl] at r1
  have hp : i + ys.length < out'.length := by rw [r2]; omega
  have hz' : out'[i + ys.length] = 0 := by
   have h1 := r7 (i + ys.length) (Nat.le_refl _)
   rw [hz (i + ys.length) (Nat.le_refl _) (by omega), List.getElem?_eq_getElem hp] at h1
   exact Option.some.inj h1
  have e1 : i64.wrap (((i : Nat) : Int) + ((ys.length : Nat) : Int)) = ((i + ys.length : Nat) : Int) := by rw [w64 (by omega) (by omega)]; omega
  have e5 : i64.wrap (((i : Nat) : Int) + 1) = ((i + 1 : Nat) : Int) := by rw [w64 (by omega) (by omega)]; omega
  obtain ⟨out2, t1, t2, t3, t4⟩ := ih m (i + 1) (out'.set (i + ys.length) c') (by omega) (by omega) (dg_set r3 _ ⟨r4, r5⟩) (by rw [List.length_set, r2]; exact hl) (by rw [List.length_set, r2]; exact hb) (fun q h1 h2 => by
   rw [List.length_set, r2] at h2
   rw [List.getElem?_set_ne (by omega), r7 q (by omega)]
   exact hz q (by omega) h2)
  refine ⟨out2, ?_, by rw [t2, List.length_set, r2], t3, ?_⟩
  ·rw [bigint_divide.l4, bigint_divide.r4, decide_eq_true (by omega), brT]
   rw [idxL_nat _ _ hil, bdS, r1, bdS, e1, idxB_nat _ _ hp, bdS, upE_set _ _ _ hp, bdS, e5]
   exact t1
  ·rw [t4, lv_set G out' (i + ys.length) _ hp, hz', List.drop_eq_getElem_cons hil, lv]
   simp only [List.drop_zero, Nat.add_zero] at r6
   rw [Int.pow_succ]
   grind
theorem tr_take (l : List Int) : l.take (tr l).length = tr l := by
 refine tr_ind (p := fun l => l.take (tr l).length = tr l) l rfl (fun l h => ?_) fun l x h => ?_
 ·rw [tr_snoc0, List.take_append_of_le_length (tr_len l), h]
 ·rw [tr_snoc _ _ h, List.take_length]
theorem cutB_to (n : Nat) (h : Int) (k : Nat) (e : h = k) (hk : k ≤ n) : cutB n none (some h) = some (0, k) := by
 subst e
 unfold cutB Rx.bnd
 simp only [Int.toNat_natCast]
 rw [if_pos ⟨by omega, by omega⟩]
 simp
theorem cutB_mid (n : Nat) (i j : Int) (a b : Nat) (ei : i = a) (ej : j = b) (h1 : a ≤ b) (h2 : b ≤ n) : cutB n (some i) (some j) = some (a, b - a) := by
 subst ei; subst ej
 unfold cutB Rx.bnd
 simp only [Int.toNat_natCast]
 rw [if_pos ⟨by omega, by omega⟩]
 simp only [Option.bind_some]
 rw [if_pos ⟨by omega, by omega⟩]
 simp
theorem l3_ok (lf : Nat) (v1 : List Int) (l : List Int) (hb : l.length ≤ 1000000) : ∀ (k n : Nat), k ≤ l.length → k < n → bigint_divide.l3 lf v1 l n k = some (((tr (l.take k)).length, v1, l, ()), ()) := by
 intro k
 induction k with
 | zero =>
  intro n hk hn
  obtain ⟨m, rfl⟩ := Nat.exists_eq_succ_of_ne_zero (show n ≠ 0 by omega)
  rw [bigint_divide.l3, bigint_divide.r3, decide_eq_false (by omega), brF]
  simp [tr_nil]
 | succ k ih =>
  intro n hk hn
  obtain ⟨m, rfl⟩ := Nat.exists_eq_succ_of_ne_zero (show n ≠ 0 by omega)
  have hkl : k < l.length := by omega
  have e : i64.wrap (((k + 1 : Nat) : Int) - 1) = ((k : Nat) : Int) := by rw [w64 (by omega) (by omega)]; omega
  rw [bigint_divide.l3, bigint_divide.r3, decide_eq_true (by omega), brT, e, idxB_nat _ _ (by omega), bdS, Nat.zero_add, List.getElem?_eq_getElem hkl, bdS, ← List.take_append_getElem hkl]
  by_cases h : l[k] = 0
  ·rw [beq_iff_eq.2 h, brT, cutB_to _ _ k rfl (by omega), bdS, h, tr_snoc0]
   exact ih m (by omega) (by omega)
  ·rw [beq_eq_false_iff_ne.2 h, brF, tr_snoc _ _ h, List.take_append_getElem hkl, List.length_take, Nat.min_eq_left (by omega)]
theorem l2_ok (lf : Nat) (v1 : List Int) (l : List Int) (hb : l.length ≤ 1000000) (n : Nat) (hn : l.length + 1 < n) :
  (l.getLast? ≠ some 0 ∧ bigint_divide.l2 lf v1 l n = some (true, (v1, l, ()), ((0, [], [], ()), ()))) ∨
  (l.getLast? = some 0 ∧ bigint_divide.l2 lf v1 l n = some (false, ([], [], ()), (((tr l).length, v1, l, ()), ()))) := by
 obtain ⟨m, rfl⟩ := Nat.exists_eq_succ_of_ne_zero (show n ≠ 0 by omega)
 rw [bigint_divide.l2, bigint_divide.r2]
 by_cases h0 : l = []
 ·subst h0
  left
  refine ⟨by simp, ?_⟩
  rw [decide_eq_false (by simp), brF]
 have hl : 0 < l.length := List.length_pos_iff.2 h0
 have e : i64.wrap (((l.length : Nat) : Int) - 1) = ((l.length - 1 : Nat) : Int) := by rw [w64 (by omega) (by omega)]; omega
 rw [decide_eq_true (by omega), brT, e, idxB_nat _ _ (by omega), bdS, List.getElem?_eq_getElem (by omega), bdS, List.getLast?_eq_getElem?, List.getElem?_eq_getElem (by omega)]
 by_cases h : l[l.length - 1]'(by omega) = 0
 ·right
  refine ⟨by rw [h], ?_⟩
  rw [beq_iff_eq.2 h, brT, cutB_to _ _ (l.length - 1) rfl (by omega), bdS, l3_ok lf v1 l hb (l.length - 1) m (by omega) (by omega), bdS]
  have : tr l = tr (l.take (l.length - 1)) := by
   conv => lhs; rw [← List.take_append_drop (l.length - 1) l, List.drop_eq_getElem_cons (by omega), h, List.drop_of_length_le (by omega)]
   rw [tr_snoc0]
  rw [this]
 ·left
  refine ⟨by intro x; exact h (Option.some.inj x), ?_⟩
  rw [beq_eq_false_iff_ne.2 h, brF]
theorem l7_ok (lf : Nat) (v1 v2 v3 : List Int) (l : List Int) (hb : l.length ≤ 1000000) : ∀ (k n : Nat), k ≤ l.length → k < n → bigint_divide.l7 lf v1 v2 v3 l n k = some (((tr (l.take k)).length, v1, v2, v3, l, ()), ()) := by
 intro k
 induction k with
 | zero =>
  intro n hk hn
  obtain ⟨m, rfl⟩ := Nat.exists_eq_succ_of_ne_zero (show n ≠ 0 by omega)
  rw [bigint_divide.l7, bigint_divide.r7, decide_eq_false (by omega), brF]
  simp [tr_nil]
 | succ k ih =>
  intro n hk hn
  obtain ⟨m, rfl⟩ := Nat.exists_eq_succ_of_ne_zero (show n ≠ 0 by omega)
  have hkl : k < l.length := by omega
  have e : i64.wrap (((k + 1 : Nat) : Int) - 1) = ((k : Nat) : Int) := by rw [w64 (by omega) (by omega)]; omega
  rw [bigint_divide.l7, bigint_divide.r7, decide_eq_true (by omega), brT, e, idxB_nat _ _ (by omega), bdS, Nat.zero_add, List.getElem?_eq_getElem hkl, bdS, ← List.take_append_getElem hkl]
  by_cases h : l[k] = 0
  ·rw [beq_iff_eq.2 h, brT, cutB_to _ _ k rfl (by omega), bdS, h, tr_snoc0]
   exact ih m (by omega) (by omega)
  ·rw [beq_eq_false_iff_ne.2 h, brF, tr_snoc _ _ h, List.take_append_getElem hkl, List.length_take, Nat.min_eq_left (by omega)]
theorem l6_ok (lf : Nat) (v1 v2 v3 : List Int) (l : List Int) (hb : l.length ≤ 1000000) (n : Nat) (hn : l.length + 1 < n) :
  (l.getLast? ≠ some 0 ∧ bigint_divide.l6 lf v1 v2 v3 l n = some (true, (v1, v2, v3, l, ()), ((0, [], [], [], [], ()), ()))) ∨
  (l.getLast? = some 0 ∧ bigint_divide.l6 lf v1 v2 v3 l n = some (false, ([], [], [], [], ()), (((tr l).length, v1, v2, v3, l, ()), ()))) := by
 obtain ⟨m, rfl⟩ := Nat.exists_eq_succ_of_ne_zero (show n ≠ 0 by omega)
 rw [bigint_divide.l6, bigint_divide.r6]
 by_cases h0 : l = []
 ·subst h0
  left
  refine ⟨by simp, ?_⟩
  rw [decide_eq_false (by simp), brF]
 have hl : 0 < l.length := List.length_pos_iff.2 h0
 have e : i64.wrap (((l.length : Nat) : Int) - 1) = ((l.length - 1 : Nat) : Int) := by rw [w64 (by omega) (by omega)]; omega
 rw [decide_eq_true (by omega), brT, e, idxB_nat _ _ (by omega), bdS, List.getElem?_eq_getElem (by omega), bdS, List.getLast?_eq_getElem?, List.getElem?_eq_getElem (by omega)]
 by_cases h : l[l.length - 1]'(by omega) = 0
 ·right
  refine ⟨by rw [h], ?_⟩
  rw [beq_iff_eq.2 h, brT, cutB_to _ _ (l.length - 1) rfl (by omega), bdS, l7_ok lf v1 v2 v3 l hb (l.length - 1) m (by omega) (by omega), bdS]
  have : tr l = tr (l.take (l.length - 1)) := by
   conv => lhs; rw [← List.take_append_drop (l.length - 1) l, List.drop_eq_getElem_cons (by omega), h, List.drop_of_length_le (by omega)]
   rw [tr_snoc0]
  rw [this]
 ·left
  refine ⟨by intro x; exact h (Option.some.inj x), ?_⟩
  rw [beq_eq_false_iff_ne.2 h, brF]
theorem est_over {B P v1 v2 V0 w2 W0 q t : Int} (hP : 0 < P) (hV : 0 ≤ V0) (hW : W0 < P) (hq : 0 ≤ q) (h : q * v2 > (t - q * v1) * B + w2) : (t * B + w2) * P + W0 < q * ((v1 * B + v2) * P + V0) := by
 have h1 : t * B + w2 + 1 ≤ q * (v1 * B + v2) := by
  have : q * (v1 * B + v2) = q * v2 - (t - q * v1) * B + t * B := by grind
  omega
 have h2 := Int.mul_le_mul_of_nonneg_right h1 (Int.le_of_lt hP)
 have h3 := Int.mul_nonneg hq hV
 have e1 : (t * B + w2 + 1) * P = (t * B + w2) * P + P := by grind
 have e2 : q * ((v1 * B + v2) * P + V0) = q * (v1 * B + v2) * P + q * V0 := by grind
 omega
theorem est_first {B P v1 v2 V0 w2 W0 t : Int} (hB : 0 < B) (hP : 0 < P) (h1 : 0 < v1) (h2 : 0 ≤ v2) (hV : 0 ≤ V0) (hW : W0 < P) (hw : w2 < B) (q : Int) (hq : 0 ≤ q) (h : t < (q + 1) * v1) : (t * B + w2) * P + W0 < (q + 1) * ((v1 * B + v2) * P + V0) := by
 refine est_over hP hV hW (by omega) ?_
 have a : (t - (q + 1) * v1) * B ≤ (-1) * B := Int.mul_le_mul_of_nonneg_right (by omega) (Int.le_of_lt hB)
 have b : 0 ≤ (q + 1) * v2 := Int.mul_nonneg (by omega) h2
 omega
theorem est_under {B P v1 v2 V0 w2 W0 q t : Int} (hP : 0 < P) (hB : 0 < B) (hv : 1 ≤ v1) (hv2 : 0 ≤ v2) (hv3 : v2 < B) (hV : 0 ≤ V0) (hV2 : V0 < P) (hW : 0 ≤ W0) (hw : 0 ≤ w2) (hq : 0 ≤ q) (hq2 : q < B) (h : t - q * v1 ≥ B ∨ q * v2 ≤ (t - q * v1) * B + w2) : (q - 1) * ((v1 * B + v2) * P + V0) ≤ (t * B + w2) * P + W0 := by
 have c1 : q * V0 ≤ B * P := Int.mul_le_mul (by omega) (by omega) hV (by omega)
 have c2 : B * P ≤ v1 * (B * P) := by
  have := Int.mul_le_mul_of_nonneg_right hv (Int.le_of_lt (Int.mul_pos hB hP))
  omega
 have c3 : 0 ≤ v2 * P := Int.mul_nonneg hv2 (Int.le_of_lt hP)
 have key : q * ((v1 * B + v2) * P) ≤ (t * B + w2) * P + W0 - q * V0 + B * P := by
  rcases h with h | h
  ·have a1 : B * (B * P) ≤ (t - q * v1) * (B * P) := Int.mul_le_mul_of_nonneg_right h (Int.le_of_lt (Int.mul_pos hB hP))
   have a2 : 0 ≤ w2 * P := Int.mul_nonneg hw (Int.le_of_lt hP)
   have a3 : q * (v2 * P + V0) ≤ B * (B * P) := by
    have b1 : v2 * P ≤ (B - 1) * P := Int.mul_le_mul_of_nonneg_right (by omega) (Int.le_of_lt hP)
    have b2 : (B - 1) * P = B * P - P := by grind
    exact Int.mul_le_mul (by omega) (by omega) (by omega) (by omega)
   have e1 : q * ((v1 * B + v2) * P) = t * (B * P) - (t - q * v1) * (B * P) + q * (v2 * P + V0) - q * V0 := by grind
   have e2 : (t * B + w2) * P = t * (B * P) + w2 * P := by grind
   have : 0 < B * P := Int.mul_pos hB hP
   omega
  ·have a1 : q * (v1 * B + v2) ≤ t * B + w2 := by
    have : q * (v1 * B + v2) = q * v2 - (t - q * v1) * B + t * B := by grind
    omega
   have a2 := Int.mul_le_mul_of_nonneg_right a1 (Int.le_of_lt hP)
   have : q * (v1 * B + v2) * P = q * ((v1 * B + v2) * P) := by grind
   omega
 have e1 : (q - 1) * ((v1 * B + v2) * P + V0) = q * ((v1 * B + v2) * P) + q * V0 - v1 * (B * P) - v2 * P - V0 := by grind
 omega
theorem d15_ok (lf t m : Nat) (sc vl u out : List Int) (n : Nat) (hn2 : 2 ≤ n) (hnb : n ≤ 1000000) (hvl : n ≤ vl.length) (hm : n + 1 = m) (hu : t + m ≤ u.length) (hdv : Dg G vl) (hdu : Dg G u)
  (top v1 v2 w2 : Int) (hv1 : v1 = vl[n - 1]'(by omega)) (hv2 : v2 = vl[n - 2]'(by omega)) (hw2 : w2 = u[t + (n - 2)]'(by omega)) (hp : 1 ≤ v1) :
  ∀ (k f : Nat) (q r : Int), G - r ≤ k → k < f → 0 ≤ q → q < G → 0 ≤ r → r ≤ 3000000000 → r = top - q * v1 →
  ∃ q', bigint_divide.l15 lf t m n ((n : Nat) : Int) sc vl u out f q r = some ((q', ()), ()) ∧ 0 ≤ q' ∧ q' < G ∧ q' ≤ q ∧ (top - q' * v1 ≥ G ∨ q' * v2 ≤ (top - q' * v1) * G + w2) ∧
   (q' = q ∨ (q' + 1) * v2 > (top - (q' + 1) * v1) * G + w2) := by
 have b1 := hdv.at (n - 1) (by omega)
 have b2 := hdv.at (n - 2) (by omega)
 have b3 := hdu.at (t + (n - 2)) (by omega)
 rw [← hv1] at b1
 rw [← hv2] at b2
 rw [← hw2] at b3
 simp only [G] at b1 b2 b3
 have e1 : i64.wrap (((n : Nat) : Int) - 2) = ((n - 2 : Nat) : Int) := by rw [w64 (by omega) (by omega)]; omega
 have e2 : i64.wrap (((n : Nat) : Int) - 1) = ((n - 1 : Nat) : Int) := by rw [w64 (by omega) (by omega)]; omega
 have stop : ∀ (f : Nat) (q r : Int), 0 < f → ¬ r < 1000000000 → bigint_divide.l15 lf t m n ((n : Nat) : Int) sc vl u out f q r = some ((q, ()), ()) := by
  intro f q r hf hr
  obtain ⟨g, rfl⟩ := Nat.exists_eq_succ_of_ne_zero (show f ≠ 0 by omega)
  rw [bigint_divide.l15, bigint_divide.r15, decide_eq_false hr, brF]
 intro k
 induction k with
 | zero =>
  intro f q r hk hf q0 q1 r0 r1 hr
  simp only [G] at hk
  exact ⟨q, stop f q r (by omega) (by omega), q0, q1, by omega, Or.inl (by rw [← hr]; simp only [G]; omega), Or.inl rfl⟩
 | succ k ih =>
  intro f q r hk hf q0 q1 r0 r1 hr
  by_cases hlt : r < 1000000000
  ·obtain ⟨g, rfl⟩ := Nat.exists_eq_succ_of_ne_zero (show f ≠ 0 by omega)
   have m1 := mul_bd q0 q1 b2.1 b2.2
   have e3 : i64.wrap (q * v2) = q * v2 := w64 (by omega) (by omega)
   have e4 : i64.wrap (r * 1000000000) = r * 1000000000 := w64 (by omega) (by omega)
   have e5 : i64.wrap (r * 1000000000 + w2) = r * 1000000000 + w2 := w64 (by omega) (by omega)
   rw [bigint_divide.l15, bigint_divide.r15, decide_eq_true hlt, brT, e1, idxB_nat _ _ (by omega), bdS, Nat.zero_add, List.getElem?_eq_getElem (by omega), bdS, idxB_nat _ _ (by omega), bdS, List.getElem?_eq_getElem (by omega), bdS, ← hv2, ← hw2, e3, e4, e5]
   by_cases hc : q * v2 > r * 1000000000 + w2
   ·have qp : 1 ≤ q := by
     by_cases z : q = 0
     ·subst z; omega
     ·omega
    have e6 : i64.wrap (q - 1) = q - 1 := w64 (by simp only [G] at q1; omega) (by simp only [G] at q1; omega)
    have e7 : i64.wrap (r + v1) = r + v1 := w64 (by omega) (by omega)
    rw [decide_eq_true hc, brT, e2, idxB_nat _ _ (by omega), bdS, Nat.zero_add, List.getElem?_eq_getElem (by omega), bdS, ← hv1, e6, e7]
    obtain ⟨q', t1, t2, t3, t4, t5, t6⟩ := ih g (q - 1) (r + v1) (by omega) (by omega) (by omega) (by omega) (by omega) (by omega) (by rw [hr]; grind)
    refine ⟨q', t1, t2, t3, by omega, t5, Or.inr ?_⟩
    rcases t6 with rfl | t6
    ·rw [Int.sub_add_cancel, ← hr]; exact hc
    ·exact t6
   ·rw [decide_eq_false hc, brF]
    exact ⟨q, rfl, q0, q1, by omega, Or.inr (by rw [← hr]; simp only [G]; omega), Or.inl rfl⟩
  ·exact ⟨q, stop f q r (by omega) hlt, q0, q1, by omega, Or.inl (by rw [← hr]; simp only [G]; omega), Or.inl rfl⟩
theorem sub_ring (P B s c q y D x e c2 L : Int) (h : e = x - s + B * c2) (hs : s = c + q * y) : L + P * (e - x) - P * B * (c2 + q * D) = L - P * (c + q * (y + B * D)) := by grind
theorem add_ring (P B s c y D x r c2 L : Int) (h : r + B * c2 = s) (hs : s = c + x + y) : L + P * (r - x) + P * B * (c2 + D) = L + P * (c + (y + B * D)) := by grind
theorem dropv (ys : List Int) (i : Nat) : lv G (ys.drop i) = ys.getD i 0 + G * lv G (ys.drop (i + 1)) := by
 rw [lv_headD, headD_drop, tail_drop']
theorem d16_ok (lf t m : Nat) (q : Int) (sc vl out ys : List Int) (hq0 : 0 ≤ q) (hq1 : q < G) (hdy : Dg G ys) (hvy : vl.take ys.length = ys) (hnb : m ≤ 1000000) :
  ∀ (k f i : Nat) (c : Int) (u : List Int), i + k = m → k < f → 0 ≤ c → c ≤ G → Dg G u → t + m ≤ u.length →
  ∃ c' u', bigint_divide.l16 lf t m ys.length q ((m : Nat) : Int) sc vl out f c (i : Nat) u = some ((c', u', ()), ()) ∧ u'.length = u.length ∧ Dg G u' ∧ 0 ≤ c' ∧
   lv G u' - G ^ (t + m) * (c' + q * lv G (ys.drop m)) = lv G u - G ^ (t + i) * (c + q * lv G (ys.drop i)) ∧ ∀ p, p < t + i ∨ t + m ≤ p → u'[p]? = u[p]? := by
 intro k
 induction k with
 | zero =>
  intro f i c u hi hf c0 c1 hd hl
  obtain ⟨g, rfl⟩ := Nat.exists_eq_succ_of_ne_zero (show f ≠ 0 by omega)
  obtain rfl : i = m := by omega
  refine ⟨c, u, ?_, rfl, hd, c0, rfl, fun p _ => rfl⟩
  rw [bigint_divide.l16, bigint_divide.r16, decide_eq_false (by omega), brF]
 | succ k ih =>
  intro f i c u hi hf c0 c1 hd hl
  obtain ⟨g, rfl⟩ := Nat.exists_eq_succ_of_ne_zero (show f ≠ 0 by omega)
  have hp : t + i < u.length := by omega
  have x0 := hd.at (t + i) hp
  have y0 := hdy.getD (by decide) i
  have m1 := mul_bd hq0 hq1 y0.1 y0.2
  simp only [G] at x0 c1
  have e5 : i64.wrap (((i : Nat) : Int) + 1) = ((i + 1 : Nat) : Int) := by rw [w64 (by omega) (by omega)]; omega
  have go : ∀ (s e c2 : Int), s = c + q * ys.getD i 0 → e = u[t + i] - s + G * c2 → 0 ≤ e → e < G → 0 ≤ c2 → c2 ≤ G →
    ∃ c' u', (bd (some i) fun j => bd (upE u (t + j) fun _ => some e) fun l => bigint_divide.l16 lf t m ys.length q ((m : Nat) : Int) sc vl out g c2 (i64.wrap (((i : Nat) : Int) + 1)) l) = some ((c', u', ()), ()) ∧ u'.length = u.length ∧ Dg G u' ∧ 0 ≤ c' ∧
   lv G u' - G ^ (t + m) * (c' + q * lv G (ys.drop m)) = lv G u - G ^ (t + i) * (c + q * lv G (ys.drop i)) ∧ ∀ p, p < t + i ∨ t + m ≤ p → u'[p]? = u[p]? := by
   intro s e c2 hs he g0 g1 g2 g3
   obtain ⟨c', u', t1, t2, t3, t4, t5, t6⟩ := ih g (i + 1) c2 (u.set (t + i) e) (by omega) (by omega) g2 g3 (dg_set hd _ ⟨g0, g1⟩) (by rw [List.length_set]; exact hl)
   refine ⟨c', u', ?_, by rw [t2, List.length_set], t3, t4, ?_, fun p hp' => ?_⟩
   ·rw [bdS, upE_set _ _ _ hp, bdS, e5]
    exact t1
   ·rw [t5, lv_set G u (t + i) _ hp, dropv ys i, ← Nat.add_assoc, Int.pow_succ]
    exact sub_ring _ _ s _ _ _ _ _ _ _ _ he hs
   ·rw [t6 p (by omega), List.getElem?_set_ne (by omega)]
  have fin : ∀ s : Int, s = c + q * ys.getD i 0 →
    ∃ c' u', (bd (iRem s 1000000000) fun r => bd (iQuo .i64 s 1000000000) fun r2 => br (decide ((i64.wrap (u[t + i] - r)) < 0)) (
     bd (some i) fun j => bd (upE u (t + j) fun _ => some (i64.wrap ((i64.wrap (u[t + i] - r)) + 1000000000))) fun l => bigint_divide.l16 lf t m ys.length q ((m : Nat) : Int) sc vl out g (i64.wrap (r2 + 1)) (i64.wrap (((i : Nat) : Int) + 1)) l) (
     bd (some i) fun j => bd (upE u (t + j) fun _ => some (i64.wrap (u[t + i] - r))) fun l => bigint_divide.l16 lf t m ys.length q ((m : Nat) : Int) sc vl out g r2 (i64.wrap (((i : Nat) : Int) + 1)) l)) = some ((c', u', ()), ()) ∧ u'.length = u.length ∧ Dg G u' ∧ 0 ≤ c' ∧
   lv G u' - G ^ (t + m) * (c' + q * lv G (ys.drop m)) = lv G u - G ^ (t + i) * (c + q * lv G (ys.drop i)) ∧ ∀ p, p < t + i ∨ t + m ≤ p → u'[p]? = u[p]? := by
   intro s hs
   have s0 : 0 ≤ s := by omega
   have d0 := Int.emod_nonneg s (show (1000000000 : Int) ≠ 0 by decide)
   have d1 := Int.emod_lt_of_pos s (show (0 : Int) < 1000000000 by decide)
   have dd := Int.emod_add_mul_ediv s 1000000000
   have q0 : 0 ≤ s / 1000000000 := Int.ediv_nonneg s0 (by decide)
   have q1 : s / 1000000000 < 1000000000 := Int.ediv_lt_of_lt_mul (by decide) (by omega)
   have e6 : i64.wrap (u[t + i] - s % 1000000000) = u[t + i] - s % 1000000000 := w64 (by omega) (by omega)
   rw [iRem_nn s0 (by decide), bdS, iQuo_nn s0 (by decide) (by omega), bdS, e6]
   by_cases hneg : u[t + i] - s % 1000000000 < 0
   ·have e7 : i64.wrap (u[t + i] - s % 1000000000 + 1000000000) = u[t + i] - s % 1000000000 + 1000000000 := w64 (by omega) (by omega)
    have e8 : i64.wrap (s / 1000000000 + 1) = s / 1000000000 + 1 := w64 (by omega) (by omega)
    rw [decide_eq_true hneg, brT, e7, e8]
    exact go s _ _ hs (by simp only [G]; omega) (by omega) (by simp only [G]; omega) (by omega) (by simp only [G]; omega)
   ·rw [decide_eq_false hneg, brF]
    exact go s _ _ hs (by simp only [G]; omega) (by omega) (by simp only [G]; omega) (by omega) (by simp only [G]; omega)
  rw [bigint_divide.l16, bigint_divide.r16, decide_eq_true (by omega), brT]
  by_cases hiy : i < ys.length
  ·have ev : vl[i]? = some (ys.getD i 0) := by
    rw [getD_lt _ _ hiy, ← List.getElem?_eq_getElem hiy]
    conv => rhs; rw [← hvy]
    rw [List.getElem?_take_of_lt hiy]
   have e2 : i64.wrap (q * ys.getD i 0) = q * ys.getD i 0 := w64 (by omega) (by omega)
   have e3 : i64.wrap (c + q * ys.getD i 0) = c + q * ys.getD i 0 := w64 (by omega) (by omega)
   rw [decide_eq_true (by omega), brT, idxB_nat _ _ hiy, bdS, Nat.zero_add, ev, bdS, idxB_nat _ _ (by omega), bdS, List.getElem?_eq_getElem hp, bdS, e2, e3]
   exact fin _ rfl
  ·rw [decide_eq_false (by omega), brF, idxB_nat _ _ (by omega), bdS, List.getElem?_eq_getElem hp, bdS]
   exact fin c (by rw [getD_ge _ _ hiy]; omega)
theorem d17_ok (lf t m : Nat) (q : Int) (sc vl out ys : List Int) (hdy : Dg G ys) (hvy : vl.take ys.length = ys) (hnb : m ≤ 1000000) (hyb : ys.length ≤ 1000000) :
  ∀ (k f i : Nat) (c : Int) (u : List Int), i + k = m → k < f → 0 ≤ c → c ≤ 1 → Dg G u → t + m ≤ u.length →
  ∃ c' u', bigint_divide.l17 lf t m ys.length ((ys.length : Nat) : Int) q ((m : Nat) : Int) sc vl out f c (i : Nat) u = some ((u', ()), ()) ∧ u'.length = u.length ∧ Dg G u' ∧ 0 ≤ c' ∧
   lv G u' + G ^ (t + m) * (c' + lv G (ys.drop m)) = lv G u + G ^ (t + i) * (c + lv G (ys.drop i)) ∧ ∀ p, p < t + i ∨ t + m ≤ p → u'[p]? = u[p]? := by
 intro k
 induction k with
 | zero =>
  intro f i c u hi hf c0 c1 hd hl
  obtain ⟨g, rfl⟩ := Nat.exists_eq_succ_of_ne_zero (show f ≠ 0 by omega)
  obtain rfl : i = m := by omega
  refine ⟨c, u, ?_, rfl, hd, c0, rfl, fun p _ => rfl⟩
  rw [bigint_divide.l17, bigint_divide.r17, decide_eq_false (by omega), brF]
 | succ k ih =>
  intro f i c u hi hf c0 c1 hd hl
  obtain ⟨g, rfl⟩ := Nat.exists_eq_succ_of_ne_zero (show f ≠ 0 by omega)
  have hp : t + i < u.length := by omega
  have x0 := hd.at (t + i) hp
  have y0 := hdy.getD (by decide) i
  simp only [G] at x0 y0
  have e5 : i64.wrap (((i : Nat) : Int) + 1) = ((i + 1 : Nat) : Int) := by rw [w64 (by omega) (by omega)]; omega
  have fin : ∀ s : Int, s = c + u[t + i] + ys.getD i 0 →
    ∃ c' u', (bd (iRem s 1000000000) fun r => bd (iQuo .i64 s 1000000000) fun r2 =>
     bd (some i) fun j => bd (upE u (t + j) fun _ => some r) fun l => bigint_divide.l17 lf t m ys.length ((ys.length : Nat) : Int) q ((m : Nat) : Int) sc vl out g r2 (i64.wrap (((i : Nat) : Int) + 1)) l) = some ((u', ()), ()) ∧ u'.length = u.length ∧ Dg G u' ∧ 0 ≤ c' ∧
   lv G u' + G ^ (t + m) * (c' + lv G (ys.drop m)) = lv G u + G ^ (t + i) * (c + lv G (ys.drop i)) ∧ ∀ p, p < t + i ∨ t + m ≤ p → u'[p]? = u[p]? := by
   intro s hs
   have s0 : 0 ≤ s := by omega
   have d0 := Int.emod_nonneg s (show G ≠ 0 by decide)
   have d1 := Int.emod_lt_of_pos s (show 0 < G by decide)
   have dd := Int.emod_add_mul_ediv s G
   have q0 : 0 ≤ s / G := Int.ediv_nonneg s0 (by decide)
   obtain ⟨c', u', t1, t2, t3, t4, t5, t6⟩ := ih g (i + 1) (s / G) (u.set (t + i) (s % G)) (by omega) (by omega) q0 (by simp only [G]; omega) (dg_set hd _ ⟨d0, d1⟩) (by rw [List.length_set]; exact hl)
   refine ⟨c', u', ?_, by rw [t2, List.length_set], t3, t4, ?_, fun p hp' => ?_⟩
   ·rw [iRem_nn s0 (by decide), bdS, iQuo_nn s0 (by decide) (by omega), bdS, bdS, upE_set _ _ _ hp, bdS, e5]
    exact t1
   ·rw [t5, lv_set G u (t + i) _ hp, dropv ys i, ← Nat.add_assoc, Int.pow_succ]
    exact add_ring _ _ s _ _ _ _ _ _ _ dd hs
   ·rw [t6 p (by omega), List.getElem?_set_ne (by omega)]
  have e2 : i64.wrap (c + u[t + i]) = c + u[t + i] := w64 (by omega) (by omega)
  rw [bigint_divide.l17, bigint_divide.r17, decide_eq_true (by omega), brT, idxB_nat _ _ (by omega), bdS, List.getElem?_eq_getElem hp, bdS, e2]
  by_cases hiy : i < ys.length
  ·have ev : vl[i]? = some (ys.getD i 0) := by
    rw [getD_lt _ _ hiy, ← List.getElem?_eq_getElem hiy]
    conv => rhs; rw [← hvy]
    rw [List.getElem?_take_of_lt hiy]
   have e3 : i64.wrap (c + u[t + i] + ys.getD i 0) = c + u[t + i] + ys.getD i 0 := w64 (by omega) (by omega)
   rw [decide_eq_true (by omega), brT, idxB_nat _ _ hiy, bdS, Nat.zero_add, ev, bdS, e3]
   exact fin _ rfl
  ·rw [decide_eq_false (by omega), brF]
   exact fin _ (by rw [getD_ge _ _ hiy]; omega)
theorem take_same {u u' : List Int} {j : Nat} (hl : u'.length = u.length) (h : ∀ p, p < j → u'[p]? = u[p]?) : u'.take j = u.take j := by
 apply List.ext_getElem?
 intro p
 by_cases hp : p < j
 ·rw [List.getElem?_take_of_lt hp, List.getElem?_take_of_lt hp, h p hp]
 ·rw [List.getElem?_take_eq_none (by omega), List.getElem?_take_eq_none (by omega)]
theorem drop_same {u u' : List Int} {j : Nat} (h : ∀ p, j ≤ p → u'[p]? = u[p]?) : u'.drop j = u.drop j := by
 apply List.ext_getElem?
 intro p
 rw [List.getElem?_drop, List.getElem?_drop, h _ (by omega)]
theorem win {u u' : List Int} {j m : Nat} (hl : u'.length = u.length) (hd : Dg G u') (hm : j + m ≤ u.length) (h0 : lv G (u.drop (j + m)) = 0) (h : ∀ p, p < j ∨ j + m ≤ p → u'[p]? = u[p]?) :
  lv G u' - lv G u = G ^ j * (lv G (u'.drop j) - lv G (u.drop j)) ∧ lv G (u'.drop j) < G ^ m ∧ lv G (u'.drop (j + m)) = 0 := by
 have a1 := lv_split G u j (by omega)
 have a2 := lv_split G u' j (by omega)
 rw [take_same hl (fun p hp => h p (Or.inl hp))] at a2
 have a3 := drop_same (j := j + m) (fun p hp => h p (Or.inr hp))
 have a4 := lv_split G (u'.drop j) m (by rw [List.length_drop]; omega)
 rw [List.drop_drop, a3, h0] at a4
 have a5 := lv_lt (B := G) (by decide) ((hd.drop j).take m)
 rw [List.length_take, List.length_drop, Nat.min_eq_left (by omega)] at a5
 refine ⟨by grind, by omega, by rw [a3, h0]⟩
theorem lv_eq0_of_lt {l : List Int} (n : Nat) (hd : Dg G l) (hn : n ≤ l.length) (h : lv G l < G ^ n) : lv G (l.drop n) = 0 := by
 have a := lv_split G l n hn
 have b := lv_nonneg (B := G) (by decide) (hd.take n)
 have c := lv_nonneg (B := G) (by decide) (hd.drop n)
 by_cases z : lv G (l.drop n) = 0
 ·exact z
 ·have := Int.mul_le_mul_of_nonneg_left (show 1 ≤ lv G (l.drop n) by omega) (Int.le_of_lt (pow_pos' (B := G) (by decide) n))
  omega
theorem top2 {l : List Int} (n : Nat) (hn2 : 2 ≤ n) (h1 : l.length = n) : lv G l = (l[n - 1] * G + l[n - 2]) * G ^ (n - 2) + lv G (l.take (n - 2)) := by
 have a := lv_split G l (n - 2) (by omega)
 rw [lv_dropc G l (n - 2) (by omega), show n - 2 + 1 = n - 1 by omega, lv_dropc G l (n - 1) (by omega), List.drop_of_length_le (by omega)] at a
 simp only [lv] at a
 grind
theorem top3 {u : List Int} (j n : Nat) (hn2 : 2 ≤ n) (h1 : j + n + 1 ≤ u.length) (h0 : lv G (u.drop (j + n + 1)) = 0) :
  lv G (u.drop j) = ((u[j + n] * G + u[j + (n - 1)]) * G + u[j + (n - 2)]) * G ^ (n - 2) + lv G ((u.drop j).take (n - 2)) := by
 have a := lv_split G (u.drop j) (n - 2) (by rw [List.length_drop]; omega)
 rw [List.drop_drop, lv_dropc G u (j + (n - 2)) (by omega), show j + (n - 2) + 1 = j + (n - 1) by omega, lv_dropc G u (j + (n - 1)) (by omega), show j + (n - 1) + 1 = j + n by omega, lv_dropc G u (j + n) (by omega), h0] at a
 grind
theorem win_eq {M a b d : Int} (hM : 0 < M) (h : a + M * d = b) (a0 : 0 ≤ a) (a1 : a < M) (b0 : 0 ≤ b) (b1 : b < M) : d = 0 ∧ a = b := by
 have : d = 0 := by
  rcases Int.lt_trichotomy d 0 with z | z | z
  ·have := Int.mul_le_mul_of_nonneg_left (show d ≤ -1 by omega) (Int.le_of_lt hM); omega
  ·exact z
  ·have := Int.mul_le_mul_of_nonneg_left (show 1 ≤ d by omega) (Int.le_of_lt hM); omega
 subst this
 exact ⟨rfl, by omega⟩
theorem cancel_sub (J M A A' W W1 Q c : Int) (hJ : 0 < J) (h1 : A' - J * M * c = A - J * Q) (h2 : A' - A = J * (W1 - W)) : W1 = W - Q + M * c := by
 have : J * W1 = J * (W - Q + M * c) := by grind
 exact Int.eq_of_mul_eq_mul_left (by omega) this
theorem cancel_add (J M A A' W1 W2 V c : Int) (hJ : 0 < J) (h1 : A' + J * M * c = A + J * V) (h2 : A' - A = J * (W2 - W1)) : W2 = W1 + V - M * c := by
 have : J * W2 = J * (W1 + V - M * c) := by grind
 exact Int.eq_of_mul_eq_mul_left (by omega) this
theorem off_ring (J A W W1 Q : Int) : A + (J * (W - Q - W1) + J * (W1 - W)) = A - J * Q := by grind
theorem d14_step {ρ : Type} (lf j : Nat) (sc vl ys u out : List Int) (hlf : 2000000000 ≤ lf) (hn2 : 2 ≤ ys.length) (hdy : Dg G ys) (hty : Tr ys) (hdv : Dg G vl) (hvy : vl.take ys.length = ys) (hvl : ys.length ≤ vl.length) (hdu : Dg G u) (hjl : j + ys.length + 1 ≤ u.length) (hub : u.length ≤ 500000) (hol : j < out.length)
  (hinv : lv G (u.drop (j + 1)) < lv G ys) (K : Int → List Int → List Int → Option ρ) (E0 : List Int → List Int → Option ρ) :
  ∃ u' q, bigint_divide.r14 lf ys.length ((ys.length : Nat) : Int) sc vl ((j : Nat) : Int) u out K E0 = K (((j : Nat) : Int) - 1) u' (out.set j q) ∧ u'.length = u.length ∧ Dg G u' ∧ 0 ≤ q ∧ q < G ∧
   lv G u' = lv G u - G ^ j * (q * lv G ys) ∧ lv G (u'.drop j) < lv G ys := by
 obtain ⟨n, hn⟩ : ∃ n, n = ys.length := ⟨_, rfl⟩
 obtain ⟨V, hV⟩ : ∃ V, V = lv G ys := ⟨_, rfl⟩
 obtain ⟨W, hW⟩ : ∃ W, W = lv G (u.drop j) := ⟨_, rfl⟩
 have hV1 : V < G ^ n := by rw [hV, hn]; exact lv_lt (by decide) hdy
 have hV0 : 0 < V := by rw [hV]; exact lv_pos (by decide) hdy hty (by intro e; subst e; simp at hn2)
 have hz : lv G (u.drop (j + n + 1)) = 0 := by
  have := lv_eq0_of_lt (l := u.drop (j + 1)) n (hdu.drop _) (by rw [List.length_drop]; omega) (by omega)
  rw [List.drop_drop] at this
  rw [show j + n + 1 = j + 1 + n by omega]; exact this
 have hW0 : 0 ≤ W := by rw [hW]; exact lv_nonneg (by decide) (hdu.drop j)
 have hWB : W < G * V := by
  have a := lv_dropc G u j (by omega)
  have b := hdu.at j (by omega)
  have c := Int.mul_le_mul_of_nonneg_left (show lv G (u.drop (j + 1)) + 1 ≤ V by omega) (show 0 ≤ G by decide)
  rw [Int.mul_add] at c
  omega
 have hyv : ∀ i (h : i < n), vl[i]'(by omega) = ys[i]'(by omega) := by
  intro i h
  have : vl[i]? = ys[i]? := by
   conv => rhs; rw [← hvy]
   rw [List.getElem?_take_of_lt (by omega)]
  rw [List.getElem?_eq_getElem (by omega), List.getElem?_eq_getElem (by omega)] at this
  exact Option.some.inj this
 have b1 := hdv.at (n - 1) (by omega)
 have b2 := hdv.at (n - 2) (by omega)
 have u0 := hdu.at (j + n) (by omega)
 have u1 := hdu.at (j + (n - 1)) (by omega)
 have u2 := hdu.at (j + (n - 2)) (by omega)
 have eV := top2 (l := ys) n (by omega) hn.symm
 have eW := top3 (u := u) j n (by omega) (by omega) hz
 have V00 := lv_nonneg (B := G) (by decide) (hdy.take (n - 2))
 have V01 := lv_lt (B := G) (by decide) (hdy.take (n - 2))
 have W00 := lv_nonneg (B := G) (by decide) ((hdu.drop j).take (n - 2))
 have W01 := lv_lt (B := G) (by decide) ((hdu.drop j).take (n - 2))
 rw [List.length_take, Nat.min_eq_left (by omega)] at V01
 rw [List.length_take, List.length_drop, Nat.min_eq_left (by omega)] at W01
 have hP : 0 < G ^ (n - 2) := pow_pos' (by decide) _
 have hv1 : 1 ≤ vl[n - 1]'(by omega) := by
  rw [hyv (n - 1) (by omega)]
  have c := hdy.at (n - 1) (by omega)
  have : ys[n - 1]'(by omega) ≠ 0 := by
   intro e
   apply hty
   rw [List.getLast?_eq_getElem?, List.getElem?_eq_getElem (by omega)]
   simp only [← hn, e]
  omega
 rw [← hV, ← hyv (n - 1) (by omega), ← hyv (n - 2) (by omega)] at eV
 rw [← hW] at eW
 obtain ⟨v1, ev1⟩ : ∃ v1, v1 = vl[n - 1]'(by omega) := ⟨_, rfl⟩
 obtain ⟨v2, ev2⟩ : ∃ v2, v2 = vl[n - 2]'(by omega) := ⟨_, rfl⟩
 obtain ⟨w2, ew2⟩ : ∃ w2, w2 = u[j + (n - 2)]'(by omega) := ⟨_, rfl⟩
 obtain ⟨top, etop⟩ : ∃ top, top = u[j + n]'(by omega) * 1000000000 + u[j + (n - 1)]'(by omega) := ⟨_, rfl⟩
 rw [← ev1] at eV b1 hv1
 rw [← ev2] at eV b2
 rw [← ew2] at eW u2
 rw [show u[j + n]'(by omega) * G + u[j + (n - 1)]'(by omega) = top from etop.symm] at eW
 simp only [G] at b1 b2 u0 u1 u2
 have t0 : 0 ≤ top := by omega
 have t1 : top < 1000000000000000000 := by omega
 obtain ⟨q0, eq0⟩ : ∃ q0, q0 = if 999999999 < top / v1 then 999999999 else top / v1 := ⟨_, rfl⟩
 have d0 : 0 ≤ top / v1 := Int.ediv_nonneg t0 (by omega)
 have dd := Int.emod_add_mul_ediv top v1
 have dm0 := Int.emod_nonneg top (show v1 ≠ 0 by omega)
 have dm1 := Int.emod_lt_of_pos top (show 0 < v1 by omega)
 have q00 : 0 ≤ q0 := by rw [eq0]; split <;> omega
 have q01 : q0 < G := by rw [eq0]; simp only [G]; split <;> omega
 have qv : q0 * v1 ≤ v1 * (top / v1) := by
  rw [Int.mul_comm v1]
  exact Int.mul_le_mul_of_nonneg_right (by rw [eq0]; split <;> omega) (by omega)
 have qn := Int.mul_nonneg q00 (show 0 ≤ v1 by omega)
 have hov : W < (q0 + 1) * V := by
  by_cases c : 999999999 < top / v1
  ·rw [if_pos c] at eq0
   rw [eq0]
   exact hWB
  ·rw [if_neg c] at eq0
   rw [eW, eV]
   refine est_first (by decide) hP (by omega) (by omega) V00 W01 (by simp only [G]; omega) q0 q00 ?_
   rw [eq0, Int.add_mul, Int.mul_comm (top / v1)]
   omega
 have rb : top - q0 * v1 ≤ 3000000000 := by
  by_cases c : 999999999 < top / v1
  ·have hov2 : top ≤ v1 * 1000000000 + 999999999 := by
    have a : u[j + n]'(by omega) ≤ v1 := by
     by_cases z : u[j + n]'(by omega) ≤ v1
     ·exact z
     ·exfalso
      have z1 : (v1 + 1) * G ≤ top := by simp only [G]; omega
      have z2 : ((v1 + 1) * G * G) * G ^ (n - 2) ≤ W := by
       have y1 := Int.mul_le_mul_of_nonneg_right z1 (show 0 ≤ G by decide)
       have y2 : (v1 + 1) * G * G ≤ top * G + w2 := by omega
       have := Int.mul_le_mul_of_nonneg_right y2 (Int.le_of_lt hP)
       omega
      have z3 : G * V ≤ ((v1 + 1) * G * G) * G ^ (n - 2) := by
       have x1 : (v1 * G + v2) * G ^ (n - 2) + lv G (ys.take (n - 2)) ≤ (v1 * G + v2 + 1) * G ^ (n - 2) := by
        rw [Int.add_mul (v1 * G + v2) 1]; omega
       have x2 : (v1 * G + v2 + 1) * G ^ (n - 2) ≤ ((v1 + 1) * G) * G ^ (n - 2) := Int.mul_le_mul_of_nonneg_right (by simp only [G]; omega) (Int.le_of_lt hP)
       have x3 := Int.mul_le_mul_of_nonneg_left (show V ≤ ((v1 + 1) * G) * G ^ (n - 2) by omega) (show 0 ≤ G by decide)
       have x4 : G * (((v1 + 1) * G) * G ^ (n - 2)) = ((v1 + 1) * G * G) * G ^ (n - 2) := by grind
       omega
      omega
    omega
   rw [if_pos c] at eq0
   rw [eq0]
   omega
  ·rw [if_neg c] at eq0
   rw [eq0, Int.mul_comm (top / v1)]
   omega
 have r0 : 0 ≤ top - q0 * v1 := by omega
 obtain ⟨q, k1, k2, k3, k4, k5, k6⟩ := d15_ok lf j (n + 1) sc vl u out n (by omega) (by omega) (by omega) rfl (by omega) hdv hdu top v1 v2 w2 ev1 ev2 ew2 hv1 1000000000 (lf + 40) q0 (top - q0 * v1) (by simp only [G]; omega) (by omega) q00 q01 r0 rb rfl
 have lo : (q - 1) * V ≤ W := by
  rw [eW, eV]
  exact est_under hP (by decide) hv1 b2.1 (by simp only [G]; omega) V00 V01 W00 u2.1 k2 k3 k5
 have hi : W < (q + 1) * V := by
  rcases k6 with rfl | k6
  ·exact hov
  ·rw [eW, eV]
   exact est_over hP V00 W01 (by omega) k6
 obtain ⟨c, u1', s1, s2, s3, s4, s5, s6⟩ := d16_ok lf j (n + 1) q sc vl out ys k2 k3 hdy hvy (by omega) (n + 1) (lf + 40) 0 0 u (by omega) (by omega) (by decide) (by decide) hdu (by omega)
 rw [List.drop_zero, show j + 0 = j from rfl, List.drop_of_length_le (by omega), ← hV] at s5
 simp only [lv, Int.mul_zero, Int.add_zero, Int.zero_add] at s5
 rw [show ((0 : Nat) : Int) = 0 from rfl] at s1
 obtain ⟨x1, x2, x3⟩ := win (j := j) (m := n + 1) s2 s3 (by omega) hz (fun p hp => s6 p (by omega))
 have x0 : 0 ≤ lv G (u1'.drop j) := lv_nonneg (by decide) (s3.drop j)
 obtain ⟨W1, hW1⟩ : ∃ W1, W1 = lv G (u1'.drop j) := ⟨_, rfl⟩
 rw [← hW1, ← hW] at x1
 rw [← hW1] at x0 x2
 have Pj : 0 < G ^ j := pow_pos' (by decide) _
 have M0 : 0 < G ^ (n + 1) := pow_pos' (by decide) _
 have VM : V < G ^ (n + 1) := by
  have := pow_mono' (B := G) (by decide) (show n ≤ n + 1 by omega)
  omega
 have y1 : W1 = W - q * V + G ^ (n + 1) * c := by
  rw [Int.pow_add] at s5
  exact cancel_sub _ _ _ _ _ _ _ _ Pj s5 x1
 have qV1 : (q - 1) * V = q * V - V := by grind
 have qV2 : (q + 1) * V = q * V + V := by grind
 have f1 : i64.wrap (((j : Nat) : Int) + ((n : Nat) : Int)) = ((j + n : Nat) : Int) := by rw [w64 (by omega) (by omega)]; omega
 have f2 : i64.wrap (((j + n : Nat) : Int) + 1) = ((j + n + 1 : Nat) : Int) := by rw [w64 (by omega) (by omega)]; omega
 have f3 : i64.wrap (((n : Nat) : Int) - 1) = ((n - 1 : Nat) : Int) := by rw [w64 (by omega) (by omega)]; omega
 have f4 : i64.wrap (u[j + n]'(by omega) * 1000000000) = u[j + n]'(by omega) * 1000000000 := w64 (by omega) (by omega)
 have f5 : i64.wrap top = top := w64 (by omega) (by omega)
 have f6 : i64.wrap (q0 * v1) = q0 * v1 := w64 (by omega) (by omega)
 have f7 : i64.wrap (top - q0 * v1) = top - q0 * v1 := w64 (by omega) (by omega)
 have f8 : i64.wrap (((j : Nat) : Int) - 1) = ((j : Nat) : Int) - 1 := w64 (by omega) (by omega)
 have f9 : i64.wrap (q - 1) = q - 1 := w64 (by omega) (by simp only [G] at k3; omega)
 have go : bigint_divide.r14 lf ys.length ((ys.length : Nat) : Int) sc vl ((j : Nat) : Int) u out K E0 =
   (br (!(c == 0)) (
    bd (bigint_divide.l17 lf j (n + 1) n ((n : Nat) : Int) (q - 1) ((n + 1 : Nat) : Int) sc vl out (lf + 40) 0 0 u1') fun z => K (((j : Nat) : Int) - 1) z.1.1 (out.set j (q - 1))) (K (((j : Nat) : Int) - 1) u1' (out.set j q))) := by
  rw [← hn] at s1
  rw [bigint_divide.r14, ← hn, decide_eq_true (by omega), brT, f1, f2, cutB_mid _ _ _ j (j + n + 1) rfl rfl (by omega) (by omega), bdS]
  simp only [show j + n + 1 - j = n + 1 by omega, Nat.zero_add]
  rw [idxB_nat _ _ (by omega), bdS, List.getElem?_eq_getElem (by omega), bdS, f3, idxB_nat _ _ (by omega), bdS, List.getElem?_eq_getElem (by omega), bdS, idxB_nat _ _ (by omega), bdS, List.getElem?_eq_getElem (by omega), bdS, ← ev1, f4, ← etop, f5, iQuo_nn t0 (by omega) (by omega), bdS, bdS, List.getElem?_eq_getElem (by omega), bdS, ← ev1, ← eq0, f6, f7, k1, bdS]
  simp only [s1, bdS, f9, idxB_nat _ _ hol, upE_set _ _ _ hol, f8]
 rw [go]
 by_cases hc : c = 0
 ·rw [beq_iff_eq.2 hc]
  subst hc
  refine ⟨u1', q, by rw [Bool.not_true, brF], s2, s3, k2, k3, ?_, ?_⟩
  ·rw [← hV]; omega
  ·rw [← hW1, ← hV]; omega
 ·rw [beq_eq_false_iff_ne.2 hc, Bool.not_false, brT]
  have neg : W < q * V := by
   by_cases z : W < q * V
   ·exact z
   ·have := Int.mul_le_mul_of_nonneg_left (show 1 ≤ c by omega) (Int.le_of_lt M0); omega
  have q1 : 1 ≤ q := by
   by_cases z : q = 0
   ·subst z; omega
   ·omega
  obtain ⟨c2, u2', a1, a2, a3, a4, a5, a6⟩ := d17_ok lf j (n + 1) (q - 1) sc vl out ys hdy hvy (by omega) (by omega) (n + 1) (lf + 40) 0 0 u1' (by omega) (by omega) (by decide) (by decide) s3 (by omega)
  rw [List.drop_zero, show j + 0 = j from rfl, List.drop_of_length_le (by omega), ← hV] at a5
  simp only [lv, Int.add_zero, Int.zero_add] at a5
  rw [show ((0 : Nat) : Int) = 0 from rfl, ← hn] at a1
  obtain ⟨z1, z2, z3⟩ := win (j := j) (m := n + 1) a2 a3 (by omega) x3 (fun p hp => a6 p (by omega))
  have z0 : 0 ≤ lv G (u2'.drop j) := lv_nonneg (by decide) (a3.drop j)
  obtain ⟨W2, hW2⟩ : ∃ W2, W2 = lv G (u2'.drop j) := ⟨_, rfl⟩
  rw [← hW2, ← hW1] at z1
  rw [← hW2] at z0 z2
  have y2 : W2 = W1 + V - G ^ (n + 1) * c2 := by
   rw [Int.pow_add] at a5
   exact cancel_add _ _ _ _ _ _ _ _ Pj a5 z1
  have y3 : W2 + G ^ (n + 1) * (c2 - c) = W - (q - 1) * V := by rw [y2, y1, Int.mul_sub]; omega
  obtain ⟨_, y4⟩ := win_eq M0 y3 z0 z2 (by omega) (by omega)
  refine ⟨u2', q - 1, by rw [a1, bdS], by rw [a2, s2], a3, by omega, by omega, ?_, ?_⟩
  ·rw [← hV]
   have e1 : lv G u2' = lv G u + (G ^ j * (W2 - W1) + G ^ j * (W1 - W)) := by omega
   rw [e1, y4]
   exact off_ring _ _ _ _ _
  ·rw [← hW2, ← hV]; omega
theorem d14_ok (lf : Nat) (sc vl ys : List Int) (hlf : 2000000000 ≤ lf) (hn2 : 2 ≤ ys.length) (hdy : Dg G ys) (hty : Tr ys) (hdv : Dg G vl) (hvy : vl.take ys.length = ys) (hvl : ys.length ≤ vl.length) (N : Nat) (hub : N ≤ 500000) :
  ∀ (k f : Nat) (u out : List Int), k + ys.length ≤ N → u.length = N → k < f → Dg G u → Dg G out → k ≤ out.length → (∀ p, p < k → out[p]? = some 0) → lv G (u.drop k) < lv G ys →
  ∃ u' out', bigint_divide.l14 lf ys.length ((ys.length : Nat) : Int) sc vl f (((k : Nat) : Int) - 1) u out = some ((u', out', ()), ()) ∧ Dg G u' ∧ Dg G out' ∧ u'.length = N ∧ out'.length = out.length ∧ lv G u' + lv G ys * lv G out' = lv G u + lv G ys * lv G out ∧ lv G u' < lv G ys := by
 intro k
 induction k with
 | zero =>
  intro f u out hk hN hf hdu hdo hol hz hinv
  obtain ⟨g, rfl⟩ := Nat.exists_eq_succ_of_ne_zero (show f ≠ 0 by omega)
  refine ⟨u, out, ?_, hdu, hdo, hN, rfl, rfl, hinv⟩
  rw [bigint_divide.l14, bigint_divide.r14, decide_eq_false (by omega), brF]
 | succ k ih =>
  intro f u out hk hN hf hdu hdo hol hz hinv
  obtain ⟨g, rfl⟩ := Nat.exists_eq_succ_of_ne_zero (show f ≠ 0 by omega)
  obtain ⟨u', q, t1, t2, t3, t4, t5, t6, t7⟩ := d14_step lf k sc vl ys u out hlf hn2 hdy hty hdv hvy hvl hdu (by omega) (by omega) (by omega) hinv (bigint_divide.l14 lf ys.length ((ys.length : Nat) : Int) sc vl g) (fun w0 w1 => some ((w0, w1, ()), ()))
  obtain ⟨u2, o2, s1, s2, s3, s4, s5, s6, s7⟩ := ih g u' (out.set k q) (by omega) (by omega) (by omega) t3 (dg_set hdo _ ⟨t4, t5⟩) (by rw [List.length_set]; omega) (fun p hp => by
   rw [List.getElem?_set_ne (by omega)]; exact hz p (by omega)) t7
  refine ⟨u2, o2, ?_, s2, s3, s4, by rw [s5, List.length_set], ?_, s7⟩
  ·rw [bigint_divide.l14, show ((k + 1 : Nat) : Int) - 1 = ((k : Nat) : Int) by omega, t1]
   exact s1
  ·have o0 : out[k]'(by omega) = 0 := by
    have h1 := hz k (by omega)
    rw [List.getElem?_eq_getElem (by omega)] at h1
    exact Option.some.inj h1
   rw [s6, t6, lv_set G out k q (by omega), o0]
   grind
theorem d13_ok (lf v1 : Nat) (xs v2 v3 : List Int) (hb : xs.length ≤ 1000000) : ∀ (k n : Nat) (w : List Int), xs.length < w.length + k → (0 < k → w.length + k = xs.length + 1) → w.length + k ≤ 1100000 → k < n →
  bigint_divide.l13 lf xs v1 v2 v3 n w = some ((w ++ List.replicate k 0, ()), ()) := by
 intro k
 induction k with
 | zero =>
  intro n w h1 h2 h3 hn
  obtain ⟨m, rfl⟩ := Nat.exists_eq_succ_of_ne_zero (show n ≠ 0 by omega)
  rw [bigint_divide.l13, bigint_divide.r13, decide_eq_false (by omega), brF]
  simp
 | succ k ih =>
  intro n w h1 h2 h3 hn
  obtain ⟨m, rfl⟩ := Nat.exists_eq_succ_of_ne_zero (show n ≠ 0 by omega)
  have := h2 (by omega)
  rw [bigint_divide.l13, bigint_divide.r13, decide_eq_true (by omega), brT, apL_ok _ _ _ (by decide) (by simp; omega), bdS, ih m (w ++ [0]) (by simp; omega) (by simp; omega) (by simp; omega) (by omega)]
  simp [List.replicate_succ]
theorem dtail (lf : Nat) (xs ys u0 : List Int) (s : Int) (hlf : 2000000000 ≤ lf) (hx : Dg G xs) (hy : Dg G ys) (ty : Tr ys) (hy2 : 2 ≤ ys.length) (hyx : ys.length ≤ xs.length) (hxb : xs.length ≤ 50000) (s0 : 0 < s) (s1 : s < G)
    (hs : s * lv G ys < G ^ ys.length) (hu : Dg G u0) (hul : u0.length ≤ xs.length + 2) (hu1 : 1 ≤ u0.length) (hu2 : lv G u0 < G ^ (u0.length - 1)) (hu3 : lv G u0 = lv G xs * s)
    (BIG : Bool × ((List Int) × (List Int) × (List Int) × (List Int) × Unit) × (Nat × (List Int) × (List Int) × (List Int) × (List Int) × Unit) × Unit → Option (List Int × List Int × Unit)) :
    ∃ Q R, (bd (mkL (i64.wrap (((ys.length : Nat) : Int) + ((([s] : List Int).length : Nat) : Int))) (i64.wrap (((ys.length : Nat) : Int) + ((([s] : List Int).length : Nat) : Int))) 8 0) fun q197 =>
 bd (bigint_divide.l4 lf ys ((ys.length : Nat) : Int) [s] [0] u0 (lf + 40) 0 q197) fun z198 =>
 bd (bigint_divide.l6 lf [s] [0] u0 z198.1.1 (lf + 40)) fun z199 =>
 br z199.1 (BIG z199) (
 bd (bigint_divide.l13 lf xs z199.2.2.1.1 z199.2.2.1.2.1 z199.2.2.1.2.2.2.2.1 (lf + 40) z199.2.2.1.2.2.2.1) fun z208 =>
 bd (mkL (i64.wrap (((z208.1.1.length : Nat) : Int) - ((z199.2.2.1.1 : Nat) : Int))) (i64.wrap (((z208.1.1.length : Nat) : Int) - ((z199.2.2.1.1 : Nat) : Int))) 8 0) fun q209 =>
 bd (bigint_divide.l14 lf z199.2.2.1.1 ((z199.2.2.1.1 : Nat) : Int) z199.2.2.1.2.1 z199.2.2.1.2.2.2.2.1 (lf + 40) (i64.wrap ((i64.wrap (((z208.1.1.length : Nat) : Int) - ((z199.2.2.1.1 : Nat) : Int))) - 1)) z208.1.1 q209) fun z210 =>
 bd (bigint_trim.f lf z210.1.1) fun r211 =>
 bd (idxB z199.2.2.1.2.1.length 0) fun j212 =>
 bd (z199.2.2.1.2.1[j212]?) fun y213 =>
 bd (bigint_short.f lf r211.1 y213) fun r214 =>
 bd (bigint_trim.f lf z210.1.2.1) fun r215 =>
 some (r215.1, r214.1, ()))) = some (Q, R, ()) ∧ Dg G Q ∧ Tr Q ∧ Dg G R ∧ Tr R ∧ lv G xs = lv G ys * lv G Q + lv G R ∧ lv G R < lv G ys := by
  have e0 : i64.wrap (((ys.length : Nat) : Int) + ((([s] : List Int).length : Nat) : Int)) = ((ys.length + 1 : Nat) : Int) := by rw [w64 (by simp; omega) (by simp; omega)]; simp
  obtain ⟨vl, r1, r2, r3, r4⟩ := dB_l0 lf [0] u0 ys [s] hy (Dg.cons ⟨by omega, s1⟩ Dg.nil) (by omega) (by simp) ys.length (lf + 40) 0 (List.replicate (ys.length + 1) 0) (by omega) (by omega) (Dg.zeros (by decide) _) (by simp) (by simp; omega) (fun q _ h => by rw [List.length_replicate] at h; rw [List.getElem?_replicate, if_pos h])
  rw [List.length_replicate] at r2
  rw [lv_zeros] at r4
  simp only [lv, List.drop_zero, Int.mul_zero, Int.add_zero, Int.pow_zero, Int.one_mul, Int.zero_add] at r4
  rw [show ((0 : Nat) : Int) = 0 from rfl] at r1
  obtain ⟨V, hV⟩ : ∃ V, V = lv G vl := ⟨_, rfl⟩
  have hV2 : V = s * lv G ys := by rw [hV, r4, Int.mul_comm]
  have y0 : 0 < lv G ys := lv_pos (by decide) hy ty (by intro e; subst e; simp at hy2)
  have yt := lv_top (B := G) (by decide) hy ty (by intro e; subst e; simp at hy2)
  have yV : lv G ys ≤ V := by
    have := Int.mul_le_mul_of_nonneg_right (show 1 ≤ s by omega) (Int.le_of_lt y0)
    omega
  have last : vl.getLast? = some 0 := by
    have h1 := lv_split G vl ys.length (by omega)
    rw [lv_dropc G vl ys.length (by omega), List.drop_of_length_le (by omega)] at h1
    simp only [lv, Int.mul_zero, Int.add_zero] at h1
    have h2 := lv_nonneg (B := G) (by decide) (r3.take ys.length)
    have h3 := r3.at ys.length (by omega)
    have h4 : vl[ys.length]'(by omega) = 0 := by
      by_cases z : vl[ys.length]'(by omega) = 0
      · exact z
      · have := Int.mul_le_mul_of_nonneg_left (show 1 ≤ vl[ys.length]'(by omega) by omega) (Int.le_of_lt (pow_pos' (B := G) (by decide) ys.length))
        omega
    rw [List.getLast?_eq_getElem?, r2, Nat.add_sub_cancel, List.getElem?_eq_getElem (by omega), h4]
  have h6 : bigint_divide.l6 lf [s] [0] u0 vl (lf + 40) = some (false, ([], [], [], [], ()), (((tr vl).length, [s], [0], u0, vl, ()), ())) := by
    rcases l6_ok lf [s] [0] u0 vl (by omega) (lf + 40) (by omega) with ⟨h, _⟩ | ⟨_, h⟩
    · exact absurd last h
    · exact h
  have dT := dg_tr r3
  have tT := tr_tr vl
  have vT := lv_tr G vl
  obtain ⟨n, hn⟩ : ∃ n, n = (tr vl).length := ⟨_, rfl⟩
  have n1 : n ≤ ys.length := by
    by_cases z : n ≤ ys.length
    · exact z
    · have a := lv_top (B := G) (by decide) dT tT (by intro e; rw [e] at hn; simp at hn; omega)
      have b := pow_mono' (B := G) (by decide) (show ys.length ≤ (tr vl).length - 1 by omega)
      omega
  have n2 : 2 ≤ n := by
    by_cases z : 2 ≤ n
    · exact z
    · have a := lv_lt (B := G) (by decide) dT
      have b := pow_mono' (B := G) (by decide) (show (tr vl).length ≤ ys.length - 1 by omega)
      omega
  obtain ⟨k, hk⟩ : ∃ k, k = xs.length + 1 - u0.length := ⟨_, rfl⟩
  obtain ⟨N, hN⟩ : ∃ N, N = u0.length + k := ⟨_, rfl⟩
  obtain ⟨u, hu0⟩ : ∃ u, u = u0 ++ List.replicate k 0 := ⟨_, rfl⟩
  have ul : u.length = N := by rw [hu0, List.length_append, List.length_replicate, hN]
  have ud : Dg G u := by rw [hu0]; exact hu.app (Dg.zeros (by decide) _)
  have uv' : lv G u = lv G u0 := by rw [hu0, lv_app, lv_zeros]; simp
  have h13 : bigint_divide.l13 lf xs n [s] vl (lf + 40) u0 = some ((u, ()), ()) := by
    rw [hu0]; exact d13_ok lf n xs [s] vl (by omega) k (lf + 40) u0 (by omega) (by omega) (by omega) (by omega)
  have inv : lv G (u.drop (N - n)) < lv G (tr vl) := by
    have a := lv_split G u (N - n) (by omega)
    have b := lv_nonneg (B := G) (by decide) (ud.take (N - n))
    have c := lv_top (B := G) (by decide) dT tT (by intro e; rw [e] at hn; simp at hn; omega)
    have d := pow_mono' (B := G) (by decide) (show u0.length - 1 ≤ N - 1 by omega)
    have e : G ^ (N - 1) = G ^ (N - n) * G ^ (n - 1) := by rw [← Int.pow_add]; congr 1; omega
    rw [← hn] at c
    by_cases z : lv G (u.drop (N - n)) < lv G (tr vl)
    · exact z
    · have := Int.mul_le_mul_of_nonneg_left (show G ^ (n - 1) ≤ lv G (u.drop (N - n)) by omega) (Int.le_of_lt (pow_pos' (B := G) (by decide) (N - n)))
      omega
  have e1 : i64.wrap (((u.length : Nat) : Int) - ((n : Nat) : Int)) = ((N - n : Nat) : Int) := by rw [w64 (by omega) (by omega)]; omega
  have e2 : i64.wrap (((N - n : Nat) : Int) - 1) = ((N - n : Nat) : Int) - 1 := w64 (by omega) (by omega)
  obtain ⟨u', out', t1, t2, t3, t4, t5, t6, t7⟩ := d14_ok lf [s] vl (tr vl) hlf (by omega) dT tT r3 (tr_take vl) (tr_len vl) N (by omega) (N - n) (lf + 40) u (List.replicate (N - n) 0) (by omega) ul (by omega) ud (Dg.zeros (by decide) _) (by simp) (fun p hp => by rw [List.getElem?_replicate, if_pos hp]) inv
  rw [lv_zeros, vT, uv', hu3, ← hV, hV2] at t6
  rw [vT, ← hV, hV2] at t7
  rw [← hn] at t1
  rw [List.length_replicate] at t5
  obtain ⟨q, r, p1, p2, p3, p4, p5, p6, p7⟩ := short_f lf (tr u') s s0 s1 (dg_tr t2) (by have := tr_len u'; omega) (by omega)
  rw [lv_tr] at p7
  have key : lv G xs = lv G ys * lv G out' + lv G q ∧ r = 0 := by
    have := win_eq (M := s) (a := r) (d := lv G q + lv G ys * lv G out' - lv G xs) (b := 0) s0 (by rw [p7] at t6; grind) p5 p6 (by decide) s0
    exact ⟨by omega, this.2⟩
  refine ⟨tr out', q, ?_, dg_tr t3, tr_tr _, p2, p3, by rw [lv_tr]; exact key.1, ?_⟩
  · rw [e0, mkL_nat _ _ _ (ys.length + 1) rfl rfl (by omega), bdS, r1, bdS, h6, bdS, brF]
    simp only [← hn]
    rw [h13, bdS]
    simp only [e1]
    rw [mkL_nat _ _ _ (N - n) rfl rfl (by omega), bdS, e2, t1, bdS, trim_f lf u' (by omega) (by omega), bdS]
    simp only [p1, bdS, show idxB ([s] : List Int).length 0 = some 0 from idxB_nat 1 0 (by decide), List.getElem?_cons_zero]
    rw [trim_f lf out' (by omega) (by omega), bdS]
  · exact Int.lt_of_mul_lt_mul_left (by rw [key.2] at p7; omega) (Int.le_of_lt s0)
theorem divide_f (lf : Nat) (xs ys : List Int) (hx : Dg G xs) (hy : Dg G ys) (tx : Tr xs) (ty : Tr ys) (hyn : ys ≠ []) (hxb : xs.length ≤ 50000) (hyb : ys.length ≤ 50000) (hlf : 2000000000 ≤ lf) :
  ∃ Q R, bigint_divide.f lf xs ys = some (Q, R, ()) ∧ Dg G Q ∧ Tr Q ∧ Dg G R ∧ Tr R ∧ lv G xs = lv G ys * lv G Q + lv G R ∧ lv G R < lv G ys := by
 obtain ⟨v, e, sg⟩ := order_f lf xs ys hx hy tx ty (by omega) (by omega) (by omega)
 rw [bigint_divide.f, e, bdS]
 by_cases hneg : v < 0
 ·rw [decide_eq_true hneg, brT]
  have := sg.1.1 hneg
  exact ⟨[], xs, rfl, Dg.nil, Tr.nil, hx, tx, by simp [lv], by omega⟩
 rw [decide_eq_false hneg, brF]
 have hle : lv G ys ≤ lv G xs := by
  have : ¬ (lv G xs - lv G ys < 0) := fun h => hneg (sg.1.2 h)
  omega
 have hlen : ys.length ≤ xs.length := by
  by_cases z : ys.length ≤ xs.length
  ·exact z
  ·have := lv_len_lt (B := G) (by decide) hx hy ty (by omega)
   omega
 have hy1 : 1 ≤ ys.length := List.length_pos_iff.2 hyn
 by_cases h1 : ys.length = 1
 ·rw [show (((ys.length : Nat) : Int) == 1) = true by rw [h1]; rfl, brT]
  obtain ⟨d, rfl⟩ := List.length_eq_one_iff.1 h1
  have d0 := hy d (by simp)
  have dp : 0 < d := by
   have := lv_pos (B := G) (by decide) hy ty (by simp)
   simp only [lv] at this
   omega
  obtain ⟨q, r, p1, p2, p3, p4, p5, p6, p7⟩ := short_f lf xs d dp d0.2 hx (by omega) (by omega)
  have e3 : idxL [d] 0 = some d := rfl
  refine ⟨q, tr [r], ?_, p2, p3, dg_tr (Dg.cons ⟨p5, by omega⟩ Dg.nil), tr_tr _, ?_, ?_⟩
  ·rw [e3, bdS, p1, bdS, trim_f lf [r] (by simp; omega) (by simp), bdS]
  ·rw [lv_tr, p7]; simp [lv]
  ·rw [lv_tr]; simp only [lv]; omega
 ·rw [show (((ys.length : Nat) : Int) == 1) = false by rw [beq_eq_false_iff_ne]; omega, brF]
  have yl0 := hy.at (ys.length - 1) (by omega)
  have yl1 : 1 ≤ ys[ys.length - 1]'(by omega) := by
   have : ys[ys.length - 1]'(by omega) ≠ 0 := by
    intro e
    apply ty
    rw [List.getLast?_eq_getElem?, List.getElem?_eq_getElem (by omega), e]
   omega
  obtain ⟨y, ey⟩ : ∃ y, y = ys[ys.length - 1]'(by omega) := ⟨_, rfl⟩
  rw [← ey] at yl0 yl1
  have e2 : i64.wrap (((ys.length : Nat) : Int) - 1) = ((ys.length - 1 : Nat) : Int) := by rw [w64 (by omega) (by omega)]; omega
  have e3 : i64.wrap (y + 1) = y + 1 := w64 (by omega) (by simp only [G] at yl0; omega)
  have e4 : i64.wrap (((xs.length : Nat) : Int) + 1) = ((xs.length + 1 : Nat) : Int) := by rw [w64 (by omega) (by omega)]; omega
  obtain ⟨s, es⟩ : ∃ s, s = 1000000000 / (y + 1) := ⟨_, rfl⟩
  have sm : (y + 1) * s ≤ 1000000000 := by rw [es]; exact Int.mul_ediv_self_le (by omega)
  have s0 : 0 < s := by
   have : 1 ≤ 1000000000 / (y + 1) := Int.le_ediv_of_mul_le (by omega) (by simp only [G] at yl0; omega)
   omega
  have s1 : s < G := by
   have := Int.mul_le_mul_of_nonneg_right (show 2 ≤ y + 1 by omega) (Int.le_of_lt s0)
   simp only [G]; omega
  have hs : s * lv G ys < G ^ ys.length := by
   have a := lv_split G ys (ys.length - 1) (by omega)
   rw [lv_dropc G ys (ys.length - 1) (by omega), List.drop_of_length_le (by omega), ← ey] at a
   simp only [lv, Int.mul_zero, Int.add_zero] at a
   have b := lv_lt (B := G) (by decide) (hy.take (ys.length - 1))
   rw [List.length_take, Nat.min_eq_left (by omega)] at b
   have c : lv G ys < G ^ (ys.length - 1) * (y + 1) := by rw [Int.mul_add]; omega
   have d := Int.mul_lt_mul_of_pos_left c s0
   have e : s * (G ^ (ys.length - 1) * (y + 1)) = G ^ (ys.length - 1) * ((y + 1) * s) := by grind
   have f := Int.mul_le_mul_of_nonneg_left sm (Int.le_of_lt (pow_pos' (B := G) (by decide) (ys.length - 1)))
   have g : G ^ ys.length = G ^ (ys.length - 1) * 1000000000 := by
    conv => lhs; rw [show ys.length = (ys.length - 1) + 1 by omega]
    rw [Int.pow_succ]
   omega
  rw [e2, idxL_nat _ _ (by omega), bdS, ← ey, e3, iQuo_nn (by decide) (by omega) (by decide), bdS, ← es, e4, mkL_nat _ _ _ (xs.length + 1) rfl rfl (by omega), bdS]
  obtain ⟨w, r1, r2, r3, r4⟩ := dA_l0 lf xs [s] hx (Dg.cons ⟨by omega, s1⟩ Dg.nil) (by omega) (by simp) xs.length (lf + 40) 0 (List.replicate (xs.length + 1) 0) (by omega) (by omega) (Dg.zeros (by decide) _) (by simp) (by simp; omega) (fun q _ h => by rw [List.length_replicate] at h; rw [List.getElem?_replicate, if_pos h])
  rw [List.length_replicate] at r2
  rw [lv_zeros] at r4
  simp only [lv, List.drop_zero, Int.mul_zero, Int.add_zero, Int.pow_zero, Int.one_mul, Int.zero_add] at r4
  rw [show ((0 : Nat) : Int) = 0 from rfl] at r1
  rw [r1, bdS]
  have wl := tr_len w
  have fin := dtail lf xs ys (tr w ++ [0]) s hlf hx hy ty (by omega) hlen hxb s0 s1 hs ((dg_tr r3).app (Dg.zeros (by decide) 1)) (by simp; omega) (by simp) (by
   rw [List.length_append, List.length_singleton, Nat.add_sub_cancel, lv_app]
   simp only [lv, Int.mul_zero, Int.add_zero]
   exact lv_lt (by decide) (dg_tr r3)) (by rw [lv_app, lv_tr, r4]; simp [lv])
  rcases l2_ok lf [s] w (by omega) (lf + 40) (by omega) with ⟨t, h2⟩ | ⟨_, h2⟩
  ·rw [h2, bdS, brT, apL_ok _ _ _ (by decide) (by simp; omega), bdS]
   rw [tr_of_Tr (show Tr w from t)] at fin
   exact fin _
  ·rw [h2, bdS, brF]
   simp only [tr_take]
   rw [decide_eq_true wl, Bool.true_and, apL_ok _ _ _ (by decide) (by simp; omega), bdS]
   exact fin _
end Go.N
namespace Go.N
open Go Go.Q Go.Rx
theorem fdiv_unique {x y q r : Int} (h : x = y * q + r) (hr : (0 ≤ r ∧ r < y) ∨ (y < r ∧ r ≤ 0)) : q = x.fdiv y ∧ r = x.fmod y := by
 have e := Int.mul_fdiv_add_fmod x y
 have hf : (0 ≤ x.fmod y ∧ x.fmod y < y) ∨ (y < x.fmod y ∧ x.fmod y ≤ 0) := by
  rcases hr with hr | hr
  ·exact Or.inl ⟨Int.fmod_nonneg_of_pos x (by omega), Int.fmod_lt_of_pos x (by omega)⟩
  ·refine Or.inr ?_
   have a := Int.fmod_nonneg_of_pos (-x) (show 0 < -y by omega)
   have b := Int.fmod_lt_of_pos (-x) (show 0 < -y by omega)
   rw [Int.neg_fmod_neg] at a b
   omega
 have key : x.fdiv y = q := by
  have d : y * (x.fdiv y - q) = r - x.fmod y := by rw [Int.mul_sub]; omega
  rcases Int.lt_trichotomy (x.fdiv y) q with z | z | z
  ·rcases hr with hr | hr
   ·have := Int.mul_le_mul_of_nonneg_left (show x.fdiv y - q ≤ -1 by omega) (show 0 ≤ y by omega); omega
   ·have := Int.mul_le_mul_of_nonneg_left (show x.fdiv y - q ≤ -1 by omega) (show 0 ≤ -y by omega)
    simp only [Int.neg_mul] at this; omega
  ·exact z
  ·rcases hr with hr | hr
   ·have := Int.mul_le_mul_of_nonneg_left (show 1 ≤ x.fdiv y - q by omega) (show 0 ≤ y by omega); omega
   ·have := Int.mul_le_mul_of_nonneg_left (show 1 ≤ x.fdiv y - q by omega) (show 0 ≤ -y by omega)
    simp only [Int.neg_mul] at this; omega
 rw [key] at e
 exact ⟨key.symm, by omega⟩
theorem quotient_f (lf : Nat) (hlf : 2000000000 ≤ lf) {p q : Bool × (List Int × Unit)} {x y : Int} {k : Nat} (h1 : RN p x k) (h2 : RN q y k) (hk : k ≤ 40000) (hy : y ≠ 0) :
  ∃ s t, bigint_quotient.f lf p q = some (s, t, ()) ∧ RN s (x.fdiv y) (k + 1) ∧ RN t (x.fmod y) k := by
 obtain ⟨pn, pl, ⟨⟩⟩ := p
 obtain ⟨qn, ql, ⟨⟩⟩ := q
 obtain ⟨d1, t1, l1, v1⟩ := h1
 obtain ⟨d2, t2, l2, v2⟩ := h2
 simp only at d1 t1 l1 v1 d2 t2 l2 v2
 have hne : ql ≠ [] := by
  rintro rfl
  apply hy
  rw [v2]; simp [lv]
 obtain ⟨Q, R, e, dq, tq, dr, tr', val, lt⟩ := divide_f lf pl ql d1 d2 t1 t2 hne (by omega) (by omega) hlf
 have y0 := lv_pos (B := G) (by decide) d2 t2 hne
 have R0 := lv_nonneg (B := G) (by decide) dr
 have Q0 := lv_nonneg (B := G) (by decide) dq
 have lR : R.length ≤ ql.length := by
  by_cases z : R.length ≤ ql.length
  ·exact z
  ·have := lv_len_lt (B := G) (by decide) d2 dr tr' (by omega); omega
 have lQ : Q.length ≤ pl.length := by
  by_cases z : Q.length ≤ pl.length
  ·exact z
  ·have := lv_len_lt (B := G) (by decide) d1 dq tq (by omega)
   have := Int.mul_le_mul_of_nonneg_right (show 1 ≤ lv G ql by omega) Q0
   omega
 rw [bigint_quotient.f]
 simp only [e, bdS]
 by_cases hs : pn = qn
 ·subst hs
  simp only [BEq.rfl, brT]
  have key : lv G Q = x.fdiv y ∧ (if pn = true then -lv G R else lv G R) = x.fmod y := by
   apply fdiv_unique
   ·cases pn <;> simp only [Bool.false_eq_true, if_true, if_false] at v1 v2 ⊢ <;> rw [v1, v2, val] <;> grind
   ·cases pn <;> simp only [Bool.false_eq_true, if_true, if_false] at v1 v2 ⊢ <;> omega
  exact ⟨_, _, rfl, ⟨dq, tq, by simp only; omega, by simp [key.1]⟩, ⟨dr, tr', by simp only; omega, key.2.symm⟩⟩
 ·rw [show (pn == qn) = false from beq_eq_false_iff_ne.2 hs, brF]
  by_cases hR : R = []
  ·subst hR
   rw [decide_eq_false (by simp), brF]
   have key : -lv G Q = x.fdiv y ∧ 0 = x.fmod y := by
    apply fdiv_unique
    ·simp only [lv, Int.add_zero] at val
     cases pn <;> cases qn <;> simp only [Bool.false_eq_true, if_true, if_false, not_true, reduceCtorEq] at v1 v2 hs ⊢ <;> rw [v1, v2, val] <;> grind
    ·omega
   exact ⟨_, _, rfl, ⟨dq, tq, by simp only; omega, by simp [key.1]⟩, ⟨Dg.nil, Tr.nil, by simp, by rw [← key.2]; simp [lv]⟩⟩
  ·have Rl : 0 < R.length := List.length_pos_iff.2 hR
   have Rp := lv_pos (B := G) (by decide) dr tr' hR
   rw [decide_eq_true (by omega), brT]
   obtain ⟨Q1, f1, g1, g2, g3, g4⟩ := plus_f lf Q [1] dq (Dg.cons (by decide) Dg.nil) (by omega) (by simp) (by omega)
   obtain ⟨R1, f2, g5, g6, g7, g8⟩ := minus_f lf ql R d2 dr (by omega) (by omega) (by omega)
   have e1 : lv G [1] = 1 := by simp [lv]
   have key : -lv G Q1 = x.fdiv y ∧ (if qn = true then -lv G R1 else lv G R1) = x.fmod y := by
    apply fdiv_unique
    ·rw [g3, g7, e1]
     cases pn <;> cases qn <;> simp only [Bool.false_eq_true, if_true, if_false, not_true, reduceCtorEq] at v1 v2 hs ⊢ <;> rw [v1, v2, val] <;> grind
    ·rw [g7]
     cases pn <;> cases qn <;> simp only [Bool.false_eq_true, if_true, if_false, not_true, reduceCtorEq] at v1 v2 hs ⊢ <;> omega
   rw [f1, bdS, f2, bdS]
   refine ⟨_, _, rfl, ⟨g1, g2, ?_, by simp [key.1]⟩, ⟨g5, g6, by simp only; omega, key.2.symm⟩⟩
   simp only [List.length_singleton] at g4 ⊢
   omega
theorem divided_f (lf : Nat) (hlf : 2000000000 ≤ lf) (l m : List UInt8) (h1 : chk l = 0) (h2 : chk m = 0) :
  bigint_divided.f lf (bs l) (bs m) = some (if iv m = 0 then (bs [], bs [], 19, ()) else (bs (Lib.itoa ((iv l).fdiv (iv m))), bs (Lib.itoa ((iv l).fmod (iv m))), 0, ())) := by
 obtain ⟨p, q, e, k1, k2, _⟩ := pair_f lf l m h1 h2 (by omega)
 rw [bigint_divided.f, e, bdS]
 simp only [bne_self_eq_false, brF]
 by_cases h0 : iv m = 0
 ·rw [if_pos h0]
  have : q.2.1 = [] := by
   have a := k2.val
   rw [h0] at a
   have b := lv_eq_zero (B := G) (by decide) k2.dg k2.tr
   apply b.1
   split at a <;> omega
  simp [this, brT]
 ·rw [if_neg h0]
  have hq : q.2.1 ≠ [] := by
   intro z
   apply h0
   have a := k2.val
   rw [z] at a
   simpa [lv] using a
  have hl : 0 < q.2.1.length := List.length_pos_iff.2 hq
  rw [show (((q.2.1.length : Nat) : Int) == 0) = false from beq_eq_false_iff_ne.2 (by omega), brF]
  obtain ⟨s, t, e2, r1, r2⟩ := quotient_f lf hlf k1 k2 (by omega) h0
  simp only [e2, bdS, ntext_f lf r1 (by omega) (by omega), ntext_f lf r2 (by omega) (by omega)]
theorem rem_f (lf : Nat) (hlf : 2000000000 ≤ lf) (l m : List UInt8) (h1 : chk l = 0) (h2 : chk m = 0) :
  bigint_Rem.f lf (bs l) (bs m) = some (if iv m = 0 then (bs [], 19, ()) else (bs (Lib.itoa ((iv l).fmod (iv m))), 0, ())) := by
 rw [bigint_Rem.f, divided_f lf hlf l m h1 h2, bdS]
 split <;> rfl
end Go.N
namespace Go.N
open Go Go.Q Go.Rx
theorem okb_len {x : Int} (h : -K < x ∧ x < K) : (Lib.itoa x).length ≤ 4097 := itoa_len x ((sz_K x).2 h)
theorem lessI (lf : Nat) (h3 : 200000 ≤ lf) {x y : Int} (hx : -K < x ∧ x < K) (hy : -K < y ∧ y < K) : surveyorref01_Less.f lf (bs (Lib.itoa x)) (bs (Lib.itoa y)) = some (decide (x < y), ()) := by
 have a := okb_len hx
 have b := okb_len hy
 rw [less_f lf _ _ (can_itoa x) (can_itoa y) (by omega) (by omega) h3, iv_itoa, iv_itoa]
theorem clip_f (lf : Nat) (o : Option Int) (h : okb K o) : surveyorref21_clip.f lf (ob o) = some (ob (o.bind clip), ()) := by
 rw [surveyorref21_clip.f, ob_beq]
 cases o with
 | none => simp [brF]
 | some z =>
  rw [decide_eq_false (by simp)]
  simp only [Bool.not_false, brT, ob]
  have hl := okb_len h
  rw [rDigits_f lf _ (itoa_ne z) (by omega), bdS]
  simp only [Option.bind_some, clip]
  have := sz_C z
  unfold sz at this
  by_cases hz : nlen (Lib.itoa z) ≤ 100
  ·rw [decide_eq_false (by omega), brF, if_pos (this.1 hz)]
  ·rw [decide_eq_true (by omega), brT, if_neg (fun h' => hz (this.2 h'))]
def gt? : Option Int → Option Int → Bool
 | some x, some y => decide (y < x)
 | _, _ => false
theorem emp_lh {lo hi : Option Int} (h1 : okb K lo) (h2 : okb K hi) : emp ⟨lox lo, hix hi⟩ = gt? lo hi := by
 have hK := K_gt
 unfold emp
 cases lo with
 | none => cases hi with
  | none => exact decide_eq_false (by simp only [key, lox, hix]; omega)
  | some y => exact decide_eq_false (by simp only [key, lox, hix]; simp only [okb] at h2; omega)
 | some x => cases hi with
  | none => exact decide_eq_false (by simp only [key, lox, hix]; simp only [okb] at h1; omega)
  | some y => rfl
theorem tx_lox (o : Option Int) : tx (lox o) = o.bind clip := by cases o <;> rfl
theorem tx_hix (o : Option Int) : tx (hix o) = o.bind clip := by cases o <;> rfl
theorem range_f (lf : Nat) (h3 : 200000 ≤ lf) (lo hi : Option Int) (h1 : okb K lo) (h2 : okb K hi) : surveyorref21_Range.f lf (ob lo) (ob hi) = some (ac (toA ⟨lox lo, hix hi⟩), ()) := by
 rw [surveyorref21_Range.f]
 simp only [ob_beq, clip_f lf lo h1, clip_f lf hi h2, bdS]
 unfold toA
 rw [emp_lh h1 h2]
 simp only [tx_lox, tx_hix]
 cases lo with
 | none => simp [brF, ac, gt?]
 | some x => cases hi with
  | none => simp [brT, brF, ac, gt?]
  | some y =>
   have hl : surveyorref01_Less.f lf (ob (some y)) (ob (some x)) = some (decide (y < x), ()) := lessI lf h3 h2 h1
   simp only [reduceCtorEq, decide_false, Bool.not_false, brT, hl, bdS]
   by_cases h : y < x
   ·simp [gt?, h, brT, surveyorref21_None.f, bdS, ac, ob]
   ·simp [gt?, h, brF, ac]
theorem okb.mono {k k' : Int} (h : k ≤ k') {o : Option Int} (ho : okb k o) : okb k' o := by cases o <;> simp only [okb] at *; omega
theorem Wf.loK {a : A} (h : Wf a) : okb K a.lo := h.lo.mono (Int.le_of_lt C_lt_K)
theorem Wf.hiK {a : A} (h : Wf a) : okb K a.hi := h.hi.mono (Int.le_of_lt C_lt_K)
end Go.N
namespace Go.N
open Go Go.Q Go.Rx
abbrev tl (b : ByteArray) : List UInt8 := b.data.toList
def bel (v : Int) (acc : X) (x : Int) : X := if x ≤ v then .fin x else acc
def abo (v : Int) (x : Int) (acc : X) : X := if x ≥ v then .fin x else acc
def below (zs : List Int) (v : X) : X := zs.foldl (bel (key v)) .ni
def above (zs : List Int) (v : X) : X := zs.foldr (abo (key v)) .pi
end Go.N
namespace Go.N
open Go Go.Q Go.Rx
def inS (s : Sp) (z : Int) : Bool := decide (key s.lo ≤ z) && decide (z ≤ key s.hi)
theorem holds_wf (lf : Nat) (h3 : 200000 ≤ lf) {a : A} (ha : Wf a) {z : Int} (hz : -K < z ∧ z < K) : interval_Holds.f lf (ac a) (bs (Lib.itoa z)) = some (inS (ofA a) z, 0, ()) := by
 rw [interval_Holds.f]
 have hl := okb_len hz
 have e : ((0, bs (Lib.itoa z), ()) : EB) = xc (.fin z) := rfl
 have hx : okx K (.fin z) := hz
 obtain ⟨c, c1, c2, c3⟩ := cmp_f lf h3 ha.okK.1 hx
 obtain ⟨d, d1, d2, d3⟩ := cmp_f lf h3 hx ha.okK.2
 simp only [check_wf lf h3 ha, bdS, bne_self_eq_false, brF, check_f lf (Lib.itoa z) (by omega), (chk_itoa z).2 hz, of_f, interval_finite.f, e, sc, c1, d1]
 unfold inS
 rw [show key (.fin z) = z from rfl] at c2 c3 d2 d3
 by_cases h : key (ofA a).lo ≤ z
 ·rw [decide_eq_true (show c ≤ 0 by omega), brT, decide_eq_true h, Bool.true_and]
  congr 2
  simp only [decide_eq_decide]; omega
 ·rw [decide_eq_false (show ¬ c ≤ 0 by omega), brF, decide_eq_false h, Bool.false_and]
theorem lo_none {z : Int} (hz : -K < z ∧ z < K) : decide (key (lox none) ≤ z) = true := decide_eq_true (show -K ≤ z by omega)
theorem hi_none {z : Int} (hz : -K < z ∧ z < K) : decide (z ≤ key (hix none)) = true := decide_eq_true (show z ≤ K by omega)
theorem lo_some (x z : Int) : decide (key (lox (some x)) ≤ z) = !decide (z < x) := by
 show decide (x ≤ z) = !decide (z < x)
 by_cases h : z < x
 ·rw [decide_eq_true h, decide_eq_false (by omega)]; rfl
 ·rw [decide_eq_false h, decide_eq_true (by omega)]; rfl
theorem hi_some (y z : Int) : decide (z ≤ key (hix (some y))) = !decide (y < z) := by
 show decide (z ≤ y) = !decide (y < z)
 by_cases h : y < z
 ·rw [decide_eq_true h, decide_eq_false (by omega)]; rfl
 ·rw [decide_eq_false h, decide_eq_true (by omega)]; rfl
theorem in_ref (lf : Nat) (h3 : 200000 ≤ lf) {a : A} (ha : Wf a) {z : Int} (hz : -K < z ∧ z < K) : surveyorref21_In.f lf (ac a) (bs (Lib.itoa z)) = some (inS (ofA a) z, ()) := by
 have hK := K_gt
 rw [surveyorref21_In.f]
 cases he : a.em with
 | true =>
  have ho : ofA a = non := by unfold ofA; rw [if_pos he]
  rw [ho]
  simp only [ac, he, Bool.not_true, brF]
  have : decide (key non.lo ≤ z) = false := decide_eq_false (by rw [show key non.lo = K from rfl]; omega)
  unfold inS
  rw [this]; rfl
 | false =>
  have ho : ofA a = ⟨lox a.lo, hix a.hi⟩ := by unfold ofA; rw [if_neg (by simp [he])]
  rw [ho]
  unfold inS
  simp only [ac, he, Bool.not_false, brT, ob_beq]
  have hlo := ha.loK
  have hhi := ha.hiK
  have hi : ∀ o, okb K o → (br (decide (o = none)) (some (true, ())) (bd (surveyorref01_Less.f lf (ob o) (bs (Lib.itoa z))) fun r => some ((!r.1), ()))) = some (decide (z ≤ key (hix o)), ()) := by
   intro o ho
   cases o with
   | none => rw [hi_none hz]; simp [brT]
   | some y =>
    have hl : surveyorref01_Less.f lf (ob (some y)) (bs (Lib.itoa z)) = some (decide (y < z), ()) := lessI lf h3 ho hz
    rw [hl, hi_some]
    simp [brF, bdS]
  cases hx : a.lo with
  | none =>
   rw [lo_none hz, Bool.true_and, ← hi _ hhi]
   simp [brT]
  | some x =>
   rw [hx] at hlo
   have hl1 : surveyorref01_Less.f lf (bs (Lib.itoa z)) (ob (some x)) = some (decide (z < x), ()) := lessI lf h3 hz hlo
   rw [hl1, lo_some]
   simp only [reduceCtorEq, decide_false, brF, bdS]
   cases decide (z < x) with
   | true => simp [brF]
   | false =>
    simp only [Bool.not_false, brT, Bool.true_and]
    exact hi _ hhi
end Go.N
namespace Go.N
open Go Go.Q Go.Rx
end Go.N
namespace Go.N
open Go Go.Q Go.Rx
section
variable (lf : Nat) (h3 : 200000 ≤ lf) {e1 e2 : Bool} {l1 m1 l2 m2 : List UInt8} (a1 : l1.length ≤ 100000) (b1 : m1.length ≤ 100000) (a2 : l2.length ≤ 100000) (b2 : m2.length ≤ 100000)
include h3 a1 b1 a2 b2
end
section
variable (lf : Nat) (h3 : 200000 ≤ lf) {e1 e2 : Bool} {l1 m1 l2 m2 : List UInt8} (a1 : l1.length ≤ 100000) (b1 : m1.length ≤ 100000) (a2 : l2.length ≤ 100000) (b2 : m2.length ≤ 100000)
include h3 a1 b1 a2 b2
end
end Go.N
namespace Go.N
open Go Go.Q Go.Rx
theorem dlen_sz (z : Int) : (D z.natAbs).length = sz z := by unfold sz nlen; rw [body_itoa]
theorem chk48 : chk [48] = 0 := by decide
theorem iv48 : iv [48] = 0 := by decide
theorem negated_ref (lf : Nat) {z : Int} (hz : -K < z ∧ z < K) : surveyorref01_Negated.f lf (bs (Lib.itoa z)) = some (bs (Lib.itoa (-z)), ()) := by
 have hl := okb_len hz
 rw [surveyorref01_Negated.f, show (⟨#[48]⟩ : ByteArray) = bs [48] from rfl, beq_bs]
 have i0 : Lib.itoa 0 = [48] := by unfold Lib.itoa; rw [if_neg (by omega)]; exact dec_zero
 by_cases h0 : z = 0
 ·subst h0
  rw [decide_eq_true i0, brT]; rfl
 ·have hne : Lib.itoa z ≠ [48] := fun e => h0 (itoa_inj (e.trans i0.symm))
  rw [decide_eq_false hne, brF, negative_f lf _ (itoa_ne z), bdS]
  simp only
  by_cases hn : z < 0
  ·have e : Lib.itoa z = 45 :: D z.natAbs := by unfold Lib.itoa; rw [if_pos hn]
   have e' : Lib.itoa (-z) = D z.natAbs := by unfold Lib.itoa; rw [if_neg (by omega)]; congr 1; omega
   have hng : neg (Lib.itoa z) = true := by rw [e]; rfl
   rw [hng, brT, e, e', sCut_from (45 :: D z.natAbs) 1 1 rfl (by simp), bdS]
   rfl
  ·have e : Lib.itoa z = D z.toNat := by unfold Lib.itoa; rw [if_neg hn]
   have e' : Lib.itoa (-z) = 45 :: D z.toNat := by unfold Lib.itoa; rw [if_pos (by omega)]; congr 2; omega
   have hng : neg (Lib.itoa z) = false := by rw [e]; unfold neg; exact decide_eq_false (dec_no45 _)
   rw [hng, brF, e', show (⟨#[45]⟩ : ByteArray) = bs [45] from rfl, sCat_bs [45] _ (by simp; omega), bdS, e]
   rfl
def xneg : X → X
 | .ni => .pi
 | .fin z => .fin (-z)
 | .pi => .ni
theorem xneg_ok {k : Int} {x : X} (h : okx k x) : okx k (xneg x) := by cases x <;> simp only [xneg, okx] at * <;> (try trivial) <;> omega
section
variable (lf : Nat) (h3 : 200000 ≤ lf) {e1 e2 : Bool} {l1 m1 l2 m2 : List UInt8} (a1 : l1.length ≤ 100000) (b1 : m1.length ≤ 100000) (a2 : l2.length ≤ 100000) (b2 : m2.length ≤ 100000)
include h3 a1 b1 a2 b2
end
end Go.N
namespace Go.N
open Go.IntKind (i64)
open Go Go.Q Go.Rx
theorem number_l0 (lf : Nat) (l : List UInt8) (hl : l.length ≤ 1000000) : ∀ (k n i j a : Nat), i + k = l.length → k < n → (l.drop i).all isDig = true → a < 10 ^ j → j + k ≤ 18 →
  surveyorref01_number.l0 lf (bs l) n ((a : Nat) : Int) ((i : Nat) : Int) = some (((((l.drop i).foldl (fun a b => a * 10 + dig b) a : Nat) : Int), ()), ()) := by
 intro k
 induction k with
 | zero =>
  intro n i j a hi hn hd ha hj
  obtain ⟨m, rfl⟩ := Nat.exists_eq_succ_of_ne_zero (show n ≠ 0 by omega)
  rw [surveyorref01_number.l0, surveyorref01_number.r0, bs_size, decide_eq_false (by omega), brF, List.drop_of_length_le (by omega)]
  rfl
 | succ k ih =>
  intro n i j a hi hn hd ha hj
  obtain ⟨m, rfl⟩ := Nat.exists_eq_succ_of_ne_zero (show n ≠ 0 by omega)
  have hlt : i < l.length := by omega
  rw [List.drop_eq_getElem_cons hlt, List.all_cons, Bool.and_eq_true] at hd
  have hb := hd.1
  have hb' := hb
  unfold isDig at hb'
  simp only [decide_eq_true_eq] at hb'
  have p1 : 10 ^ (j + 1) ≤ 10 ^ 18 := Nat.pow_le_pow_right (by omega) (by omega)
  have p2 : 10 ^ (j + 1) = 10 ^ j * 10 := Nat.pow_succ ..
  have p3 : (10 : Nat) ^ 18 = 1000000000000000000 := by decide
  have hdl := dig_lt hb
  have e1 : IntKind.u8.wrap (((l[i].toNat : Nat) : Int) - 48) = (dig l[i] : Int) := by
   rw [w8 (by omega) (by omega)]; unfold dig; omega
  have e2 : i64.wrap (((a : Nat) : Int) * 10) = ((a * 10 : Nat) : Int) := by rw [w64 (by omega) (by omega)]; omega
  have e3 : i64.wrap ((dig l[i] : Nat) : Int) = ((dig l[i] : Nat) : Int) := w64 (by omega) (by omega)
  have e4 : i64.wrap (((a * 10 : Nat) : Int) + ((dig l[i] : Nat) : Int)) = ((a * 10 + dig l[i] : Nat) : Int) := by rw [w64 (by omega) (by omega)]; omega
  have e5 : i64.wrap (((i : Nat) : Int) + 1) = ((i + 1 : Nat) : Int) := by rw [w64 (by omega) (by omega)]; omega
  have hne : ((((l[i]).toNat : Nat) : Int) != 45) = true := by
   rw [bne, u8_45, decide_eq_false (by intro e; rw [e] at hb'; simp at hb')]; rfl
  rw [surveyorref01_number.l0, surveyorref01_number.r0, bs_size, decide_eq_true (by omega), brT, sIdx_bs l _ i rfl hlt, bdS, hne, brT, bdS, e1, e2, e3, e4, e5, ih m (i + 1) (j + 1) _ (by omega) (by omega) hd.2 (by omega) (by omega)]
  rw [List.drop_eq_getElem_cons hlt, List.foldl_cons]
theorem number_ref (lf : Nat) (h3 : 200000 ≤ lf) {z : Int} (hz : sz z ≤ 18) : surveyorref01_number.f lf (bs (Lib.itoa z)) = some (z, ()) := by
 have hc := can_itoa z
 have hp := can_parts hc
 have hb : (body (Lib.itoa z)).length ≤ 18 := hz
 have hl := len_nlen (Lib.itoa z)
 have hnl : nlen (Lib.itoa z) ≤ 18 := hz
 have hiv := iv_itoa z
 have hdv := dv_lt _ hp.1
 have p1 : 10 ^ (body (Lib.itoa z)).length ≤ 10 ^ 18 := Nat.pow_le_pow_right (by omega) hb
 have p3 : (10 : Nat) ^ 18 = 1000000000000000000 := by decide
 rw [surveyorref01_number.f]
 by_cases hn : neg (Lib.itoa z) = true
 ·have hh : (Lib.itoa z).head? = some 45 := by unfold neg at hn; simpa using hn
  obtain ⟨r, hr⟩ : ∃ r, Lib.itoa z = 45 :: r := by
   cases h : Lib.itoa z with
   | nil => rw [h] at hh; simp at hh
   | cons b r => rw [h] at hh; simp at hh; exact ⟨r, by rw [hh]⟩
  have hbody : body (Lib.itoa z) = r := by unfold body; rw [if_pos hh, hr]; rfl
  rw [hbody] at hp hb hdv p1
  have st : surveyorref01_number.l0 lf (bs (Lib.itoa z)) ((lf + 39) + 1) 0 0 = some ((((dv r : Nat) : Int), ()), ()) := by
   have step := number_l0 lf (Lib.itoa z) (by omega) r.length (lf + 39) 1 0 0 (by rw [hr, List.length_cons]; omega) (by omega) (by rw [hr]; exact hp.1) (by decide) (by omega)
   rw [surveyorref01_number.l0, surveyorref01_number.r0, bs_size, decide_eq_true (by rw [hr, List.length_cons]; omega), brT, sIdx_bs (Lib.itoa z) 0 0 rfl (by rw [hr]; simp), bdS]
   have e45 : ((((Lib.itoa z)[0]'(by rw [hr]; simp)).toNat : Nat) : Int) != 45 ↔ False := by
    have : (Lib.itoa z)[0]'(by rw [hr]; simp) = 45 := by simp [hr]
    rw [this]; decide
   rw [show (((((Lib.itoa z)[0]'(by rw [hr]; simp)).toNat : Nat) : Int) != 45) = false from by rw [Bool.eq_false_iff]; exact fun h => e45.1 h, brF, show i64.wrap (0 + 1) = ((1 : Nat) : Int) from by decide]
   rw [show (0 : Int) = ((0 : Nat) : Int) from rfl, step]
   simp [hr, dv]
  rw [show lf + 40 = (lf + 39) + 1 from rfl, st, bdS, negative_f lf _ hp.2.2, bdS]
  simp only [hn, brT]
  unfold iv at hiv
  rw [if_pos hn, hbody] at hiv
  rw [w64 (by omega) (by omega)]
  congr 2; omega
 ·have hh : (Lib.itoa z).head? ≠ some 45 := by unfold neg at hn; simpa using hn
  have hbody : body (Lib.itoa z) = Lib.itoa z := by unfold body; rw [if_neg hh]
  have st := number_l0 lf (Lib.itoa z) (by omega) (Lib.itoa z).length (lf + 40) 0 0 0 (by omega) (by omega) (by rw [List.drop_zero, ← hbody]; exact hp.1) (by decide) (by rw [← hbody]; omega)
  rw [show ((0 : Nat) : Int) = 0 from rfl] at st
  rw [st, bdS, negative_f lf _ hp.2.2, bdS]
  simp only [hn, brF]
  unfold iv at hiv
  rw [if_neg hn, hbody] at hiv
  rw [List.drop_zero]
  exact congrArg (fun x : Int => some (x, ())) hiv
def D0 (m : Nat) : List UInt8 := if m = 0 then [] else D m
theorem D0_step {m : Nat} (h : m ≠ 0) : D0 m = D0 (m / 10) ++ [dch (m % 10)] := by
 unfold D0
 rw [if_neg h]
 by_cases h10 : m < 10
 ·rw [if_pos (by omega), List.nil_append]
  show Lib.decDigits m = _
  rw [dec_small h10, Nat.mod_eq_of_lt h10]
 ·rw [if_neg (by omega)]
  exact dec_big h10
theorem ten_digit (d : Nat) (h : d < 10) : (([48, 49, 50, 51, 52, 53, 54, 55, 56, 57] : List UInt8).drop d).take 1 = [dch d] := by
 have : ∀ d : Fin 10, (([48, 49, 50, 51, 52, 53, 54, 55, 56, 57] : List UInt8).drop d.val).take 1 = [dch d.val] := by decide +kernel
 exact this ⟨d, h⟩
theorem whole_l0 (lf : Nat) (v0 : Int) : ∀ (k n m : Nat) (v : Int) (acc : List UInt8), m < 10 ^ k → k < n → (v = (m : Int) ∨ v = -(m : Int)) → m ≤ 9223372036854775808 → (v = (m : Int) → m ≤ 9223372036854775807) → acc.length + k ≤ 1000000 →
  surveyorref01_Whole.l0 lf v0 n (bs acc) v = some ((bs (D0 m ++ acc), ()), ()) := by
 intro k
 induction k with
 | zero =>
  intro n m v acc hm hn hv _ _ _
  obtain ⟨f, rfl⟩ := Nat.exists_eq_succ_of_ne_zero (show n ≠ 0 by omega)
  obtain rfl : m = 0 := by simpa using hm
  obtain rfl : v = 0 := by omega
  rw [surveyorref01_Whole.l0, surveyorref01_Whole.r0, bne_self_eq_false, brF]
  rfl
 | succ k ih =>
  intro n m v acc hm hn hv hb hb2 hacc
  obtain ⟨f, rfl⟩ := Nat.exists_eq_succ_of_ne_zero (show n ≠ 0 by omega)
  by_cases h0 : m = 0
  ·subst h0
   obtain rfl : v = 0 := by omega
   rw [surveyorref01_Whole.l0, surveyorref01_Whole.r0, bne_self_eq_false, brF]
   rfl
  have vn : v ≠ 0 := by omega
  have p2 : 10 ^ (k + 1) = 10 ^ k * 10 := Nat.pow_succ ..
  have et : Int.tmod v 10 = ((m % 10 : Nat) : Int) ∨ Int.tmod v 10 = -((m % 10 : Nat) : Int) := by
   rcases hv with rfl | rfl
   ·left; rw [Int.tmod_eq_emod_of_nonneg (by omega)]; omega
   ·right; rw [Int.neg_tmod, Int.tmod_eq_emod_of_nonneg (by omega)]; omega
  have eq : (v = (m : Int) ∧ Int.tdiv v 10 = ((m / 10 : Nat) : Int)) ∨ (v = -(m : Int) ∧ Int.tdiv v 10 = -((m / 10 : Nat) : Int)) := by
   rcases hv with rfl | rfl
   ·left; exact ⟨rfl, by rw [Int.tdiv_eq_ediv_of_nonneg (by omega)]; omega⟩
   ·right; exact ⟨rfl, by rw [Int.neg_tdiv, Int.tdiv_eq_ediv_of_nonneg (by omega)]; omega⟩
  have e1 : iRem v 10 = some (Int.tmod v 10) := by unfold iRem; rw [if_neg (by decide)]
  have e2 : iQuo .i64 v 10 = some (Int.tdiv v 10) := by
   unfold iQuo; rw [if_neg (by decide)]
   congr 1
   apply w64 <;> rcases eq with ⟨_, e⟩ | ⟨_, e⟩ <;> rw [e] <;> omega
  have e3 : i64.wrap (0 - Int.tmod v 10) = 0 - Int.tmod v 10 := by apply w64 <;> rcases et with e | e <;> rw [e] <;> omega
  have e4 : (if 0 - Int.tmod v 10 > Int.tmod v 10 then 0 - Int.tmod v 10 else Int.tmod v 10) = ((m % 10 : Nat) : Int) := by
   rcases et with e | e <;> rw [e] <;> split <;> omega
  have e5 : i64.wrap (((m % 10 : Nat) : Int) + 1) = ((m % 10 + 1 : Nat) : Int) := by rw [w64 (by omega) (by omega)]; omega
  have lt10 : m % 10 < 10 := Nat.mod_lt _ (by omega)
  rw [surveyorref01_Whole.l0, surveyorref01_Whole.r0, show (v != 0) = true by simpa using vn, brT, e1, bdS, bdS, e3, e4, e5,
   show (⟨#[48, 49, 50, 51, 52, 53, 54, 55, 56, 57]⟩ : ByteArray) = bs [48, 49, 50, 51, 52, 53, 54, 55, 56, 57] from rfl, sCut_bs _ _ _ (m % 10) (m % 10 + 1) rfl rfl (by omega) (by simp; omega), bdS,
   Nat.add_sub_cancel_left, ten_digit _ lt10, sCat_bs _ _ (by simp; omega), bdS, e2, bdS, ih f (m / 10) _ _ (by omega) (by omega) (by rcases eq with ⟨_, e⟩ | ⟨_, e⟩ <;> rw [e] <;> omega) (by omega) (by omega) (by simp; omega), D0_step h0]
  simp
theorem whole_ref (lf : Nat) (h3 : 200000 ≤ lf) {z : Int} (h1 : -9223372036854775808 ≤ z) (h2 : z ≤ 9223372036854775807) : surveyorref01_Whole.f lf z = some (bs (Lib.itoa z), ()) := by
 have p19 : (10 : Nat) ^ 19 = 10000000000000000000 := by decide
 rw [surveyorref01_Whole.f]
 by_cases h0 : z = 0
 ·subst h0
  rw [BEq.rfl, brT]
  have i0 : Lib.itoa 0 = [48] := by unfold Lib.itoa; rw [if_neg (by omega)]; exact dec_zero
  rw [i0]
 ·rw [show (z == 0) = false from beq_eq_false_iff_ne.2 h0, brF, show (⟨#[]⟩ : ByteArray) = bs [] from rfl,
   whole_l0 lf z 19 (lf + 40) z.natAbs z [] (by omega) (by omega) (by omega) (by omega) (by omega) (by simp), bdS]
  simp only [List.append_nil]
  have e0 : D0 z.natAbs = D z.natAbs := by unfold D0; rw [if_neg (by omega)]
  rw [e0]
  by_cases hn : z < 0
  ·have ln : (D z.natAbs).length ≤ 19 := dec_len_le 18 _ (by omega)
   rw [decide_eq_true hn, brT, show (⟨#[45]⟩ : ByteArray) = bs [45] from rfl, sCat_bs [45] _ (by simp; omega), bdS]
   unfold Lib.itoa
   rw [if_pos hn]; rfl
  ·rw [decide_eq_false hn, brF]
   unfold Lib.itoa
   rw [if_neg hn, show z.natAbs = z.toNat by omega]
def bl (l : List Int) : List UInt8 := l.reverse.map fun d => dch d.toNat
theorem bl_snoc (l : List Int) (d : Int) : bl (l ++ [d]) = dch d.toNat :: bl l := by simp [bl]
theorem ld_bl {l : List Int} (h : Dg 10 l) : ld (bl l) = l := by
 unfold ld bl
 rw [← List.map_reverse, List.reverse_reverse, List.map_map]
 conv => rhs; rw [← List.map_id l]
 apply List.map_congr_left
 intro d hd
 have := h d hd
 simp only [Function.comp, id]
 rw [dig_dch (by omega)]; omega
theorem bl_all {l : List Int} (h : Dg 10 l) : (bl l).all isDig = true := by
 rw [List.all_eq_true]
 intro b hb
 unfold bl at hb
 obtain ⟨d, hd, rfl⟩ := List.mem_map.1 hb
 have := h d (by simpa using hd)
 exact dch_isDig (by omega)
theorem bl_len (l : List Int) : (bl l).length = l.length := by simp [bl]
theorem bl_dec {l : List Int} (h : Dg 10 l) (ht : Tr l) (hn : l ≠ []) : bl l = D (lv 10 l).toNat := by
 have hv : dv (bl l) = (lv 10 l).toNat := by
  have := lv_ld (bl l)
  rw [ld_bl h] at this
  omega
 rw [← hv]
 apply dec_of (bl_all h)
 ·intro e; apply hn; have := bl_len l; rw [e] at this; exact List.length_eq_zero_iff.1 this.symm
 ·left
  obtain ⟨m, x, rfl⟩ : ∃ m x, l = m ++ [x] := ⟨l.dropLast, l.getLast hn, (List.dropLast_concat_getLast hn).symm⟩
  have hx := h x (by simp)
  have hx0 : x ≠ 0 := by intro e; subst e; simp [Tr] at ht
  unfold bl
  rw [List.reverse_append]
  simp only [List.reverse_singleton, List.singleton_append, List.map_cons, List.head?_cons, ne_eq, Option.some.injEq]
  intro e
  have := congrArg UInt8.toNat e
  rw [dch_nat (by omega)] at this
  simp at this
  omega
theorem bytesS_snoc (acc : List UInt8) (d : Int) (h0 : 0 ≤ d) (h1 : d < 10) : (acc.map fun b => (b.toNat : Int)) ++ [IntKind.u8.wrap (i64.wrap (48 + d))] = (acc ++ [dch d.toNat]).map fun b => (b.toNat : Int) := by
 rw [w64 (by omega) (by omega), w8 (by omega) (by omega), List.map_append]
 simp only [List.map_cons, List.map_nil]
 rw [dch_nat (by omega)]
 congr 2; omega
theorem made_l0 (lf : Nat) (l q : List Int) (h : Dg 10 l) (hl : l.length ≤ 1000000) : ∀ (k n : Nat) (acc : List UInt8), k ≤ l.length → k < n → acc.length + k ≤ 1100000 →
  surveyorref01_made.l0 lf l q n (((k : Nat) : Int) - 1) (acc.map fun b => (b.toNat : Int)) = some (((acc ++ bl (l.take k)).map fun b => (b.toNat : Int), ()), ()) := by
 intro k
 induction k with
 | zero =>
  intro n acc hk hn ha
  obtain ⟨m, rfl⟩ := Nat.exists_eq_succ_of_ne_zero (show n ≠ 0 by omega)
  rw [surveyorref01_made.l0, surveyorref01_made.r0, decide_eq_false (by omega), brF]
  simp [bl]
 | succ k ih =>
  intro n acc hk hn ha
  obtain ⟨m, rfl⟩ := Nat.exists_eq_succ_of_ne_zero (show n ≠ 0 by omega)
  have hkl : k < l.length := by omega
  have d := h.at k hkl
  rw [surveyorref01_made.l0, surveyorref01_made.r0, show ((k + 1 : Nat) : Int) - 1 = ((k : Nat) : Int) by omega, decide_eq_true (by omega), brT, idxL_nat _ _ hkl, bdS, apL_ok _ _ _ (by decide) (by simp; omega), bdS, w64 (n := ((k : Nat) : Int) - 1) (by omega) (by omega),
   bytesS_snoc acc _ d.1 d.2, ih m _ (by omega) (by omega) (by simp; omega)]
  rw [← List.take_append_getElem hkl, bl_snoc]
  simp
theorem made_l1 (lf : Nat) (l : List Int) (h : Dg 10 l) (hl : l.length ≤ 1000000) : ∀ (k n : Nat) (acc : List UInt8), k ≤ l.length → k < n → acc.length + k ≤ 1100000 →
  surveyorref01_made.l1 lf l n (((k : Nat) : Int) - 1) (acc.map fun b => (b.toNat : Int)) = some (((acc ++ bl (l.take k)).map fun b => (b.toNat : Int), ()), ()) := by
 intro k
 induction k with
 | zero =>
  intro n acc hk hn ha
  obtain ⟨m, rfl⟩ := Nat.exists_eq_succ_of_ne_zero (show n ≠ 0 by omega)
  rw [surveyorref01_made.l1, surveyorref01_made.r1, decide_eq_false (by omega), brF]
  simp [bl]
 | succ k ih =>
  intro n acc hk hn ha
  obtain ⟨m, rfl⟩ := Nat.exists_eq_succ_of_ne_zero (show n ≠ 0 by omega)
  have hkl : k < l.length := by omega
  have d := h.at k hkl
  rw [surveyorref01_made.l1, surveyorref01_made.r1, show ((k + 1 : Nat) : Int) - 1 = ((k : Nat) : Int) by omega, decide_eq_true (by omega), brT, idxL_nat _ _ hkl, bdS, apL_ok _ _ _ (by decide) (by simp; omega), bdS, w64 (n := ((k : Nat) : Int) - 1) (by omega) (by omega),
   bytesS_snoc acc _ d.1 d.2, ih m _ (by omega) (by omega) (by simp; omega)]
  rw [← List.take_append_getElem hkl, bl_snoc]
  simp
theorem made_ref (lf : Nat) (h3 : 200000 ≤ lf) {l : List Int} (h : Dg 10 l) (hl : l.length ≤ 100000) (b : Bool) : surveyorref01_made.f lf l b = some (bs (Lib.itoa (if b = true then -lv 10 l else lv 10 l)), ()) := by
 have hd := dg_tr h
 have ht := tr_tr l
 have hv := lv_tr 10 l
 have hlen := tr_len l
 rw [surveyorref01_made.f, cut_f lf l hl h3, bdS]
 simp only
 by_cases h0 : tr l = []
 ·rw [h0] at hv
  have v0 : lv 10 l = 0 := by rw [← hv]; rfl
  have i0 : Lib.itoa 0 = [48] := by unfold Lib.itoa; rw [if_neg (by omega)]; exact dec_zero
  rw [h0, show ((([] : List Int).length : Nat) : Int) == 0 from rfl, brT, v0]
  cases b <;> simp [i0]
 ·have l0 : 0 < (tr l).length := List.length_pos_iff.2 h0
  have vp := lv_pos (B := 10) (by decide) hd ht h0
  have bd' := bl_dec hd ht h0
  rw [hv] at vp bd'
  rw [show ((((tr l).length : Nat) : Int) == 0) = false from beq_eq_false_iff_ne.2 (by omega), brF, w64 (by omega) (by omega)]
  cases b with
  | true =>
   have := made_l0 lf (tr l) [45] hd (by omega) (tr l).length (lf + 40) [45] (Nat.le_refl _) (by omega) (by simp; omega)
   rw [show ([45] : List UInt8).map (fun b => (b.toNat : Int)) = [45] from rfl] at this
   rw [brT, apL_ok _ _ _ (by decide) (by simp), bdS, List.nil_append, this, bdS, if_pos trivial, bdS, bytesS_map, List.take_length, bd', if_pos rfl]
   unfold Lib.itoa
   rw [if_pos (by omega), show (-lv 10 l).natAbs = (lv 10 l).toNat by omega]
   rfl
  | false =>
   have := made_l1 lf (tr l) hd (by omega) (tr l).length (lf + 40) [] (Nat.le_refl _) (by omega) (by simp; omega)
   rw [show ([] : List UInt8).map (fun b => (b.toNat : Int)) = [] from rfl] at this
   rw [brF, this, bdS, if_pos trivial, bdS, bytesS_map, List.take_length, List.nil_append, bd', if_neg (by simp)]
   unfold Lib.itoa
   rw [if_neg (by omega)]
theorem at_ref (lf : Nat) (l : List Int) (i : Nat) : surveyorref01_at.f lf l ((i : Nat) : Int) = some (l.getD i 0, ()) := by
 rw [surveyorref01_at.f]
 by_cases h : i < l.length
 ·rw [decide_eq_true (by omega), brT, idxL_nat _ _ h, bdS, getD_lt _ _ h]
 ·rw [decide_eq_false (by omega), brF, getD_ge _ _ h]
theorem rplus_l0 (lf : Nat) (xs ys : List Int) (N : Nat) (hx : Dg 10 xs) (hy : Dg 10 ys) (hN : N = max xs.length ys.length + 1) (hb : N ≤ 1000000) : ∀ (k n i : Nat) (c : Int) (out : List Int), i + k = N → out.length = i → 0 ≤ c → c ≤ 1 → k < n →
  surveyorref01_plus.l0 lf xs ys n c (i : Nat) out = some ((out ++ addL 10 (xs.drop i) (ys.drop i) c k, ()), ()) := by
 have eN : i64.wrap ((if ((ys.length : Nat) : Int) > ((xs.length : Nat) : Int) then ((ys.length : Nat) : Int) else ((xs.length : Nat) : Int)) + 1) = ((N : Nat) : Int) := by
  have e : (if ((ys.length : Nat) : Int) > ((xs.length : Nat) : Int) then ((ys.length : Nat) : Int) else ((xs.length : Nat) : Int)) = ((max xs.length ys.length : Nat) : Int) := by split <;> omega
  rw [e, w64 (by omega) (by omega)]; omega
 intro k
 induction k with
 | zero =>
  intro n i c out hi ho h0 h1 hn
  obtain ⟨m, rfl⟩ := Nat.exists_eq_succ_of_ne_zero (show n ≠ 0 by omega)
  rw [surveyorref01_plus.l0, surveyorref01_plus.r0, eN, decide_eq_false (by omega), brF, addL, List.append_nil]
 | succ k ih =>
  intro n i c out hi ho h0 h1 hn
  obtain ⟨m, rfl⟩ := Nat.exists_eq_succ_of_ne_zero (show n ≠ 0 by omega)
  have ex := hx.getD (by decide) i
  have ey := hy.getD (by decide) i
  obtain ⟨s, hs⟩ : ∃ s, s = c + xs.getD i 0 + ys.getD i 0 := ⟨_, rfl⟩
  have s0 : 0 ≤ s := by omega
  have e1 : i64.wrap (xs.getD i 0 + ys.getD i 0) = xs.getD i 0 + ys.getD i 0 := w64 (by omega) (by omega)
  have e2 : i64.wrap (c + (xs.getD i 0 + ys.getD i 0)) = s := by rw [w64 (by omega) (by omega)]; omega
  have e5 : i64.wrap (((i : Nat) : Int) + 1) = ((i + 1 : Nat) : Int) := by rw [w64 (by omega) (by omega)]; omega
  rw [surveyorref01_plus.l0, surveyorref01_plus.r0, eN, decide_eq_true (by omega), brT, at_ref, bdS, at_ref, bdS, e1, e2, iRem_nn s0 (by decide), bdS, apL_ok _ _ _ (by decide) (by simp; omega), bdS, iQuo_nn s0 (by decide) (by omega), bdS, e5,
   ih m (i + 1) _ _ (by omega) (by simp; omega) (Int.ediv_nonneg s0 (by decide)) (by omega) (by omega), addL, headD_drop, headD_drop, tail_drop', tail_drop', ← hs]
  simp
theorem rplus_ref (lf : Nat) (h3 : 200000 ≤ lf) {xs ys : List Int} (hx : Dg 10 xs) (hy : Dg 10 ys) (h1 : xs.length ≤ 90000) (h2 : ys.length ≤ 90000) :
  ∃ l, surveyorref01_plus.f lf xs ys = some (l, ()) ∧ Dg 10 l ∧ Tr l ∧ l.length ≤ max xs.length ys.length + 1 ∧ lv 10 l = lv 10 xs + lv 10 ys := by
 obtain ⟨N, hN⟩ : ∃ N, N = max xs.length ys.length + 1 := ⟨_, rfl⟩
 refine ⟨tr (addL 10 xs ys 0 N), ?_, dg_tr (dg_addL (by decide) _ _ _ _), tr_tr _, ?_, ?_⟩
 ·have := rplus_l0 lf xs ys N hx hy hN (by omega) N (lf + 40) 0 0 [] (by omega) rfl (by omega) (by omega) (by omega)
  rw [show ((0 : Nat) : Int) = 0 from rfl] at this
  rw [surveyorref01_plus.f, this, bdS, List.drop_zero, List.drop_zero, List.nil_append, cut_f lf _ (by rw [addL_len]; omega) h3, bdS]
 ·have := tr_len (addL 10 xs ys 0 N)
  rw [addL_len] at this
  omega
 ·rw [lv_tr, lv_addL (by decide), Int.zero_add]
  have a1 := lv_lt (B := 10) (by decide) hx
  have a2 := lv_lt (B := 10) (by decide) hy
  have a3 := pow_mono' (B := 10) (by decide) (show xs.length ≤ max xs.length ys.length by omega)
  have a3' := pow_mono' (B := 10) (by decide) (show ys.length ≤ max xs.length ys.length by omega)
  have a4 := lv_nonneg (B := 10) (by decide) hx
  have a5 := lv_nonneg (B := 10) (by decide) hy
  apply Int.emod_eq_of_lt (by omega)
  rw [hN, Int.pow_succ]
  omega
theorem rminus_l0 (lf : Nat) (xs ys : List Int) (hx : Dg 10 xs) (hy : Dg 10 ys) (hb : xs.length ≤ 1000000) : ∀ (k n i : Nat) (c : Int) (out : List Int), i + k = xs.length → out.length = i → 0 ≤ c → c ≤ 1 → k < n →
  surveyorref01_minus.l0 lf xs ys n c (i : Nat) out = some ((out ++ subL 10 (xs.drop i) (ys.drop i) c k, ()), ()) := by
 intro k
 induction k with
 | zero =>
  intro n i c out hi ho h0 h1 hn
  obtain ⟨m, rfl⟩ := Nat.exists_eq_succ_of_ne_zero (show n ≠ 0 by omega)
  rw [surveyorref01_minus.l0, surveyorref01_minus.r0, decide_eq_false (by omega), brF, subL, List.append_nil]
 | succ k ih =>
  intro n i c out hi ho h0 h1 hn
  obtain ⟨m, rfl⟩ := Nat.exists_eq_succ_of_ne_zero (show n ≠ 0 by omega)
  have hil : i < xs.length := by omega
  have ex := hx.at i hil
  have ey := hy.getD (by decide) i
  obtain ⟨d, hd⟩ : ∃ d, d = xs[i] - c - ys.getD i 0 := ⟨_, rfl⟩
  have e1 : i64.wrap (xs[i] - ys.getD i 0) = xs[i] - ys.getD i 0 := w64 (by omega) (by omega)
  have e2 : i64.wrap (xs[i] - ys.getD i 0 - c) = d := by rw [w64 (by omega) (by omega)]; omega
  have e5 : i64.wrap (((i : Nat) : Int) + 1) = ((i + 1 : Nat) : Int) := by rw [w64 (by omega) (by omega)]; omega
  have go : ∀ (v c' : Int), v = d % 10 → c' = -(d / 10) → 0 ≤ c' → c' ≤ 1 → surveyorref01_minus.l0 lf xs ys m c' ((i + 1 : Nat) : Int) (out ++ [v]) = some ((out ++ subL 10 (xs.drop i) (ys.drop i) c (k + 1), ()), ()) := by
   intro v c' hv hc c0 c1
   rw [ih m (i + 1) c' _ (by omega) (by simp; omega) c0 c1 (by omega), subL, headD_drop, headD_drop, tail_drop', tail_drop', getD_lt _ _ hil, ← hd, hv, hc]
   simp
  rw [surveyorref01_minus.l0, surveyorref01_minus.r0, decide_eq_true (by omega), brT, idxL_nat _ _ hil, bdS, at_ref, bdS, e1, e2]
  by_cases hneg : d < 0
  ·rw [decide_eq_true hneg, brT, apL_ok _ _ _ (by decide) (by simp; omega), bdS, w64 (n := d + 10) (by omega) (by omega), e5]
   exact go _ 1 (by omega) (by omega) (by omega) (by omega)
  ·rw [decide_eq_false hneg, brF, apL_ok _ _ _ (by decide) (by simp; omega), bdS, e5]
   exact go _ 0 (by omega) (by omega) (by omega) (by omega)
theorem rminus_ref (lf : Nat) (h3 : 200000 ≤ lf) {xs ys : List Int} (hx : Dg 10 xs) (hy : Dg 10 ys) (h1 : xs.length ≤ 90000) (hle : lv 10 ys ≤ lv 10 xs) :
  ∃ l, surveyorref01_minus.f lf xs ys = some (l, ()) ∧ Dg 10 l ∧ Tr l ∧ l.length ≤ xs.length ∧ lv 10 l = lv 10 xs - lv 10 ys := by
 refine ⟨tr (subL 10 xs ys 0 xs.length), ?_, dg_tr (dg_subL (by decide) _ _ _ _), tr_tr _, ?_, ?_⟩
 ·have := rminus_l0 lf xs ys hx hy (by omega) xs.length (lf + 40) 0 0 [] (by omega) rfl (by omega) (by omega) (by omega)
  rw [show ((0 : Nat) : Int) = 0 from rfl] at this
  rw [surveyorref01_minus.f, this, bdS, List.drop_zero, List.drop_zero, List.nil_append, cut_f lf _ (by rw [subL_len]; omega) h3, bdS]
 ·have := tr_len (subL 10 xs ys 0 xs.length)
  rw [subL_len] at this
  exact this
 ·rw [lv_tr, lv_subL (by decide)]
  have a1 := lv_lt (B := 10) (by decide) hx
  have a5 := lv_nonneg (B := 10) (by decide) hy
  rw [show lv 10 xs - 0 - lv 10 ys = lv 10 xs - lv 10 ys by omega]
  exact Int.emod_eq_of_lt (by omega) (by omega)
theorem ld_body {z : Int} : Dg 10 (ld (body (Lib.itoa z))) ∧ lv 10 (ld (body (Lib.itoa z))) = (z.natAbs : Int) ∧ (ld (body (Lib.itoa z))).length = sz z := by
 refine ⟨ld_dg (can_parts (can_itoa z)).1, ?_, by rw [ld_len]; rfl⟩
 rw [lv_ld]
 have h := iv_itoa z
 unfold iv at h
 split at h <;> omega
theorem neg_itoa (z : Int) : neg (Lib.itoa z) = decide (z < 0) := by
 by_cases h : z < 0
 ·rw [decide_eq_true h]; exact (iv_neg (can_itoa z)).1 (by rw [iv_itoa]; exact h)
 ·rw [decide_eq_false h, Bool.eq_false_iff]
  intro e; have := (iv_neg (can_itoa z)).2 e; rw [iv_itoa] at this; omega
theorem len_sz (z : Int) : (Lib.itoa z).length ≤ sz z + 1 := len_nlen _
theorem short_ref (lf : Nat) {z : Int} (hz : sz z ≤ 50000) (n : Int) : surveyorref01_short.f lf (bs (Lib.itoa z)) n = some (decide ((sz z : Int) ≤ n), ()) := by
 have := len_sz z
 rw [surveyorref01_short.f, rDigits_f lf _ (itoa_ne z) (by omega), bdS]
 rfl
theorem sz_abs {z : Int} {k : Nat} (h : sz z ≤ k) (hk : 1 ≤ k) : (z.natAbs : Int) < 10 ^ k := by
 have a := ld_body (z := z)
 have b := lv_lt (B := 10) (by decide) a.1
 rw [a.2.1, a.2.2] at b
 have := pow_mono' (B := 10) (by decide) h
 omega
theorem long_sum (lf : Nat) (h3 : 200000 ≤ lf) {x y : Int} (hx : sz x ≤ 50000) (hy : sz y ≤ 50000) :
    (bd (surveyorref01_digits.f lf (bs (Lib.itoa x))) fun r6 =>
 bd (surveyorref01_digits.f lf (bs (Lib.itoa y))) fun r7 =>
 bd (surveyorref01_Negative.f lf (bs (Lib.itoa x))) fun r8 =>
 bd (surveyorref01_Negative.f lf (bs (Lib.itoa y))) fun r9 =>
 br (r8.1 == r9.1) (
 bd (surveyorref01_plus.f lf r6.1 r7.1) fun r10 =>
 bd (surveyorref01_Negative.f lf (bs (Lib.itoa x))) fun r11 =>
 bd (surveyorref01_made.f lf r10.1 r11.1) fun r12 =>
 some (r12.1, ())) (
 bd (surveyorref01_cut.f lf r6.1) fun r13 =>
 bd (surveyorref01_cut.f lf r7.1) fun r14 =>
 bd (surveyorref01_order.f lf r13.1 r14.1) fun r15 =>
 br (decide (r15.1 ≥ 0)) (
 bd (surveyorref01_minus.f lf r6.1 r7.1) fun r16 =>
 bd (surveyorref01_Negative.f lf (bs (Lib.itoa x))) fun r17 =>
 bd (surveyorref01_made.f lf r16.1 r17.1) fun r18 =>
 some (r18.1, ())) (
 bd (surveyorref01_minus.f lf r7.1 r6.1) fun r19 =>
 bd (surveyorref01_Negative.f lf (bs (Lib.itoa y))) fun r20 =>
 bd (surveyorref01_made.f lf r19.1 r20.1) fun r21 =>
 some (r21.1, ())))) = some (bs (Lib.itoa (x + y)), ()) := by
  have a := ld_body (z := x)
  have b := ld_body (z := y)
  have lx := len_sz x
  have ly := len_sz y
  rw [digits_ref lf _ (can_itoa x) (by omega) h3, bdS, digits_ref lf _ (can_itoa y) (by omega) h3, bdS, negative_f lf _ (itoa_ne x), bdS, negative_f lf _ (itoa_ne y), bdS]
  simp only [neg_itoa]
  by_cases hs : decide (x < 0) = decide (y < 0)
  · rw [beq_iff_eq.2 hs, brT]
    obtain ⟨l, e, d1, d2, d3, d4⟩ := rplus_ref lf h3 a.1 b.1 (by omega) (by omega)
    rw [e, bdS]
    simp only [bdS]
    rw [made_ref lf h3 d1 (by omega), bdS, d4, a.2.1, b.2.1]
    refine congrArg (fun z : Int => some (bs (Lib.itoa z), ())) ?_
    have hs' : (x < 0 ↔ y < 0) := by simpa using hs
    by_cases hx0 : x < 0
    · have := hs'.1 hx0
      rw [decide_eq_true hx0, if_pos rfl]; omega
    · have : ¬ y < 0 := fun e => hx0 (hs'.2 e)
      rw [decide_eq_false hx0, if_neg (by simp)]; omega
  · rw [beq_eq_false_iff_ne.2 hs, brF, cut_f lf _ (by omega) h3, bdS, cut_f lf _ (by omega) h3, bdS]
    simp only
    rw [rorder_f lf _ _ (dg_tr a.1) (dg_tr b.1) (tr_tr _) (tr_tr _) (by have := tr_len (ld (body (Lib.itoa x))); omega) (by have := tr_len (ld (body (Lib.itoa y))); omega) h3, bdS, lv_tr, lv_tr, a.2.1, b.2.1]
    simp only
    have hs' : ¬ (x < 0 ↔ y < 0) := by simpa using hs
    by_cases hc : (x.natAbs : Int) - (y.natAbs : Int) < 0
    · rw [decide_eq_false (by unfold sgn; rw [if_pos hc]; decide), brF]
      obtain ⟨l, e, d1, d2, d3, d4⟩ := rminus_ref lf h3 b.1 a.1 (by omega) (by rw [a.2.1, b.2.1]; omega)
      rw [e, bdS]
      simp only [bdS]
      rw [made_ref lf h3 d1 (by omega), bdS, d4, a.2.1, b.2.1]
      refine congrArg (fun z : Int => some (bs (Lib.itoa z), ())) ?_
      by_cases hy0 : y < 0
      · rw [decide_eq_true hy0, if_pos rfl]; omega
      · rw [decide_eq_false hy0, if_neg (by simp)]; omega
    · rw [decide_eq_true (by unfold sgn; rw [if_neg hc]; split <;> decide), brT]
      obtain ⟨l, e, d1, d2, d3, d4⟩ := rminus_ref lf h3 a.1 b.1 (by omega) (by rw [a.2.1, b.2.1]; omega)
      rw [e, bdS]
      simp only [bdS]
      rw [made_ref lf h3 d1 (by omega), bdS, d4, a.2.1, b.2.1]
      refine congrArg (fun z : Int => some (bs (Lib.itoa z), ())) ?_
      by_cases hx0 : x < 0
      · rw [decide_eq_true hx0, if_pos rfl]; omega
      · rw [decide_eq_false hx0, if_neg (by simp)]; omega
theorem sum_ref (lf : Nat) (h3 : 200000 ≤ lf) {x y : Int} (hx : sz x ≤ 50000) (hy : sz y ≤ 50000) : surveyorref01_Sum.f lf (bs (Lib.itoa x)) (bs (Lib.itoa y)) = some (bs (Lib.itoa (x + y)), ()) := by
 rw [surveyorref01_Sum.f, short_ref lf hx, bdS]
 simp only
 by_cases c1 : (sz x : Int) ≤ 17
 ·rw [decide_eq_true c1, brT, short_ref lf hy, bdS]
  simp only
  by_cases c2 : (sz y : Int) ≤ 17
  ·have a := sz_abs (z := x) (k := 17) (by omega) (by omega)
   have b := sz_abs (z := y) (k := 17) (by omega) (by omega)
   have p : (10 : Int) ^ 17 = 100000000000000000 := by decide
   rw [decide_eq_true c2, brT, number_ref lf h3 (by omega), bdS, number_ref lf h3 (by omega), bdS]
   simp only
   rw [w64 (by omega) (by omega), whole_ref lf h3 (by omega) (by omega), bdS]
  ·rw [decide_eq_false c2, brF]
   exact long_sum lf h3 hx hy
 ·rw [decide_eq_false c1, brF]
  exact long_sum lf h3 hx hy
theorem sz_neg (z : Int) : sz (-z) = sz z := by rw [← dlen_sz, ← dlen_sz, Int.natAbs_neg]
theorem negatedL (lf : Nat) {z : Int} (hz : sz z ≤ 50000) : surveyorref01_Negated.f lf (bs (Lib.itoa z)) = some (bs (Lib.itoa (-z)), ()) := by
 have hl := len_sz z
 rw [surveyorref01_Negated.f, show (⟨#[48]⟩ : ByteArray) = bs [48] from rfl, beq_bs]
 have i0 : Lib.itoa 0 = [48] := by unfold Lib.itoa; rw [if_neg (by omega)]; exact dec_zero
 by_cases h0 : z = 0
 ·subst h0
  rw [decide_eq_true i0, brT]; rfl
 ·have hne : Lib.itoa z ≠ [48] := fun e => h0 (itoa_inj (e.trans i0.symm))
  rw [decide_eq_false hne, brF, negative_f lf _ (itoa_ne z), bdS]
  simp only
  by_cases hn : z < 0
  ·have e : Lib.itoa z = 45 :: D z.natAbs := by unfold Lib.itoa; rw [if_pos hn]
   have e' : Lib.itoa (-z) = D z.natAbs := by unfold Lib.itoa; rw [if_neg (by omega)]; congr 1; omega
   have hng : neg (Lib.itoa z) = true := by rw [e]; rfl
   rw [hng, brT, e, e', sCut_from (45 :: D z.natAbs) 1 1 rfl (by simp), bdS]
   rfl
  ·have e : Lib.itoa z = D z.toNat := by unfold Lib.itoa; rw [if_neg hn]
   have e' : Lib.itoa (-z) = 45 :: D z.toNat := by unfold Lib.itoa; rw [if_pos (by omega)]; congr 2; omega
   have hng : neg (Lib.itoa z) = false := by rw [e]; unfold neg; exact decide_eq_false (dec_no45 _)
   rw [hng, brF, e', show (⟨#[45]⟩ : ByteArray) = bs [45] from rfl, sCat_bs [45] _ (by simp; omega), bdS, e]
   rfl
theorem diff_ref (lf : Nat) (h3 : 200000 ≤ lf) {x y : Int} (hx : sz x ≤ 50000) (hy : sz y ≤ 50000) : surveyorref01_Diff.f lf (bs (Lib.itoa x)) (bs (Lib.itoa y)) = some (bs (Lib.itoa (x - y)), ()) := by
 rw [surveyorref01_Diff.f, negatedL lf hy, bdS, sum_ref lf h3 hx (by rw [sz_neg]; exact hy), bdS, ← Int.sub_eq_add_neg]
theorem product_ref (lf : Nat) (h3 : 200000 ≤ lf) {x y : Int} (hx : sz x ≤ 40000) (hy : sz y ≤ 40000) : surveyorref01_Product.f lf (bs (Lib.itoa x)) (bs (Lib.itoa y)) = some (bs (Lib.itoa (x * y)), ()) := by
 have lx := len_sz x
 have ly := len_sz y
 rw [surveyorref01_Product.f, rDigits_f lf _ (itoa_ne x) (by omega), bdS, rDigits_f lf _ (itoa_ne y) (by omega), bdS]
 simp only
 rw [show nlen (Lib.itoa x) = sz x from rfl, show nlen (Lib.itoa y) = sz y from rfl, w64 (by omega) (by omega)]
 by_cases c : (sz x : Int) + (sz y : Int) ≤ 18
 ·have s1 : 1 ≤ sz x := by
   have := (can_parts (can_itoa x)).2.1
   exact List.length_pos_iff.2 this
  have s2 : 1 ≤ sz y := by
   have := (can_parts (can_itoa y)).2.1
   exact List.length_pos_iff.2 this
  have a := sz_abs (z := x) (k := sz x) (Nat.le_refl _) s1
  have b := sz_abs (z := y) (k := sz y) (Nat.le_refl _) s2
  have p : (10 : Int) ^ 18 = 1000000000000000000 := by decide
  have m1 : (x * y).natAbs ≤ 1000000000000000000 := by
   rw [Int.natAbs_mul]
   have h1 : ((x.natAbs : Int)) * ((y.natAbs : Int)) ≤ 10 ^ sz x * 10 ^ sz y := Int.mul_le_mul (by omega) (by omega) (by omega) (by omega)
   rw [← Int.pow_add] at h1
   have h2 := pow_mono' (B := 10) (by decide) (show sz x + sz y ≤ 18 by omega)
   rw [← Int.natCast_mul] at h1
   omega
  rw [decide_eq_true c, brT, number_ref lf h3 (by omega), bdS, number_ref lf h3 (by omega), bdS]
  simp only
  rw [w64 (by omega) (by omega), whole_ref lf h3 (by omega) (by omega), bdS]
 ·have a := ld_body (z := x)
  have b := ld_body (z := y)
  rw [decide_eq_false c, brF, digits_ref lf _ (can_itoa x) (by omega) h3, bdS, digits_ref lf _ (can_itoa y) (by omega) h3, bdS]
  simp only
  obtain ⟨r, e, d1, d2, d3⟩ := rtimes_f lf _ _ a.1 b.1 (by omega) (by omega) h3
  rw [e, bdS, negative_f lf _ (itoa_ne x), bdS, negative_f lf _ (itoa_ne y), bdS]
  simp only
  rw [made_ref lf h3 d1 (by omega), bdS, d3, a.2.1, b.2.1]
  refine congrArg (fun z : Int => some (bs (Lib.itoa z), ())) ?_
  rw [neg_itoa, neg_itoa]
  have hm := Int.natAbs_mul x y
  have hm' : (((x * y).natAbs : Nat) : Int) = (x.natAbs : Int) * (y.natAbs : Int) := by rw [hm, Int.natCast_mul]
  rw [← hm']
  by_cases hx0 : x < 0
  ·rw [decide_eq_true hx0]
   by_cases hy0 : y < 0
   ·have := Int.mul_pos_of_neg_of_neg hx0 hy0
    rw [decide_eq_true hy0]; simp; omega
   ·have := Int.mul_nonpos_of_nonpos_of_nonneg (show x ≤ 0 by omega) (show 0 ≤ y by omega)
    rw [decide_eq_false hy0]; simp; omega
  ·rw [decide_eq_false hx0]
   by_cases hy0 : y < 0
   ·have := Int.mul_nonpos_of_nonneg_of_nonpos (show 0 ≤ x by omega) (show y ≤ 0 by omega)
    rw [decide_eq_true hy0]; simp; omega
   ·have := Int.mul_nonneg (show 0 ≤ x by omega) (show 0 ≤ y by omega)
    rw [decide_eq_false hy0]; simp; omega
end Go.N
namespace Go.N
open Go.IntKind (i64)
open Go Go.Q Go.Rx
theorem split_ring (A V P q0 R r1 B : Int) (h : r1 = R - V) : V * (A + P * (q0 + 1 - q0)) + P * r1 = V * A + P * R := by subst h; grind
theorem split_l1 (lf : Nat) (h3 : 200000 ≤ lf) (a v5 v6 ys : List Int) (i : Nat) (hy : Dg 10 ys) (ty : Tr ys) (hyb : ys.length ≤ 60000) : ∀ (c n : Nat) (rest q : List Int), c < n → Dg 10 rest → Tr rest → rest.length ≤ 80000 → lv 10 rest < (c + 1) * lv 10 ys → Dg 10 q → (hi : i < q.length) → q[i] + c ≤ 9 →
  ∃ rest' q', surveyorref01_split.l1 lf a ys (i : Nat) v5 v6 n rest q = some ((rest', q', ()), ()) ∧ Dg 10 rest' ∧ Tr rest' ∧ rest'.length ≤ rest.length ∧ lv 10 rest' < lv 10 ys ∧ Dg 10 q' ∧ q'.length = q.length ∧
   lv 10 ys * lv 10 q' + 10 ^ i * lv 10 rest' = lv 10 ys * lv 10 q + 10 ^ i * lv 10 rest ∧ ∀ p, p ≠ i → q'[p]? = q[p]? := by
 intro c
 induction c with
 | zero =>
  intro n rest q hn hr tr' hl hlt hq hi hc
  obtain ⟨m, rfl⟩ := Nat.exists_eq_succ_of_ne_zero (show n ≠ 0 by omega)
  have lt : lv 10 rest < lv 10 ys := by simpa using hlt
  refine ⟨rest, q, ?_, hr, tr', Nat.le_refl _, lt, hq, rfl, rfl, fun p _ => rfl⟩
  rw [surveyorref01_split.l1, surveyorref01_split.r1, rorder_f lf rest ys hr hy tr' ty (by omega) (by omega) h3, bdS, decide_eq_false (by unfold sgn; rw [if_pos (by omega)]; decide), brF]
 | succ c ih =>
  intro n rest q hn hr tr' hl hlt hq hi hc
  obtain ⟨m, rfl⟩ := Nat.exists_eq_succ_of_ne_zero (show n ≠ 0 by omega)
  rw [surveyorref01_split.l1, surveyorref01_split.r1, rorder_f lf rest ys hr hy tr' ty (by omega) (by omega) h3, bdS]
  by_cases lt : lv 10 rest < lv 10 ys
  ·rw [decide_eq_false (by unfold sgn; rw [if_pos (by omega)]; decide), brF]
   exact ⟨rest, q, rfl, hr, tr', Nat.le_refl _, lt, hq, rfl, rfl, fun p _ => rfl⟩
  ·rw [decide_eq_true (by unfold sgn; rw [if_neg (by omega)]; split <;> decide), brT]
   obtain ⟨r1, e, d1, d2, d3, d4⟩ := rminus_ref lf h3 hr hy (by omega) (by omega)
   have q0 := hq.at i hi
   have e1 : i64.wrap (q[i] + 1) = q[i] + 1 := w64 (by omega) (by omega)
   have lt1 : lv 10 r1 < ((c : Int) + 1) * lv 10 ys := by
    have : ((c + 1 : Nat) : Int) + 1 = ((c : Int) + 1) + 1 := by omega
    rw [this, Int.add_mul ((c : Int) + 1) 1, Int.one_mul] at hlt
    omega
   obtain ⟨r', q', t1, t2, t3, t4, t5, t6, t7, t8, t9⟩ := ih m r1 (q.set i (q[i] + 1)) (by omega) d1 d2 (by omega) lt1 (dg_set hq i ⟨by omega, by omega⟩) (by rw [List.length_set]; exact hi) (by rw [List.getElem_set_self]; omega)
   refine ⟨r', q', ?_, t2, t3, by omega, t5, t6, by rw [t7, List.length_set], ?_, fun p hp => by rw [t9 p hp, List.getElem?_set_ne (by omega)]⟩
   ·rw [e, bdS, idxB_nat _ _ hi, bdS, List.getElem?_eq_getElem hi, bdS, bdS, e1, upE_set _ _ _ hi, bdS]
    exact t1
   ·rw [t8, lv_set 10 q i _ hi]
    exact split_ring _ _ _ _ _ _ 10 d4
theorem split_round (lf : Nat) (h3 : 200000 ≤ lf) (xs ys v5 v6 : List Int) (hx : Dg 10 xs) (hy : Dg 10 ys) (ty : Tr ys) (hyb : ys.length ≤ 60000) (k : Nat) (hk : k < xs.length) (rest q : List Int) (hr : Dg 10 rest) (hl : rest.length ≤ 70000) (hlt : lv 10 rest < lv 10 ys) (hq : Dg 10 q) (hkq : k < q.length) (hz : q[k] = 0) :
  ∃ rest' q', surveyorref01_split.l1 lf xs ys (k : Nat) v5 v6 (lf + 40) (tr ([xs[k]] ++ rest)) q = some ((rest', q', ()), ()) ∧ Dg 10 rest' ∧ Tr rest' ∧ lv 10 rest' < lv 10 ys ∧ Dg 10 q' ∧ q'.length = q.length ∧
   lv 10 ys * lv 10 q' + 10 ^ k * lv 10 rest' = lv 10 ys * lv 10 q + 10 ^ k * (xs[k] + 10 * lv 10 rest) ∧ ∀ p, p ≠ k → q'[p]? = q[p]? := by
 have x0 := hx.at k hk
 have hd : Dg 10 ([xs[k]] ++ rest) := Dg.cons x0 hr
 have hl2 := tr_len ([xs[k]] ++ rest)
 have e : lv 10 ([xs[k]] ++ rest) = xs[k] + 10 * lv 10 rest := rfl
 obtain ⟨r', q', t1, t2, t3, _, t5, t6, t7, t8, t9⟩ := split_l1 lf h3 xs v5 v6 ys k hy ty hyb 9 (lf + 40) (tr ([xs[k]] ++ rest)) q (by omega) (dg_tr hd) (tr_tr _) (by simp at hl2; simp; omega) (by rw [lv_tr, e]; omega) hq hkq (by rw [hz]; decide)
 rw [lv_tr, e] at t8
 exact ⟨r', q', t1, t2, t3, t5, t6, t7, t8, t9⟩
theorem rest_len {rest ys : List Int} (hy : Dg 10 ys) (hr : Dg 10 rest) (tr' : Tr rest) (h : lv 10 rest < lv 10 ys) : rest.length ≤ ys.length := by
 by_cases z : rest.length ≤ ys.length
 ·exact z
 ·have := lv_len_lt (B := 10) (by decide) hy hr tr' (by omega); omega
theorem step_ring (V Q Q' P x R R' L : Int) (h : V * Q' + P * R' = V * Q + P * (x + 10 * R)) : V * Q' + (P * R' + L) = V * Q + (P * 10 * R + (L + P * x)) := by grind
theorem split_l2 (lf : Nat) (h3 : 200000 ≤ lf) (xs ys v5 : List Int) (hx : Dg 10 xs) (hy : Dg 10 ys) (ty : Tr ys) (hyb : ys.length ≤ 60000) (hxb : xs.length ≤ 60000) : ∀ (k n : Nat) (rest q : List Int), k < n → k ≤ xs.length → Dg 10 rest → Tr rest → lv 10 rest < lv 10 ys → Dg 10 q → k ≤ q.length → (∀ p, p < k → q[p]? = some 0) →
  ∃ rest' q', surveyorref01_split.l2 lf xs ys v5 n rest (((k : Nat) : Int) - 1) q = some ((rest', q', v5, ()), ()) ∧ Dg 10 rest' ∧ Tr rest' ∧ lv 10 rest' < lv 10 ys ∧ Dg 10 q' ∧ q'.length = q.length ∧
   lv 10 ys * lv 10 q' + lv 10 rest' = lv 10 ys * lv 10 q + (10 ^ k * lv 10 rest + lv 10 (xs.take k)) := by
 intro k
 induction k with
 | zero =>
  intro n rest q hn hk hr tr' hlt hq hkq hz
  obtain ⟨m, rfl⟩ := Nat.exists_eq_succ_of_ne_zero (show n ≠ 0 by omega)
  refine ⟨rest, q, ?_, hr, tr', hlt, hq, rfl, by simp [lv]⟩
  rw [surveyorref01_split.l2, surveyorref01_split.r2, decide_eq_false (by omega), brF]
 | succ k ih =>
  intro n rest q hn hk hr tr' hlt hq hkq hz
  obtain ⟨m, rfl⟩ := Nat.exists_eq_succ_of_ne_zero (show n ≠ 0 by omega)
  have hkl : k < xs.length := by omega
  have rl := rest_len hy hr tr' hlt
  have z0 : q[k]'(by omega) = 0 := by
   have h1 := hz k (by omega)
   rw [List.getElem?_eq_getElem (by omega)] at h1
   exact Option.some.inj h1
  obtain ⟨r1, q1, t1, t2, t3, t4, t5, t6, t7, t8⟩ := split_round lf h3 xs ys v5 ([xs[k]] ++ rest) hx hy ty hyb k hkl rest q hr (by omega) hlt hq (by omega) z0
  obtain ⟨r2, q2, s1, s2, s3, s4, s5, s6, s7⟩ := ih m r1 q1 (by omega) (by omega) t2 t3 t4 t5 (by omega) (fun p hp => by rw [t8 p (by omega)]; exact hz p (by omega))
  refine ⟨r2, q2, ?_, s2, s3, s4, s5, by rw [s6, t6], ?_⟩
  ·rw [surveyorref01_split.l2, surveyorref01_split.r2, show ((k + 1 : Nat) : Int) - 1 = ((k : Nat) : Int) by omega, decide_eq_true (by omega), brT, idxL_nat _ _ hkl, bdS, apL_ok _ _ _ (by decide) (by simp; omega), bdS, cut_f lf _ (by simp; omega) h3, bdS]
   simp only [t1, bdS]
   rw [w64 (n := ((k : Nat) : Int) - 1) (by omega) (by omega)]
   exact s1
  ·rw [s7, lv_takes 10 xs k hkl, Int.pow_succ]
   exact step_ring _ _ _ _ _ _ _ _ t7
theorem split_l0 (lf : Nat) (h3 : 200000 ≤ lf) (xs ys : List Int) (hx : Dg 10 xs) (hy : Dg 10 ys) (ty : Tr ys) (hyb : ys.length ≤ 60000) (hxb : xs.length ≤ 60000) (k : Nat) (rest q : List Int) (hk : k ≤ xs.length) (hr : Dg 10 rest) (tr' : Tr rest) (hlt : lv 10 rest < lv 10 ys) (hq : Dg 10 q) (hkq : k ≤ q.length) (hz : ∀ p, p < k → q[p]? = some 0) :
  ∃ b rest' q' w, surveyorref01_split.l0 lf xs ys (((k : Nat) : Int) - 1) q rest (lf + 40) = some w ∧ w.1 = b ∧ (if b = true then w.2.1.1 = q' ∧ w.2.1.2.1 = rest' else w.2.2.1.2.1 = q' ∧ w.2.2.1.1 = rest') ∧ Dg 10 rest' ∧ Tr rest' ∧ lv 10 rest' < lv 10 ys ∧ Dg 10 q' ∧ q'.length = q.length ∧
   lv 10 ys * lv 10 q' + lv 10 rest' = lv 10 ys * lv 10 q + (10 ^ k * lv 10 rest + lv 10 (xs.take k)) := by
 cases k with
 | zero =>
  refine ⟨true, rest, q, (true, (q, rest, ()), (([], [], [], ()), ())), ?_, rfl, by rw [if_pos rfl]; exact ⟨rfl, rfl⟩, hr, tr', hlt, hq, rfl, by simp [lv]⟩
  rw [show lf + 40 = (lf + 39) + 1 from rfl, surveyorref01_split.l0, surveyorref01_split.r0, decide_eq_false (by omega), brF]
 | succ k =>
  have hkl : k < xs.length := by omega
  have rl := rest_len hy hr tr' hlt
  have z0 : q[k]'(by omega) = 0 := by
   have h1 := hz k (by omega)
   rw [List.getElem?_eq_getElem (by omega)] at h1
   exact Option.some.inj h1
  obtain ⟨r1, q1, t1, t2, t3, t4, t5, t6, t7, t8⟩ := split_round lf h3 xs ys rest ([xs[k]] ++ rest) hx hy ty hyb k hkl rest q hr (by omega) hlt hq (by omega) z0
  obtain ⟨r2, q2, s1, s2, s3, s4, s5, s6, s7⟩ := split_l2 lf h3 xs ys rest hx hy ty hyb hxb k (lf + 39) r1 q1 (by omega) (by omega) t2 t3 t4 t5 (by omega) (fun p hp => by rw [t8 p (by omega)]; exact hz p (by omega))
  refine ⟨false, r2, q2, (false, ([], [], ()), ((r2, q2, rest, ()), ())), ?_, rfl, by simp, s2, s3, s4, s5, by rw [s6, t6], ?_⟩
  ·rw [show lf + 40 = (lf + 39) + 1 from rfl, surveyorref01_split.l0, surveyorref01_split.r0, show ((k + 1 : Nat) : Int) - 1 = ((k : Nat) : Int) by omega, decide_eq_true (by omega), brT, idxL_nat _ _ hkl, bdS, apL_ok _ _ _ (by decide) (by simp; omega), bdS, cut_f lf _ (by simp; omega) h3, bdS]
   simp only [t1, bdS]
   rw [w64 (n := ((k : Nat) : Int) - 1) (by omega) (by omega), s1, bdS]
  ·rw [s7, lv_takes 10 xs k hkl, Int.pow_succ]
   exact step_ring _ _ _ _ _ _ _ _ t7
theorem split_ref (lf : Nat) (h3 : 200000 ≤ lf) {xs ys : List Int} (hx : Dg 10 xs) (hy : Dg 10 ys) (tx : Tr xs) (ty : Tr ys) (hyn : ys ≠ []) (hxb : xs.length ≤ 60000) (hyb : ys.length ≤ 60000) :
  ∃ Q R, surveyorref01_split.f lf xs ys = some (Q, R, ()) ∧ Dg 10 Q ∧ Q.length ≤ xs.length + 1 ∧ Dg 10 R ∧ Tr R ∧ lv 10 xs = lv 10 ys * lv 10 Q + lv 10 R ∧ lv 10 R < lv 10 ys := by
 have yl : 1 ≤ ys.length := List.length_pos_iff.2 hyn
 obtain ⟨n, hn⟩ : ∃ n, n = xs.length + 1 - ys.length := ⟨_, rfl⟩
 have yt := lv_top (B := 10) (by decide) hy ty hyn
 have e0 : (if (i64.wrap ((i64.wrap (((xs.length : Nat) : Int) - ((ys.length : Nat) : Int))) + 1)) > 0 then (i64.wrap ((i64.wrap (((xs.length : Nat) : Int) - ((ys.length : Nat) : Int))) + 1)) else 0) = ((n : Nat) : Int) := by
  rw [w64 (n := ((xs.length : Nat) : Int) - ((ys.length : Nat) : Int)) (by omega) (by omega), w64 (by omega) (by omega)]
  split <;> omega
 have e1 : i64.wrap (((n : Nat) : Int) - 1) = ((n : Nat) : Int) - 1 := w64 (by omega) (by omega)
 have nx : n ≤ xs.length := by omega
 have rT : Tr (xs.drop n) := by
  unfold Tr at *
  by_cases z : n < xs.length
  ·rw [List.getLast?_drop, if_neg (by omega)]; exact tx
  ·rw [List.drop_of_length_le (by omega)]; simp
 have rlt : lv 10 (xs.drop n) < lv 10 ys := by
  have a := lv_lt (B := 10) (by decide) (hx.drop n)
  rw [List.length_drop] at a
  have b := pow_mono' (B := 10) (by decide) (show xs.length - n ≤ ys.length - 1 by omega)
  omega
 obtain ⟨b, R, Q, w, t1, t2, t3, t4, t5, t6, t7, t8, t9⟩ := split_l0 lf h3 xs ys hx hy ty hyb hxb n (xs.drop n) (List.replicate n 0) nx (hx.drop n) rT rlt (Dg.zeros (by decide) _) (by simp) (fun p hp => by rw [List.getElem?_replicate, if_pos hp])
 rw [List.length_replicate] at t8
 rw [lv_zeros, Int.mul_zero, Int.zero_add] at t9
 have sp := lv_split 10 xs n nx
 refine ⟨tr Q, R, ?_, dg_tr t7, by have := tr_len Q; omega, t4, t5, by rw [lv_tr]; omega, t6⟩
 rw [surveyorref01_split.f, e0, e1, mkL_nat _ _ _ n rfl rfl (by omega), bdS, cutL_from _ _ n rfl nx, bdS, apL_ok _ _ _ (by decide) (by simp; omega), bdS, List.nil_append, t1, bdS, t2]
 cases b with
 | true =>
  rw [if_pos rfl] at t3
  rw [brT, t3.1, t3.2, cut_f lf Q (by omega) h3, bdS]
 | false =>
  rw [if_neg (by simp)] at t3
  rw [brF, t3.1, t3.2, cut_f lf Q (by omega) h3, bdS]
theorem floor_ref (lf : Nat) {x y : Int} (hx : x.natAbs < 100000000000000000) (hy : y.natAbs < 100000000000000000) (h0 : y ≠ 0) : surveyorref01_floor.f lf x y = some (x.fdiv y, ()) := by
 have e := Int.mul_tdiv_add_tmod x y
 have e1 : iRem x y = some (Int.tmod x y) := by unfold iRem; rw [if_neg h0]
 have qb : (Int.tdiv x y).natAbs ≤ x.natAbs := by rw [Int.natAbs_tdiv]; exact Nat.div_le_self _ _
 have e2 : iQuo .i64 x y = some (Int.tdiv x y) := by
  unfold iQuo; rw [if_neg h0]
  congr 1
  apply w64 <;> omega
 have sg : (0 ≤ x → 0 ≤ Int.tmod x y) ∧ (x ≤ 0 → Int.tmod x y ≤ 0) := by
  refine ⟨fun h => Int.tmod_nonneg y h, fun h => ?_⟩
  have := Int.tmod_nonneg y (show 0 ≤ -x by omega)
  rw [Int.neg_tmod] at this
  omega
 have ab : (Int.tmod x y).natAbs < y.natAbs := by
  rw [Int.natAbs_tmod]
  exact Nat.mod_lt _ (by omega)
 rw [surveyorref01_floor.f, e2, bdS, e1, bdS]
 by_cases r0 : Int.tmod x y = 0
 ·rw [r0, bne_self_eq_false, brF]
  have := (fdiv_unique (x := x) (y := y) (q := Int.tdiv x y) (r := 0) (by omega) (by omega)).1
  rw [this]
 ·rw [show (Int.tmod x y != 0) = true by simpa using r0, brT]
  by_cases hs : decide (x < 0) = decide (y < 0)
  ·have hs' : (x < 0 ↔ y < 0) := by simpa using hs
   rw [show (decide (x < 0) != decide (y < 0)) = false by rw [hs, bne_self_eq_false], brF]
   have := (fdiv_unique (x := x) (y := y) (q := Int.tdiv x y) (r := Int.tmod x y) (by omega) (by omega)).1
   rw [this]
  ·have hs' : ¬ (x < 0 ↔ y < 0) := by simpa using hs
   rw [show (decide (x < 0) != decide (y < 0)) = true by simpa using hs, brT, w64 (by omega) (by omega)]
   have := (fdiv_unique (x := x) (y := y) (q := Int.tdiv x y - 1) (r := Int.tmod x y + y) (by rw [Int.mul_sub]; omega) (by omega)).1
   rw [this]
theorem sz_of_lt {z : Int} {k : Nat} (hk : 1 ≤ k) (h : (z.natAbs : Int) < 10 ^ k) : sz z ≤ k := by
 obtain ⟨j, rfl⟩ := Nat.exists_eq_succ_of_ne_zero (show k ≠ 0 by omega)
 rw [← dlen_sz]
 apply dec_len_le
 have : ((10 ^ (j + 1) : Nat) : Int) = (10 : Int) ^ (j + 1) := by norm_cast
 have h' : (z.natAbs : Int) < ((10 ^ (j + 1) : Nat) : Int) := by rw [this]; exact h
 exact Int.ofNat_lt.1 h'
theorem long_floor (lf : Nat) (h3 : 200000 ≤ lf) {x y : Int} (hx : sz x ≤ 40000) (hy : sz y ≤ 40000) (h0 : y ≠ 0) :
    (bd (surveyorref01_digits.f lf (bs (Lib.itoa x))) fun r18 =>
 bd (surveyorref01_cut.f lf r18.1) fun r19 =>
 bd (surveyorref01_digits.f lf (bs (Lib.itoa y))) fun r20 =>
 bd (surveyorref01_cut.f lf r20.1) fun r21 =>
 bd (surveyorref01_split.f lf r19.1 r21.1) fun r22 =>
 bd (surveyorref01_Negative.f lf (bs (Lib.itoa x))) fun r23 =>
 bd (surveyorref01_Negative.f lf (bs (Lib.itoa y))) fun r24 =>
 bd (surveyorref01_made.f lf r22.1 (r23.1 != r24.1)) fun r25 =>
 bd (surveyorref01_Negative.f lf (bs (Lib.itoa x))) fun r26 =>
 bd (surveyorref01_Negative.f lf (bs (Lib.itoa y))) fun r27 =>
 br (r26.1 != r27.1) (
 br (decide (((r22.2.1.length : Nat) : Int) > 0)) (
 bd (surveyorref01_Diff.f lf r25.1 (⟨#[49]⟩ : ByteArray)) fun r28 =>
 some (r28.1, ())) (
 some (r25.1, ()))) (
 some (r25.1, ()))) = some (bs (Lib.itoa (x.fdiv y)), ()) := by
  have a := ld_body (z := x)
  have b := ld_body (z := y)
  have lx := len_sz x
  have ly := len_sz y
  have tx := tr_len (ld (body (Lib.itoa x)))
  have ty := tr_len (ld (body (Lib.itoa y)))
  have hyn : tr (ld (body (Lib.itoa y))) ≠ [] := by
    intro e
    have := lv_tr 10 (ld (body (Lib.itoa y)))
    rw [e, b.2.1] at this
    simp only [lv] at this
    omega
  obtain ⟨Q, R, e, dq, lq, dr, tr', val, lt⟩ := split_ref lf h3 (dg_tr a.1) (dg_tr b.1) (tr_tr _) (tr_tr _) hyn (by omega) (by omega)
  rw [lv_tr, lv_tr, a.2.1, b.2.1] at val
  rw [lv_tr, b.2.1] at lt
  have R0 := lv_nonneg (B := 10) (by decide) dr
  have Q0 := lv_nonneg (B := 10) (by decide) dq
  rw [digits_ref lf _ (can_itoa x) (by omega) h3, bdS, cut_f lf (ld (body (Lib.itoa x))) (by omega) h3, bdS, digits_ref lf _ (can_itoa y) (by omega) h3, bdS, cut_f lf (ld (body (Lib.itoa y))) (by omega) h3, bdS]
  simp only
  rw [e, bdS, negative_f lf _ (itoa_ne x), bdS, negative_f lf _ (itoa_ne y), bdS]
  simp only
  rw [made_ref lf h3 dq (by omega), bdS, bdS, bdS]
  simp only [neg_itoa]
  by_cases hs : decide (x < 0) = decide (y < 0)
  · have hs' : (x < 0 ↔ y < 0) := by simpa using hs
    rw [hs, bne_self_eq_false, brF, if_neg (by simp)]
    refine congrArg (fun z : Int => some (bs (Lib.itoa z), ())) ?_
    refine (fdiv_unique (x := x) (y := y) (q := lv 10 Q) (r := if x < 0 then -lv 10 R else lv 10 R) ?_ ?_).1
    · by_cases hx0 : x < 0
      · have := hs'.1 hx0
        rw [if_pos hx0]
        have e1 : (y.natAbs : Int) = -y := by omega
        have e2 : (x.natAbs : Int) = -x := by omega
        rw [e1, e2, Int.neg_mul] at val
        omega
      · have : ¬ y < 0 := fun e => hx0 (hs'.2 e)
        rw [if_neg hx0]
        have e1 : (y.natAbs : Int) = y := by omega
        have e2 : (x.natAbs : Int) = x := by omega
        rw [e1, e2] at val
        omega
    · split <;> omega
  · have hs' : ¬ (x < 0 ↔ y < 0) := by simpa using hs
    rw [show (decide (x < 0) != decide (y < 0)) = true by simpa using hs, brT, if_pos rfl]
    have val2 : x = y * (-lv 10 Q) + (if x < 0 then -lv 10 R else lv 10 R) := by
      by_cases hx0 : x < 0
      · have e1 : (y.natAbs : Int) = y := by omega
        have e2 : (x.natAbs : Int) = -x := by omega
        rw [e1, e2] at val
        rw [if_pos hx0, Int.mul_neg]
        omega
      · have e1 : (y.natAbs : Int) = -y := by omega
        have e2 : (x.natAbs : Int) = x := by omega
        rw [e1, e2, Int.neg_mul] at val
        rw [if_neg hx0, Int.mul_neg]
        omega
    by_cases hR : R = []
    · subst hR
      rw [decide_eq_false (by simp), brF]
      refine congrArg (fun z : Int => some (bs (Lib.itoa z), ())) ?_
      refine (fdiv_unique (x := x) (y := y) (q := -lv 10 Q) (r := 0) ?_ (by omega)).1
      simp only [lv, Int.neg_zero, ite_self, Int.add_zero] at val2
      omega
    · have Rl : 0 < R.length := List.length_pos_iff.2 hR
      have Rp := lv_pos (B := 10) (by decide) dr tr' hR
      have Qb : sz (-lv 10 Q) ≤ 50000 := by
        have := sz_of_lt (z := -lv 10 Q) (k := Q.length + 1) (by omega) (by
          have a1 := lv_lt (B := 10) (by decide) dq
          have a2 := pow_mono' (B := 10) (by decide) (show Q.length ≤ Q.length + 1 by omega)
          omega)
        omega
      have i1 : Lib.itoa 1 = [49] := by decide +kernel
      have s1 : sz 1 ≤ 50000 := by unfold sz; rw [i1]; decide
      rw [decide_eq_true (by omega), brT, show (⟨#[49]⟩ : ByteArray) = bs [49] from rfl, ← i1, diff_ref lf h3 Qb s1, bdS]
      refine congrArg (fun z : Int => some (bs (Lib.itoa z), ())) ?_
      refine (fdiv_unique (x := x) (y := y) (q := -lv 10 Q - 1) (r := (if x < 0 then -lv 10 R else lv 10 R) + y) ?_ ?_).1
      · rw [Int.mul_sub]; omega
      · split <;> omega
theorem Floor_ref (lf : Nat) (h3 : 200000 ≤ lf) {x y : Int} (hx : sz x ≤ 40000) (hy : sz y ≤ 40000) (h0 : y ≠ 0) : surveyorref01_Floor.f lf (bs (Lib.itoa x)) (bs (Lib.itoa y)) = some (bs (Lib.itoa (x.fdiv y)), ()) := by
 rw [surveyorref01_Floor.f, short_ref lf (by omega), bdS]
 simp only
 by_cases c1 : (sz x : Int) ≤ 17
 ·rw [decide_eq_true c1, brT, short_ref lf (by omega), bdS]
  simp only
  by_cases c2 : (sz y : Int) ≤ 17
  ·have a := sz_abs (z := x) (k := 17) (by omega) (by omega)
   have b := sz_abs (z := y) (k := 17) (by omega) (by omega)
   have p : (10 : Int) ^ 17 = 100000000000000000 := by decide
   have fb : (x.fdiv y).natAbs ≤ 200000000000000000 := by
    have m := Int.mul_fdiv_add_fmod x y
    have h1 : (x.fdiv y).natAbs * 1 ≤ (x.fdiv y).natAbs * y.natAbs := Nat.mul_le_mul_left _ (by omega)
    have h2 : (y * x.fdiv y).natAbs = y.natAbs * (x.fdiv y).natAbs := Int.natAbs_mul _ _
    rw [Nat.mul_comm] at h2
    have h3 : (x.fmod y).natAbs < y.natAbs := by
     rcases Int.lt_or_lt_of_ne h0 with z | z
     ·have a := Int.fmod_nonneg_of_pos (-x) (show 0 < -y by omega)
      have b := Int.fmod_lt_of_pos (-x) (show 0 < -y by omega)
      rw [Int.neg_fmod_neg] at a b
      omega
     ·have a := Int.fmod_nonneg_of_pos x z
      have b := Int.fmod_lt_of_pos x z
      omega
    omega
   rw [decide_eq_true c2, brT, number_ref lf h3 (by omega), bdS, number_ref lf h3 (by omega), bdS]
   simp only
   rw [floor_ref lf (by omega) (by omega) h0, bdS, whole_ref lf h3 (by omega) (by omega), bdS]
  ·rw [decide_eq_false c2, brF]
   exact long_floor lf h3 hx hy h0
 ·rw [decide_eq_false c1, brF]
  exact long_floor lf h3 hx hy h0
theorem fmod_abs {x y : Int} (h0 : y ≠ 0) : (x.fmod y).natAbs < y.natAbs := by
 rcases Int.lt_or_lt_of_ne h0 with z | z
 ·have a := Int.fmod_nonneg_of_pos (-x) (show 0 < -y by omega)
  have b := Int.fmod_lt_of_pos (-x) (show 0 < -y by omega)
  rw [Int.neg_fmod_neg] at a b
  omega
 ·have a := Int.fmod_nonneg_of_pos x z
  have b := Int.fmod_lt_of_pos x z
  omega
theorem fdiv_abs {x y : Int} (h0 : y ≠ 0) : (x.fdiv y).natAbs ≤ x.natAbs + 1 := by
 by_cases q0 : x.fdiv y = 0
 ·rw [q0]; simp
 have m := Int.mul_fdiv_add_fmod x y
 have h2 : (y * x.fdiv y).natAbs = y.natAbs * (x.fdiv y).natAbs := Int.natAbs_mul _ _
 have h3 := fmod_abs (x := x) h0
 obtain ⟨k, hk⟩ := Nat.exists_eq_succ_of_ne_zero (show (x.fdiv y).natAbs ≠ 0 by omega)
 rw [hk, Nat.mul_succ] at h2
 have h4 : 1 * k ≤ y.natAbs * k := Nat.mul_le_mul_right _ (by omega)
 omega
theorem sz_fdiv {x y : Int} {k : Nat} (hk : 1 ≤ k) (h0 : y ≠ 0) (h : sz x ≤ k) : sz (x.fdiv y) ≤ k + 1 := by
 apply sz_of_lt (by omega)
 have a := sz_abs h hk
 have b := fdiv_abs (x := x) h0
 have c : (10 : Int) ^ (k + 1) = 10 ^ k * 10 := Int.pow_succ ..
 omega
theorem sz_mul {x y : Int} {j k : Nat} (hj : 1 ≤ j) (hk : 1 ≤ k) (h1 : sz x ≤ j) (h2 : sz y ≤ k) : sz (x * y) ≤ j + k := by
 apply sz_of_lt (by omega)
 have a := sz_abs h1 hj
 have b := sz_abs h2 hk
 rw [Int.natAbs_mul, Int.natCast_mul, Int.pow_add]
 have p := pow_pos' (B := 10) (by decide) k
 have c := Int.mul_le_mul_of_nonneg_left (Int.le_of_lt b) (show 0 ≤ (x.natAbs : Int) by omega)
 have d := Int.mul_lt_mul_of_pos_right a p
 omega
theorem rest_ref (lf : Nat) (h3 : 200000 ≤ lf) {x y : Int} (hx : sz x ≤ 20000) (hy : sz y ≤ 20000) (h0 : y ≠ 0) : surveyorref01_Rest.f lf (bs (Lib.itoa x)) (bs (Lib.itoa y)) = some (bs (Lib.itoa (x.fmod y)), ()) := by
 have q := sz_fdiv (by omega) h0 hx
 have p := sz_mul (by omega) (by omega) hy q
 rw [surveyorref01_Rest.f, Floor_ref lf h3 (by omega) (by omega) h0, bdS, product_ref lf h3 (by omega) (by omega), bdS, diff_ref lf h3 (by omega) (by omega), bdS]
 have m := Int.mul_fdiv_add_fmod x y
 refine congrArg (fun z : Int => some (bs (Lib.itoa z), ())) ?_
 omega
end Go.N
namespace Go.N
open Go Go.Q Go.Rx
set_option exponentiation.threshold 5000
theorem add_small (lf : Nat) (h3 : 200000 ≤ lf) {x y : Int} (hx : -K < x ∧ x < K) (hy : -K < y ∧ y < K) (hs : -K < x + y ∧ x + y < K) : bigint_Add.f lf (bs (Lib.itoa x)) (bs (Lib.itoa y)) = some (bs (Lib.itoa (x + y)), 0, ()) := by
 have h := (sz_K (x + y)).2 hs
 rw [add_f lf _ _ ((chk_itoa x).2 hx) ((chk_itoa y).2 hy) h3, iv_itoa, iv_itoa, dlen_sz, if_neg (by omega)]
theorem i1 : (⟨#[49]⟩ : ByteArray) = bs (Lib.itoa 1) := by
 have : Lib.itoa 1 = [49] := by unfold Lib.itoa; rw [if_neg (by omega)]; exact dec_small (by omega)
 rw [this]
theorem i0 : (⟨#[48]⟩ : ByteArray) = bs (Lib.itoa 0) := by
 have : Lib.itoa 0 = [48] := by unfold Lib.itoa; rw [if_neg (by omega)]; exact dec_zero
 rw [this]
end Go.N
namespace Go.N
open Go Go.Q Go.Rx
def E0 : A := ⟨true, none, none⟩
theorem wf_E0 : Wf E0 := ⟨fun _ => ⟨rfl, rfl⟩, trivial, trivial, trivial⟩
end Go.N
namespace Go.N
open Go Go.Q Go.Rx
set_option exponentiation.threshold 5000
theorem CC_K : C * C + C + C + 10 < K := by
 have h1 : C * C = ((10 ^ 200 : Nat) : Int) := by
  unfold C
  rw [← Int.natCast_mul, ← Nat.pow_add]
 have h2 : ((10 ^ 200 : Nat) : Int) * 10 ≤ K := by
  unfold K
  have : (10 : Nat) ^ 200 * 10 ≤ 10 ^ 4096 := by rw [← Nat.pow_succ]; exact Nat.pow_le_pow_right (by omega) (by omega)
  have h : (((10 ^ 200 * 10 : Nat) : Int)) ≤ ((10 ^ 4096 : Nat) : Int) := Int.ofNat_le.2 this
  rw [Int.natCast_mul] at h
  exact h
 have h3 := C_gt
 have h4 : C * 1000000 ≤ C * C := Int.mul_le_mul_of_nonneg_left (by omega) (by omega)
 omega
@[irreducible] def Dd : Int := ((10 ^ 1000 : Nat) : Int)
theorem sz_Dd (z : Int) : sz z ≤ 1000 ↔ -Dd < z ∧ z < Dd := by
 rw [sz_le z 1000 (by omega)]
 unfold Dd
 generalize 10 ^ 1000 = n
 omega
theorem C_lt_Dd : C < Dd := by
 unfold C Dd
 have : (10 : Nat) ^ 100 < 10 ^ 1000 := Nat.pow_lt_pow_right (by omega) (by omega)
 exact Int.ofNat_lt.2 this
theorem DD_K : Dd * Dd + Dd + Dd + 10 < K := by
 have h1 : Dd * Dd = ((10 ^ 2000 : Nat) : Int) := by
  unfold Dd
  rw [← Int.natCast_mul, ← Nat.pow_add]
 have h2 : ((10 ^ 2000 : Nat) : Int) * 10 ≤ K := by
  unfold K
  have : (10 : Nat) ^ 2000 * 10 ≤ 10 ^ 4096 := by rw [← Nat.pow_succ]; exact Nat.pow_le_pow_right (by omega) (by omega)
  have h : (((10 ^ 2000 * 10 : Nat) : Int)) ≤ ((10 ^ 4096 : Nat) : Int) := Int.ofNat_le.2 this
  rw [Int.natCast_mul] at h
  exact h
 have h3 := C_gt
 have h5 := C_lt_Dd
 have h4 : Dd * 1000000 ≤ Dd * Dd := Int.mul_le_mul_of_nonneg_left (by omega) (by omega)
 omega
theorem Dd_K : Dd < K := by
 have h := DD_K
 have h3 := C_gt
 have h5 := C_lt_Dd
 have h4 : 0 ≤ Dd * Dd := Int.mul_nonneg (by omega) (by omega)
 omega
theorem mul_Dd {a b : Int} (ha : -Dd < a ∧ a < Dd) (hb : -Dd < b ∧ b < Dd) : -(Dd * Dd) < a * b ∧ a * b < Dd * Dd := by
 have hC := C_gt
 have hD := C_lt_Dd
 have h1 : (a * b).natAbs = a.natAbs * b.natAbs := Int.natAbs_mul a b
 have h2 : ((a * b).natAbs : Int) = (a.natAbs : Int) * (b.natAbs : Int) := by rw [h1, Int.natCast_mul]
 have h3 : (a.natAbs : Int) * (b.natAbs : Int) ≤ (Dd - 1) * (Dd - 1) := Int.mul_le_mul (by omega) (by omega) (by omega) (by omega)
 have h4 : (Dd - 1) * (Dd - 1) = Dd * Dd - Dd - Dd + 1 := by grind
 omega
theorem mul_C {a b : Int} (ha : -C < a ∧ a < C) (hb : -C < b ∧ b < C) : -(C * C) < a * b ∧ a * b < C * C := by
 have hC := C_gt
 have h1 : (a * b).natAbs = a.natAbs * b.natAbs := Int.natAbs_mul a b
 have h2 : ((a * b).natAbs : Int) = (a.natAbs : Int) * (b.natAbs : Int) := by rw [h1, Int.natCast_mul]
 have h3 : (a.natAbs : Int) * (b.natAbs : Int) ≤ (C - 1) * (C - 1) := Int.mul_le_mul (by omega) (by omega) (by omega) (by omega)
 have h4 : (C - 1) * (C - 1) = C * C - C - C + 1 := by grind
 omega
theorem chkK {z : Int} (h : -K < z ∧ z < K) : chk (Lib.itoa z) = 0 := (chk_itoa z).2 h
def Pr (s : Sp) : Prop := emp s = true ∨ (s.lo ≠ .pi ∧ s.hi ≠ .ni)
theorem key_xneg (x : X) : key (xneg x) = -key x := by cases x <;> simp [key, xneg]
theorem oks.K {s : Sp} (h : oks C s) : oks K s := h.mono (Int.le_of_lt C_lt_K)
def sg : X → Int
 | .ni => -1
 | .fin z => sgn z
 | .pi => 1
theorem sg3 (x : X) : sg x = -1 ∨ sg x = 0 ∨ sg x = 1 := by
 cases x with
 | ni => exact .inl rfl
 | pi => exact .inr (.inr rfl)
 | fin z => simp only [sg, sgn]; (repeat' split) <;> omega
def xmul (x y : X) : X := if sg x * sg y = 0 then .fin 0 else match x, y with
 | .fin a, .fin b => .fin (a * b)
 | _, _ => if sg x * sg y = 1 then .pi else .ni
theorem xmul_ok {x y : X} (hx : okx C x) (hy : okx C y) : okx K (xmul x y) := by
 have hK := CC_K
 have hC := C_gt
 have h4 : 0 ≤ C * C := Int.mul_nonneg (by omega) (by omega)
 unfold xmul
 split
 ·simp only [okx]; omega
 ·cases x with
  | fin u => cases y with
   | fin v =>
    have m := mul_C hx hy
    simp only [okx]; omega
   | ni => simp only; split <;> trivial
   | pi => simp only; split <;> trivial
  | ni => simp only; split <;> trivial
  | pi => simp only; split <;> trivial
theorem xmul_okD {x y : X} (hx : okx Dd x) (hy : okx Dd y) : okx K (xmul x y) := by
 have hK := DD_K
 have hC := C_gt
 have hD := C_lt_Dd
 have h4 : 0 ≤ Dd * Dd := Int.mul_nonneg (by omega) (by omega)
 unfold xmul
 split
 ·simp only [okx]; omega
 ·cases x with
  | fin u => cases y with
   | fin v =>
    have m := mul_Dd hx hy
    simp only [okx]; omega
   | ni => simp only; split <;> trivial
   | pi => simp only; split <;> trivial
  | ni => simp only; split <;> trivial
  | pi => simp only; split <;> trivial
theorem okx.D {x : X} (h : okx C x) : okx Dd x := h.mono (Int.le_of_lt C_lt_Dd)
def one (v : X) : Sp := ⟨v, v⟩
def apS (o : X → X → X) (s t : Sp) : Sp := if emp s = true then non else if emp t = true then non else
 hull (hull (hull (hull non (one (o s.lo t.lo))) (one (o s.lo t.hi))) (one (o s.hi t.lo))) (one (o s.hi t.hi))
theorem one_ok {k : Int} {v : X} (h : okx k v) : oks k (one v) := ⟨h, h⟩
theorem apS_ok {o : X → X → X} {s t : Sp} (h : ∀ x y, (x = s.lo ∨ x = s.hi) → (y = t.lo ∨ y = t.hi) → okx K (o x y)) : oks K (apS o s t) := by
 unfold apS; split
 ·exact non_ok
 ·split
  ·exact non_ok
  ·exact hull_ok (hull_ok (hull_ok (hull_ok non_ok (one_ok (h _ _ (.inl rfl) (.inl rfl)))) (one_ok (h _ _ (.inl rfl) (.inr rfl)))) (one_ok (h _ _ (.inr rfl) (.inl rfl)))) (one_ok (h _ _ (.inr rfl) (.inr rfl)))
theorem mulS_ok {s t : Sp} (hs : oks C s) (ht : oks C t) : oks K (apS xmul s t) := apS_ok fun x y hx hy => by
 rcases hx with rfl | rfl <;> rcases hy with rfl | rfl <;> exact xmul_ok (by first | exact hs.1 | exact hs.2) (by first | exact ht.1 | exact ht.2)
end Go.N
namespace Go.N
open Go Go.Q Go.Rx
theorem rem_small (lf : Nat) (hlf : 2000000000 ≤ lf) {x y : Int} (hx : -K < x ∧ x < K) (hy : -K < y ∧ y < K) (h0 : y ≠ 0) : bigint_Rem.f lf (bs (Lib.itoa x)) (bs (Lib.itoa y)) = some (bs (Lib.itoa (x.fmod y)), 0, ()) := by
 rw [rem_f lf hlf _ _ (chkK hx) (chkK hy), iv_itoa, iv_itoa, if_neg h0]
theorem sg_key (x : X) : (sg x < 0 ↔ key x < 0) ∧ (sg x = 0 ↔ key x = 0) ∧ (0 < sg x ↔ 0 < key x) := by
 have := K_gt
 cases x with
 | ni => simp only [sg, key]; omega
 | pi => simp only [sg, key]; omega
 | fin z => simp only [sg, key, sgn]; (repeat' split) <;> omega
def posS (s : Sp) : Sp := common s ⟨.fin 1, .pi⟩
theorem one_okx {z : Int} (h1 : -10 ≤ z) (h2 : z ≤ 10) : okx C (.fin z) := by have := C_gt; simp only [okx]; omega
theorem posS_ok {s : Sp} (h : oks C s) : oks C (posS s) := common_ok h ⟨one_okx (by decide) (by decide), trivial⟩
theorem emp_one (v : X) : emp (one v) = false := by unfold emp one; simp
theorem hull_emp {s t : Sp} (hs : emp s = false) (ht : emp t = false) : emp (hull s t) = false := by
 unfold hull
 rw [if_neg (by simp [hs]), if_neg (by simp [ht])]
 unfold emp at hs ht ⊢
 simp only [decide_eq_false_iff_not, key_min, key_max] at hs ht ⊢
 omega
theorem non_hull (s : Sp) : hull non s = s := by unfold hull; rw [if_pos emp_non]
end Go.N
namespace Go.N
open Go Go.Q Go.Rx
theorem szK {z : Int} (h : -K < z ∧ z < K) : sz z ≤ 4096 := (sz_K z).2 h
theorem sumI (lf : Nat) (h3 : 200000 ≤ lf) {x y : Int} (hx : -K < x ∧ x < K) (hy : -K < y ∧ y < K) : surveyorref01_Sum.f lf (bs (Lib.itoa x)) (bs (Lib.itoa y)) = some (bs (Lib.itoa (x + y)), ()) := by
 have := szK hx
 have := szK hy
 exact sum_ref lf h3 (by omega) (by omega)
theorem diffI (lf : Nat) (h3 : 200000 ≤ lf) {x y : Int} (hx : -K < x ∧ x < K) (hy : -K < y ∧ y < K) : surveyorref01_Diff.f lf (bs (Lib.itoa x)) (bs (Lib.itoa y)) = some (bs (Lib.itoa (x - y)), ()) := by
 have := szK hx
 have := szK hy
 exact diff_ref lf h3 (by omega) (by omega)
theorem CK {z : Int} (h : -C < z ∧ z < C) : -K < z ∧ z < K := by have := C_lt_K; omega
def negS (s : Sp) : Sp := common s ⟨.ni, .fin (-1)⟩
def zerS (s : Sp) : Sp := common s ⟨.fin 0, .fin 0⟩
theorem hullNE {s t : Sp} (hs : emp s = false) (ht : emp t = false) : hull s t = ⟨xmin s.lo t.lo, xmax s.hi t.hi⟩ := by
 unfold hull; rw [if_neg (by simp [hs]), if_neg (by simp [ht])]
theorem sgn_lt0 (z : Int) : decide (sgn z < 0) = decide (z < 0) := by simp only [decide_eq_decide]; unfold sgn; (repeat' split) <;> omega
section
variable (lf : Nat) (h3 : 200000 ≤ lf)
include h3
theorem rng : surveyorref21_Range.f lf (ob none) (ob none) = some (ac (toA ⟨.ni, .pi⟩), ()) := range_f lf h3 none none trivial trivial
end
end Go.N
namespace Go.N
open Go Go.Q Go.Rx
def Big (lf : Nat) : Prop := 2000000000 ≤ lf ∧ K < (lf : Int)
theorem magnitude_ref (lf : Nat) (z : Int) : surveyorref01_Magnitude.f lf (bs (Lib.itoa z)) = some (bs (Lib.itoa (z.natAbs : Int)), ()) := by
 rw [surveyorref01_Magnitude.f, negative_f lf _ (itoa_ne z), bdS]
 simp only
 rw [neg_itoa]
 have e' : Lib.itoa (z.natAbs : Int) = D z.natAbs := by unfold Lib.itoa; rw [if_neg (by omega)]; rfl
 rw [e']
 by_cases hn : z < 0
 ·have e : Lib.itoa z = 45 :: D z.natAbs := by unfold Lib.itoa; rw [if_pos hn]
  rw [decide_eq_true hn, brT, e, sCut_from (45 :: D z.natAbs) 1 1 rfl (by simp), bdS]
  rfl
 ·have e : Lib.itoa z = D z.natAbs := by unfold Lib.itoa; rw [if_neg hn]; congr 1; omega
  rw [decide_eq_false hn, brF, e]
theorem i0' : Lib.itoa 0 = [48] := by unfold Lib.itoa; rw [if_neg (by omega)]; exact dec_zero
theorem beq0 (z : Int) : ((bs (Lib.itoa z)).toList == (⟨#[48]⟩ : ByteArray).toList) = decide (z = 0) := by
 rw [show (⟨#[48]⟩ : ByteArray) = bs [48] from rfl, beq_bs, ← i0']
 simp only [decide_eq_decide]
 exact ⟨fun e => itoa_inj e, fun e => by rw [e]⟩
end Go.N
namespace Go.N
open Go Go.Q Go.Rx
def ckc (em : Bool) (l h : List UInt8) : Int :=
 if em = true then (if l ≠ [] ∨ h ≠ [] then 3 else 0) else if num l ≠ 0 then num l else if num h ≠ 0 then num h else if iv l < 0 ∨ (iv l ≠ 0 ∧ (iv h < 0 ∨ ¬ iv h < iv l)) then 2 else 0
theorem num22 (lf : Nat) (l : List UInt8) (hl : l.length ≤ 9223372036854775807) (hf : l.length ≤ lf) : surveyorref22_number.f lf (bs l) = some (num l, ()) := by
 rw [surveyorref22_number.f, form_f lf l hl hf, bdS]
 unfold num chk
 cases hc : can l with
 | false => simp [brT]
 | true =>
  simp only [Bool.not_true, brF, if_true]
  rw [rDigits_f lf l (can_parts hc).2.2 hl, bdS]
  by_cases h : nlen l > 100
  ·rw [decide_eq_true (by omega), brT]
   by_cases h2 : nlen l > 4096
   ·rw [if_pos h2]; rfl
   ·rw [if_neg h2, if_neg (by simp), if_pos h]
  ·rw [decide_eq_false (by omega), brF, if_neg (show ¬ nlen l > 4096 by omega), if_neg (by simp), if_neg h]
theorem long_f (lf : Nat) (l : List UInt8) (hl : l.length ≤ 9223372036854775807) : congruence_long.f lf (bs l) = some (decide (nlen l > 100), ()) := by
 have := nlen_le l
 rw [congruence_long.f, trimPrefix_f, bdS, bs_size]
 congr 2
 simp only [decide_eq_decide]; unfold nlen; omega
theorem numC (lf : Nat) (l : List UInt8) (hl : l.length ≤ 9223372036854775807) : congruence_number.f lf (bs l) = some (num l, ()) := by
 rw [congruence_number.f, check_f lf l hl, bdS]
 simp only [long_f lf l hl, bdS]
 unfold num
 by_cases h : chk l = 0
 ·rw [h]
  simp only [show ((0 : Int) == 10) = false from rfl, brF, BEq.rfl, brT, bne_self_eq_false, ne_eq, not_true, if_false]
  by_cases h2 : nlen l > 100
  ·rw [decide_eq_true h2, brT, if_pos h2]
  ·rw [decide_eq_false h2, brF, if_neg h2]
 ·rw [if_pos h, show (chk l == 0) = false from beq_eq_false_iff_ne.2 h, brF, bneT h, brT]
  by_cases h2 : chk l = 10
  ·rw [h2, BEq.rfl, brT]
  ·rw [show (chk l == 10) = false from beq_eq_false_iff_ne.2 h2, brF]
theorem less_c (lf : Nat) (l m : List UInt8) (h1 : chk l = 0) (h2 : chk m = 0) (h3 : 200000 ≤ lf) : congruence_less.f lf (bs l) (bs m) = some (decide (iv l < iv m), ()) := by
 rw [congruence_less.f, compare_f lf l m h1 h2 h3, bdS]
 simp only
 rw [congruence_sure_int.f, bdS]
 congr 2
 simp only [decide_eq_decide]; unfold sgn; (repeat' split) <;> omega
theorem ckc_f (lf : Nat) (h3 : 200000 ≤ lf) (em : Bool) (l h : List UInt8) (hl : l.length ≤ 9223372036854775807) (hh : h.length ≤ 9223372036854775807) : congruence_Check.f lf (em, bs l, bs h, ()) = some (ckc em l h, ()) := by
 rw [congruence_Check.f]
 simp only [e0, beq_bs, numC lf l hl, numC lf h hh, bdS]
 unfold ckc
 cases em with
 | true =>
  rw [brT, if_pos rfl]
  by_cases c1 : l = [] <;> by_cases c2 : h = [] <;> simp [c1, c2, brT, brF]
 | false =>
  rw [brF, if_neg (by simp)]
  by_cases c1 : num l = 0
  ·rw [c1, bne_self_eq_false, brF, if_neg (by simp)]
   by_cases c2 : num h = 0
   ·rw [c2, bne_self_eq_false, brF, if_neg (by simp)]
    have k1 := num_chk c1
    have k2 := num_chk c2
    have z : (⟨#[48]⟩ : ByteArray) = bs [48] := rfl
    rw [z, less_c lf l [48] k1 chk48 h3, bdS, less_c lf h [48] k2 chk48 h3, less_c lf h l k2 k1 h3, iv48]
    simp only [bdS]
    have e : l = [48] ↔ iv l = 0 := (iv_zero (chk_zero.1 k1).1).symm
    by_cases a : iv l < 0
    ·rw [decide_eq_true a, brT, if_pos (.inl a)]
    ·rw [decide_eq_false a, brF]
     by_cases b : iv l = 0
     ·rw [decide_eq_true (e.2 b), Bool.not_true, brF, if_neg (by omega)]
     ·rw [decide_eq_false (fun x => b (e.1 x)), Bool.not_false, brT]
      by_cases c : iv h < 0
      ·rw [decide_eq_true c, brT, if_pos (.inr ⟨b, .inl c⟩)]
      ·rw [decide_eq_false c, brF]
       by_cases d : iv h < iv l
       ·rw [decide_eq_true d, Bool.not_true, brF, if_neg (by omega)]
       ·rw [decide_eq_false d, Bool.not_false, brT, if_pos (.inr ⟨b, .inr d⟩)]
   ·rw [bneT c2, brT, if_pos c2]
  ·rw [bneT c1, brT, if_pos c1]
theorem ckc_ref (lf : Nat) (h3 : 200000 ≤ lf) (em : Bool) (l h : List UInt8) (hl : l.length ≤ 9223372036854775807) (hh : h.length ≤ 9223372036854775807) (fl : l.length ≤ lf) (fh : h.length ≤ lf) : surveyorref22_Check.f lf (em, bs l, bs h, ()) = some (ckc em l h, ()) := by
 rw [surveyorref22_Check.f]
 simp only [e0, beq_bs, num22 lf l hl fl, num22 lf h hh fh, bdS]
 unfold ckc
 cases em with
 | true =>
  rw [brT, if_pos rfl]
  by_cases c1 : l = [] <;> by_cases c2 : h = [] <;> simp [c1, c2, brT, brF]
 | false =>
  rw [brF, if_neg (by simp)]
  by_cases c1 : num l = 0
  ·rw [c1, bne_self_eq_false, brF, if_neg (by simp)]
   by_cases c2 : num h = 0
   ·rw [c2, bne_self_eq_false, brF, if_neg (by simp)]
    have k1 := num_chk c1
    have k2 := num_chk c2
    have l1 := num_len c1
    have l2 := num_len c2
    have z : (⟨#[48]⟩ : ByteArray) = bs [48] := rfl
    rw [sign_ref lf l (chk_zero.1 k1).1, bdS, sign_ref lf h (chk_zero.1 k2).1, less_f lf h l (chk_zero.1 k2).1 (chk_zero.1 k1).1 (by omega) (by omega) h3]
    simp only [bdS, sgn_lt0]
    have e : l = [48] ↔ iv l = 0 := (iv_zero (chk_zero.1 k1).1).symm
    by_cases a : iv l < 0
    ·rw [decide_eq_true a, brT, if_pos (.inl a)]
    ·rw [decide_eq_false a, brF]
     by_cases b : iv l = 0
     ·rw [decide_eq_true (e.2 b), Bool.not_true, brF, if_neg (by omega)]
     ·rw [decide_eq_false (fun x => b (e.1 x)), Bool.not_false, brT]
      by_cases c : iv h < 0
      ·rw [decide_eq_true c, brT, if_pos (.inr ⟨b, .inl c⟩)]
      ·rw [decide_eq_false c, brF]
       by_cases d : iv h < iv l
       ·rw [decide_eq_true d, Bool.not_true, brF, if_neg (by omega)]
       ·rw [decide_eq_false d, Bool.not_false, brT, if_pos (.inr ⟨b, .inr d⟩)]
   ·rw [bneT c2, brT, if_pos c2]
  ·rw [bneT c1, brT, if_pos c1]
structure Cg where
 em : Bool
 m : Int
 r : Int
deriving DecidableEq
def cc (c : Cg) : IV := if c.em = true then (true, bs [], bs [], ()) else (false, bs (Lib.itoa c.m), bs (Lib.itoa c.r), ())
structure WfC (c : Cg) : Prop where
 m : -C < c.m ∧ c.m < C
 r : -C < c.r ∧ c.r < C
 pos : 0 ≤ c.m
 rng : c.m ≠ 0 → 0 ≤ c.r ∧ c.r < c.m
def Ec : Cg := ⟨true, 0, 0⟩
def topC : Cg := ⟨false, 1, 0⟩
theorem ckc_wf {em : Bool} {l h : List UInt8} (hc : ckc em l h = 0) : ∃ c : Cg, ((em, bs l, bs h, ()) : IV) = cc c ∧ WfC c := by
 have hC := C_gt
 unfold ckc at hc
 cases em with
 | true =>
  rw [if_pos rfl] at hc
  have : ¬ (l ≠ [] ∨ h ≠ []) := fun x => by rw [if_pos x] at hc; cases hc
  have l0 : l = [] := by simpa using fun x => this (.inl x)
  have h0 : h = [] := by simpa using fun x => this (.inr x)
  subst l0 h0
  exact ⟨Ec, rfl, ⟨by simp only [Ec]; omega, by simp only [Ec]; omega, by simp [Ec], fun x => absurd rfl x⟩⟩
 | false =>
  rw [if_neg (by simp)] at hc
  by_cases c1 : num l = 0
  ·rw [if_neg (by simp [c1])] at hc
   by_cases c2 : num h = 0
   ·rw [if_neg (by simp [c2])] at hc
    have n : ¬ (iv l < 0 ∨ (iv l ≠ 0 ∧ (iv h < 0 ∨ ¬ iv h < iv l))) := fun x => by rw [if_pos x] at hc; cases hc
    have i1 := itoa_iv (num_zero.1 c1).1
    have i2 := itoa_iv (num_zero.1 c2).1
    refine ⟨⟨false, iv l, iv h⟩, by unfold cc; rw [if_neg (by simp)]; simp only; rw [← i1, ← i2], ?_⟩
    rw [i1, num_itoa] at c1
    rw [i2, num_itoa] at c2
    exact ⟨c1, c2, by simp only; omega, fun x => by simp only at x ⊢; omega⟩
   ·rw [if_pos c2] at hc; exact absurd hc c2
  ·rw [if_pos c1] at hc; exact absurd hc c1
def clsF (m r : Int) : Cg :=
 if sz (m.natAbs : Int) > 100 ∨ sz (if m = 0 then r else r.fmod (m.natAbs : Int)) > 100 then topC else ⟨false, (m.natAbs : Int), if m = 0 then r else r.fmod (m.natAbs : Int)⟩
theorem top_c : ((false, (⟨#[49]⟩ : ByteArray), (⟨#[48]⟩ : ByteArray), ()) : IV) = cc topC := by
 unfold cc topC; rw [if_neg (by simp)]; simp only; rw [i1, i0]
theorem rest_K {x m : Int} (hx : -K < x ∧ x < K) (hm : -K < m ∧ m < K) (h0 : m ≠ 0) : -K < x.fmod m ∧ x.fmod m < K := by
 have := fmod_abs (x := x) h0
 omega
theorem digitsI (lf : Nat) {z : Int} (hz : -K < z ∧ z < K) : surveyorref01_Digits.f lf (bs (Lib.itoa z)) = some ((sz z : Int), ()) := by
 have := okb_len hz
 exact rDigits_f lf _ (itoa_ne z) (by omega)
theorem gt100 (n : Nat) : decide (((n : Nat) : Int) > 100) = decide (n > 100) := by simp only [decide_eq_decide]; omega
theorem class_ref (lf : Nat) (h3 : 200000 ≤ lf) {m r : Int} (hm : -K < m ∧ m < K) (hr : -K < r ∧ r < K) : surveyorref22_Class.f lf (bs (Lib.itoa m)) (bs (Lib.itoa r)) = some (cc (clsF m r), ()) := by
 have ha : -K < (m.natAbs : Int) ∧ (m.natAbs : Int) < K := by omega
 rw [surveyorref22_Class.f, magnitude_ref, bdS]
 simp only [beq0, digitsI lf ha, bdS, surveyorref22_Top.f, top_c, gt100]
 unfold clsF
 by_cases h : m = 0
 ·subst h
  simp only [digitsI lf hr, bdS, gt100]
  rw [decide_eq_true (by trivial), Bool.not_true, brF]
  by_cases c1 : sz ((0 : Int).natAbs : Int) > 100
  ·rw [decide_eq_true c1, brT, if_pos (.inl c1)]
  ·rw [decide_eq_false c1, brF]
   by_cases c2 : sz r > 100
   ·rw [decide_eq_true c2, brT, if_pos (.inr (by rw [if_pos trivial]; exact c2))]
   ·rw [decide_eq_false c2, brF, if_neg (by rw [if_pos trivial]; exact fun x => x.elim c1 c2), if_pos trivial]
    unfold cc; rw [if_neg (by simp)]
 ·have h' : (m.natAbs : Int) ≠ 0 := by omega
  have rk := rest_K hr ha h'
  have s1 := szK hr
  have s2 := szK ha
  simp only [rest_ref lf h3 (x := r) (y := (m.natAbs : Int)) (by omega) (by omega) h', bdS, digitsI lf rk, gt100]
  rw [decide_eq_false h, Bool.not_false, brT]
  by_cases c1 : sz (m.natAbs : Int) > 100
  ·rw [decide_eq_true c1, brT, if_pos (.inl c1)]
  ·rw [decide_eq_false c1, brF]
   by_cases c2 : sz (r.fmod (m.natAbs : Int)) > 100
   ·rw [decide_eq_true c2, brT, if_pos (.inr (by rw [if_neg h]; exact c2))]
   ·rw [decide_eq_false c2, brF, if_neg (by rw [if_neg h]; exact fun x => x.elim c1 c2), if_neg h]
    unfold cc; rw [if_neg (by simp)]
def dvd' (m a : Int) : Bool := if m = 0 then decide (a = 0) else decide (a.fmod m = 0)
theorem divides_ref (lf : Nat) (h3 : 200000 ≤ lf) {m a : Int} (hm : sz m ≤ 20000) (ha : sz a ≤ 20000) : surveyorref22_Divides.f lf (bs (Lib.itoa m)) (bs (Lib.itoa a)) = some (dvd' m a, ()) := by
 rw [surveyorref22_Divides.f, beq0]
 unfold dvd'
 by_cases h : m = 0
 ·rw [decide_eq_true h, brT, if_pos h, beq0]
 ·rw [decide_eq_false h, brF, if_neg h, rest_ref lf h3 ha hm h, bdS, beq0]
end Go.N
namespace Go.N
open Go Go.Q Go.Rx
section
variable (lf : Nat) (hb : Big lf)
include hb
theorem csub_f {x y : Int} (hx : -K < x ∧ x < K) (hy : -K < y ∧ y < K) (h : -K < x - y ∧ x - y < K) : congruence_sub.f lf (bs (Lib.itoa x)) (bs (Lib.itoa y)) = some (bs (Lib.itoa (x - y)), ()) := by
 have := (sz_K (x - y)).2 h
 rw [congruence_sub.f, sub_f lf _ _ (chkK hx) (chkK hy) (by have := hb.1; omega), iv_itoa, iv_itoa, dlen_sz, if_neg (by omega), bdS, api_Int.f, bdS]
end
theorem cc_ne {c : Cg} (h : c.em = false) : cc c = (false, bs (Lib.itoa c.m), bs (Lib.itoa c.r), ()) := by unfold cc; rw [if_neg (by simp [h])]
theorem cc_em {c : Cg} (h : c.em = true) : cc c = (true, bs [], bs [], ()) := by unfold cc; rw [if_pos h]
theorem wf_ckc {c : Cg} (h : WfC c) : ∃ (l m : List UInt8), cc c = (c.em, bs l, bs m, ()) ∧ ckc c.em l m = 0 ∧ l.length ≤ 101 ∧ m.length ≤ 101 := by
 have hK := C_lt_K
 cases e : c.em with
 | true => exact ⟨[], [], cc_em e, by simp [ckc], by simp, by simp⟩
 | false =>
  have n1 := (num_itoa c.m).2 h.m
  have n2 := (num_itoa c.r).2 h.r
  refine ⟨Lib.itoa c.m, Lib.itoa c.r, cc_ne e, ?_, num_len n1, num_len n2⟩
  unfold ckc
  rw [if_neg (by simp), n1, n2, iv_itoa, iv_itoa, if_neg (by simp), if_neg (by simp), if_neg]
  have a := h.pos
  have b := h.rng
  intro x
  rcases x with x | ⟨x, y⟩
  ·omega
  ·have := b x; omega
section
variable (lf : Nat) (hb : Big lf) {c d : Cg} (hc : WfC c) (hd : WfC d)
include hb hc
theorem ccheck : congruence_Check.f lf (cc c) = some (0, ()) := by
 obtain ⟨l, m, e, h, a, b⟩ := wf_ckc hc
 rw [e, ckc_f lf (by have := hb.1; omega) _ _ _ (by omega) (by omega), h]
theorem rcheck : surveyorref22_Check.f lf (cc c) = some (0, ()) := by
 obtain ⟨l, m, e, h, a, b⟩ := wf_ckc hc
 have := hb.1
 rw [e, ckc_ref lf (by omega) _ _ _ (by omega) (by omega) (by omega) (by omega), h]
include hd
end
end Go.N
namespace Go.N
open Go Go.Q Go.Rx
section
variable (lf : Nat) (hb : Big lf) {c d : Cg} (hc : WfC c) (hd : WfC d)
include hb hc hd
end
end Go.N
namespace Go.N
open Go Go.Q Go.Rx
section
variable (lf : Nat) (hb : Big lf) {c d : Cg} (hc : WfC c) (hd : WfC d)
include hb hc hd
end
end Go.N
namespace Go.N
open Go Go.Q Go.Rx
theorem clsF_wf {m r : Int} : WfC (clsF m r) := by
 have hC := C_gt
 unfold clsF
 by_cases h : sz (m.natAbs : Int) > 100 ∨ sz (if m = 0 then r else r.fmod (m.natAbs : Int)) > 100
 ·rw [if_pos h]
  exact ⟨by simp only [topC]; omega, by simp only [topC]; omega, by simp [topC], fun _ => by simp [topC]⟩
 ·rw [if_neg h]
  have h1 := (sz_C (m.natAbs : Int)).1 (by omega)
  have h2 := (sz_C (if m = 0 then r else r.fmod (m.natAbs : Int))).1 (by omega)
  refine ⟨h1, h2, by simp only; omega, fun x => ?_⟩
  simp only at x ⊢
  have h0 : m ≠ 0 := by omega
  rw [if_neg h0]
  exact ⟨Int.fmod_nonneg_of_pos r (by omega), Int.fmod_lt_of_pos r (by omega)⟩
theorem Ec_wf : WfC Ec := by
 have hC := C_gt
 exact ⟨by simp only [Ec]; omega, by simp only [Ec]; omega, by simp [Ec], fun x => absurd rfl x⟩
def inC (c : Cg) (a : Int) : Bool := !c.em && dvd' c.m (a - c.r)
section
variable (lf : Nat) (hb : Big lf) {c d : Cg} (hc : WfC c) (hd : WfC d)
include hb hc hd
end
theorem in_def {c : Cg} (hc : WfC c) (h : c.em = false) (a : Int) : inC c a = if c.m = 0 then decide (a = c.r) else decide (a.fmod c.m = c.r) := by
 unfold inC dvd'
 rw [h, Bool.not_false, Bool.true_and]
 by_cases z : c.m = 0
 ·rw [if_pos z, if_pos z]; simp only [decide_eq_decide]; omega
 ·rw [if_neg z, if_neg z]
  have r := hc.rng z
  have p : 0 < c.m := by have := hc.pos; omega
  simp only [decide_eq_decide]
  have m1 := Int.mul_fdiv_add_fmod a c.m
  have m2 := Int.mul_fdiv_add_fmod (a - c.r) c.m
  constructor
  ·intro e
   exact ((fdiv_unique (x := a) (y := c.m) (q := (a - c.r).fdiv c.m) (r := c.r) (by omega) (.inl r)).2).symm
  ·intro e
   exact ((fdiv_unique (x := a - c.r) (y := c.m) (q := a.fdiv c.m) (r := 0) (by omega) (.inl (by omega))).2).symm
section
variable (lf : Nat) (hb : Big lf) {c : Cg} (hc : WfC c)
include hb hc
theorem holds_c {a : Int} (ha : -K < a ∧ a < K) : congruence_Holds.f lf (cc c) (bs (Lib.itoa a)) = some (inC c a, 0, ()) := by
 have hlf := hb.1
 have hl := okb_len ha
 have bm := CK hc.m
 rw [congruence_Holds.f, ccheck lf hb hc, bdS]
 simp only [bne_self_eq_false, brF, check_f lf (Lib.itoa a) (by omega), chkK ha, bdS]
 cases ec : c.em with
 | true => rw [cc_em ec]; simp only [brT, inC, ec, Bool.not_true, Bool.false_and]
 | false =>
  rw [in_def hc ec, cc_ne ec]
  simp only [brF, beq0]
  have bq : ∀ x y : Int, ((bs (Lib.itoa x)).toList == (bs (Lib.itoa y)).toList) = decide (x = y) := fun x y => by
   rw [beq_bs]; simp only [decide_eq_decide]; exact ⟨fun e => itoa_inj e, fun e => by rw [e]⟩
  by_cases z : c.m = 0
  ·rw [decide_eq_true z, brT, if_pos z, bq]
  ·rw [decide_eq_false z, brF, if_neg z, rem_small lf hlf ha bm z, bdS, api_Int.f, bdS, bq]
theorem in_r {a : Int} (ha : -Dd < a ∧ a < Dd) : surveyorref22_In.f lf (cc c) (bs (Lib.itoa a)) = some (inC c a, ()) := by
 have h3 : 200000 ≤ lf := by have := hb.1; omega
 have hD := DD_K
 have hC := C_gt
 have hCD := C_lt_Dd
 have h4 : 0 ≤ Dd * Dd := Int.mul_nonneg (by omega) (by omega)
 have bm := hc.m
 have br' := hc.r
 rw [surveyorref22_In.f]
 unfold inC
 cases ec : c.em with
 | true => rw [cc_em ec]; simp only [Bool.not_true, brF, Bool.false_and]
 | false =>
  rw [cc_ne ec]
  have s1 := szK (CK bm)
  have s2 := szK (z := a - c.r) (by omega)
  simp only [Bool.not_false, brT, Bool.true_and, diffI lf h3 (x := a) (y := c.r) (by omega) (by omega), bdS, divides_ref lf h3 (m := c.m) (a := a - c.r) (by omega) (by omega)]
end
end Go.N
namespace Go.N
open Go Go.Q Go.Rx
def negC (c : Cg) : Cg := if c.em = true then Ec else clsF c.m (-c.r)
theorem negC_wf {c : Cg} : WfC (negC c) := by unfold negC; split; exact Ec_wf; exact clsF_wf
section
variable (lf : Nat) (hb : Big lf) {c : Cg} (hc : WfC c)
include hb hc
theorem negative_c : surveyorref22_Negative.f lf (cc c) = some (cc (negC c), ()) := by
 have h3 : 200000 ≤ lf := by have := hb.1; omega
 have bm := CK hc.m
 have br' := CK hc.r
 rw [surveyorref22_Negative.f]
 unfold negC
 cases ec : c.em with
 | true => rw [cc_em ec]; simp only [brT, if_true]; rfl
 | false =>
  rw [cc_ne ec]
  simp only [brF, if_false, Bool.false_eq_true, negated_ref lf br', bdS, class_ref lf h3 bm (r := -c.r) (by omega)]
end
end Go.N
namespace Go.N
open Go Go.Q Go.Rx
def aboveC (c : Cg) (a : Int) : Option Int := if c.m = 0 then (if c.r < a then none else some c.r) else some (a + (c.r - a).fmod c.m)
theorem fmod_sub {x y m : Int} (h : 0 < m) : (x.fmod m - y.fmod m).fmod m = (x - y).fmod m := by
 rw [Int.fmod_eq_emod_of_nonneg _ (Int.le_of_lt h), Int.fmod_eq_emod_of_nonneg _ (Int.le_of_lt h), Int.fmod_eq_emod_of_nonneg _ (Int.le_of_lt h), Int.fmod_eq_emod_of_nonneg _ (Int.le_of_lt h), ← Int.sub_emod]
section
variable (lf : Nat) (hb : Big lf) {c : Cg} (hc : WfC c) (he : c.em = false) {a : Int} (ha : -Dd < a ∧ a < Dd)
include hb hc he ha
theorem least_c : congruence_Least.f lf (cc c) (bs (Lib.itoa a)) = some (match aboveC c a with
  | none => (bs [], 6, ())
  | some v => (bs (Lib.itoa v), 0, ())) := by
 have hlf := hb.1
 have hD := DD_K
 have hC := C_gt
 have hCD := C_lt_Dd
 have h4 : 0 ≤ Dd * Dd := Int.mul_nonneg (by omega) (by omega)
 have ka : -K < a ∧ a < K := by omega
 have hl := okb_len ka
 have m1 := hc.m
 have r1 := hc.r
 have bm := CK hc.m
 have br' := CK hc.r
 rw [congruence_Least.f, ccheck lf hb hc, bdS]
 simp only [bne_self_eq_false, brF, check_f lf (Lib.itoa a) (by omega), chkK ka, bdS]
 rw [cc_ne he]
 simp only [brF, beq0]
 unfold aboveC
 by_cases z : c.m = 0
 ·rw [decide_eq_true z, Bool.not_true, brF, if_pos z, less_c lf _ _ (chkK br') (chkK ka) (by omega), iv_itoa, iv_itoa, bdS]
  simp only
  by_cases h : c.r < a
  ·rw [decide_eq_true h, brT, if_pos h]
  ·rw [decide_eq_false h, brF, if_neg h]
 ·have p : 0 < c.m := by have := hc.pos; omega
  have k1 := rest_K br' bm z
  have k2 := rest_K ka bm z
  have g1 := Int.fmod_nonneg_of_pos c.r p
  have g2 := Int.fmod_lt_of_pos c.r p
  have g3 := Int.fmod_nonneg_of_pos a p
  have g4 := Int.fmod_lt_of_pos a p
  have k3 : -K < c.r.fmod c.m - a.fmod c.m ∧ c.r.fmod c.m - a.fmod c.m < K := by omega
  have g5 := Int.fmod_nonneg_of_pos (c.r - a) p
  have g6 := Int.fmod_lt_of_pos (c.r - a) p
  rw [decide_eq_false z, Bool.not_false, brT, if_neg z, congruence_modulo.f, rem_small lf hlf br' bm z, bdS]
  simp only [bne_self_eq_false, brF, rem_small lf hlf ka bm z, bdS, csub_f lf hb k1 k2 k3, rem_small lf hlf k3 bm z, fmod_sub p, add_small lf (by omega) ka (y := (c.r - a).fmod c.m) (by omega) (by omega)]
theorem above_c : surveyorref22_Above.f lf (cc c) (bs (Lib.itoa a)) = some (match aboveC c a with
  | none => (bs [], false, ())
  | some v => (bs (Lib.itoa v), true, ())) := by
 have h3 : 200000 ≤ lf := by have := hb.1; omega
 have hD := DD_K
 have hC := C_gt
 have hCD := C_lt_Dd
 have h4 : 0 ≤ Dd * Dd := Int.mul_nonneg (by omega) (by omega)
 have ka : -K < a ∧ a < K := by omega
 have m1 := hc.m
 have r1 := hc.r
 have bm := CK hc.m
 have br' := CK hc.r
 rw [surveyorref22_Above.f, cc_ne he]
 simp only [beq0]
 unfold aboveC
 by_cases z : c.m = 0
 ·rw [decide_eq_true z, brT, if_pos z, lessI lf h3 br' ka, bdS]
  simp only
  by_cases h : c.r < a
  ·rw [decide_eq_true h, brT, if_pos h]
  ·rw [decide_eq_false h, brF, if_neg h]
 ·have p : 0 < c.m := by have := hc.pos; omega
  have g5 := Int.fmod_nonneg_of_pos (c.r - a) p
  have g6 := Int.fmod_lt_of_pos (c.r - a) p
  have kd : -K < c.r - a ∧ c.r - a < K := by omega
  have s1 := szK kd
  have s2 := szK bm
  simp only [decide_eq_false z, brF, if_neg z, diffI lf h3 br' ka, bdS, rest_ref lf h3 (x := c.r - a) (y := c.m) (by omega) (by omega) z, sumI lf h3 ka (y := (c.r - a).fmod c.m) (by omega)]
end
end Go.N
namespace Go.N
open Go Go.Q Go.Rx
def belowC (c : Cg) (a : Int) : Option Int := if c.m = 0 then (if a < c.r then none else some c.r) else some (a - (a - c.r).fmod c.m)
theorem clsF_in {m r : Int} (h0 : 0 ≤ m) (hm : -C < m ∧ m < C) (hr : -C < r ∧ r < C) : clsF m r = ⟨false, m, if m = 0 then r else r.fmod m⟩ := by
 have e : (m.natAbs : Int) = m := by omega
 unfold clsF
 rw [e]
 have s1 := (sz_C m).2 hm
 have s2 : sz (if m = 0 then r else r.fmod m) ≤ 100 := by
  apply (sz_C _).2
  split
  ·exact hr
  ·have a := Int.fmod_nonneg_of_pos r (show 0 < m by omega)
   have b := Int.fmod_lt_of_pos r (show 0 < m by omega)
   omega
 rw [if_neg (by omega)]
theorem below_neg {c : Cg} (hc : WfC c) (he : c.em = false) (a : Int) : belowC c a = (aboveC (negC c) (-a)).map fun v => -v := by
 have e : negC c = ⟨false, c.m, if c.m = 0 then -c.r else (-c.r).fmod c.m⟩ := by
  unfold negC
  rw [if_neg (by simp [he])]
  exact clsF_in hc.pos hc.m (by have := hc.r; omega)
 rw [e]
 unfold belowC aboveC
 simp only
 by_cases z : c.m = 0
 ·simp only [z, if_true]
  by_cases h : a < c.r
  ·rw [if_pos h, if_pos (by omega)]; rfl
  ·rw [if_neg h, if_neg (by omega)]; simp
 ·have p : 0 < c.m := by have := hc.pos; omega
  simp only [if_neg z, Option.map_some]
  have k : ((-c.r).fmod c.m - -a).fmod c.m = (a - c.r).fmod c.m := by
   have h1 := fmod_sub (x := (-c.r).fmod c.m) (y := -a) p
   have h2 := fmod_sub (x := -c.r) (y := -a) p
   have h3 : ((-c.r).fmod c.m).fmod c.m = (-c.r).fmod c.m := by
    rw [Int.fmod_eq_emod_of_nonneg _ (Int.le_of_lt p), Int.fmod_eq_emod_of_nonneg _ (Int.le_of_lt p), Int.emod_emod]
   rw [← h1, h3, h2]
   congr 1; omega
  rw [k]
  congr 1; omega
section
variable (lf : Nat) (hb : Big lf) {c : Cg} (hc : WfC c) (he : c.em = false) {a : Int} (ha : -Dd < a ∧ a < Dd)
include hb hc he ha
theorem below_c : surveyorref22_Below.f lf (cc c) (bs (Lib.itoa a)) = some (match belowC c a with
  | none => (bs [], false, ())
  | some v => (bs (Lib.itoa v), true, ())) := by
 have hD := DD_K
 have hC := C_gt
 have hCD := C_lt_Dd
 have h4 : 0 ≤ Dd * Dd := Int.mul_nonneg (by omega) (by omega)
 have ne : (negC c).em = false := by
  have : negC c = ⟨false, c.m, if c.m = 0 then -c.r else (-c.r).fmod c.m⟩ := by
   unfold negC
   rw [if_neg (by simp [he])]
   exact clsF_in hc.pos hc.m (by have := hc.r; omega)
  rw [this]
 have ab := above_c lf hb negC_wf ne (a := -a) (by omega)
 rw [surveyorref22_Below.f, negative_c lf hb hc, bdS, negated_ref lf (z := a) (by omega), bdS, ab, bdS, below_neg hc he]
 cases h : aboveC (negC c) (-a) with
 | none => simp only [Bool.not_false, brT, Option.map_none]
 | some v =>
  have kv : -K < v ∧ v < K := by
   unfold aboveC at h
   have w := negC_wf (c := c)
   have m1 := w.m
   have r1 := w.r
   split at h
   ·split at h
    ·cases h
    ·injection h with h; omega
   ·rename_i z
    have p : 0 < (negC c).m := by have := w.pos; omega
    have g5 := Int.fmod_nonneg_of_pos ((negC c).r - -a) p
    have g6 := Int.fmod_lt_of_pos ((negC c).r - -a) p
    injection h with h
    omega
  simp only [Bool.not_true, brF, Option.map_some, negated_ref lf kv, bdS]
theorem greatest_c : congruence_Greatest.f lf (cc c) (bs (Lib.itoa a)) = some (match belowC c a with
  | none => (bs [], 6, ())
  | some v => (bs (Lib.itoa v), 0, ())) := by
 have hlf := hb.1
 have hD := DD_K
 have hC := C_gt
 have hCD := C_lt_Dd
 have h4 : 0 ≤ Dd * Dd := Int.mul_nonneg (by omega) (by omega)
 have ka : -K < a ∧ a < K := by omega
 have hl := okb_len ka
 have m1 := hc.m
 have r1 := hc.r
 have bm := CK hc.m
 have br' := CK hc.r
 rw [congruence_Greatest.f, ccheck lf hb hc, bdS]
 simp only [bne_self_eq_false, brF, check_f lf (Lib.itoa a) (by omega), chkK ka, bdS]
 rw [cc_ne he]
 simp only [brF, beq0]
 unfold belowC
 by_cases z : c.m = 0
 ·rw [decide_eq_true z, Bool.not_true, brF, if_pos z, less_c lf _ _ (chkK ka) (chkK br') (by omega), iv_itoa, iv_itoa, bdS]
  simp only
  by_cases h : a < c.r
  ·rw [decide_eq_true h, brT, if_pos h]
  ·rw [decide_eq_false h, brF, if_neg h]
 ·have p : 0 < c.m := by have := hc.pos; omega
  have k1 := rest_K br' bm z
  have k2 := rest_K ka bm z
  have g1 := Int.fmod_nonneg_of_pos c.r p
  have g2 := Int.fmod_lt_of_pos c.r p
  have g3 := Int.fmod_nonneg_of_pos a p
  have g4 := Int.fmod_lt_of_pos a p
  have k3 : -K < a.fmod c.m - c.r.fmod c.m ∧ a.fmod c.m - c.r.fmod c.m < K := by omega
  have g5 := Int.fmod_nonneg_of_pos (a - c.r) p
  have g6 := Int.fmod_lt_of_pos (a - c.r) p
  have kf : -K < (a - c.r).fmod c.m ∧ (a - c.r).fmod c.m < K := by omega
  have kd : -K < a - (a - c.r).fmod c.m ∧ a - (a - c.r).fmod c.m < K := by omega
  have sd := (sz_K _).2 kd
  have sb := sub_f lf _ _ (chkK ka) (chkK kf) (by omega)
  rw [iv_itoa, iv_itoa, dlen_sz, if_neg (by omega)] at sb
  rw [decide_eq_false z, Bool.not_false, brT, if_neg z, congruence_modulo.f, rem_small lf hlf ka bm z, bdS]
  simp only [bne_self_eq_false, brF, rem_small lf hlf br' bm z, bdS, csub_f lf hb k2 k1 k3, rem_small lf hlf k3 bm z, fmod_sub p, sb]
end
end Go.N
namespace Go.N
open Go Go.Q Go.Rx
end Go.N
namespace Go.N
open Go Go.Q Go.Rx
end Go.N
namespace Go.N
open Go Go.Q Go.Rx
abbrev Nb : Type := Bool × (List Int × Unit)
theorem RN.natAbs {p : Nb} {z : Int} {k : Nat} (h : RN p z k) : lv G p.2.1 = (z.natAbs : Int) := by
 have := h.val
 have := lv_nonneg (B := G) (by decide) h.dg
 split at * <;> omega
theorem RN.nil {p : Nb} {k : Nat} (h : RN p 0 k) : p.2.1 = [] := (lv_eq_zero (B := G) (by decide) h.dg h.tr).1 (by rw [h.natAbs]; rfl)
theorem RN.ne {p : Nb} {z : Int} {k : Nat} (h : RN p z k) (h0 : z ≠ 0) : 0 < p.2.1.length := by
 refine List.length_pos_iff.2 fun e => h0 ?_
 have := h.natAbs
 rw [e] at this
 simp only [lv] at this
 omega
section
variable (lf : Nat) (hlf : 2000000000 ≤ lf) {a b : Int} (hb : b < C)
include hlf hb
end
end Go.N
namespace Go.N
open Go Go.Q Go.Rx
structure Vl where
 a : A
 c : Cg
deriving DecidableEq
abbrev VV : Type := IV × (IV × Unit)
def vc (v : Vl) : VV := (ac v.a, cc v.c, ())
def Ev : Vl := ⟨E0, Ec⟩
def onev (z : Int) : Vl := ⟨⟨false, some z, some z⟩, ⟨false, 0, z⟩⟩
def loC (c : Cg) (a : Int) : Int := a + (c.r - a).fmod c.m
def hiC (c : Cg) (a : Int) : Int := a - (a - c.r).fmod c.m
def fin3 (x y : Option Int) (c : Cg) : Vl := match x, y with
 | some x, some y => if y < x then Ev else if x = y then onev x else ⟨⟨false, clip x, clip y⟩, c⟩
 | x, y => ⟨⟨false, x.bind clip, y.bind clip⟩, c⟩
def red (a : A) (c : Cg) : Vl := if a.em = true then Ev else if c.em = true then Ev else if c.m = 0 then (if inS (ofA a) c.r = true then onev c.r else Ev) else fin3 (a.lo.map (loC c)) (a.hi.map (hiC c)) c
def inV (v : Vl) (z : Int) : Bool := inS (ofA v.a) z && inC v.c z
structure WfV (v : Vl) : Prop where
 a : Wf v.a
 c : WfC v.c
 red : red v.a v.c = v
theorem lo_m {c : Cg} (p : 0 < c.m) (a : Int) : a ≤ loC c a ∧ loC c a < a + c.m := by
 have := Int.fmod_nonneg_of_pos (c.r - a) p
 have := Int.fmod_lt_of_pos (c.r - a) p
 unfold loC; omega
theorem hi_m {c : Cg} (p : 0 < c.m) (a : Int) : hiC c a ≤ a ∧ a - c.m < hiC c a := by
 have := Int.fmod_nonneg_of_pos (a - c.r) p
 have := Int.fmod_lt_of_pos (a - c.r) p
 unfold hiC; omega
theorem fmod0 {m a : Int} (p : 0 < m) : a.fmod m = 0 ↔ m ∣ a := by
 rw [Int.fmod_eq_emod_of_nonneg _ (Int.le_of_lt p)]
 exact ⟨Int.dvd_of_emod_eq_zero, Int.emod_eq_zero_of_dvd⟩
theorem fmod_dvd {m : Int} (p : 0 < m) (a : Int) : m ∣ a - a.fmod m := by
 rw [Int.fmod_eq_emod_of_nonneg _ (Int.le_of_lt p)]
 exact Int.dvd_self_sub_emod
theorem in_iff {c : Cg} (he : c.em = false) (hp : 0 ≤ c.m) {z : Int} : inC c z = true ↔ c.m ∣ z - c.r := by
 unfold inC dvd'
 rw [he]
 by_cases h : c.m = 0
 ·rw [if_pos h, h]; simp
 ·rw [if_neg h]
  simp only [Bool.not_false, Bool.true_and, decide_eq_true_eq]
  exact fmod0 (by omega)
theorem lo_in {c : Cg} (p : 0 < c.m) (a : Int) : c.m ∣ loC c a - c.r := by
 obtain ⟨k, hk⟩ := fmod_dvd p (c.r - a)
 exact ⟨-k, by unfold loC; rw [Int.mul_neg, ← hk]; omega⟩
theorem hi_in {c : Cg} (p : 0 < c.m) (a : Int) : c.m ∣ hiC c a - c.r := by
 obtain ⟨k, hk⟩ := fmod_dvd p (a - c.r)
 exact ⟨k, by unfold hiC; rw [← hk]; omega⟩
theorem clip_some {z : Int} (h : -C < z ∧ z < C) : clip z = some z := if_pos h
theorem clip_none {z : Int} (h : ¬ (-C < z ∧ z < C)) : clip z = none := if_neg h
theorem Wf.inS {a : A} (h : Wf a) (he : a.em = false) {z : Int} (hz : -K < z ∧ z < K) : inS (ofA a) z = true ↔ (∀ l, a.lo = some l → l ≤ z) ∧ ∀ u, a.hi = some u → z ≤ u := by
 unfold Go.N.inS ofA
 rw [he, if_neg (by simp)]
 simp only [Bool.and_eq_true, decide_eq_true_eq]
 cases a.lo with
 | none => cases a.hi with
  | none => simp [lox, hix, key]; omega
  | some u => simp [lox, hix, key]; omega
 | some l => cases a.hi with
  | none => simp [lox, hix, key]; omega
  | some u => simp [lox, hix, key]
theorem Ev_wf : Wf Ev.a ∧ WfC Ev.c := ⟨wf_E0, Ec_wf⟩
theorem Ev_red : red Ev.a Ev.c = Ev := if_pos rfl
theorem Ev_V : WfV Ev := ⟨Ev_wf.1, Ev_wf.2, Ev_red⟩
end Go.N
