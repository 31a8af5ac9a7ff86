import Derived.KernelRfl
import Derived.Test.YthfphcemoehllaaGreatDoorChecked
import Derived.ProofKit
import Derived.OpenShut
import Derived.LaidMore
import Derived.Lay
import Derived.Carry
import Derived.SevenTiedAt
import Derived.Stop.Joined
import Derived.Lib.LaidTab
import Derived.LaidSub
import Derived.Test.YthfphcemoehllaaGreatDoorE3
import Derived.Test.YthfphcemoehllaaGreatDoorPaG10
import Derived.Test.YthfphcemoehllaaGreatDoorPaG11
import Derived.Test.YthfphcemoehllaaGreatDoorPaG12
import Derived.Test.YthfphcemoehllaaGreatDoorPaG13
import Derived.Test.YthfphcemoehllaaGreatDoorPaG2
import Derived.Test.YthfphcemoehllaaGreatDoorPaG3
import Derived.Test.YthfphcemoehllaaGreatDoorPaG4
import Derived.Test.YthfphcemoehllaaGreatDoorPaG5
import Derived.Test.YthfphcemoehllaaGreatDoorPaG6
import Derived.Test.YthfphcemoehllaaGreatDoorPaG7
import Derived.Test.YthfphcemoehllaaGreatDoorPaG8
import Derived.Test.YthfphcemoehllaaGreatDoorPaG9
set_option linter.unusedVariables false
set_option linter.unusedSimpArgs false
set_option linter.unusedSectionVars false
/-! # bigint: magnitudes -/
namespace Go.N
open Go Go.Q Go.Rx
set_option linter.unusedVariables false
set_option linter.unusedSimpArgs false

abbrev G : Int := 1000000000
theorem trim_l0 (lf : Nat) : ∀ (l : List Int) (n : Nat), l.length < n → l.length ≤ 1000000 → bigint_trim.l0 lf n l = some ((tr l, ()), ()) := by
  intro l
  refine tr_ind (p := fun l => ∀ n, l.length < n → l.length ≤ 1000000 → bigint_trim.l0 lf n l = some ((tr l, ()), ())) l ?_ ?_ ?_
  · intro n h _
    obtain ⟨m, rfl⟩ := Nat.exists_eq_succ_of_ne_zero (show n ≠ 0 by omega)
    rw [bigint_trim.l0, bigint_trim.r0]
    simp [brI, tr_nil]
  · intro l ih n h hb
    obtain ⟨m, rfl⟩ := Nat.exists_eq_succ_of_ne_zero (show n ≠ 0 by omega)
    rw [List.length_append, List.length_singleton] at h hb
    have e : IntKind.i64.wrap (((l ++ [0]).length : Nat) - 1 : Int) = (l.length : Nat) := by
      rw [List.length_append, List.length_singleton, w64 (by omega) (by omega)]; omega
    rw [bigint_trim.l0, bigint_trim.r0, decide_eq_true (by rw [List.length_append, List.length_singleton]; omega), brT, e, idxL_nat _ _ (by simp), bdS]
    simp only [List.getElem_concat_length, BEq.rfl, brT]
    rw [cutL_to _ _ l.length rfl (by simp), bdS, List.take_left, ih m (by omega) (by omega), tr_snoc0]
  · intro l x hx n h hb
    obtain ⟨m, rfl⟩ := Nat.exists_eq_succ_of_ne_zero (show n ≠ 0 by omega)
    rw [List.length_append, List.length_singleton] at h hb
    have e : IntKind.i64.wrap (((l ++ [x]).length : Nat) - 1 : Int) = (l.length : Nat) := by
      rw [List.length_append, List.length_singleton, w64 (by omega) (by omega)]; omega
    rw [bigint_trim.l0, bigint_trim.r0, decide_eq_true (by rw [List.length_append, List.length_singleton]; omega), brT, e, idxL_nat _ _ (by simp), bdS]
    have : (x == 0) = false := by simpa using hx
    simp only [List.getElem_concat_length, this, brF]
    rw [tr_snoc _ _ hx]
theorem trim_f (lf : Nat) (l : List Int) (h : l.length ≤ lf) (hb : l.length ≤ 1000000) : bigint_trim.f lf l = some (tr l, ()) := by
  rw [bigint_trim.f, trim_l0 lf l (lf + 40) (by omega) hb, bdS]

theorem plus_l0 (lf : Nat) (xs ys : List Int) (N : Nat) (hx : Dg G xs) (hy : Dg G ys) (hN : N ≤ 1000000) : ∀ (k n i : Nat) (c : Int) (out : List Int), i + k = N → out.length = N → 0 ≤ c → c ≤ 1 → k < n →
    bigint_plus.l0 lf xs ys (N : Nat) n c (i : Nat) out = some ((out.take i ++ addL G (xs.drop i) (ys.drop i) c k, ()), ()) := by
  intro k
  induction k with
  | zero =>
    intro n i c out hi ho h0 h1 hn
    obtain ⟨m, rfl⟩ := Nat.exists_eq_succ_of_ne_zero (show n ≠ 0 by omega)
    rw [bigint_plus.l0, bigint_plus.r0, decide_eq_false (by omega), brF, addL, List.append_nil, List.take_of_length_le (by omega)]
  | succ k ih =>
    intro n i c out hi ho h0 h1 hn
    obtain ⟨m, rfl⟩ := Nat.exists_eq_succ_of_ne_zero (show n ≠ 0 by omega)
    have ex : 0 ≤ xs.getD i 0 ∧ xs.getD i 0 < G := hx.getD (by decide) i
    have ey : 0 ≤ ys.getD i 0 ∧ ys.getD i 0 < G := hy.getD (by decide) i
    have fin : ∀ s : Int, s = c + xs.getD i 0 + ys.getD i 0 →
        (bd (iRem s 1000000000) fun r4 => bd (iQuo .i64 s 1000000000) fun r5 => bd (idxB out.length (i : Nat)) fun j6 => bd (upE out j6 fun _ => some r4) fun l7 => bigint_plus.l0 lf xs ys (N : Nat) m r5 (IntKind.i64.wrap ((i : Nat) + 1)) l7) =
        some ((out.take i ++ addL G (xs.drop i) (ys.drop i) c (k + 1), ()), ()) := by
      intro s hs
      simp only [G] at ex ey
      have hs1 : 0 ≤ s := by omega
      have hs2 : s ≤ 2000000000 := by omega
      rw [iRem_nn hs1 (by decide), bdS, iQuo_nn hs1 (by decide) (by omega), bdS, idxB_nat _ _ (by omega), bdS, upE_set _ _ _ (by omega), bdS]
      rw [w64 (by omega) (by omega), show ((i : Nat) : Int) + 1 = ((i + 1 : Nat) : Int) by omega]
      rw [ih m (i + 1) _ _ (by omega) (by rw [List.length_set]; omega) (Int.ediv_nonneg hs1 (by decide)) (by omega) (by omega)]
      rw [take_set _ _ _ (by omega), addL, headD_drop, headD_drop, tail_drop', tail_drop', ← hs]
      simp
    simp only [G] at ex ey
    rw [bigint_plus.l0, bigint_plus.r0, decide_eq_true (by omega), brT]
    by_cases h1x : i < xs.length
    · rw [decide_eq_true (by omega), brT, idxL_nat _ _ h1x, bdS]
      rw [getD_lt _ _ h1x] at ex fin
      rw [w64 (by omega) (by omega)]
      by_cases h1y : i < ys.length
      · rw [decide_eq_true (by omega), brT, idxL_nat _ _ h1y, bdS]
        rw [getD_lt _ _ h1y] at ey fin
        rw [w64 (by omega) (by omega)]
        exact fin _ rfl
      · rw [decide_eq_false (by omega), brF]
        rw [getD_ge _ _ h1y] at fin
        exact fin _ (by omega)
    · rw [decide_eq_false (by omega), brF]
      rw [getD_ge _ _ h1x] at fin
      by_cases h1y : i < ys.length
      · rw [decide_eq_true (by omega), brT, idxL_nat _ _ h1y, bdS]
        rw [getD_lt _ _ h1y] at ey fin
        rw [w64 (by omega) (by omega)]
        exact fin _ (by omega)
      · rw [decide_eq_false (by omega), brF]
        rw [getD_ge _ _ h1y] at fin
        exact fin _ (by omega)
theorem plus_f (lf : Nat) (xs ys : List Int) (hx : Dg G xs) (hy : Dg G ys) (h1 : xs.length ≤ 100000) (h2 : ys.length ≤ 100000) (h3 : 200000 ≤ lf) :
    ∃ l, bigint_plus.f lf xs ys = some (l, ()) ∧ Dg G l ∧ Tr l ∧ lv G l = lv G xs + lv G ys ∧ l.length ≤ max xs.length ys.length + 1 := by
  have key : ∀ (a b : List Int), Dg G a → Dg G b → a.length ≤ 100000 → b.length ≤ a.length →
      ∃ l, (bd (mkL (IntKind.i64.wrap (((a.length : Nat) : Int) + 1)) (IntKind.i64.wrap (((a.length : Nat) : Int) + 1)) 8 0) fun l27 =>
        bd (bigint_plus.l0 lf a b ((l27.length : Nat) : Int) (lf + 40) 0 0 l27) fun z28 => bd (bigint_trim.f lf z28.1.1) fun r29 => some (r29.1, ())) = some (l, ()) ∧ Dg G l ∧ Tr l ∧ lv G l = lv G a + lv G b ∧ l.length ≤ a.length + 1 := by
    intro a b ha hb hl hle
    refine ⟨tr (addL G a b 0 (a.length + 1)), ?_, dg_tr (dg_addL (by decide) _ _ _ _), tr_tr _, ?_, ?_⟩
    · rw [w64 (by omega) (by omega), mkL_nat _ _ _ (a.length + 1) (by omega) (by omega) (by omega), bdS]
      rw [List.length_replicate]
      have := plus_l0 lf a b (a.length + 1) ha hb (by omega) (a.length + 1) (lf + 40) 0 0 (List.replicate (a.length + 1) 0) (by omega) (by simp) (by omega) (by omega) (by omega)
      simp only [List.drop_zero, List.take_zero, List.nil_append] at this
      rw [show ((0 : Nat) : Int) = 0 from rfl] at this
      rw [this, bdS, trim_f lf _ (by rw [addL_len]; omega) (by rw [addL_len]; omega), bdS]
    · rw [lv_tr, lv_addL (by decide), Int.zero_add]
      have a1 := lv_lt (B := G) (by decide) ha
      have a2 := lv_lt (B := G) (by decide) hb
      have a3 := pow_mono' (B := G) (by decide) hle
      have a4 := lv_nonneg (B := G) (by decide) ha
      have a5 := lv_nonneg (B := G) (by decide) hb
      apply Int.emod_eq_of_lt (by omega)
      rw [Int.pow_succ]
      have : 0 < G ^ a.length := pow_pos' (by decide) _
      simp only [G] at *
      omega
    · have := tr_len (addL G a b 0 (a.length + 1))
      rw [addL_len] at this
      exact this
  rw [bigint_plus.f]
  by_cases h : xs.length < ys.length
  · rw [decide_eq_true (by omega), brT]
    obtain ⟨l, e, k1, k2, k3, k4⟩ := key ys xs hy hx h2 (by omega)
    exact ⟨l, e, k1, k2, by rw [k3, Int.add_comm], by omega⟩
  · rw [decide_eq_false (by omega), brF]
    obtain ⟨l, e, k1, k2, k3, k4⟩ := key xs ys hx hy h1 (by omega)
    exact ⟨l, e, k1, k2, k3, by omega⟩

theorem minus_l0 (lf : Nat) (xs ys : List Int) (N : Nat) (hx : Dg G xs) (hy : Dg G ys) (hN : N ≤ 1000000) (hxl : xs.length = N) : ∀ (k n i : Nat) (c : Int) (out : List Int), i + k = N → out.length = N → 0 ≤ c → c ≤ 1 → k < n →
    bigint_minus.l0 lf xs ys (N : Nat) n c (i : Nat) out = some ((out.take i ++ subL G (xs.drop i) (ys.drop i) c k, ()), ()) := by
  intro k
  induction k with
  | zero =>
    intro n i c out hi ho h0 h1 hn
    obtain ⟨m, rfl⟩ := Nat.exists_eq_succ_of_ne_zero (show n ≠ 0 by omega)
    rw [bigint_minus.l0, bigint_minus.r0, decide_eq_false (by omega), brF, subL, List.append_nil, List.take_of_length_le (by omega)]
  | succ k ih =>
    intro n i c out hi ho h0 h1 hn
    obtain ⟨m, rfl⟩ := Nat.exists_eq_succ_of_ne_zero (show n ≠ 0 by omega)
    have ex : 0 ≤ xs.getD i 0 ∧ xs.getD i 0 < G := hx.getD (by decide) i
    have ey : 0 ≤ ys.getD i 0 ∧ ys.getD i 0 < G := hy.getD (by decide) i
    simp only [G] at ex ey
    have go : ∀ (d v c' : Int), d = xs.getD i 0 - c - ys.getD i 0 → v = d % G → c' = -(d / G) → 0 ≤ c' → c' ≤ 1 →
        (bd (idxB out.length (i : Nat)) fun j6 => bd (upE out j6 fun _ => some v) fun l7 => bigint_minus.l0 lf xs ys (N : Nat) m c' (IntKind.i64.wrap ((i : Nat) + 1)) l7) =
        some ((out.take i ++ subL G (xs.drop i) (ys.drop i) c (k + 1), ()), ()) := by
      intro d v c' hd hv hc c1 c2
      rw [idxB_nat _ _ (by omega), bdS, upE_set _ _ _ (by omega), bdS]
      rw [w64 (by omega) (by omega), show ((i : Nat) : Int) + 1 = ((i + 1 : Nat) : Int) by omega]
      rw [ih m (i + 1) _ _ (by omega) (by rw [List.length_set]; omega) c1 c2 (by omega)]
      rw [take_set _ _ _ (by omega), subL, headD_drop, headD_drop, tail_drop', tail_drop', ← hd, hv, hc]
      simp
    have fin : ∀ d : Int, d = xs.getD i 0 - c - ys.getD i 0 →
        (br (decide (d < 0)) (bd (idxB out.length (i : Nat)) fun j4 => bd (upE out j4 fun _ => some (IntKind.i64.wrap (d + 1000000000))) fun l5 => bigint_minus.l0 lf xs ys (N : Nat) m 1 (IntKind.i64.wrap ((i : Nat) + 1)) l5)
          (bd (idxB out.length (i : Nat)) fun j7 => bd (upE out j7 fun _ => some d) fun l8 => bigint_minus.l0 lf xs ys (N : Nat) m 0 (IntKind.i64.wrap ((i : Nat) + 1)) l8)) =
        some ((out.take i ++ subL G (xs.drop i) (ys.drop i) c (k + 1), ()), ()) := by
      intro d hd
      by_cases hneg : d < 0
      · rw [decide_eq_true hneg, brT, w64 (by omega) (by omega)]
        exact go d _ 1 hd (by simp only [G]; omega) (by simp only [G]; omega) (by omega) (by omega)
      · rw [decide_eq_false hneg, brF]
        exact go d _ 0 hd (by simp only [G]; omega) (by simp only [G]; omega) (by omega) (by omega)
    have h1x : i < xs.length := by omega
    rw [getD_lt _ _ h1x] at ex fin
    rw [bigint_minus.l0, bigint_minus.r0, decide_eq_true (by omega), brT, idxL_nat _ _ h1x, bdS, w64 (by omega) (by omega)]
    by_cases h1y : i < ys.length
    · rw [decide_eq_true (by omega), brT, idxL_nat _ _ h1y, bdS]
      rw [getD_lt _ _ h1y] at ey fin
      rw [w64 (by omega) (by omega)]
      exact fin _ rfl
    · rw [decide_eq_false (by omega), brF]
      rw [getD_ge _ _ h1y] at fin
      exact fin _ (by omega)
theorem minus_f (lf : Nat) (xs ys : List Int) (hx : Dg G xs) (hy : Dg G ys) (h1 : xs.length ≤ 100000) (hle : lv G ys ≤ lv G xs) (h3 : 200000 ≤ lf) :
    ∃ l, bigint_minus.f lf xs ys = some (l, ()) ∧ Dg G l ∧ Tr l ∧ lv G l = lv G xs - lv G ys ∧ l.length ≤ xs.length := by
  refine ⟨tr (subL G xs ys 0 xs.length), ?_, dg_tr (dg_subL (by decide) _ _ _ _), tr_tr _, ?_, ?_⟩
  · rw [bigint_minus.f, mkL_nat _ _ _ xs.length rfl rfl (by omega), bdS, List.length_replicate]
    have := minus_l0 lf xs ys xs.length hx hy (by omega) rfl xs.length (lf + 40) 0 0 (List.replicate xs.length 0) (by omega) (by simp) (by omega) (by omega) (by omega)
    simp only [List.drop_zero, List.take_zero, List.nil_append] at this
    rw [show ((0 : Nat) : Int) = 0 from rfl] at this
    rw [this, bdS, trim_f lf _ (by rw [subL_len]; omega) (by rw [subL_len]; omega), bdS]
  · rw [lv_tr, lv_subL (by decide)]
    have a1 := lv_lt (B := G) (by decide) hx
    have a5 := lv_nonneg (B := G) (by decide) hy
    rw [show lv G xs - 0 - lv G ys = lv G xs - lv G ys by omega]
    exact Int.emod_eq_of_lt (by omega) (by omega)
  · have := tr_len (subL G xs ys 0 xs.length)
    rw [subL_len] at this
    exact this
end Go.N
/-! # bigint: numbers -/
namespace Go.N
open Go Go.Q Go.Rx
set_option linter.unusedVariables false
set_option linter.unusedSimpArgs false

theorem lv_take_succ (B : Int) (l : List Int) (i : Nat) (h : i < l.length) : lv B (l.take (i + 1)) = lv B (l.take i) + B ^ i * l[i] := by
  rw [List.take_succ_eq_append_getElem h, lv_app]
  simp [lv, List.length_take, Nat.min_eq_left (Nat.le_of_lt h)]
/-- The sign of a difference. -/
def Sg (v d : Int) : Prop := (v < 0 ↔ d < 0) ∧ (v = 0 ↔ d = 0)
theorem top_cmp {B : Int} (hB : 0 < B) {xs ys : List Int} (hx : Dg B xs) (hy : Dg B ys) (i : Nat) (h1 : i < xs.length) (h2 : i < ys.length) (h : xs[i] < ys[i]) : lv B (xs.take (i + 1)) < lv B (ys.take (i + 1)) := by
  rw [lv_take_succ B xs i h1, lv_take_succ B ys i h2]
  have a := lv_lt hB (hx.take i)
  have b := lv_nonneg hB (hy.take i)
  rw [List.length_take, Nat.min_eq_left (Nat.le_of_lt h1)] at a
  have c : B ^ i * (xs[i] + 1) ≤ B ^ i * ys[i] := Int.mul_le_mul_of_nonneg_left (by omega) (Int.le_of_lt (pow_pos' hB i))
  rw [Int.mul_add] at c
  omega
theorem order_l0 (lf : Nat) (xs ys : List Int) (hx : Dg G xs) (hy : Dg G ys) (hl : xs.length = ys.length) (hb : xs.length ≤ 1000000) : ∀ (i n : Nat) (hi : i ≤ xs.length), i < n →
    ∃ b v, bigint_order.l0 lf ys 0 xs n ((i : Nat) - 1 : Int) = some (b, (v, ()), (), ()) ∧ Sg (if b = true then v else 0) (lv G (xs.take i) - lv G (ys.take i)) := by
  intro i
  induction i with
  | zero =>
    intro n hi hn
    obtain ⟨m, rfl⟩ := Nat.exists_eq_succ_of_ne_zero (show n ≠ 0 by omega)
    refine ⟨false, 0, ?_, by simp [Sg, lv]⟩
    rw [bigint_order.l0, bigint_order.r0, decide_eq_false (by omega), brF]
  | succ i ih =>
    intro n hi hn
    obtain ⟨m, rfl⟩ := Nat.exists_eq_succ_of_ne_zero (show n ≠ 0 by omega)
    have e : ((i + 1 : Nat) : Int) - 1 = (i : Nat) := by omega
    have hxi := hx.at i (by omega)
    have hyi := hy.at i (by omega)
    simp only [G] at hxi hyi
    rw [bigint_order.l0, bigint_order.r0, decide_eq_true (by omega), brT, idxL_int xs _ i e (by omega), bdS, idxL_int ys _ i e (by omega), bdS]
    by_cases h : xs[i] = ys[i]'(by omega)
    · have hne : (xs[i] != ys[i]'(by omega)) = false := by simp [h]
      rw [hne, brF, w64 (by omega) (by omega), e]
      obtain ⟨b, v, h1, h2⟩ := ih m (by omega) (by omega)
      refine ⟨b, v, h1, ?_⟩
      rw [lv_take_succ G xs i (by omega), lv_take_succ G ys i (by omega), h]
      rwa [show lv G (xs.take i) + G ^ i * ys[i] - (lv G (ys.take i) + G ^ i * ys[i]) = lv G (xs.take i) - lv G (ys.take i) by omega]
    · have hne : (xs[i] != ys[i]'(by omega)) = true := by simp [h]
      rw [hne, brT, bdS, w64 (by omega) (by omega)]
      refine ⟨true, _, rfl, ?_⟩
      rw [if_pos rfl]
      rcases Int.lt_or_lt_of_ne h with hlt | hlt
      · have := top_cmp (B := G) (by decide) hx hy i (by omega) (by omega) hlt
        exact ⟨by omega, by omega⟩
      · have := top_cmp (B := G) (by decide) hy hx i (by omega) (by omega) hlt
        exact ⟨by omega, by omega⟩
theorem order_f (lf : Nat) (xs ys : List Int) (hx : Dg G xs) (hy : Dg G ys) (t1 : Tr xs) (t2 : Tr ys) (h1 : xs.length ≤ 100000) (h2 : ys.length ≤ 100000) (h3 : 200000 ≤ lf) :
    ∃ v, bigint_order.f lf xs ys = some (v, ()) ∧ Sg v (lv G xs - lv G ys) := by
  rw [bigint_order.f]
  by_cases h : xs.length = ys.length
  · have hne : (((xs.length : Nat) : Int) != ((ys.length : Nat) : Int)) = false := by simp [h]
    rw [hne, brF, w64 (by omega) (by omega)]
    obtain ⟨b, v, k1, k2⟩ := order_l0 lf xs ys hx hy h (by omega) xs.length (lf + 40) (Nat.le_refl _) (by omega)
    rw [List.take_of_length_le (Nat.le_refl _), List.take_of_length_le (by omega)] at k2
    rw [k1, bdS]
    cases b with
    | true => exact ⟨v, by simp only [brT], by simpa using k2⟩
    | false => exact ⟨0, by simp only [brF], by simpa using k2⟩
  · have hne : (((xs.length : Nat) : Int) != ((ys.length : Nat) : Int)) = true := by
      simp only [bne_iff_ne, ne_eq]; omega
    rw [hne, brT, w64 (by omega) (by omega)]
    refine ⟨_, rfl, ?_⟩
    rcases Nat.lt_or_gt_of_ne h with hlt | hlt
    · have := lv_len_lt (B := G) (by decide) hx hy t2 hlt
      exact ⟨by omega, by omega⟩
    · have := lv_len_lt (B := G) (by decide) hy hx t1 hlt
      exact ⟨by omega, by omega⟩

/-- A number of the program and what it is. -/
structure RN (p : Bool × (List Int × Unit)) (z : Int) (k : Nat) : Prop where
  dg : Dg G p.2.1
  tr : Tr p.2.1
  len : p.2.1.length ≤ k
  val : z = if p.1 = true then -lv G p.2.1 else lv G p.2.1
theorem RN.mono {p : Bool × (List Int × Unit)} {z : Int} {k k' : Nat} (h : RN p z k) (hk : k ≤ k') : RN p z k' := ⟨h.dg, h.tr, Nat.le_trans h.len hk, h.val⟩
theorem negated_f (lf : Nat) {p : Bool × (List Int × Unit)} {z : Int} {k : Nat} (h : RN p z k) : ∃ q, bigint_negated.f lf p = some (q, ()) ∧ RN q (-z) k := by
  refine ⟨_, rfl, h.dg, h.tr, h.len, ?_⟩
  rw [h.val]
  cases p.1 <;> simp
theorem sum_f (lf : Nat) {p q : Bool × (List Int × Unit)} {x y : Int} {k : Nat} (h1 : RN p x k) (h2 : RN q y k) (hk : k ≤ 100000) (h3 : 200000 ≤ lf) : ∃ s, bigint_sum.f lf p q = some (s, ()) ∧ RN s (x + y) (k + 1) := by
  obtain ⟨pn, pl, ⟨⟩⟩ := p
  obtain ⟨qn, ql, ⟨⟩⟩ := q
  obtain ⟨d1, t1, l1, v1⟩ := h1
  obtain ⟨d2, t2, l2, v2⟩ := h2
  simp only at d1 t1 l1 v1 d2 t2 l2 v2
  rw [bigint_sum.f]
  by_cases h : pn = qn
  · have hne : (pn != qn) = false := by simp [h]
    simp only [hne, brF]
    rw [bigint_operations_1.f, bdS]
    obtain ⟨l, e, k1, k2, k3, k4⟩ := plus_f lf pl ql d1 d2 (by omega) (by omega) h3
    rw [e, bdS]
    refine ⟨_, rfl, k1, k2, by simp only; omega, ?_⟩
    simp only
    rw [k3, v1, v2, h]
    cases qn <;> simp <;> omega
  · have hne : (pn != qn) = true := by simp [h]
    simp only [hne, brT]
    rw [bigint_operations_3.f, bigint_operations_2.f]
    obtain ⟨v, e, s1, s2⟩ := order_f lf pl ql d1 d2 t1 t2 (by omega) (by omega) h3
    simp only [e, bdS]
    by_cases hv : v < 0
    · have hl := s1.1 hv
      obtain ⟨l, e2, k1, k2, k3, k4⟩ := minus_f lf ql pl d2 d1 (by omega) (by omega) h3
      rw [decide_eq_true hv, brT, e2, bdS, bdS]
      refine ⟨_, rfl, k1, k2, by simp only; omega, ?_⟩
      simp only
      rw [k3, v1, v2]
      cases pn <;> cases qn <;> simp_all <;> omega
    · have hl : ¬ (lv G pl - lv G ql < 0) := fun h => hv (s1.2 h)
      obtain ⟨l, e2, k1, k2, k3, k4⟩ := minus_f lf pl ql d1 d2 (by omega) (by omega) h3
      rw [decide_eq_false hv, brF, e2, bdS, bdS]
      refine ⟨_, rfl, k1, k2, by simp only; omega, ?_⟩
      simp only
      rw [k3, v1, v2]
      cases pn <;> cases qn <;> simp_all <;> omega
def sgn (z : Int) : Int := if z < 0 then -1 else if z = 0 then 0 else 1
theorem sign_f (lf : Nat) {p : Bool × (List Int × Unit)} {z : Int} {k : Nat} (h : RN p z k) : bigint_sign.f lf p = some (sgn z, ()) := by
  obtain ⟨pn, pl, ⟨⟩⟩ := p
  obtain ⟨d1, t1, l1, v1⟩ := h
  simp only at d1 t1 l1 v1
  rw [bigint_sign.f]
  by_cases hn : pl = []
  · subst hn
    have : z = 0 := by rw [v1]; cases pn <;> simp [lv]
    subst this
    simp [brT, sgn]
  · have hp := lv_pos (B := G) (by decide) d1 t1 hn
    have : (((pl.length : Nat) : Int) == 0) = false := by
      have : pl.length ≠ 0 := fun e => hn (List.length_eq_zero_iff.1 e)
      simp only [beq_eq_false_iff_ne, ne_eq]; omega
    simp only [this, brF]
    cases pn with
    | true =>
      rw [brT, v1, sgn, if_pos (by simp; omega)]
    | false =>
      rw [brF, v1, sgn, if_neg (by simp; omega), if_neg (by simp; omega)]
end Go.N
/-! # bigint: texts read; comparisons -/
namespace Go.N
open Go Go.Q Go.Rx
set_option linter.unusedVariables false
set_option linter.unusedSimpArgs false

theorem hasPrefix_f (lf : Nat) (l : List UInt8) : stringslite_HasPrefix.f lf (bs l) (⟨#[45]⟩ : ByteArray) = some (neg l, ()) := by
  rw [stringslite_HasPrefix.f]
  have e1 : ((⟨#[45]⟩ : ByteArray).size : Int) = 1 := rfl
  rw [e1, bs_size]
  cases l with
  | nil => rw [decide_eq_false (by simp), brF]; rfl
  | cons b r =>
    rw [decide_eq_true (by simp; omega), brT, sCut_to (b :: r) 1 1 rfl (by simp), bdS]
    simp only [List.take_succ_cons, List.take_zero]
    rw [show (⟨#[45]⟩ : ByteArray) = bs [45] from rfl, beq_bs]
    simp [neg]
theorem cutPrefix_f (lf : Nat) (l : List UInt8) : strings_CutPrefix.f lf (bs l) (⟨#[45]⟩ : ByteArray) = some (bs (body l), neg l, ()) := by
  rw [strings_CutPrefix.f, stringslite_CutPrefix.f, hasPrefix_f, bdS]
  simp only
  cases h : neg l with
  | false =>
    simp only [Bool.not_false, brT, bdS]
    have : ¬ l.head? = some 45 := by unfold neg at h; simpa using h
    unfold body
    rw [if_neg this]
  | true =>
    have h45 : l.head? = some 45 := by unfold neg at h; simpa using h
    simp only [Bool.not_true, brF]
    have hl : 1 ≤ l.length := by cases l with
      | nil => simp at h45
      | cons b r => simp
    rw [show (((⟨#[45]⟩ : ByteArray).size : Nat) : Int) = 1 from rfl, sCut_from l 1 1 rfl hl, bdS, bdS]
    unfold body
    rw [if_pos h45]
    simp
theorem trimPrefix_f (lf : Nat) (l : List UInt8) : strings_TrimPrefix.f lf (bs l) (⟨#[45]⟩ : ByteArray) = some (bs (body l), ()) := by
  rw [strings_TrimPrefix.f, stringslite_TrimPrefix.f, hasPrefix_f, bdS]
  simp only
  cases h : neg l with
  | false =>
    simp only [brF, bdS]
    have : ¬ l.head? = some 45 := by unfold neg at h; simpa using h
    unfold body
    rw [if_neg this]
  | true =>
    have h45 : l.head? = some 45 := by unfold neg at h; simpa using h
    simp only [brT]
    have hl : 1 ≤ l.length := by cases l with
      | nil => simp at h45
      | cons b r => simp
    rw [show (((⟨#[45]⟩ : ByteArray).size : Nat) : Int) = 1 from rfl, sCut_from l 1 1 rfl hl, bdS, bdS]
    unfold body
    rw [if_pos h45]
    simp
theorem body_len (l : List UInt8) : (body l).length ≤ l.length := nlen_le l
theorem canonical_f (lf : Nat) (l : List UInt8) (hl : l.length ≤ 9223372036854775807) : bigint_canonical.f lf (bs l) = some (can l, ()) := by
  rw [bigint_canonical.f, cutPrefix_f, bdS]
  simp only
  rw [show (⟨#[48]⟩ : ByteArray) = bs [48] from rfl, show (⟨#[]⟩ : ByteArray) = bs [] from rfl, beq_bs, beq_bs]
  by_cases h48 : body l = [48]
  · rw [decide_eq_true h48, brT]
    congr 2
    unfold can
    rw [h48]
    unfold neg body at *
    by_cases h : l.head? = some 45
    · rw [decide_eq_true h]
      have : l ≠ [48] := by rintro rfl; simp at h
      simp [this]
    · rw [decide_eq_false h]
      rw [if_neg h] at h48
      simp [h48]
  · rw [decide_eq_false h48, brF]
    have hl48 : l ≠ [48] := by rintro rfl; exact h48 rfl
    unfold can
    rw [decide_eq_false hl48, Bool.false_or]
    by_cases h0 : body l = []
    · rw [decide_eq_true h0]
      simp [brF, h0]
    · rw [decide_eq_false h0]
      simp only [Bool.not_false, brT]
      have hlen : 0 < (body l).length := List.length_pos_iff.2 h0
      rw [sIdx_bs _ 0 0 rfl hlen, bdS]
      have hhead : (body l).head? = some ((body l)[0]) := by rw [List.head?_eq_getElem?, List.getElem?_eq_getElem hlen]
      rw [hhead]
      by_cases h4 : (body l)[0] = 48
      · rw [h4]
        simp [brF]
      · have : ((((body l)[0]).toNat : Int) != 48) = true := by
          simp only [bne_iff_ne, ne_eq]
          intro e
          apply h4
          apply UInt8.toNat_inj.1
          have h48' : (48 : UInt8).toNat = 48 := rfl
          omega
        rw [this, brT]
        have e1 : B.Trim.f lf (bs (body l)) (⟨#[48, 49, 50, 51, 52, 53, 54, 55, 56, 57]⟩ : ByteArray) = some (bs (Lib.trimS (body l) [48, 49, 50, 51, 52, 53, 54, 55, 56, 57]), ()) := by
          unfold B.Trim.f
          rw [if_pos ⟨by rw [bs_size]; have := body_len l; omega, by decide, by decide⟩]
        rw [e1, bdS]
        simp only
        rw [beq_bs]
        congr 2
        have : decide (some ((body l)[0]) ≠ some 48) = true := by simpa using h4
        rw [this]
        have h0' : decide (body l ≠ []) = true := by simpa using h0
        rw [h0', Bool.true_and, Bool.true_and]
        have e2 : (body l).all isDig = (body l).all (([48, 49, 50, 51, 52, 53, 54, 55, 56, 57] : List UInt8).contains ·) := by
          congr 1; funext b; exact (digs_contains b).symm
        rw [e2]
        by_cases ht : (body l).all (([48, 49, 50, 51, 52, 53, 54, 55, 56, 57] : List UInt8).contains ·) = true
        · rw [ht]; exact decide_eq_true ((trimS_nil _ _).2 ht)
        · rw [Bool.not_eq_true] at ht
          rw [ht]; apply decide_eq_false
          intro e
          have := (trimS_nil _ _).1 e
          rw [ht] at this; cases this
theorem digits_f (lf : Nat) (l : List UInt8) : bigint_digits.f lf (bs l) = some ((nlen l : Int), ()) := by
  rw [bigint_digits.f, trimPrefix_f, bdS]
  simp only
  rw [bs_size]; rfl
theorem check_f (lf : Nat) (l : List UInt8) (hl : l.length ≤ 9223372036854775807) : bigint_Check.f lf (bs l) = some (chk l, ()) := by
  rw [bigint_Check.f, canonical_f lf l hl, bdS, digits_f, bdS]
  simp only
  unfold chk
  cases can l with
  | false => simp [brT]
  | true =>
    simp only [Bool.not_true, brF, if_true]
    by_cases h : nlen l > 4096
    · rw [decide_eq_true (by omega), brT, if_pos h]
    · rw [decide_eq_false (by omega), brF, if_neg h]
theorem idigits_f (lf : Nat) (l : List UInt8) (hl : l.length ≤ 9223372036854775807) : interval_digits.f lf (bs l) = some ((nlen l : Int), ()) := by
  rw [interval_digits.f, bs_size]
  cases l with
  | nil => rw [decide_eq_false (by simp), brF]; rfl
  | cons b r =>
    rw [decide_eq_true (by rw [List.length_cons]; omega), brT, sIdx_bs (b :: r) 0 0 rfl (by simp), bdS]
    simp only [List.getElem_cons_zero]
    unfold nlen body
    by_cases h : b = 45
    · subst h
      have : ((((45 : UInt8).toNat : Nat) : Int) == 45) = true := by decide
      rw [this, brT]
      simp only [List.length_cons] at hl ⊢
      rw [w64 (by omega) (by omega)]
      simp
    · have : (((b.toNat : Nat) : Int) == 45) = false := by
        rw [beq_eq_false_iff_ne]
        intro e; apply h; apply UInt8.toNat_inj.1
        have : (45 : UInt8).toNat = 45 := rfl
        omega
      rw [this, brF]
      simp [h]
theorem number_f (lf : Nat) (l : List UInt8) (hl : l.length ≤ 9223372036854775807) : interval_number.f lf (bs l) = some (num l, ()) := by
  rw [interval_number.f, check_f lf l hl, bdS, idigits_f lf l hl, bdS]
  simp only
  unfold num
  by_cases h : chk l = 0
  · rw [h]
    simp only [bne_self_eq_false, brF, ne_eq, not_true, if_false]
    by_cases h' : nlen l > 100
    · rw [decide_eq_true (by omega), brT, if_pos h']
    · rw [decide_eq_false (by omega), brF, if_neg h']
  · have : (chk l != 0) = true := by simpa using h
    rw [this, brT, if_pos h]

/-! ### reading -/
theorem lv_snocI (B : Int) (l : List Int) (x : Int) : lv B (l ++ [x]) = lv B l + B ^ l.length * x := by rw [lv_app]; simp [lv]
theorem read_l0 (lf : Nat) (ng : Bool) (l : List UInt8) (ha : l.all isDig = true) (hl : l.length ≤ 1000000) : ∀ (e n : Nat) (acc : List Int), e ≤ l.length → e < n → acc.length + e ≤ 1000000 →
    ∃ r, bigint_read.l0 lf ng (bs l) n (e : Nat) acc = some ((acc ++ r, ()), ()) ∧ Dg G r ∧ lv G r = dv (l.take e) ∧ r.length ≤ e := by
  intro e
  induction e using Nat.strongRecOn with
  | _ e ih =>
    intro n acc he hn hacc
    obtain ⟨m, rfl⟩ := Nat.exists_eq_succ_of_ne_zero (show n ≠ 0 by omega)
    have hall : ∀ (a b : Nat), ((l.drop a).take b).all isDig = true := by
      intro a b
      rw [List.all_eq_true] at ha ⊢
      intro x hx
      exact ha x (List.mem_of_mem_drop (List.mem_of_mem_take hx))
    rw [bigint_read.l0, bigint_read.r0]
    by_cases h0 : e = 0
    · subst h0
      rw [decide_eq_false (by omega), brF]
      exact ⟨[], by simp, Dg.nil, rfl, by simp⟩
    · rw [decide_eq_true (by omega), brT, w64 (by omega) (by omega)]
      have step : ∀ a : Nat, a = e - 9 → ∃ y : Int, (bd (sCut (bs l) (some (a : Int)) (some (e : Int))) fun r2 => bd (B.Atoi.f lf r2) fun r3 => bd (apL true 8 acc [r3.1]) fun l4 => bigint_read.l0 lf ng (bs l) m ((e : Int) - 9) l4) =
          bigint_read.l0 lf ng (bs l) m ((e : Int) - 9) (acc ++ [y]) ∧ y = dv ((l.drop a).take (e - a)) ∧ 0 ≤ y ∧ y < G := by
        intro a hae
        have hd := dv_lt _ (hall a (e - a))
        have hlen : ((l.drop a).take (e - a)).length = e - a := by rw [List.length_take, List.length_drop]; omega
        have hp : (10 : Nat) ^ (e - a) ≤ 10 ^ 9 := Nat.pow_le_pow_right (by omega) (by omega)
        rw [hlen] at hd
        refine ⟨(dv ((l.drop a).take (e - a)) : Int), ?_, rfl, by omega, ?_⟩
        · rw [sCut_bs l _ _ a e rfl rfl (by omega) he, bdS]
          have e2 : B.Atoi.f lf (bs ((l.drop a).take (e - a))) = some ((dv ((l.drop a).take (e - a)) : Int), (), ()) := by
            unfold B.Atoi.f
            rw [bs_size, if_pos (by omega), atoi_digs (hall a (e - a)) (by intro e0; rw [e0] at hlen; simp at hlen; omega)]
            rfl
          rw [e2, bdS]
          simp only
          rw [apL_ok 8 _ _ (by omega) (by simp; omega), bdS]
        · simp only [G]; have : (10 : Nat) ^ 9 = 1000000000 := by decide
          omega
      by_cases h9 : e ≤ 9
      · have hif : (if (e : Int) - 9 > 0 then (e : Int) - 9 else 0) = ((0 : Nat) : Int) := by rw [if_neg (by omega)]; rfl
        rw [hif]
        obtain ⟨y, e1, hy, y1, y2⟩ := step 0 (by omega)
        rw [e1]
        obtain ⟨k, rfl⟩ : ∃ k, m = k + 1 := Nat.exists_eq_succ_of_ne_zero (show m ≠ 0 by omega)
        rw [bigint_read.l0, bigint_read.r0, decide_eq_false (by omega), brF]
        refine ⟨[y], rfl, Dg.cons ⟨y1, y2⟩ Dg.nil, ?_, by simp; omega⟩
        simp only [lv, Int.mul_zero, Int.add_zero]
        rw [hy, List.drop_zero, Nat.sub_zero]
      · have hif : (if (e : Int) - 9 > 0 then (e : Int) - 9 else 0) = ((e - 9 : Nat) : Int) := by rw [if_pos (by omega)]; omega
        rw [hif]
        obtain ⟨y, e1, hy, y1, y2⟩ := step (e - 9) rfl
        rw [e1, show (e : Int) - 9 = ((e - 9 : Nat) : Int) by omega]
        obtain ⟨r, k1, k2, k3, k4⟩ := ih (e - 9) (by omega) m (acc ++ [y]) (by omega) (by omega) (by simp; omega)
        rw [k1]
        refine ⟨y :: r, by simp, Dg.cons ⟨y1, y2⟩ k2, ?_, by simp; omega⟩
        rw [lv, k3, hy]
        have hsplit : l.take e = l.take (e - 9) ++ (l.drop (e - 9)).take (e - (e - 9)) := by
          conv => lhs; rw [show e = (e - 9) + (e - (e - 9)) by omega]
          rw [List.take_add]
        have hlen : ((l.drop (e - 9)).take (e - (e - 9))).length = 9 := by rw [List.length_take, List.length_drop]; omega
        rw [hsplit, dv_app, hlen]
        have : (10 : Nat) ^ 9 = 1000000000 := by decide
        rw [this]
        simp only [G]
        omega
theorem read_f (lf : Nat) (l : List UInt8) (hc : can l = true) (hl : l.length ≤ 100000) (h3 : 200000 ≤ lf) :
    ∃ p, bigint_read.f lf (bs l) = some (p, ()) ∧ RN p (iv l) (nlen l) ∧ p.1 = neg l := by
  rw [bigint_read.f, cutPrefix_f, bdS]
  simp only
  obtain ⟨ha, hne, _⟩ := can_parts hc
  have hb := body_len l
  obtain ⟨r, k1, k2, k3, k4⟩ := read_l0 lf false (body l) ha (by omega) (body l).length (lf + 40) [] (Nat.le_refl _) (by omega) (by simp; omega)
  rw [bs_size, k1, bdS]
  simp only [List.nil_append]
  rw [trim_f lf r (by omega) (by omega), bdS]
  have hlen := tr_len r
  refine ⟨_, rfl, ⟨dg_tr k2, tr_tr r, by simp only; unfold nlen; omega, ?_⟩, rfl⟩
  simp only
  rw [lv_tr, k3, List.take_of_length_le (Nat.le_refl _)]
  rfl
theorem pair_f (lf : Nat) (l m : List UInt8) (h1 : chk l = 0) (h2 : chk m = 0) (h3 : 200000 ≤ lf) :
    ∃ p q, bigint_pair.f lf (bs l) (bs m) = some (p, q, 0, ()) ∧ RN p (iv l) 4096 ∧ RN q (iv m) 4096 ∧ p.1 = neg l ∧ q.1 = neg m := by
  have a1 := chk_zero.1 h1
  have a2 := chk_zero.1 h2
  have b1 := len_nlen l
  have b2 := len_nlen m
  obtain ⟨p, e1, k1, n1⟩ := read_f lf l a1.1 (by omega) h3
  obtain ⟨q, e2, k2, n2⟩ := read_f lf m a2.1 (by omega) h3
  rw [bigint_pair.f, check_f lf l (by omega), bdS, check_f lf m (by omega), h1, h2]
  simp only [bne_self_eq_false, brF, bdS, e1, e2]
  exact ⟨p, q, rfl, k1.mono a1.2, k2.mono a2.2, n1, n2⟩
theorem compare_f (lf : Nat) (l m : List UInt8) (h1 : chk l = 0) (h2 : chk m = 0) (h3 : 200000 ≤ lf) :
    bigint_Compare.f lf (bs l) (bs m) = some (sgn (iv l - iv m), 0, ()) := by
  obtain ⟨p, q, e, k1, k2, _⟩ := pair_f lf l m h1 h2 h3
  rw [bigint_Compare.f, e, bdS]
  simp only [bne_self_eq_false, brF]
  obtain ⟨q', e2, k3⟩ := negated_f lf k2
  rw [e2, bdS]
  obtain ⟨s, e3, k4⟩ := sum_f lf k1 k3 (by omega) h3
  rw [e3, bdS, sign_f lf k4, bdS]
  simp only [Int.sub_eq_add_neg]
theorem iorder_f (lf : Nat) (l m : List UInt8) (h1 : chk l = 0) (h2 : chk m = 0) (h3 : 200000 ≤ lf) :
    interval_order.f lf (bs l) (bs m) = some (sgn (iv l - iv m), ()) := by
  rw [interval_order.f, compare_f lf l m h1 h2 h3, bdS]
end Go.N
/-! # The reference of integers: forms and comparisons -/
namespace Go.N
open Go Go.Q Go.Rx
set_option linter.unusedVariables false
set_option linter.unusedSimpArgs false

theorem u8_beq (b : UInt8) (n : Nat) (hn : n < 256) : (((b.toNat : Nat) : Int) == (n : Int)) = decide (b = UInt8.ofNat n) := by
  by_cases h : b = UInt8.ofNat n
  · rw [decide_eq_true h]; subst h
    rw [UInt8.toNat_ofNat', Nat.mod_eq_of_lt (by omega)]; simp
  · rw [decide_eq_false h, beq_eq_false_iff_ne]
    intro e; apply h; apply UInt8.toNat_inj.1
    rw [UInt8.toNat_ofNat', Nat.mod_eq_of_lt (by omega)]; omega
theorem u8_45 (b : UInt8) : (((b.toNat : Nat) : Int) == 45) = decide (b = 45) := u8_beq b 45 (by omega)
theorem u8_48 (b : UInt8) : (((b.toNat : Nat) : Int) == 48) = decide (b = 48) := u8_beq b 48 (by omega)
theorem form_l0 (lf : Nat) (l : List UInt8) (hl : l.length ≤ 9223372036854775807) : ∀ (k n i : Nat), i + k = l.length → k < n →
    surveyorref01_Form.l0 lf (bs l) n (i : Nat) = some (!(l.drop i).all isDig, (), (), ()) := by
  intro k
  induction k with
  | zero =>
    intro n i hi hn
    obtain ⟨m, rfl⟩ := Nat.exists_eq_succ_of_ne_zero (show n ≠ 0 by omega)
    rw [surveyorref01_Form.l0, surveyorref01_Form.r0, bs_size, decide_eq_false (by omega), brF, List.drop_of_length_le (by omega)]
    rfl
  | succ k ih =>
    intro n i hi hn
    obtain ⟨m, rfl⟩ := Nat.exists_eq_succ_of_ne_zero (show n ≠ 0 by omega)
    have hlt : i < l.length := by omega
    rw [surveyorref01_Form.l0, surveyorref01_Form.r0, bs_size, decide_eq_true (by omega), brT, sIdx_bs l _ i rfl hlt, bdS, bdS]
    rw [List.drop_eq_getElem_cons hlt, List.all_cons]
    by_cases h1 : l[i].toNat < 48
    · rw [decide_eq_true (by omega), brT]
      have : isDig l[i] = false := by unfold isDig; apply decide_eq_false; omega
      rw [this]; rfl
    · rw [decide_eq_false (by omega), brF]
      by_cases h2 : l[i].toNat > 57
      · rw [decide_eq_true (by omega), brT]
        have : isDig l[i] = false := by unfold isDig; apply decide_eq_false; omega
        rw [this]; rfl
      · rw [decide_eq_false (by omega), brF, w64 (by omega) (by omega), show ((i : Nat) : Int) + 1 = ((i + 1 : Nat) : Int) by omega]
        have : isDig l[i] = true := by unfold isDig; apply decide_eq_true; omega
        rw [this, Bool.true_and]
        exact ih m (i + 1) (by omega) (by omega)
theorem form_f (lf : Nat) (l : List UInt8) (hl : l.length ≤ 9223372036854775807) (hf : l.length ≤ lf) : surveyorref01_Form.f lf (bs l) = some (can l, ()) := by
  rw [surveyorref01_Form.f]
  rw [show (⟨#[48]⟩ : ByteArray) = bs [48] from rfl, beq_bs, bs_size]
  unfold can
  by_cases h48 : l = [48]
  · rw [decide_eq_true h48, brT]; rfl
  · rw [decide_eq_false h48, brF, Bool.false_or]
    cases l with
    | nil =>
      rw [decide_eq_false (by simp), brF]
      simp [brT, body]
    | cons b r =>
      rw [decide_eq_true (by rw [List.length_cons]; omega), brT, sIdx_bs (b :: r) 0 0 rfl (by simp), bdS]
      simp only [List.getElem_cons_zero]
      rw [u8_45]
      by_cases h45 : b = 45
      · rw [decide_eq_true h45, brT]
        have hb : body (b :: r) = r := by unfold body; rw [if_pos (by simp [h45])]; rfl
        rw [hb]
        cases r with
        | nil =>
          have : ((1 : Int) == (([b].length : Nat) : Int)) = true := by simp
          rw [this, brT]; simp
        | cons d s =>
          have : ((1 : Int) == (((b :: d :: s).length : Nat) : Int)) = false := by
            rw [beq_eq_false_iff_ne]; simp only [List.length_cons]; omega
          rw [this, brF, sIdx_bs (b :: d :: s) 1 1 rfl (by simp), bdS]
          simp only [List.getElem_cons_succ, List.getElem_cons_zero]
          rw [u8_48]
          by_cases hd : d = 48
          · rw [decide_eq_true hd, brT]; simp [hd]
          · rw [decide_eq_false hd, brF]
            have := form_l0 lf (b :: d :: s) hl (d :: s).length (lf + 40) 1 (by simp only [List.length_cons]; omega) (by simp only [List.length_cons] at hf ⊢; omega)
            rw [show ((1 : Nat) : Int) = 1 from rfl] at this
            rw [this, bdS]
            simp only [List.drop_succ_cons, List.drop_zero]
            cases (d :: s).all isDig <;> simp [brT, brF, hd]
      · rw [decide_eq_false h45, brF]
        have hb : body (b :: r) = b :: r := by unfold body; rw [if_neg (by simp [h45])]
        rw [hb]
        have : ((0 : Int) == (((b :: r).length : Nat) : Int)) = false := by
          rw [beq_eq_false_iff_ne]; simp only [List.length_cons]; omega
        rw [this, brF, bdS]
        rw [u8_48]
        by_cases hd : b = 48
        · rw [decide_eq_true hd, brT]; simp [hd]
        · rw [decide_eq_false hd, brF]
          have := form_l0 lf (b :: r) hl (b :: r).length (lf + 40) 0 (by omega) (by omega)
          rw [show ((0 : Nat) : Int) = 0 from rfl] at this
          rw [this, bdS]
          simp only [List.drop_zero]
          cases (b :: r).all isDig <;> simp [brT, brF, hd]
theorem negative_f (lf : Nat) (l : List UInt8) (h : l ≠ []) : surveyorref01_Negative.f lf (bs l) = some (neg l, ()) := by
  cases l with
  | nil => exact absurd rfl h
  | cons b r =>
    rw [surveyorref01_Negative.f, sIdx_bs (b :: r) 0 0 rfl (by simp), bdS]
    simp only [List.getElem_cons_zero]
    rw [u8_45]
    unfold neg
    simp
theorem rDigits_f (lf : Nat) (l : List UInt8) (h : l ≠ []) (hl : l.length ≤ 9223372036854775807) : surveyorref01_Digits.f lf (bs l) = some ((nlen l : Int), ()) := by
  rw [surveyorref01_Digits.f, negative_f lf l h, bdS]
  simp only
  unfold nlen body neg
  rw [bs_size]
  by_cases h45 : l.head? = some 45
  · rw [decide_eq_true h45, brT, if_pos h45, List.length_tail]
    have : l.length ≠ 0 := fun e => h (List.length_eq_zero_iff.1 e)
    rw [w64 (by omega) (by omega)]
    congr 2; omega
  · rw [decide_eq_false h45, brF, if_neg h45]
theorem rCheck_f (lf : Nat) (l : List UInt8) (hl : l.length ≤ 9223372036854775807) (hf : l.length ≤ lf) : surveyorref01_Check.f lf (bs l) = some (chk l, ()) := by
  rw [surveyorref01_Check.f, form_f lf l hl hf, bdS]
  simp only
  unfold chk
  cases hc : can l with
  | false => simp [brT]
  | true =>
    simp only [Bool.not_true, brF, if_true]
    rw [rDigits_f lf l (can_parts hc).2.2 hl, bdS]
    simp only
    by_cases h : nlen l > 4096
    · rw [decide_eq_true (by omega), brT, if_pos h]
    · rw [decide_eq_false (by omega), brF, if_neg h]
theorem rNumber_f (lf : Nat) (l : List UInt8) (hl : l.length ≤ 9223372036854775807) (hf : l.length ≤ lf) : surveyorref06_Number.f lf (bs l) = some (num l, ()) := by
  rw [surveyorref06_Number.f, rCheck_f lf l hl hf, bdS]
  simp only
  unfold num
  by_cases h : chk l = 0
  · rw [h]
    simp only [bne_self_eq_false, brF, ne_eq, not_true, if_false]
    rw [rDigits_f lf l (can_parts (chk_zero.1 h).1).2.2 hl, bdS]
    simp only
    by_cases h' : nlen l > 100
    · rw [decide_eq_true (by omega), brT, if_pos h']
    · rw [decide_eq_false (by omega), brF, if_neg h']
  · have : (chk l != 0) = true := by simpa using h
    rw [this, brT, if_pos h]
theorem iv_zero {l : List UInt8} (h : can l = true) : iv l = 0 ↔ l = [48] := by
  constructor
  · intro e; exact iv_inj h (by decide) (by rw [e]; decide)
  · rintro rfl; decide
theorem iv_neg {l : List UInt8} (h : can l = true) : iv l < 0 ↔ neg l = true := by
  constructor
  · intro e
    unfold iv at e
    by_cases hn : neg l = true
    · exact hn
    · rw [if_neg hn] at e; omega
  · intro hn
    have h0 : iv l ≠ 0 := by
      intro e
      have := (iv_zero h).1 e
      subst this
      cases hn
    unfold iv at h0 ⊢
    rw [if_pos hn] at h0 ⊢
    omega
theorem sign_ref (lf : Nat) (l : List UInt8) (h : can l = true) : surveyorref01_Sign.f lf (bs l) = some (sgn (iv l), ()) := by
  rw [surveyorref01_Sign.f, show (⟨#[48]⟩ : ByteArray) = bs [48] from rfl, beq_bs]
  by_cases h48 : l = [48]
  · rw [decide_eq_true h48, brT]
    subst h48; rfl
  · have h0 : iv l ≠ 0 := fun e => h48 ((iv_zero h).1 e)
    rw [decide_eq_false h48, brF, negative_f lf l (can_parts h).2.2, bdS]
    simp only
    cases hn : neg l with
    | true =>
      have := (iv_neg h).2 hn
      rw [brT, sgn, if_pos this]
    | false =>
      have : ¬ iv l < 0 := fun e => by have := (iv_neg h).1 e; rw [hn] at this; cases this
      rw [brF, sgn, if_neg this, if_neg h0]

/-! ### lists of digits -/
def ld (l : List UInt8) : List Int := l.reverse.map fun b => (dig b : Int)
theorem ld_len (l : List UInt8) : (ld l).length = l.length := by simp [ld]
theorem ld_dg {l : List UInt8} (h : l.all isDig = true) : Dg 10 (ld l) := by
  intro y hy
  unfold ld at hy
  obtain ⟨b, hb, rfl⟩ := List.mem_map.1 hy
  have := dig_lt (List.all_eq_true.1 h b (by simpa using hb))
  omega
theorem lv_ld (l : List UInt8) : lv 10 (ld l) = dv l := by
  refine snoc_ind (p := fun l => lv 10 (ld l) = dv l) l rfl fun l b ih => ?_
  have : ld (l ++ [b]) = (dig b : Int) :: ld l := by simp [ld]
  rw [this, lv, ih, dv_snoc]
  omega
theorem digits_l0 (lf : Nat) (l : List UInt8) (ng : Bool) (hall : (body l).all isDig = true) (hl : l.length ≤ 1000000) : ∀ (k n : Nat) (acc : List Int), k ≤ l.length → k < n → acc.length + k ≤ 1000000 →
    surveyorref01_digits.l0 lf (bs l) n ((k : Nat) - 1 : Int) acc = some ((acc ++ ld (if neg l = true then (l.take k).tail else l.take k), ()), ()) := by
  intro k
  induction k with
  | zero =>
    intro n acc hk hn hacc
    obtain ⟨m, rfl⟩ := Nat.exists_eq_succ_of_ne_zero (show n ≠ 0 by omega)
    rw [surveyorref01_digits.l0, surveyorref01_digits.r0, decide_eq_false (by omega), brF]
    simp [ld]
  | succ k ih =>
    intro n acc hk hn hacc
    obtain ⟨m, rfl⟩ := Nat.exists_eq_succ_of_ne_zero (show n ≠ 0 by omega)
    have hlt : k < l.length := by omega
    rw [surveyorref01_digits.l0, surveyorref01_digits.r0, decide_eq_true (by omega), brT, sIdx_bs l _ k (by omega) hlt, bdS, bdS]
    have hne : ((((l[k]).toNat : Nat) : Int) != 45) = !decide (l[k] = 45) := by rw [bne, u8_45]
    rw [hne, List.take_succ_eq_append_getElem hlt]
    by_cases h45 : l[k] = 45
    · -- the sign
      rw [decide_eq_true h45]
      simp only [Bool.not_true, brF]
      have hk0 : k = 0 := by
        by_cases hz : k = 0
        · exact hz
        · exfalso
          have hmem : l[k] ∈ body l := by
            unfold body
            split
            · rw [List.mem_iff_getElem]
              exact ⟨k - 1, by rw [List.length_tail]; omega, by rw [List.getElem_tail]; congr 1; omega⟩
            · exact List.getElem_mem hlt
          have := List.all_eq_true.1 hall _ hmem
          rw [h45] at this
          cases this
      subst hk0
      have hneg : neg l = true := by
        unfold neg; apply decide_eq_true
        rw [List.head?_eq_getElem?, List.getElem?_eq_getElem hlt, h45]
      rw [if_pos hneg]
      simp [ld]
    · rw [decide_eq_false h45]
      simp only [Bool.not_false, brT]
      have hmem : isDig l[k] = true := by
        by_cases hz : k = 0 ∧ l.head? = some 45
        · exfalso
          obtain ⟨rfl, hz⟩ := hz
          rw [List.head?_eq_getElem?, List.getElem?_eq_getElem hlt] at hz
          exact h45 (Option.some.inj hz)
        · have hm : l[k] ∈ body l := by
            unfold body
            split
            · rename_i hh
              have : k ≠ 0 := fun e => hz ⟨e, hh⟩
              rw [List.mem_iff_getElem]
              exact ⟨k - 1, by rw [List.length_tail]; omega, by rw [List.getElem_tail]; congr 1; omega⟩
            · exact List.getElem_mem hlt
          exact List.all_eq_true.1 hall _ hm
      have hd := hmem
      unfold isDig at hd
      simp only [decide_eq_true_eq] at hd
      rw [w8 (by omega) (by omega), w64 (by omega) (by omega), apL_ok 8 _ _ (by omega) (by simp; omega), bdS, w64 (by omega) (by omega)]
      rw [show ((k + 1 : Nat) : Int) - 1 - 1 = ((k : Nat) : Int) - 1 by omega]
      rw [ih m _ (by omega) (by omega) (by simp; omega)]
      have hdig : (((l[k]).toNat : Nat) : Int) - 48 = (dig l[k] : Int) := by unfold dig; omega
      rw [hdig]
      congr 3
      have hld : ∀ (t : List UInt8) (b : UInt8), ld (t ++ [b]) = (dig b : Int) :: ld t := by intro t b; simp [ld]
      by_cases hneg : neg l = true
      · rw [if_pos hneg, if_pos hneg]
        have hk0 : k ≠ 0 := by
          rintro rfl
          unfold neg at hneg
          simp only [decide_eq_true_eq] at hneg
          rw [List.head?_eq_getElem?, List.getElem?_eq_getElem hlt] at hneg
          exact h45 (Option.some.inj hneg)
        have ht : (l.take k ++ [l[k]]).tail = (l.take k).tail ++ [l[k]] := by
          rw [List.tail_append_of_ne_nil]
          intro e
          have h0 := congrArg List.length e
          rw [List.length_take, List.length_nil] at h0
          omega
        rw [ht, hld]; simp
      · rw [if_neg hneg, if_neg hneg, hld]; simp
theorem digits_ref (lf : Nat) (l : List UInt8) (h : can l = true) (hl : l.length ≤ 100000) (h3 : 200000 ≤ lf) : surveyorref01_digits.f lf (bs l) = some (ld (body l), ()) := by
  rw [surveyorref01_digits.f, bs_size, w64 (by omega) (by omega)]
  rw [digits_l0 lf l true (can_parts h).1 (by omega) l.length (lf + 40) [] (Nat.le_refl _) (by omega) (by simp; omega), bdS]
  simp only [List.nil_append, List.take_length]
  congr 2
  unfold body neg
  by_cases h45 : l.head? = some 45
  · rw [if_pos h45, if_pos (decide_eq_true h45)]
  · rw [if_neg h45, if_neg (by rw [decide_eq_false h45]; simp)]
theorem cut_l0 (lf : Nat) (l : List Int) (hl : l.length ≤ 1000000) : ∀ (k n : Nat), k ≤ l.length → k < n →
    ∃ j : Nat, surveyorref01_cut.l0 lf l n (k : Nat) = some (((j : Int), ()), ()) ∧ j ≤ k ∧ l.take j = tr (l.take k) := by
  intro k
  induction k with
  | zero =>
    intro n hk hn
    obtain ⟨m, rfl⟩ := Nat.exists_eq_succ_of_ne_zero (show n ≠ 0 by omega)
    rw [surveyorref01_cut.l0, surveyorref01_cut.r0, decide_eq_false (by omega), brF]
    exact ⟨0, rfl, Nat.le_refl _, by simp [tr_nil]⟩
  | succ k ih =>
    intro n hk hn
    obtain ⟨m, rfl⟩ := Nat.exists_eq_succ_of_ne_zero (show n ≠ 0 by omega)
    have hlt : k < l.length := by omega
    have e : IntKind.i64.wrap (((k + 1 : Nat) : Int) - 1) = (k : Nat) := by rw [w64 (by omega) (by omega)]; omega
    rw [surveyorref01_cut.l0, surveyorref01_cut.r0, decide_eq_true (by omega), brT, e, idxL_nat _ _ hlt, bdS, List.take_succ_eq_append_getElem hlt]
    by_cases h : l[k] = 0
    · have : (l[k] == 0) = true := by simp [h]
      rw [this, brT, h, tr_snoc0]
      obtain ⟨j, e1, e2, e3⟩ := ih m (by omega) (by omega)
      exact ⟨j, e1, by omega, e3⟩
    · have : (l[k] == 0) = false := by simp [h]
      rw [this, brF, tr_snoc _ _ h]
      exact ⟨k + 1, rfl, Nat.le_refl _, by rw [List.take_succ_eq_append_getElem hlt]⟩
theorem cut_f (lf : Nat) (l : List Int) (hl : l.length ≤ 100000) (h3 : 200000 ≤ lf) : surveyorref01_cut.f lf l = some (tr l, ()) := by
  obtain ⟨j, e1, e2, e3⟩ := cut_l0 lf l (by omega) l.length (lf + 40) (Nat.le_refl _) (by omega)
  rw [surveyorref01_cut.f, e1, bdS]
  simp only
  rw [cutL_to _ _ j rfl e2, bdS, e3, List.take_length]
theorem rorder_l0 (lf : Nat) (xs ys : List Int) (hx : Dg 10 xs) (hy : Dg 10 ys) (hl : xs.length = ys.length) (hb : xs.length ≤ 1000000) : ∀ (i n : Nat) (hi : i ≤ xs.length), i < n →
    ∃ b v, surveyorref01_order.l0 lf xs ys n ((i : Nat) - 1 : Int) = some (b, (v, ()), (), ()) ∧ (if b = true then v else 0) = sgn (lv 10 (xs.take i) - lv 10 (ys.take i)) := by
  intro i
  induction i with
  | zero =>
    intro n hi hn
    obtain ⟨m, rfl⟩ := Nat.exists_eq_succ_of_ne_zero (show n ≠ 0 by omega)
    refine ⟨false, 0, ?_, by simp [sgn, lv]⟩
    rw [surveyorref01_order.l0, surveyorref01_order.r0, decide_eq_false (by omega), brF]
  | succ i ih =>
    intro n hi hn
    obtain ⟨m, rfl⟩ := Nat.exists_eq_succ_of_ne_zero (show n ≠ 0 by omega)
    have e : ((i + 1 : Nat) : Int) - 1 = (i : Nat) := by omega
    rw [surveyorref01_order.l0, surveyorref01_order.r0, decide_eq_true (by omega), brT, idxL_int xs _ i e (by omega), bdS, idxL_int ys _ i e (by omega), bdS]
    by_cases h : xs[i] = ys[i]'(by omega)
    · have hne : (xs[i] != ys[i]'(by omega)) = false := by simp [h]
      rw [hne, brF, w64 (by omega) (by omega), e]
      obtain ⟨b, v, h1, h2⟩ := ih m (by omega) (by omega)
      refine ⟨b, v, h1, ?_⟩
      rw [lv_take_succ 10 xs i (by omega), lv_take_succ 10 ys i (by omega), h]
      rwa [show lv 10 (xs.take i) + 10 ^ i * ys[i] - (lv 10 (ys.take i) + 10 ^ i * ys[i]) = lv 10 (xs.take i) - lv 10 (ys.take i) by omega]
    · have hne : (xs[i] != ys[i]'(by omega)) = true := by simp [h]
      rw [hne, brT, bdS, bdS]
      rcases Int.lt_or_lt_of_ne h with hlt | hlt
      · have := top_cmp (B := 10) (by decide) hx hy i (by omega) (by omega) hlt
        rw [decide_eq_true hlt, brT]
        exact ⟨true, _, rfl, by rw [if_pos rfl, sgn, if_pos (by omega)]⟩
      · have := top_cmp (B := 10) (by decide) hy hx i (by omega) (by omega) hlt
        rw [decide_eq_false (by omega), brF]
        exact ⟨true, _, rfl, by rw [if_pos rfl, sgn, if_neg (by omega), if_neg (by omega)]⟩
theorem rorder_f (lf : Nat) (xs ys : List Int) (hx : Dg 10 xs) (hy : Dg 10 ys) (t1 : Tr xs) (t2 : Tr ys) (h1 : xs.length ≤ 100000) (h2 : ys.length ≤ 100000) (h3 : 200000 ≤ lf) :
    surveyorref01_order.f lf xs ys = some (sgn (lv 10 xs - lv 10 ys), ()) := by
  rw [surveyorref01_order.f]
  by_cases h : xs.length = ys.length
  · have hne : (((xs.length : Nat) : Int) != ((ys.length : Nat) : Int)) = false := by simp [h]
    rw [hne, brF, w64 (by omega) (by omega)]
    obtain ⟨b, v, k1, k2⟩ := rorder_l0 lf xs ys hx hy h (by omega) xs.length (lf + 40) (Nat.le_refl _) (by omega)
    rw [List.take_of_length_le (Nat.le_refl _), List.take_of_length_le (by omega)] at k2
    rw [k1, bdS, ← k2]
    cases b with
    | true => simp only [brT]; simp
    | false => simp only [brF]; simp
  · have hne : (((xs.length : Nat) : Int) != ((ys.length : Nat) : Int)) = true := by
      simp only [bne_iff_ne, ne_eq]; omega
    rw [hne, brT]
    rcases Nat.lt_or_gt_of_ne h with hlt | hlt
    · have := lv_len_lt (B := 10) (by decide) hx hy t2 hlt
      rw [decide_eq_true (by omega), brT, sgn, if_pos (by omega)]
    · have := lv_len_lt (B := 10) (by decide) hy hx t1 hlt
      rw [decide_eq_false (by omega), brF, sgn, if_neg (by omega), if_neg (by omega)]
theorem sgn_neg (z : Int) : sgn (-z) = -sgn z := by unfold sgn; (repeat' split) <;> omega
theorem sgn_pos {z : Int} (h : 0 < z) : sgn z = 1 := by unfold sgn; rw [if_neg (by omega), if_neg (by omega)]
theorem order_ref (lf : Nat) (l m : List UInt8) (h1 : can l = true) (h2 : can m = true) (l1 : l.length ≤ 100000) (l2 : m.length ≤ 100000) (h3 : 200000 ≤ lf) :
    surveyorref01_Order.f lf (bs l) (bs m) = some (sgn (iv l - iv m), ()) := by
  rw [surveyorref01_Order.f, sign_ref lf l h1, bdS, sign_ref lf m h2, bdS]
  simp only
  by_cases hs : sgn (iv l) = sgn (iv m)
  · have hne : (sgn (iv l) != sgn (iv m)) = false := by simp [hs]
    rw [hne, brF, digits_ref lf l h1 l1 h3, bdS]
    have b1 : (body l).length ≤ l.length := nlen_le l
    have b2 : (body m).length ≤ m.length := nlen_le m
    rw [cut_f lf _ (by rw [ld_len]; omega) h3, bdS, digits_ref lf m h2 l2 h3, bdS, cut_f lf _ (by rw [ld_len]; omega) h3, bdS]
    have c1 := tr_len (ld (body l))
    have c2 := tr_len (ld (body m))
    rw [ld_len] at c1 c2
    rw [rorder_f lf _ _ (dg_tr (ld_dg (can_parts h1).1)) (dg_tr (ld_dg (can_parts h2).1)) (tr_tr _) (tr_tr _) (by omega) (by omega) h3, bdS]
    simp only
    rw [lv_tr, lv_tr, lv_ld, lv_ld]
    have hw : ∀ a b : Int, -1 ≤ a → a ≤ 1 → -1 ≤ b → b ≤ 1 → IntKind.i64.wrap (a * b) = a * b := by
      intro a b a1 a2 b1 b2
      have : a = -1 ∨ a = 0 ∨ a = 1 := by omega
      have : b = -1 ∨ b = 0 ∨ b = 1 := by omega
      apply w64
      · rcases ‹a = -1 ∨ a = 0 ∨ a = 1› with rfl | rfl | rfl <;> omega
      · rcases ‹a = -1 ∨ a = 0 ∨ a = 1› with rfl | rfl | rfl <;> omega
    have hr : ∀ z : Int, -1 ≤ sgn z ∧ sgn z ≤ 1 := by intro z; unfold sgn; split <;> (try split) <;> omega
    rw [hw _ _ (hr _).1 (hr _).2 (hr _).1 (hr _).2]
    congr 2
    unfold iv at hs ⊢
    generalize neg l = nl at hs ⊢
    generalize neg m = nm at hs ⊢
    generalize dv (body l) = x at hs ⊢
    generalize dv (body m) = y at hs ⊢
    clear hne hr hw
    have s0 : sgn 0 = 0 := rfl
    rcases Nat.eq_zero_or_pos x with hx | hx <;> rcases Nat.eq_zero_or_pos y with hy | hy
    · subst hx; subst hy; cases nl <;> cases nm <;> rfl
    · subst hx
      have p2 := sgn_pos (show (0 : Int) < (y : Int) by omega)
      cases nl <;> cases nm <;> simp [sgn_neg, p2, s0] at hs
    · subst hy
      have p2 := sgn_pos (show (0 : Int) < (x : Int) by omega)
      cases nl <;> cases nm <;> simp [sgn_neg, p2, s0] at hs
    · have p1 := sgn_pos (show (0 : Int) < (x : Int) by omega)
      have p2 := sgn_pos (show (0 : Int) < (y : Int) by omega)
      cases nl <;> cases nm
      · simp [p1]
      · simp [sgn_neg, p1, p2] at hs
      · simp [sgn_neg, p1, p2] at hs
      · simp only [if_true, sgn_neg, p1]
        rw [show -(x : Int) - -(y : Int) = -((x : Int) - (y : Int)) by omega, sgn_neg]
        omega
  · have hne : (sgn (iv l) != sgn (iv m)) = true := by simp [hs]
    rw [hne, brT]
    unfold sgn at hs ⊢
    by_cases h : sgn (iv l) < sgn (iv m)
    · unfold sgn at h
      rw [decide_eq_true h, brT]
      congr 2
      repeat' split at h
      all_goals (try omega)
      all_goals (repeat' split)
      all_goals omega
    · unfold sgn at h
      rw [decide_eq_false h, brF]
      congr 2
      repeat' split at h
      all_goals (try omega)
      all_goals (repeat' split)
      all_goals omega
theorem less_f (lf : Nat) (l m : List UInt8) (h1 : can l = true) (h2 : can m = true) (l1 : l.length ≤ 100000) (l2 : m.length ≤ 100000) (h3 : 200000 ≤ lf) :
    surveyorref01_Less.f lf (bs l) (bs m) = some (decide (iv l < iv m), ()) := by
  rw [surveyorref01_Less.f, order_ref lf l m h1 h2 l1 l2 h3, bdS]
  congr 2
  simp only [decide_eq_decide]
  unfold sgn
  split
  · omega
  · split <;> omega
end Go.N
/-! # Intervals: bounds, spans, checks -/
namespace Go.N
open Go Go.Q Go.Rx
set_option exponentiation.threshold 5000
set_option linter.unusedVariables false
set_option linter.unusedSimpArgs false

/-! ### how long an integer's text is -/
def sz (z : Int) : Nat := nlen (Lib.itoa z)
theorem body_itoa (z : Int) : body (Lib.itoa z) = Lib.decDigits z.natAbs := by
  unfold body Lib.itoa
  by_cases h : z < 0
  · rw [if_pos h]; simp
  · rw [if_neg h, if_neg (dec_no45 _)]
    congr 1; omega
theorem sz_le (z : Int) (k : Nat) (hk : 0 < k) : sz z ≤ k ↔ z.natAbs < 10 ^ k := by
  unfold sz nlen
  rw [body_itoa]
  constructor
  · intro h
    have := dv_lt _ (dec_all z.natAbs)
    rw [dv_dec] at this
    exact Nat.lt_of_lt_of_le this (Nat.pow_le_pow_right (by omega) h)
  · intro h
    obtain ⟨j, rfl⟩ := Nat.exists_eq_succ_of_ne_zero (show k ≠ 0 by omega)
    exact dec_len_le j _ h
/-- The bounds of what the program takes: 4096 digits, and 100 in a domain. -/
@[irreducible] def K : Int := ((10 ^ 4096 : Nat) : Int)
@[irreducible] def C : Int := ((10 ^ 100 : Nat) : Int)
theorem sz_K (z : Int) : sz z ≤ 4096 ↔ -K < z ∧ z < K := by
  rw [sz_le z 4096 (by omega)]
  unfold K
  generalize 10 ^ 4096 = n
  omega
theorem sz_C (z : Int) : sz z ≤ 100 ↔ -C < z ∧ z < C := by
  rw [sz_le z 100 (by omega)]
  unfold C
  generalize 10 ^ 100 = n
  omega
theorem C_lt_K : C < K := by
  unfold C K
  have : (10 : Nat) ^ 100 < 10 ^ 4096 := Nat.pow_lt_pow_right (by omega) (by omega)
  exact Int.ofNat_lt.2 this
theorem C_gt : 1000000 < C := by
  unfold C
  have : (1000000 : Nat) < 10 ^ 100 := by decide +kernel
  omega
theorem K_gt : 1000000 < K := Int.lt_trans C_gt C_lt_K
theorem itoa_len (z : Int) (h : sz z ≤ 4096) : (Lib.itoa z).length ≤ 4097 := by
  have := len_nlen (Lib.itoa z)
  unfold sz at h
  omega
theorem chk_itoa (z : Int) : chk (Lib.itoa z) = 0 ↔ -K < z ∧ z < K := by
  rw [chk_zero, ← sz_K]
  exact ⟨fun h => h.2, fun h => ⟨can_itoa z, h⟩⟩
theorem num_itoa (z : Int) : num (Lib.itoa z) = 0 ↔ -C < z ∧ z < C := by
  rw [num_zero, ← sz_C]
  exact ⟨fun h => h.2, fun h => ⟨can_itoa z, h⟩⟩
theorem itoa_ne (z : Int) : Lib.itoa z ≠ [] := (can_parts (can_itoa z)).2.2
theorem itoa_inj {x y : Int} (h : Lib.itoa x = Lib.itoa y) : x = y := by rw [← iv_itoa x, ← iv_itoa y, h]

/-! ### bounds -/
inductive X where
  | ni
  | fin (z : Int)
  | pi
deriving DecidableEq
abbrev EB : Type := Int × (ByteArray × Unit)
abbrev IV : Type := Bool × (ByteArray × (ByteArray × Unit))
def xc : X → EB
  | .ni => (-1, bs [], ())
  | .fin z => (0, bs (Lib.itoa z), ())
  | .pi => (1, bs [], ())
/-- What a bound is, for comparisons. -/
def key : X → Int
  | .ni => -K
  | .fin z => z
  | .pi => K
/-- A bound that can be compared. -/
def okx (k : Int) : X → Prop
  | .fin z => -k < z ∧ z < k
  | _ => True
theorem okx.mono {k k' : Int} (h : k ≤ k') {x : X} (hx : okx k x) : okx k' x := by cases x <;> simp_all [okx]; omega
theorem key_le {x : X} (h : okx K x) : -K ≤ key x ∧ key x ≤ K := by
  have := K_gt
  cases x <;> simp only [okx, key] at * <;> omega
theorem key_inj {x y : X} (hx : okx K x) (hy : okx K y) (h : key x = key y) : x = y := by
  have := K_gt
  cases x <;> cases y <;> simp only [okx, key, X.fin.injEq, reduceCtorEq] at * <;> omega
theorem key_ni {x : X} (hx : okx K x) (h : key x ≤ -K) : x = .ni := by
  have := K_gt
  cases x <;> simp only [okx, key, reduceCtorEq] at * <;> omega
theorem key_pi {x : X} (hx : okx K x) (h : K ≤ key x) : x = .pi := by
  have := K_gt
  cases x <;> simp only [okx, key, reduceCtorEq] at * <;> omega
theorem cmp_f (lf : Nat) (h3 : 200000 ≤ lf) {x y : X} (hx : okx K x) (hy : okx K y) : ∃ c, interval_compare.f lf (xc x) (xc y) = some (c, ()) ∧ Sg c (key x - key y) := by
  have hK := K_gt
  rw [interval_compare.f]
  cases x with
  | ni => cases y with
    | ni => exact ⟨0, (brT _ _).trans rfl, by simp [Sg, key]⟩
    | fin z => exact ⟨-1, (brT _ _).trans rfl, by simp only [okx, key, Sg] at *; omega⟩
    | pi => exact ⟨-2, (brT _ _).trans rfl, by simp only [okx, key, Sg] at *; omega⟩
  | pi => cases y with
    | ni => exact ⟨2, (brT _ _).trans rfl, by simp only [okx, key, Sg] at *; omega⟩
    | fin z => exact ⟨1, (brT _ _).trans rfl, by simp only [okx, key, Sg] at *; omega⟩
    | pi => exact ⟨0, (brT _ _).trans rfl, by simp [Sg, key]⟩
  | fin z => cases y with
    | ni => exact ⟨1, (brF _ _).trans ((brT _ _).trans rfl), by simp only [okx, key, Sg] at *; omega⟩
    | pi => exact ⟨-1, (brF _ _).trans ((brT _ _).trans rfl), by simp only [okx, key, Sg] at *; omega⟩
    | fin u =>
      refine ⟨sgn (z - u), ?_, ?_⟩
      · simp only [xc, bne_self_eq_false, brF]
        rw [iorder_f lf _ _ ((chk_itoa z).2 hx) ((chk_itoa u).2 hy) h3, bdS, iv_itoa, iv_itoa]
      · simp only [key, Sg, sgn]; constructor <;> (repeat' split) <;> omega
def xmin (x y : X) : X := if key y < key x then y else x
def xmax (x y : X) : X := if key y > key x then y else x
theorem xmin_ok {k : Int} {x y : X} (hx : okx k x) (hy : okx k y) : okx k (xmin x y) := by unfold xmin; split <;> assumption
theorem xmax_ok {k : Int} {x y : X} (hx : okx k x) (hy : okx k y) : okx k (xmax x y) := by unfold xmax; split <;> assumption
theorem key_min (x y : X) : key (xmin x y) = min (key x) (key y) := by unfold xmin; split <;> omega
theorem key_max (x y : X) : key (xmax x y) = max (key x) (key y) := by unfold xmax; split <;> omega
theorem least_f (lf : Nat) (h3 : 200000 ≤ lf) {x y : X} (hx : okx K x) (hy : okx K y) : interval_least.f lf (xc x) (xc y) = some (xc (xmin x y), ()) := by
  obtain ⟨c, e, s1, s2⟩ := cmp_f lf h3 hy hx
  rw [interval_least.f, e, bdS]
  unfold xmin
  by_cases h : key y < key x
  · rw [decide_eq_true (by omega), brT, if_pos h]
  · rw [decide_eq_false (by omega), brF, if_neg h]
theorem most_f (lf : Nat) (h3 : 200000 ≤ lf) {x y : X} (hx : okx K x) (hy : okx K y) : interval_most.f lf (xc x) (xc y) = some (xc (xmax x y), ()) := by
  obtain ⟨c, e, s1, s2⟩ := cmp_f lf h3 hy hx
  rw [interval_most.f, e, bdS]
  unfold xmax
  by_cases h : key y > key x
  · rw [decide_eq_true (by omega), brT, if_pos h]
  · rw [decide_eq_false (by omega), brF, if_neg h]

/-! ### spans -/
structure Sp where
  lo : X
  hi : X
deriving DecidableEq
def sc (s : Sp) : EB × (EB × Unit) := (xc s.lo, xc s.hi, ())
def oks (k : Int) (s : Sp) : Prop := okx k s.lo ∧ okx k s.hi
theorem oks.mono {k k' : Int} (h : k ≤ k') {s : Sp} (hs : oks k s) : oks k' s := ⟨hs.1.mono h, hs.2.mono h⟩
def emp (s : Sp) : Bool := decide (key s.lo > key s.hi)
theorem empty_f (lf : Nat) (h3 : 200000 ≤ lf) {s : Sp} (hs : oks K s) : interval_span_empty.f lf (sc s) = some (emp s, ()) := by
  obtain ⟨c, e, s1, s2⟩ := cmp_f lf h3 hs.1 hs.2
  rw [interval_span_empty.f]
  simp only [sc]
  rw [e, bdS]
  unfold emp
  congr 2
  simp only [decide_eq_decide]; omega
def non : Sp := ⟨.pi, .ni⟩
theorem none_f (lf : Nat) : interval_none.f lf = some (sc non, ()) := by
  rw [interval_none.f, interval_infinite.f, bdS, interval_infinite.f, bdS]; rfl
theorem non_ok {k : Int} : oks k non := ⟨trivial, trivial⟩
theorem emp_non : emp non = true := by
  have := K_gt
  show decide (K > -K) = true
  exact decide_eq_true (by omega)
def hull (s t : Sp) : Sp := if emp s = true then t else if emp t = true then s else ⟨xmin s.lo t.lo, xmax s.hi t.hi⟩
theorem hull_ok {k : Int} {s t : Sp} (hs : oks k s) (ht : oks k t) : oks k (hull s t) := by
  unfold hull; split
  · exact ht
  · split
    · exact hs
    · exact ⟨xmin_ok hs.1 ht.1, xmax_ok hs.2 ht.2⟩
theorem hull_f (lf : Nat) (h3 : 200000 ≤ lf) {s t : Sp} (hs : oks K s) (ht : oks K t) : interval_span_hull.f lf (sc s) (sc t) = some (sc (hull s t), ()) := by
  rw [interval_span_hull.f, empty_f lf h3 hs, bdS, empty_f lf h3 ht]
  unfold hull
  cases emp s with
  | true => rw [brT, if_pos rfl]
  | false =>
    rw [brF, bdS, if_neg (by simp)]
    cases emp t with
    | true => rw [brT, if_pos rfl]
    | false =>
      rw [brF, if_neg (by simp)]
      simp only [sc]
      rw [least_f lf h3 hs.1 ht.1, bdS, most_f lf h3 hs.2 ht.2, bdS]
def common (s t : Sp) : Sp := ⟨xmax s.lo t.lo, xmin s.hi t.hi⟩
theorem common_ok {k : Int} {s t : Sp} (hs : oks k s) (ht : oks k t) : oks k (common s t) := ⟨xmax_ok hs.1 ht.1, xmin_ok hs.2 ht.2⟩
theorem common_f (lf : Nat) (h3 : 200000 ≤ lf) {s t : Sp} (hs : oks K s) (ht : oks K t) : interval_span_common.f lf (sc s) (sc t) = some (sc (common s t), ()) := by
  rw [interval_span_common.f]
  simp only [sc]
  rw [most_f lf h3 hs.1 ht.1, bdS, least_f lf h3 hs.2 ht.2, bdS]
  rfl

/-! ### intervals as data -/
/-- A bound's text: none is the empty one. -/
def ob : Option Int → ByteArray
  | none => bs []
  | some z => bs (Lib.itoa z)
theorem ob_inj {x y : Option Int} (h : ob x = ob y) : x = y := by
  cases x with
  | none => cases y with
    | none => rfl
    | some v => exact absurd (bs_inj h).symm (itoa_ne v)
  | some u => cases y with
    | none => exact absurd (bs_inj h) (itoa_ne u)
    | some v => rw [itoa_inj (bs_inj h)]
structure A where
  em : Bool
  lo : Option Int
  hi : Option Int
deriving DecidableEq
def ac (a : A) : IV := (a.em, ob a.lo, ob a.hi, ())
theorem ac_inj {a b : A} (h : ac a = ac b) : a = b := by
  obtain ⟨e, l, m⟩ := a
  obtain ⟨e', l', m'⟩ := b
  simp only [ac, Prod.mk.injEq] at h
  obtain ⟨rfl, h1, h2, _⟩ := h
  rw [ob_inj h1, ob_inj h2]
def okb (k : Int) : Option Int → Prop
  | none => True
  | some z => -k < z ∧ z < k
def le? : Option Int → Option Int → Prop
  | some x, some y => x ≤ y
  | _, _ => True
/-- A right interval. -/
structure Wf (a : A) : Prop where
  em : a.em = true → a.lo = none ∧ a.hi = none
  lo : okb C a.lo
  hi : okb C a.hi
  le : le? a.lo a.hi
def lox : Option Int → X
  | none => .ni
  | some z => .fin z
def hix : Option Int → X
  | none => .pi
  | some z => .fin z
def ofA (a : A) : Sp := if a.em = true then non else ⟨lox a.lo, hix a.hi⟩
theorem okb_lox {k : Int} {x : Option Int} (h : okb k x) : okx k (lox x) := by cases x <;> simp_all [okb, lox, okx]
theorem okb_hix {k : Int} {x : Option Int} (h : okb k x) : okx k (hix x) := by cases x <;> simp_all [okb, hix, okx]
theorem ofA_ok {k : Int} {a : A} (h1 : okb k a.lo) (h2 : okb k a.hi) : oks k (ofA a) := by
  unfold ofA; split
  · exact non_ok
  · exact ⟨okb_lox h1, okb_hix h2⟩
theorem ob_beq (x : Option Int) : ((ob x).toList == (⟨#[]⟩ : ByteArray).toList) = decide (x = none) := by
  cases x with
  | none => rw [ob, show (⟨#[]⟩ : ByteArray) = bs [] from rfl, beq_bs]; simp
  | some z =>
    rw [ob, show (⟨#[]⟩ : ByteArray) = bs [] from rfl, beq_bs, decide_eq_false (itoa_ne z)]
    simp
theorem of_f (lf : Nat) (a : A) : interval_of.f lf (ac a) = some (sc (ofA a), ()) := by
  obtain ⟨em, lo, hi⟩ := a
  rw [interval_of.f]
  simp only [ac, ofA]
  cases em with
  | true => rw [brT, none_f, bdS]; rfl
  | false =>
    simp only [brF, interval_infinite.f, interval_finite.f, bdS, ob_beq]
    cases lo <;> cases hi <;> simp [brT, brF, sc, lox, hix, xc, ob]
def clip (z : Int) : Option Int := if -C < z ∧ z < C then some z else none
def tx : X → Option Int
  | .fin z => clip z
  | _ => none
theorem text_f (lf : Nat) {x : X} (hx : okx K x) : interval_text.f lf (xc x) = some (ob (tx x), ()) := by
  rw [interval_text.f]
  cases x with
  | ni => exact (brT _ _).trans rfl
  | pi => exact (brT _ _).trans rfl
  | fin z =>
    simp only [xc, bne_self_eq_false, brF]
    have hz := (sz_K z).2 hx
    rw [idigits_f lf _ (by have := itoa_len z hz; omega), bdS]
    simp only [tx, clip]
    have := sz_C z
    unfold sz at this
    by_cases h : nlen (Lib.itoa z) ≤ 100
    · rw [decide_eq_false (by omega), brF, if_pos (this.1 h)]; rfl
    · rw [decide_eq_true (by omega), brT, if_neg (fun h' => h (this.2 h'))]; rfl
def toA (s : Sp) : A := if emp s = true then ⟨true, none, none⟩ else ⟨false, tx s.lo, tx s.hi⟩
theorem interval_f (lf : Nat) (h3 : 200000 ≤ lf) {s : Sp} (hs : oks K s) : interval_span_interval.f lf (sc s) = some (ac (toA s), ()) := by
  rw [interval_span_interval.f, empty_f lf h3 hs, bdS]
  unfold toA
  cases emp s with
  | true => rw [brT, if_pos rfl]; rfl
  | false =>
    rw [brF, if_neg (by simp)]
    simp only [sc]
    rw [text_f lf hs.1, bdS, text_f lf hs.2, bdS]
    rfl
end Go.N
/-! # Intervals: the checks, the order, joins and meets -/
namespace Go.N
open Go Go.Q Go.Rx
set_option linter.unusedVariables false
set_option linter.unusedSimpArgs false

def ck (em : Bool) (l h : List UInt8) : Int :=
  if em = true ∧ (l ≠ [] ∨ h ≠ []) then 3 else if l ≠ [] ∧ num l ≠ 0 then num l else if h ≠ [] ∧ num h ≠ 0 then num h else if l ≠ [] ∧ h ≠ [] ∧ iv h < iv l then 14 else 0
theorem num_chk {l : List UInt8} (h : num l = 0) : chk l = 0 := chk_zero.2 ⟨(num_zero.1 h).1, by have := (num_zero.1 h).2; omega⟩
theorem num_len {l : List UInt8} (h : num l = 0) : l.length ≤ 101 := by have := len_nlen l; have := (num_zero.1 h).2; omega
theorem bneT {x : Int} (h : ¬ x = 0) : (x != 0) = true := by simpa using h
theorem e0 : (⟨#[]⟩ : ByteArray) = bs [] := rfl
theorem sgn_gt (a b : Int) : decide (sgn (a - b) > 0) = decide (b < a) := by
  simp only [decide_eq_decide]; unfold sgn; (repeat' split) <;> omega
set_option maxHeartbeats 1000000 in
theorem check_iv (lf : Nat) (h3 : 200000 ≤ lf) (em : Bool) (l h : List UInt8) (hl : l.length ≤ 9223372036854775807) (hh : h.length ≤ 9223372036854775807) : interval_Check.f lf (em, bs l, bs h, ()) = some (ck em l h, ()) := by
  rw [interval_Check.f]
  simp only [e0, beq_bs, number_f lf l (by omega), number_f lf h (by omega), bdS]
  have ho : num l = 0 → num h = 0 → interval_order.f lf (bs l) (bs h) = some (sgn (iv l - iv h), ()) := fun a b => iorder_f lf l h (num_chk a) (num_chk b) h3
  unfold ck
  by_cases n1 : num l = 0 <;> by_cases n2 : num h = 0
  · simp only [ho n1 n2, bdS, sgn_gt]
    by_cases h1 : l = [] <;> by_cases h2 : h = [] <;> by_cases h4 : iv h < iv l <;> cases em <;> simp [h1, h2, h4, n1, n2, brT, brF] <;> simp_all
  · by_cases h1 : l = [] <;> by_cases h2 : h = [] <;> cases em <;> simp [h1, h2, n1, n2, bneT n2, brT, brF] <;> simp_all [bneT n2, brT]
  · by_cases h1 : l = [] <;> by_cases h2 : h = [] <;> cases em <;> simp [h1, h2, n1, n2, bneT n1, brT, brF] <;> simp_all [bneT n1, brT]
  · by_cases h1 : l = [] <;> by_cases h2 : h = [] <;> cases em <;> simp [h1, h2, n1, n2, bneT n1, bneT n2, brT, brF] <;> simp_all [bneT n1, bneT n2, brT]
theorem bound_ref (lf : Nat) (l : List UInt8) (hl : l.length ≤ 9223372036854775807) (hf : l.length ≤ lf) : surveyorref21_bound.f lf (bs l) = some ((if l = [] then 0 else num l), ()) := by
  rw [surveyorref21_bound.f, e0, beq_bs, rNumber_f lf l hl hf, bdS]
  by_cases h : l = []
  · rw [decide_eq_true h, brT, if_pos h]
  · rw [decide_eq_false h, brF, if_neg h]
set_option maxHeartbeats 1000000 in
theorem check_ref (lf : Nat) (h3 : 200000 ≤ lf) (em : Bool) (l h : List UInt8) (hl : l.length ≤ 9223372036854775807) (hh : h.length ≤ 9223372036854775807) (fl : l.length ≤ lf) (fh : h.length ≤ lf) : surveyorref21_Check.f lf (em, bs l, bs h, ()) = some (ck em l h, ()) := by
  rw [surveyorref21_Check.f]
  simp only [e0, beq_bs, bound_ref lf l hl fl, bound_ref lf h hh fh, bdS]
  have ho : num l = 0 → num h = 0 → surveyorref01_Less.f lf (bs h) (bs l) = some (decide (iv h < iv l), ()) := fun a b =>
    less_f lf h l (num_zero.1 b).1 (num_zero.1 a).1 (by have := num_len b; omega) (by have := num_len a; omega) h3
  unfold ck
  by_cases n1 : num l = 0 <;> by_cases n2 : num h = 0
  · simp only [ho n1 n2, bdS]
    by_cases h1 : l = [] <;> by_cases h2 : h = [] <;> by_cases h4 : iv h < iv l <;> cases em <;> simp [h1, h2, h4, n1, n2, brT, brF] <;> simp_all
  · by_cases h1 : l = [] <;> by_cases h2 : h = [] <;> cases em <;> simp [h1, h2, n1, n2, bneT n2, brT, brF] <;> simp_all [bneT n2, brT]
  · by_cases h1 : l = [] <;> by_cases h2 : h = [] <;> cases em <;> simp [h1, h2, n1, n2, bneT n1, brT, brF] <;> simp_all [bneT n1, brT]
  · by_cases h1 : l = [] <;> by_cases h2 : h = [] <;> cases em <;> simp [h1, h2, n1, n2, bneT n1, bneT n2, brT, brF] <;> simp_all [bneT n1, bneT n2, brT]

/-- What a check lets by is a right interval. -/
theorem ck_wf {em : Bool} {l h : List UInt8} (hc : ck em l h = 0) : ∃ a : A, ((em, bs l, bs h, ()) : IV) = ac a ∧ Wf a := by
  have c1 : ¬ (em = true ∧ (l ≠ [] ∨ h ≠ [])) := by intro hx; unfold ck at hc; rw [if_pos hx] at hc; cases hc
  have c2 : ¬ (l ≠ [] ∧ num l ≠ 0) := by intro hx; unfold ck at hc; rw [if_neg c1, if_pos hx] at hc; exact hx.2 hc
  have c3 : ¬ (h ≠ [] ∧ num h ≠ 0) := by intro hx; unfold ck at hc; rw [if_neg c1, if_neg c2, if_pos hx] at hc; exact hx.2 hc
  have c4 : ¬ (l ≠ [] ∧ h ≠ [] ∧ iv h < iv l) := by intro hx; unfold ck at hc; rw [if_neg c1, if_neg c2, if_neg c3, if_pos hx] at hc; cases hc
  have key : ∀ m : List UInt8, ¬ (m ≠ [] ∧ num m ≠ 0) → ∃ o : Option Int, bs m = ob o ∧ okb C o ∧ (o = none ↔ m = []) ∧ ∀ z, o = some z → z = iv m := by
    intro m hm
    by_cases h0 : m = []
    · exact ⟨none, by rw [h0]; rfl, trivial, by simp [h0], by simp⟩
    · have hn : num m = 0 := by
        by_cases e : num m = 0
        · exact e
        · exact absurd ⟨h0, e⟩ hm
      have e := itoa_iv (num_zero.1 hn).1
      have hb := hn
      rw [e, num_itoa] at hb
      exact ⟨some (iv m), by rw [ob, ← e], hb, by simp [h0], fun z hz => (Option.some.inj hz).symm⟩
  obtain ⟨o1, a1, b1, d1, f1⟩ := key l c2
  obtain ⟨o2, a2, b2, d2, f2⟩ := key h c3
  refine ⟨⟨em, o1, o2⟩, by rw [ac, a1, a2], ⟨?_, b1, b2, ?_⟩⟩
  · intro he
    constructor
    · apply d1.2
      by_cases e : l = []
      · exact e
      · exact absurd ⟨he, .inl e⟩ c1
    · apply d2.2
      by_cases e : h = []
      · exact e
      · exact absurd ⟨he, .inr e⟩ c1
  · cases o1 with
    | none => trivial
    | some x => cases o2 with
      | none => trivial
      | some y =>
        have h1 : l ≠ [] := fun e => by cases d1.2 e
        have h2 : h ≠ [] := fun e => by cases d2.2 e
        have e1 := f1 x rfl
        have e2 := f2 y rfl
        simp only [le?]
        by_cases hle : x ≤ y
        · exact hle
        · exact absurd ⟨h1, h2, by omega⟩ c4
theorem wf_ck {a : A} (h : Wf a) : ∃ l m, ac a = (a.em, bs l, bs m, ()) ∧ ck a.em l m = 0 ∧ l.length ≤ 101 ∧ m.length ≤ 101 := by
  have key : ∀ o : Option Int, okb C o → ∃ m, ob o = bs m ∧ (m ≠ [] → num m = 0) ∧ (m = [] ↔ o = none) ∧ (∀ z, o = some z → iv m = z) ∧ m.length ≤ 101 := by
    intro o ho
    cases o with
    | none => exact ⟨[], rfl, fun h => absurd rfl h, by simp, by simp, by simp⟩
    | some z =>
      have hn := (num_itoa z).2 ho
      exact ⟨Lib.itoa z, rfl, fun _ => hn, by simp [itoa_ne z], fun u hu => by rw [iv_itoa]; exact Option.some.inj hu, num_len hn⟩
  obtain ⟨l, a1, b1, c1, d1, e1⟩ := key a.lo h.lo
  obtain ⟨m, a2, b2, c2, d2, e2⟩ := key a.hi h.hi
  refine ⟨l, m, by rw [ac, a1, a2], ?_, e1, e2⟩
  unfold ck
  have hem := h.em
  have hle := h.le
  rw [if_neg, if_neg, if_neg, if_neg]
  · rintro ⟨x1, x2, x3⟩
    cases hlo : a.lo with
    | none => exact x1 (c1.2 hlo)
    | some x => cases hhi : a.hi with
      | none => exact x2 (c2.2 hhi)
      | some y =>
        rw [hlo, hhi] at hle
        simp only [le?] at hle
        rw [d1 x hlo, d2 y hhi] at x3
        omega
  · rintro ⟨x1, x2⟩; exact x2 (b2 x1)
  · rintro ⟨x1, x2⟩; exact x2 (b1 x1)
  · rintro ⟨x1, x2⟩
    obtain ⟨p, q⟩ := hem x1
    rcases x2 with x2 | x2
    · exact x2 (c1.2 p)
    · exact x2 (c2.2 q)
theorem check_wf (lf : Nat) (h3 : 200000 ≤ lf) {a : A} (h : Wf a) : interval_Check.f lf (ac a) = some (0, ()) := by
  obtain ⟨l, m, e, hc, h1, h2⟩ := wf_ck h
  rw [e, check_iv lf h3 _ _ _ (by omega) (by omega), hc]
theorem check_wf_ref (lf : Nat) (h3 : 200000 ≤ lf) {a : A} (h : Wf a) : surveyorref21_Check.f lf (ac a) = some (0, ()) := by
  obtain ⟨l, m, e, hc, h1, h2⟩ := wf_ck h
  rw [e, check_ref lf h3 _ _ _ (by omega) (by omega) (by omega) (by omega), hc]

/-! ### right intervals as spans -/
theorem Wf.okC {a : A} (h : Wf a) : oks C (ofA a) := ofA_ok h.lo h.hi
theorem Wf.okK {a : A} (h : Wf a) : oks K (ofA a) := h.okC.mono (Int.le_of_lt C_lt_K)
theorem emp_ofA {a : A} (h : Wf a) : emp (ofA a) = a.em := by
  have hK := K_gt
  have hC := C_lt_K
  obtain ⟨em, lo, hi⟩ := a
  obtain ⟨h1, h2, h3, h4⟩ := h
  unfold ofA
  cases em with
  | true => exact emp_non
  | false =>
    rw [if_neg (by simp)]
    apply decide_eq_false
    cases lo <;> cases hi <;> simp only [lox, hix, key, okb, le?] at * <;> omega
/-- a's elements are b's. -/
def leqA (s t : Sp) : Bool := emp s || (decide (key t.lo ≤ key s.lo) && decide (key s.hi ≤ key t.hi))
theorem leq_f (lf : Nat) (h3 : 200000 ≤ lf) {a b : A} (ha : Wf a) (hb : Wf b) : interval_Leq.f lf (ac a) (ac b) = some (leqA (ofA a) (ofA b), 0, ()) := by
  rw [interval_Leq.f]
  simp only [check_wf lf h3 ha, check_wf lf h3 hb, bdS, bne_self_eq_false, brF, of_f, empty_f lf h3 ha.okK]
  unfold leqA
  cases emp (ofA a) with
  | true => simp [brT]
  | false =>
    simp only [brF, Bool.false_or]
    simp only [sc]
    obtain ⟨c, e, s1, s2⟩ := cmp_f lf h3 hb.okK.1 ha.okK.1
    obtain ⟨c', e', s1', s2'⟩ := cmp_f lf h3 ha.okK.2 hb.okK.2
    rw [e, bdS]
    by_cases h : key (ofA b).lo ≤ key (ofA a).lo
    · simp only [decide_eq_true (show c ≤ 0 by omega), brT, e', bdS, decide_eq_true h, Bool.true_and]
      congr 2
      simp only [decide_eq_decide]; omega
    · simp only [decide_eq_false (show ¬ c ≤ 0 by omega), brF, decide_eq_false h, Bool.false_and]
theorem join_f (lf : Nat) (h3 : 200000 ≤ lf) {a b : A} (ha : Wf a) (hb : Wf b) : interval_Join.f lf (ac a) (ac b) = some (ac (toA (hull (ofA a) (ofA b))), 0, ()) := by
  rw [interval_Join.f]
  simp only [check_wf lf h3 ha, check_wf lf h3 hb, bdS, bne_self_eq_false, brF, of_f, hull_f lf h3 ha.okK hb.okK, interval_f lf h3 (hull_ok ha.okK hb.okK)]
theorem meet_f (lf : Nat) (h3 : 200000 ≤ lf) {a b : A} (ha : Wf a) (hb : Wf b) : interval_Meet.f lf (ac a) (ac b) = some (ac (toA (common (ofA a) (ofA b))), 0, ()) := by
  rw [interval_Meet.f]
  simp only [check_wf lf h3 ha, check_wf lf h3 hb, bdS, bne_self_eq_false, brF, of_f, common_f lf h3 ha.okK hb.okK, interval_f lf h3 (common_ok ha.okK hb.okK)]
/-- A span of short bounds is an interval, and a right one. -/
theorem toA_wf {s : Sp} (h : oks K s) (hl : emp s = true ∨ (s.lo ≠ .pi ∧ s.hi ≠ .ni)) : Wf (toA s) := by
  unfold toA
  cases he : emp s with
  | true => exact ⟨fun _ => ⟨rfl, rfl⟩, trivial, trivial, trivial⟩
  | false =>
    rw [if_neg (by simp)]
    have hC : ∀ x, okb C (tx x) := by
      intro x; cases x with
      | fin z => unfold tx clip; simp only; split
                 · assumption
                 · trivial
      | ni => trivial
      | pi => trivial
    refine ⟨(fun h => by cases h), hC _, hC _, ?_⟩
    unfold emp at he
    simp only [decide_eq_false_iff_not] at he
    obtain ⟨lo, hi⟩ := s
    have hn : ∀ x : Option Int, le? x none := fun x => by cases x <;> trivial
    have hn' : ∀ x : Option Int, le? none x := fun x => trivial
    cases lo with
    | ni => exact hn' _
    | pi => exact hn' _
    | fin z => cases hi with
      | ni => exact hn _
      | pi => exact hn _
      | fin u =>
        simp only [key] at he
        simp only [tx, clip]
        split
        · split
          · simp only [le?]; omega
          · exact hn _
        · exact hn' _
/-- And it is that span, where its bounds are short. -/
theorem ofA_toA {s : Sp} (h : oks C s) (he : emp s = false) (h1 : s.lo ≠ .pi) (h2 : s.hi ≠ .ni) : ofA (toA s) = s := by
  unfold toA ofA
  rw [he]
  simp only [Bool.false_eq_true, if_false]
  obtain ⟨lo, hi⟩ := s
  obtain ⟨k1, k2⟩ := h
  cases lo <;> cases hi <;> simp_all [tx, clip, lox, hix, okx]
end Go.N
/-! # The reference of intervals: ranges, joins, meets, elements -/
namespace Go.N
open Go Go.Q Go.Rx
set_option linter.unusedVariables false
set_option linter.unusedSimpArgs false

theorem okb_len {x : Int} (h : -K < x ∧ x < K) : (Lib.itoa x).length ≤ 4097 := itoa_len x ((sz_K x).2 h)
theorem lessI (lf : Nat) (h3 : 200000 ≤ lf) {x y : Int} (hx : -K < x ∧ x < K) (hy : -K < y ∧ y < K) : surveyorref01_Less.f lf (bs (Lib.itoa x)) (bs (Lib.itoa y)) = some (decide (x < y), ()) := by
  have a := okb_len hx
  have b := okb_len hy
  rw [less_f lf _ _ (can_itoa x) (can_itoa y) (by omega) (by omega) h3, iv_itoa, iv_itoa]
theorem clip_f (lf : Nat) (o : Option Int) (h : okb K o) : surveyorref21_clip.f lf (ob o) = some (ob (o.bind clip), ()) := by
  rw [surveyorref21_clip.f, ob_beq]
  cases o with
  | none => simp [brF]
  | some z =>
    rw [decide_eq_false (by simp)]
    simp only [Bool.not_false, brT, ob]
    have hl := okb_len h
    rw [rDigits_f lf _ (itoa_ne z) (by omega), bdS]
    simp only [Option.bind_some, clip]
    have := sz_C z
    unfold sz at this
    by_cases hz : nlen (Lib.itoa z) ≤ 100
    · rw [decide_eq_false (by omega), brF, if_pos (this.1 hz)]
    · rw [decide_eq_true (by omega), brT, if_neg (fun h' => hz (this.2 h'))]
def gt? : Option Int → Option Int → Bool
  | some x, some y => decide (y < x)
  | _, _ => false
theorem emp_lh {lo hi : Option Int} (h1 : okb K lo) (h2 : okb K hi) : emp ⟨lox lo, hix hi⟩ = gt? lo hi := by
  have hK := K_gt
  unfold emp
  cases lo with
  | none => cases hi with
    | none => exact decide_eq_false (by simp only [key, lox, hix]; omega)
    | some y => exact decide_eq_false (by simp only [key, lox, hix]; simp only [okb] at h2; omega)
  | some x => cases hi with
    | none => exact decide_eq_false (by simp only [key, lox, hix]; simp only [okb] at h1; omega)
    | some y => rfl
theorem tx_lox (o : Option Int) : tx (lox o) = o.bind clip := by cases o <;> rfl
theorem tx_hix (o : Option Int) : tx (hix o) = o.bind clip := by cases o <;> rfl
theorem range_f (lf : Nat) (h3 : 200000 ≤ lf) (lo hi : Option Int) (h1 : okb K lo) (h2 : okb K hi) : surveyorref21_Range.f lf (ob lo) (ob hi) = some (ac (toA ⟨lox lo, hix hi⟩), ()) := by
  rw [surveyorref21_Range.f]
  simp only [ob_beq, clip_f lf lo h1, clip_f lf hi h2, bdS]
  unfold toA
  rw [emp_lh h1 h2]
  simp only [tx_lox, tx_hix]
  cases lo with
  | none => simp [brF, ac, gt?]
  | some x => cases hi with
    | none => simp [brT, brF, ac, gt?]
    | some y =>
      have hl : surveyorref01_Less.f lf (ob (some y)) (ob (some x)) = some (decide (y < x), ()) := lessI lf h3 h2 h1
      simp only [reduceCtorEq, decide_false, Bool.not_false, brT, hl, bdS]
      by_cases h : y < x
      · simp [gt?, h, brT, surveyorref21_None.f, bdS, ac, ob]
      · simp [gt?, h, brF, ac]
def leastO (x y : Option Int) : Option Int := match x, y with
  | some a, some b => some (if b < a then b else a)
  | _, _ => none
def greatestO (x y : Option Int) : Option Int := match x, y with
  | some a, some b => some (if a < b then b else a)
  | _, _ => none
def lowerO (x y : Option Int) : Option Int := match x, y with
  | none, y => y
  | x, none => x
  | some a, some b => some (if a < b then b else a)
def upperO (x y : Option Int) : Option Int := match x, y with
  | none, y => y
  | x, none => x
  | some a, some b => some (if b < a then b else a)
theorem least_ref (lf : Nat) (h3 : 200000 ≤ lf) (x y : Option Int) (hx : okb K x) (hy : okb K y) : surveyorref21_least.f lf (ob x) (ob y) = some (ob (leastO x y), ()) := by
  rw [surveyorref21_least.f, ob_beq, ob_beq]
  cases x with
  | none => simp [brT, leastO]; rfl
  | some a => cases y with
    | none => simp [brT, brF, leastO]; rfl
    | some b =>
      have hl : surveyorref01_Less.f lf (ob (some b)) (ob (some a)) = some (decide (b < a), ()) := lessI lf h3 hy hx
      rw [hl]
      by_cases h : b < a <;> simp [h, brT, brF, bdS, leastO]
theorem greatest_ref (lf : Nat) (h3 : 200000 ≤ lf) (x y : Option Int) (hx : okb K x) (hy : okb K y) : surveyorref21_greatest.f lf (ob x) (ob y) = some (ob (greatestO x y), ()) := by
  rw [surveyorref21_greatest.f, ob_beq, ob_beq]
  cases x with
  | none => simp [brT, greatestO]; rfl
  | some a => cases y with
    | none => simp [brT, brF, greatestO]; rfl
    | some b =>
      have hl : surveyorref01_Less.f lf (ob (some a)) (ob (some b)) = some (decide (a < b), ()) := lessI lf h3 hx hy
      rw [hl]
      by_cases h : a < b <;> simp [h, brT, brF, bdS, greatestO]
theorem lower_ref (lf : Nat) (h3 : 200000 ≤ lf) (x y : Option Int) (hx : okb K x) (hy : okb K y) : surveyorref21_lower.f lf (ob x) (ob y) = some (ob (lowerO x y), ()) := by
  rw [surveyorref21_lower.f, ob_beq, ob_beq, greatest_ref lf h3 x y hx hy]
  cases x with
  | none => simp [brT, lowerO]
  | some a => cases y with
    | none => simp [brT, brF, lowerO]
    | some b => simp [brF, bdS, lowerO, greatestO]
theorem upper_ref (lf : Nat) (h3 : 200000 ≤ lf) (x y : Option Int) (hx : okb K x) (hy : okb K y) : surveyorref21_upper.f lf (ob x) (ob y) = some (ob (upperO x y), ()) := by
  rw [surveyorref21_upper.f, ob_beq, ob_beq, least_ref lf h3 x y hx hy]
  cases x with
  | none => simp [brT, upperO]
  | some a => cases y with
    | none => simp [brT, brF, upperO]
    | some b => simp [brF, bdS, upperO, leastO]
theorem okb.mono {k k' : Int} (h : k ≤ k') {o : Option Int} (ho : okb k o) : okb k' o := by cases o <;> simp only [okb] at *; omega
theorem xmin_t {x y : X} (h : key y < key x) : xmin x y = y := if_pos h
theorem xmin_f {x y : X} (h : ¬ key y < key x) : xmin x y = x := if_neg h
theorem xmax_t {x y : X} (h : key x < key y) : xmax x y = y := if_pos h
theorem xmax_f {x y : X} (h : ¬ key x < key y) : xmax x y = x := if_neg h
theorem lox_least {x y : Option Int} (hx : okb K x) (hy : okb K y) : lox (leastO x y) = xmin (lox x) (lox y) ∧ okb K (leastO x y) := by
  have hK := K_gt
  cases x with
  | none => cases y with
    | none => exact ⟨(xmin_f (x := lox none) (y := lox none) (by omega)).symm, trivial⟩
    | some b => simp only [okb] at hy; exact ⟨(xmin_f (x := lox none) (y := lox (some b)) (show ¬ b < -K by omega)).symm, trivial⟩
  | some a => cases y with
    | none => simp only [okb] at hx; exact ⟨(xmin_t (x := lox (some a)) (y := lox none) (show -K < a by omega)).symm, trivial⟩
    | some b =>
      by_cases h : b < a
      · have e : leastO (some a) (some b) = some b := by simp [leastO, h]
        rw [e]; exact ⟨(xmin_t (x := lox (some a)) (y := lox (some b)) (show b < a from h)).symm, hy⟩
      · have e : leastO (some a) (some b) = some a := by simp [leastO, h]
        rw [e]; exact ⟨(xmin_f (x := lox (some a)) (y := lox (some b)) (show ¬ b < a from h)).symm, hx⟩
theorem hix_greatest {x y : Option Int} (hx : okb K x) (hy : okb K y) : hix (greatestO x y) = xmax (hix x) (hix y) ∧ okb K (greatestO x y) := by
  have hK := K_gt
  cases x with
  | none => cases y with
    | none => exact ⟨(xmax_f (x := hix none) (y := hix none) (by omega)).symm, trivial⟩
    | some b => simp only [okb] at hy; exact ⟨(xmax_f (x := hix none) (y := hix (some b)) (show ¬ K < b by omega)).symm, trivial⟩
  | some a => cases y with
    | none => simp only [okb] at hx; exact ⟨(xmax_t (x := hix (some a)) (y := hix none) (show a < K by omega)).symm, trivial⟩
    | some b =>
      by_cases h : a < b
      · have e : greatestO (some a) (some b) = some b := by simp [greatestO, h]
        rw [e]; exact ⟨(xmax_t (x := hix (some a)) (y := hix (some b)) (show a < b from h)).symm, hy⟩
      · have e : greatestO (some a) (some b) = some a := by simp [greatestO, h]
        rw [e]; exact ⟨(xmax_f (x := hix (some a)) (y := hix (some b)) (show ¬ a < b from h)).symm, hx⟩
theorem lox_lower {x y : Option Int} (hx : okb K x) (hy : okb K y) : lox (lowerO x y) = xmax (lox x) (lox y) ∧ okb K (lowerO x y) := by
  have hK := K_gt
  cases x with
  | none => cases y with
    | none => exact ⟨(xmax_f (x := lox none) (y := lox none) (by omega)).symm, trivial⟩
    | some b => simp only [okb] at hy; exact ⟨(xmax_t (x := lox none) (y := lox (some b)) (show -K < b by omega)).symm, hy⟩
  | some a => cases y with
    | none => simp only [okb] at hx; exact ⟨(xmax_f (x := lox (some a)) (y := lox none) (show ¬ a < -K by omega)).symm, hx⟩
    | some b =>
      by_cases h : a < b
      · have e : lowerO (some a) (some b) = some b := by simp [lowerO, h]
        rw [e]; exact ⟨(xmax_t (x := lox (some a)) (y := lox (some b)) (show a < b from h)).symm, hy⟩
      · have e : lowerO (some a) (some b) = some a := by simp [lowerO, h]
        rw [e]; exact ⟨(xmax_f (x := lox (some a)) (y := lox (some b)) (show ¬ a < b from h)).symm, hx⟩
theorem hix_upper {x y : Option Int} (hx : okb K x) (hy : okb K y) : hix (upperO x y) = xmin (hix x) (hix y) ∧ okb K (upperO x y) := by
  have hK := K_gt
  cases x with
  | none => cases y with
    | none => exact ⟨(xmin_f (x := hix none) (y := hix none) (by omega)).symm, trivial⟩
    | some b => simp only [okb] at hy; exact ⟨(xmin_t (x := hix none) (y := hix (some b)) (show b < K by omega)).symm, hy⟩
  | some a => cases y with
    | none => simp only [okb] at hx; exact ⟨(xmin_f (x := hix (some a)) (y := hix none) (show ¬ K < a by omega)).symm, hx⟩
    | some b =>
      by_cases h : b < a
      · have e : upperO (some a) (some b) = some b := by simp [upperO, h]
        rw [e]; exact ⟨(xmin_t (x := hix (some a)) (y := hix (some b)) (show b < a from h)).symm, hy⟩
      · have e : upperO (some a) (some b) = some a := by simp [upperO, h]
        rw [e]; exact ⟨(xmin_f (x := hix (some a)) (y := hix (some b)) (show ¬ b < a from h)).symm, hx⟩
theorem toA_ofA {a : A} (h : Wf a) : toA (ofA a) = a := by
  have e := emp_ofA h
  unfold toA
  rw [e]
  obtain ⟨em, lo, hi⟩ := a
  obtain ⟨h1, h2, h3, h4⟩ := h
  simp only at *
  cases em with
  | true => obtain ⟨rfl, rfl⟩ := h1 rfl; rfl
  | false =>
    simp only [ofA, Bool.false_eq_true, if_false, tx_lox, tx_hix]
    cases lo <;> cases hi <;> simp_all [okb, clip]
theorem Wf.loK {a : A} (h : Wf a) : okb K a.lo := h.lo.mono (Int.le_of_lt C_lt_K)
theorem Wf.hiK {a : A} (h : Wf a) : okb K a.hi := h.hi.mono (Int.le_of_lt C_lt_K)
theorem joined_ref (lf : Nat) (h3 : 200000 ≤ lf) {a b : A} (ha : Wf a) (hb : Wf b) : surveyorref21_Joined.f lf (ac a) (ac b) = some (ac (toA (hull (ofA a) (ofA b))), ()) := by
  rw [surveyorref21_Joined.f]
  unfold hull
  rw [emp_ofA ha, emp_ofA hb]
  cases ea : a.em with
  | true => simp only [ac, ea, brT, if_true]; rw [toA_ofA hb]
  | false => cases eb : b.em with
    | true => simp only [ac, ea, eb, brT, brF, Bool.false_eq_true, if_false, if_true]; rw [toA_ofA ha]; simp only [ac, ea]
    | false =>
      obtain ⟨q1, q2⟩ := lox_least ha.loK hb.loK
      obtain ⟨q3, q4⟩ := hix_greatest ha.hiK hb.hiK
      simp only [ac, ea, eb, brF, Bool.false_eq_true, if_false]
      rw [least_ref lf h3 _ _ ha.loK hb.loK, bdS, greatest_ref lf h3 _ _ ha.hiK hb.hiK, bdS, range_f lf h3 _ _ q2 q4, bdS, q1, q3]
      simp only [ofA, ea, eb, Bool.false_eq_true, if_false, ac]
theorem met_ref (lf : Nat) (h3 : 200000 ≤ lf) {a b : A} (ha : Wf a) (hb : Wf b) : surveyorref21_Met.f lf (ac a) (ac b) = some (ac (toA (common (ofA a) (ofA b))), ()) := by
  have hK := K_gt
  rw [surveyorref21_Met.f]
  cases ea : a.em with
  | true =>
    have : emp (common (ofA a) (ofA b)) = true := by
      have := key_le hb.okK.1
      have := key_le hb.okK.2
      unfold emp common; apply decide_eq_true; rw [key_max, key_min]
      have : ofA a = non := by unfold ofA; rw [if_pos ea]
      rw [this]; simp only [non, key]; omega
    unfold toA; rw [this]
    simp only [ac, ea, brT, surveyorref21_None.f, bdS, if_true]; rfl
  | false => cases eb : b.em with
    | true =>
      have : emp (common (ofA a) (ofA b)) = true := by
        have := key_le ha.okK.1
        have := key_le ha.okK.2
        unfold emp common; apply decide_eq_true; rw [key_max, key_min]
        have : ofA b = non := by unfold ofA; rw [if_pos eb]
        rw [this]; simp only [non, key]; omega
      unfold toA; rw [this]
      simp only [ac, ea, eb, brT, brF, surveyorref21_None.f, bdS, if_true]; rfl
    | false =>
      obtain ⟨q1, q2⟩ := lox_lower ha.loK hb.loK
      obtain ⟨q3, q4⟩ := hix_upper ha.hiK hb.hiK
      simp only [ac, ea, eb, brF]
      rw [lower_ref lf h3 _ _ ha.loK hb.loK, bdS, upper_ref lf h3 _ _ ha.hiK hb.hiK, bdS, range_f lf h3 _ _ q2 q4, bdS, q1, q3]
      simp only [common, ofA, ea, eb, Bool.false_eq_true, if_false, ac]
end Go.N
/-! # Intervals: thresholds, widening, narrowing, texts -/
namespace Go.N
open Go Go.Q Go.Rx
set_option linter.unusedVariables false
set_option linter.unusedSimpArgs false

abbrev tl (b : ByteArray) : List UInt8 := b.data.toList
theorem number_b (lf : Nat) (b : ByteArray) (h : (tl b).length ≤ 9223372036854775807) : interval_number.f lf b = some (num (tl b), ()) := by
  have := number_f lf (tl b) h
  rwa [bs_eta] at this
theorem rNumber_b (lf : Nat) (b : ByteArray) (h : (tl b).length ≤ 9223372036854775807) (hf : (tl b).length ≤ lf) : surveyorref06_Number.f lf b = some (num (tl b), ()) := by
  have := rNumber_f lf (tl b) h hf
  rwa [bs_eta] at this
theorem order_b (lf : Nat) (h3 : 200000 ≤ lf) (b c : ByteArray) (hb : num (tl b) = 0) (hc : num (tl c) = 0) : interval_order.f lf b c = some (sgn (iv (tl b) - iv (tl c)), ()) := by
  have := iorder_f lf (tl b) (tl c) (num_chk hb) (num_chk hc) h3
  rwa [bs_eta, bs_eta] at this
theorem less_b (lf : Nat) (h3 : 200000 ≤ lf) (b c : ByteArray) (hb : num (tl b) = 0) (hc : num (tl c) = 0) : surveyorref01_Less.f lf b c = some (decide (iv (tl b) < iv (tl c)), ()) := by
  have a1 := num_len hb
  have a2 := num_len hc
  have := less_f lf (tl b) (tl c) (num_zero.1 hb).1 (num_zero.1 hc).1 (by omega) (by omega) h3
  rwa [bs_eta, bs_eta] at this
theorem num_itoa_of {b : ByteArray} (h : num (tl b) = 0) : b = bs (Lib.itoa (iv (tl b))) ∧ -C < iv (tl b) ∧ iv (tl b) < C := by
  have e := itoa_iv (num_zero.1 h).1
  refine ⟨by rw [← e, bs_eta], ?_⟩
  rw [← num_itoa, ← e]; exact h
theorem asc_l0 (lf : Nat) (h3 : 200000 ≤ lf) (l : List ByteArray) (hl : l.length ≤ 1000000) (hs : ∀ b ∈ l, (tl b).length ≤ 9223372036854775807 ∧ (tl b).length ≤ lf) : ∀ (k n i : Nat), i + k = l.length → k < n → (∀ (hi : 0 < i) (h : i - 1 < l.length), num (tl l[i - 1]) = 0) →
    ∃ b v, interval_ascending.l0 lf l l (l.length : Nat) n (i : Nat) = some (b, (v, ()), (), ()) ∧ surveyorref21_Thresholds.l0 lf l n (i : Nat) = some (b, (v, ()), (), ()) ∧ (b = true → v ≠ 0) ∧
      (b = false → ∀ (j : Nat) (hj : j < l.length), i ≤ j → num (tl l[j]) = 0 ∧ (0 < j → iv (tl l[j - 1]) < iv (tl l[j]))) := by
  intro k
  induction k with
  | zero =>
    intro n i hi hn hp
    obtain ⟨m, rfl⟩ := Nat.exists_eq_succ_of_ne_zero (show n ≠ 0 by omega)
    refine ⟨false, 0, ?_, ?_, by simp, fun _ j hj hij => by omega⟩
    · rw [interval_ascending.l0, interval_ascending.r0, decide_eq_false (by omega), brF]
    · rw [surveyorref21_Thresholds.l0, surveyorref21_Thresholds.r0, decide_eq_false (by omega), brF]
  | succ k ih =>
    intro n i hi hn hp
    obtain ⟨m, rfl⟩ := Nat.exists_eq_succ_of_ne_zero (show n ≠ 0 by omega)
    have hlt : i < l.length := by omega
    have hb := hs l[i] (List.getElem_mem hlt)
    rw [interval_ascending.l0, interval_ascending.r0, surveyorref21_Thresholds.l0, surveyorref21_Thresholds.r0, decide_eq_true (by omega), brT, brT, idxL_nat l i hlt, bdS, bdS, number_b lf _ hb.1, bdS, rNumber_b lf _ hb.1 hb.2, bdS]
    by_cases h0 : num (tl l[i]) = 0
    · simp only [h0, bne_self_eq_false, brF]
      have step : (i > 0 → iv (tl l[i - 1]) < iv (tl l[i])) → ∃ b v, interval_ascending.l0 lf l l (l.length : Nat) m (IntKind.i64.wrap ((i : Nat) + 1)) = some (b, (v, ()), (), ()) ∧ surveyorref21_Thresholds.l0 lf l m (IntKind.i64.wrap ((i : Nat) + 1)) = some (b, (v, ()), (), ()) ∧ (b = true → v ≠ 0) ∧
          (b = false → ∀ (j : Nat) (hj : j < l.length), i ≤ j → num (tl l[j]) = 0 ∧ (0 < j → iv (tl l[j - 1]) < iv (tl l[j]))) := by
        intro hlt'
        rw [w64 (by omega) (by omega), show ((i : Nat) : Int) + 1 = ((i + 1 : Nat) : Int) by omega]
        obtain ⟨b, v, e1, e2, e3, e4⟩ := ih m (i + 1) (by omega) (by omega) (fun _ _ => by simpa using h0)
        refine ⟨b, v, e1, e2, e3, fun hbf j hj hij => ?_⟩
        by_cases hij' : i = j
        · subst hij'; exact ⟨h0, hlt'⟩
        · exact e4 hbf j hj (by omega)
      by_cases hi0 : i > 0
      · rw [decide_eq_true (by omega), brT, brT, w64 (by omega) (by omega)]
        have hp' := hp hi0 (by omega)
        rw [idxL_int l _ (i - 1) (by omega) (by omega), bdS, bdS, bdS, order_b lf h3 _ _ hp' h0, bdS, less_b lf h3 _ _ hp' h0, bdS]
        by_cases hl2 : iv (tl l[i - 1]) < iv (tl l[i])
        · have : decide (sgn (iv (tl l[i - 1]) - iv (tl l[i])) ≥ 0) = false := decide_eq_false (by unfold sgn; rw [if_pos (by omega)]; omega)
          rw [this, brF, decide_eq_true hl2]
          simp only [Bool.not_true, brF]
          exact step fun _ => hl2
        · have : decide (sgn (iv (tl l[i - 1]) - iv (tl l[i])) ≥ 0) = true := decide_eq_true (by unfold sgn; rw [if_neg (by omega)]; split <;> omega)
          rw [this, brT, decide_eq_false hl2]
          simp only [Bool.not_false, brT]
          exact ⟨true, 14, rfl, rfl, fun _ => by decide, fun h => by cases h⟩
      · rw [decide_eq_false (by omega), brF, brF]
        exact step fun h => absurd h hi0
    · simp only [bneT h0, brT]
      exact ⟨true, _, rfl, rfl, fun _ => h0, fun h => by cases h⟩
/-- Thresholds that the checks let by: short integers, rising. -/
def Th (zs : List Int) : Prop := ∀ z ∈ zs, -C < z ∧ z < C
def bz (z : Int) : ByteArray := bs (Lib.itoa z)
theorem thr_same (lf : Nat) (h3 : 200000 ≤ lf) (l : List ByteArray) (hl : l.length ≤ 9223372036854775807) (hs : ∀ b ∈ l, (tl b).length ≤ 9223372036854775807 ∧ (tl b).length ≤ lf) :
    ∃ v, interval_ascending.f lf l = some (v, ()) ∧ surveyorref21_Thresholds.f lf l = some (v, ()) ∧ (v = 0 → ∃ zs : List Int, l = zs.map bz ∧ Th zs ∧ zs.length ≤ 1024 ∧ zs.Pairwise (· < ·)) := by
  rw [interval_ascending.f, surveyorref21_Thresholds.f]
  by_cases h : l.length > 1024
  · rw [decide_eq_true (by omega), brT, brT]
    exact ⟨5, rfl, rfl, fun h => by cases h⟩
  · rw [decide_eq_false (by omega), brF, brF]
    obtain ⟨b, v, e1, e2, e3, e4⟩ := asc_l0 lf h3 l (by omega) hs l.length (lf + 40) 0 (by omega) (by omega) (fun h => by omega)
    rw [show ((0 : Nat) : Int) = 0 from rfl] at e1 e2
    rw [e1, e2, bdS]
    cases b with
    | true => exact ⟨v, by simp only [brT], by simp only [brT], fun h => absurd h (e3 rfl)⟩
    | false =>
      refine ⟨0, by simp only [brF], by simp only [brF], fun _ => ?_⟩
      have hn : ∀ b ∈ l, num (tl b) = 0 := by
        intro b hb
        obtain ⟨j, hj, rfl⟩ := List.mem_iff_getElem.1 hb
        exact (e4 rfl j hj (by omega)).1
      have hz : ∀ j, (hj : j + 1 < l.length) → iv (tl l[j]) < iv (tl l[j + 1]) := fun j hj => by
        have := (e4 rfl (j + 1) hj (by omega)).2 (by omega)
        simpa using this
      refine ⟨l.map fun b => iv (tl b), ?_, ?_, by rw [List.length_map]; omega, ?_⟩
      · rw [List.map_map]
        conv => lhs; rw [← List.map_id l]
        apply List.map_congr_left
        intro b hb
        exact (num_itoa_of (hn b hb)).1
      · intro z hz
        obtain ⟨b, hb, rfl⟩ := List.mem_map.1 hz
        exact (num_itoa_of (hn b hb)).2
      · rw [List.pairwise_map, List.pairwise_iff_getElem]
        intro i j hi hj hij
        have : ∀ d : Nat, (h : i + d + 1 < l.length) → iv (tl l[i]) < iv (tl l[i + d + 1]) := by
          intro d
          induction d with
          | zero => intro h; exact hz i (by omega)
          | succ d ih => intro h; exact Int.lt_trans (ih (by omega)) (hz (i + d + 1) (by omega))
        have h1 := this (j - i - 1) (by omega)
        have e : i + (j - i - 1) + 1 = j := by omega
        simpa [e] using h1

/-! ### widening -/
def bel (v : Int) (acc : X) (x : Int) : X := if x ≤ v then .fin x else acc
def abo (v : Int) (x : Int) (acc : X) : X := if x ≥ v then .fin x else acc
def below (zs : List Int) (v : X) : X := zs.foldl (bel (key v)) .ni
def above (zs : List Int) (v : X) : X := zs.foldr (abo (key v)) .pi
theorem bz_idx (zs : List Int) (i : Nat) (h : i < zs.length) : idxL (zs.map bz) (i : Nat) = some (bz zs[i]) := by rw [idxL_nat _ i (by simpa using h)]; simp
theorem fin_f (lf : Nat) (z : Int) : interval_finite.f lf (bz z) = some (xc (.fin z), ()) := rfl
theorem okC_fin {z : Int} (h : -C < z ∧ z < C) : okx K (.fin z) := by have := C_lt_K; simp only [okx]; omega
theorem widen_l0 (lf : Nat) (h3 : 200000 ≤ lf) (zs : List Int) (hz : Th zs) (hl : zs.length ≤ 1024) {v : X} (hv : okx K v) (p4 : Bool) (p5 p6 : ByteArray) (p7 : Int) (p8 : ByteArray) (p9 : Int) (p10 : ByteArray) (p13 : Int) (p14 : ByteArray) : ∀ (k n i : Nat) (acc : X), i + k = zs.length → k < n →
    interval_Widen.l0 lf (zs.map bz) (zs.map bz) (zs.length : Nat) p4 p5 p6 p7 p8 p9 p10 (xc v).1 (xc v).2.1 p13 p14 n (i : Nat) (xc acc).1 (xc acc).2.1 = some (((xc ((zs.drop i).foldl (bel (key v)) acc)).1, (xc ((zs.drop i).foldl (bel (key v)) acc)).2.1, ()), ()) := by
  intro k
  induction k with
  | zero =>
    intro n i acc hi hn
    obtain ⟨m, rfl⟩ := Nat.exists_eq_succ_of_ne_zero (show n ≠ 0 by omega)
    rw [interval_Widen.l0, interval_Widen.r0, decide_eq_false (by omega), brF, List.drop_of_length_le (by omega)]; rfl
  | succ k ih =>
    intro n i acc hi hn
    obtain ⟨m, rfl⟩ := Nat.exists_eq_succ_of_ne_zero (show n ≠ 0 by omega)
    have hlt : i < zs.length := by omega
    have hzi := okC_fin (hz zs[i] (List.getElem_mem hlt))
    obtain ⟨c, c1, c2, c3⟩ := cmp_f lf h3 hzi hv
    have ev : ((xc v).1, (xc v).2.1, ()) = xc v := rfl
    rw [interval_Widen.l0, interval_Widen.r0, decide_eq_true (by omega), brT, bz_idx zs i hlt, bdS, fin_f, bdS, ev, c1, bdS, bdS, List.drop_eq_getElem_cons hlt, List.foldl_cons]
    rw [w64 (by omega) (by omega), show ((i : Nat) : Int) + 1 = ((i + 1 : Nat) : Int) by omega]
    have hk : key (.fin zs[i]) = zs[i] := rfl
    rw [hk] at c2 c3
    by_cases h : zs[i] ≤ key v
    · have : bel (key v) acc zs[i] = .fin zs[i] := if_pos h
      rw [decide_eq_true (show c ≤ 0 by omega), brT, ih m (i + 1) _ (by omega) (by omega), this]
    · have : bel (key v) acc zs[i] = acc := if_neg h
      rw [decide_eq_false (show ¬ c ≤ 0 by omega), brF, ih m (i + 1) _ (by omega) (by omega), this]
theorem widen_l1 (lf : Nat) (h3 : 200000 ≤ lf) (zs : List Int) (hz : Th zs) (hl : zs.length ≤ 1024) {v : X} (hv : okx K v) (p2 : Bool) (p3 p4 : ByteArray) (p5 : Int) (p6 : ByteArray) (p9 : Int) (p10 : ByteArray) : ∀ (k n : Nat) (acc : X), k ≤ zs.length → k < n →
    interval_Widen.l1 lf (zs.map bz) p2 p3 p4 p5 p6 (xc v).1 (xc v).2.1 p9 p10 n ((k : Nat) - 1 : Int) (xc acc).1 (xc acc).2.1 = some (((xc ((zs.take k).foldr (abo (key v)) acc)).1, (xc ((zs.take k).foldr (abo (key v)) acc)).2.1, ()), ()) := by
  intro k
  induction k with
  | zero =>
    intro n acc hi hn
    obtain ⟨m, rfl⟩ := Nat.exists_eq_succ_of_ne_zero (show n ≠ 0 by omega)
    rw [interval_Widen.l1, interval_Widen.r1, decide_eq_false (by omega), brF]; rfl
  | succ k ih =>
    intro n acc hi hn
    obtain ⟨m, rfl⟩ := Nat.exists_eq_succ_of_ne_zero (show n ≠ 0 by omega)
    have hlt : k < zs.length := by omega
    have hzi := okC_fin (hz zs[k] (List.getElem_mem hlt))
    obtain ⟨c, c1, c2, c3⟩ := cmp_f lf h3 hzi hv
    have ev : ((xc v).1, (xc v).2.1, ()) = xc v := rfl
    rw [interval_Widen.l1, interval_Widen.r1, decide_eq_true (by omega), brT, show ((k + 1 : Nat) : Int) - 1 = (k : Nat) by omega, bz_idx zs k hlt, bdS, fin_f, bdS, ev, c1, bdS, List.take_succ_eq_append_getElem hlt, List.foldr_append]
    rw [w64 (by omega) (by omega)]
    have hk : key (.fin zs[k]) = zs[k] := rfl
    rw [hk] at c2 c3
    by_cases h : zs[k] ≥ key v
    · have : [zs[k]].foldr (abo (key v)) acc = .fin zs[k] := if_pos h
      rw [decide_eq_true (show c ≥ 0 by omega), brT, ih m _ (by omega) (by omega), this]
    · have : [zs[k]].foldr (abo (key v)) acc = acc := if_neg h
      rw [decide_eq_false (show ¬ c ≥ 0 by omega), brF, ih m _ (by omega) (by omega), this]
theorem widen_l2 (lf : Nat) (h3 : 200000 ≤ lf) (zs : List Int) (hz : Th zs) (hl : zs.length ≤ 1024) {v : X} (hv : okx K v) (p2 : Bool) (p3 p4 : ByteArray) (p5 : Bool) (p6 p7 : ByteArray) (p8 : Bool) (p9 p10 : ByteArray) (p11 : List IV) (p12 : Int) (p13 : ByteArray) (p14 : Int) (p15 : ByteArray) (p16 : Int) (p17 : ByteArray) : ∀ (k n : Nat) (acc : X), k ≤ zs.length → k < n →
    interval_Widen.l2 lf (zs.map bz) p2 p3 p4 p5 p6 p7 p8 p9 p10 p11 p12 p13 p14 p15 p16 p17 (xc v).1 (xc v).2.1 n ((k : Nat) - 1 : Int) (xc acc).1 (xc acc).2.1 = some (((xc ((zs.take k).foldr (abo (key v)) acc)).1, (xc ((zs.take k).foldr (abo (key v)) acc)).2.1, ()), ()) := by
  intro k
  induction k with
  | zero =>
    intro n acc hi hn
    obtain ⟨m, rfl⟩ := Nat.exists_eq_succ_of_ne_zero (show n ≠ 0 by omega)
    rw [interval_Widen.l2, interval_Widen.r2, decide_eq_false (by omega), brF]; rfl
  | succ k ih =>
    intro n acc hi hn
    obtain ⟨m, rfl⟩ := Nat.exists_eq_succ_of_ne_zero (show n ≠ 0 by omega)
    have hlt : k < zs.length := by omega
    have hzi := okC_fin (hz zs[k] (List.getElem_mem hlt))
    obtain ⟨c, c1, c2, c3⟩ := cmp_f lf h3 hzi hv
    have ev : ((xc v).1, (xc v).2.1, ()) = xc v := rfl
    rw [interval_Widen.l2, interval_Widen.r2, decide_eq_true (by omega), brT, show ((k + 1 : Nat) : Int) - 1 = (k : Nat) by omega, bz_idx zs k hlt, bdS, fin_f, bdS, ev, c1, bdS, List.take_succ_eq_append_getElem hlt, List.foldr_append]
    rw [w64 (by omega) (by omega)]
    have hk : key (.fin zs[k]) = zs[k] := rfl
    rw [hk] at c2 c3
    by_cases h : zs[k] ≥ key v
    · have : [zs[k]].foldr (abo (key v)) acc = .fin zs[k] := if_pos h
      rw [decide_eq_true (show c ≥ 0 by omega), brT, ih m _ (by omega) (by omega), this]
    · have : [zs[k]].foldr (abo (key v)) acc = acc := if_neg h
      rw [decide_eq_false (show ¬ c ≥ 0 by omega), brF, ih m _ (by omega) (by omega), this]
theorem foldl_ok {k v : Int} : ∀ (zs : List Int) (acc : X), (∀ z ∈ zs, -k < z ∧ z < k) → okx k acc → okx k (zs.foldl (bel v) acc)
  | [], acc, _, h => h
  | z :: zs, acc, hz, h => foldl_ok zs _ (fun x hx => hz x (by simp [hx])) (by unfold bel; split; exact hz z (by simp); exact h)
theorem foldr_ok {k v : Int} : ∀ (zs : List Int) (acc : X), (∀ z ∈ zs, -k < z ∧ z < k) → okx k acc → okx k (zs.foldr (abo v) acc)
  | [], acc, _, h => h
  | z :: zs, acc, hz, h => by
    have := foldr_ok (v := v) zs acc (fun x hx => hz x (by simp [hx])) h
    rw [List.foldr_cons]; unfold abo; split; exact hz z (by simp); exact this
theorem below_ok {zs : List Int} (hz : Th zs) (v : X) : okx C (below zs v) := foldl_ok zs _ hz trivial
theorem above_ok {zs : List Int} (hz : Th zs) (v : X) : okx C (above zs v) := foldr_ok zs _ hz trivial
/-- The widened span. -/
def widen (s t : Sp) (zs : List Int) : Sp :=
  if emp s = true ∨ emp t = true then hull s t else
    ⟨if key (hull s t).lo ≠ key s.lo then below zs (hull s t).lo else (hull s t).lo, if key (hull s t).hi ≠ key s.hi then above zs (hull s t).hi else (hull s t).hi⟩
theorem widen_f (lf : Nat) (h3 : 200000 ≤ lf) {a b : A} (ha : Wf a) (hb : Wf b) {zs : List Int} (hz : Th zs) (hl : zs.length ≤ 1024) (hasc : interval_ascending.f lf (zs.map bz) = some (0, ())) :
    interval_Widen.f lf (ac a) (ac b) (zs.map bz) = some (ac (toA (widen (ofA a) (ofA b) zs)), 0, ()) := by
  have hh := hull_ok ha.okK hb.okK
  have hCK := Int.le_of_lt C_lt_K
  have ilen : (((zs.map bz).length : Nat) : Int) = (zs.length : Nat) := by rw [List.length_map]
  have l0 : ∀ (p4 : Bool) (p5 p6 : ByteArray) (p7 : Int) (p8 : ByteArray) (p9 : Int) (p10 : ByteArray) (p13 : Int) (p14 : ByteArray),
      interval_Widen.l0 lf (zs.map bz) (zs.map bz) (zs.length : Nat) p4 p5 p6 p7 p8 p9 p10 (xc (hull (ofA a) (ofA b)).lo).1 (xc (hull (ofA a) (ofA b)).lo).2.1 p13 p14 (lf + 40) 0 (-1) (bs []) = some (((xc (below zs (hull (ofA a) (ofA b)).lo)).1, (xc (below zs (hull (ofA a) (ofA b)).lo)).2.1, ()), ()) := fun p4 p5 p6 p7 p8 p9 p10 p13 p14 =>
    widen_l0 lf h3 zs hz hl hh.1 p4 p5 p6 p7 p8 p9 p10 p13 p14 zs.length (lf + 40) 0 .ni (by omega) (by omega)
  have wl : IntKind.i64.wrap (((zs.length : Nat) : Int) - 1) = ((zs.length : Nat) : Int) - 1 := w64 (by omega) (by omega)
  have l1 : ∀ (p2 : Bool) (p3 p4 : ByteArray) (p5 : Int) (p6 : ByteArray) (p9 : Int) (p10 : ByteArray),
      interval_Widen.l1 lf (zs.map bz) p2 p3 p4 p5 p6 (xc (hull (ofA a) (ofA b)).hi).1 (xc (hull (ofA a) (ofA b)).hi).2.1 p9 p10 (lf + 40) (((zs.length : Nat) : Int) - 1) 1 (bs []) = some (((xc (above zs (hull (ofA a) (ofA b)).hi)).1, (xc (above zs (hull (ofA a) (ofA b)).hi)).2.1, ()), ()) := fun p2 p3 p4 p5 p6 p9 p10 => by
    have := widen_l1 lf h3 zs hz hl hh.2 p2 p3 p4 p5 p6 p9 p10 zs.length (lf + 40) .pi (Nat.le_refl _) (by omega)
    rw [List.take_length] at this
    exact this
  have l2 : ∀ (p2 : Bool) (p3 p4 : ByteArray) (p5 : Bool) (p6 p7 : ByteArray) (p8 : Bool) (p9 p10 : ByteArray) (p11 : List IV) (p12 : Int) (p13 : ByteArray) (p14 : Int) (p15 : ByteArray) (p16 : Int) (p17 : ByteArray),
      interval_Widen.l2 lf (zs.map bz) p2 p3 p4 p5 p6 p7 p8 p9 p10 p11 p12 p13 p14 p15 p16 p17 (xc (hull (ofA a) (ofA b)).hi).1 (xc (hull (ofA a) (ofA b)).hi).2.1 (lf + 40) (((zs.length : Nat) : Int) - 1) 1 (bs []) = some (((xc (above zs (hull (ofA a) (ofA b)).hi)).1, (xc (above zs (hull (ofA a) (ofA b)).hi)).2.1, ()), ()) := fun p2 p3 p4 p5 p6 p7 p8 p9 p10 p11 p12 p13 p14 p15 p16 p17 => by
    have := widen_l2 lf h3 zs hz hl hh.2 p2 p3 p4 p5 p6 p7 p8 p9 p10 p11 p12 p13 p14 p15 p16 p17 zs.length (lf + 40) .pi (Nat.le_refl _) (by omega)
    rw [List.take_length] at this
    exact this
  rw [interval_Widen.f]
  simp only [check_wf lf h3 ha, check_wf lf h3 hb, bdS, bne_self_eq_false, brF, hasc, of_f, empty_f lf h3 ha.okK, empty_f lf h3 hb.okK, hull_f lf h3 ha.okK hb.okK, interval_f lf h3 hh]
  unfold widen
  cases ea : emp (ofA a) with
  | true => rw [brT, if_pos (.inl rfl)]
  | false =>
    rw [brF]
    cases eb : emp (ofA b) with
    | true => rw [brT, if_pos (.inr rfl)]
    | false =>
      rw [brF, if_neg (by simp)]
      obtain ⟨c, c1, c2, c3⟩ := cmp_f lf h3 hh.1 ha.okK.1
      obtain ⟨d, d1, d2, d3⟩ := cmp_f lf h3 hh.2 ha.okK.2
      have hb1 := (below_ok hz (hull (ofA a) (ofA b)).lo).mono hCK
      have hb2 := (above_ok hz (hull (ofA a) (ofA b)).hi).mono hCK
      have i1 := interval_f lf h3 (s := ⟨below zs (hull (ofA a) (ofA b)).lo, above zs (hull (ofA a) (ofA b)).hi⟩) ⟨hb1, hb2⟩
      have i2 := interval_f lf h3 (s := ⟨below zs (hull (ofA a) (ofA b)).lo, (hull (ofA a) (ofA b)).hi⟩) ⟨hb1, hh.2⟩
      have i3 := interval_f lf h3 (s := ⟨(hull (ofA a) (ofA b)).lo, above zs (hull (ofA a) (ofA b)).hi⟩) ⟨hh.1, hb2⟩
      simp only [sc] at i1 i2 i3
      simp only [sc, c1, d1, bdS, interval_infinite.f, ilen, wl, e0]
      by_cases h1 : key (hull (ofA a) (ofA b)).lo = key (ofA a).lo
      · rw [show (c != 0) = false from by simp only [bne_eq_false_iff_eq]; omega, brF, if_neg (fun h => h h1)]
        by_cases h2 : key (hull (ofA a) (ofA b)).hi = key (ofA a).hi
        · rw [show (d != 0) = false from by simp only [bne_eq_false_iff_eq]; omega, brF, if_neg (fun h => h h2)]
        · rw [show (d != 0) = true from bneT (by omega), brT, if_pos h2, l2, bdS]
          simp only
          exact (bdE i3 _)
      · rw [show (c != 0) = true from bneT (by omega), brT, if_pos h1, l0, bdS]
        by_cases h2 : key (hull (ofA a) (ofA b)).hi = key (ofA a).hi
        · rw [show (d != 0) = false from by simp only [bne_eq_false_iff_eq]; omega, brF, if_neg (fun h => h h2)]
          simp only
          exact (bdE i2 _)
        · rw [show (d != 0) = true from bneT (by omega), brT, if_pos h2, l1, bdS]
          simp only
          exact (bdE i1 _)
end Go.N
/-! # Right intervals: what their spans' ends are -/
namespace Go.N
open Go Go.Q Go.Rx
set_option linter.unusedVariables false
set_option linter.unusedSimpArgs false

theorem ofA_inj {a b : A} (ha : Wf a) (hb : Wf b) (h : ofA a = ofA b) : a = b := by
  have e1 := emp_ofA ha
  have e2 := emp_ofA hb
  rw [h, e2] at e1
  obtain ⟨ea, la, xa⟩ := a
  obtain ⟨eb, lb, xb⟩ := b
  simp only at e1
  subst e1
  have wa := ha.em
  have wb := hb.em
  simp only at wa wb
  cases eb with
  | true =>
    obtain ⟨rfl, rfl⟩ := wa rfl
    obtain ⟨rfl, rfl⟩ := wb rfl
    rfl
  | false =>
    unfold ofA at h
    simp only [Bool.false_eq_true, if_false, Sp.mk.injEq] at h
    obtain ⟨h1, h2⟩ := h
    have : la = lb := by cases la <;> cases lb <;> simp_all [lox]
    have : xa = xb := by cases xa <;> cases xb <;> simp_all [hix]
    simp_all
/-- What is known of a right interval's span. -/
structure Ks (s : Sp) (e : Bool) : Prop where
  ok : oks K s
  e1 : e = true → s = non
  e2 : e = false → key s.lo ≤ key s.hi ∧ key s.lo < K ∧ -K < key s.hi
theorem Wf.ks {a : A} (h : Wf a) : Ks (ofA a) a.em := by
  have hK := K_gt
  have hC := C_lt_K
  refine ⟨h.okK, fun e => by unfold ofA; rw [if_pos e], fun e => ?_⟩
  have := emp_ofA h
  rw [e] at this
  unfold emp at this
  simp only [decide_eq_false_iff_not] at this
  refine ⟨by omega, ?_, ?_⟩
  · unfold ofA; rw [if_neg (by simp [e])]
    have h0 := h.lo
    cases hx : a.lo with
    | none => simp only [lox, key]; omega
    | some z => rw [hx] at h0; simp only [lox, key, okb] at *; omega
  · unfold ofA; rw [if_neg (by simp [e])]
    have h0 := h.hi
    cases hx : a.hi with
    | none => simp only [hix, key]; omega
    | some z => rw [hx] at h0; simp only [hix, key, okb] at *; omega
theorem key_non : key non.lo = K ∧ key non.hi = -K := ⟨rfl, rfl⟩
/-- The keys of a right interval: out of order if it is empty. -/
theorem Ks.keys {s : Sp} {e : Bool} (h : Ks s e) : (key s.lo = K ∧ key s.hi = -K) ∨ (key s.lo ≤ key s.hi ∧ key s.lo < K ∧ -K < key s.hi) := by
  cases e with
  | true => rw [h.e1 rfl]; exact .inl key_non
  | false => exact .inr (h.e2 rfl)
theorem leqA_iff (s t : Sp) : leqA s t = decide (key s.lo > key s.hi ∨ (key t.lo ≤ key s.lo ∧ key s.hi ≤ key t.hi)) := by
  unfold leqA emp
  by_cases h1 : key s.lo > key s.hi <;> by_cases h2 : key t.lo ≤ key s.lo <;> by_cases h3 : key s.hi ≤ key t.hi <;> simp [h1, h2, h3]
theorem key_hull (s t : Sp) : key (hull s t).lo = (if key s.lo > key s.hi then key t.lo else if key t.lo > key t.hi then key s.lo else min (key s.lo) (key t.lo)) ∧
    key (hull s t).hi = (if key s.lo > key s.hi then key t.hi else if key t.lo > key t.hi then key s.hi else max (key s.hi) (key t.hi)) := by
  unfold hull emp
  by_cases h1 : key s.lo > key s.hi
  · simp [h1]
  · by_cases h2 : key t.lo > key t.hi
    · simp [h1, h2]
    · simp [h1, h2, key_min, key_max]
theorem lo_ne_pi {s : Sp} (h : key s.lo < K) : s.lo ≠ .pi := by intro e; rw [e] at h; simp only [key] at h; omega
theorem hi_ne_ni {s : Sp} (h : -K < key s.hi) : s.hi ≠ .ni := by intro e; rw [e] at h; simp only [key] at h; omega
/-- The span of what a span of short bounds is made: itself, or none. -/
theorem keys_toA {s : Sp} (h : oks C s) (hl : key s.lo ≤ key s.hi → key s.lo < K ∧ -K < key s.hi) :
    key (ofA (toA s)).lo = (if key s.lo > key s.hi then K else key s.lo) ∧ key (ofA (toA s)).hi = (if key s.lo > key s.hi then -K else key s.hi) := by
  by_cases he : key s.lo > key s.hi
  · have : emp s = true := decide_eq_true he
    have e : toA s = ⟨true, none, none⟩ := by unfold toA; rw [if_pos this]
    rw [e, if_pos he, if_pos he]
    exact ⟨rfl, rfl⟩
  · have h2 := hl (by omega)
    rw [ofA_toA h (decide_eq_false he) (lo_ne_pi h2.1) (hi_ne_ni h2.2), if_neg he, if_neg he]
    exact ⟨rfl, rfl⟩
theorem toA_wf' {s : Sp} (h : oks K s) (hl : key s.lo ≤ key s.hi → key s.lo < K ∧ -K < key s.hi) : Wf (toA s) := by
  refine toA_wf h ?_
  by_cases he : key s.lo > key s.hi
  · exact .inl (decide_eq_true he)
  · have h2 := hl (by omega)
    exact .inr ⟨lo_ne_pi h2.1, hi_ne_ni h2.2⟩
theorem ba_beq (x y : ByteArray) : (x == y) = decide (x = y) := by
  have e : (x == y) = (x.data == y.data) := rfl
  rw [e]
  obtain ⟨x⟩ := x
  obtain ⟨y⟩ := y
  by_cases h : x = y
  · subst h; simp
  · have : ¬ (⟨x⟩ : ByteArray) = ⟨y⟩ := fun e => h (by injection e)
    rw [decide_eq_false this]; simpa using h
theorem beq_iv (a b : A) : ((a.em == b.em) && ((ob a.lo == ob b.lo) && ((ob a.hi == ob b.hi) && true))) = decide (a = b) := by
  by_cases h : a = b
  · subst h; simp [ba_beq]
  · rw [decide_eq_false h]
    cases hx : ((a.em == b.em) && ((ob a.lo == ob b.lo) && ((ob a.hi == ob b.hi) && true))) with
    | false => rfl
    | true =>
      exfalso
      apply h
      simp only [Bool.and_eq_true, ba_beq, decide_eq_true_eq, beq_iff_eq, and_true] at hx
      obtain ⟨ea, la, xa⟩ := a
      obtain ⟨eb, lb, xb⟩ := b
      simp only at hx
      obtain ⟨rfl, h1, h2⟩ := hx
      rw [ob_inj h1, ob_inj h2]
end Go.N
/-! # Intervals: elements, intervals out of bounds -/
namespace Go.N
open Go Go.Q Go.Rx
set_option linter.unusedVariables false
set_option linter.unusedSimpArgs false

/-- z is an element. -/
def inS (s : Sp) (z : Int) : Bool := decide (key s.lo ≤ z) && decide (z ≤ key s.hi)
theorem holds_wf (lf : Nat) (h3 : 200000 ≤ lf) {a : A} (ha : Wf a) {z : Int} (hz : -K < z ∧ z < K) : interval_Holds.f lf (ac a) (bs (Lib.itoa z)) = some (inS (ofA a) z, 0, ()) := by
  rw [interval_Holds.f]
  have hl := okb_len hz
  have e : ((0, bs (Lib.itoa z), ()) : EB) = xc (.fin z) := rfl
  have hx : okx K (.fin z) := hz
  obtain ⟨c, c1, c2, c3⟩ := cmp_f lf h3 ha.okK.1 hx
  obtain ⟨d, d1, d2, d3⟩ := cmp_f lf h3 hx ha.okK.2
  simp only [check_wf lf h3 ha, bdS, bne_self_eq_false, brF, check_f lf (Lib.itoa z) (by omega), (chk_itoa z).2 hz, of_f, interval_finite.f, e, sc, c1, d1]
  unfold inS
  rw [show key (.fin z) = z from rfl] at c2 c3 d2 d3
  by_cases h : key (ofA a).lo ≤ z
  · rw [decide_eq_true (show c ≤ 0 by omega), brT, decide_eq_true h, Bool.true_and]
    congr 2
    simp only [decide_eq_decide]; omega
  · rw [decide_eq_false (show ¬ c ≤ 0 by omega), brF, decide_eq_false h, Bool.false_and]
theorem lo_none {z : Int} (hz : -K < z ∧ z < K) : decide (key (lox none) ≤ z) = true := decide_eq_true (show -K ≤ z by omega)
theorem hi_none {z : Int} (hz : -K < z ∧ z < K) : decide (z ≤ key (hix none)) = true := decide_eq_true (show z ≤ K by omega)
theorem lo_some (x z : Int) : decide (key (lox (some x)) ≤ z) = !decide (z < x) := by
  show decide (x ≤ z) = !decide (z < x)
  by_cases h : z < x
  · rw [decide_eq_true h, decide_eq_false (by omega)]; rfl
  · rw [decide_eq_false h, decide_eq_true (by omega)]; rfl
theorem hi_some (y z : Int) : decide (z ≤ key (hix (some y))) = !decide (y < z) := by
  show decide (z ≤ y) = !decide (y < z)
  by_cases h : y < z
  · rw [decide_eq_true h, decide_eq_false (by omega)]; rfl
  · rw [decide_eq_false h, decide_eq_true (by omega)]; rfl
theorem in_ref (lf : Nat) (h3 : 200000 ≤ lf) {a : A} (ha : Wf a) {z : Int} (hz : -K < z ∧ z < K) : surveyorref21_In.f lf (ac a) (bs (Lib.itoa z)) = some (inS (ofA a) z, ()) := by
  have hK := K_gt
  rw [surveyorref21_In.f]
  cases he : a.em with
  | true =>
    have ho : ofA a = non := by unfold ofA; rw [if_pos he]
    rw [ho]
    simp only [ac, he, Bool.not_true, brF]
    have : decide (key non.lo ≤ z) = false := decide_eq_false (by rw [show key non.lo = K from rfl]; omega)
    unfold inS
    rw [this]; rfl
  | false =>
    have ho : ofA a = ⟨lox a.lo, hix a.hi⟩ := by unfold ofA; rw [if_neg (by simp [he])]
    rw [ho]
    unfold inS
    simp only [ac, he, Bool.not_false, brT, ob_beq]
    have hlo := ha.loK
    have hhi := ha.hiK
    have hi : ∀ o, okb K o → (br (decide (o = none)) (some (true, ())) (bd (surveyorref01_Less.f lf (ob o) (bs (Lib.itoa z))) fun r => some ((!r.1), ()))) = some (decide (z ≤ key (hix o)), ()) := by
      intro o ho
      cases o with
      | none => rw [hi_none hz]; simp [brT]
      | some y =>
        have hl : surveyorref01_Less.f lf (ob (some y)) (bs (Lib.itoa z)) = some (decide (y < z), ()) := lessI lf h3 ho hz
        rw [hl, hi_some]
        simp [brF, bdS]
    cases hx : a.lo with
    | none =>
      rw [lo_none hz, Bool.true_and, ← hi _ hhi]
      simp [brT]
    | some x =>
      rw [hx] at hlo
      have hl1 : surveyorref01_Less.f lf (bs (Lib.itoa z)) (ob (some x)) = some (decide (z < x), ()) := lessI lf h3 hz hlo
      rw [hl1, lo_some]
      simp only [reduceCtorEq, decide_false, brF, bdS]
      cases decide (z < x) with
      | true => simp [brF]
      | false =>
        simp only [Bool.not_false, brT, Bool.true_and]
        exact hi _ hhi
/-- Both answer the same for all that comes in. -/
theorem holds_same (lf : Nat) (h3 : 200000 ≤ lf) (em : Bool) (l h v : List UInt8) (hl : l.length ≤ 100000) (hh : h.length ≤ 100000) (hv : v.length ≤ 100000) :
    ∃ r, interval_Holds.f lf (em, bs l, bs h, ()) (bs v) = some r ∧ surveyorref21_Holds.f lf (em, bs l, bs h, ()) (bs v) = some r := by
  have hc1 := check_iv lf h3 em l h (by omega) (by omega)
  have hc2 := check_ref lf h3 em l h (by omega) (by omega) (by omega) (by omega)
  by_cases hc : ck em l h = 0
  · obtain ⟨a, ea, wa⟩ := ck_wf hc
    by_cases hk : chk v = 0
    · have e := itoa_iv (chk_zero.1 hk).1
      have hz := hk
      rw [e, chk_itoa] at hz
      rw [ea, e]
      refine ⟨_, holds_wf lf h3 wa hz, ?_⟩
      have hlen := okb_len hz
      rw [surveyorref21_Holds.f]
      simp only [check_wf_ref lf h3 wa, bdS, bne_self_eq_false, brF, rCheck_f lf (Lib.itoa (iv v)) (by omega) (by omega), (chk_itoa _).2 hz, in_ref lf h3 wa hz]
    · refine ⟨(false, chk v, ()), ?_, ?_⟩
      · rw [interval_Holds.f]; simp only [hc1, hc, bdS, bne_self_eq_false, brF, check_f lf v (by omega), bneT hk, brT]
      · rw [surveyorref21_Holds.f]; simp only [hc2, hc, bdS, bne_self_eq_false, brF, rCheck_f lf v (by omega) (by omega), bneT hk, brT]
  · refine ⟨(false, ck em l h, ()), ?_, ?_⟩
    · rw [interval_Holds.f]; simp only [hc1, bdS, bneT hc, brT]
    · rw [surveyorref21_Holds.f]; simp only [hc2, bdS, bneT hc, brT]
theorem ob_of (l : List UInt8) (h : l = [] ∨ chk l = 0) : ∃ o, bs l = ob o ∧ okb K o ∧ (o = none ↔ l = []) := by
  by_cases h0 : l = []
  · exact ⟨none, by rw [h0]; rfl, trivial, by simp [h0]⟩
  · have hk : chk l = 0 := h.resolve_left h0
    have e := itoa_iv (chk_zero.1 hk).1
    have hz := hk
    rw [e, chk_itoa] at hz
    exact ⟨some (iv l), by rw [ob, ← e], hz, by simp [h0]⟩
theorem make_same (lf : Nat) (h3 : 200000 ≤ lf) (l h : List UInt8) (hl : l.length ≤ 100000) (hh : h.length ≤ 100000) :
    ∃ r, interval_Make.f lf (bs l) (bs h) = some r ∧ surveyorref21_Make.f lf (bs l) (bs h) = some r := by
  have fin : (l = [] ∨ chk l = 0) → (h = [] ∨ chk h = 0) → ∃ s, interval_of.f lf (false, bs l, bs h, ()) = some (sc s, ()) ∧ interval_span_interval.f lf (sc s) = some (ac (toA s), ()) ∧ surveyorref21_Range.f lf (bs l) (bs h) = some (ac (toA s), ()) := by
    intro a b
    obtain ⟨o1, e1, k1, _⟩ := ob_of l a
    obtain ⟨o2, e2, k2, _⟩ := ob_of h b
    rw [e1, e2]
    exact ⟨⟨lox o1, hix o2⟩, of_f lf ⟨false, o1, o2⟩, interval_f lf h3 ⟨okb_lox k1, okb_hix k2⟩, range_f lf h3 o1 o2 k1 k2⟩
  rw [interval_Make.f, surveyorref21_Make.f]
  simp only [e0, beq_bs, check_f lf l (by omega), check_f lf h (by omega), rCheck_f lf l (by omega) (by omega), rCheck_f lf h (by omega) (by omega), bdS]
  by_cases h1 : l = [] <;> by_cases k1 : chk l = 0 <;> by_cases h2 : h = [] <;> by_cases k2 : chk h = 0
  all_goals first
    | (obtain ⟨s, f1, f2, f3⟩ := fin (by simp [h1, k1]) (by simp [h2, k2]); refine ⟨(ac (toA s), 0, ()), ?_, ?_⟩ <;> simp [h1, h2, k1, k2, bneT, brT, brF, bdS, e0] at f1 f2 f3 ⊢ <;> simp [f1, f2, f3, bdS])
    | (simp [h1, h2, k1, k2, bneT k1, bneT k2, brT, brF])
    | (simp [h1, h2, k1, k2, bneT k1, brT, brF])
    | (simp [h1, h2, k1, k2, bneT k2, brT, brF])
theorem few_f (lf : Nat) (e1 e2 : Bool) (l1 m1 l2 m2 : List UInt8) : surveyorref21_Few.f lf (e1, bs l1, bs m1, ()) (e2, bs l2, bs m2, ()) = some (decide (l1.length ≤ 450 ∧ m1.length ≤ 450 ∧ l2.length ≤ 450 ∧ m2.length ≤ 450), ()) := by
  rw [surveyorref21_Few.f]
  have e : ∀ n : Nat, decide ((n : Int) ≤ 450) = decide (n ≤ 450) := fun n => by simp only [decide_eq_decide]; omega
  simp only [bs_size, e, brI, decide_eq_true_eq]
  by_cases h1 : l1.length ≤ 450 <;> by_cases h2 : m1.length ≤ 450 <;> by_cases h3 : l2.length ≤ 450 <;> simp [h1, h2, h3]
end Go.N
/-! # Intervals: the reference's widening, narrowing, texts; both answer the same -/
namespace Go.N
open Go Go.Q Go.Rx
set_option linter.unusedVariables false
set_option linter.unusedSimpArgs false

theorem ob_eq (x y : Option Int) : ((ob x).toList == (ob y).toList) = decide (x = y) := by
  have e : ∀ o : Option Int, ∃ l, ob o = bs l := fun o => by cases o with
    | none => exact ⟨_, rfl⟩
    | some z => exact ⟨_, rfl⟩
  obtain ⟨l, hl⟩ := e x
  obtain ⟨m, hm⟩ := e y
  rw [hl, hm, beq_bs]
  simp only [decide_eq_decide]
  constructor
  · rintro rfl; exact ob_inj (hl.trans hm.symm)
  · rintro rfl; exact bs_inj (hl.symm.trans hm)
theorem bz_ob (z : Int) : bz z = ob (some z) := rfl
theorem tx_fin {z : Int} (h : -C < z ∧ z < C) : tx (.fin z) = some z := by simp only [tx, clip]; rw [if_pos h]
theorem below_l0 (lf : Nat) (h3 : 200000 ≤ lf) (zs : List Int) (hz : Th zs) (hl : zs.length ≤ 1024) {v : Option Int} (hv : okb K v) : ∀ (k n i : Nat) (acc : X), i + k = zs.length → k < n →
    surveyorref21_Below.l0 lf (zs.map bz) (ob v) n (ob (tx acc)) (i : Nat) = some ((ob (tx ((zs.drop i).foldl (bel (key (lox v))) acc)), ()), ()) := by
  have hK := C_lt_K
  intro k
  induction k with
  | zero =>
    intro n i acc hi hn
    obtain ⟨m, rfl⟩ := Nat.exists_eq_succ_of_ne_zero (show n ≠ 0 by omega)
    rw [surveyorref21_Below.l0, surveyorref21_Below.r0, List.length_map, decide_eq_false (by omega), brF, List.drop_of_length_le (by omega)]; rfl
  | succ k ih =>
    intro n i acc hi hn
    obtain ⟨m, rfl⟩ := Nat.exists_eq_succ_of_ne_zero (show n ≠ 0 by omega)
    have hlt : i < zs.length := by omega
    have hzi := hz zs[i] (List.getElem_mem hlt)
    rw [surveyorref21_Below.l0, surveyorref21_Below.r0, List.length_map, decide_eq_true (by omega), brT, ob_beq, List.drop_eq_getElem_cons hlt, List.foldl_cons, w64 (by omega) (by omega), show ((i : Nat) : Int) + 1 = ((i + 1 : Nat) : Int) by omega]
    cases v with
    | none =>
      have : bel (key (lox none)) acc zs[i] = acc := if_neg (show ¬ zs[i] ≤ -K by omega)
      rw [this]
      simp only [decide_true, Bool.not_true, brF]
      exact ih m (i + 1) acc (by omega) (by omega)
    | some w =>
      have hl : surveyorref01_Less.f lf (ob (some w)) (bz zs[i]) = some (decide (w < zs[i]), ()) := lessI lf h3 hv (by omega)
      simp only [reduceCtorEq, decide_false, Bool.not_false, brT]
      rw [bz_idx zs i hlt, bdS, bdS, hl, bdS]
      by_cases h : w < zs[i]
      · have : bel (key (lox (some w))) acc zs[i] = acc := if_neg (show ¬ zs[i] ≤ w by omega)
        rw [this, decide_eq_true h]
        simp only [Bool.not_true, brF]
        exact ih m (i + 1) acc (by omega) (by omega)
      · have : bel (key (lox (some w))) acc zs[i] = .fin zs[i] := if_pos (show zs[i] ≤ w by omega)
        rw [this, decide_eq_false h]
        simp only [Bool.not_false, brT]
        rw [show bz zs[i] = ob (tx (.fin zs[i])) by rw [tx_fin hzi]; rfl]
        exact ih m (i + 1) _ (by omega) (by omega)
theorem below_ref (lf : Nat) (h3 : 200000 ≤ lf) (zs : List Int) (hz : Th zs) (hl : zs.length ≤ 1024) {v : Option Int} (hv : okb K v) : surveyorref21_Below.f lf (zs.map bz) (ob v) = some (ob (tx (below zs (lox v))), ()) := by
  rw [surveyorref21_Below.f]
  have := below_l0 lf h3 zs hz hl hv zs.length (lf + 40) 0 .ni (by omega) (by omega)
  exact bdE this _
theorem above_l0 (lf : Nat) (h3 : 200000 ≤ lf) (zs : List Int) (hz : Th zs) (hl : zs.length ≤ 1024) {v : Option Int} (hv : okb K v) : ∀ (k n i : Nat), i + k = zs.length → k < n →
    ∃ b x, surveyorref21_Above.l0 lf (zs.map bz) (ob v) n (i : Nat) = some (b, (x, ()), (), ()) ∧ (if b = true then x else bs []) = ob (tx ((zs.drop i).foldr (abo (key (hix v))) .pi)) := by
  have hK := C_lt_K
  intro k
  induction k with
  | zero =>
    intro n i hi hn
    obtain ⟨m, rfl⟩ := Nat.exists_eq_succ_of_ne_zero (show n ≠ 0 by omega)
    rw [surveyorref21_Above.l0, surveyorref21_Above.r0, List.length_map, decide_eq_false (by omega), brF, List.drop_of_length_le (by omega)]
    exact ⟨false, _, rfl, rfl⟩
  | succ k ih =>
    intro n i hi hn
    obtain ⟨m, rfl⟩ := Nat.exists_eq_succ_of_ne_zero (show n ≠ 0 by omega)
    have hlt : i < zs.length := by omega
    have hzi := hz zs[i] (List.getElem_mem hlt)
    rw [surveyorref21_Above.l0, surveyorref21_Above.r0, List.length_map, decide_eq_true (by omega), brT, ob_beq, List.drop_eq_getElem_cons hlt, List.foldr_cons, w64 (by omega) (by omega), show ((i : Nat) : Int) + 1 = ((i + 1 : Nat) : Int) by omega]
    cases v with
    | none =>
      have : ∀ acc, abo (key (hix none)) zs[i] acc = acc := fun acc => if_neg (show ¬ zs[i] ≥ K by omega)
      rw [this]
      simp only [decide_true, Bool.not_true, brF]
      exact ih m (i + 1) (by omega) (by omega)
    | some w =>
      have hl : surveyorref01_Less.f lf (bz zs[i]) (ob (some w)) = some (decide (zs[i] < w), ()) := lessI lf h3 (by omega) hv
      simp only [reduceCtorEq, decide_false, Bool.not_false, brT]
      rw [bz_idx zs i hlt, bdS, bdS, hl, bdS]
      by_cases h : zs[i] < w
      · have : ∀ acc, abo (key (hix (some w))) zs[i] acc = acc := fun acc => if_neg (show ¬ zs[i] ≥ w by omega)
        rw [this, decide_eq_true h]
        simp only [Bool.not_true, brF]
        exact ih m (i + 1) (by omega) (by omega)
      · have : ∀ acc, abo (key (hix (some w))) zs[i] acc = .fin zs[i] := fun acc => if_pos (show zs[i] ≥ w by omega)
        rw [this, decide_eq_false h]
        simp only [Bool.not_false, brT]
        exact ⟨true, _, rfl, by rw [if_pos rfl, tx_fin hzi]; rfl⟩
theorem above_ref (lf : Nat) (h3 : 200000 ≤ lf) (zs : List Int) (hz : Th zs) (hl : zs.length ≤ 1024) {v : Option Int} (hv : okb K v) : surveyorref21_Above.f lf (zs.map bz) (ob v) = some (ob (tx (above zs (hix v))), ()) := by
  rw [surveyorref21_Above.f]
  obtain ⟨b, x, e1, e2⟩ := above_l0 lf h3 zs hz hl hv zs.length (lf + 40) 0 (by omega) (by omega)
  rw [show ((0 : Nat) : Int) = 0 from rfl] at e1
  rw [e1, bdS]
  rw [List.drop_zero] at e2
  unfold above
  rw [← e2]
  cases b with
  | true => simp only [brT, if_true]
  | false => simp only [brF]; rfl
theorem lox_tx {x : X} (h : okx C x) (hp : x ≠ .pi) : lox (tx x) = x := by
  cases x with
  | ni => rfl
  | pi => exact absurd rfl hp
  | fin z => rw [tx_fin h]; rfl
theorem hix_tx {x : X} (h : okx C x) (hp : x ≠ .ni) : hix (tx x) = x := by
  cases x with
  | pi => rfl
  | ni => exact absurd rfl hp
  | fin z => rw [tx_fin h]; rfl
theorem foldl_le {v : Int} : ∀ (zs : List Int) (acc : X), key acc ≤ v → key (zs.foldl (bel v) acc) ≤ v
  | [], acc, h => h
  | z :: zs, acc, h => foldl_le zs _ (by unfold bel; split; assumption; exact h)
theorem foldr_ge {v : Int} : ∀ (zs : List Int) (acc : X), v ≤ key acc → v ≤ key (zs.foldr (abo v) acc)
  | [], acc, h => h
  | z :: zs, acc, h => by
    have := foldr_ge zs acc h
    rw [List.foldr_cons]; unfold abo; split; assumption; exact this
theorem below_le (zs : List Int) {v : X} (hv : okx K v) : key (below zs v) ≤ key v := foldl_le zs _ (key_le hv).1
theorem above_ge (zs : List Int) {v : X} (hv : okx K v) : key v ≤ key (above zs v) := foldr_ge zs _ (key_le hv).2
theorem hull_keys {a b : A} (ha : Wf a) (hb : Wf b) (ea : a.em = false) (eb : b.em = false) :
    emp (hull (ofA a) (ofA b)) = false ∧ (hull (ofA a) (ofA b)).lo ≠ .pi ∧ (hull (ofA a) (ofA b)).hi ≠ .ni := by
  have ka := ha.ks.e2 ea
  have kb := hb.ks.e2 eb
  have e : hull (ofA a) (ofA b) = ⟨xmin (ofA a).lo (ofA b).lo, xmax (ofA a).hi (ofA b).hi⟩ := by
    unfold hull; rw [emp_ofA ha, emp_ofA hb, ea, eb]; rfl
  have k1 := key_min (ofA a).lo (ofA b).lo
  have k2 := key_max (ofA a).hi (ofA b).hi
  rw [e]
  refine ⟨decide_eq_false ?_, lo_ne_pi ?_, hi_ne_ni ?_⟩
  · rw [k1, k2]; omega
  · show key (xmin _ _) < K
    rw [k1]; omega
  · show -K < key (xmax _ _)
    rw [k2]; omega
theorem widened_ref (lf : Nat) (h3 : 200000 ≤ lf) {a b : A} (ha : Wf a) (hb : Wf b) {zs : List Int} (hz : Th zs) (hl : zs.length ≤ 1024) : surveyorref21_Widened.f lf (ac a) (ac b) (zs.map bz) = some (ac (toA (widen (ofA a) (ofA b) zs)), ()) := by
  rw [surveyorref21_Widened.f, joined_ref lf h3 ha hb]
  unfold widen
  rw [emp_ofA ha, emp_ofA hb]
  cases ea : a.em with
  | true =>
    rw [if_pos (.inl rfl)]
    unfold hull
    rw [emp_ofA ha, ea, if_pos rfl, toA_ofA hb]
    simp only [ac, ea, brT]
  | false =>
    cases eb : b.em with
    | true =>
      rw [if_pos (.inr rfl)]
      unfold hull
      rw [emp_ofA ha, emp_ofA hb, ea, eb, if_neg (by simp), if_pos rfl, toA_ofA ha]
      simp only [ac, ea, eb, brT, brF]
    | false =>
      rw [if_neg (by simp)]
      obtain ⟨he, hp, hn⟩ := hull_keys ha hb ea eb
      have hC := hull_ok ha.okC hb.okC
      have hKo := hull_ok ha.okK hb.okK
      have sl : (ofA a).lo = lox a.lo := by unfold ofA; rw [ea]; rfl
      have sh : (ofA a).hi = hix a.hi := by unfold ofA; rw [ea]; rfl
      generalize hull (ofA a) (ofA b) = H at *
      have tl1 := lox_tx hC.1 hp
      have th1 := hix_tx hC.2 hn
      have eJ : toA H = ⟨false, tx H.lo, tx H.hi⟩ := by unfold toA; rw [he]; rfl
      have q1 : (tx H.lo = a.lo) ↔ key H.lo = key (ofA a).lo := by
        rw [sl]
        constructor
        · intro h; rw [← h, tl1]
        · intro h
          have := key_inj hKo.1 (okb_lox ha.loK) h
          rw [this]
          have ho := ha.lo
          cases hx : a.lo with
          | none => rfl
          | some z => rw [hx] at ho; exact tx_fin ho
      have q2 : (tx H.hi = a.hi) ↔ key H.hi = key (ofA a).hi := by
        rw [sh]
        constructor
        · intro h; rw [← h, th1]
        · intro h
          have := key_inj hKo.2 (okb_hix ha.hiK) h
          rw [this]
          have ho := ha.hi
          cases hx : a.hi with
          | none => rfl
          | some z => rw [hx] at ho; exact tx_fin ho
      have ot : ∀ x : X, okx C x → okb K (tx x) := by
        intro x hx
        have := C_lt_K
        cases x with
        | fin z => rw [tx_fin hx]; simp only [okx, okb] at *; omega
        | ni => trivial
        | pi => trivial
      have b1 := below_ref lf h3 zs hz hl (ot H.lo hC.1)
      have a1 := above_ref lf h3 zs hz hl (ot H.hi hC.2)
      rw [tl1] at b1
      rw [th1] at a1
      have le1 := below_le zs hKo.1
      have le2 := above_ge zs hKo.2
      have hle : key H.lo ≤ key H.hi := by unfold emp at he; simpa using he
      rw [eJ]
      simp only [ac, ea, eb, brF, bdS, ob_eq, b1, a1]
      by_cases h1 : key H.lo = key (ofA a).lo
      · rw [decide_eq_true (q1.2 h1), if_neg (fun h => h h1)]
        simp only [Bool.not_true, brF]
        by_cases h2 : key H.hi = key (ofA a).hi
        · rw [decide_eq_true (q2.2 h2), if_neg (fun h => h h2)]
          simp only [Bool.not_true, brF]
          have : toA ⟨H.lo, H.hi⟩ = ⟨false, tx H.lo, tx H.hi⟩ := eJ
          rw [this]
        · rw [decide_eq_false (fun h => h2 (q2.1 h)), if_pos h2]
          simp only [Bool.not_false, brT]
          have : toA ⟨H.lo, above zs H.hi⟩ = ⟨false, tx H.lo, tx (above zs H.hi)⟩ := by
            unfold toA
            rw [show emp ⟨H.lo, above zs H.hi⟩ = false from decide_eq_false (by simp only; omega)]; rfl
          rw [this]
      · rw [decide_eq_false (fun h => h1 (q1.1 h)), if_pos h1]
        simp only [Bool.not_false, brT]
        by_cases h2 : key H.hi = key (ofA a).hi
        · rw [decide_eq_true (q2.2 h2), if_neg (fun h => h h2)]
          simp only [Bool.not_true, brF]
          have : toA ⟨below zs H.lo, H.hi⟩ = ⟨false, tx (below zs H.lo), tx H.hi⟩ := by
            unfold toA
            rw [show emp ⟨below zs H.lo, H.hi⟩ = false from decide_eq_false (by simp only; omega)]; rfl
          rw [this]
        · rw [decide_eq_false (fun h => h2 (q2.1 h)), if_pos h2]
          simp only [Bool.not_false, brT]
          have : toA ⟨below zs H.lo, above zs H.hi⟩ = ⟨false, tx (below zs H.lo), tx (above zs H.hi)⟩ := by
            unfold toA
            rw [show emp ⟨below zs H.lo, above zs H.hi⟩ = false from decide_eq_false (by simp only; omega)]; rfl
          rw [this]
end Go.N
/-! # Intervals: both answer the same for all that comes in: widening, narrowing, texts -/
namespace Go.N
open Go Go.Q Go.Rx
set_option linter.unusedVariables false
set_option linter.unusedSimpArgs false

section
variable (lf : Nat) (h3 : 200000 ≤ lf) {e1 e2 : Bool} {l1 m1 l2 m2 : List UInt8} (a1 : l1.length ≤ 100000) (b1 : m1.length ≤ 100000) (a2 : l2.length ≤ 100000) (b2 : m2.length ≤ 100000)
include h3 a1 b1 a2 b2
theorem both_ref : surveyorref21_both.f lf (e1, bs l1, bs m1, ()) (e2, bs l2, bs m2, ()) = some ((if ck e1 l1 m1 = 0 then ck e2 l2 m2 else ck e1 l1 m1), ()) := by
  rw [surveyorref21_both.f, check_ref lf h3 e1 l1 m1 (by omega) (by omega) (by omega) (by omega), bdS, check_ref lf h3 e2 l2 m2 (by omega) (by omega) (by omega) (by omega)]
  by_cases h : ck e1 l1 m1 = 0
  · simp [h, brF, bdS]
  · simp [h, bneT h, brT]
theorem widen_same (ts : List ByteArray) (hl : ts.length ≤ 9223372036854775807) (hs : ∀ b ∈ ts, (tl b).length ≤ 9223372036854775807 ∧ (tl b).length ≤ lf) :
    ∃ r, interval_Widen.f lf (e1, bs l1, bs m1, ()) (e2, bs l2, bs m2, ()) ts = some r ∧ surveyorref21_Widen.f lf (e1, bs l1, bs m1, ()) (e2, bs l2, bs m2, ()) ts = some r := by
  have hb := both_ref lf h3 a1 b1 a2 b2 (e1 := e1) (e2 := e2)
  have k1 := check_iv lf h3 e1 l1 m1 (by omega) (by omega)
  have k2 := check_iv lf h3 e2 l2 m2 (by omega) (by omega)
  by_cases c1 : ck e1 l1 m1 = 0
  · rw [if_pos c1] at hb
    by_cases c2 : ck e2 l2 m2 = 0
    · obtain ⟨v, t1, t2, t3⟩ := thr_same lf h3 ts hl hs
      by_cases hv : v = 0
      · obtain ⟨zs, rfl, hz, hzl, _⟩ := t3 hv
        rw [hv] at t1 t2
        obtain ⟨a, ea, wa⟩ := ck_wf c1
        obtain ⟨b, eb, wb⟩ := ck_wf c2
        rw [c2] at hb
        rw [surveyorref21_Widen.f]
        rw [ea, eb] at hb ⊢
        refine ⟨_, widen_f lf h3 wa wb hz hzl t1, ?_⟩
        simp only [hb, bdS, bne_self_eq_false, brF, t2, widened_ref lf h3 wa wb hz hzl]
      · refine ⟨((false, bs [], bs [], ()), v, ()), ?_, ?_⟩
        · rw [interval_Widen.f]; simp only [k1, k2, c1, c2, bdS, bne_self_eq_false, brF, t1, bneT hv, brT]
        · rw [surveyorref21_Widen.f]; simp only [hb, c2, bdS, bne_self_eq_false, brF, t2, bneT hv, brT]
    · refine ⟨((false, bs [], bs [], ()), ck e2 l2 m2, ()), ?_, ?_⟩
      · rw [interval_Widen.f]; simp only [k1, k2, c1, bdS, bne_self_eq_false, brF, bneT c2, brT]
      · rw [surveyorref21_Widen.f]; simp only [hb, bdS, bneT c2, brT]
  · rw [if_neg c1] at hb
    refine ⟨((false, bs [], bs [], ()), ck e1 l1 m1, ()), ?_, ?_⟩
    · rw [interval_Widen.f]; simp only [k1, bdS, bneT c1, brT]
    · rw [surveyorref21_Widen.f]; simp only [hb, bdS, bneT c1, brT]
end
def orO (x y : Option Int) : Option Int := match x with
  | none => y
  | some a => some a
theorem orO_ok {k : Int} {x y : Option Int} (hx : okb k x) (hy : okb k y) : okb k (orO x y) := by cases x <;> simp_all [orO]
/-- The narrowed span. -/
def narrow (a b : A) : Sp := if a.em = true ∨ b.em = true then non else ⟨lox (orO a.lo b.lo), hix (orO a.hi b.hi)⟩
theorem narrow_ok {k : Int} {a b : A} (h1 : okb k a.lo) (h2 : okb k a.hi) (h3 : okb k b.lo) (h4 : okb k b.hi) : oks k (narrow a b) := by
  unfold narrow; split
  · exact non_ok
  · exact ⟨okb_lox (orO_ok h1 h3), okb_hix (orO_ok h2 h4)⟩
theorem narrow1_f (lf : Nat) (h3 : 200000 ≤ lf) {a b : A} (ha : Wf a) (hb : Wf b) : interval_Narrow_1.f lf (sc (ofA a)) (sc (ofA b)) = some (sc (narrow a b), ()) := by
  rw [interval_Narrow_1.f, empty_f lf h3 ha.okK, bdS, empty_f lf h3 hb.okK, emp_ofA ha, emp_ofA hb]
  unfold narrow
  cases ea : a.em with
  | true => simp only [brT, none_f, bdS]; rfl
  | false => cases eb : b.em with
    | true => simp only [brT, brF, bdS, none_f]; rfl
    | false =>
      have sa : ofA a = ⟨lox a.lo, hix a.hi⟩ := by unfold ofA; rw [ea]; rfl
      have sb : ofA b = ⟨lox b.lo, hix b.hi⟩ := by unfold ofA; rw [eb]; rfl
      rw [sa, sb]
      simp only [brF, bdS, sc, Bool.false_eq_true, or_self, if_false]
      cases a.lo <;> cases a.hi <;> simp [lox, hix, xc, orO, brT, brF]
theorem narrow_f (lf : Nat) (h3 : 200000 ≤ lf) {a b : A} (ha : Wf a) (hb : Wf b) : interval_Narrow.f lf (ac a) (ac b) = some (ac (toA (narrow a b)), 0, ()) := by
  rw [interval_Narrow.f]
  simp only [check_wf lf h3 ha, check_wf lf h3 hb, bdS, bne_self_eq_false, brF, of_f, narrow1_f lf h3 ha hb, interval_f lf h3 (narrow_ok ha.loK ha.hiK hb.loK hb.hiK)]
theorem narrowed_ref (lf : Nat) (h3 : 200000 ≤ lf) {a b : A} (ha : Wf a) (hb : Wf b) : surveyorref21_Narrowed.f lf (ac a) (ac b) = some (ac (toA (narrow a b)), ()) := by
  rw [surveyorref21_Narrowed.f]
  unfold narrow
  have en : toA non = ⟨true, none, none⟩ := by unfold toA; rw [emp_non]; rfl
  cases ea : a.em with
  | true => simp only [ac, ea, brT, surveyorref21_None.f, bdS, true_or, if_true, en]; rfl
  | false => cases eb : b.em with
    | true => simp only [ac, ea, eb, brT, brF, surveyorref21_None.f, bdS, or_true, if_true, en]; rfl
    | false =>
      have r := range_f lf h3 (orO a.lo b.lo) (orO a.hi b.hi) (orO_ok ha.loK hb.loK) (orO_ok ha.hiK hb.hiK)
      simp only [ac, ea, eb, brF, ob_beq, Bool.false_eq_true, or_self, if_false]
      revert r
      cases a.lo <;> cases a.hi <;> intro r <;> simp only [orO] at r <;> simp [brT, brF, bdS, r, orO, ac]
section
variable (lf : Nat) (h3 : 200000 ≤ lf) {e1 e2 : Bool} {l1 m1 l2 m2 : List UInt8} (a1 : l1.length ≤ 100000) (b1 : m1.length ≤ 100000) (a2 : l2.length ≤ 100000) (b2 : m2.length ≤ 100000)
include h3 a1 b1 a2 b2
theorem narrow_same : ∃ r, interval_Narrow.f lf (e1, bs l1, bs m1, ()) (e2, bs l2, bs m2, ()) = some r ∧ surveyorref21_Narrow.f lf (e1, bs l1, bs m1, ()) (e2, bs l2, bs m2, ()) = some r := by
  have hb := both_ref lf h3 a1 b1 a2 b2 (e1 := e1) (e2 := e2)
  have k1 := check_iv lf h3 e1 l1 m1 (by omega) (by omega)
  have k2 := check_iv lf h3 e2 l2 m2 (by omega) (by omega)
  by_cases c1 : ck e1 l1 m1 = 0
  · rw [if_pos c1] at hb
    by_cases c2 : ck e2 l2 m2 = 0
    · obtain ⟨a, ea, wa⟩ := ck_wf c1
      obtain ⟨b, eb, wb⟩ := ck_wf c2
      rw [c2] at hb
      rw [surveyorref21_Narrow.f]
      rw [ea, eb] at hb ⊢
      refine ⟨_, narrow_f lf h3 wa wb, ?_⟩
      simp only [hb, bdS, bne_self_eq_false, brF, narrowed_ref lf h3 wa wb]
    · refine ⟨((false, bs [], bs [], ()), ck e2 l2 m2, ()), ?_, ?_⟩
      · rw [interval_Narrow.f]; simp only [k1, k2, c1, bdS, bne_self_eq_false, brF, bneT c2, brT]
      · rw [surveyorref21_Narrow.f]; simp only [hb, bdS, bneT c2, brT]
  · rw [if_neg c1] at hb
    refine ⟨((false, bs [], bs [], ()), ck e1 l1 m1, ()), ?_, ?_⟩
    · rw [interval_Narrow.f]; simp only [k1, bdS, bneT c1, brT]
    · rw [surveyorref21_Narrow.f]; simp only [hb, bdS, bneT c1, brT]
end
theorem format_same (lf : Nat) (h3 : 200000 ≤ lf) {e1 : Bool} {l1 m1 : List UInt8} (a1 : l1.length ≤ 100000) (b1 : m1.length ≤ 100000) :
    ∃ r, interval_Format.f lf (e1, bs l1, bs m1, ()) = some r ∧ surveyorref21_Format.f lf (e1, bs l1, bs m1, ()) = some r := by
  have k1 := check_iv lf h3 e1 l1 m1 (by omega) (by omega)
  have k2 := check_ref lf h3 e1 l1 m1 (by omega) (by omega) (by omega) (by omega)
  by_cases c1 : ck e1 l1 m1 = 0
  · rw [interval_Format.f, surveyorref21_Format.f, surveyorref21_Text.f, k1, k2, c1]
    have cat : ∀ (a b : List UInt8), a.length + b.length ≤ 400000 → sCat (bs a) (bs b) = some (bs (a ++ b)) := fun a b h => sCat_bs a b (by omega)
    have w1 : (⟨#[91]⟩ : ByteArray) = bs [91] := rfl
    have w2 : (⟨#[44, 32]⟩ : ByteArray) = bs [44, 32] := rfl
    have w3 : (⟨#[93]⟩ : ByteArray) = bs [93] := rfl
    have w4 : (⟨#[45, 105, 110, 102]⟩ : ByteArray) = bs [45, 105, 110, 102] := rfl
    have w5 : (⟨#[43, 105, 110, 102]⟩ : ByteArray) = bs [43, 105, 110, 102] := rfl
    simp only [bdS, bne_self_eq_false, brF, e0, beq_bs, w1, w2, w3, w4, w5]
    cases e1 with
    | true =>
      simp only [brT, bdS]
      exact ⟨_, rfl, rfl⟩
    | false =>
      simp only [brF]
      by_cases h1 : l1 = [] <;> by_cases h2 : m1 = []
      all_goals
        simp only [h1, h2, decide_true, decide_false, Bool.not_true, Bool.not_false, brT, brF]
        simp (disch := (simp only [List.length_append, List.length_cons, List.length_nil]; omega)) only [cat, bdS]
        exact ⟨_, rfl, rfl⟩
  · rw [interval_Format.f, surveyorref21_Format.f, k1, k2]
    simp only [bdS, bneT c1, brT]
    exact ⟨_, rfl, rfl⟩
end Go.N
/-! # bigint: numbers as texts -/
namespace Go.N
open Go Go.Q Go.Rx
set_option linter.unusedVariables false
set_option linter.unusedSimpArgs false

abbrev D (n : Nat) : List UInt8 := Lib.decDigits n
def zs (n : Nat) : List UInt8 := List.replicate n 48
theorem zs_all (n : Nat) : (zs n).all isDig = true := by
  unfold zs
  rw [List.all_eq_true]
  intro b hb
  rw [(List.mem_replicate.1 hb).2]; rfl
theorem dv_zs : ∀ n : Nat, dv (zs n) = 0
  | 0 => rfl
  | n + 1 => by
    unfold zs
    rw [List.replicate_succ', dv_snoc]
    have := dv_zs n
    unfold zs at this
    rw [this]; rfl
theorem dec_pad {v x k : Nat} (hv : 0 < v) (hk : 0 < k) (hx : x < 10 ^ k) : D (v * 10 ^ k + x) = D v ++ (zs (k - (D x).length) ++ D x) := by
  have hlen : (D x).length ≤ k := by
    obtain ⟨j, rfl⟩ := Nat.exists_eq_succ_of_ne_zero (show k ≠ 0 by omega)
    exact dec_len_le j x hx
  obtain ⟨b, r, e, hb⟩ := dec_head (show v ≠ 0 by omega)
  have h1 : (D v ++ (zs (k - (D x).length) ++ D x)).all isDig = true := by
    rw [List.all_append, List.all_append, dec_all, zs_all, dec_all]; rfl
  have h2 : dv (D v ++ (zs (k - (D x).length) ++ D x)) = v * 10 ^ k + x := by
    rw [dv_app, dv_app, dv_zs, dv_dec, dv_dec, List.length_append]
    unfold zs
    rw [List.length_replicate, Nat.sub_add_cancel hlen]; omega
  have h3 := dec_of h1 (by rw [show D v = b :: r from e]; simp) (.inl (by rw [show D v = b :: r from e]; simpa using hb))
  rw [h2] at h3
  exact h3.symm
theorem dec_pad_len {v x k : Nat} (hv : 0 < v) (hk : 0 < k) (hx : x < 10 ^ k) : (D (v * 10 ^ k + x)).length = (D v).length + k := by
  have hlen : (D x).length ≤ k := by
    obtain ⟨j, rfl⟩ := Nat.exists_eq_succ_of_ne_zero (show k ≠ 0 by omega)
    exact dec_len_le j x hx
  rw [dec_pad hv hk hx, List.length_append, List.length_append]
  unfold zs
  rw [List.length_replicate]; omega
/-- The value of the limbs from the k-th on. -/
def uv (L : List Int) (k : Nat) : Nat := (lv G (L.drop k)).toNat
theorem uv_succ {L : List Int} (h : Dg G L) (k : Nat) (hk : k < L.length) : uv L k = uv L (k + 1) * 10 ^ 9 + (L[k]).toNat := by
  unfold uv
  rw [List.drop_eq_getElem_cons hk, lv]
  have h1 := h.at k hk
  have h2 := lv_nonneg (B := G) (by decide) (h.drop (k + 1))
  have e : (10 : Nat) ^ 9 = 1000000000 := by decide
  rw [e]
  simp only [G] at *
  omega
theorem uv_len (L : List Int) : uv L L.length = 0 := by unfold uv; rw [List.drop_length]; rfl
theorem uv_pos {L : List Int} (h : Dg G L) (ht : Tr L) {k : Nat} (hk : k < L.length) : 0 < uv L k := by
  have hT : Tr (L.drop k) := by
    unfold Tr at *
    rw [List.getLast?_drop, if_neg (by omega)]
    exact ht
  have := lv_pos (B := G) (by decide) (h.drop k) hT (by intro e; have := congrArg List.length e; simp at this; omega)
  unfold uv; omega
theorem uv_dlen {L : List Int} (h : Dg G L) {k : Nat} (hk : k < L.length) : (D (uv L k)).length ≤ 9 * (L.length - k) := by
  have h1 := lv_lt (B := G) (by decide) (h.drop k)
  have h2 := lv_nonneg (B := G) (by decide) (h.drop k)
  rw [List.length_drop] at h1
  have h3 : uv L k < 10 ^ (9 * (L.length - k)) := by
    unfold uv
    have e : (G : Int) ^ (L.length - k) = ((10 ^ (9 * (L.length - k)) : Nat) : Int) := by
      rw [Nat.pow_mul]
      have : (10 : Nat) ^ 9 = 1000000000 := by decide
      rw [this]
      simp [G]
    rw [e] at h1
    omega
  obtain ⟨j, hj⟩ := Nat.exists_eq_succ_of_ne_zero (show 9 * (L.length - k) ≠ 0 by omega)
  rw [hj] at h3 ⊢
  exact dec_len_le j _ h3
theorem itoa_nn {y : Int} (h : 0 ≤ y) : Lib.itoa y = D y.toNat := by unfold Lib.itoa; rw [if_neg (by omega)]
theorem bItoa (lf : Nat) {y : Int} (h1 : 0 ≤ y) (h2 : y < G) : B.Itoa.f lf y = some (bs (D y.toNat), ()) := by
  simp only [G] at h2
  unfold B.Itoa.f
  rw [if_pos ⟨by omega, by omega⟩, itoa_nn h1]
theorem repeat48 : ∀ c : Nat, Lib.repeatL [48] c = zs c
  | 0 => rfl
  | c + 1 => by rw [Lib.repeatL, repeat48 c]; rfl
theorem bRepeat (lf : Nat) (c : Nat) (h : c ≤ 9) : B.Repeat.f lf (⟨#[48]⟩ : ByteArray) (c : Int) = some (bs (zs c), ()) := by
  unfold B.Repeat.f
  have e : (⟨#[48]⟩ : ByteArray).size = 1 := rfl
  rw [e, if_pos ⟨by omega, by omega, by rw [Int.toNat_natCast]; omega⟩, Int.toNat_natCast]
  show some (bs (Lib.repeatL [48] c), ()) = _
  rw [repeat48]
abbrev si (l : List UInt8) : List Int := l.map fun b => (b.toNat : Int)
theorem si_app (l m : List UInt8) : si l ++ si m = si (l ++ m) := by simp [si]
/-- One round: the limb at k behind the texts of those above. -/
theorem limb_step (lf : Nat) {L : List Int} (h : Dg G L) (ht : Tr L) (hl : L.length ≤ 100000) (k : Nat) (hk : k < L.length) (pre : List UInt8) (hp : pre.length ≤ 1) {R : Type} (f : List Int → Option R) :
    (bd (idxL L (k : Nat)) fun y2 => bd (B.Itoa.f lf y2) fun r3 => br (decide (((k : Nat) : Int) < IntKind.i64.wrap (((L.length : Nat) : Int) - 1)))
      (bd (B.Repeat.f lf (⟨#[48]⟩ : ByteArray) (IntKind.i64.wrap (9 - ((r3.1.size : Nat) : Int)))) fun r4 => bd (apL true 1 (si (pre ++ (if k + 1 = L.length then [] else D (uv L (k + 1))))) (sBytes r4.1)) fun l5 => bd (apL true 1 l5 (sBytes r3.1)) fun l6 => f l6)
      (bd (apL true 1 (si (pre ++ (if k + 1 = L.length then [] else D (uv L (k + 1))))) (sBytes r3.1)) fun l7 => f l7)) = f (si (pre ++ D (uv L k))) := by
  have hy := h.at k hk
  have hlx : (D (L[k]).toNat).length ≤ 9 := dec_len_le 8 _ (by simp only [G] at hy; have : (10 : Nat) ^ (8 + 1) = 1000000000 := by decide
                                                               omega)
  rw [idxL_nat L k hk, bdS, bItoa lf hy.1 hy.2, bdS, w64 (n := ((L.length : Nat) : Int) - 1) (by omega) (by omega)]
  simp only [bs_size]
  rw [uv_succ h k hk]
  by_cases hlast : k + 1 = L.length
  · rw [decide_eq_false (by omega), brF, if_pos hlast, hlast, uv_len, List.append_nil]
    simp only [sBytes_bs]
    rw [apL_ok 1 _ _ (by omega) (by simp; omega), bdS, si_app]
    simp
  · have hd := uv_dlen h (k := k + 1) (by omega)
    rw [decide_eq_true (by omega), brT, if_neg hlast, w64 (by omega) (by omega)]
    rw [show (9 : Int) - ((D (L[k]).toNat).length : Nat) = ((9 - (D (L[k]).toNat).length : Nat) : Int) by omega, bRepeat lf _ (by omega), bdS]
    simp only [sBytes_bs]
    have hz : (zs (9 - (D (L[k]).toNat).length)).length = 9 - (D (L[k]).toNat).length := by simp [zs]
    rw [apL_ok 1 _ _ (by omega) (by simp only [List.length_map, List.length_append]; omega), bdS, si_app]
    rw [apL_ok 1 _ _ (by omega) (by simp only [List.length_map, List.length_append]; omega), bdS, si_app]
    rw [dec_pad (uv_pos h ht (by omega)) (by omega) (by simp only [G] at hy; have : (10 : Nat) ^ 9 = 1000000000 := by decide
                                                        omega)]
    simp only [List.append_assoc]
theorem text_l0 (lf : Nat) {L : List Int} (h : Dg G L) (ht : Tr L) (hl : L.length ≤ 100000) (b : Bool) (q : List Int) (pre : List UInt8) (hp : pre.length ≤ 1) : ∀ (k n : Nat), k ≤ L.length → k < n →
    bigint_number_text.l0 lf b L q L n ((k : Nat) - 1 : Int) (si (pre ++ (if k = L.length then [] else D (uv L k)))) = some ((si (pre ++ (if L.length = 0 then [] else D (uv L 0))), ()), ()) := by
  intro k
  induction k with
  | zero =>
    intro n hk hn
    obtain ⟨m, rfl⟩ := Nat.exists_eq_succ_of_ne_zero (show n ≠ 0 by omega)
    rw [bigint_number_text.l0, bigint_number_text.r0, decide_eq_false (by omega), brF]
    congr 5
    by_cases e : L.length = 0 <;> simp [e, eq_comm]
  | succ k ih =>
    intro n hk hn
    obtain ⟨m, rfl⟩ := Nat.exists_eq_succ_of_ne_zero (show n ≠ 0 by omega)
    rw [bigint_number_text.l0, bigint_number_text.r0, decide_eq_true (by omega), brT, show ((k + 1 : Nat) : Int) - 1 = (k : Nat) by omega]
    have st := limb_step lf h ht hl k (by omega) pre hp (fun l => bigint_number_text.l0 lf b L q L m (IntKind.i64.wrap (((k : Nat) : Int) - 1)) l)
    rw [st, w64 (by omega) (by omega)]
    have := ih m (by omega) (by omega)
    rw [if_neg (show ¬ k = L.length by omega)] at this
    exact this
theorem text_l2 (lf : Nat) {L : List Int} (h : Dg G L) (ht : Tr L) (hl : L.length ≤ 100000) (b : Bool) (pre : List UInt8) (hp : pre.length ≤ 1) : ∀ (k n : Nat), k ≤ L.length → k < n →
    bigint_number_text.l2 lf b L L n ((k : Nat) - 1 : Int) (si (pre ++ (if k = L.length then [] else D (uv L k)))) = some ((b, L, L, si (pre ++ (if L.length = 0 then [] else D (uv L 0))), ()), ()) := by
  intro k
  induction k with
  | zero =>
    intro n hk hn
    obtain ⟨m, rfl⟩ := Nat.exists_eq_succ_of_ne_zero (show n ≠ 0 by omega)
    rw [bigint_number_text.l2, bigint_number_text.r2, decide_eq_false (by omega), brF]
    congr 8
    by_cases e : L.length = 0 <;> simp [e, eq_comm]
  | succ k ih =>
    intro n hk hn
    obtain ⟨m, rfl⟩ := Nat.exists_eq_succ_of_ne_zero (show n ≠ 0 by omega)
    rw [bigint_number_text.l2, bigint_number_text.r2, decide_eq_true (by omega), brT, show ((k + 1 : Nat) : Int) - 1 = (k : Nat) by omega]
    have st := limb_step lf h ht hl k (by omega) pre hp (fun l => bigint_number_text.l2 lf b L L m (IntKind.i64.wrap (((k : Nat) : Int) - 1)) l)
    rw [st, w64 (by omega) (by omega)]
    have := ih m (by omega) (by omega)
    rw [if_neg (show ¬ k = L.length by omega)] at this
    exact this
theorem ntext_f (lf : Nat) {p : Bool × (List Int × Unit)} {z : Int} {k : Nat} (h : RN p z k) (hk : k ≤ 100000) (h3 : 200000 ≤ lf) : bigint_number_text.f lf p = some (bs (Lib.itoa z), ()) := by
  obtain ⟨ng, L, ⟨⟩⟩ := p
  obtain ⟨hd, ht, hl, hv⟩ := h
  simp only at hd ht hl hv
  rw [bigint_number_text.f]
  simp only
  by_cases h0 : L = []
  · subst h0
    have : z = 0 := by rw [hv]; cases ng <;> simp [lv]
    subst this
    rw [show (((([] : List Int).length : Nat) : Int) == 0) = true from rfl, brT]
    have : Lib.itoa 0 = [48] := by unfold Lib.itoa; rw [if_neg (by omega)]; exact dec_zero
    rw [this]
  · have hne : L.length ≠ 0 := fun e => h0 (List.length_eq_zero_iff.1 e)
    have hb : ((((L.length : Nat) : Int)) == 0) = false := by rw [beq_eq_false_iff_ne]; omega
    rw [hb, brF]
    have hu : (uv L 0 : Int) = lv G L := by
      have := lv_nonneg (B := G) (by decide) hd
      unfold uv; rw [List.drop_zero]; omega
    have hup := uv_pos hd ht (k := 0) (by omega)
    cases ng with
    | true =>
      rw [brT, apL_ok 1 _ _ (by omega) (by simp), bdS, w64 (by omega) (by omega)]
      have st := text_l0 lf hd ht (by omega) true [45] [45] (by simp) L.length (lf + 40) (Nat.le_refl _) (by omega)
      rw [if_pos rfl, if_neg hne] at st
      simp only [List.append_nil, List.nil_append] at st ⊢
      rw [show si [45] = ([45] : List Int) from rfl] at st
      rw [st, bdS]
      simp only
      rw [if_pos (by simp), bdS, bytesS_map]
      congr 2
      rw [if_pos rfl] at hv
      unfold Lib.itoa
      rw [if_pos (by omega), show z.natAbs = uv L 0 by omega]
      rfl
    | false =>
      rw [brF, w64 (by omega) (by omega)]
      obtain ⟨m, hm⟩ : ∃ m, lf + 40 = m + 1 := ⟨lf + 39, by omega⟩
      obtain ⟨t, htl⟩ := Nat.exists_eq_succ_of_ne_zero hne
      rw [hm, bigint_number_text.l1, bigint_number_text.r1, decide_eq_true (by omega), brT]
      have e1 : ((L.length : Nat) : Int) - 1 = (t : Nat) := by omega
      rw [e1]
      have st := limb_step lf hd ht (by omega) t (by omega) [] (by simp) (fun l => bd (bigint_number_text.l2 lf false L L m (IntKind.i64.wrap (((t : Nat) : Int) - 1)) l) fun z22 => some (false, (false, ([] : List Int), ([] : List Int), ([] : List Int), ()), ((z22.1.1, z22.1.2.1, z22.1.2.2.1, z22.1.2.2.2.1, ()), ())))
      rw [if_pos (by omega)] at st
      simp only [List.append_nil, List.nil_append] at st
      rw [show si [] = ([] : List Int) from rfl, e1] at st
      rw [st, w64 (by omega) (by omega)]
      have st2 := text_l2 lf hd ht (by omega) false [] (by simp) t m (by omega) (by omega)
      rw [if_neg (by omega), if_neg hne] at st2
      simp only [List.nil_append] at st2
      rw [st2, bdS, bdS]
      simp only [brF]
      have hl0 : 0 < (D (uv L 0)).length := List.length_pos_iff.2 (dec_ne _)
      rw [if_pos (by simpa using hl0), bdS, bytesS_map]
      congr 2
      rw [if_neg (by simp)] at hv
      unfold Lib.itoa
      rw [if_neg (by omega), show z.toNat = uv L 0 by omega]
theorem uv_dlen_eq {L : List Int} (h : Dg G L) (ht : Tr L) (hn : 0 < L.length) : ∀ j, j < L.length → (D (uv L (L.length - 1 - j))).length = 9 * j + (D (L[L.length - 1]).toNat).length
  | 0, _ => by
    rw [Nat.sub_zero, uv_succ h (L.length - 1) (by omega), show L.length - 1 + 1 = L.length by omega, uv_len]
    simp
  | j + 1, hj => by
    have ih := uv_dlen_eq h ht hn j (by omega)
    have hk : L.length - 1 - (j + 1) < L.length := by omega
    have hy := h.at _ hk
    rw [uv_succ h _ hk, dec_pad_len (uv_pos h ht (by omega)) (by omega) (by simp only [G] at hy; have : (10 : Nat) ^ 9 = 1000000000 := by decide
                                                                            omega)]
    rw [show L.length - 1 - (j + 1) + 1 = L.length - 1 - j by omega, ih]; omega
theorem size_f (lf : Nat) {p : Bool × (List Int × Unit)} {z : Int} {k : Nat} (h : RN p z k) (hk : k ≤ 100000) : bigint_number_size.f lf p = some ((if z = 0 then 0 else ((D z.natAbs).length : Int)), ()) := by
  obtain ⟨ng, L, ⟨⟩⟩ := p
  obtain ⟨hd, ht, hl, hv⟩ := h
  simp only at hd ht hl hv
  rw [bigint_number_size.f]
  simp only
  by_cases h0 : L = []
  · subst h0
    have : z = 0 := by rw [hv]; cases ng <;> simp [lv]
    subst this
    rw [show (((([] : List Int).length : Nat) : Int) == 0) = true from rfl, brT]
    rfl
  · have hne : L.length ≠ 0 := fun e => h0 (List.length_eq_zero_iff.1 e)
    have hb : ((((L.length : Nat) : Int)) == 0) = false := by rw [beq_eq_false_iff_ne]; omega
    have hup := uv_pos hd ht (k := 0) (by omega)
    have hu : (uv L 0 : Int) = lv G L := by
      have := lv_nonneg (B := G) (by decide) hd
      unfold uv; rw [List.drop_zero]; omega
    have hy := hd.at (L.length - 1) (by omega)
    have hlx : (D (L[L.length - 1]).toNat).length ≤ 9 := dec_len_le 8 _ (by simp only [G] at hy; have : (10 : Nat) ^ (8 + 1) = 1000000000 := by decide
                                                                            omega)
    have e := uv_dlen_eq hd ht (by omega) (L.length - 1) (by omega)
    rw [show L.length - 1 - (L.length - 1) = 0 by omega] at e
    have hz : z.natAbs = uv L 0 ∧ z ≠ 0 := by cases ng <;> simp at hv <;> omega
    rw [hb, brF, w64 (n := ((L.length : Nat) : Int) - 1) (by omega) (by omega), idxL_int L _ (L.length - 1) (by omega) (by omega), bdS, bItoa lf hy.1 hy.2, bdS]
    simp only [bs_size]
    rw [w64 (n := (((L.length : Nat) : Int) - 1) * 9) (by omega) (by omega), w64 (by omega) (by omega), if_neg hz.2, hz.1, e]
    congr 2
    omega
/-- What is written: nothing where it is too long. -/
theorem written_f (lf : Nat) {p : Bool × (List Int × Unit)} {z : Int} {k : Nat} (h : RN p z k) (hk : k ≤ 100000) (h3 : 200000 ≤ lf) :
    bigint_written.f lf p = some (if (D z.natAbs).length > 4096 then (bs [], 10, ()) else (bs (Lib.itoa z), 0, ())) := by
  rw [bigint_written.f, size_f lf h hk, bdS, ntext_f lf h hk h3, bdS]
  by_cases hz : z = 0
  · rw [hz, if_pos rfl, decide_eq_false (by omega), brF]
    rw [show (0 : Int).natAbs = 0 from rfl, show (D 0).length = 1 from by rw [show D 0 = [48] from dec_zero]; rfl, if_neg (by omega)]
  · rw [if_neg hz]
    by_cases h' : (D z.natAbs).length > 4096
    · rw [decide_eq_true (by omega), brT, if_pos h']
    · rw [decide_eq_false (by omega), brF, if_neg h']
theorem sub_f (lf : Nat) (l m : List UInt8) (h1 : chk l = 0) (h2 : chk m = 0) (h3 : 200000 ≤ lf) :
    bigint_Sub.f lf (bs l) (bs m) = some (if (D (iv l - iv m).natAbs).length > 4096 then (bs [], 10, ()) else (bs (Lib.itoa (iv l - iv m)), 0, ())) := by
  obtain ⟨p, q, e, k1, k2, _⟩ := pair_f lf l m h1 h2 h3
  rw [bigint_Sub.f, e, bdS]
  simp only [bne_self_eq_false, brF]
  obtain ⟨q', e2, k3⟩ := negated_f lf k2
  rw [e2, bdS]
  obtain ⟨s, e3, k4⟩ := sum_f lf k1 k3 (by omega) h3
  rw [e3, bdS, written_f lf k4 (by omega) h3, bdS, ← Int.sub_eq_add_neg]
theorem add_f (lf : Nat) (l m : List UInt8) (h1 : chk l = 0) (h2 : chk m = 0) (h3 : 200000 ≤ lf) :
    bigint_Add.f lf (bs l) (bs m) = some (if (D (iv l + iv m).natAbs).length > 4096 then (bs [], 10, ()) else (bs (Lib.itoa (iv l + iv m)), 0, ())) := by
  obtain ⟨p, q, e, k1, k2, _⟩ := pair_f lf l m h1 h2 h3
  rw [bigint_Add.f, e, bdS]
  simp only [bne_self_eq_false, brF]
  obtain ⟨s, e3, k4⟩ := sum_f lf k1 k2 (by omega) h3
  rw [e3, bdS, written_f lf k4 (by omega) h3, bdS]
end Go.N
/-! # Intervals: negation; both answer the same: order, joins, meets, negation -/
namespace Go.N
open Go Go.Q Go.Rx
set_option linter.unusedVariables false
set_option linter.unusedSimpArgs false

theorem dlen_sz (z : Int) : (D z.natAbs).length = sz z := by unfold sz nlen; rw [body_itoa]
theorem chk48 : chk [48] = 0 := by decide
theorem iv48 : iv [48] = 0 := by decide
theorem bneg_f (lf : Nat) (h3 : 200000 ≤ lf) {z : Int} (hz : -K < z ∧ z < K) : bigint_Neg.f lf (bs (Lib.itoa z)) = some (bs (Lib.itoa (-z)), 0, ()) := by
  rw [bigint_Neg.f, show (⟨#[48]⟩ : ByteArray) = bs [48] from rfl, sub_f lf [48] (Lib.itoa z) chk48 ((chk_itoa z).2 hz) h3, iv48, iv_itoa, Int.zero_sub, dlen_sz]
  have : sz (-z) ≤ 4096 := (sz_K (-z)).2 (by omega)
  rw [if_neg (by omega), bdS]
theorem ineg_f (lf : Nat) (h3 : 200000 ≤ lf) {z : Int} (hz : -K < z ∧ z < K) : interval_negated.f lf (bs (Lib.itoa z)) = some (bs (Lib.itoa (-z)), ()) := by
  rw [interval_negated.f, bneg_f lf h3 hz, bdS]
theorem negated_ref (lf : Nat) {z : Int} (hz : -K < z ∧ z < K) : surveyorref01_Negated.f lf (bs (Lib.itoa z)) = some (bs (Lib.itoa (-z)), ()) := by
  have hl := okb_len hz
  rw [surveyorref01_Negated.f, show (⟨#[48]⟩ : ByteArray) = bs [48] from rfl, beq_bs]
  have i0 : Lib.itoa 0 = [48] := by unfold Lib.itoa; rw [if_neg (by omega)]; exact dec_zero
  by_cases h0 : z = 0
  · subst h0
    rw [decide_eq_true i0, brT]; rfl
  · have hne : Lib.itoa z ≠ [48] := fun e => h0 (itoa_inj (e.trans i0.symm))
    rw [decide_eq_false hne, brF, negative_f lf _ (itoa_ne z), bdS]
    simp only
    by_cases hn : z < 0
    · have e : Lib.itoa z = 45 :: D z.natAbs := by unfold Lib.itoa; rw [if_pos hn]
      have e' : Lib.itoa (-z) = D z.natAbs := by unfold Lib.itoa; rw [if_neg (by omega)]; congr 1; omega
      have hng : neg (Lib.itoa z) = true := by rw [e]; rfl
      rw [hng, brT, e, e', sCut_from (45 :: D z.natAbs) 1 1 rfl (by simp), bdS]
      rfl
    · have e : Lib.itoa z = D z.toNat := by unfold Lib.itoa; rw [if_neg hn]
      have e' : Lib.itoa (-z) = 45 :: D z.toNat := by unfold Lib.itoa; rw [if_pos (by omega)]; congr 2; omega
      have hng : neg (Lib.itoa z) = false := by rw [e]; unfold neg; exact decide_eq_false (dec_no45 _)
      rw [hng, brF, e', show (⟨#[45]⟩ : ByteArray) = bs [45] from rfl, sCat_bs [45] _ (by simp; omega), bdS, e]
      rfl
def xneg : X → X
  | .ni => .pi
  | .fin z => .fin (-z)
  | .pi => .ni
theorem key_neg (x : X) : key (xneg x) = -key x := by cases x <;> simp [xneg, key]
theorem xneg_ok {k : Int} {x : X} (h : okx k x) : okx k (xneg x) := by cases x <;> simp only [xneg, okx] at * <;> (try trivial) <;> omega
theorem opposite_f (lf : Nat) (h3 : 200000 ≤ lf) {x : X} (hx : okx K x) : interval_opposite.f lf (xc x) = some (xc (xneg x), ()) := by
  rw [interval_opposite.f]
  cases x with
  | ni => exact (brT _ _).trans (by rw [interval_infinite.f, bdS]; rfl)
  | pi => exact (brT _ _).trans (by rw [interval_infinite.f, bdS]; rfl)
  | fin z =>
    simp only [xc, bne_self_eq_false, brF]
    rw [ineg_f lf h3 hx, bdS, interval_finite.f, bdS]
    rfl
def turn (s : Sp) : Sp := if emp s = true then non else ⟨xneg s.hi, xneg s.lo⟩
theorem turn_ok {k : Int} {s : Sp} (h : oks k s) : oks k (turn s) := by
  unfold turn; split
  · exact non_ok
  · exact ⟨xneg_ok h.2, xneg_ok h.1⟩
theorem turned_f (lf : Nat) (h3 : 200000 ≤ lf) {s : Sp} (hs : oks K s) : interval_span_turned.f lf (sc s) = some (sc (turn s), ()) := by
  rw [interval_span_turned.f, empty_f lf h3 hs, bdS]
  unfold turn
  cases emp s with
  | true => rw [brT, none_f, bdS, if_pos rfl]
  | false =>
    rw [brF, if_neg (by simp)]
    simp only [sc]
    rw [opposite_f lf h3 hs.2, bdS, opposite_f lf h3 hs.1, bdS]
theorem neg_f (lf : Nat) (h3 : 200000 ≤ lf) {a : A} (ha : Wf a) : interval_Neg.f lf (ac a) = some (ac (toA (turn (ofA a))), 0, ()) := by
  rw [interval_Neg.f]
  simp only [check_wf lf h3 ha, bdS, bne_self_eq_false, brF, of_f, turned_f lf h3 ha.okK, interval_f lf h3 (turn_ok ha.okK)]
theorem rnegated (lf : Nat) {o : Option Int} (ho : okb K o) : surveyorref21_negated.f lf (ob o) = some (ob (o.map fun z => -z), ()) := by
  rw [surveyorref21_negated.f, ob_beq]
  cases o with
  | none => simp [brT]; rfl
  | some z => rw [show decide (some z = none) = false from by simp, brF, show ob (some z) = bs (Lib.itoa z) from rfl, negated_ref lf ho, bdS]; rfl
theorem lox_neg (o : Option Int) : lox (o.map fun z => -z) = xneg (hix o) := by cases o <;> rfl
theorem hix_neg (o : Option Int) : hix (o.map fun z => -z) = xneg (lox o) := by cases o <;> rfl
theorem okb_neg {k : Int} {o : Option Int} (h : okb k o) : okb k (o.map fun z => -z) := by cases o <;> simp only [okb, Option.map] at * <;> omega
theorem turned_ref (lf : Nat) (h3 : 200000 ≤ lf) {a : A} (ha : Wf a) : surveyorref21_Turned.f lf (ac a) = some (ac (toA (turn (ofA a))), ()) := by
  rw [surveyorref21_Turned.f]
  unfold turn
  rw [emp_ofA ha]
  cases ea : a.em with
  | true =>
    have en : toA non = ⟨true, none, none⟩ := by unfold toA; rw [emp_non]; rfl
    obtain ⟨x1, x2⟩ := ha.em ea
    simp only [ac, ea, brT, if_true, en, x1, x2]
  | false =>
    simp only [ac, ea, brF, Bool.false_eq_true, if_false]
    rw [rnegated lf ha.hiK, bdS, rnegated lf ha.loK, bdS, range_f lf h3 _ _ (okb_neg ha.hiK) (okb_neg ha.loK), bdS, lox_neg, hix_neg]
    simp only [ofA, ea, Bool.false_eq_true, if_false, ac]
theorem inside_ref (lf : Nat) (h3 : 200000 ≤ lf) {a b : A} (ha : Wf a) (hb : Wf b) : surveyorref21_Inside.f lf (ac a) (ac b) = some (leqA (ofA a) (ofA b), ()) := by
  have hK := K_gt
  rw [surveyorref21_Inside.f]
  cases ea : a.em with
  | true =>
    have : leqA (ofA a) (ofA b) = true := by unfold leqA; rw [emp_ofA ha, ea]; rfl
    rw [this]
    simp only [ac, ea, brT]
  | false =>
    have ka := ha.ks.e2 ea
    have sa : ofA a = ⟨lox a.lo, hix a.hi⟩ := by unfold ofA; rw [ea]; rfl
    cases eb : b.em with
    | true =>
      have sb : ofA b = non := by unfold ofA; rw [eb]; rfl
      have : leqA (ofA a) (ofA b) = false := by
        rw [leqA_iff, sb]; apply decide_eq_false
        rw [show key non.lo = K from rfl]; omega
      rw [this]
      simp only [ac, ea, eb, brT, brF]
    | false =>
      have sb : ofA b = ⟨lox b.lo, hix b.hi⟩ := by unfold ofA; rw [eb]; rfl
      have hl : leqA (ofA a) (ofA b) = (decide (key (lox b.lo) ≤ key (lox a.lo)) && decide (key (hix a.hi) ≤ key (hix b.hi))) := by
        unfold leqA; rw [emp_ofA ha, ea, sa, sb]; rfl
      rw [hl]
      have lo_d : ∀ x y : Option Int, okb K x → okb K y → decide (key (lox y) ≤ key (lox x)) = match y, x with
          | none, _ => true
          | some v, some u => !decide (u < v)
          | some _, none => false := by
        intro x y hx hy
        cases y with
        | none => exact decide_eq_true (key_le (okb_lox hx)).1
        | some v => cases x with
          | none => exact decide_eq_false (by simp only [lox, key, okb] at *; omega)
          | some u => exact lo_some v u
      have hi_d : ∀ x y : Option Int, okb K x → okb K y → decide (key (hix x) ≤ key (hix y)) = match y, x with
          | none, _ => true
          | some v, some u => !decide (v < u)
          | some _, none => false := by
        intro x y hx hy
        cases y with
        | none => exact decide_eq_true (key_le (okb_hix hx)).2
        | some v => cases x with
          | none => exact decide_eq_false (by simp only [hix, key, okb] at *; omega)
          | some u => exact hi_some v u
      rw [lo_d _ _ ha.loK hb.loK, hi_d _ _ ha.hiK hb.hiK]
      have l1 := ha.loK
      have l2 := hb.loK
      have l3 := ha.hiK
      have l4 := hb.hiK
      simp only [ac, ea, eb, brF, ob_beq]
      cases h1 : b.lo with
      | none => cases h2 : b.hi with
        | none => simp [brT]
        | some v => cases h4 : a.hi with
          | none => simp [brT, brF]
          | some u =>
            rw [h2] at l4; rw [h4] at l3
            have hl : surveyorref01_Less.f lf (ob (some v)) (ob (some u)) = some (decide (v < u), ()) := lessI lf h3 l4 l3
            simp [brT, brF, hl, bdS]
      | some w => cases h3' : a.lo with
        | none => cases h2 : b.hi with
          | none => simp [brT, brF]
          | some v => cases h4 : a.hi with
            | none => simp [brT, brF]
            | some u =>
              rw [h2] at l4; rw [h4] at l3
              have hl : surveyorref01_Less.f lf (ob (some v)) (ob (some u)) = some (decide (v < u), ()) := lessI lf h3 l4 l3
              simp [brT, brF, hl, bdS]
        | some t =>
          rw [h1] at l2; rw [h3'] at l1
          have hl0 : surveyorref01_Less.f lf (ob (some t)) (ob (some w)) = some (decide (t < w), ()) := lessI lf h3 l1 l2
          cases h2 : b.hi with
          | none =>
            by_cases hx : t < w <;> simp [brT, brF, hl0, bdS, hx]
          | some v => cases h4 : a.hi with
            | none => by_cases hx : t < w <;> simp [brT, brF, hl0, bdS, hx]
            | some u =>
              rw [h2] at l4; rw [h4] at l3
              have hl : surveyorref01_Less.f lf (ob (some v)) (ob (some u)) = some (decide (v < u), ()) := lessI lf h3 l4 l3
              by_cases hx : t < w <;> simp [brT, brF, hl0, hl, bdS, hx]
section
variable (lf : Nat) (h3 : 200000 ≤ lf) {e1 e2 : Bool} {l1 m1 l2 m2 : List UInt8} (a1 : l1.length ≤ 100000) (b1 : m1.length ≤ 100000) (a2 : l2.length ≤ 100000) (b2 : m2.length ≤ 100000)
include h3 a1 b1 a2 b2
theorem leq_same : ∃ r, interval_Leq.f lf (e1, bs l1, bs m1, ()) (e2, bs l2, bs m2, ()) = some r ∧ surveyorref21_Leq.f lf (e1, bs l1, bs m1, ()) (e2, bs l2, bs m2, ()) = some r := by
  have hb := both_ref lf h3 a1 b1 a2 b2 (e1 := e1) (e2 := e2)
  have k1 := check_iv lf h3 e1 l1 m1 (by omega) (by omega)
  have k2 := check_iv lf h3 e2 l2 m2 (by omega) (by omega)
  by_cases c1 : ck e1 l1 m1 = 0
  · rw [if_pos c1] at hb
    by_cases c2 : ck e2 l2 m2 = 0
    · obtain ⟨a, ea, wa⟩ := ck_wf c1
      obtain ⟨b, eb, wb⟩ := ck_wf c2
      rw [c2] at hb
      rw [surveyorref21_Leq.f]
      rw [ea, eb] at hb ⊢
      refine ⟨_, leq_f lf h3 wa wb, ?_⟩
      simp only [hb, bdS, bne_self_eq_false, brF, inside_ref lf h3 wa wb]
    · refine ⟨(false, ck e2 l2 m2, ()), ?_, ?_⟩
      · rw [interval_Leq.f]; simp only [k1, k2, c1, bdS, bne_self_eq_false, brF, bneT c2, brT]
      · rw [surveyorref21_Leq.f]; simp only [hb, bdS, bneT c2, brT]
  · rw [if_neg c1] at hb
    refine ⟨(false, ck e1 l1 m1, ()), ?_, ?_⟩
    · rw [interval_Leq.f]; simp only [k1, bdS, bneT c1, brT]
    · rw [surveyorref21_Leq.f]; simp only [hb, bdS, bneT c1, brT]
theorem join_same : ∃ r, interval_Join.f lf (e1, bs l1, bs m1, ()) (e2, bs l2, bs m2, ()) = some r ∧ surveyorref21_Join.f lf (e1, bs l1, bs m1, ()) (e2, bs l2, bs m2, ()) = some r := by
  have hb := both_ref lf h3 a1 b1 a2 b2 (e1 := e1) (e2 := e2)
  have k1 := check_iv lf h3 e1 l1 m1 (by omega) (by omega)
  have k2 := check_iv lf h3 e2 l2 m2 (by omega) (by omega)
  by_cases c1 : ck e1 l1 m1 = 0
  · rw [if_pos c1] at hb
    by_cases c2 : ck e2 l2 m2 = 0
    · obtain ⟨a, ea, wa⟩ := ck_wf c1
      obtain ⟨b, eb, wb⟩ := ck_wf c2
      rw [c2] at hb
      rw [surveyorref21_Join.f]
      rw [ea, eb] at hb ⊢
      refine ⟨_, join_f lf h3 wa wb, ?_⟩
      simp only [hb, bdS, bne_self_eq_false, brF, joined_ref lf h3 wa wb]
    · refine ⟨((false, bs [], bs [], ()), ck e2 l2 m2, ()), ?_, ?_⟩
      · rw [interval_Join.f]; simp only [k1, k2, c1, bdS, bne_self_eq_false, brF, bneT c2, brT]
      · rw [surveyorref21_Join.f]; simp only [hb, bdS, bneT c2, brT]
  · rw [if_neg c1] at hb
    refine ⟨((false, bs [], bs [], ()), ck e1 l1 m1, ()), ?_, ?_⟩
    · rw [interval_Join.f]; simp only [k1, bdS, bneT c1, brT]
    · rw [surveyorref21_Join.f]; simp only [hb, bdS, bneT c1, brT]
theorem meet_same : ∃ r, interval_Meet.f lf (e1, bs l1, bs m1, ()) (e2, bs l2, bs m2, ()) = some r ∧ surveyorref21_Meet.f lf (e1, bs l1, bs m1, ()) (e2, bs l2, bs m2, ()) = some r := by
  have hb := both_ref lf h3 a1 b1 a2 b2 (e1 := e1) (e2 := e2)
  have k1 := check_iv lf h3 e1 l1 m1 (by omega) (by omega)
  have k2 := check_iv lf h3 e2 l2 m2 (by omega) (by omega)
  by_cases c1 : ck e1 l1 m1 = 0
  · rw [if_pos c1] at hb
    by_cases c2 : ck e2 l2 m2 = 0
    · obtain ⟨a, ea, wa⟩ := ck_wf c1
      obtain ⟨b, eb, wb⟩ := ck_wf c2
      rw [c2] at hb
      rw [surveyorref21_Meet.f]
      rw [ea, eb] at hb ⊢
      refine ⟨_, meet_f lf h3 wa wb, ?_⟩
      simp only [hb, bdS, bne_self_eq_false, brF, met_ref lf h3 wa wb]
    · refine ⟨((false, bs [], bs [], ()), ck e2 l2 m2, ()), ?_, ?_⟩
      · rw [interval_Meet.f]; simp only [k1, k2, c1, bdS, bne_self_eq_false, brF, bneT c2, brT]
      · rw [surveyorref21_Meet.f]; simp only [hb, bdS, bneT c2, brT]
  · rw [if_neg c1] at hb
    refine ⟨((false, bs [], bs [], ()), ck e1 l1 m1, ()), ?_, ?_⟩
    · rw [interval_Meet.f]; simp only [k1, bdS, bneT c1, brT]
    · rw [surveyorref21_Meet.f]; simp only [hb, bdS, bneT c1, brT]
end
theorem neg_same (lf : Nat) (h3 : 200000 ≤ lf) {e1 : Bool} {l1 m1 : List UInt8} (a1 : l1.length ≤ 100000) (b1 : m1.length ≤ 100000) :
    ∃ r, interval_Neg.f lf (e1, bs l1, bs m1, ()) = some r ∧ surveyorref21_Neg.f lf (e1, bs l1, bs m1, ()) = some r := by
  have k1 := check_iv lf h3 e1 l1 m1 (by omega) (by omega)
  have k2 := check_ref lf h3 e1 l1 m1 (by omega) (by omega) (by omega) (by omega)
  by_cases c1 : ck e1 l1 m1 = 0
  · obtain ⟨a, ea, wa⟩ := ck_wf c1
    rw [c1] at k2
    rw [surveyorref21_Neg.f]
    rw [ea] at k2 ⊢
    refine ⟨_, neg_f lf h3 wa, ?_⟩
    simp only [k2, bdS, bne_self_eq_false, brF, turned_ref lf h3 wa]
  · refine ⟨((false, bs [], bs [], ()), ck e1 l1 m1, ()), ?_, ?_⟩
    · rw [interval_Neg.f]; simp only [k1, bdS, bneT c1, brT]
    · rw [surveyorref21_Neg.f]; simp only [k2, bdS, bneT c1, brT]
end Go.N
/-! # Intervals: refining by a comparison -/
namespace Go.N
open Go Go.Q Go.Rx
set_option linter.unusedVariables false
set_option linter.unusedSimpArgs false
set_option exponentiation.threshold 5000

def xsh (x : X) (d : Int) : X := match x with
  | .fin z => .fin (z + d)
  | y => y
theorem K_C : C + 10 < K := by
  have h : (10 : Nat) ^ 100 + 10 < 10 ^ 4096 := by
    have : (10 : Nat) ^ 101 ≤ 10 ^ 4096 := Nat.pow_le_pow_right (by omega) (by omega)
    have e : (10 : Nat) ^ 101 = 10 ^ 100 * 10 := Nat.pow_succ ..
    have : 1000 ≤ (10 : Nat) ^ 100 := by decide +kernel
    omega
  unfold C K
  omega
theorem xsh_ok {x : X} (hx : okx C x) {d : Int} (h1 : -10 ≤ d) (h2 : d ≤ 10) : okx K (xsh x d) := by
  have := K_C
  cases x <;> simp only [xsh, okx] at * <;> omega
theorem add_small (lf : Nat) (h3 : 200000 ≤ lf) {x y : Int} (hx : -K < x ∧ x < K) (hy : -K < y ∧ y < K) (hs : -K < x + y ∧ x + y < K) : bigint_Add.f lf (bs (Lib.itoa x)) (bs (Lib.itoa y)) = some (bs (Lib.itoa (x + y)), 0, ()) := by
  have h := (sz_K (x + y)).2 hs
  rw [add_f lf _ _ ((chk_itoa x).2 hx) ((chk_itoa y).2 hy) h3, iv_itoa, iv_itoa, dlen_sz, if_neg (by omega)]
theorem shifted_f (lf : Nat) (h3 : 200000 ≤ lf) {x : X} (hx : okx C x) {d : Int} (h1 : -10 ≤ d) (h2 : d ≤ 10) : interval_shifted.f lf (xc x) (bs (Lib.itoa d)) = some (xc (xsh x d), ()) := by
  have hK := K_C
  have hC := C_gt
  rw [interval_shifted.f]
  cases x with
  | ni => exact (brT _ _).trans rfl
  | pi => exact (brT _ _).trans rfl
  | fin z =>
    simp only [okx] at hx
    simp only [xc, bne_self_eq_false, brF]
    rw [interval_sum.f, add_small lf h3 (by omega) (by omega) (by omega), bdS, bdS, interval_finite.f, bdS]
    rfl
theorem i1 : (⟨#[49]⟩ : ByteArray) = bs (Lib.itoa 1) := by
  have : Lib.itoa 1 = [49] := by unfold Lib.itoa; rw [if_neg (by omega)]; exact dec_small (by omega)
  rw [this]
theorem i0 : (⟨#[48]⟩ : ByteArray) = bs (Lib.itoa 0) := by
  have : Lib.itoa 0 = [48] := by unfold Lib.itoa; rw [if_neg (by omega)]; exact dec_zero
  rw [this]
theorem im1 : (⟨#[45, 49]⟩ : ByteArray) = bs (Lib.itoa (-1)) := by
  have : Lib.itoa (-1) = [45, 49] := by
    unfold Lib.itoa; rw [if_pos (by omega)]
    have : (-1 : Int).natAbs = 1 := rfl
    rw [this]; congr 1; exact dec_small (by omega)
  rw [this]
def single (s : Sp) : Bool := match s.lo, s.hi with
  | .fin x, .fin y => decide (x = y)
  | _, _ => false
theorem single_f (lf : Nat) (s : Sp) : interval_span_single.f lf (sc s) = some (single s, ()) := by
  obtain ⟨lo, hi⟩ := s
  rw [interval_span_single.f]
  cases lo <;> cases hi <;> simp only [sc, xc, single]
  · exact (brF _ _)
  · exact (brF _ _)
  · exact (brF _ _)
  · exact (brT _ _).trans (brF _ _)
  · rw [show ((0 : Int) == 0) = true from rfl, brT, brT, beq_bs]
    congr 2
    simp only [decide_eq_decide]
    exact ⟨itoa_inj, fun h => by rw [h]⟩
  · exact (brT _ _).trans (brF _ _)
  · exact (brF _ _)
  · exact (brF _ _)
  · exact (brF _ _)
def without (s : Sp) (v : Int) : Sp := ⟨if s.lo = .fin v then xsh s.lo 1 else s.lo, if s.hi = .fin v then xsh s.hi (-1) else s.hi⟩
theorem without_f (lf : Nat) (h3 : 200000 ≤ lf) {s : Sp} (hs : oks C s) (v : Int) : interval_span_without.f lf (sc s) (bs (Lib.itoa v)) = some (sc (without s v), ()) := by
  obtain ⟨lo, hi⟩ := s
  obtain ⟨h1, h2⟩ := hs
  rw [interval_span_without.f]
  have t1 : ∀ z : Int, ((bs (Lib.itoa z)).toList == (bs (Lib.itoa v)).toList) = decide (z = v) := fun z => by
    rw [beq_bs]; simp only [decide_eq_decide]; exact ⟨itoa_inj, fun h => by rw [h]⟩
  have t2 : ∀ z : Int, (Lib.itoa z == Lib.itoa v) = decide (z = v) := fun z => by rw [← t1 z, beq_bs]; by_cases h : Lib.itoa z = Lib.itoa v <;> simp [h]
  have s1 := shifted_f lf h3 (x := lo) h1 (d := 1) (by omega) (by omega)
  have s2 := shifted_f lf h3 (x := hi) h2 (d := -1) (by omega) (by omega)
  simp only [sc, i1, im1, s1, s2, bdS]
  unfold without
  have z1 : ((1 : Int) == 0) = false := rfl
  have z2 : ((-1 : Int) == 0) = false := rfl
  have z3 : ((0 : Int) == 0) = true := rfl
  cases lo with
  | ni => cases hi with
    | ni => simp [xc, z2, brF]
    | pi => simp [xc, z1, z2, brF]
    | fin y => by_cases hy : y = v <;> simp [xc, z2, z3, t1, t2, brT, brF, hy]
  | pi => cases hi with
    | ni => simp [xc, z1, z2, brF]
    | pi => simp [xc, z1, brF]
    | fin y => by_cases hy : y = v <;> simp [xc, z1, z3, t1, t2, brT, brF, hy]
  | fin x => cases hi with
    | ni => by_cases hx : x = v <;> simp [xc, z2, z3, t1, t2, brT, brF, hx]
    | pi => by_cases hx : x = v <;> simp [xc, z1, z3, t1, t2, brT, brF, hx]
    | fin y => by_cases hx : x = v <;> by_cases hy : y = v <;> simp [xc, z3, t1, t2, brT, brF, hx, hy]
end Go.N
/-! # Intervals: Refine -/
namespace Go.N
open Go Go.Q Go.Rx
set_option linter.unusedVariables false
set_option linter.unusedSimpArgs false

def valX : X → Int
  | .fin z => z
  | _ => 0
/-- What a comparison leaves of two spans. -/
def cmpS (op : Int) (s t : Sp) : Sp × Sp :=
  if op = 2 then (common s t, common s t) else if op = 4 then (⟨s.lo, xmin s.hi (xsh t.hi (-1))⟩, ⟨xmax t.lo (xsh s.lo 1), t.hi⟩)
  else if op = 5 then (⟨s.lo, xmin s.hi (xsh t.hi 0)⟩, ⟨xmax t.lo (xsh s.lo 0), t.hi⟩)
  else (if single t = true then without s (valX t.lo) else s, if single s = true then without t (valX s.lo) else t)
def E0 : A := ⟨true, none, none⟩
def refA (op : Int) (a b : A) : A × A :=
  if (emp (ofA a) || emp (ofA b)) = true then (E0, E0) else if (emp (cmpS op (ofA a) (ofA b)).1 || emp (cmpS op (ofA a) (ofA b)).2) = true then (E0, E0)
  else (toA (cmpS op (ofA a) (ofA b)).1, toA (cmpS op (ofA a) (ofA b)).2)
theorem toA_non : toA non = E0 := by unfold toA; rw [if_pos emp_non]; rfl
theorem xsh_okK {x : X} (hx : okx C x) {d : Int} (h1 : -10 ≤ d) (h2 : d ≤ 10) : okx K (xsh x d) := xsh_ok hx h1 h2
theorem single_lo {s : Sp} (h : single s = true) : s.lo = .fin (valX s.lo) := by
  obtain ⟨lo, hi⟩ := s
  cases lo <;> cases hi <;> simp [single, valX] at *
theorem without_ok {s : Sp} (hs : oks C s) (v : Int) : oks K (without s v) := by
  have hK := C_lt_K
  unfold without
  constructor
  · simp only; split
    · exact xsh_ok hs.1 (by omega) (by omega)
    · exact hs.1.mono (by omega)
  · simp only; split
    · exact xsh_ok hs.2 (by omega) (by omega)
    · exact hs.2.mono (by omega)
theorem cmpS_ok {s t : Sp} (hs : oks C s) (ht : oks C t) (op : Int) : oks K (cmpS op s t).1 ∧ oks K (cmpS op s t).2 := by
  have hK := C_lt_K
  have hs' := hs.mono (Int.le_of_lt hK)
  have ht' := ht.mono (Int.le_of_lt hK)
  unfold cmpS
  split
  · exact ⟨common_ok hs' ht', common_ok hs' ht'⟩
  · split
    · exact ⟨⟨hs'.1, xmin_ok hs'.2 (xsh_ok ht.2 (by omega) (by omega))⟩, ⟨xmax_ok ht'.1 (xsh_ok hs.1 (by omega) (by omega)), ht'.2⟩⟩
    · split
      · exact ⟨⟨hs'.1, xmin_ok hs'.2 (xsh_ok ht.2 (by omega) (by omega))⟩, ⟨xmax_ok ht'.1 (xsh_ok hs.1 (by omega) (by omega)), ht'.2⟩⟩
      · constructor
        · simp only; split
          · exact without_ok hs _
          · exact hs'
        · simp only; split
          · exact without_ok ht _
          · exact ht'
theorem scm (x y : X) : ((xc x, xc y, ()) : EB × (EB × Unit)) = sc ⟨x, y⟩ := rfl
theorem cmp3_f (lf : Nat) (h3 : 200000 ≤ lf) {s t : Sp} (hs : oks C s) (ht : oks C t) : interval_comparisons_3.f lf (sc s) (sc t) = some (sc (cmpS 3 s t).1, sc (cmpS 3 s t).2, ()) := by
  rw [interval_comparisons_3.f, single_f, bdS, single_f]
  have e1 : single t = true → (sc t).1.2.1 = bs (Lib.itoa (valX t.lo)) := fun h => by
    have := single_lo h
    simp only [sc]; rw [this]; rfl
  have e2 : single s = true → (sc s).1.2.1 = bs (Lib.itoa (valX s.lo)) := fun h => by
    have := single_lo h
    simp only [sc]; rw [this]; rfl
  have d : cmpS 3 s t = (if single t = true then without s (valX t.lo) else s, if single s = true then without t (valX s.lo) else t) := rfl
  rw [d]
  cases h1 : single t <;> cases h2 : single s
  · simp [brF, bdS]
  · simp [brF, brT, bdS, e2 h2, without_f lf h3 ht]
  · simp [brF, brT, bdS, e1 h1, without_f lf h3 hs]
  · simp [brF, brT, bdS, e1 h1, e2 h2, without_f lf h3 hs, without_f lf h3 ht]
theorem refine_f (lf : Nat) (h3 : 200000 ≤ lf) {a b : A} (ha : Wf a) (hb : Wf b) (op : Int) (ho : op = 2 ∨ op = 3 ∨ op = 4 ∨ op = 5) :
    interval_Refine.f lf op (ac a) (ac b) = some (ac (refA op a b).1, ac (refA op a b).2, 0, ()) := by
  have hK := C_lt_K
  have hC := C_gt
  have hc := cmpS_ok ha.okC hb.okC op
  have n0 := interval_f lf h3 (s := non) non_ok
  rw [toA_non] at n0
  have g1 := ineg_f lf h3 (z := 1) (by omega)
  have g0 := ineg_f lf h3 (z := 0) (by omega)
  have f1 := empty_f lf h3 hc.1
  have f2 := empty_f lf h3 hc.2
  have f3 := interval_f lf h3 hc.1
  have f4 := interval_f lf h3 hc.2
  have q1 := shifted_f lf h3 (x := (ofA b).hi) hb.okC.2 (d := -1) (by omega) (by omega)
  have q2 := shifted_f lf h3 (x := (ofA a).lo) ha.okC.1 (d := 1) (by omega) (by omega)
  have q3 := shifted_f lf h3 (x := (ofA b).hi) hb.okC.2 (d := 0) (by omega) (by omega)
  have q4 := shifted_f lf h3 (x := (ofA a).lo) ha.okC.1 (d := 0) (by omega) (by omega)
  have p1 := least_f lf h3 ha.okK.2 (xsh_ok (d := -1) hb.okC.2 (by omega) (by omega))
  have p2 := most_f lf h3 hb.okK.1 (xsh_ok (d := 1) ha.okC.1 (by omega) (by omega))
  have p3 := least_f lf h3 ha.okK.2 (xsh_ok (d := 0) hb.okC.2 (by omega) (by omega))
  have p4 := most_f lf h3 hb.okK.1 (xsh_ok (d := 0) ha.okC.1 (by omega) (by omega))
  have z0 : -(0 : Int) = 0 := by omega
  rw [interval_Refine.f]
  unfold refA
  rcases ho with rfl | rfl | rfl | rfl
  · have d : cmpS 2 (ofA a) (ofA b) = (common (ofA a) (ofA b), common (ofA a) (ofA b)) := rfl
    rw [d] at f1 f2 f3 f4 ⊢
    rw [show ((2 : Int) == 2) = true from rfl, brT]
    simp only [check_wf lf h3 ha, check_wf lf h3 hb, bdS, bne_self_eq_false, brF, of_f, empty_f lf h3 ha.okK, empty_f lf h3 hb.okK, none_f, n0, interval_comparisons_2.f, common_f lf h3 ha.okK hb.okK, f1, f2, f3, f4]
    cases emp (ofA a) <;> cases emp (ofA b) <;> cases emp (common (ofA a) (ofA b)) <;> simp [brT, brF]
  · have d := cmp3_f lf h3 ha.okC hb.okC
    rw [show ((3 : Int) == 2) = false from rfl, brF, show ((3 : Int) == 4) = false from rfl, brF, show ((3 : Int) == 5) = false from rfl, brF, show ((3 : Int) == 3) = true from rfl, brT]
    simp only [check_wf lf h3 ha, check_wf lf h3 hb, bdS, bne_self_eq_false, brF, of_f, empty_f lf h3 ha.okK, empty_f lf h3 hb.okK, none_f, n0, d, f1, f2, f3, f4]
    cases emp (ofA a) <;> cases emp (ofA b) <;> cases emp (cmpS 3 (ofA a) (ofA b)).1 <;> cases emp (cmpS 3 (ofA a) (ofA b)).2 <;> simp [brT, brF]
  · have d : cmpS 4 (ofA a) (ofA b) = (⟨(ofA a).lo, xmin (ofA a).hi (xsh (ofA b).hi (-1))⟩, ⟨xmax (ofA b).lo (xsh (ofA a).lo 1), (ofA b).hi⟩) := rfl
    rw [d] at f1 f2 f3 f4 ⊢
    simp only [sc] at f1 f2 f3 f4
    rw [show ((4 : Int) == 2) = false from rfl, brF, show ((4 : Int) == 4) = true from rfl, brT]
    simp only [check_wf lf h3 ha, check_wf lf h3 hb, bdS, bne_self_eq_false, brF, of_f, empty_f lf h3 ha.okK, empty_f lf h3 hb.okK, none_f, n0, i1, g1]
    simp only [sc, q1, q2, bdS, p1, p2, f1, f2, f3, f4]
    cases emp (ofA a) <;> cases emp (ofA b) <;> cases emp (⟨(ofA a).lo, xmin (ofA a).hi (xsh (ofA b).hi (-1))⟩ : Sp) <;> cases emp (⟨xmax (ofA b).lo (xsh (ofA a).lo 1), (ofA b).hi⟩ : Sp) <;> simp [brT, brF]
  · have d : cmpS 5 (ofA a) (ofA b) = (⟨(ofA a).lo, xmin (ofA a).hi (xsh (ofA b).hi 0)⟩, ⟨xmax (ofA b).lo (xsh (ofA a).lo 0), (ofA b).hi⟩) := rfl
    rw [d] at f1 f2 f3 f4 ⊢
    simp only [sc] at f1 f2 f3 f4
    rw [show ((5 : Int) == 2) = false from rfl, brF, show ((5 : Int) == 4) = false from rfl, brF, show ((5 : Int) == 5) = true from rfl, brT]
    simp only [check_wf lf h3 ha, check_wf lf h3 hb, bdS, bne_self_eq_false, brF, of_f, empty_f lf h3 ha.okK, empty_f lf h3 hb.okK, none_f, n0, i0, g0, z0]
    simp only [sc, q3, q4, bdS, p3, p4, f1, f2, f3, f4]
    cases emp (ofA a) <;> cases emp (ofA b) <;> cases emp (⟨(ofA a).lo, xmin (ofA a).hi (xsh (ofA b).hi 0)⟩ : Sp) <;> cases emp (⟨xmax (ofA b).lo (xsh (ofA a).lo 0), (ofA b).hi⟩ : Sp) <;> simp [brT, brF]

/-! ### no element is lost -/
theorem inS_toA {s : Sp} (hs : oks K s) {z : Int} (hz : -K < z ∧ z < K) (h : inS s z = true) : inS (ofA (toA s)) z = true := by
  have hK := K_gt
  unfold inS at *
  simp only [Bool.and_eq_true, decide_eq_true_eq] at h ⊢
  obtain ⟨h1, h2⟩ := h
  have he : emp s = false := decide_eq_false (by omega)
  obtain ⟨lo, hi⟩ := s
  unfold toA
  rw [he]
  unfold ofA
  simp only [Bool.false_eq_true, if_false]
  simp only at h1 h2
  constructor
  · cases lo with
    | ni => exact Int.le_of_lt hz.1
    | pi => simp only [key] at h1; omega
    | fin x =>
      simp only [tx, clip]
      split
      · exact h1
      · exact Int.le_of_lt hz.1
  · cases hi with
    | pi => exact Int.le_of_lt hz.2
    | ni => simp only [key] at h2; omega
    | fin x =>
      simp only [tx, clip]
      split
      · exact h2
      · exact Int.le_of_lt hz.2
theorem emp_of_in {s : Sp} {z : Int} (h : inS s z = true) : emp s = false := by
  unfold inS at h
  simp only [Bool.and_eq_true, decide_eq_true_eq] at h
  exact decide_eq_false (by omega)
theorem key_xsh {x : X} (hx : okx C x) (d : Int) : (key (xsh x d) = key x + d ∧ -C < key x ∧ key x < C ∧ x = .fin (key x)) ∨ (key (xsh x d) = key x ∧ x = .ni) ∨ (key (xsh x d) = key x ∧ x = .pi) := by
  cases x with
  | ni => exact .inr (.inl ⟨rfl, rfl⟩)
  | pi => exact .inr (.inr ⟨rfl, rfl⟩)
  | fin z => exact .inl ⟨rfl, hx.1, hx.2, rfl⟩
theorem key_xsh' {x : X} (hx : okx C x) (d : Int) : (key (xsh x d) = key x + d ∧ -C < key x ∧ key x < C) ∨ (key (xsh x d) = -K ∧ key x = -K) ∨ (key (xsh x d) = K ∧ key x = K) := by
  cases x with
  | ni => exact .inr (.inl ⟨rfl, rfl⟩)
  | pi => exact .inr (.inr ⟨rfl, rfl⟩)
  | fin z => exact .inl ⟨rfl, hx.1, hx.2⟩
/-- What a comparison holds of. -/
def holdsC (op : Int) (u v : Int) : Prop := if op = 2 then u = v else if op = 4 then u < v else if op = 5 then u ≤ v else u ≠ v
theorem cmpS_in {a b : A} (ha : Wf a) (hb : Wf b) {op u v : Int} (ho : op = 2 ∨ op = 3 ∨ op = 4 ∨ op = 5) (hu : inS (ofA a) u = true) (hv : inS (ofA b) v = true) (hc : holdsC op u v) :
    inS (cmpS op (ofA a) (ofA b)).1 u = true ∧ inS (cmpS op (ofA a) (ofA b)).2 v = true := by
  have hK := K_gt
  have hKC := K_C
  have s1 := key_xsh ha.okC.1
  have s2 := key_xsh ha.okC.2
  have t1 := key_xsh hb.okC.1
  have t2 := key_xsh hb.okC.2
  have ka : key X.ni = -K := rfl
  have kb : key X.pi = K := rfl
  unfold inS at *
  simp only [Bool.and_eq_true, decide_eq_true_eq] at hu hv ⊢
  rcases ho with rfl | rfl | rfl | rfl
  · have d : cmpS 2 (ofA a) (ofA b) = (common (ofA a) (ofA b), common (ofA a) (ofA b)) := rfl
    have : u = v := hc
    rw [d]
    simp only [common, key_max, key_min]
    omega
  · have d : cmpS 3 (ofA a) (ofA b) = (if single (ofA b) = true then without (ofA a) (valX (ofA b).lo) else ofA a, if single (ofA a) = true then without (ofA b) (valX (ofA a).lo) else ofA b) := rfl
    have hne : u ≠ v := hc
    rw [d]
    have key1 : ∀ {s : Sp}, single s = true → key s.lo = valX s.lo ∧ key s.hi = valX s.lo := by
      intro s hs
      obtain ⟨lo, hi⟩ := s
      cases lo <;> cases hi <;> simp [single, valX, key] at *
      exact hs.symm
    have wk : ∀ {s : Sp} {z w : Int}, oks C s → key s.lo ≤ z → z ≤ key s.hi → z ≠ w → key (without s w).lo ≤ z ∧ z ≤ key (without s w).hi := by
      intro s z w hs h1 h2 h3
      have x1 := key_xsh hs.1 1
      have x2 := key_xsh hs.2 (-1)
      unfold without
      constructor
      · simp only; split
        · rename_i e
          have : key s.lo = w := by rw [e]; rfl
          rcases x1 with x1 | x1 | x1
          · omega
          · rw [e] at x1; cases x1.2
          · rw [e] at x1; cases x1.2
        · exact h1
      · simp only; split
        · rename_i e
          have : key s.hi = w := by rw [e]; rfl
          rcases x2 with x2 | x2 | x2
          · omega
          · rw [e] at x2; cases x2.2
          · rw [e] at x2; cases x2.2
        · exact h2
    constructor
    · simp only; split
      · rename_i h
        have := key1 h
        exact wk ha.okC hu.1 hu.2 (by omega)
      · exact hu
    · simp only; split
      · rename_i h
        have := key1 h
        exact wk hb.okC hv.1 hv.2 (by omega)
      · exact hv
  · have d : cmpS 4 (ofA a) (ofA b) = (⟨(ofA a).lo, xmin (ofA a).hi (xsh (ofA b).hi (-1))⟩, ⟨xmax (ofA b).lo (xsh (ofA a).lo 1), (ofA b).hi⟩) := rfl
    have : u < v := hc
    rw [d]
    simp only [key_max, key_min]
    have a1 := key_xsh' ha.okC.1 1
    have a2 := key_xsh' hb.okC.2 (-1)
    omega
  · have d : cmpS 5 (ofA a) (ofA b) = (⟨(ofA a).lo, xmin (ofA a).hi (xsh (ofA b).hi 0)⟩, ⟨xmax (ofA b).lo (xsh (ofA a).lo 0), (ofA b).hi⟩) := rfl
    have : u ≤ v := hc
    rw [d]
    simp only [key_max, key_min]
    have a1 := key_xsh' ha.okC.1 0
    have a2 := key_xsh' hb.okC.2 0
    omega
theorem cmpS_wf {a b : A} (ha : Wf a) (hb : Wf b) {op : Int} (ho : op = 2 ∨ op = 3 ∨ op = 4 ∨ op = 5) (h1 : emp (ofA a) = false) (h2 : emp (ofA b) = false) : Wf (toA (cmpS op (ofA a) (ofA b)).1) ∧ Wf (toA (cmpS op (ofA a) (ofA b)).2) := by
  have hK := K_gt
  have hKC := K_C
  have ea := ha.ks
  have eb := hb.ks
  rw [← emp_ofA ha] at ea
  rw [← emp_ofA hb] at eb
  have ka := ea.e2 h1
  have kb := eb.e2 h2
  have hc := cmpS_ok ha.okC hb.okC op
  have nlo : ∀ {x : X} {d : Int}, okx C x → x ≠ .pi → xsh x d ≠ .pi := fun {x d} _ h e => by cases x <;> simp [xsh] at e h
  have nhi : ∀ {x : X} {d : Int}, okx C x → x ≠ .ni → xsh x d ≠ .ni := fun {x d} _ h e => by cases x <;> simp [xsh] at e h
  have a1 := lo_ne_pi ka.2.1
  have a2 := hi_ne_ni ka.2.2
  have b1 := lo_ne_pi kb.2.1
  have b2 := hi_ne_ni kb.2.2
  have mx : ∀ {x y : X}, x ≠ .pi → y ≠ .pi → xmax x y ≠ .pi := fun {x y} h k => by unfold xmax; split <;> assumption
  have mn : ∀ {x y : X}, x ≠ .ni → y ≠ .ni → xmin x y ≠ .ni := fun {x y} h k => by unfold xmin; split <;> assumption
  have wo : ∀ {s : Sp} {v : Int}, oks C s → s.lo ≠ .pi → s.hi ≠ .ni → (without s v).lo ≠ .pi ∧ (without s v).hi ≠ .ni := by
    intro s v hs p1 p2
    unfold without
    constructor
    · simp only; split
      · exact nlo hs.1 p1
      · exact p1
    · simp only; split
      · exact nhi hs.2 p2
      · exact p2
  rcases ho with rfl | rfl | rfl | rfl
  · exact ⟨toA_wf hc.1 (.inr ⟨mx a1 b1, mn a2 b2⟩), toA_wf hc.2 (.inr ⟨mx a1 b1, mn a2 b2⟩)⟩
  · refine ⟨toA_wf hc.1 (.inr ?_), toA_wf hc.2 (.inr ?_)⟩
    · have d : (cmpS 3 (ofA a) (ofA b)).1 = (if single (ofA b) = true then without (ofA a) (valX (ofA b).lo) else ofA a) := rfl
      rw [d]; split
      · exact wo ha.okC a1 a2
      · exact ⟨a1, a2⟩
    · have d : (cmpS 3 (ofA a) (ofA b)).2 = (if single (ofA a) = true then without (ofA b) (valX (ofA a).lo) else ofA b) := rfl
      rw [d]; split
      · exact wo hb.okC b1 b2
      · exact ⟨b1, b2⟩
  · exact ⟨toA_wf hc.1 (.inr ⟨a1, mn a2 (nhi hb.okC.2 b2)⟩), toA_wf hc.2 (.inr ⟨mx b1 (nlo ha.okC.1 a1), b2⟩)⟩
  · exact ⟨toA_wf hc.1 (.inr ⟨a1, mn a2 (nhi hb.okC.2 b2)⟩), toA_wf hc.2 (.inr ⟨mx b1 (nlo ha.okC.1 a1), b2⟩)⟩
theorem wf_E0 : Wf E0 := ⟨fun _ => ⟨rfl, rfl⟩, trivial, trivial, trivial⟩
theorem refA_wf {a b : A} (ha : Wf a) (hb : Wf b) {op : Int} (ho : op = 2 ∨ op = 3 ∨ op = 4 ∨ op = 5) : Wf (refA op a b).1 ∧ Wf (refA op a b).2 := by
  unfold refA
  cases h1 : emp (ofA a) <;> cases h2 : emp (ofA b) <;> simp only [Bool.or_true, Bool.true_or, if_true, Bool.or_self, Bool.false_eq_true, if_false]
  · split
    · exact ⟨wf_E0, wf_E0⟩
    · exact cmpS_wf ha hb ho h1 h2
  all_goals exact ⟨wf_E0, wf_E0⟩
theorem refA_em {a b : A} {op : Int} : (refA op a b).1.em = (refA op a b).2.em := by
  unfold refA
  split
  · rfl
  · split
    · rfl
    · rename_i h
      simp only [Bool.or_eq_true, not_or, Bool.not_eq_true] at h
      simp only [toA, h.1, h.2, Bool.false_eq_true, if_false]
theorem refA_in {a b : A} (ha : Wf a) (hb : Wf b) {op u v : Int} (ho : op = 2 ∨ op = 3 ∨ op = 4 ∨ op = 5) (bu : -K < u ∧ u < K) (bv : -K < v ∧ v < K) (hu : inS (ofA a) u = true) (hv : inS (ofA b) v = true) (hc : holdsC op u v) :
    inS (ofA (refA op a b).1) u = true ∧ inS (ofA (refA op a b).2) v = true := by
  obtain ⟨k1, k2⟩ := cmpS_in ha hb ho hu hv hc
  have hok := cmpS_ok ha.okC hb.okC op
  unfold refA
  rw [emp_of_in hu, emp_of_in hv, emp_of_in k1, emp_of_in k2]
  exact ⟨inS_toA hok.1 bu k1, inS_toA hok.2 bv k2⟩
end Go.N
/-! # The law's own check of two intervals -/
namespace Go.N
open Go Go.Q Go.Rx
set_option linter.unusedVariables false
set_option linter.unusedSimpArgs false

theorem right_f (lf : Nat) (h3 : 200000 ≤ lf) (e1 e2 : Bool) (l1 m1 l2 m2 : List UInt8) (a1 : l1.length ≤ 9223372036854775807) (b1 : m1.length ≤ 9223372036854775807) (a2 : l2.length ≤ 9223372036854775807) (b2 : m2.length ≤ 9223372036854775807)
    (c1 : l1.length ≤ lf) (d1 : m1.length ≤ lf) (c2 : l2.length ≤ lf) (d2 : m2.length ≤ lf) :
    surveyorlaw21_right.f lf (e1, bs l1, bs m1, ()) (e2, bs l2, bs m2, ()) = some (decide (ck e1 l1 m1 = 0 ∧ ck e2 l2 m2 = 0), ()) := by
  rw [surveyorlaw21_right.f, check_ref lf h3 e1 l1 m1 a1 b1 c1 d1, bdS, check_ref lf h3 e2 l2 m2 a2 b2 c2 d2]
  simp only [bdS]
  by_cases h : ck e1 l1 m1 = 0
  · have : (ck e1 l1 m1 == 0) = true := by simp [h]
    rw [this, brT]
    by_cases h' : ck e2 l2 m2 = 0 <;> simp [h, h']
  · have : (ck e1 l1 m1 == 0) = false := by simp [h]
    rw [this, brF, decide_eq_false (fun hx => h hx.1)]
end Go.N
namespace Go.N
open Go Go.Q
/-- The chapter's examples hold: run by the kernel. -/
theorem awake_f (lf : Nat) : surveyorlaw21_awake.f lf = some (true, ()) := by kernel_rfl
end Go.N
namespace Go.Q
open Go Go.RowKit Go.ChangeShapes Go.WideShapes
set_option linter.unusedVariables false
set_option linter.unusedSimpArgs false
set_option maxRecDepth 100000

/-! ### a row's arguments as data -/
def flat : Ty → Bool
  | .sl _ => false
  | .pair a b => flat a && flat b
  | _ => true
def partsOf (P : Program) (t : TypeId) : List (TypeId × Nat) := match P.underlying t with
  | some (.struct fs) => fs.toList.map fun f => (f.type, f.offset)
  | some (.array n e) => (List.range n).map fun i => (e, i * P.cellsOf e)
  | _ => []
mutual
def fitT (P : Program) : Ty → TypeId → Bool
  | .int k, t => match P.underlying t with
    | some (.int k') => decide (k' = k)
    | _ => false
  | .bool, t => match P.underlying t with
    | some .bool => true
    | _ => false
  | .str, t => match P.underlying t with
    | some .string => true
    | _ => false
  | .unit, _ => false
  | .nul, _ => false
  | .pair a b, t => match partsOf P t with
    | p :: r => p.2 == 0 && (fitT P a p.1 && (P.cellsOf p.1 == a.n && (fitL P b r a.n && P.cellsOf t == a.n + b.n)))
    | [] => false
  | .sl e, t => match P.underlying t with
    | some (.slice e') => fitT P e e' && (flat e && P.cellsOf e' == e.n)
    | _ => false
def fitL (P : Program) : Ty → List (TypeId × Nat) → Nat → Bool
  | .unit, l, _ => match l with
    | [] => true
    | _ => false
  | .pair a b, l, k => match l with
    | p :: r => p.2 == k && (fitT P a p.1 && (P.cellsOf p.1 == a.n && fitL P b r (k + a.n)))
    | [] => false
  | _, _, _ => false
end
/-- What a row grants of each datum. -/
def Bnd : (T : Ty) → T.α → Prop
  | .int k, x => k.min ≤ x ∧ x ≤ k.max
  | .str, x => x.size ≤ 9223372036854775807
  | .pair a b, x => Bnd a x.1 ∧ Bnd b x.2
  | .sl e, l => l.length ≤ 9223372036854775807 ∧ ∀ y ∈ l, Bnd e y
  | _, _ => True
def Bnds : (ps : List Ty) → Tys ps → Prop
  | [], _ => True
  | t :: ts, x => Bnd t x.1 ∧ Bnds ts x.2

section
variable {H : Type} {enc : TypeId × Value → H} {P : Program} {w : World} {F : Nat → Prop} {sp : Nat → Bool} {held : Bool}
theorem trod_parts {t : TypeId} {fuel : Nat} {cs : List Value} {x : DataW H × List MemPlace} (hp : partsOf P t ≠ []) (h : DataW.trod enc P w 0 sp held fuel t cs = some x) :
    cs.length = P.cellsOf t ∧ ∃ n, ∀ p ∈ partsOf P t, ∃ y, DataW.trod enc P w 0 sp held n p.1 ((cs.drop p.2).take (P.cellsOf p.1)) = some y := by
  unfold partsOf at hp ⊢
  split at hp
  · rename_i fs hu
    obtain ⟨xs, n, _, _, hl, hxl, hf⟩ := DataW.trod_struct hu h
    refine ⟨hl, n, fun p hm => ?_⟩
    simp only [List.mem_map] at hm
    obtain ⟨f, hfm, rfl⟩ := hm
    obtain ⟨i, hi, he⟩ := List.mem_iff_getElem.1 hfm
    have h1 : fs[i]? = some f := by
      have : fs.toList[i]? = some f := by rw [List.getElem?_eq_getElem hi, he]
      simpa using this
    have h2 : i < xs.length := by
      rw [hxl]; simpa using hi
    exact ⟨xs[i], by rw [hf i f h1, List.getElem?_eq_getElem h2]⟩
  · rename_i n e hu
    obtain ⟨xs, m, _, _, hl, hxl, hf⟩ := DataW.trod_array hu h
    refine ⟨hl, m, fun p hm => ?_⟩
    simp only [List.mem_map, List.mem_range] at hm
    obtain ⟨i, hi, rfl⟩ := hm
    exact ⟨xs[i], by rw [hf i hi, List.getElem?_eq_getElem (by omega)]⟩
  · exact absurd rfl hp
mutual
theorem dr_flat : ∀ (T : Ty) (t : TypeId) (cs : List Value) (x : DataW H × List MemPlace) (fuel : Nat), flat T = true → fitT P T t = true → DataW.trod enc P w 0 sp held fuel t cs = some x → ∃ y : T.α, DR F w T y cs ∧ Bnd T y
  | .int k, t, cs, x, fuel, _, hf, h => by
    unfold fitT at hf
    split at hf
    · rename_i k' hu
      obtain rfl : k' = k := by simpa using hf
      obtain ⟨n, rfl, _, hw⟩ := DataW.trod_int hu h
      exact ⟨n, rfl, by simpa [Lit.wf, Bnd] using hw⟩
    · cases hf
  | .bool, t, cs, x, fuel, _, hf, h => by
    unfold fitT at hf
    split at hf
    · rename_i hu
      obtain ⟨b, rfl, _⟩ := DataW.trod_bool hu h
      exact ⟨b, rfl, trivial⟩
    · cases hf
  | .str, t, cs, x, fuel, _, hf, h => by
    unfold fitT at hf
    split at hf
    · rename_i hu
      obtain ⟨s, rfl, _, hs⟩ := DataW.trod_string hu h
      exact ⟨s, rfl, by simpa [maxLen, Bnd] using hs⟩
    · cases hf
  | .unit, t, cs, x, fuel, _, hf, h => by simp [fitT] at hf
  | .nul, t, cs, x, fuel, _, hf, h => by simp [fitT] at hf
  | .sl e, t, cs, x, fuel, hfl, _, _ => by simp [flat] at hfl
  | .pair a b, t, cs, x, fuel, hfl, hf, h => by
    unfold fitT at hf
    split at hf
    · rename_i p r hp
      simp only [Bool.and_eq_true, beq_iff_eq] at hf
      obtain ⟨h0, h1, h2, h3, h4⟩ := hf
      simp only [flat, Bool.and_eq_true] at hfl
      obtain ⟨hl, n, hm⟩ := trod_parts (by rw [hp]; simp) h
      rw [hp] at hm
      obtain ⟨y0, hy0⟩ := hm p (by simp)
      rw [h0, h2] at hy0
      obtain ⟨u, d1, b1⟩ := dr_flat a p.1 _ _ n hfl.1 h1 hy0
      obtain ⟨v, d2, b2⟩ := dr_flatL b r a.n cs n hfl.2 h3 (fun q hq => hm q (by simp [hq])) (by omega)
      refine ⟨(u, v), ⟨_, _, ?_, d1, d2⟩, b1, b2⟩
      have e : (cs.drop a.n).take b.n = cs.drop a.n := List.take_of_length_le (by rw [List.length_drop]; omega)
      rw [e]; simp
    · cases hf
theorem dr_flatL : ∀ (T : Ty) (l : List (TypeId × Nat)) (k : Nat) (cs : List Value) (n : Nat), flat T = true → fitL P T l k = true → (∀ p ∈ l, ∃ y, DataW.trod enc P w 0 sp held n p.1 ((cs.drop p.2).take (P.cellsOf p.1)) = some y) → k + T.n ≤ cs.length → ∃ y : T.α, DR F w T y ((cs.drop k).take T.n) ∧ Bnd T y
  | .int k', l, k, cs, n, _, hf, _, _ => by simp [fitL] at hf
  | .bool, l, k, cs, n, _, hf, _, _ => by simp [fitL] at hf
  | .str, l, k, cs, n, _, hf, _, _ => by simp [fitL] at hf
  | .nul, l, k, cs, n, _, hf, _, _ => by simp [fitL] at hf
  | .sl _, l, k, cs, n, _, hf, _, _ => by simp [fitL] at hf
  | .unit, l, k, cs, n, _, hf, _, _ => ⟨(), by simp [DR, Ty.n], trivial⟩
  | .pair a b, l, k, cs, n, hfl, hf, hm, hk => by
    unfold fitL at hf
    split at hf
    · rename_i p r
      simp only [Bool.and_eq_true, beq_iff_eq] at hf
      obtain ⟨h0, h1, h2, h3⟩ := hf
      simp only [flat, Bool.and_eq_true] at hfl
      simp only [Ty.n] at hk
      obtain ⟨y0, hy0⟩ := hm p (by simp)
      rw [h0, h2] at hy0
      obtain ⟨u, d1, b1⟩ := dr_flat a p.1 _ _ n hfl.1 h1 hy0
      obtain ⟨v, d2, b2⟩ := dr_flatL b r (k + a.n) cs n hfl.2 h3 (fun q hq => hm q (by simp [hq])) (by omega)
      refine ⟨(u, v), ⟨_, _, ?_, d1, d2⟩, b1, b2⟩
      simp only [Ty.n]
      rw [List.take_add, List.drop_drop]
    · cases hf
end
theorem list_of {α : Type} {R : Nat → α → Prop} : ∀ (n : Nat), (∀ i, i < n → ∃ y, R i y) → ∃ l : List α, l.length = n ∧ ∀ (i : Nat) (y : α), l[i]? = some y → R i y
  | 0, _ => ⟨[], rfl, fun i y h => by simp at h⟩
  | n + 1, h => by
    obtain ⟨l, hl, hr⟩ := list_of n fun i hi => h i (by omega)
    obtain ⟨y, hy⟩ := h n (by omega)
    refine ⟨l ++ [y], by simp [hl], fun i z hz => ?_⟩
    by_cases hi : i < l.length
    · rw [List.getElem?_append_left hi] at hz; exact hr i z hz
    · rw [List.getElem?_append_right (by omega)] at hz
      have : i = l.length := by
        by_cases e : i - l.length = 0
        · omega
        · obtain ⟨q, hq⟩ := Nat.exists_eq_succ_of_ne_zero e
          rw [hq] at hz; simp at hz
      subst this
      simp only [Nat.sub_self, List.getElem?_cons_zero, Option.some.injEq] at hz
      subst hz; rw [hl]; exact hy
def topOK : Ty → Bool
  | .sl e => flat e
  | T => flat T
theorem add_block (a : Addr) (n : Nat) : (a.add n).block = a.block := by unfold Addr.add; split <;> rfl
theorem add_none (b o n : Nat) : (Addr.add ⟨b, o, none⟩ n) = ⟨b, o + n, none⟩ := by
  unfold Addr.add; split
  · rename_i h; rw [h]; rfl
  · rfl
theorem isC_shape {i : Nat} {q : TypeId × Nat} (h : w.shape? i = some q) : IsC w i := by
  unfold World.shape? at h
  unfold IsC
  cases hb : w.heap[i]? with
  | none => rw [hb] at h; simp at h
  | some o => cases o <;> rw [hb] at h <;> simp_all
theorem valR_of_trod {T : Ty} {t : TypeId} {v : Value} {d : DataW H} {p : List MemPlace} {base : Nat} (ht : topOK T = true) (hf : fitT P T t = true) (hv : Value.okWide P w .any base t v) (h : DataW.Trod enc P w 0 sp held t v d p) : ∃ y : T.α, ValR (IsC w) w T y v ∧ Bnd T y := by
  obtain ⟨fuel, h⟩ := h
  unfold ValR
  cases T with
  | int k =>
    obtain ⟨y, h1, h2⟩ := dr_flat (F := IsC w) (.int k) t _ _ fuel rfl hf h
    unfold fitT at hf
    split at hf
    · rename_i k' hu
      obtain ⟨n, rfl⟩ := okWide_int hu hv
      exact ⟨y, by rw [if_neg (by simp [isSt])]; simpa [Value.cells] using h1, h2⟩
    · cases hf
  | bool =>
    obtain ⟨y, h1, h2⟩ := dr_flat (F := IsC w) .bool t _ _ fuel rfl hf h
    unfold fitT at hf
    split at hf
    · rename_i hu
      obtain ⟨n, rfl⟩ := okWide_bool hu hv
      exact ⟨y, by rw [if_neg (by simp [isSt])]; simpa [Value.cells] using h1, h2⟩
    · cases hf
  | str =>
    obtain ⟨y, h1, h2⟩ := dr_flat (F := IsC w) .str t _ _ fuel rfl hf h
    unfold fitT at hf
    split at hf
    · rename_i hu
      obtain ⟨n, rfl⟩ := okWide_string hu hv
      exact ⟨y, by rw [if_neg (by simp [isSt])]; simpa [Value.cells] using h1, h2⟩
    · cases hf
  | unit => simp [fitT] at hf
  | nul => simp [fitT] at hf
  | pair a b =>
    obtain ⟨y, h1, h2⟩ := dr_flat (F := IsC w) (.pair a b) t _ _ fuel ht hf h
    obtain ⟨cs, rfl⟩ : ∃ cs, v = .agg cs := by
      unfold fitT at hf
      split at hf
      · rename_i q r hp
        unfold partsOf at hp
        unfold Value.okWide at hv
        split at hp
        · rename_i fs hu
          rw [hu] at hv
          obtain ⟨cs, e, _⟩ := hv
          exact ⟨cs, e⟩
        · rename_i n e hu
          rw [hu] at hv
          obtain ⟨cs, e, _⟩ := hv
          exact ⟨cs, e⟩
        · cases hp
      · cases hf
    exact ⟨y, by rw [if_pos (show isSt (.pair a b) = true from rfl)]; exact ⟨cs.toList, by simp, h1⟩, h2⟩
  | sl e =>
    unfold fitT at hf
    split at hf
    · rename_i e' hu
      simp only [Bool.and_eq_true, beq_iff_eq] at hf
      obtain ⟨h1, h2, h3⟩ := hf
      obtain ⟨a, len, cap, rfl⟩ := okWide_slice hu hv
      rcases DataW.trod_slice hu h with ⟨hc, _⟩ | ⟨a', len', cap', elems, rest, n, _, hc, _, _, hle, hcm, hel, hread, _⟩
      · simp only [Value.cells, List.cons.injEq, Value.slice.injEq, and_true] at hc
        obtain ⟨rfl, rfl, rfl⟩ := hc
        exact ⟨[], by rw [if_neg (by simp [isSt])]; exact ⟨_, rfl, .inl ⟨rfl, rfl⟩⟩, by simp [Bnd]⟩
      · simp only [Value.cells, List.cons.injEq, Value.slice.injEq, and_true] at hc
        obtain ⟨rfl, rfl, rfl⟩ := hc
        have hhas : w.has P .any base a' e' cap := by
          unfold Value.okWide Cell.okWide Cell.ok at hv
          rw [hu] at hv
          exact hv.2.2
        obtain ⟨_, hspot, row, cells, hsh, _⟩ := hhas
        obtain ⟨b, o, s⟩ := a'
        simp only at hspot; subst hspot
        have hisc : IsC w b := isC_shape hsh
        obtain ⟨l, hl, hr⟩ := list_of (α := e.α) (R := fun i y => (∃ ds : List Value, DR (IsC w) w e y ds ∧ ∀ (j : Nat) (d : Value), ds[j]? = some d → w.cell? ⟨b, o + (i * e.n + j), none⟩ = some d) ∧ Bnd e y) len fun i hi => by
          have hq := hread i hi
          rw [List.getElem?_eq_getElem (by omega), Option.bind_eq_some_iff] at hq
          obtain ⟨cs, c1, c2⟩ := hq
          obtain ⟨y, k1, k2⟩ := dr_flat (F := IsC w) e e' cs _ n h2 h1 c2
          refine ⟨y, ⟨cs, k1, fun j d' hd => ?_⟩, k2⟩
          obtain ⟨_, m1, m2⟩ := World.cells?_some c1
          have hj : j < cs.length := (List.getElem?_eq_some_iff.1 hd).1
          have := m2 j (by omega)
          rw [add_none, add_none, h3] at this
          rw [← Nat.add_assoc, this]; exact hd
        refine ⟨l, ?_, ?_, ?_⟩
        · rw [if_neg (by simp [isSt])]
          refine ⟨_, rfl, .inr ⟨b, o, cap, by rw [hl], hisc, by omega, fun i x hx => (hr i x hx).1⟩⟩
        · rw [hl]; simp only [maxLen] at hcm; omega
        · intro y hy
          obtain ⟨i, hi, he⟩ := List.mem_iff_getElem.1 hy
          exact (hr i y (by rw [List.getElem?_eq_getElem hi, he])).2
    · cases hf
def fitAll (P : Program) : List Ty → List TypeId → Bool
  | [], [] => true
  | T :: Ts, t :: ts => (topOK T && fitT P T t) && fitAll P Ts ts
  | _, _ => false
theorem argsR_of_trod : ∀ {Ts : List Ty} {ts : List TypeId} {vs : List Value} {ds : List (DataW H)} {p : List MemPlace} {base : Nat}, fitAll P Ts ts = true → (∀ (j : Nat) t v, ts[j]? = some t → vs[j]? = some v → Value.okWide P w .any base t v) →
    DataW.TrodAll enc P w 0 sp held ts vs ds p → ∃ x : Tys Ts, ArgsR (IsC w) w Ts x vs ∧ Bnds Ts x
  | [], [], vs, ds, p, base, _, _, h => by
    cases vs with
    | nil => exact ⟨(), rfl, trivial⟩
    | cons _ _ => cases ds <;> exact absurd h (by simp [DataW.TrodAll])
  | [], _ :: _, vs, ds, p, base, hf, _, h => by simp [fitAll] at hf
  | _ :: _, [], vs, ds, p, base, hf, _, h => by simp [fitAll] at hf
  | T :: Ts, t :: ts, vs, ds, p, base, hf, hv, h => by
    simp only [fitAll, Bool.and_eq_true] at hf
    cases vs with
    | nil => cases ds <;> exact absurd h (by simp [DataW.TrodAll])
    | cons v vs =>
      cases ds with
      | nil => exact absurd h (by simp [DataW.TrodAll])
      | cons d ds =>
        obtain ⟨p1, p2, h1, h2, _⟩ := h
        obtain ⟨y, k1, k2⟩ := valR_of_trod hf.1.1 hf.1.2 (hv 0 t v rfl rfl) h1
        obtain ⟨x, m1, m2⟩ := argsR_of_trod hf.2 (fun j t' v' a b => hv (j + 1) t' v' (by simpa using a) (by simpa using b)) h2
        exact ⟨(y, x), ⟨v, vs, rfl, k1, m1⟩, k2, m2⟩
theorem trodAll_below {W W' : World} (hl : laidOutB P = true) (hb : Below W.heap.size W W') : ∀ {ts : List TypeId} {vs : List Value} {ds : List (DataW H)} {p : List MemPlace}, (ts.all fun t => P.readableRec t && decide (t < P.types.size)) = true →
    DataW.TrodAll enc P W 0 (fun _ => true) true ts vs ds p → DataW.TrodAll enc P W' 0 (fun b => decide (b < W.heap.size)) true ts vs ds p
  | [], vs, ds, p, _, h => by cases vs <;> cases ds <;> simp_all [DataW.TrodAll]
  | t :: ts, vs, ds, p, ha, h => by
    cases vs with
    | nil => cases ds <;> exact absurd h (by simp [DataW.TrodAll])
    | cons v vs =>
      cases ds with
      | nil => exact absurd h (by simp [DataW.TrodAll])
      | cons d ds =>
        simp only [List.all_cons, Bool.and_eq_true, decide_eq_true_eq] at ha
        obtain ⟨p1, p2, h1, h2, rfl⟩ := h
        have hlt : ∀ x ∈ p1, x.block < W.heap.size := by
          obtain ⟨m, hm⟩ := h1
          exact DataW.trod_lt m _ _ _ hm
        exact ⟨p1, p2, Below.trod hl ha.1.1 ha.1.2 h1 hb hlt, trodAll_below hl hb ha.2 h2, rfl⟩
theorem trodAll_len {ts : List TypeId} : ∀ {vs : List Value} {ds : List (DataW H)} {p : List MemPlace}, DataW.TrodAll enc P w 0 sp held ts vs ds p → ds.length = ts.length := by
  induction ts with
  | nil => intro vs ds p h; cases vs <;> cases ds <;> simp_all [DataW.TrodAll]
  | cons t ts ih =>
    intro vs ds p h
    cases vs with
    | nil => cases ds <;> exact absurd h (by simp [DataW.TrodAll])
    | cons v vs =>
      cases ds with
      | nil => exact absurd h (by simp [DataW.TrodAll])
      | cons d ds => obtain ⟨_, _, _, h2, _⟩ := h; simp [ih h2]
end

/-! ### a law's row -/
section
variable {H : Type} {enc : TypeId × Value → H}
/-- A law whose function answers true: her call, and what the row asks behind it. -/
theorem law_post (hl : laidOutB Proofs.Tryz.prog = true) {n : FuncId} {fn : Func} {s : ChangeSpec} {Ts : List Ty} {f : Nat → Tys Ts → Option (Bool × Unit)} (hE : ∀ lf, EntryOK Proofs.Tryz.prog TabG n ⟨Ts, [.bool], f lf⟩)
    (hf : fitAll Proofs.Tryz.prog Ts fn.params.toList = true) (hrd : (fn.params.toList.all fun t => Proofs.Tryz.prog.readableRec t && decide (t < Proofs.Tryz.prog.types.size)) = true)
    {rt : TypeId} (hrt : fn.resultTypes = #[rt]) (hub : Proofs.Tryz.prog.underlying rt = some .bool) (hsv : s.vars = [])
    (hs : ∀ ds : List (DataW H), ds.length = fn.params.toList.length → s.fn H ds = { results := [.lit (.bool true)], args := ds })
    (hpure : ∀ x : Tys Ts, Bnds Ts x → ∃ lf, f lf x = some (true, ()))
    {W : World} {base : Nat} {args : Array Value} {ds gs : List (DataW H)} {before : List MemPlace} {apart fresh handsOn : Bool}
    (hval : ∀ (j : Nat) t v, fn.params[j]? = some t → args[j]? = some v → Value.okWide Proofs.Tryz.prog W .any base t v)
    (hW : DataW.Whole enc Proofs.Tryz.prog fn.params.toList s.vars apart W args.toList ds gs before) (hG : TabG W) :
    Calls Proofs.Tryz.prog n args W fun e W' => ∃ v, e = .returned v ∧ s.post enc Proofs.Tryz.prog fn apart fresh handsOn false W args v W' := by
  have hW' := hW
  obtain ⟨p, q, hA, hV, rfl, _, _⟩ := hW
  rw [hsv] at hV
  obtain ⟨rfl, rfl⟩ := trodVars_none hV
  have hv' : ∀ (j : Nat) (t : TypeId) (v : Value), fn.params.toList[j]? = some t → args.toList[j]? = some v → Value.okWide Proofs.Tryz.prog W .any base t v := by
    intro j t v a b
    rw [Array.getElem?_toList] at a b
    exact hval j t v a b
  obtain ⟨x, k1, k2⟩ := argsR_of_trod hf hv' hA
  obtain ⟨lf, hlf⟩ := hpure x k2
  have hlen := trodAll_len hA
  have h := hE lf x (true, ()) hlf (IsC W) W args.toList hG (fun i hi => hi) k1
  rw [Array.toArray_toList] at h
  refine h.mono ?_
  rintro e W' ⟨v, rfl, hb, hr⟩
  obtain ⟨vs, ⟨u, r, rfl, h1, h2⟩, rfl⟩ := hr
  obtain rfl : r = [] := h2
  have hu : u = .bool true := by
    unfold ValR at h1
    rw [if_neg (by simp [isSt])] at h1
    simpa [DR] using h1
  subst hu
  refine ⟨_, rfl, ds, [], p ++ [], [], p, [], hW', ?_, ?_, ?_, hb.frame _, fun h => by cases h⟩
  · rw [List.append_nil, hs ds hlen, hrt]
    exact trodAll_mk1 (shut_bool hub true)
  · rw [List.append_nil, hs ds hlen]
    exact trodAll_below hl hb hrd hA
  · rw [List.append_nil, hs ds hlen, hsv]
    rfl
end
/-- The table out of what a row lists. -/
theorem tabG_of_laid {laid : List (String × DataW Unit)} {W : World} (hp : (laid.all fun x => x.2.handleName?.isNone) = true) {g : Nat} {t e : TypeId} {n : Nat} {rest : List (String × DataW Unit)}
    (hg : Proofs.Tryz.prog.globalNamed "internal/strconv.uint64pow10" = some g) (hty : (Proofs.Tryz.prog.globals[g]?).map (·.type) = some t) (ht : Proofs.Tryz.prog.underlying t = some (.array n e)) (he : Proofs.Tryz.prog.underlying e = some (.int .u64))
    (hce : Proofs.Tryz.prog.cellsOf e = 1) (hct : Proofs.Tryz.prog.cellsOf t = n)
    (hh : (laid.filter fun x => x.1 == "internal/strconv.uint64pow10") = ("internal/strconv.uint64pow10", Lib.tabData .u64 Lib.pow10Tab) :: rest)
    (h : laidMetH Proofs.Tryz.prog laid W) : TabG W := by
  rw [MakeChecks.laidMetH_plain _ _ _ hp] at h
  have h' := laidMet.filter (fun x => x.1 == "internal/strconv.uint64pow10") h
  rw [hh] at h'
  exact Lib.tabIs_of_head hg hty ht he hce hct h'
end Go.Q
/-! # IntervalPairs -/
namespace Go.N
open Go Go.Q Go.Rx
set_option linter.unusedVariables false
set_option linter.unusedSimpArgs false

/-- One round of the law, whichever comparison it is for. -/
theorem pairs_way {β : Type} (lf : Nat) (h3 : 200000 ≤ lf) {a b : A} (ha : Wf a) (hb : Wf b) {u v op : Int} (ho : op = 2 ∨ op = 3 ∨ op = 4 ∨ op = 5) (bu : -K < u ∧ u < K) (bv : -K < v ∧ v < K) (hu : inS (ofA a) u = true) (hv : inS (ofA b) v = true)
    (f : Bool) (hf : f = true → holdsC op u v) (F R : Option β) :
    (bd (interval_Refine.f lf op (ac a) (ac b)) fun r12 => br (r12.2.2.1 != 0) F (bd (interval_Holds.f lf r12.1 (bs (Lib.itoa u))) fun r13 => bd (interval_Holds.f lf r12.2.1 (bs (Lib.itoa v))) fun r14 =>
      br (r13.2.1 != 0) F (br (r14.2.1 != 0) F (br f (br (!r13.1) F (br (!r14.1) F (br (r12.1.1 != r12.2.1.1) F R))) (br (r12.1.1 != r12.2.1.1) F R))))) = R := by
  obtain ⟨w1, w2⟩ := refA_wf ha hb ho
  have e : ((ac (refA op a b).1).1 != (ac (refA op a b).2).1) = false := by
    rw [show (ac (refA op a b).1).1 = (refA op a b).1.em from rfl, show (ac (refA op a b).2).1 = (refA op a b).2.em from rfl, refA_em]
    cases (refA op a b).2.em <;> rfl
  simp only [refine_f lf h3 ha hb op ho, bdS, bne_self_eq_false, brF, holds_wf lf h3 w1 bu, holds_wf lf h3 w2 bv, e]
  cases f with
  | false => rw [brF]
  | true =>
    obtain ⟨k1, k2⟩ := refA_in ha hb ho bu bv hu hv (hf rfl)
    rw [brT, k1, k2]
    simp only [Bool.not_true, brF]
def unseen (sn : List Nat) : Nat := ((List.range 4).filter fun i => !sn.contains i).length
theorem unseen_lt {sn : List Nat} {i : Nat} (hi : i < 4) (h : (!sn.contains i) = true) : unseen (i :: sn) < unseen sn := by
  unfold unseen
  refine filter_lt (fun j => !sn.contains j) (fun j => !(i :: sn).contains j) (fun x hx => ?_) i h (by simp) _ (List.mem_range.2 hi)
  simp only [List.contains_cons, Bool.not_or, Bool.and_eq_true] at hx
  exact hx.2
theorem pairs_l0 (lf : Nat) (h3 : 200000 ≤ lf) {a b : A} (ha : Wf a) (hb : Wf b) {u v : Int} (bu : -K < u ∧ u < K) (bv : -K < v ∧ v < K) (hu : inS (ofA a) u = true) (hv : inS (ofA b) v = true) :
    ∀ (m n : Nat) (sn : List Nat), unseen sn ≤ m → m < n →
      surveyorlaw21_IntervalPairs.l0 lf (ac a).1 (ac a).2.1 (ac a).2.2.1 (ac b).1 (ac b).2.1 (ac b).2.2.1 (bs (Lib.itoa u)) (bs (Lib.itoa v)) (sgn (u - v) == 0) (sgn (u - v) != 0) (decide (sgn (u - v) < 0)) (decide (sgn (u - v) ≤ 0)) n sn = some (true, (), (), ()) := by
  intro m
  induction m with
  | zero =>
    intro n sn hm hn
    obtain ⟨k, rfl⟩ := Nat.exists_eq_succ_of_ne_zero (show n ≠ 0 by omega)
    rw [surveyorlaw21_IntervalPairs.l0, surveyorlaw21_IntervalPairs.r0, chsF_over]
    have h0 : unseen sn = 0 := by omega
    have key : ∀ i, i < 4 → (!sn.contains i) = false := by
      intro i hi
      cases hb : (!sn.contains i) with
      | false => rfl
      | true => have := unseen_lt hi hb; omega
    intro p hp
    simp only [List.mem_cons, List.not_mem_nil, or_false] at hp
    rcases hp with rfl | rfl | rfl | rfl
    · exact key 0 (by omega)
    · exact key 1 (by omega)
    · exact key 2 (by omega)
    · exact key 3 (by omega)
  | succ m ih =>
    intro n sn hm hn
    obtain ⟨k, rfl⟩ := Nat.exists_eq_succ_of_ne_zero (show n ≠ 0 by omega)
    have e1 : ((ac a).1, (ac a).2.1, (ac a).2.2.1, ()) = ac a := rfl
    have e2 : ((ac b).1, (ac b).2.1, (ac b).2.2.1, ()) = ac b := rfl
    have s0 : (sgn (u - v) == 0) = true → holdsC 2 u v := fun h => by
      have : sgn (u - v) = 0 := by simpa using h
      show u = v
      unfold sgn at this; (repeat' split at this) <;> omega
    have s1 : (sgn (u - v) != 0) = true → holdsC 3 u v := fun h => by
      have : sgn (u - v) ≠ 0 := by simpa using h
      show u ≠ v
      unfold sgn at this; (repeat' split at this) <;> omega
    have s2 : decide (sgn (u - v) < 0) = true → holdsC 4 u v := fun h => by
      have : sgn (u - v) < 0 := by simpa using h
      show u < v
      unfold sgn at this; (repeat' split at this) <;> omega
    have s3 : decide (sgn (u - v) ≤ 0) = true → holdsC 5 u v := fun h => by
      have : sgn (u - v) ≤ 0 := by simpa using h
      show u ≤ v
      unfold sgn at this; (repeat' split at this) <;> omega
    rw [surveyorlaw21_IntervalPairs.l0, surveyorlaw21_IntervalPairs.r0]
    simp only [e1, e2, pairs_way lf h3 ha hb (op := 2) (by omega) bu bv hu hv _ s0, pairs_way lf h3 ha hb (op := 3) (by omega) bu bv hu hv _ s1, pairs_way lf h3 ha hb (op := 4) (by omega) bu bv hu hv _ s2, pairs_way lf h3 ha hb (op := 5) (by omega) bu bv hu hv _ s3]
    have next : ∀ i, i < 4 → (!sn.contains i) = true → surveyorlaw21_IntervalPairs.l0 lf (ac a).1 (ac a).2.1 (ac a).2.2.1 (ac b).1 (ac b).2.1 (ac b).2.2.1 (bs (Lib.itoa u)) (bs (Lib.itoa v)) (sgn (u - v) == 0) (sgn (u - v) != 0) (decide (sgn (u - v) < 0)) (decide (sgn (u - v) ≤ 0)) k (i :: sn) = some (true, (), (), ()) :=
      fun i hi h => ih k (i :: sn) (by have := unseen_lt hi h; omega) (by omega)
    by_cases hall : ∃ i, i < 4 ∧ (!sn.contains i) = true
    · refine chsF_of ?_ ?_
      · obtain ⟨i, hi, h⟩ := hall
        have : i = 0 ∨ i = 1 ∨ i = 2 ∨ i = 3 := by omega
        rcases this with rfl | rfl | rfl | rfl
        · exact ⟨_, List.mem_cons_self .., h⟩
        · exact ⟨_, List.mem_cons_of_mem _ (List.mem_cons_self ..), h⟩
        · exact ⟨_, List.mem_cons_of_mem _ (List.mem_cons_of_mem _ (List.mem_cons_self ..)), h⟩
        · exact ⟨_, List.mem_cons_of_mem _ (List.mem_cons_of_mem _ (List.mem_cons_of_mem _ (List.mem_cons_self ..))), h⟩
      · intro p hp h
        simp only [List.mem_cons, List.not_mem_nil, or_false] at hp
        rcases hp with rfl | rfl | rfl | rfl
        · exact next 0 (by omega) h
        · exact next 1 (by omega) h
        · exact next 2 (by omega) h
        · exact next 3 (by omega) h
    · rw [chsF_over]
      intro p hp
      have key : ∀ i, i < 4 → (!sn.contains i) = false := by
        intro i hi
        cases hb : (!sn.contains i) with
        | false => rfl
        | true => exact absurd ⟨i, hi, hb⟩ hall
      simp only [List.mem_cons, List.not_mem_nil, or_false] at hp
      rcases hp with rfl | rfl | rfl | rfl
      · exact key 0 (by omega)
      · exact key 1 (by omega)
      · exact key 2 (by omega)
      · exact key 3 (by omega)
theorem unseen_le (sn : List Nat) : unseen sn ≤ 4 := by
  unfold unseen
  have := List.length_filter_le (fun i => !sn.contains i) (List.range 4)
  simpa using this
end Go.N
namespace Go.Q
open Go.N
set_option linter.unusedSimpArgs false
/-- IntervalPairs answers true. -/
theorem Pure.IntervalPairs (x : Tys (surveyorlaw21_IntervalPairs.E 0).ps) (h : Bnds (surveyorlaw21_IntervalPairs.E 0).ps x) : ∃ lf, surveyorlaw21_IntervalPairs.f lf x.1 x.2.1 x.2.2.1 = some (true, ()) := by
  obtain ⟨⟨e1, l1, m1, ⟨⟩⟩, ⟨e2, l2, m2, ⟨⟩⟩, ⟨l3, m3, ⟨⟩⟩, ⟨⟩⟩ := x
  obtain ⟨⟨_, a1, b1, _⟩, ⟨_, a2, b2, _⟩, ⟨a3, b3, _⟩, _⟩ := h
  simp only [Bnd] at a1 b1 a2 b2 a3 b3
  rw [Lib.size_eq] at a1 b1 a2 b2 a3 b3
  rw [← bs_eta l1, ← bs_eta m1, ← bs_eta l2, ← bs_eta m2, ← bs_eta l3, ← bs_eta m3]
  generalize l1.data.toList = l1 at *
  generalize m1.data.toList = m1 at *
  generalize l2.data.toList = l2 at *
  generalize m2.data.toList = m2 at *
  generalize l3.data.toList = l3 at *
  generalize m3.data.toList = m3 at *
  obtain ⟨lf, hlf⟩ : ∃ lf, lf = 200000 + l1.length + m1.length + l2.length + m2.length + l3.length + m3.length := ⟨_, rfl⟩
  refine ⟨lf, ?_⟩
  have h3 : 200000 ≤ lf := by omega
  have hr := right_f lf h3 e1 e2 l1 m1 l2 m2 a1 b1 a2 b2 (by omega) (by omega) (by omega) (by omega)
  have hk3 := rCheck_f lf l3 a3 (by omega)
  have hk4 := rCheck_f lf m3 b3 (by omega)
  rw [surveyorlaw21_IntervalPairs.f]
  by_cases hc : ck e1 l1 m1 = 0 ∧ ck e2 l2 m2 = 0
  · rw [decide_eq_true hc] at hr
    obtain ⟨a, ea, wa⟩ := ck_wf hc.1
    obtain ⟨b, eb, wb⟩ := ck_wf hc.2
    simp only [ea, eb] at hr ⊢
    simp only [hr, bdS, Bool.not_true, brF, hk3, hk4, awake_f]
    by_cases c3 : chk l3 = 0
    · by_cases c4 : chk m3 = 0
      · have i3 := itoa_iv (chk_zero.1 c3).1
        have i4 := itoa_iv (chk_zero.1 c4).1
        have bu := c3
        have bv := c4
        rw [i3, chk_itoa] at bu
        rw [i4, chk_itoa] at bv
        simp only [c3, c4, bne_self_eq_false, brF]
        rw [i3, i4]
        simp only [in_ref lf h3 wa bu, in_ref lf h3 wb bv, bdS]
        cases hu : inS (ofA a) (iv l3) with
        | false => simp only [Bool.not_false, brT]
        | true =>
          cases hv : inS (ofA b) (iv m3) with
          | false => simp only [Bool.not_true, brF, Bool.not_false, brT]
          | true =>
            have hcmp := compare_f lf (Lib.itoa (iv l3)) (Lib.itoa (iv m3)) ((chk_itoa _).2 bu) ((chk_itoa _).2 bv) h3
            rw [iv_itoa, iv_itoa] at hcmp
            have hl := pairs_l0 lf h3 wa wb bu bv hu hv 4 (lf + 40) [] (unseen_le _) (by omega)
            rw [← ea, ← eb] at hl
            simp only at hl
            simp only [Bool.not_true, brF, hcmp, bdS, bne_self_eq_false, hl, brT]
      · simp only [c3, bne_self_eq_false, brF, bneT c4, brT]
    · simp only [bneT c3, brT]
  · rw [decide_eq_false hc] at hr
    simp only [hr, bdS, Bool.not_false, brT, awake_f]
end Go.Q
