/- surveyor/surveyorlaw21.IntervalChains: the row's statement, and the card over it: for every input the call returns true and leaves its arguments as they were. Condition: the listed package-level variables hold what the program's text lays (the card ties them to the pruned copy of the program). -/
import Derived.Test.YthfphcemoehllaaGreatDoorCards
import Derived.Test.YthfphcemoehllaaGreatDoorTie
import Derived.KernelRfl
import Derived.Test.YthfphcemoehllaaGreatDoorChF
import Derived.Test.YthfphcemoehllaaGreatDoorV
set_option linter.unusedVariables false
set_option linter.unusedSimpArgs false
set_option linter.unusedSectionVars false
/-! # IntervalChains -/
namespace Go.N
open Go Go.Q Go.Rx
set_option linter.unusedVariables false
set_option linter.unusedSimpArgs false

theorem countP_mono' {p q : Int → Bool} (h : ∀ x, p x = true → q x = true) : ∀ l : List Int, l.countP p ≤ l.countP q
  | [] => by simp
  | x :: l => by
    have ih := countP_mono' h l
    rw [List.countP_cons, List.countP_cons]
    cases hp : p x with
    | true => rw [h x hp]; simp; omega
    | false => simp only [Bool.false_eq_true, if_false]; omega
theorem countP_lt' {p q : Int → Bool} (h : ∀ x, p x = true → q x = true) {y : Int} (hp : p y = false) (hq : q y = true) : ∀ l : List Int, y ∈ l → l.countP p + 1 ≤ l.countP q
  | [], hm => by simp at hm
  | x :: l, hm => by
    rw [List.countP_cons, List.countP_cons]
    rcases List.mem_cons.1 hm with rfl | hm
    · have := countP_mono' h l
      rw [hp, hq]; simp; omega
    · have ih := countP_lt' h hp hq l hm
      cases hx : p x with
      | true => rw [h x hx]; simp; omega
      | false => simp only [Bool.false_eq_true, if_false]; omega
/-- How many ends a bound can still go to. -/
def cl (zs : List Int) (v : Int) : Nat := (-K :: zs).countP fun c => decide (c < v)
def ch (zs : List Int) (v : Int) : Nat := (K :: zs).countP fun c => decide (v < c)
theorem cl_le (zs : List Int) (v : Int) : cl zs v ≤ zs.length + 1 := by
  have := List.countP_le_length (p := fun c => decide (c < v)) (l := -K :: zs)
  simpa [cl] using this
theorem ch_le (zs : List Int) (v : Int) : ch zs v ≤ zs.length + 1 := by
  have := List.countP_le_length (p := fun c => decide (v < c)) (l := K :: zs)
  simpa [ch] using this
theorem cl_lt {zs : List Int} {v v' : Int} (hm : v' ∈ -K :: zs) (h : v' < v) : cl zs v' + 1 ≤ cl zs v :=
  countP_lt' (fun x hx => by simp only [decide_eq_true_eq] at *; omega) (by simp) (by simpa using h) _ hm
theorem ch_lt {zs : List Int} {v v' : Int} (hm : v' ∈ K :: zs) (h : v < v') : ch zs v' + 1 ≤ ch zs v :=
  countP_lt' (fun x hx => by simp only [decide_eq_true_eq] at *; omega) (by simp) (by simpa using h) _ hm
theorem foldl_mem {v : Int} : ∀ (zs : List Int) (acc : X), key (zs.foldl (bel v) acc) = key acc ∨ key (zs.foldl (bel v) acc) ∈ zs
  | [], acc => .inl rfl
  | z :: zs, acc => by
    rw [List.foldl_cons]
    rcases foldl_mem (v := v) zs (bel v acc z) with h | h
    · rw [h]
      by_cases hz : z ≤ v
      · have : bel v acc z = .fin z := if_pos hz
        rw [this]; exact .inr (by simp [key])
      · have : bel v acc z = acc := if_neg hz
        rw [this]; exact .inl rfl
    · exact .inr (List.mem_cons_of_mem _ h)
theorem foldr_mem {v : Int} : ∀ (zs : List Int) (acc : X), key (zs.foldr (abo v) acc) = key acc ∨ key (zs.foldr (abo v) acc) ∈ zs
  | [], acc => .inl rfl
  | z :: zs, acc => by
    rw [List.foldr_cons]
    by_cases hz : z ≥ v
    · have : abo v z (zs.foldr (abo v) acc) = .fin z := if_pos hz
      rw [this]; exact .inr (by simp [key])
    · have : abo v z (zs.foldr (abo v) acc) = zs.foldr (abo v) acc := if_neg hz
      rw [this]
      rcases foldr_mem (v := v) zs acc with h | h
      · exact .inl h
      · exact .inr (List.mem_cons_of_mem _ h)
theorem below_mem (zs : List Int) (v : X) : key (below zs v) ∈ -K :: zs := by
  rcases foldl_mem (v := key v) zs .ni with h | h
  · unfold below; rw [h]; simp [key]
  · exact List.mem_cons_of_mem _ h
theorem above_mem (zs : List Int) (v : X) : key (above zs v) ∈ K :: zs := by
  rcases foldr_mem (v := key v) zs .pi with h | h
  · unfold above; rw [h]; simp [key]
  · exact List.mem_cons_of_mem _ h
def phi (zs : List Int) (a : A) : Nat := if a.em = true then 2 * zs.length + 3 else cl zs (key (ofA a).lo) + ch zs (key (ofA a).hi)
theorem phi_le (zs : List Int) (a : A) : phi zs a ≤ 2 * zs.length + 3 := by
  unfold phi
  have := cl_le zs (key (ofA a).lo)
  have := ch_le zs (key (ofA a).hi)
  split <;> omega
theorem leqA_refl (s : Sp) : leqA s s = true := by rw [leqA_iff]; apply decide_eq_true; omega
/-- What a step of the chain yields. -/
theorem widen_step {a b : A} (ha : Wf a) (hb : Wf b) {zs : List Int} (hz : Th zs) :
    Wf (toA (widen (ofA a) (ofA b) zs)) ∧ leqA (ofA a) (ofA (toA (widen (ofA a) (ofA b) zs))) = true ∧ leqA (ofA b) (ofA (toA (widen (ofA a) (ofA b) zs))) = true ∧
    phi zs (toA (widen (ofA a) (ofA b) zs)) + (if toA (widen (ofA a) (ofA b) zs) = a then 0 else 1) ≤ phi zs a := by
  have hK := K_gt
  cases ea : a.em with
  | true =>
    have e : toA (widen (ofA a) (ofA b) zs) = b := by
      unfold widen hull
      rw [emp_ofA ha, ea, if_pos (.inl rfl), if_pos rfl, toA_ofA hb]
    rw [e]
    refine ⟨hb, ?_, leqA_refl _, ?_⟩
    · unfold leqA; rw [emp_ofA ha, ea]; rfl
    · have p1 : phi zs a = 2 * zs.length + 3 := by unfold phi; rw [if_pos ea]
      rw [p1]
      cases eb : b.em with
      | true =>
        have : b = a := by
          obtain ⟨x1, x2⟩ := ha.em ea
          obtain ⟨y1, y2⟩ := hb.em eb
          obtain ⟨_, _, _⟩ := a
          obtain ⟨_, _, _⟩ := b
          simp_all
        rw [if_pos this]; have := phi_le zs b; omega
      | false =>
        have h1 := cl_le zs (key (ofA b).lo)
        have h2 := ch_le zs (key (ofA b).hi)
        unfold phi
        rw [if_neg (by simp [eb])]
        split <;> omega
  | false => cases eb : b.em with
    | true =>
      have e : toA (widen (ofA a) (ofA b) zs) = a := by
        unfold widen hull
        rw [emp_ofA ha, emp_ofA hb, ea, eb, if_pos (.inr rfl), if_neg (by simp), if_pos rfl, toA_ofA ha]
      rw [e]
      refine ⟨ha, leqA_refl _, ?_, by rw [if_pos rfl]; omega⟩
      unfold leqA; rw [emp_ofA hb, eb]; rfl
    | false =>
      have ka := ha.ks.e2 ea
      have kb := hb.ks.e2 eb
      obtain ⟨he, hp, hn⟩ := hull_keys ha hb ea eb
      have hCo := hull_ok ha.okC hb.okC
      have hKo := hull_ok ha.okK hb.okK
      have kh := key_hull (ofA a) (ofA b)
      rw [if_neg (by omega), if_neg (by omega), if_neg (by omega), if_neg (by omega)] at kh
      have hW : widen (ofA a) (ofA b) zs = ⟨if key (hull (ofA a) (ofA b)).lo ≠ key (ofA a).lo then below zs (hull (ofA a) (ofA b)).lo else (hull (ofA a) (ofA b)).lo, if key (hull (ofA a) (ofA b)).hi ≠ key (ofA a).hi then above zs (hull (ofA a) (ofA b)).hi else (hull (ofA a) (ofA b)).hi⟩ := by
        unfold widen; rw [emp_ofA ha, emp_ofA hb, ea, eb, if_neg (by simp)]
      generalize hull (ofA a) (ofA b) = H at *
      have le1 := below_le zs hKo.1
      have le2 := above_ge zs hKo.2
      have m1 := below_mem zs H.lo
      have m2 := above_mem zs H.hi
      have o1 := below_ok hz H.lo
      have o2 := above_ok hz H.hi
      rw [hW]
      obtain ⟨lo, hlo⟩ : ∃ lo, lo = (if key H.lo ≠ key (ofA a).lo then below zs H.lo else H.lo) := ⟨_, rfl⟩
      obtain ⟨hi, hhi⟩ : ∃ hi, hi = (if key H.hi ≠ key (ofA a).hi then above zs H.hi else H.hi) := ⟨_, rfl⟩
      rw [← hlo, ← hhi]
      have olo : okx C lo := by rw [hlo]; split; exact o1; exact hCo.1
      have ohi : okx C hi := by rw [hhi]; split; exact o2; exact hCo.2
      have klo : key lo ≤ key H.lo := by rw [hlo]; split; exact le1; exact Int.le_refl _
      have khi : key H.hi ≤ key hi := by rw [hhi]; split; exact le2; exact Int.le_refl _
      have kk := keys_toA (s := ⟨lo, hi⟩) ⟨olo, ohi⟩ (fun _ => by simp only; omega)
      have wf := toA_wf' (s := ⟨lo, hi⟩) ⟨olo.mono (Int.le_of_lt C_lt_K), ohi.mono (Int.le_of_lt C_lt_K)⟩ (fun _ => by simp only; omega)
      simp only at kk
      rw [if_neg (by omega), if_neg (by omega)] at kk
      have em : (toA ⟨lo, hi⟩).em = false := by
        have := emp_ofA wf
        rw [← this]
        exact decide_eq_false (by rw [kk.1, kk.2]; omega)
      have clp : cl zs (key lo) + (if key lo = key (ofA a).lo then 0 else 1) ≤ cl zs (key (ofA a).lo) := by
        by_cases h : key H.lo = key (ofA a).lo
        · rw [if_neg (fun x => x h)] at hlo
          rw [hlo, h, if_pos rfl]; omega
        · rw [if_pos h] at hlo
          have : key lo < key (ofA a).lo := by omega
          rw [if_neg (by omega)]
          exact cl_lt (by rw [hlo]; exact m1) this
      have chp : ch zs (key hi) + (if key hi = key (ofA a).hi then 0 else 1) ≤ ch zs (key (ofA a).hi) := by
        by_cases h : key H.hi = key (ofA a).hi
        · rw [if_neg (fun x => x h)] at hhi
          rw [hhi, h, if_pos rfl]; omega
        · rw [if_pos h] at hhi
          have : key (ofA a).hi < key hi := by omega
          rw [if_neg (by omega)]
          exact ch_lt (by rw [hhi]; exact m2) this
      refine ⟨wf, ?_, ?_, ?_⟩
      · rw [leqA_iff, kk.1, kk.2]; apply decide_eq_true; omega
      · rw [leqA_iff, kk.1, kk.2]; apply decide_eq_true; omega
      · have p1 : phi zs (toA ⟨lo, hi⟩) = cl zs (key lo) + ch zs (key hi) := by unfold phi; rw [if_neg (by simp [em]), kk.1, kk.2]
        have p2 : phi zs a = cl zs (key (ofA a).lo) + ch zs (key (ofA a).hi) := by unfold phi; rw [if_neg (by simp [ea])]
        rw [p1, p2]
        by_cases h : toA ⟨lo, hi⟩ = a
        · rw [if_pos h]; omega
        · rw [if_neg h]
          have hor : key lo ≠ key (ofA a).lo ∨ key hi ≠ key (ofA a).hi := by
            by_cases h1 : key lo = key (ofA a).lo
            · by_cases h2 : key hi = key (ofA a).hi
              · exfalso
                apply h
                apply ofA_inj wf ha
                have q1 := key_inj wf.okK.1 ha.okK.1 (kk.1.trans h1)
                have q2 := key_inj wf.okK.2 ha.okK.2 (kk.2.trans h2)
                cases hx : ofA (toA ⟨lo, hi⟩); cases hy : ofA a; simp_all
              · exact .inr h2
            · exact .inl h1
          rcases hor with h1 | h1
          · rw [if_neg h1] at clp; split at chp <;> omega
          · rw [if_neg h1] at chp; split at clp <;> omega
theorem narrow_step {a w : A} (ha : Wf a) (hw : Wf w) (ea : a.em = false) (h : leqA (ofA a) (ofA w) = true) :
    Wf (toA (narrow w a)) ∧ leqA (ofA a) (ofA (toA (narrow w a))) = true ∧ leqA (ofA (toA (narrow w a))) (ofA w) = true := by
  have hK := K_gt
  have hC := C_lt_K
  have ka := ha.ks.e2 ea
  rw [leqA_iff] at h
  simp only [decide_eq_true_eq] at h
  have kw := hw.ks.keys
  have ew : w.em = false := by
    have := emp_ofA hw
    rw [← this]; exact decide_eq_false (by omega)
  have sa : ofA a = ⟨lox a.lo, hix a.hi⟩ := by unfold ofA; rw [ea]; rfl
  have sw : ofA w = ⟨lox w.lo, hix w.hi⟩ := by unfold ofA; rw [ew]; rfl
  have hn : narrow w a = ⟨lox (orO w.lo a.lo), hix (orO w.hi a.hi)⟩ := by unfold narrow; rw [ea, ew]; rfl
  rw [sa, sw] at h
  rw [sa] at ka
  simp only at h ka
  have q1 : key (lox w.lo) ≤ key (lox (orO w.lo a.lo)) ∧ key (lox (orO w.lo a.lo)) ≤ key (lox a.lo) := by
    cases hx : w.lo with
    | none =>
      have := (key_le (okb_lox ha.loK)).1
      exact ⟨this, Int.le_refl _⟩
    | some z => rw [hx] at h; exact ⟨Int.le_refl _, by simp only [orO]; omega⟩
  have q2 : key (hix (orO w.hi a.hi)) ≤ key (hix w.hi) ∧ key (hix a.hi) ≤ key (hix (orO w.hi a.hi)) := by
    cases hx : w.hi with
    | none =>
      have := (key_le (okb_hix ha.hiK)).2
      exact ⟨this, Int.le_refl _⟩
    | some z => rw [hx] at h; exact ⟨Int.le_refl _, by simp only [orO]; omega⟩
  have ok := narrow_ok hw.lo hw.hi ha.lo ha.hi
  have okk := narrow_ok hw.loK hw.hiK ha.loK ha.hiK
  rw [hn] at ok okk ⊢
  have kk := keys_toA ok (fun _ => by simp only; omega)
  have wf := toA_wf' okk (fun _ => by simp only; omega)
  simp only at kk
  rw [if_neg (by omega), if_neg (by omega)] at kk
  refine ⟨wf, ?_, ?_⟩
  · rw [leqA_iff, kk.1, kk.2, sa]; apply decide_eq_true; simp only; omega
  · rw [leqA_iff, kk.1, kk.2, sw]; apply decide_eq_true; simp only; omega
theorem chains1_f (lf : Nat) (h3 : 200000 ≤ lf) {a b : A} (ha : Wf a) (hb : Wf b) : surveyorlaw21_IntervalChains_1.f lf (ac a) (ac b) = some (leqA (ofA a) (ofA b), ()) := by
  rw [surveyorlaw21_IntervalChains_1.f, leq_f lf h3 ha hb, bdS]
  cases leqA (ofA a) (ofA b) <;> simp [brT, brF]
theorem check_ref_iv (lf : Nat) (h3 : 200000 ≤ lf) (y : IV) (h1 : (tl y.2.1).length ≤ 9223372036854775807 ∧ (tl y.2.1).length ≤ lf) (h2 : (tl y.2.2.1).length ≤ 9223372036854775807 ∧ (tl y.2.2.1).length ≤ lf) :
    surveyorref21_Check.f lf y = some (ck y.1 (tl y.2.1) (tl y.2.2.1), ()) := by
  obtain ⟨e, l, h, ⟨⟩⟩ := y
  have := check_ref lf h3 e (tl l) (tl h) h1.1 h2.1 h1.2 h2.2
  rwa [bs_eta, bs_eta] at this
theorem ck_wf_iv {y : IV} (hc : ck y.1 (tl y.2.1) (tl y.2.2.1) = 0) : ∃ a : A, y = ac a ∧ Wf a := by
  obtain ⟨e, l, h, ⟨⟩⟩ := y
  obtain ⟨a, ea, wa⟩ := ck_wf hc
  rw [bs_eta, bs_eta] at ea
  exact ⟨a, ea, wa⟩
theorem chains_l0 (lf : Nat) (h3 : 200000 ≤ lf) (zs : List Int) (hz : Th zs) (hzl : zs.length ≤ 20) (hasc : interval_ascending.f lf (zs.map bz) = some (0, ())) (l : List IV) (hll : l.length ≤ 20)
    (hs : ∀ y ∈ l, ((tl y.2.1).length ≤ 9223372036854775807 ∧ (tl y.2.1).length ≤ lf) ∧ ((tl y.2.2.1).length ≤ 9223372036854775807 ∧ (tl y.2.2.1).length ≤ lf)) : ∀ (k n i : Nat) (a : A) (c : Nat), i + k = l.length → k < n → Wf a → c + phi zs a ≤ 2 * zs.length + 3 →
    ∃ b r z, surveyorlaw21_IntervalChains.l0 lf (zs.map bz) l (l.length : Nat) n (c : Nat) (i : Nat) (ac a).1 (ac a).2.1 (ac a).2.2.1 = some (b, r, z, ()) ∧ (b = true → r.1 = true) ∧ (b = false → z.1 ≤ 2 * (zs.length : Nat) + 4) := by
  intro k
  induction k with
  | zero =>
    intro n i a c hi hn ha hc
    obtain ⟨m, rfl⟩ := Nat.exists_eq_succ_of_ne_zero (show n ≠ 0 by omega)
    rw [surveyorlaw21_IntervalChains.l0, decide_eq_false (by omega), brF]
    exact ⟨false, _, _, rfl, (fun h => by cases h), fun _ => by simp only; omega⟩
  | succ k ih =>
    intro n i a c hi hn ha hc
    obtain ⟨m, rfl⟩ := Nat.exists_eq_succ_of_ne_zero (show n ≠ 0 by omega)
    have hlt : i < l.length := by omega
    have hy := hs l[i] (List.getElem_mem hlt)
    rw [surveyorlaw21_IntervalChains.l0, decide_eq_true (by omega), brT, idxL_nat l i hlt, bdS, check_ref_iv lf h3 _ hy.1 hy.2, bdS]
    by_cases hck : ck l[i].1 (tl l[i].2.1) (tl l[i].2.2.1) = 0
    · obtain ⟨b, eb, wb⟩ := ck_wf_iv hck
      have ea : ((ac a).1, (ac a).2.1, (ac a).2.2.1, ()) = ac a := rfl
      obtain ⟨ww, q1, q2, q3⟩ := widen_step ha wb hz
      rw [eb]
      rw [eb] at hck
      simp only [hck, bne_self_eq_false, brF, ea, widen_f lf h3 ha wb hz (by omega) hasc, bdS, chains1_f lf h3 ha ww, chains1_f lf h3 wb ww, q1, q2, Bool.not_true, narrow_f lf h3 ww ha]
      have hphi := phi_le zs a
      have step : ∀ c' : Nat, c' = c + (if toA (widen (ofA a) (ofA b) zs) = a then 0 else 1) →
          ∃ b' r z, surveyorlaw21_IntervalChains.l0 lf (zs.map bz) l (l.length : Nat) m (c' : Nat) (IntKind.i64.wrap ((i : Nat) + 1)) (ac (toA (widen (ofA a) (ofA b) zs))).1 (ac (toA (widen (ofA a) (ofA b) zs))).2.1 (ac (toA (widen (ofA a) (ofA b) zs))).2.2.1 = some (b', r, z, ()) ∧ (b' = true → r.1 = true) ∧ (b' = false → z.1 ≤ 2 * (zs.length : Nat) + 4) := by
        intro c' hc'
        rw [w64 (by omega) (by omega), show ((i : Nat) : Int) + 1 = ((i + 1 : Nat) : Int) by omega]
        exact ih m (i + 1) _ c' (by omega) (by omega) ww (by omega)
      have heq : ∀ w : A, (!(((ac w).1 == (ac a).1) && (((ac w).2.1 == (ac a).2.1) && (((ac w).2.2.1 == (ac a).2.2.1) && true)))) = decide (¬ w = a) := by
        intro w
        have := beq_iv w a
        show (!((w.em == a.em) && ((ob w.lo == ob a.lo) && ((ob w.hi == ob a.hi) && true)))) = decide (¬ w = a)
        rw [this]; simp
      have fin : ∃ b' r z, br (decide (¬ toA (widen (ofA a) (ofA b) zs) = a)) (surveyorlaw21_IntervalChains.l0 lf (zs.map bz) l (l.length : Nat) m (IntKind.i64.wrap ((c : Nat) + 1)) (IntKind.i64.wrap ((i : Nat) + 1)) (ac (toA (widen (ofA a) (ofA b) zs))).1 (ac (toA (widen (ofA a) (ofA b) zs))).2.1 (ac (toA (widen (ofA a) (ofA b) zs))).2.2.1)
          (surveyorlaw21_IntervalChains.l0 lf (zs.map bz) l (l.length : Nat) m (c : Nat) (IntKind.i64.wrap ((i : Nat) + 1)) (ac (toA (widen (ofA a) (ofA b) zs))).1 (ac (toA (widen (ofA a) (ofA b) zs))).2.1 (ac (toA (widen (ofA a) (ofA b) zs))).2.2.1) = some (b', r, z, ()) ∧ (b' = true → r.1 = true) ∧ (b' = false → z.1 ≤ 2 * (zs.length : Nat) + 4) := by
        by_cases hwa : toA (widen (ofA a) (ofA b) zs) = a
        · rw [decide_eq_false (fun h => h hwa), brF]
          exact step c (by rw [if_pos hwa]; omega)
        · rw [decide_eq_true hwa, brT]
          have := step (c + 1) (by rw [if_neg hwa])
          rw [w64 (n := ((c : Nat) : Int) + 1) (by omega) (by omega), show ((c : Nat) : Int) + 1 = ((c + 1 : Nat) : Int) by omega]
          exact this
      cases hem : a.em with
      | true =>
        simp only [show (ac a).1 = true from hem, Bool.not_true, brF]
        have h' := heq (toA (widen (ofA a) (ofA b) zs))
        simp only [show (ac a).1 = true from hem] at h'
        rw [h']
        have f' := fin
        exact f'
      | false =>
        obtain ⟨wn, n1, n2⟩ := narrow_step ha ww hem q1
        simp only [show (ac a).1 = false from hem, Bool.not_false, brT]
        have c1 := chains1_f lf h3 ha wn
        have c2 := chains1_f lf h3 wn ww
        rw [n1] at c1
        rw [n2] at c2
        have ea' : (false, (ac a).2.1, (ac a).2.2.1, ()) = ac a := by simp only [ac, hem]
        simp only [ea', c1, c2, bdS, Bool.not_true, brF]
        have h' := heq (toA (widen (ofA a) (ofA b) zs))
        simp only [show (ac a).1 = false from hem] at h'
        rw [h']
        exact fin
    · simp only [bneT hck, brT, awake_f, bdS]
      exact ⟨true, _, _, rfl, (fun _ => rfl), (fun h => by cases h)⟩
end Go.N
namespace Go.Q
open Go Go.N
theorem sum_of (ts : List ByteArray) : ∃ s, ∀ b ∈ ts, (tl b).length ≤ s := by
  induction ts with
  | nil => exact ⟨0, fun b hb => by simp at hb⟩
  | cons c ts ih =>
    obtain ⟨s, hs⟩ := ih
    refine ⟨s + (tl c).length, fun b hb => ?_⟩
    rcases List.mem_cons.1 hb with rfl | hb
    · omega
    · have := hs b hb; omega
theorem sum_iv (ts : List IV) : ∃ s, ∀ y ∈ ts, (tl y.2.1).length ≤ s ∧ (tl y.2.2.1).length ≤ s := by
  induction ts with
  | nil => exact ⟨0, fun b hb => by simp at hb⟩
  | cons c ts ih =>
    obtain ⟨s, hs⟩ := ih
    refine ⟨s + (tl c.2.1).length + (tl c.2.2.1).length, fun b hb => ?_⟩
    rcases List.mem_cons.1 hb with rfl | hb
    · omega
    · have := hs b hb; omega
/-- IntervalChains answers true. -/
theorem Pure.IntervalChains (x : Tys (surveyorlaw21_IntervalChains.E 0).ps) (h : Bnds (surveyorlaw21_IntervalChains.E 0).ps x) : ∃ lf, surveyorlaw21_IntervalChains.f lf x.1 x.2.1 x.2.2.1 = some (true, ()) := by
  obtain ⟨y, l, ts, ⟨⟩⟩ := x
  obtain ⟨⟨_, y1, y2, _⟩, ⟨ll, hl⟩, ⟨tll, tlb⟩, _⟩ := h
  simp only [Bnd] at y1 y2
  rw [Lib.size_eq] at y1 y2
  simp only at ll hl tll tlb
  obtain ⟨s, hs⟩ := sum_of ts
  obtain ⟨s2, hs2⟩ := sum_iv l
  obtain ⟨lf, hlf⟩ : ∃ lf, lf = 200000 + s + s2 + (tl y.2.1).length + (tl y.2.2.1).length := ⟨_, rfl⟩
  refine ⟨lf, ?_⟩
  have h3 : 200000 ≤ lf := by omega
  have hts : ∀ b ∈ ts, (tl b).length ≤ 9223372036854775807 ∧ (tl b).length ≤ lf := by
    intro b hm
    have h1 := tlb b hm
    simp only [Bnd] at h1
    rw [Lib.size_eq] at h1
    have h2 := hs b hm
    exact ⟨h1, by omega⟩
  have hli : ∀ z ∈ l, ((tl z.2.1).length ≤ 9223372036854775807 ∧ (tl z.2.1).length ≤ lf) ∧ ((tl z.2.2.1).length ≤ 9223372036854775807 ∧ (tl z.2.2.1).length ≤ lf) := by
    intro z hm
    obtain ⟨_, h1, h2, _⟩ := hl z hm
    simp only [Bnd] at h1 h2
    rw [Lib.size_eq] at h1 h2
    have := hs2 z hm
    exact ⟨⟨h1, by omega⟩, h2, by omega⟩
  rw [surveyorlaw21_IntervalChains.f, check_ref_iv lf h3 y ⟨y1, by omega⟩ ⟨y2, by omega⟩, bdS]
  by_cases hck : ck y.1 (tl y.2.1) (tl y.2.2.1) = 0
  · simp only [hck, bne_self_eq_false, Go.N.brF, awake_f, bdS]
    by_cases h1 : ((l.length : Nat) : Int) > 20
    · rw [decide_eq_true h1, brT]
    · rw [decide_eq_false h1, Go.N.brF]
      by_cases h2 : ((ts.length : Nat) : Int) > 20
      · rw [decide_eq_true h2, brT]
      · rw [decide_eq_false h2, Go.N.brF]
        obtain ⟨v, t1, t2, t3⟩ := thr_same lf h3 ts tll hts
        rw [t2, bdS]
        by_cases hv : v = 0
        · obtain ⟨zs, rfl, hz, hzl, _⟩ := t3 hv
          subst hv
          obtain ⟨a, ea, wa⟩ := ck_wf_iv hck
          rw [List.length_map] at h2 ⊢
          obtain ⟨b, r, z, e1, e2, e3⟩ := chains_l0 lf h3 zs hz (by omega) t1 l (by omega) hli l.length (lf + 40) 0 a 0 (by omega) (by omega) wa (by have := phi_le zs a; omega)
          rw [ea]
          simp only [bne_self_eq_false, Go.N.brF]
          rw [show ((0 : Nat) : Int) = 0 from rfl] at e1
          rw [e1, bdS]
          cases b with
          | true => simp only [brT]; rw [e2 rfl]
          | false =>
            simp only [Go.N.brF]
            have h4 := e3 rfl
            rw [w64 (n := 2 * ((zs.length : Nat) : Int)) (by omega) (by omega), w64 (by omega) (by omega), decide_eq_true h4, brT]
        · simp only [bneT hv, brT]
  · simp only [bneT hck, brT, awake_f, bdS]
end Go.Q
namespace Go.Q
open Go Go.RowKit Go.ChangeShapes Go.WideShapes Go.Proofs Go.Proofs.YthfphcemoehllaaGreatDoor
set_option maxRecDepth 100000
/-- The call of 'surveyor/surveyorlaw21.IntervalChains' under what the row lists. -/
theorem intervalChains_call {H : Type} {enc : TypeId × Value → H} {W : World} {base : Nat} {args : Array Value} {ds gs : List (DataW H)} {before : List MemPlace}
    (hval : ∀ (j : Nat) (t : TypeId) (v : Value), Tryz.f4.params[j]? = some t → args[j]? = some v → Value.okWide Tryz.prog W .any base t v)
    (hW : DataW.Whole enc Tryz.prog Tryz.f4.params.toList Rows.intervalChainsSpec.vars false W args.toList ds gs before) (hL : laidMetH Tryz.prog Rows.intervalChainsRow.laid W) :
    Calls Tryz.prog 4 args W fun e W' => ∃ v, e = .returned v ∧ Rows.intervalChainsSpec.post enc Tryz.prog Tryz.f4 false true false false W args v W' :=
  law_post (Ts := [(.pair .bool (.pair .str (.pair .str .unit))), (.sl (.pair .bool (.pair .str (.pair .str .unit)))), (.sl .str)]) (f := fun lf x => surveyorlaw21_IntervalChains.f lf x.1 x.2.1 x.2.2.1) (by kernel_rfl) (fun lf => surveyorlaw21_IntervalChains.ok lf) (by kernel_rfl) (by kernel_rfl) (rt := 4) (by kernel_rfl) (by kernel_rfl) rfl
    (fun ds hl => by
      have hk : ds.length = 3 := hl.trans (by kernel_rfl)
      match ds, hk with
      | [d0, d1, d2], _ => rfl)
    Pure.IntervalChains hval hW
    (tabG_of_laid (laid := Rows.intervalChainsRow.laid) (rest := []) (g := 5) (t := 248) (e := 218) (n := 20) (by kernel_rfl) (by kernel_rfl) (by kernel_rfl) (by kernel_rfl) (by kernel_rfl) (by kernel_rfl) (by kernel_rfl) (by kernel_rfl) hL)
theorem intervalChains_own : ownKnob Tryz.prog.godebug = none := by kernel_rfl
theorem intervalChains_lifted (os : Os) (started : os.Started) (H : Type) (enc : TypeId × Value → H) :
    ReturnsInHanded {} Tryz.checked os 4 .any (fun w args => (Rows.intervalChainsSpec.pre enc Tryz.prog Tryz.f4 Rows.intervalChainsRow.domain false w args ∧ laidMetH Tryz.prog Rows.intervalChainsRow.laid w) ∧ sizedMet enc Tryz.prog Tryz.f4 (OpenSpec.ofChange Rows.intervalChainsSpec) false w args)
      (Rows.intervalChainsSpec.post enc Tryz.prog Tryz.f4 false true false false) := by
  refine returnsInHanded_of_change_and (C := Tryz.checked) (X := fun w _ => laidMetH Tryz.prog Rows.intervalChainsRow.laid w) (fun _ _ _ hh h => h.of_heap hh) intervalChains_own started (by kernel_rfl) Tryz.func4
    (ChangeSpec.witness_shaped (enc := enc) (C := Tryz.checked) (os := os) (X := fun w _ => laidMetH Tryz.prog Rows.intervalChainsRow.laid w) false (World.laidAll Tryz.prog os Rows.intervalChainsRow.laid) #[(.agg #[.bool false, .string ByteArray.empty, .string ByteArray.empty]), .slice none 0 0, .slice none 0 0] 8 (World.laidAll_os _ _ _)
      (World.shaped_of_ZipB (by kernel_rfl) (by kernel_rfl)) (by kernel_rfl) (by kernel_rfl) (by kernel_rfl)
      (by rw [MakeChecks.laidMetH_plain _ _ _ (by kernel_rfl)]; exact laidMet_laidAll _ (by kernel_rfl) (by kernel_rfl))) ?_
  intro W base args ds gs before hval hW _ _ hL _
  exact intervalChains_call hval hW hL
theorem intervalChains_holds : Rows.intervalChainsRow.holds Tryz.pinned (OpenSpec.ofChange Rows.intervalChainsSpec) :=
  OpenClaim.holds_of_wide 4 Tryz.f4 rfl rfl rfl rfl rfl rfl rfl ⟨rfl, rfl, rfl, rfl, rfl⟩ rfl rfl rfl rfl rfl (by kernel_rfl) Tryz.func4 (by kernel_rfl)
    (of_decide_eq_true (by kernel_rfl)) (by unfold Func.isWrapper; first | (rw [if_pos (by decide +kernel)]; kernel_rfl) | (rw [if_neg (by decide +kernel)]; exact ⟨rfl, rfl⟩))
    (fun os started H enc _ => intervalChains_lifted os started H enc)
end Go.Q
namespace Go.Proofs.YthfphcemoehllaaGreatDoor
open Go
theorem intervalChains_card_holds : Rows.IntervalChainsCardSaid :=
  Claim7.holds_tied_plain_at .later [] [.data, .data, .data, .data, .sentinel, .sentinel, .pinned] true (true, "200e0d0247193c78fa2dcac0056ddea2c2186019dbd2e8568f94680fda8a5131") true Go.Q.intervalChains_holds (fun _ h => by cases h) (by kernel_rfl) (fun _ h => by cases h) intervalChains_row_tie rfl ⟨rfl, rfl⟩ (by kernel_rfl) rfl
    (fun f fn hf hfn => by
      obtain rfl : f = 4 := Option.some.inj ((show Tryz.prog.funcNamed "surveyor/surveyorlaw21.IntervalChains" = some 4 by kernel_rfl).symm.trans hf) |>.symm
      obtain rfl : fn = Tryz.f4 := (Option.some.inj (Tryz.func4.symm.trans hfn)).symm
      exact ⟨by kernel_rfl, fun j t ht => by
        have hall : (Tryz.f4.params.toList.all fun u => !Tryz.prog.wantsStandIn u) = true := by kernel_rfl
        have hm : t ∈ Tryz.f4.params.toList := by
          rw [← Array.getElem?_toList] at ht
          exact List.mem_of_getElem? ht
        exact (show Tryz.prog.wantsStandIn t = false by simpa using List.all_eq_true.1 hall t hm)⟩)
    (by kernel_rfl)
#print axioms intervalChains_card_holds
end Go.Proofs.YthfphcemoehllaaGreatDoor
