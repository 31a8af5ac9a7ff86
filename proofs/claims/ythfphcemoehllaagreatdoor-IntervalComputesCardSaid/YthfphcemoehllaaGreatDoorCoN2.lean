import Derived.KernelRfl
import Derived.Test.YthfphcemoehllaaGreatDoorChecked
import Derived.ProofKit
import Derived.OpenShut
import Derived.LaidMore
import Derived.Lay
import Derived.Carry
import Derived.SevenTiedAt
import Derived.Stop.Joined
import Derived.Lib.LaidTab
import Derived.LaidSub
import Derived.Test.YthfphcemoehllaaGreatDoorCoG17
import Derived.Test.YthfphcemoehllaaGreatDoorCoG18
import Derived.Test.YthfphcemoehllaaGreatDoorCoN1
import Derived.Test.YthfphcemoehllaaGreatDoorE2
set_option linter.unusedVariables false
set_option linter.unusedSimpArgs false
set_option linter.unusedSectionVars false
namespace Go.N
open Go Go.Q Go.Rx
set_option linter.unusedVariables false
set_option linter.unusedSimpArgs false
def xover : X → X → X
 | .fin a, .fin b => .fin (a.fdiv b)
 | .fin a, _ => if a < 0 then .fin (-1) else .fin 0
 | x, _ => x
theorem quo_small (lf : Nat) (hlf : 2000000000 ≤ lf) {x y : Int} (hx : -K < x ∧ x < K) (hy : -K < y ∧ y < K) (h0 : y ≠ 0) : bigint_Quo.f lf (bs (Lib.itoa x)) (bs (Lib.itoa y)) = some (bs (Lib.itoa (x.fdiv y)), 0, ()) := by
 rw [quo_f lf hlf _ _ (chkK hx) (chkK hy), iv_itoa, iv_itoa, if_neg h0]
theorem rem_small (lf : Nat) (hlf : 2000000000 ≤ lf) {x y : Int} (hx : -K < x ∧ x < K) (hy : -K < y ∧ y < K) (h0 : y ≠ 0) : bigint_Rem.f lf (bs (Lib.itoa x)) (bs (Lib.itoa y)) = some (bs (Lib.itoa (x.fmod y)), 0, ()) := by
 rw [rem_f lf hlf _ _ (chkK hx) (chkK hy), iv_itoa, iv_itoa, if_neg h0]
theorem sg_key (x : X) : (sg x < 0 ↔ key x < 0) ∧ (sg x = 0 ↔ key x = 0) ∧ (0 < sg x ↔ 0 < key x) := by
 have := K_gt
 cases x with
 | ni => simp only [sg, key]; omega
 | pi => simp only [sg, key]; omega
 | fin z => simp only [sg, key, sgn]; (repeat' split) <;> omega
theorem over_x (lf : Nat) (hlf : 2000000000 ≤ lf) {x y : X} (hx : okx C x) (hy : okx C y) (h0 : y ≠ .fin 0) : interval_over.f lf (xc x) (xc y) = some (xc (xover x y), ()) := by
 have hK := C_lt_K
 rw [interval_over.f]
 cases x with
 | ni => exact (brT _ _).trans rfl
 | pi => exact (brT _ _).trans rfl
 | fin a =>
  have s := sg_f lf (by omega) (x := .fin a) (hx.mono (Int.le_of_lt hK))
  simp only [okx] at hx
  rw [s]
  cases y with
  | fin b =>
   simp only [okx] at hy
   simp only [xc, bne_self_eq_false, brF, BEq.rfl, brT]
   rw [quo_small lf hlf (by omega) (by omega) (by intro e; exact h0 (by rw [e])), bdS, xfin_f, bdS]; rfl
  | ni =>
   simp only [xc, bne_self_eq_false, brF, bdS, show ((-1 : Int) == 0) = false from rfl, show decide (sg (.fin a) < 0) = decide (a < 0) from by have := (sg_key (.fin a)).1; simp only [decide_eq_decide]; exact this, xover]
   by_cases h : a < 0
   ·rw [decide_eq_true h, brT, if_pos h, im1, xfin_f, bdS]; rfl
   ·rw [decide_eq_false h, brF, if_neg h, i0, xfin_f, bdS]; rfl
  | pi =>
   simp only [xc, bne_self_eq_false, brF, bdS, show ((1 : Int) == 0) = false from rfl, show decide (sg (.fin a) < 0) = decide (a < 0) from by have := (sg_key (.fin a)).1; simp only [decide_eq_decide]; exact this, xover]
   by_cases h : a < 0
   ·rw [decide_eq_true h, brT, if_pos h, im1, xfin_f, bdS]; rfl
   ·rw [decide_eq_false h, brF, if_neg h, i0, xfin_f, bdS]; rfl
theorem fdiv_C {a b k : Int} (hk : 1 < k) (ha : -k < a ∧ a < k) (hb : 1 ≤ b) : -k < a.fdiv b ∧ a.fdiv b < k := by
 have m := Int.mul_fdiv_add_fmod a b
 have r0 := Int.fmod_nonneg_of_pos a (show 0 < b by omega)
 have r1 := Int.fmod_lt_of_pos a (show 0 < b by omega)
 rcases Int.lt_or_le (a.fdiv b) 0 with z | z
 ·have := Int.mul_le_mul_of_nonneg_right hb (show 0 ≤ -a.fdiv b - 1 by omega)
  have e : b * (-a.fdiv b - 1) = -(b * a.fdiv b) - b := by grind
  omega
 ·have := Int.mul_le_mul_of_nonneg_right hb z
  omega
theorem xover_ok {x y : X} (hx : okx C x) (hy : ∀ b, y = .fin b → 1 ≤ b) : okx C (xover x y) := by
 have hC := C_gt
 cases x with
 | ni => trivial
 | pi => trivial
 | fin a => cases y with
  | fin b => exact fdiv_C (by omega) hx (hy b rfl)
  | ni => simp only [xover]; split <;> simp only [okx] <;> omega
  | pi => simp only [xover]; split <;> simp only [okx] <;> omega
def posS (s : Sp) : Sp := common s ⟨.fin 1, .pi⟩
theorem one_okx {z : Int} (h1 : -10 ≤ z) (h2 : z ≤ 10) : okx C (.fin z) := by have := C_gt; simp only [okx]; omega
theorem posS_ok {s : Sp} (h : oks C s) : oks C (posS s) := common_ok h ⟨one_okx (by decide) (by decide), trivial⟩
theorem positive_f (lf : Nat) (h3 : 200000 ≤ lf) {s : Sp} (hs : oks C s) : interval_span_positive.f lf (sc s) = some (sc (posS s), ()) := by
 rw [interval_span_positive.f, i1, xfin_f, bdS, inf_f, bdS]
 have := common_f lf h3 hs.K (t := ⟨.fin 1, .pi⟩) ⟨(one_okx (by decide) (by decide)).mono (Int.le_of_lt C_lt_K), trivial⟩
 rw [show ((xc (X.fin 1), (1, bs [], ()), ()) : EB × (EB × Unit)) = sc ⟨.fin 1, .pi⟩ from rfl, this, bdS]; rfl
theorem posS_lo {s : Sp} (he : emp (posS s) = false) (hs : oks C s) (hp : Pr s) : ∃ l, (posS s).lo = .fin l ∧ 1 ≤ l ∧ key s.lo ≤ l ∧ (∀ h, (posS s).hi = .fin h → l ≤ h) ∧ (posS s).hi = s.hi ∧ s.hi ≠ .ni := by
 have hK := C_lt_K
 have hC := C_gt
 have kl := key_le (hs.K.1)
 have kh := key_le (hs.K.2)
 obtain ⟨lo, hi⟩ := s
 unfold emp at he
 have he := of_decide_eq_false he
 simp only [posS, common] at he ⊢
 have k2 : xmin hi .pi = hi := by
  unfold xmin
  rw [show key .pi = K from rfl]
  split
  ·simp only at kh; omega
  ·rfl
 rw [k2] at he ⊢
 rw [key_max] at he
 have e1 : key (.fin 1) = 1 := rfl
 rw [e1] at he
 simp only at kl kh
 have hl : lo ≠ .pi := by
  rintro rfl
  rcases hp with h | h
  ·unfold emp at h
   simp only [decide_eq_true_eq] at h
   omega
  ·exact h.1 rfl
 have hn : hi ≠ .ni := by
  rintro rfl
  simp only [key] at he
  omega
 refine ⟨max (key lo) 1, ?_, by omega, by omega, ?_, rfl, hn⟩
 ·by_cases h : key lo < 1
  ·rw [xmax_t (show key lo < key (.fin 1) from h)]; congr 1; omega
  ·rw [xmax_f (show ¬ key lo < key (.fin 1) from h)]
   cases lo with
   | pi => exact absurd rfl hl
   | ni => exfalso; simp only [key] at h; omega
   | fin z => simp only [key] at h ⊢; congr 1; omega
 ·intro h e
  have : key hi = h := by rw [e]; rfl
  omega
theorem posS_ends {s : Sp} (he : emp (posS s) = false) (hs : oks C s) (hp : Pr s) : ∀ y, (y = (posS s).lo ∨ y = (posS s).hi) → ∀ b, y = .fin b → 1 ≤ b := by
 obtain ⟨l, e1, e2, e3, e4, e5, e6⟩ := posS_lo he hs hp
 intro y hy b hb
 rcases hy with rfl | rfl
 ·rw [e1] at hb
  injection hb with hb
  omega
 ·have := e4 b hb; omega
def quoS (s t : Sp) : Sp :=
 if emp s = true then non else
 hull (if emp (posS t) = true then non else apS xover s (posS t)) (if emp (posS (turn t)) = true then non else apS xover (turn s) (posS (turn t)))
theorem hull_non (s : Sp) (h : emp s = false ∨ s = non) : hull s non = s := by
 unfold hull
 rcases h with h | rfl
 ·rw [if_neg (by simp [h]), if_pos emp_non]
 ·rw [if_pos emp_non]
theorem emp_one (v : X) : emp (one v) = false := by unfold emp one; simp
theorem hull_emp {s t : Sp} (hs : emp s = false) (ht : emp t = false) : emp (hull s t) = false := by
 unfold hull
 rw [if_neg (by simp [hs]), if_neg (by simp [ht])]
 unfold emp at hs ht ⊢
 simp only [decide_eq_false_iff_not, key_min, key_max] at hs ht ⊢
 omega
theorem non_hull (s : Sp) : hull non s = s := by unfold hull; rw [if_pos emp_non]
theorem apS_emp {o : X → X → X} {s t : Sp} (h1 : emp s = false) (h2 : emp t = false) : emp (apS o s t) = false := by
 unfold apS
 rw [if_neg (by simp [h1]), if_neg (by simp [h2]), non_hull]
 exact hull_emp (hull_emp (hull_emp (emp_one _) (emp_one _)) (emp_one _)) (emp_one _)
set_option maxHeartbeats 4000000 in
theorem iQuo_f (lf : Nat) (hlf : 2000000000 ≤ lf) {a b : A} (ha : Wf a) (hb : Wf b) : interval_Quo.f lf (ac a) (ac b) = some (ac (toA (quoS (ofA a) (ofA b))), 0, ()) := by
 have h3 : 200000 ≤ lf := by omega
 rw [interval_Quo.f]
 have hs := ha.okC
 have ht := hb.okC
 have pt := hb.pr
 have ts := turn_ok hs
 have tt := turn_ok ht
 have et : emp (turn (ofA a)) = emp (ofA a) := emp_turn
 have so : ∀ v : X, ((xc v, xc v, ()) : EB × (EB × Unit)) = sc (one v) := fun _ => rfl
 simp only [check_wf lf h3 ha, check_wf lf h3 hb, bdS, bne_self_eq_false, brF, of_f, empty_f lf h3 hs.K, positive_f lf h3 ht, turned_f lf h3 ht.K, positive_f lf h3 tt, empty_f lf h3 (posS_ok ht).K, empty_f lf h3 (posS_ok tt).K, turned_f lf h3 hs.K, empty_f lf h3 ts.K, et, none_f, interval_f lf h3 non_ok, interval_Quo_1.f]
 unfold quoS
 generalize hS : ofA a = s at *
 generalize hT : ofA b = t at *
 have x1 : (sc s).1 = xc s.lo := rfl
 have x2 : (sc s).2.1 = xc s.hi := rfl
 have x3 : (sc (posS t)).1 = xc (posS t).lo := rfl
 have x4 : (sc (posS t)).2.1 = xc (posS t).hi := rfl
 have x5 : (sc (turn s)).1 = xc (turn s).lo := rfl
 have x6 : (sc (turn s)).2.1 = xc (turn s).hi := rfl
 have x7 : (sc (posS (turn t))).1 = xc (posS (turn t)).lo := rfl
 have x8 : (sc (posS (turn t))).2.1 = xc (posS (turn t)).hi := rfl
 have nz : ∀ {u : Sp} (h : ∀ y, (y = u.lo ∨ y = u.hi) → ∀ b, y = .fin b → 1 ≤ b), u.lo ≠ .fin 0 ∧ u.hi ≠ .fin 0 := fun h => ⟨fun e => by have := h _ (.inl rfl) 0 e; omega, fun e => by have := h _ (.inr rfl) 0 e; omega⟩
 have ov : ∀ {x y : X}, okx C x → (∀ b, y = .fin b → 1 ≤ b) → okx K (xover x y) := fun hx hy => (xover_ok hx hy).mono (Int.le_of_lt C_lt_K)
 cases e1 : emp s with
 | true => simp only [brF, brT, Bool.not_true, Bool.not_false, if_true]; cases emp (posS t) <;> simp only [brF, brT, Bool.not_true, Bool.not_false] <;> cases emp (posS (turn t)) <;> simp only [brF, brT, Bool.not_true, Bool.not_false]
 | false =>
  cases e2 : emp (posS t) with
  | true =>
   simp only [brF, brT, Bool.not_true, Bool.not_false, if_true, if_false, Bool.false_eq_true]
   cases e3 : emp (posS (turn t)) with
   | true =>
    simp only [brF, brT, Bool.not_true, Bool.not_false, if_true, if_false, Bool.false_eq_true]
    rw [non_hull]
   | false =>
    have en := posS_ends e3 tt pt.turn
    have n := nz en
    have c1 := ov ts.1 (en _ (.inl rfl))
    have c2 := ov ts.1 (en _ (.inr rfl))
    have c3 := ov ts.2 (en _ (.inl rfl))
    have c4 := ov ts.2 (en _ (.inr rfl))
    have g1 := hull_ok non_ok (one_ok c1)
    have g2 := hull_ok g1 (one_ok c2)
    have g3 := hull_ok g2 (one_ok c3)
    have g4 := hull_ok g3 (one_ok c4)
    have pk := posS_ok tt
    simp only [brF, brT, Bool.not_true, Bool.not_false, if_true, if_false, Bool.false_eq_true, x5, x6, x7, x8, over_x lf hlf ts.1 pk.1 n.1, over_x lf hlf ts.1 pk.2 n.2, over_x lf hlf ts.2 pk.1 n.1, over_x lf hlf ts.2 pk.2 n.2, bdS, so, hull_f lf h3 non_ok (one_ok c1), hull_f lf h3 g1 (one_ok c2), hull_f lf h3 g2 (one_ok c3), hull_f lf h3 g3 (one_ok c4)]
    have ea' : apS xover (turn s) (posS (turn t)) = hull (hull (hull (hull non (one (xover (turn s).lo (posS (turn t)).lo))) (one (xover (turn s).lo (posS (turn t)).hi))) (one (xover (turn s).hi (posS (turn t)).lo))) (one (xover (turn s).hi (posS (turn t)).hi)) := by
     unfold apS; rw [if_neg (by simp [et, e1]), if_neg (by simp [e3])]
    rw [← ea'] at g4 ⊢
    rw [hull_f lf h3 non_ok g4, bdS, interval_f lf h3 (hull_ok non_ok g4), bdS]
  | false =>
   have en := posS_ends e2 ht pt
   have n := nz en
   have c1 := ov hs.1 (en _ (.inl rfl))
   have c2 := ov hs.1 (en _ (.inr rfl))
   have c3 := ov hs.2 (en _ (.inl rfl))
   have c4 := ov hs.2 (en _ (.inr rfl))
   have g1 := hull_ok non_ok (one_ok c1)
   have g2 := hull_ok g1 (one_ok c2)
   have g3 := hull_ok g2 (one_ok c3)
   have g4 := hull_ok g3 (one_ok c4)
   have pk := posS_ok ht
   simp only [brF, brT, Bool.not_true, Bool.not_false, if_true, if_false, Bool.false_eq_true, x1, x2, x3, x4, over_x lf hlf hs.1 pk.1 n.1, over_x lf hlf hs.1 pk.2 n.2, over_x lf hlf hs.2 pk.1 n.1, over_x lf hlf hs.2 pk.2 n.2, bdS, so, hull_f lf h3 non_ok (one_ok c1), hull_f lf h3 g1 (one_ok c2), hull_f lf h3 g2 (one_ok c3), hull_f lf h3 g3 (one_ok c4), interval_f lf h3 g4]
   have ea : apS xover s (posS t) = hull (hull (hull (hull non (one (xover s.lo (posS t).lo))) (one (xover s.lo (posS t).hi))) (one (xover s.hi (posS t).lo))) (one (xover s.hi (posS t).hi)) := by
    unfold apS; rw [if_neg (by simp [e1]), if_neg (by simp [e2])]
   rw [← ea] at g4 ⊢
   have ne := apS_emp (o := xover) e1 e2
   cases e3 : emp (posS (turn t)) with
   | true =>
    simp only [brF, brT, Bool.not_true, Bool.not_false, if_true, if_false, Bool.false_eq_true]
    rw [hull_non _ (.inl ne)]
   | false =>
    have en' := posS_ends e3 tt pt.turn
    have n' := nz en'
    have c1' := ov ts.1 (en' _ (.inl rfl))
    have c2' := ov ts.1 (en' _ (.inr rfl))
    have c3' := ov ts.2 (en' _ (.inl rfl))
    have c4' := ov ts.2 (en' _ (.inr rfl))
    have g1' := hull_ok non_ok (one_ok c1')
    have g2' := hull_ok g1' (one_ok c2')
    have g3' := hull_ok g2' (one_ok c3')
    have g4' := hull_ok g3' (one_ok c4')
    have pk' := posS_ok tt
    simp only [brF, brT, Bool.not_true, Bool.not_false, if_true, if_false, Bool.false_eq_true, x5, x6, x7, x8, over_x lf hlf ts.1 pk'.1 n'.1, over_x lf hlf ts.1 pk'.2 n'.2, over_x lf hlf ts.2 pk'.1 n'.1, over_x lf hlf ts.2 pk'.2 n'.2, bdS, so, hull_f lf h3 non_ok (one_ok c1'), hull_f lf h3 g1' (one_ok c2'), hull_f lf h3 g2' (one_ok c3'), hull_f lf h3 g3' (one_ok c4')]
    have ea' : apS xover (turn s) (posS (turn t)) = hull (hull (hull (hull non (one (xover (turn s).lo (posS (turn t)).lo))) (one (xover (turn s).lo (posS (turn t)).hi))) (one (xover (turn s).hi (posS (turn t)).lo))) (one (xover (turn s).hi (posS (turn t)).hi)) := by
     unfold apS; rw [if_neg (by simp [et, e1]), if_neg (by simp [e3])]
    rw [← ea'] at g4' ⊢
    rw [hull_f lf h3 g4 g4', bdS, interval_f lf h3 (hull_ok g4 g4'), bdS]
def allS (c : Int) : Sp := ⟨.fin 0, .fin (c - 1)⟩
def resS (s : Sp) (c : Int) : Sp := match s.lo, s.hi with
 | .fin l, .fin h => if h - l ≥ c - 1 then allS c else if l.fmod c > h.fmod c then allS c else ⟨.fin (l.fmod c), .fin (h.fmod c)⟩
 | _, _ => allS c
theorem sgn_ge (a b : Int) : decide (sgn (a - b) ≥ 0) = decide (b ≤ a) := by
 simp only [decide_eq_decide]; unfold sgn; (repeat' split) <;> omega
theorem allS_ok {c : Int} (h1 : 1 ≤ c) (h2 : c < C) : oks C (allS c) := by
 have := C_gt
 constructor <;> simp only [allS, okx] <;> omega
theorem resS_ok {s : Sp} {c : Int} (h1 : 1 ≤ c) (h2 : c < C) : oks C (resS s c) := by
 have hC := C_gt
 unfold resS
 split
 ·rename_i l h _ _
  have a0 := Int.fmod_nonneg_of_pos l (show 0 < c by omega)
  have a1 := Int.fmod_lt_of_pos l (show 0 < c by omega)
  have b0 := Int.fmod_nonneg_of_pos h (show 0 < c by omega)
  have b1 := Int.fmod_lt_of_pos h (show 0 < c by omega)
  split
  ·exact allS_ok h1 h2
  ·split
   ·exact allS_ok h1 h2
   ·constructor <;> simp only [okx] <;> omega
 ·exact allS_ok h1 h2
theorem residues_f (lf : Nat) (hlf : 2000000000 ≤ lf) {s : Sp} (hs : oks C s) {c : Int} (h1 : 1 ≤ c) (h2 : c < C) : interval_residues.f lf (sc s) (bs (Lib.itoa c)) = some (sc (resS s c), ()) := by
 have h3 : 200000 ≤ lf := by omega
 have hC := C_gt
 have hK := CC_K
 have h4 : 0 ≤ C * C := Int.mul_nonneg (by omega) (by omega)
 have e1 := isum_f lf h3 (x := c) (y := -1) (by omega) (by omega) (by omega)
 rw [interval_residues.f, i0, im1, e1, xfin_f, bdS, bdS, xfin_f, bdS]
 have al : (((xc (.fin 0), xc (.fin (c + -1)), ()) : EB × (EB × Unit))) = sc (allS c) := by
  rw [show c + -1 = c - 1 by omega]; rfl
 obtain ⟨lo, hi⟩ := s
 cases lo with
 | ni => exact (brT _ _).trans (by simp only [resS]; rw [al])
 | pi => exact (brT _ _).trans (by simp only [resS]; rw [al])
 | fin l => cases hi with
  | ni => exact (brF _ _).trans ((brT _ _).trans (by simp only [resS]; rw [al]))
  | pi => exact (brF _ _).trans ((brT _ _).trans (by simp only [resS]; rw [al]))
  | fin h =>
   have kl : -C < l ∧ l < C := hs.1
   have kh : -C < h ∧ h < C := hs.2
   refine (brF _ _).trans ((brF _ _).trans ?_)
   simp only [sc, xc]
   have n1 := ineg_f lf h3 (z := l) (by omega)
   have s1 := isum_f lf h3 (x := h) (y := -l) (by omega) (by omega) (by omega)
   rw [n1, bdS, s1, bdS, iorder_f lf _ _ (chkK (by omega)) (chkK (by omega)) h3, bdS, iv_itoa, iv_itoa]
   simp only [resS, sgn_ge]
   by_cases c1 : h - l ≥ c - 1
   ·rw [decide_eq_true (by omega), brT, if_pos c1]
    exact congrArg (fun x => some (x, ())) al
   ·rw [decide_eq_false (by omega), brF, if_neg c1]
    have a0 := Int.fmod_nonneg_of_pos l (show 0 < c by omega)
    have a1 := Int.fmod_lt_of_pos l (show 0 < c by omega)
    have b0 := Int.fmod_nonneg_of_pos h (show 0 < c by omega)
    have b1 := Int.fmod_lt_of_pos h (show 0 < c by omega)
    rw [rem_small lf hlf (by omega) (by omega) (by omega), bdS, rem_small lf hlf (by omega) (by omega) (by omega), bdS, iorder_f lf _ _ (chkK (by omega)) (chkK (by omega)) h3, bdS, iv_itoa, iv_itoa]
    simp only [sgn_gt]
    by_cases c2 : l.fmod c > h.fmod c
    ·rw [decide_eq_true (by omega), brT, if_pos c2]
     exact congrArg (fun x => some (x, ())) al
    ·rw [decide_eq_false (by omega), brF, if_neg c2, xfin_f, bdS, xfin_f, bdS]
     rfl
def remI (s t : Sp) : Sp := if single t = true then resS s (valX t.lo) else if 0 ≤ key s.lo ∧ key s.hi < key t.lo then s else
 ⟨.fin 0, if 0 ≤ key s.lo then xmin (xsh t.hi (-1)) s.hi else xsh t.hi (-1)⟩
theorem valX_C {x : X} (h : okx C x) : valX x < C := by have := C_gt; cases x <;> simp only [valX, okx] at * <;> omega
theorem xsh_C {x : X} (hx : okx C x) (h : ∀ z, x = .fin z → 1 ≤ z) : okx C (xsh x (-1)) := by
 have := C_gt
 cases x with
 | fin z => have := h z rfl; simp only [xsh, okx] at *; omega
 | ni => trivial
 | pi => trivial
theorem remI_ok {s t : Sp} (hs : oks C s) (ht : oks C t) (hp : ∀ y, (y = t.lo ∨ y = t.hi) → ∀ b, y = .fin b → 1 ≤ b) : oks C (remI s t) := by
 have h0 : okx C (.fin 0) := one_okx (by decide) (by decide)
 unfold remI
 split
 ·rename_i e
  have := single_lo e
  exact resS_ok (hp _ (.inl rfl) _ this) (valX_C ht.1)
 ·split
  ·exact hs
  ·refine ⟨h0, ?_⟩
   have := xsh_C ht.2 (hp _ (.inr rfl))
   simp only
   split
   ·exact xmin_ok this hs.2
   ·exact this
theorem remainders_f (lf : Nat) (hlf : 2000000000 ≤ lf) {s t : Sp} (hs : oks C s) (ht : oks C t) (hp : ∀ y, (y = t.lo ∨ y = t.hi) → ∀ b, y = .fin b → 1 ≤ b) : interval_remainders.f lf (sc s) (sc t) = some (sc (remI s t), ()) := by
 have h3 : 200000 ≤ lf := by omega
 have x1 : (sc s).1 = xc s.lo := rfl
 have x2 : (sc s).2.1 = xc s.hi := rfl
 have x3 : (sc t).1 = xc t.lo := rfl
 have x4 : (sc t).2.1 = xc t.hi := rfl
 rw [interval_remainders.f, single_f, bdS]
 unfold remI
 cases e : single t with
 | true =>
  have el := single_lo e
  have h1 := hp _ (.inl rfl) _ el
  rw [brT, if_pos rfl]
  have ex : (sc t).1.2.1 = bs (Lib.itoa (valX t.lo)) := by rw [x3, el]; rfl
  rw [ex, residues_f lf hlf hs h1 (valX_C ht.1), bdS]
 | false =>
  rw [brF, if_neg (by simp)]
  obtain ⟨cc, c1, c2, c3⟩ := cmp_f lf h3 hs.K.2 ht.K.1
  have sh := shifted_f lf h3 ht.2 (d := -1) (by decide) (by decide)
  have hx := xsh_C ht.2 (hp _ (.inr rfl))
  have g := sg_key s.lo
  have ge : decide (sg s.lo ≥ 0) = decide (0 ≤ key s.lo) := by simp only [decide_eq_decide]; omega
  have cg : decide (cc < 0) = decide (key s.hi < key t.lo) := by simp only [decide_eq_decide]; omega
  simp only [x1, x2, x3, x4, sg_f lf h3 hs.K.1, bdS, ge, c1, im1, sh, least_f lf h3 (hx.mono (Int.le_of_lt C_lt_K)) hs.K.2, i0, xfin_f, cg]
  by_cases h0 : 0 ≤ key s.lo <;> by_cases hlt : key s.hi < key t.lo <;> simp only [h0, hlt, decide_true, decide_false, brT, brF, if_true, if_false, and_self, and_true, and_false, false_and] <;> rfl
def remS (s t : Sp) : Sp :=
 if emp s = true then non else
 if emp (posS t) = true then (if emp (posS (turn t)) = true then non else turn (remI (turn s) (posS (turn t)))) else
 if emp (posS (turn t)) = true then remI s (posS t) else hull (remI s (posS t)) (turn (remI (turn s) (posS (turn t))))
theorem iRem_f (lf : Nat) (hlf : 2000000000 ≤ lf) {a b : A} (ha : Wf a) (hb : Wf b) : interval_Rem.f lf (ac a) (ac b) = some (ac (toA (remS (ofA a) (ofA b))), 0, ()) := by
 have h3 : 200000 ≤ lf := by omega
 rw [interval_Rem.f]
 have hs := ha.okC
 have ht := hb.okC
 have pt := hb.pr
 have ts := turn_ok hs
 have tt := turn_ok ht
 simp only [check_wf lf h3 ha, check_wf lf h3 hb, bdS, bne_self_eq_false, brF, of_f, empty_f lf h3 hs.K, positive_f lf h3 ht, turned_f lf h3 ht.K, positive_f lf h3 tt, empty_f lf h3 (posS_ok ht).K, empty_f lf h3 (posS_ok tt).K, turned_f lf h3 hs.K, none_f, interval_f lf h3 non_ok]
 unfold remS
 generalize ofA a = s at *
 generalize ofA b = t at *
 cases e1 : emp s with
 | true => simp only [brF, brT, Bool.not_true, Bool.not_false, if_true]; cases emp (posS t) <;> simp only [brF, brT, Bool.not_true, Bool.not_false] <;> cases emp (posS (turn t)) <;> simp only [brF, brT, Bool.not_true, Bool.not_false]
 | false =>
  cases e2 : emp (posS t) with
  | true =>
   simp only [brF, brT, Bool.not_true, Bool.not_false, if_true, if_false, Bool.false_eq_true]
   cases e3 : emp (posS (turn t)) with
   | true => simp only [brF, brT, Bool.not_true, Bool.not_false, if_true, if_false, Bool.false_eq_true]
   | false =>
    have en := posS_ends e3 tt pt.turn
    have k1 := remI_ok ts (posS_ok tt) en
    have k2 := turn_ok k1
    simp only [brF, brT, Bool.not_true, Bool.not_false, if_true, if_false, Bool.false_eq_true, remainders_f lf hlf ts (posS_ok tt) en, bdS, turned_f lf h3 k1.K, hull_f lf h3 non_ok k2.K, non_hull, interval_f lf h3 k2.K]
  | false =>
   have en := posS_ends e2 ht pt
   have k3 := remI_ok hs (posS_ok ht) en
   simp only [brF, brT, Bool.not_true, Bool.not_false, if_true, if_false, Bool.false_eq_true, remainders_f lf hlf hs (posS_ok ht) en, bdS]
   cases e3 : emp (posS (turn t)) with
   | true => simp only [brF, brT, Bool.not_true, Bool.not_false, if_true, if_false, Bool.false_eq_true, interval_f lf h3 k3.K, bdS]
   | false =>
    have en' := posS_ends e3 tt pt.turn
    have k1 := remI_ok ts (posS_ok tt) en'
    have k2 := turn_ok k1
    simp only [brF, brT, Bool.not_true, Bool.not_false, if_true, if_false, Bool.false_eq_true, remainders_f lf hlf ts (posS_ok tt) en', bdS, turned_f lf h3 k1.K, hull_f lf h3 k3.K k2.K, interval_f lf h3 (hull_ok k3.K k2.K)]
end Go.N
namespace Go.N
open Go Go.Q Go.Rx
set_option linter.unusedVariables false
set_option linter.unusedSimpArgs false
set_option linter.unusedSectionVars false
theorem szC {z : Int} (h : -C < z ∧ z < C) : sz z ≤ 100 := (sz_C z).2 h
theorem signI (lf : Nat) (z : Int) : surveyorref01_Sign.f lf (bs (Lib.itoa z)) = some (sgn z, ()) := by rw [sign_ref lf _ (can_itoa z), iv_itoa]
theorem floorI (lf : Nat) (h3 : 200000 ≤ lf) {x y : Int} (hx : -C < x ∧ x < C) (hy : -C < y ∧ y < C) (h0 : y ≠ 0) : surveyorref01_Floor.f lf (bs (Lib.itoa x)) (bs (Lib.itoa y)) = some (bs (Lib.itoa (x.fdiv y)), ()) := by
 have := szC hx
 have := szC hy
 exact Floor_ref lf h3 (by omega) (by omega) h0
theorem restI (lf : Nat) (h3 : 200000 ≤ lf) {x y : Int} (hx : -C < x ∧ x < C) (hy : -C < y ∧ y < C) (h0 : y ≠ 0) : surveyorref01_Rest.f lf (bs (Lib.itoa x)) (bs (Lib.itoa y)) = some (bs (Lib.itoa (x.fmod y)), ()) := by
 have := szC hx
 have := szC hy
 exact rest_ref lf h3 (by omega) (by omega) h0
theorem szK {z : Int} (h : -K < z ∧ z < K) : sz z ≤ 4096 := (sz_K z).2 h
theorem sumI (lf : Nat) (h3 : 200000 ≤ lf) {x y : Int} (hx : -K < x ∧ x < K) (hy : -K < y ∧ y < K) : surveyorref01_Sum.f lf (bs (Lib.itoa x)) (bs (Lib.itoa y)) = some (bs (Lib.itoa (x + y)), ()) := by
 have := szK hx
 have := szK hy
 exact sum_ref lf h3 (by omega) (by omega)
theorem diffI (lf : Nat) (h3 : 200000 ≤ lf) {x y : Int} (hx : -K < x ∧ x < K) (hy : -K < y ∧ y < K) : surveyorref01_Diff.f lf (bs (Lib.itoa x)) (bs (Lib.itoa y)) = some (bs (Lib.itoa (x - y)), ()) := by
 have := szK hx
 have := szK hy
 exact diff_ref lf h3 (by omega) (by omega)
theorem productI (lf : Nat) (h3 : 200000 ≤ lf) {x y : Int} (hx : -K < x ∧ x < K) (hy : -K < y ∧ y < K) : surveyorref01_Product.f lf (bs (Lib.itoa x)) (bs (Lib.itoa y)) = some (bs (Lib.itoa (x * y)), ()) := by
 have := szK hx
 have := szK hy
 exact product_ref lf h3 (by omega) (by omega)
theorem CK {z : Int} (h : -C < z ∧ z < C) : -K < z ∧ z < K := by have := C_lt_K; omega
theorem mkA {s : Sp} (h : oks C s) (p : Pr s) : Wf (toA s) ∧ ofA (toA s) = if emp s = true then non else s := by
 refine ⟨toA_wf h.K p, ?_⟩
 by_cases e : emp s = true
 ·rw [if_pos e]
  have : toA s = E0 := by unfold toA; rw [if_pos e]; rfl
  rw [this]; rfl
 ·rw [if_neg e]
  have p' := p.resolve_left e
  exact ofA_toA h (by simpa using e) p'.1 p'.2
theorem toA_emp {s : Sp} (h : emp s = true) : toA s = E0 := by unfold toA; rw [if_pos h]; rfl
def addO : Option Int → Option Int → Option Int
 | some a, some b => some (a + b)
 | _, _ => none
theorem rsumO (lf : Nat) (h3 : 200000 ≤ lf) {x y : Option Int} (hx : okb C x) (hy : okb C y) : surveyorref21_sum.f lf (ob x) (ob y) = some (ob (addO x y), ()) := by
 rw [surveyorref21_sum.f, ob_beq, ob_beq]
 cases x with
 | none => simp only [decide_true, brT]; rfl
 | some a => cases y with
  | none => simp only [decide_true, brT, reduceCtorEq, decide_false, brF]; rfl
  | some b =>
   simp only [reduceCtorEq, decide_false, brF]
   have e := sumI lf h3 (CK hx) (CK hy)
   rw [show ob (some a) = bs (Lib.itoa a) from rfl, show ob (some b) = bs (Lib.itoa b) from rfl, e, bdS]; rfl
theorem addO_ok {x y : Option Int} (hx : okb C x) (hy : okb C y) : okb K (addO x y) := by
 have hK := CC_K
 have hC := C_gt
 have h4 : 0 ≤ C * C := Int.mul_nonneg (by omega) (by omega)
 cases x <;> cases y <;> simp only [addO, okb] at * <;> omega
theorem plus_A (lf : Nat) (h3 : 200000 ≤ lf) {a b : A} (ha : Wf a) (hb : Wf b) : surveyorref21_Plus.f lf (ac a) (ac b) = some (ac (toA (addS (ofA a) (ofA b))), ()) := by
 rw [surveyorref21_Plus.f]
 unfold addS
 rw [emp_ofA ha, emp_ofA hb]
 cases ea : a.em with
 | true => simp only [ac, ea, brT, surveyorref21_None.f, bdS, if_true, toA_non]; rfl
 | false => cases eb : b.em with
  | true => simp only [ac, ea, eb, brT, brF, surveyorref21_None.f, bdS, if_true, if_false, Bool.false_eq_true, toA_non]; rfl
  | false =>
   simp only [ac, ea, eb, brF, if_false, Bool.false_eq_true]
   rw [rsumO lf h3 ha.lo hb.lo, bdS, rsumO lf h3 ha.hi hb.hi, bdS, range_f lf h3 _ _ (addO_ok ha.lo hb.lo) (addO_ok ha.hi hb.hi), bdS]
   have e1 : lox (addO a.lo b.lo) = xadd (ofA a).lo (ofA b).lo := by
    unfold ofA; rw [if_neg (by simp [ea]), if_neg (by simp [eb])]
    cases a.lo <;> cases b.lo <;> rfl
   have e2 : hix (addO a.hi b.hi) = xadd (ofA a).hi (ofA b).hi := by
    unfold ofA; rw [if_neg (by simp [ea]), if_neg (by simp [eb])]
    cases a.hi <;> cases b.hi <;> rfl
   rw [e1, e2]; rfl
theorem turnA {a : A} (h : Wf a) : Wf (toA (turn (ofA a))) ∧ ofA (toA (turn (ofA a))) = turn (ofA a) := by
 have m := mkA (turn_ok h.okC) h.pr.turn
 refine ⟨m.1, ?_⟩
 rw [m.2]
 split
 ·rename_i e
  rw [emp_turn] at e
  unfold turn; rw [if_pos e]
 ·rfl
theorem minus_A (lf : Nat) (h3 : 200000 ≤ lf) {a b : A} (ha : Wf a) (hb : Wf b) : surveyorref21_Minus.f lf (ac a) (ac b) = some (ac (toA (addS (ofA a) (turn (ofA b)))), ()) := by
 have t := turnA hb
 rw [surveyorref21_Minus.f, turned_ref lf h3 hb, bdS, plus_A lf h3 ha t.1, bdS, t.2]
def negS (s : Sp) : Sp := common s ⟨.ni, .fin (-1)⟩
def zerS (s : Sp) : Sp := common s ⟨.fin 0, .fin 0⟩
theorem split_A (lf : Nat) (h3 : 200000 ≤ lf) {a : A} (ha : Wf a) : surveyorref21_split.f lf (ac a) = some ([ac (toA (negS (ofA a))), ac (toA (zerS (ofA a))), ac (toA (posS (ofA a)))], ()) := by
 have hC := C_gt
 have hK := C_lt_K
 have okm : okb K (some (-1)) := by simp only [okb]; omega
 have ok0 : okb K (some 0) := by simp only [okb]; omega
 have ok1 : okb K (some 1) := by simp only [okb]; omega
 have r1 := range_f lf h3 none (some (-1)) trivial okm
 have r2 := range_f lf h3 (some 0) (some 0) ok0 ok0
 have r3 := range_f lf h3 (some 1) none ok1 trivial
 have mk : ∀ s : Sp, oks C s → emp s = false → s.lo ≠ .pi → s.hi ≠ .ni → Wf (toA s) ∧ ofA (toA s) = s := fun s h e p q => by
  have m := mkA h (.inr ⟨p, q⟩)
  rw [e, if_neg (by simp)] at m
  exact m
 have m1 := mk ⟨.ni, .fin (-1)⟩ ⟨trivial, one_okx (by decide) (by decide)⟩ (decide_eq_false (show ¬ (-K > -1) by omega)) (by simp) (by simp)
 have m2 := mk ⟨.fin 0, .fin 0⟩ ⟨one_okx (by decide) (by decide), one_okx (by decide) (by decide)⟩ (by unfold emp; simp [key]) (by simp) (by simp)
 have m3 := mk ⟨.fin 1, .pi⟩ ⟨one_okx (by decide) (by decide), trivial⟩ (decide_eq_false (show ¬ ((1 : Int) > K) by omega)) (by simp) (by simp)
 have q1 : surveyorref21_Range.f lf (⟨#[]⟩ : ByteArray) (bs (Lib.itoa (-1))) = some (ac (toA ⟨.ni, .fin (-1)⟩), ()) := r1
 have q2 : surveyorref21_Range.f lf (bs (Lib.itoa 0)) (bs (Lib.itoa 0)) = some (ac (toA ⟨.fin 0, .fin 0⟩), ()) := r2
 have q3 : surveyorref21_Range.f lf (bs (Lib.itoa 1)) (⟨#[]⟩ : ByteArray) = some (ac (toA ⟨.fin 1, .pi⟩), ()) := r3
 rw [surveyorref21_split.f, im1, q1, bdS, met_ref lf h3 ha m1.1, bdS, surveyorref21_One.f, i0, q2, bdS, bdS, met_ref lf h3 ha m2.1, bdS, i1, q3, bdS, met_ref lf h3 ha m3.1, bdS, m1.2, m2.2, m3.2]
 rfl
theorem hullNE {s t : Sp} (hs : emp s = false) (ht : emp t = false) : hull s t = ⟨xmin s.lo t.lo, xmax s.hi t.hi⟩ := by
 unfold hull; rw [if_neg (by simp [hs]), if_neg (by simp [ht])]
theorem apS_char {o : X → X → X} {s t : Sp} (hs : emp s = false) (ht : emp t = false) (ok : ∀ x y, (x = s.lo ∨ x = s.hi) → (y = t.lo ∨ y = t.hi) → okx K (o x y))
  {L H : X} (l1 : ∃ x y, (x = s.lo ∨ x = s.hi) ∧ (y = t.lo ∨ y = t.hi) ∧ L = o x y) (l2 : ∀ x y, (x = s.lo ∨ x = s.hi) → (y = t.lo ∨ y = t.hi) → key L ≤ key (o x y))
  (g1 : ∃ x y, (x = s.lo ∨ x = s.hi) ∧ (y = t.lo ∨ y = t.hi) ∧ H = o x y) (g2 : ∀ x y, (x = s.lo ∨ x = s.hi) → (y = t.lo ∨ y = t.hi) → key (o x y) ≤ key H) : apS o s t = ⟨L, H⟩ := by
 unfold apS
 rw [if_neg (by simp [hs]), if_neg (by simp [ht]), non_hull, hullNE (emp_one _) (emp_one _)]
 have e1 := emp_one (o s.lo t.lo)
 have e2 := emp_one (o s.lo t.hi)
 have e3 := emp_one (o s.hi t.lo)
 have e4 := emp_one (o s.hi t.hi)
 have n1 := hull_emp e1 e2
 rw [hullNE e1 e2] at n1
 rw [hullNE n1 e3]
 have n2 := hull_emp n1 e3
 rw [hullNE n1 e3] at n2
 rw [hullNE n2 e4]
 have a1 := ok _ _ (.inl rfl) (.inl rfl)
 have a2 := ok _ _ (.inl rfl) (.inr rfl)
 have a3 := ok _ _ (.inr rfl) (.inl rfl)
 have a4 := ok _ _ (.inr rfl) (.inr rfl)
 have b1 := l2 _ _ (.inl rfl) (.inl rfl)
 have b2 := l2 _ _ (.inl rfl) (.inr rfl)
 have b3 := l2 _ _ (.inr rfl) (.inl rfl)
 have b4 := l2 _ _ (.inr rfl) (.inr rfl)
 have c1 := g2 _ _ (.inl rfl) (.inl rfl)
 have c2 := g2 _ _ (.inl rfl) (.inr rfl)
 have c3 := g2 _ _ (.inr rfl) (.inl rfl)
 have c4 := g2 _ _ (.inr rfl) (.inr rfl)
 have okL : okx K L := by obtain ⟨x, y, hx, hy, rfl⟩ := l1; exact ok x y hx hy
 have okH : okx K H := by obtain ⟨x, y, hx, hy, rfl⟩ := g1; exact ok x y hx hy
 have m1 : key L = min (min (min (key (o s.lo t.lo)) (key (o s.lo t.hi))) (key (o s.hi t.lo))) (key (o s.hi t.hi)) := by
  obtain ⟨x, y, hx, hy, rfl⟩ := l1
  rcases hx with rfl | rfl <;> rcases hy with rfl | rfl <;> omega
 have m2 : key H = max (max (max (key (o s.lo t.lo)) (key (o s.lo t.hi))) (key (o s.hi t.lo))) (key (o s.hi t.hi)) := by
  obtain ⟨x, y, hx, hy, rfl⟩ := g1
  rcases hx with rfl | rfl <;> rcases hy with rfl | rfl <;> omega
 congr 1
 ·apply key_inj (xmin_ok (xmin_ok (xmin_ok a1 a2) a3) a4) okL
  simp only [one, key_min]; omega
 ·apply key_inj (xmax_ok (xmax_ok (xmax_ok a1 a2) a3) a4) okH
  simp only [one, key_max]; omega
def Po : X → Prop
 | .fin b => 1 ≤ b
 | .pi => True
 | .ni => False
theorem fdiv_mono {a a' b : Int} (hb : 1 ≤ b) (h : a ≤ a') : a.fdiv b ≤ a'.fdiv b := by
 rw [Int.fdiv_eq_ediv_of_nonneg _ (by omega), Int.fdiv_eq_ediv_of_nonneg _ (by omega)]
 exact Int.ediv_le_ediv (by omega) h
theorem fdiv_nn {a b : Int} (hb : 1 ≤ b) (h : 0 ≤ a) : 0 ≤ a.fdiv b := by
 have := fdiv_mono (a := 0) hb h
 rwa [Int.zero_fdiv] at this
theorem fdiv_ng {a b : Int} (hb : 1 ≤ b) (h : a < 0) : a.fdiv b ≤ -1 := by
 have m := Int.mul_fdiv_add_fmod a b
 have r0 := Int.fmod_nonneg_of_pos a (show 0 < b by omega)
 by_cases z : a.fdiv b ≤ -1
 ·exact z
 ·have := Int.mul_nonneg (show 0 ≤ b by omega) (show 0 ≤ a.fdiv b by omega); omega
theorem xo_mono {x x' y : X} (hx : okx C x) (hx' : okx C x') (hy : Po y) (h : key x ≤ key x') : key (xover x y) ≤ key (xover x' y) := by
 have hK := C_lt_K
 have hC := C_gt
 have po : ∀ b, y = .fin b → 1 ≤ b := fun b e => by subst e; exact hy
 have k1 := key_le ((xover_ok hx po).mono (Int.le_of_lt hK))
 have k2 := key_le ((xover_ok hx' po).mono (Int.le_of_lt hK))
 cases x with
 | ni => exact k2.1
 | pi => cases x' with
  | pi => exact Int.le_refl _
  | ni => simp only [key] at h; omega
  | fin z => simp only [key, okx] at h hx'; omega
 | fin z => cases x' with
  | pi => exact k1.2
  | ni => simp only [key, okx] at h hx; omega
  | fin w =>
   simp only [key] at h
   cases y with
   | ni => exact hy.elim
   | fin b => exact fdiv_mono hy h
   | pi => simp only [xover]; split <;> split <;> simp only [key] <;> omega
theorem xo_neg {x y y' : X} (hx : okx C x) (hy : Po y) (hy' : Po y') (oy : okx C y) (oy' : okx C y') (h : key y ≤ key y') (hn : key x < 0) : key (xover x y) ≤ key (xover x y') := by
 have hK := C_lt_K
 have hC := C_gt
 cases x with
 | ni => exact Int.le_refl _
 | pi => simp only [key] at hn; omega
 | fin z =>
  simp only [key] at hn
  cases y with
  | ni => exact hy.elim
  | pi => cases y' with
   | ni => exact hy'.elim
   | pi => exact Int.le_refl _
   | fin b => simp only [key, okx] at h oy'; omega
  | fin b => cases y' with
   | ni => exact hy'.elim
   | pi =>
    simp only [xover]; rw [if_pos hn]; exact fdiv_ng hy hn
   | fin c =>
    simp only [key] at h
    simp only [xover, key]
    have m := Int.mul_fdiv_add_fmod z b
    have m' := Int.mul_fdiv_add_fmod z c
    have r0 := Int.fmod_nonneg_of_pos z (show 0 < b by have : 1 ≤ b := hy; omega)
    have r1 := Int.fmod_lt_of_pos z (show 0 < c by have : 1 ≤ c := hy'; omega)
    have q := fdiv_ng (b := b) hy hn
    by_cases g : z.fdiv b ≤ z.fdiv c
    ·exact g
    ·have hb : 1 ≤ b := hy
     have e1 := Int.mul_le_mul_of_nonneg_left (show z.fdiv c + 1 ≤ z.fdiv b by omega) (show 0 ≤ c by have : 1 ≤ c := hy'; omega)
     have e2 := Int.mul_le_mul_of_nonneg_right h (show 0 ≤ -z.fdiv b by omega)
     rw [Int.mul_add] at e1
     rw [Int.mul_neg, Int.mul_neg] at e2
     omega
theorem xo_pos {x y y' : X} (hx : okx C x) (hy : Po y) (hy' : Po y') (oy : okx C y) (oy' : okx C y') (h : key y ≤ key y') (hn : 0 ≤ key x) : key (xover x y') ≤ key (xover x y) := by
 have hK := C_lt_K
 have hC := C_gt
 cases x with
 | pi => exact Int.le_refl _
 | ni => simp only [key] at hn; omega
 | fin z =>
  simp only [key] at hn
  cases y with
  | ni => exact hy.elim
  | pi => cases y' with
   | ni => exact hy'.elim
   | pi => exact Int.le_refl _
   | fin b => simp only [key, okx] at h oy'; omega
  | fin b => cases y' with
   | ni => exact hy'.elim
   | pi =>
    simp only [xover]; rw [if_neg (by omega)]; exact fdiv_nn hy hn
   | fin c =>
    simp only [key] at h
    simp only [xover, key]
    have m := Int.mul_fdiv_add_fmod z b
    have m' := Int.mul_fdiv_add_fmod z c
    have r0 := Int.fmod_nonneg_of_pos z (show 0 < c by have : 1 ≤ c := hy'; omega)
    have r1 := Int.fmod_lt_of_pos z (show 0 < b by have : 1 ≤ b := hy; omega)
    have q := fdiv_nn (b := c) hy' hn
    by_cases g : z.fdiv c ≤ z.fdiv b
    ·exact g
    ·have e1 := Int.mul_le_mul_of_nonneg_left (show z.fdiv b + 1 ≤ z.fdiv c by omega) (show 0 ≤ b by have : 1 ≤ b := hy; omega)
     have e2 := Int.mul_le_mul_of_nonneg_right h q
     rw [Int.mul_add] at e1
     omega
def quL : X → X → X → X
 | .fin z, a, b => if z < 0 then xover (.fin z) a else xover (.fin z) b
 | x, _, _ => x
def quH : X → X → X → X
 | .fin z, a, b => if 0 ≤ z then xover (.fin z) a else xover (.fin z) b
 | x, _, _ => x
theorem quL_eq (x a b : X) : quL x a b = if key x < 0 then xover x a else xover x b := by
 cases x with
 | fin z => rfl
 | ni => simp only [quL, xover, ite_self]
 | pi => simp only [quL, xover, ite_self]
theorem quH_eq (x a b : X) : quH x a b = if 0 ≤ key x then xover x a else xover x b := by
 cases x with
 | fin z => rfl
 | ni => simp only [quH, xover, ite_self]
 | pi => simp only [quH, xover, ite_self]
def quS (s u : Sp) : Sp := ⟨quL s.lo u.lo u.hi, quH s.hi u.lo u.hi⟩
theorem quS_eq {s u : Sp} (hs : oks C s) (hu : oks C u) (es : emp s = false) (eu : emp u = false) (p1 : Po u.lo) (p2 : Po u.hi) : apS xover s u = quS s u := by
 have ls := of_decide_eq_false es
 have lu := of_decide_eq_false eu
 have po : ∀ {y : X}, Po y → ∀ b, y = .fin b → 1 ≤ b := fun h b e => by subst e; exact h
 have ok : ∀ x y, (x = s.lo ∨ x = s.hi) → (y = u.lo ∨ y = u.hi) → okx K (xover x y) := fun x y hx hy => by
  refine (xover_ok ?_ (po ?_)).mono (Int.le_of_lt C_lt_K)
  ·rcases hx with rfl | rfl
   ·exact hs.1
   ·exact hs.2
  ·rcases hy with rfl | rfl
   ·exact p1
   ·exact p2
 unfold quS
 rw [quL_eq, quH_eq]
 refine apS_char es eu ok ?_ ?_ ?_ ?_
 ·split
  ·exact ⟨_, _, .inl rfl, .inl rfl, rfl⟩
  ·exact ⟨_, _, .inl rfl, .inr rfl, rfl⟩
 ·intro x y hx hy
  have m : key (xover s.lo y) ≤ key (xover x y) := by
   have hp : Po y := by
    rcases hy with rfl | rfl
    ·exact p1
    ·exact p2
   rcases hx with rfl | rfl
   ·exact Int.le_refl _
   ·exact xo_mono hs.1 hs.2 hp (by omega)
  split
  ·rename_i hn
   rcases hy with rfl | rfl
   ·exact m
   ·exact Int.le_trans (xo_neg hs.1 p1 p2 hu.1 hu.2 (by omega) hn) m
  ·rename_i hn
   rcases hy with rfl | rfl
   ·exact Int.le_trans (xo_pos hs.1 p1 p2 hu.1 hu.2 (by omega) (by omega)) m
   ·exact m
 ·split
  ·exact ⟨_, _, .inr rfl, .inl rfl, rfl⟩
  ·exact ⟨_, _, .inr rfl, .inr rfl, rfl⟩
 ·intro x y hx hy
  have m : key (xover x y) ≤ key (xover s.hi y) := by
   have hp : Po y := by
    rcases hy with rfl | rfl
    ·exact p1
    ·exact p2
   rcases hx with rfl | rfl
   ·exact xo_mono hs.1 hs.2 hp (by omega)
   ·exact Int.le_refl _
  split
  ·rename_i hn
   rcases hy with rfl | rfl
   ·exact m
   ·exact Int.le_trans m (xo_pos hs.2 p1 p2 hu.1 hu.2 (by omega) hn)
  ·rename_i hn
   rcases hy with rfl | rfl
   ·exact Int.le_trans m (xo_neg hs.2 p1 p2 hu.1 hu.2 (by omega) (by omega))
   ·exact m
theorem sgn_lt0 (z : Int) : decide (sgn z < 0) = decide (z < 0) := by simp only [decide_eq_decide]; unfold sgn; (repeat' split) <;> omega
theorem sgn_ge0 (z : Int) : decide (sgn z ≥ 0) = decide (0 ≤ z) := by simp only [decide_eq_decide]; unfold sgn; (repeat' split) <;> omega
section
variable (lf : Nat) (h3 : 200000 ≤ lf)
include h3
theorem rng2 {x y : Int} (hx : -K < x ∧ x < K) (hy : -K < y ∧ y < K) : surveyorref21_Range.f lf (bs (Lib.itoa x)) (bs (Lib.itoa y)) = some (ac (toA ⟨.fin x, .fin y⟩), ()) := range_f lf h3 (some x) (some y) hx hy
theorem rng1 {x : Int} (hx : -K < x ∧ x < K) : surveyorref21_Range.f lf (bs (Lib.itoa x)) (ob none) = some (ac (toA ⟨.fin x, .pi⟩), ()) := range_f lf h3 (some x) none hx trivial
theorem rng0 {y : Int} (hy : -K < y ∧ y < K) : surveyorref21_Range.f lf (ob none) (bs (Lib.itoa y)) = some (ac (toA ⟨.ni, .fin y⟩), ()) := range_f lf h3 none (some y) trivial hy
theorem rng : surveyorref21_Range.f lf (ob none) (ob none) = some (ac (toA ⟨.ni, .pi⟩), ()) := range_f lf h3 none none trivial trivial
theorem quotients_A {a : A} (ha : Wf a) {u : Sp} (hu : oks C u) (pu : emp u = false → ∃ l, u.lo = .fin l ∧ 1 ≤ l ∧ Po u.hi) :
  surveyorref21_quotients.f lf (ac a) (ac (toA u)) = some (ac (toA (if a.em = true then non else if emp u = true then non else quS (ofA a) u)), ()) := by
 have hC := C_gt
 have hK := C_lt_K
 rw [surveyorref21_quotients.f]
 cases ea : a.em with
 | true => simp only [ac, ea, brT, surveyorref21_None.f, bdS, if_true, toA_non]; rfl
 | false => cases eu : emp u with
  | true =>
   rw [toA_emp eu]
   simp only [ac, ea, brF, if_false, if_true, Bool.false_eq_true, E0, brT, surveyorref21_None.f, bdS, toA_non]
   rfl
  | false =>
   obtain ⟨l, el, h1, p2⟩ := pu eu
   obtain ⟨ul, uh⟩ := u
   simp only at el p2
   subst el
   have kl : -C < l ∧ l < C := hu.1
   obtain ⟨em, lo, hi⟩ := a
   simp only at ea
   subst ea
   have tu : toA ⟨.fin l, uh⟩ = ⟨false, some l, tx uh⟩ := by
    unfold toA; rw [eu, if_neg (by simp)]
    simp only [tx, clip, if_pos kl]
   rw [tu, if_neg (by simp), if_neg (by simp)]
   have w1 := ha.lo
   have w2 := ha.hi
   simp only at w1 w2
   simp only [ac, brF, ofA, Bool.false_eq_true, if_false, ob_beq, quS]
   have fl : ∀ {x y : Int}, (-C < x ∧ x < C) → (-C < y ∧ y < C) → 1 ≤ y → surveyorref01_Floor.f lf (bs (Lib.itoa x)) (bs (Lib.itoa y)) = some (bs (Lib.itoa (x.fdiv y)), ()) := fun hx hy h => floorI lf h3 hx hy (by omega)
   have fk : ∀ {x y : Int}, (-C < x ∧ x < C) → 1 ≤ y → -K < x.fdiv y ∧ x.fdiv y < K := fun hx h => CK (fdiv_C (by omega) hx h)
   have k0 : -K < (0 : Int) ∧ (0 : Int) < K := by omega
   have km : -K < (-1 : Int) ∧ (-1 : Int) < K := by omega
   have obs : ∀ z : Int, ob (some z) = bs (Lib.itoa z) := fun _ => rfl
   cases lo with
   | none =>
    simp only [decide_true, Bool.not_true, brF, lox]
    cases hi with
    | none =>
     simp only [decide_true, Bool.not_true, brF, hix, xover]
     rw [rng lf h3, bdS]
     refine congrArg (fun s => some (ac (toA s), ())) ?_
     simp only [quL, quH, xover]
    | some h =>
     have kh : -C < h ∧ h < C := w2
     simp only [reduceCtorEq, decide_false, Bool.not_false, brT, obs, signI, bdS, sgn_ge0, hix]
     by_cases n1 : 0 ≤ h
     ·simp only [decide_eq_true n1, brT, fl kh kl h1, bdS, rng0 lf h3 (fk kh h1)]
      refine congrArg (fun s => some (ac (toA s), ())) ?_
      simp only [quL, quH, if_pos n1, xover]
     ·simp only [decide_eq_false n1, brF]
      cases uh with
      | ni => exact p2.elim
      | pi =>
       simp only [tx, decide_true, Bool.not_true, brF, im1, rng0 lf h3 km, bdS]
       refine congrArg (fun s => some (ac (toA s), ())) ?_
       simp only [quL, quH, if_neg n1, if_pos (show h < 0 by omega), xover]
      | fin v =>
       have kv : -C < v ∧ v < C := hu.2
       have hv : 1 ≤ v := p2
       simp only [tx, clip, if_pos kv, reduceCtorEq, decide_false, Bool.not_false, brT, obs, fl kh kv hv, bdS, rng0 lf h3 (fk kh hv)]
       refine congrArg (fun s => some (ac (toA s), ())) ?_
       simp only [quL, quH, if_neg n1, if_pos (show h < 0 by omega), xover]
   | some z =>
    have kz : -C < z ∧ z < C := w1
    simp only [reduceCtorEq, decide_false, Bool.not_false, brT, obs, signI, bdS, sgn_lt0, lox]
    by_cases n0 : z < 0
    ·simp only [decide_eq_true n0, brT, fl kz kl h1, bdS]
     cases hi with
     | none =>
      simp only [decide_true, Bool.not_true, brF, hix]
      rw [rng1 lf h3 (fk kz h1), bdS]
      refine congrArg (fun s => some (ac (toA s), ())) ?_
      simp only [quL, quH, if_pos n0, xover]
     | some h =>
      have kh : -C < h ∧ h < C := w2
      simp only [reduceCtorEq, decide_false, Bool.not_false, brT, obs, signI, bdS, sgn_ge0, hix]
      by_cases n1 : 0 ≤ h
      ·simp only [decide_eq_true n1, brT, fl kh kl h1, bdS, rng2 lf h3 (fk kz h1) (fk kh h1)]
       refine congrArg (fun s => some (ac (toA s), ())) ?_
       simp only [quL, quH, if_pos n0, if_pos n1, xover]
      ·simp only [decide_eq_false n1, brF]
       cases uh with
       | ni => exact p2.elim
       | pi =>
        simp only [tx, decide_true, Bool.not_true, brF, im1, rng2 lf h3 (fk kz h1) km, bdS]
        refine congrArg (fun s => some (ac (toA s), ())) ?_
        simp only [quL, quH, if_pos n0, if_neg n1, if_pos (show h < 0 by omega), xover]
       | fin v =>
        have kv : -C < v ∧ v < C := hu.2
        have hv : 1 ≤ v := p2
        simp only [tx, clip, if_pos kv, reduceCtorEq, decide_false, Bool.not_false, brT, obs, fl kh kv hv, bdS, rng2 lf h3 (fk kz h1) (fk kh hv)]
        refine congrArg (fun s => some (ac (toA s), ())) ?_
        simp only [quL, quH, if_pos n0, if_neg n1, if_pos (show h < 0 by omega), xover]
    ·simp only [decide_eq_false n0, brF]
     cases uh with
     | ni => exact p2.elim
     | pi =>
      simp only [tx, decide_true, Bool.not_true, brF, i0]
      cases hi with
      | none =>
       simp only [decide_true, Bool.not_true, brF, hix]
       rw [rng1 lf h3 k0, bdS]
       refine congrArg (fun s => some (ac (toA s), ())) ?_
       simp only [quL, quH, if_neg n0, xover]
      | some h =>
       have kh : -C < h ∧ h < C := w2
       simp only [reduceCtorEq, decide_false, Bool.not_false, brT, obs, signI, bdS, sgn_ge0, hix]
       by_cases n1 : 0 ≤ h
       ·simp only [decide_eq_true n1, brT, fl kh kl h1, bdS, rng2 lf h3 k0 (fk kh h1)]
        refine congrArg (fun s => some (ac (toA s), ())) ?_
        simp only [quL, quH, if_neg n0, if_pos n1, xover]
       ·simp only [decide_eq_false n1, brF, im1, rng2 lf h3 k0 km, bdS]
        refine congrArg (fun s => some (ac (toA s), ())) ?_
        simp only [quL, quH, if_neg n0, if_neg n1, if_pos (show h < 0 by omega), xover]
     | fin v =>
      have kv : -C < v ∧ v < C := hu.2
      have hv : 1 ≤ v := p2
      simp only [tx, clip, if_pos kv, reduceCtorEq, decide_false, Bool.not_false, brT, obs, fl kz kv hv, bdS]
      cases hi with
      | none =>
       simp only [decide_true, Bool.not_true, brF, hix]
       rw [rng1 lf h3 (fk kz hv), bdS]
       refine congrArg (fun s => some (ac (toA s), ())) ?_
       simp only [quL, quH, if_neg n0, xover]
      | some h =>
       have kh : -C < h ∧ h < C := w2
       simp only [reduceCtorEq, decide_false, Bool.not_false, brT, obs, signI, bdS, sgn_ge0, hix]
       by_cases n1 : 0 ≤ h
       ·simp only [decide_eq_true n1, brT, fl kh kl h1, bdS, rng2 lf h3 (fk kz hv) (fk kh h1)]
        refine congrArg (fun s => some (ac (toA s), ())) ?_
        simp only [quL, quH, if_neg n0, if_pos n1, xover]
       ·simp only [decide_eq_false n1, brF, fl kh kv hv, bdS, rng2 lf h3 (fk kz hv) (fk kh hv)]
        refine congrArg (fun s => some (ac (toA s), ())) ?_
        simp only [quL, quH, if_neg n0, if_neg n1, if_pos (show h < 0 by omega), xover]
end
end Go.N
namespace Go.N
open Go Go.Q Go.Rx
set_option linter.unusedVariables false
set_option linter.unusedSimpArgs false
set_option linter.unusedSectionVars false
theorem rest_bounds (x : Int) {c : Int} (h : 1 ≤ c) : 0 ≤ x.fmod c ∧ x.fmod c < c := ⟨Int.fmod_nonneg_of_pos x (by omega), Int.fmod_lt_of_pos x (by omega)⟩
theorem res_same {l h c : Int} (hc : 1 ≤ c) (hl : l ≤ h) : (if h - l ≥ c - 1 then allS c else if l.fmod c > h.fmod c then allS c else ⟨.fin (l.fmod c), .fin (h.fmod c)⟩) = if l.fdiv c = h.fdiv c then (⟨.fin (l.fmod c), .fin (h.fmod c)⟩ : Sp) else allS c := by
 have m1 := Int.mul_fdiv_add_fmod l c
 have m2 := Int.mul_fdiv_add_fmod h c
 have b1 := rest_bounds l hc
 have b2 := rest_bounds h hc
 by_cases e : l.fdiv c = h.fdiv c
 ·rw [if_pos e]
  rw [e] at m1
  by_cases c1 : h - l ≥ c - 1
  ·rw [if_pos c1]
   unfold allS
   congr 2 <;> omega
  ·rw [if_neg c1, if_neg (by omega)]
 ·rw [if_neg e]
  by_cases c1 : h - l ≥ c - 1
  ·rw [if_pos c1]
  ·rw [if_neg c1, if_pos ?_]
   have mono := fdiv_mono hc hl
   have := Int.mul_le_mul_of_nonneg_left (show 1 ≤ h.fdiv c - l.fdiv c by omega) (show 0 ≤ c by omega)
   rw [Int.mul_sub] at this
   omega
section
variable (lf : Nat) (h3 : 200000 ≤ lf)
include h3
theorem remainders_A {a : A} (ha : Wf a) {u : Sp} (hu : oks C u) (pu : emp u = false → ∃ l, u.lo = .fin l ∧ 1 ≤ l ∧ Po u.hi) :
  surveyorref21_remainders.f lf (ac a) (ac (toA u)) = some (ac (toA (if a.em = true then non else if emp u = true then non else remI (ofA a) u)), ()) := by
 have hC := C_gt
 have hK := C_lt_K
 have hCC := CC_K
 have h4 : 0 ≤ C * C := Int.mul_nonneg (by omega) (by omega)
 rw [surveyorref21_remainders.f]
 cases ea : a.em with
 | true => simp only [ac, ea, brT, surveyorref21_None.f, bdS, if_true, toA_non]; rfl
 | false => cases eu : emp u with
  | true =>
   rw [toA_emp eu]
   simp only [ac, ea, brF, if_false, if_true, Bool.false_eq_true, E0, brT, surveyorref21_None.f, bdS, toA_non]
   rfl
  | false =>
   obtain ⟨l, el, h1, p2⟩ := pu eu
   obtain ⟨ul, uh⟩ := u
   simp only at el p2
   subst el
   have kl : -C < l ∧ l < C := hu.1
   have tu : toA ⟨.fin l, uh⟩ = ⟨false, some l, tx uh⟩ := by
    unfold toA; rw [eu, if_neg (by simp)]
    simp only [tx, clip, if_pos kl]
   have sga : ((bs (Lib.itoa l)).toList == (ob (tx uh)).toList) = single ⟨.fin l, uh⟩ := by
    cases uh with
    | ni => exact p2.elim
    | pi =>
     simp only [tx, single, ob, beq_bs]
     exact decide_eq_false (itoa_ne l)
    | fin v =>
     have kv : -C < v ∧ v < C := hu.2
     simp only [tx, clip, if_pos kv, single, ob, beq_bs, decide_eq_decide]
     exact ⟨fun e => itoa_inj e, fun e => by rw [e]⟩
   have aS : ofA a = ⟨lox a.lo, hix a.hi⟩ := by unfold ofA; rw [if_neg (by simp [ea])]
   have w1 := ha.lo
   have w2 := ha.hi
   have w3 := ha.le
   have dI : surveyorref01_Diff.f lf (bs (Lib.itoa l)) (bs (Lib.itoa 1)) = some (bs (Lib.itoa (l - 1)), ()) := diffI lf h3 (CK kl) (by omega)
   have rg : surveyorref21_Range.f lf (bs (Lib.itoa 0)) (bs (Lib.itoa (l - 1))) = some (ac (toA (allS l)), ()) := rng2 lf h3 (by omega) (by omega)
   have obs : ∀ z : Int, ob (some z) = bs (Lib.itoa z) := fun _ => rfl
   have x1 : (ac (toA ⟨.fin l, uh⟩)).1 = false := by rw [tu]; rfl
   have x2 : (ac (toA ⟨.fin l, uh⟩)).2.1 = bs (Lib.itoa l) := by rw [tu]; rfl
   have x3 : (ac (toA ⟨.fin l, uh⟩)).2.2.1 = ob (tx uh) := by rw [tu]; rfl
   have y1 : (ac a).1 = false := ea
   have y2 : (ac a).2.1 = ob a.lo := rfl
   have y3 : (ac a).2.2.1 = ob a.hi := rfl
   rw [if_neg (by simp), if_neg (by simp)]
   simp only [x1, x2, x3, y1, y2, y3, brF, sga]
   unfold remI
   cases es : single ⟨.fin l, uh⟩ with
   | true =>
    rw [brT, if_pos rfl]
    simp only [ob_beq, i1, i0, dI, bdS, rg, valX, aS]
    cases hlo : a.lo with
    | none => simp only [decide_true, Bool.not_true, brF, lox, resS]
    | some z => cases hhi : a.hi with
     | none => simp only [decide_true, Bool.not_true, brF, reduceCtorEq, decide_false, Bool.not_false, brT, lox, hix, resS]
     | some w =>
      rw [hlo] at w1
      rw [hhi] at w2
      rw [hlo, hhi] at w3
      have kz : -C < z ∧ z < C := w1
      have kw : -C < w ∧ w < C := w2
      have zw : z ≤ w := w3
      have b1 := rest_bounds z h1
      have b2 := rest_bounds w h1
      simp only [reduceCtorEq, decide_false, Bool.not_false, brT, lox, hix, resS, obs, floorI lf h3 kz kl (by omega), floorI lf h3 kw kl (by omega), bdS, beq_bs, restI lf h3 kz kl (by omega), restI lf h3 kw kl (by omega), rng2 lf h3 (x := z.fmod l) (y := w.fmod l) (by omega) (by omega)]
      rw [res_same h1 zw]
      by_cases e : z.fdiv l = w.fdiv l
      ·rw [if_pos e, decide_eq_true (by rw [e]), brT]
      ·rw [if_neg e, decide_eq_false (fun x => e (itoa_inj x)), brF]
   | false =>
    rw [brF, if_neg (by simp)]
    have al : Wf (toA (allS l)) ∧ ofA (toA (allS l)) = allS l := by
     have m := mkA (allS_ok h1 kl.2) (.inr ⟨by simp [allS], by simp [allS]⟩)
     rw [show emp (allS l) = false from decide_eq_false (show ¬ ((0 : Int) > l - 1) by omega), if_neg (by simp)] at m
     exact m
    have ks := ha.ks.e2 ea
    have ins : leqA (ofA a) (allS l) = decide (0 ≤ key (ofA a).lo ∧ key (ofA a).hi < l) := by
     rw [leqA_iff, show key (allS l).lo = 0 from rfl, show key (allS l).hi = l - 1 from rfl]
     simp only [decide_eq_decide]
     omega
    have wlo := key_le ha.okK.1
    simp only [i1, i0, dI, bdS, rg, inside_ref lf h3 ha al.1, al.2, ins]
    rw [show key (X.fin l) = l from rfl]
    by_cases c1 : 0 ≤ key (ofA a).lo ∧ key (ofA a).hi < l
    ·rw [decide_eq_true c1, brT, if_pos c1, toA_ofA ha]
    ·rw [decide_eq_false c1, brF, if_neg c1]
     have ok1 : okb C (tx uh) := by
      cases uh with
      | ni => trivial
      | pi => trivial
      | fin v =>
       have kv : -C < v ∧ v < C := hu.2
       simp only [tx, clip, if_pos kv]; exact kv
     have okm : okb C (some (-1)) := by simp only [okb]; omega
     have su := rsumO lf h3 ok1 okm
     rw [show ob (some (-1)) = bs (Lib.itoa (-1)) from rfl] at su
     have hh : hix (addO (tx uh) (some (-1))) = xsh uh (-1) := by
      cases uh with
      | ni => exact p2.elim
      | pi => rfl
      | fin v =>
       have kv : -C < v ∧ v < C := hu.2
       simp only [tx, clip, if_pos kv]; rfl
     have okh := addO_ok ok1 okm
     have rg0 : ∀ o : Option Int, okb K o → surveyorref21_Range.f lf (bs (Lib.itoa 0)) (ob o) = some (ac (toA ⟨.fin 0, hix o⟩), ()) := fun o ho => range_f lf h3 (some 0) o (by simp only [okb]; omega) ho
     simp only [im1, su, bdS, ob_beq]
     by_cases z0 : 0 ≤ key (ofA a).lo
     ·rw [if_pos z0]
      rw [aS] at z0 ⊢
      simp only at z0 ⊢
      cases hlo : a.lo with
      | none => rw [hlo] at z0; simp only [lox, key] at z0; omega
      | some z =>
       rw [hlo] at z0
       have z0' : 0 ≤ z := z0
       have up := upper_ref lf h3 _ _ okh ha.hiK
       have hu2 := hix_upper okh ha.hiK
       simp only [reduceCtorEq, decide_false, Bool.not_false, brT, obs, signI, bdS, sgn_ge0, decide_eq_true z0', up, rg0 _ hu2.2, hu2.1, hh]
     ·rw [if_neg z0]
      rw [aS] at z0
      cases hlo : a.lo with
      | none => simp only [decide_true, Bool.not_true, brF, rg0 _ okh, bdS, hh]
      | some z =>
       rw [hlo] at z0
       have z0' : ¬ 0 ≤ z := z0
       simp only [reduceCtorEq, decide_false, Bool.not_false, brT, brF, obs, signI, bdS, sgn_ge0, decide_eq_false z0', rg0 _ okh, hh]
end
theorem posS_Po {s : Sp} (he : emp (posS s) = false) (hs : oks C s) (hp : Pr s) : ∃ l, (posS s).lo = .fin l ∧ 1 ≤ l ∧ Po (posS s).hi := by
 obtain ⟨l, e1, e2, e3, e4, e5, e6⟩ := posS_lo he hs hp
 refine ⟨l, e1, e2, ?_⟩
 cases h : (posS s).hi with
 | ni => rw [e5] at h; exact absurd h e6
 | pi => trivial
 | fin z => have := e4 z h; simp only [Po]; omega
theorem neg_pos {s : Sp} (h : emp s = false) : emp (negS s) = emp (posS (turn s)) ∧ (emp (negS s) = false → turn (negS s) = posS (turn s)) := by
 have hK := K_gt
 have et : turn s = ⟨xneg s.hi, xneg s.lo⟩ := by unfold turn; rw [if_neg (by simp [h])]
 have e1 : key (negS s).lo = max (key s.lo) (-K) := by simp only [negS, common, key_max]; rfl
 have e2 : key (negS s).hi = min (key s.hi) (-1) := by simp only [negS, common, key_min]; rfl
 have e3 : key (posS (turn s)).lo = max (-key s.hi) 1 := by rw [et]; simp only [posS, common, key_max, key_xneg]; rfl
 have e4 : key (posS (turn s)).hi = min (-key s.lo) K := by rw [et]; simp only [posS, common, key_min, key_xneg]; rfl
 constructor
 ·unfold emp
  rw [e1, e2, e3, e4]
  simp only [decide_eq_decide]
  omega
 ·intro he
  unfold turn
  rw [if_neg (by simp [he]), if_neg (by simp [h])]
  unfold posS negS common
  simp only
  congr 1
  ·unfold xmin xmax
   rw [key_xneg, show key (X.fin (-1)) = -1 from rfl, show key (X.fin 1) = 1 from rfl]
   by_cases c : -1 < key s.hi
   ·rw [if_pos c, if_pos (by omega)]; rfl
   ·rw [if_neg c, if_neg (by omega)]
  ·unfold xmin xmax
   rw [key_xneg, show key X.ni = -K from rfl, show key X.pi = K from rfl]
   by_cases c : -K > key s.lo
   ·rw [if_pos c, if_pos (by omega)]; rfl
   ·rw [if_neg c, if_neg (by omega)]
theorem negS_ok {s : Sp} (h : oks C s) : oks C (negS s) := common_ok h ⟨trivial, one_okx (by decide) (by decide)⟩
theorem zerS_ok {s : Sp} (h : oks C s) : oks C (zerS s) := common_ok h ⟨one_okx (by decide) (by decide), one_okx (by decide) (by decide)⟩
theorem common_pr {s t : Sp} (hs : Pr s) (ht : Pr t) (ok : oks C s) (ok' : oks C t) : Pr (common s t) := by
 unfold Pr
 by_cases e : emp (common s t) = true
 ·exact .inl e
 ·right
  have e' := of_decide_eq_false (show emp (common s t) = false by simpa using e)
  simp only [common, key_max, key_min] at e'
  have n1 : ¬ emp s = true := fun h => by have := of_decide_eq_true h; omega
  have n2 : ¬ emp t = true := fun h => by have := of_decide_eq_true h; omega
  have q1 := hs.resolve_left n1
  have q2 := ht.resolve_left n2
  constructor
  ·simp only [common]; unfold xmax; split
   ·exact q2.1
   ·exact q1.1
  ·simp only [common]; unfold xmin; split
   ·exact q2.2
   ·exact q1.2
theorem negS_pr {s : Sp} (h : Pr s) (ok : oks C s) : Pr (negS s) := common_pr h (.inr ⟨by simp, by simp⟩) ok ⟨trivial, one_okx (by decide) (by decide)⟩
theorem posS_pr {s : Sp} (h : Pr s) (ok : oks C s) : Pr (posS s) := common_pr h (.inr ⟨by simp, by simp⟩) ok ⟨one_okx (by decide) (by decide), trivial⟩
theorem turned_neg (lf : Nat) (h3 : 200000 ≤ lf) {a : A} (ha : Wf a) : surveyorref21_Turned.f lf (ac (toA (negS (ofA a)))) = some (ac (toA (if a.em = true then non else posS (turn (ofA a)))), ()) := by
 have m := mkA (negS_ok ha.okC) (negS_pr ha.pr ha.okC)
 rw [turned_ref lf h3 m.1, m.2]
 refine congrArg (fun x => some (ac x, ())) ?_
 cases ea : a.em with
 | true =>
  have ee := emp_ofA ha
  rw [ea] at ee
  have : emp (negS (ofA a)) = true := by
   have := of_decide_eq_true ee
   apply decide_eq_true
   simp only [negS, common, key_max, key_min]; omega
  rw [if_pos this, if_pos rfl]
  exact toA_emp (by rw [emp_turn]; exact emp_non) |>.trans (toA_emp emp_non).symm
 | false =>
  have ee := emp_ofA ha
  rw [ea] at ee
  have np := neg_pos ee
  cases e : emp (negS (ofA a)) with
  | true =>
   simp only [if_true, if_false, Bool.false_eq_true]
   rw [toA_emp (by rw [emp_turn]; exact emp_non), toA_emp (by rw [← np.1, e])]
  | false =>
   simp only [if_false, Bool.false_eq_true]
   rw [np.2 e]
theorem xover_pi {x y : X} (h : x ≠ .pi) : xover x y ≠ .pi := by
 cases x with
 | pi => exact absurd rfl h
 | ni => simp [xover]
 | fin z => cases y <;> simp only [xover] <;> (try split) <;> simp
theorem xover_ni {x y : X} (h : x ≠ .ni) : xover x y ≠ .ni := by
 cases x with
 | ni => exact absurd rfl h
 | pi => simp [xover]
 | fin z => cases y <;> simp only [xover] <;> (try split) <;> simp
theorem quS_ok {s u : Sp} (hs : oks C s) (p1 : Po u.lo) (p2 : Po u.hi) : oks C (quS s u) := by
 have po : ∀ {y : X}, Po y → ∀ b, y = .fin b → 1 ≤ b := fun h b e => by subst e; exact h
 unfold quS
 rw [quL_eq, quH_eq]
 constructor <;> simp only <;> split
 ·exact xover_ok hs.1 (po p1)
 ·exact xover_ok hs.1 (po p2)
 ·exact xover_ok hs.2 (po p1)
 ·exact xover_ok hs.2 (po p2)
theorem quS_pr {s u : Sp} (h : s.lo ≠ .pi ∧ s.hi ≠ .ni) : (quS s u).lo ≠ .pi ∧ (quS s u).hi ≠ .ni := by
 unfold quS
 rw [quL_eq, quH_eq]
 constructor <;> simp only <;> split
 ·exact xover_pi h.1
 ·exact xover_pi h.1
 ·exact xover_ni h.2
 ·exact xover_ni h.2
theorem mk2 {s : Sp} {b : Bool} (h : b = false → oks C s ∧ emp s = false ∧ s.lo ≠ .pi ∧ s.hi ≠ .ni) : Wf (toA (if b = true then non else s)) ∧ ofA (toA (if b = true then non else s)) = if b = true then non else s := by
 cases b with
 | true =>
  simp only [if_true]
  have m := mkA (s := non) non_ok (.inl emp_non)
  rw [emp_non, if_pos rfl] at m
  exact m
 | false =>
  obtain ⟨h1, h2, h3⟩ := h rfl
  simp only [if_false, Bool.false_eq_true]
  have m := mkA h1 (.inr h3)
  rw [h2, if_neg (by simp)] at m
  exact m
theorem em_toA (s : Sp) : (toA s).em = emp s := by unfold toA; cases emp s <;> rfl
section
variable (lf : Nat) (h3 : 200000 ≤ lf)
include h3
theorem over_A {a b : A} (ha : Wf a) (hb : Wf b) : surveyorref21_Over.f lf (ac a) (ac b) = some (ac (toA (quoS (ofA a) (ofA b))), ()) := by
 have hs := ha.okC
 have ht := hb.okC
 have ps := ha.pr
 have pt := hb.pr
 have ea := emp_ofA ha
 have eb := emp_ofA hb
 have ta := turnA ha
 have tt := turn_ok ht
 have q1 := quotients_A lf h3 ha (posS_ok ht) (fun e => posS_Po e ht pt)
 have u2 : oks C (if b.em = true then non else posS (turn (ofA b))) := by split; exact non_ok; exact posS_ok tt
 have q2 := quotients_A lf h3 ta.1 u2 (fun e => by
  by_cases c : b.em = true
  ·rw [if_pos c] at e; rw [emp_non] at e; cases e
  ·rw [if_neg c] at e ⊢; exact posS_Po e tt pt.turn)
 rw [em_toA, ta.2, emp_turn] at q2
 have i2 : idxL [ac (toA (negS (ofA b))), ac (toA (zerS (ofA b))), ac (toA (posS (ofA b)))] 2 = some (ac (toA (posS (ofA b)))) := rfl
 have i0' : idxL [ac (toA (negS (ofA b))), ac (toA (zerS (ofA b))), ac (toA (posS (ofA b)))] 0 = some (ac (toA (negS (ofA b)))) := rfl
 rw [surveyorref21_Over.f, split_A lf h3 hb, bdS]
 simp only [i2, bdS, q1, turned_ref lf h3 ha, i0', turned_neg lf h3 hb, q2]
 unfold quoS
 rw [ea]
 cases e0 : a.em with
 | true =>
  simp only [if_true]
  have m := mkA (s := non) non_ok (.inl emp_non)
  rw [joined_ref lf h3 m.1 m.1, bdS, m.2, emp_non, if_pos rfl, non_hull]
 | false =>
  rw [e0] at ea
  have es := ea
  have pr := ps.resolve_left (by simp [es])
  have et : emp (turn (ofA a)) = false := by rw [emp_turn, es]
  have prt := ps.turn.resolve_left (by simp [et])
  simp only [if_false, Bool.false_eq_true]
  have m1 := mk2 (s := quS (ofA a) (posS (ofA b))) (b := emp (posS (ofA b))) (fun e => by
   obtain ⟨l, e1, e2, e3⟩ := posS_Po e ht pt
   have p1 : Po (posS (ofA b)).lo := by rw [e1]; exact e2
   refine ⟨quS_ok hs p1 e3, ?_, quS_pr pr⟩
   rw [← quS_eq hs (posS_ok ht) es e p1 e3]
   exact apS_emp es e)
  have z1 : emp (posS (ofA b)) = false → quS (ofA a) (posS (ofA b)) = apS xover (ofA a) (posS (ofA b)) := fun e => by
   obtain ⟨l, e1, e2, e3⟩ := posS_Po e ht pt
   exact (quS_eq hs (posS_ok ht) es e (by rw [e1]; exact e2) e3).symm
  have eq : (if emp (if b.em = true then non else posS (turn (ofA b))) = true then non else quS (turn (ofA a)) (if b.em = true then non else posS (turn (ofA b)))) = if emp (posS (turn (ofA b))) = true then non else quS (turn (ofA a)) (posS (turn (ofA b))) := by
   cases c : b.em with
   | false => simp only [if_false, Bool.false_eq_true]
   | true =>
    simp only [if_true, emp_non]
    rw [c] at eb
    have : emp (posS (turn (ofA b))) = true := by
     have e1 : emp (turn (ofA b)) = true := by rw [emp_turn, eb]
     have := of_decide_eq_true e1
     apply decide_eq_true
     simp only [posS, common, key_max, key_min]; omega
    rw [this, if_pos rfl]
  rw [eq]
  have m2 := mk2 (s := quS (turn (ofA a)) (posS (turn (ofA b)))) (b := emp (posS (turn (ofA b)))) (fun e => by
   obtain ⟨l, e1, e2, e3⟩ := posS_Po e tt pt.turn
   have p1 : Po (posS (turn (ofA b))).lo := by rw [e1]; exact e2
   refine ⟨quS_ok (turn_ok hs) p1 e3, ?_, quS_pr prt⟩
   rw [← quS_eq (turn_ok hs) (posS_ok tt) et e p1 e3]
   exact apS_emp et e)
  have z2 : emp (posS (turn (ofA b))) = false → quS (turn (ofA a)) (posS (turn (ofA b))) = apS xover (turn (ofA a)) (posS (turn (ofA b))) := fun e => by
   obtain ⟨l, e1, e2, e3⟩ := posS_Po e tt pt.turn
   exact (quS_eq (turn_ok hs) (posS_ok tt) et e (by rw [e1]; exact e2) e3).symm
  rw [joined_ref lf h3 m1.1 m2.1, bdS, m1.2, m2.2]
  refine congrArg (fun x => some (ac (toA x), ())) ?_
  cases c1 : emp (posS (ofA b)) <;> cases c2 : emp (posS (turn (ofA b))) <;> simp only [if_true, if_false, Bool.false_eq_true]
  ·rw [z1 c1, z2 c2]
  ·rw [z1 c1]
  ·rw [z2 c2]
theorem remI_pr {s u : Sp} (h : s.lo ≠ .pi ∧ s.hi ≠ .ni) (hu : oks C u) (p1 : Po u.lo) (p2 : Po u.hi) (hs : oks C s) (es : emp s = false) : emp (remI s u) = false ∧ (remI s u).lo ≠ .pi ∧ (remI s u).hi ≠ .ni := by
 have hK := C_lt_K
 have hC := C_gt
 have ks := of_decide_eq_false es
 have kh := key_le hs.K.2
 unfold remI
 split
 ·rename_i sg
  have el := single_lo sg
  have h1 : 1 ≤ valX u.lo := by rw [el] at p1; exact p1
  have e0 : emp (allS (valX u.lo)) = false := decide_eq_false (show ¬ ((0 : Int) > valX u.lo - 1) by omega)
  unfold resS
  split
  ·rename_i l h _ _
   split
   ·exact ⟨e0, by simp [allS], by simp [allS]⟩
   ·split
    ·exact ⟨e0, by simp [allS], by simp [allS]⟩
    ·rename_i c
     exact ⟨decide_eq_false (show ¬ (l.fmod (valX u.lo) > h.fmod (valX u.lo)) by omega), by simp, by simp⟩
  ·exact ⟨e0, by simp [allS], by simp [allS]⟩
 ·split
  ·exact ⟨es, h⟩
  ·rename_i c1 c2
   have kx : 0 ≤ key (xsh u.hi (-1)) ∧ xsh u.hi (-1) ≠ .ni := by
    cases e : u.hi with
    | ni => rw [e] at p2; exact p2.elim
    | pi => simp only [xsh, key]; exact ⟨by omega, by simp⟩
    | fin v => rw [e] at p2; simp only [xsh, key]; exact ⟨by have : 1 ≤ v := p2; omega, by simp⟩
   refine ⟨?_, by simp, ?_⟩
   ·apply decide_eq_false
    simp only
    rw [show key (X.fin 0) = 0 from rfl]
    split
    ·rw [key_min]; omega
    ·omega
   ·simp only
    split
    ·unfold xmin; split
     ·exact h.2
     ·exact kx.2
    ·exact kx.2
theorem modulo_A {a b : A} (ha : Wf a) (hb : Wf b) : surveyorref21_Modulo.f lf (ac a) (ac b) = some (ac (toA (remS (ofA a) (ofA b))), ()) := by
 have hs := ha.okC
 have ht := hb.okC
 have ps := ha.pr
 have pt := hb.pr
 have ea := emp_ofA ha
 have eb := emp_ofA hb
 have ta := turnA ha
 have ts := turn_ok hs
 have tt := turn_ok ht
 have q1 := remainders_A lf h3 ha (posS_ok ht) (fun e => posS_Po e ht pt)
 have u2 : oks C (if b.em = true then non else posS (turn (ofA b))) := by split; exact non_ok; exact posS_ok tt
 have q2 := remainders_A lf h3 ta.1 u2 (fun e => by
  by_cases c : b.em = true
  ·rw [if_pos c] at e; rw [emp_non] at e; cases e
  ·rw [if_neg c] at e ⊢; exact posS_Po e tt pt.turn)
 rw [em_toA, ta.2, emp_turn] at q2
 have i2 : idxL [ac (toA (negS (ofA b))), ac (toA (zerS (ofA b))), ac (toA (posS (ofA b)))] 2 = some (ac (toA (posS (ofA b)))) := rfl
 have i0' : idxL [ac (toA (negS (ofA b))), ac (toA (zerS (ofA b))), ac (toA (posS (ofA b)))] 0 = some (ac (toA (negS (ofA b)))) := rfl
 rw [surveyorref21_Modulo.f, split_A lf h3 hb, bdS]
 simp only [i2, bdS, q1, turned_ref lf h3 ha, i0', turned_neg lf h3 hb, q2]
 unfold remS
 rw [ea]
 have mn := mkA (s := non) non_ok (.inl emp_non)
 rw [emp_non, if_pos rfl] at mn
 have tn : turn non = non := by unfold turn; rw [emp_non, if_pos rfl]
 cases e0 : a.em with
 | true =>
  simp only [if_true]
  have t := turned_ref lf h3 mn.1
  rw [mn.2, tn] at t
  rw [t, bdS, joined_ref lf h3 mn.1 mn.1, bdS, mn.2, non_hull]
 | false =>
  rw [e0] at ea
  have es := ea
  have pr := ps.resolve_left (by simp [es])
  have et : emp (turn (ofA a)) = false := by rw [emp_turn, es]
  have prt := ps.turn.resolve_left (by simp [et])
  simp only [if_false, Bool.false_eq_true]
  have en : ∀ {s : Sp}, (∃ l, s.lo = .fin l ∧ 1 ≤ l ∧ Po s.hi) → Po s.lo ∧ Po s.hi ∧ ∀ y, (y = s.lo ∨ y = s.hi) → ∀ b, y = .fin b → 1 ≤ b := fun h => by
   obtain ⟨l, e1, e2, e3⟩ := h
   refine ⟨by rw [e1]; exact e2, e3, fun y hy b hb => ?_⟩
   rcases hy with rfl | rfl
   ·rw [e1] at hb; injection hb with hb; omega
   ·rw [hb] at e3; exact e3
  have m1 := mk2 (s := remI (ofA a) (posS (ofA b))) (b := emp (posS (ofA b))) (fun e => by
   have g := en (posS_Po e ht pt)
   exact ⟨remI_ok hs (posS_ok ht) g.2.2, remI_pr lf h3 pr (posS_ok ht) g.1 g.2.1 hs es⟩)
  have eq : (if emp (if b.em = true then non else posS (turn (ofA b))) = true then non else remI (turn (ofA a)) (if b.em = true then non else posS (turn (ofA b)))) = if emp (posS (turn (ofA b))) = true then non else remI (turn (ofA a)) (posS (turn (ofA b))) := by
   cases c : b.em with
   | false => simp only [if_false, Bool.false_eq_true]
   | true =>
    simp only [if_true, emp_non]
    rw [c] at eb
    have : emp (posS (turn (ofA b))) = true := by
     have e1 : emp (turn (ofA b)) = true := by rw [emp_turn, eb]
     have := of_decide_eq_true e1
     apply decide_eq_true
     simp only [posS, common, key_max, key_min]; omega
    rw [this, if_pos rfl]
  rw [eq]
  have m2 := mk2 (s := remI (turn (ofA a)) (posS (turn (ofA b)))) (b := emp (posS (turn (ofA b)))) (fun e => by
   have g := en (posS_Po e tt pt.turn)
   exact ⟨remI_ok ts (posS_ok tt) g.2.2, remI_pr lf h3 prt (posS_ok tt) g.1 g.2.1 ts et⟩)
  have t2 := turnA m2.1
  have tr2 := turned_ref lf h3 m2.1
  rw [tr2, bdS, joined_ref lf h3 m1.1 t2.1, bdS, m1.2, t2.2, m2.2]
  cases c1 : emp (posS (ofA b)) with
  | true =>
   simp only [if_true, non_hull]
   cases c2 : emp (posS (turn (ofA b))) with
   | true => simp only [if_true, tn]
   | false => simp only [if_false, Bool.false_eq_true]
  | false =>
   simp only [if_false, Bool.false_eq_true]
   cases c2 : emp (posS (turn (ofA b))) with
   | true =>
    simp only [if_true, tn]
    have g := en (posS_Po c1 ht pt)
    rw [hull_non _ (.inl (remI_pr lf h3 pr (posS_ok ht) g.1 g.2.1 hs es).1)]
   | false => simp only [if_false, Bool.false_eq_true]
end
end Go.N
namespace Go.N
open Go Go.Q Go.Rx
set_option linter.unusedVariables false
set_option linter.unusedSimpArgs false
theorem sg_neg (x : X) : sg (xneg x) = -sg x := by
 cases x with
 | ni => rfl
 | pi => rfl
 | fin z => simp only [xneg, sg, sgn]; (repeat' split) <;> omega
theorem xneg_xneg (x : X) : xneg (xneg x) = x := by cases x <;> simp [xneg]
theorem xmul_comm (x y : X) : xmul x y = xmul y x := by
 unfold xmul
 rw [Int.mul_comm (sg y) (sg x)]
 split
 ·rfl
 ·cases x <;> cases y <;> simp only [Int.mul_comm]
theorem xmul_neg (x y : X) : xmul (xneg x) y = xneg (xmul x y) := by
 unfold xmul
 rw [sg_neg, Int.neg_mul]
 have a := sg3 x
 have b := sg3 y
 by_cases h : sg x * sg y = 0
 ·rw [h, if_pos (by decide), if_pos rfl]; rfl
 ·rw [if_neg (by omega), if_neg h]
  have one : sg x * sg y = 1 ∨ sg x * sg y = -1 := by
   rcases a with a | a | a <;> rcases b with b | b | b <;> rw [a, b] at h ⊢ <;> simp at h ⊢
  cases x <;> cases y <;> simp only [xneg, Int.neg_mul] <;> rcases one with o | o <;> rw [o] <;> rfl
theorem xmul_neg' (x y : X) : xmul x (xneg y) = xneg (xmul x y) := by rw [xmul_comm, xmul_neg, xmul_comm]
theorem key_mul_sg {x y : X} : (key (xmul x y) < 0 ↔ sg x * sg y < 0) ∧ (key (xmul x y) = 0 ↔ sg x * sg y = 0) := by
 have hK := K_gt
 have a := sg3 x
 have b := sg3 y
 unfold xmul
 by_cases h : sg x * sg y = 0
 ·rw [if_pos h, h]; simp [key]
 ·rw [if_neg h]
  have one : sg x * sg y = 1 ∨ sg x * sg y = -1 := by
   rcases a with a | a | a <;> rcases b with b | b | b <;> rw [a, b] at h ⊢ <;> simp at h ⊢
  have inf : (key (if sg x * sg y = 1 then X.pi else X.ni) < 0 ↔ sg x * sg y < 0) ∧ (key (if sg x * sg y = 1 then X.pi else X.ni) = 0 ↔ sg x * sg y = 0) := by
   rcases one with o | o <;> rw [o]
   ·rw [if_pos rfl, show key X.pi = K from rfl]; omega
   ·rw [if_neg (by decide), show key X.ni = -K from rfl]; omega
  cases x with
  | fin u => cases y with
   | fin v =>
    simp only [key]
    have ku := sg_key (.fin u)
    have kv := sg_key (.fin v)
    simp only [key] at ku kv
    rcases a with a | a | a <;> rcases b with b | b | b <;> rw [a, b] at h ⊢ <;> simp at h ⊢
    ·have := Int.mul_pos_of_neg_of_neg (show u < 0 by omega) (show v < 0 by omega); omega
    ·have := Int.mul_neg_of_neg_of_pos (show u < 0 by omega) (show 0 < v by omega); omega
    ·have := Int.mul_neg_of_pos_of_neg (show 0 < u by omega) (show v < 0 by omega); omega
    ·have := Int.mul_pos (show 0 < u by omega) (show 0 < v by omega); omega
   | ni => exact inf
   | pi => exact inf
  | ni => exact inf
  | pi => exact inf
theorem xmul_ff {a b : Int} : xmul (.fin a) (.fin b) = .fin (a * b) := by
 unfold xmul
 split
 ·rename_i h
  have := (key_mul_sg (x := .fin a) (y := .fin b)).2
  have ka := sg_key (.fin a)
  have kb := sg_key (.fin b)
  simp only [key] at ka kb
  rcases Int.mul_eq_zero.1 h with z | z
  ·rw [ka.2.1.1 z, Int.zero_mul]
  ·rw [kb.2.1.1 z, Int.mul_zero]
 ·rfl
theorem xmul_mono {x x' y : X} (hx : okx C x) (hx' : okx C x') (hy : okx C y) (h : key x ≤ key x') (h0 : 0 ≤ key y) : key (xmul x y) ≤ key (xmul x' y) := by
 have hK := K_gt
 have hC := C_lt_K
 have k1 := key_le (xmul_ok hx hy)
 have k2 := key_le (xmul_ok hx' hy)
 have s1 := key_mul_sg (x := x) (y := y)
 have s2 := key_mul_sg (x := x') (y := y)
 have gx := sg_key x
 have gx' := sg_key x'
 have gy := sg_key y
 have a := sg3 x
 have a' := sg3 x'
 have b := sg3 y
 have inf : ∀ {u v : X}, (u = .ni ∨ u = .pi ∨ v = .ni ∨ v = .pi) → key (xmul u v) = sg u * sg v * K := by
  intro u v hu
  have c := sg3 u
  have d := sg3 v
  unfold xmul
  by_cases hz : sg u * sg v = 0
  ·rw [if_pos hz, hz]; simp [key]
  ·rw [if_neg hz]
   have one : sg u * sg v = 1 ∨ sg u * sg v = -1 := by
    rcases c with c | c | c <;> rcases d with d | d | d <;> rw [c, d] at hz ⊢ <;> simp at hz ⊢
   have f : key (if sg u * sg v = 1 then X.pi else X.ni) = sg u * sg v * K := by
    rcases one with o | o <;> rw [o]
    ·rw [if_pos rfl, show key X.pi = K from rfl]; omega
    ·rw [if_neg (by decide), show key X.ni = -K from rfl]; omega
   rcases hu with rfl | rfl | rfl | rfl
   ·exact f
   ·exact f
   ·cases u <;> exact f
   ·cases u <;> exact f
 by_cases y0 : key y = 0
 ·have : sg y = 0 := by omega
  have e1 : key (xmul x y) = 0 := s1.2.2 (by rw [this, Int.mul_zero])
  have e2 : key (xmul x' y) = 0 := s2.2.2 (by rw [this, Int.mul_zero])
  omega
 have y1 : sg y = 1 := by omega
 rw [y1, Int.mul_one] at s1 s2
 cases y with
 | ni => simp only [key] at h0; omega
 | pi =>
  rw [inf (.inr (.inr (.inr rfl))), inf (.inr (.inr (.inr rfl))), y1, Int.mul_one, Int.mul_one]
  exact Int.mul_le_mul_of_nonneg_right (by omega) (by omega)
 | fin v =>
  cases x with
  | ni =>
   rw [inf (.inl rfl), y1, Int.mul_one, show sg X.ni = -1 from rfl]; omega
  | pi =>
   cases x' with
   | pi => exact Int.le_refl _
   | ni => simp only [key] at h; omega
   | fin w => simp only [key, okx] at h hx'; omega
  | fin u => cases x' with
   | pi =>
    rw [inf (u := X.pi) (.inr (.inl rfl)), y1, Int.mul_one, show sg X.pi = 1 from rfl]; omega
   | ni => simp only [key, okx] at h hx; omega
   | fin w =>
    rw [xmul_ff, xmul_ff]
    simp only [key] at h h0 ⊢
    exact Int.mul_le_mul_of_nonneg_right h h0
theorem xmul_anti {x x' y : X} (hx : okx C x) (hx' : okx C x') (hy : okx C y) (h : key x ≤ key x') (h0 : key y ≤ 0) : key (xmul x' y) ≤ key (xmul x y) := by
 have := xmul_mono hx hx' (xneg_ok hy) h (by rw [key_xneg]; omega)
 rw [xmul_neg', xmul_neg', key_xneg, key_xneg] at this
 omega
def El (s : Sp) (x : X) : Prop := okx C x ∧ key s.lo ≤ key x ∧ key x ≤ key s.hi
theorem El_lo {s : Sp} (hs : oks C s) (he : emp s = false) : El s s.lo := ⟨hs.1, Int.le_refl _, by have := of_decide_eq_false he; omega⟩
theorem El_hi {s : Sp} (hs : oks C s) (he : emp s = false) : El s s.hi := ⟨hs.2, by have := of_decide_eq_false he; omega, Int.le_refl _⟩
theorem corner {s t : Sp} (hs : oks C s) (ht : oks C t) {x y : X} (hx : El s x) (hy : El t y) :
  (∃ cx cy, (cx = s.lo ∨ cx = s.hi) ∧ (cy = t.lo ∨ cy = t.hi) ∧ key (xmul cx cy) ≤ key (xmul x y)) ∧ (∃ cx cy, (cx = s.lo ∨ cx = s.hi) ∧ (cy = t.lo ∨ cy = t.hi) ∧ key (xmul x y) ≤ key (xmul cx cy)) := by
 have one : ∀ {s : Sp} {x y : X}, oks C s → El s x → okx C y → (∃ cx, (cx = s.lo ∨ cx = s.hi) ∧ key (xmul cx y) ≤ key (xmul x y)) ∧ (∃ cx, (cx = s.lo ∨ cx = s.hi) ∧ key (xmul x y) ≤ key (xmul cx y)) := by
  intro s x y hs hx hy
  by_cases h : 0 ≤ key y
  ·exact ⟨⟨_, .inl rfl, xmul_mono hs.1 hx.1 hy hx.2.1 h⟩, ⟨_, .inr rfl, xmul_mono hx.1 hs.2 hy hx.2.2 h⟩⟩
  ·exact ⟨⟨_, .inr rfl, xmul_anti hx.1 hs.2 hy hx.2.2 (by omega)⟩, ⟨_, .inl rfl, xmul_anti hs.1 hx.1 hy hx.2.1 (by omega)⟩⟩
 obtain ⟨⟨cx, c1, c2⟩, ⟨dx, d1, d2⟩⟩ := one hs hx hy.1
 have okc : ∀ {c : X}, (c = s.lo ∨ c = s.hi) → okx C c := fun h => by rcases h with rfl | rfl; exact hs.1; exact hs.2
 obtain ⟨⟨cy, e1, e2⟩, _⟩ := one ht hy (okc c1)
 obtain ⟨_, ⟨dy, f1, f2⟩⟩ := one ht hy (okc d1)
 rw [xmul_comm cy, xmul_comm y] at e2
 rw [xmul_comm dy, xmul_comm y] at f2
 exact ⟨⟨cx, cy, c1, e1, by omega⟩, ⟨dx, dy, d1, f1, by omega⟩⟩
theorem xmin_or (x y : X) : xmin x y = x ∨ xmin x y = y := by unfold xmin; split; exact .inr rfl; exact .inl rfl
theorem xmax_or (x y : X) : xmax x y = x ∨ xmax x y = y := by unfold xmax; split; exact .inr rfl; exact .inl rfl
theorem apS_ends {o : X → X → X} {s t : Sp} (hs : emp s = false) (ht : emp t = false) :
  ((∃ x y, (x = s.lo ∨ x = s.hi) ∧ (y = t.lo ∨ y = t.hi) ∧ (apS o s t).lo = o x y) ∧ (∀ x y, (x = s.lo ∨ x = s.hi) → (y = t.lo ∨ y = t.hi) → key (apS o s t).lo ≤ key (o x y))) ∧
  ((∃ x y, (x = s.lo ∨ x = s.hi) ∧ (y = t.lo ∨ y = t.hi) ∧ (apS o s t).hi = o x y) ∧ (∀ x y, (x = s.lo ∨ x = s.hi) → (y = t.lo ∨ y = t.hi) → key (o x y) ≤ key (apS o s t).hi)) := by
 have e : apS o s t = ⟨xmin (xmin (xmin (o s.lo t.lo) (o s.lo t.hi)) (o s.hi t.lo)) (o s.hi t.hi), xmax (xmax (xmax (o s.lo t.lo) (o s.lo t.hi)) (o s.hi t.lo)) (o s.hi t.hi)⟩ := by
  unfold apS
  rw [if_neg (by simp [hs]), if_neg (by simp [ht]), non_hull, hullNE (emp_one _) (emp_one _)]
  have e1 := emp_one (o s.lo t.lo)
  have e2 := emp_one (o s.lo t.hi)
  have e3 := emp_one (o s.hi t.lo)
  have e4 := emp_one (o s.hi t.hi)
  have n1 := hull_emp e1 e2
  rw [hullNE e1 e2] at n1
  rw [hullNE n1 e3]
  have n2 := hull_emp n1 e3
  rw [hullNE n1 e3] at n2
  rw [hullNE n2 e4]
  rfl
 rw [e]
 refine ⟨⟨?_, ?_⟩, ⟨?_, ?_⟩⟩
 ·simp only
  rcases xmin_or (xmin (xmin (o s.lo t.lo) (o s.lo t.hi)) (o s.hi t.lo)) (o s.hi t.hi) with h | h <;> rw [h]
  ·rcases xmin_or (xmin (o s.lo t.lo) (o s.lo t.hi)) (o s.hi t.lo) with h | h <;> rw [h]
   ·rcases xmin_or (o s.lo t.lo) (o s.lo t.hi) with h | h <;> rw [h]
    ·exact ⟨_, _, .inl rfl, .inl rfl, rfl⟩
    ·exact ⟨_, _, .inl rfl, .inr rfl, rfl⟩
   ·exact ⟨_, _, .inr rfl, .inl rfl, rfl⟩
  ·exact ⟨_, _, .inr rfl, .inr rfl, rfl⟩
 ·intro x y hx hy
  simp only [key_min]
  rcases hx with rfl | rfl <;> rcases hy with rfl | rfl <;> omega
 ·simp only
  rcases xmax_or (xmax (xmax (o s.lo t.lo) (o s.lo t.hi)) (o s.hi t.lo)) (o s.hi t.hi) with h | h <;> rw [h]
  ·rcases xmax_or (xmax (o s.lo t.lo) (o s.lo t.hi)) (o s.hi t.lo) with h | h <;> rw [h]
   ·rcases xmax_or (o s.lo t.lo) (o s.lo t.hi) with h | h <;> rw [h]
    ·exact ⟨_, _, .inl rfl, .inl rfl, rfl⟩
    ·exact ⟨_, _, .inl rfl, .inr rfl, rfl⟩
   ·exact ⟨_, _, .inr rfl, .inl rfl, rfl⟩
  ·exact ⟨_, _, .inr rfl, .inr rfl, rfl⟩
 ·intro x y hx hy
  simp only [key_max]
  rcases hx with rfl | rfl <;> rcases hy with rfl | rfl <;> omega
end Go.N
namespace Go.N
open Go Go.Q Go.Rx
set_option linter.unusedVariables false
set_option linter.unusedSimpArgs false
set_option linter.unusedSectionVars false
def pt (i : Nat) (s : Sp) : Sp := if i = 0 then negS s else if i = 1 then zerS s else posS s
def Qp (i k : Nat) (p q : Sp) : Sp := if i = 1 ∨ k = 1 then ⟨.fin 0, .fin 0⟩ else if i = 0 then (if k = 0 then ⟨xmul p.hi q.hi, xmul p.lo q.lo⟩ else ⟨xmul p.lo q.hi, xmul p.hi q.lo⟩) else (if k = 0 then ⟨xmul p.hi q.lo, xmul p.lo q.hi⟩ else ⟨xmul p.lo q.lo, xmul p.hi q.hi⟩)
theorem pt_ok {s : Sp} (h : oks C s) (i : Nat) : oks C (pt i s) := by
 unfold pt; split
 ·exact negS_ok h
 ·split
  ·exact zerS_ok h
  ·exact posS_ok h
theorem i3 {i : Nat} (h : i < 3) : i = 0 ∨ i = 1 ∨ i = 2 := by omega
theorem pt_keys {s : Sp} (h : oks C s) : (key (negS s).lo = key s.lo ∧ key (negS s).hi = min (key s.hi) (-1)) ∧ (key (zerS s).lo = max (key s.lo) 0 ∧ key (zerS s).hi = min (key s.hi) 0) ∧ (key (posS s).lo = max (key s.lo) 1 ∧ key (posS s).hi = key s.hi) := by
 have a := key_le h.K.1
 have b := key_le h.K.2
 have h1 : key (negS s).lo = max (key s.lo) (-K) := key_max s.lo .ni
 have h2 : key (negS s).hi = min (key s.hi) (-1) := key_min s.hi (.fin (-1))
 have h3 : key (zerS s).lo = max (key s.lo) 0 := key_max s.lo (.fin 0)
 have h4 : key (zerS s).hi = min (key s.hi) 0 := key_min s.hi (.fin 0)
 have h5 : key (posS s).lo = max (key s.lo) 1 := key_max s.lo (.fin 1)
 have h6 : key (posS s).hi = min (key s.hi) K := key_min s.hi .pi
 omega
theorem El_sub {s : Sp} (hs : oks C s) {i : Nat} {x : X} (h : El (pt i s) x) : El s x := by
 have k := pt_keys hs
 obtain ⟨h1, h2, h3⟩ := h
 refine ⟨h1, ?_, ?_⟩ <;> unfold pt at h2 h3 <;> split at h2 <;> (try split at h2) <;> simp_all <;> omega
theorem El_ne {s : Sp} {x : X} (h : El s x) : emp s = false := decide_eq_false (by have := h.2; omega)
theorem El_sign {s : Sp} (hs : oks C s) {x : X} : (El (pt 0 s) x → key x ≤ -1) ∧ (El (pt 1 s) x → key x = 0) ∧ (El (pt 2 s) x → 1 ≤ key x) := by
 have k := pt_keys hs
 refine ⟨fun h => ?_, fun h => ?_, fun h => ?_⟩
 ·have := h.2.2; simp only [pt, if_true] at this; omega
 ·have a := h.2.1
  have b := h.2.2
  simp only [pt, Nat.one_ne_zero, if_true, if_false] at a b; omega
 ·have := h.2.1
  simp only [pt, show ¬ (2 = 0) by omega, show ¬ (2 = 1) by omega, if_false] at this; omega
theorem cls {s : Sp} (hs : oks C s) {x : X} (h : El s x) : ∃ i, i < 3 ∧ El (pt i s) x := by
 have k := pt_keys hs
 obtain ⟨h1, h2, h3⟩ := h
 rcases Int.lt_trichotomy (key x) 0 with z | z | z
 ·exact ⟨0, by omega, h1, by simp only [pt, if_true]; omega, by simp only [pt, if_true]; omega⟩
 ·exact ⟨1, by omega, h1, by simp only [pt, Nat.one_ne_zero, if_true, if_false]; omega, by simp only [pt, Nat.one_ne_zero, if_true, if_false]; omega⟩
 ·exact ⟨2, by omega, h1, by simp only [pt, show ¬ (2 = 0) by omega, show ¬ (2 = 1) by omega, if_false]; omega, by simp only [pt, show ¬ (2 = 0) by omega, show ¬ (2 = 1) by omega, if_false]; omega⟩
theorem sg0 {x : X} (h : key x = 0) : sg x = 0 := (sg_key x).2.1.2 h
theorem key_mul0 {x y : X} (h : key x = 0 ∨ key y = 0) : xmul x y = .fin 0 := by
 unfold xmul
 rw [if_pos]
 rcases h with h | h
 ·rw [sg0 h, Int.zero_mul]
 ·rw [sg0 h, Int.mul_zero]
theorem upr {x y y' : X} (hx : okx C x) (hy : okx C y) (hy' : okx C y') (h : key y ≤ key y') (h0 : 0 ≤ key x) : key (xmul x y) ≤ key (xmul x y') := by rw [xmul_comm x y, xmul_comm x y']; exact xmul_mono hy hy' hx h h0
theorem dnr {x y y' : X} (hx : okx C x) (hy : okx C y) (hy' : okx C y') (h : key y ≤ key y') (h0 : key x ≤ 0) : key (xmul x y') ≤ key (xmul x y) := by rw [xmul_comm x y, xmul_comm x y']; exact xmul_anti hy hy' hx h h0
theorem Qp_in {s t : Sp} (hs : oks C s) (ht : oks C t) {i k : Nat} (hi : i < 3) (hk : k < 3) {x y : X} (hx : El (pt i s) x) (hy : El (pt k t) y) :
  key (Qp i k (pt i s) (pt k t)).lo ≤ key (xmul x y) ∧ key (xmul x y) ≤ key (Qp i k (pt i s) (pt k t)).hi := by
 have ps := pt_ok hs i
 have qs := pt_ok ht k
 have pe := El_ne hx
 have qe := El_ne hy
 have a := El_lo ps pe
 have b := El_hi ps pe
 have c := El_lo qs qe
 have d := El_hi qs qe
 have S := @El_sign s hs
 have T := @El_sign t ht
 rcases i3 hi with rfl | rfl | rfl
 ·have sx := S.1 hx
  have sa := S.1 a
  have sb := S.1 b
  rcases i3 hk with rfl | rfl | rfl
  ·have sy := T.1 hy
   have sc := T.1 c
   have sd := T.1 d
   simp only [Qp, Nat.zero_ne_one, or_self, if_false, if_true]
   exact ⟨Int.le_trans (xmul_anti hx.1 b.1 d.1 hx.2.2 (by omega)) (dnr hx.1 hy.1 d.1 hy.2.2 (by omega)), Int.le_trans (xmul_anti a.1 hx.1 hy.1 hx.2.1 (by omega)) (dnr a.1 c.1 hy.1 hy.2.1 (by omega))⟩
  ·have sy := T.2.1 hy
   simp only [Qp, or_true, if_true]
   rw [key_mul0 (.inr sy)]; exact ⟨Int.le_refl _, Int.le_refl _⟩
  ·have sy := T.2.2 hy
   have sc := T.2.2 c
   have sd := T.2.2 d
   simp only [Qp, Nat.zero_ne_one, show ¬ (2 = 1) by omega, show ¬ (2 = 0) by omega, or_self, if_false, if_true]
   exact ⟨Int.le_trans (dnr a.1 hy.1 d.1 hy.2.2 (by omega)) (xmul_mono a.1 hx.1 hy.1 hx.2.1 (by omega)), Int.le_trans (xmul_mono hx.1 b.1 hy.1 hx.2.2 (by omega)) (dnr b.1 c.1 hy.1 hy.2.1 (by omega))⟩
 ·have sx := S.2.1 hx
  simp only [Qp, true_or, if_true]
  rw [key_mul0 (.inl sx)]; exact ⟨Int.le_refl _, Int.le_refl _⟩
 ·have sx := S.2.2 hx
  have sa := S.2.2 a
  have sb := S.2.2 b
  rcases i3 hk with rfl | rfl | rfl
  ·have sy := T.1 hy
   have sc := T.1 c
   have sd := T.1 d
   simp only [Qp, Nat.zero_ne_one, show ¬ (2 = 1) by omega, show ¬ (2 = 0) by omega, or_self, if_false, if_true]
   exact ⟨Int.le_trans (xmul_anti hx.1 b.1 c.1 hx.2.2 (by omega)) (upr hx.1 c.1 hy.1 hy.2.1 (by omega)), Int.le_trans (xmul_anti a.1 hx.1 hy.1 hx.2.1 (by omega)) (upr a.1 hy.1 d.1 hy.2.2 (by omega))⟩
  ·have sy := T.2.1 hy
   simp only [Qp, or_true, if_true]
   rw [key_mul0 (.inr sy)]; exact ⟨Int.le_refl _, Int.le_refl _⟩
  ·have sy := T.2.2 hy
   have sc := T.2.2 c
   have sd := T.2.2 d
   simp only [Qp, show ¬ (2 = 1) by omega, show ¬ (2 = 0) by omega, or_self, if_false]
   exact ⟨Int.le_trans (xmul_mono a.1 hx.1 c.1 hx.2.1 (by omega)) (upr hx.1 c.1 hy.1 hy.2.1 (by omega)), Int.le_trans (xmul_mono hx.1 b.1 hy.1 hx.2.2 (by omega)) (upr b.1 hy.1 d.1 hy.2.2 (by omega))⟩
theorem Qp_ends {s t : Sp} (hs : oks C s) (ht : oks C t) {i k : Nat} (hi : i < 3) (hk : k < 3) (ei : emp (pt i s) = false) (ek : emp (pt k t) = false) :
  (∃ x y, El (pt i s) x ∧ El (pt k t) y ∧ (Qp i k (pt i s) (pt k t)).lo = xmul x y) ∧ (∃ x y, El (pt i s) x ∧ El (pt k t) y ∧ (Qp i k (pt i s) (pt k t)).hi = xmul x y) := by
 have a := El_lo (pt_ok hs i) ei
 have b := El_hi (pt_ok hs i) ei
 have c := El_lo (pt_ok ht k) ek
 have d := El_hi (pt_ok ht k) ek
 by_cases z : i = 1 ∨ k = 1
 ·have e : xmul (pt i s).lo (pt k t).lo = .fin 0 := by
   apply key_mul0
   rcases z with rfl | rfl
   ·exact .inl ((El_sign hs).2.1 a)
   ·exact .inr ((El_sign ht).2.1 c)
  simp only [Qp, if_pos z]
  exact ⟨⟨_, _, a, c, e.symm⟩, ⟨_, _, a, c, e.symm⟩⟩
 ·unfold Qp
  rw [if_neg z]
  split <;> split
  ·exact ⟨⟨_, _, b, d, rfl⟩, ⟨_, _, a, c, rfl⟩⟩
  ·exact ⟨⟨_, _, a, d, rfl⟩, ⟨_, _, b, c, rfl⟩⟩
  ·exact ⟨⟨_, _, b, c, rfl⟩, ⟨_, _, a, d, rfl⟩⟩
  ·exact ⟨⟨_, _, a, c, rfl⟩, ⟨_, _, b, d, rfl⟩⟩
theorem Qp_ok {s t : Sp} (hs : oks C s) (ht : oks C t) (i k : Nat) : oks K (Qp i k (pt i s) (pt k t)) := by
 have hK := K_gt
 have p := pt_ok hs i
 have q := pt_ok ht k
 have z : okx K (.fin 0) := by simp only [okx]; omega
 unfold Qp
 split
 ·exact ⟨z, z⟩
 ·split <;> split
  ·exact ⟨xmul_ok p.2 q.2, xmul_ok p.1 q.1⟩
  ·exact ⟨xmul_ok p.1 q.2, xmul_ok p.2 q.1⟩
  ·exact ⟨xmul_ok p.2 q.1, xmul_ok p.1 q.2⟩
  ·exact ⟨xmul_ok p.1 q.1, xmul_ok p.2 q.2⟩
theorem xmul_1 (x : X) : xmul (.fin 1) x = x := by
 cases x with
 | fin z => rw [xmul_ff, Int.one_mul]
 | ni => rfl
 | pi => rfl
theorem xmul_m1 (x : X) : xmul (.fin (-1)) x = xneg x := by
 have := xmul_neg (.fin 1) x
 rw [xmul_1] at this
 exact this
section
variable {s t : Sp} (hs : oks C s) (ht : oks C t) (es : emp s = false) (et : emp t = false) (ps : Pr s) (pt' : Pr t)
include hs ht es et
theorem corner_ok {x y : X} (hx : x = s.lo ∨ x = s.hi) (hy : y = t.lo ∨ y = t.hi) : El s x ∧ El t y := by
 constructor
 ·rcases hx with rfl | rfl
  ·exact El_lo hs es
  ·exact El_hi hs es
 ·rcases hy with rfl | rfl
  ·exact El_lo ht et
  ·exact El_hi ht et
theorem F1 {i k : Nat} (hi : i < 3) (hk : k < 3) (ei : emp (pt i s) = false) (ek : emp (pt k t) = false) :
  key (apS xmul s t).lo ≤ key (Qp i k (pt i s) (pt k t)).lo ∧ key (Qp i k (pt i s) (pt k t)).hi ≤ key (apS xmul s t).hi := by
 obtain ⟨⟨x, y, hx, hy, e⟩, ⟨x', y', hx', hy', e'⟩⟩ := Qp_ends hs ht hi hk ei ek
 have en := apS_ends (o := xmul) es et
 obtain ⟨⟨cx, cy, c1, c2, c3⟩, _⟩ := corner hs ht (El_sub hs hx) (El_sub ht hy)
 obtain ⟨_, ⟨dx, dy, d1, d2, d3⟩⟩ := corner hs ht (El_sub hs hx') (El_sub ht hy')
 have a := en.1.2 cx cy c1 c2
 have b := en.2.2 dx dy d1 d2
 rw [e, e']
 omega
theorem F2 : (∃ i k, i < 3 ∧ k < 3 ∧ emp (pt i s) = false ∧ emp (pt k t) = false ∧ (Qp i k (pt i s) (pt k t)).lo = (apS xmul s t).lo) ∧
  (∃ i k, i < 3 ∧ k < 3 ∧ emp (pt i s) = false ∧ emp (pt k t) = false ∧ (Qp i k (pt i s) (pt k t)).hi = (apS xmul s t).hi) := by
 have en := apS_ends (o := xmul) es et
 have ok := mulS_ok hs ht
 constructor
 ·obtain ⟨cx, cy, c1, c2, c3⟩ := en.1.1
  have co := corner_ok hs ht es et c1 c2
  obtain ⟨i, hi, xi⟩ := cls hs co.1
  obtain ⟨k, hk, yk⟩ := cls ht co.2
  have ei := El_ne xi
  have ek := El_ne yk
  have q := Qp_in hs ht hi hk xi yk
  have f := F1 hs ht es et hi hk ei ek
  refine ⟨i, k, hi, hk, ei, ek, key_inj (Qp_ok hs ht i k).1 ok.1 ?_⟩
  rw [← c3] at q
  omega
 ·obtain ⟨cx, cy, c1, c2, c3⟩ := en.2.1
  have co := corner_ok hs ht es et c1 c2
  obtain ⟨i, hi, xi⟩ := cls hs co.1
  obtain ⟨k, hk, yk⟩ := cls ht co.2
  have ei := El_ne xi
  have ek := El_ne yk
  have q := Qp_in hs ht hi hk xi yk
  have f := F1 hs ht es et hi hk ei ek
  refine ⟨i, k, hi, hk, ei, ek, key_inj (Qp_ok hs ht i k).2 ok.2 ?_⟩
  rw [← c3] at q
  omega
end
theorem near {s : Sp} (hs : oks C s) (ps : Pr s) {x : X} (hx : El s x) : (emp (posS s) = false → ¬ El (pt 2 s) x → (posS s).lo = .fin 1) ∧ (emp (negS s) = false → ¬ El (pt 0 s) x → (negS s).hi = .fin (-1)) := by
 have k := pt_keys hs
 have n3 : ∀ z, key (X.fin z) = z := fun _ => rfl
 refine ⟨fun e h => ?_, fun e h => ?_⟩
 ·apply key_inj (posS_ok hs).K.1 ((one_okx (by decide) (by decide)).mono (Int.le_of_lt C_lt_K))
  rw [n3]
  by_cases c : key x ≤ 0
  ·have := hx.2; omega
  ·exfalso; apply h
   refine ⟨hx.1, ?_, ?_⟩ <;> simp only [pt, show ¬ (2 = 0) by omega, show ¬ (2 = 1) by omega, if_false] <;> have := hx.2 <;> omega
 ·apply key_inj (negS_ok hs).K.2 ((one_okx (by decide) (by decide)).mono (Int.le_of_lt C_lt_K))
  rw [n3]
  by_cases c : 0 ≤ key x
  ·have := hx.2; omega
  ·exfalso; apply h
   refine ⟨hx.1, ?_, ?_⟩ <;> simp only [pt, if_true] <;> have := hx.2 <;> omega
theorem near_fin {s : Sp} (hs : oks C s) (ps : Pr s) : (emp (posS s) = false → key (posS s).lo < C) ∧ (emp (negS s) = false → -C < key (negS s).hi) := by
 constructor
 ·intro e
  obtain ⟨l, e1, e2, _⟩ := posS_lo e hs ps
  have := (posS_ok hs).1
  rw [e1] at this ⊢
  exact this.2
 ·intro e
  have p := (negS_pr ps hs).resolve_left (by simp [e])
  have ok := (negS_ok hs).2
  have k := (pt_keys hs).1.2
  have hK := K_gt
  cases h : (negS s).hi with
  | ni => exact absurd h p.2
  | pi => rw [h] at k; simp only [key] at k; omega
  | fin z => rw [h] at ok; exact ok.1
section
variable {s t : Sp} (hs : oks C s) (ht : oks C t) (es : emp s = false) (et : emp t = false) (ps : Pr s) (pt' : Pr t)
include hs ht es et ps pt'
theorem F3 {i k : Nat} (hi : i < 3) (hk : k < 3) (ei : emp (pt i s) = false) (ek : emp (pt k t) = false) :
  (C ≤ key (Qp i k (pt i s) (pt k t)).lo → (Qp i k (pt i s) (pt k t)).lo = (apS xmul s t).lo) ∧ (key (Qp i k (pt i s) (pt k t)).hi ≤ -C → (Qp i k (pt i s) (pt k t)).hi = (apS xmul s t).hi) := by
 have hC := C_gt
 have en := apS_ends (o := xmul) es et
 have ok := mulS_ok hs ht
 have okq := Qp_ok hs ht i k
 have f := F1 hs ht es et hi hk ei ek
 have S := @El_sign s hs
 have T := @El_sign t ht
 have a := El_lo (pt_ok hs i) ei
 have b := El_hi (pt_ok hs i) ei
 have c := El_lo (pt_ok ht k) ek
 have d := El_hi (pt_ok ht k) ek
 have sgn : ∀ {x y : X}, (1 ≤ key x ∧ 1 ≤ key y) ∨ (key x ≤ -1 ∧ key y ≤ -1) → 0 < key (xmul x y) := by
  intro x y h
  have m := key_mul_sg (x := x) (y := y)
  have gx := sg_key x
  have gy := sg_key y
  have sx := sg3 x
  have sy := sg3 y
  rcases h with h | h
  ·have e1 : sg x = 1 := by omega
   have e2 : sg y = 1 := by omega
   rw [e1, e2] at m; omega
  ·have e1 : sg x = -1 := by omega
   have e2 : sg y = -1 := by omega
   rw [e1, e2] at m; omega
 have sgn' : ∀ {x y : X}, (1 ≤ key x ∧ key y ≤ -1) ∨ (key x ≤ -1 ∧ 1 ≤ key y) → key (xmul x y) < 0 := by
  intro x y h
  have m := key_mul_sg (x := x) (y := y)
  have gx := sg_key x
  have gy := sg_key y
  have sx := sg3 x
  have sy := sg3 y
  rcases h with h | h
  ·have e1 : sg x = 1 := by omega
   have e2 : sg y = -1 := by omega
   rw [e1, e2] at m; omega
  ·have e1 : sg x = -1 := by omega
   have e2 : sg y = 1 := by omega
   rw [e1, e2] at m; omega
 have p0 : pt 0 s = negS s := rfl
 have p2 : pt 2 s = posS s := rfl
 have q0 : pt 0 t = negS t := rfl
 have q2 : pt 2 t = posS t := rfl
 have NS := near_fin hs ps
 have NT := near_fin ht pt'
 constructor
 ·intro hbig
  apply key_inj okq.1 ok.1
  obtain ⟨cx, cy, c1, c2, c3⟩ := en.1.1
  have co := corner_ok hs ht es et c1 c2
  by_cases in1 : El (pt i s) cx
  ·by_cases in2 : El (pt k t) cy
   ·have q := Qp_in hs ht hi hk in1 in2
    rw [← c3] at q
    omega
   ·exfalso
    rcases i3 hi with rfl | rfl | rfl <;> rcases i3 hk with rfl | rfl | rfl <;> simp only [Qp, Nat.zero_ne_one, Nat.one_ne_zero, show ¬ (2 = 1) by omega, show ¬ (2 = 0) by omega, or_self, or_true, true_or, if_false, if_true] at hbig <;> (try simp only [show key (X.fin 0) = 0 from rfl] at hbig) <;> (try omega)
    ·rw [p0, q0] at hbig
     rw [q0] at ek
     rw [(near ht pt' co.2).2 ek in2, xmul_comm, xmul_m1, key_xneg] at hbig
     rw [p0] at ei
     have := NS.2 ei; omega
    ·have := sgn' (x := (pt 0 s).lo) (y := (pt 2 t).hi) (.inr ⟨S.1 a, T.2.2 d⟩); omega
    ·have := sgn' (x := (pt 2 s).hi) (y := (pt 0 t).lo) (.inl ⟨S.2.2 b, T.1 c⟩); omega
    ·rw [p2, q2] at hbig
     rw [q2] at ek
     rw [(near ht pt' co.2).1 ek in2, xmul_comm, xmul_1] at hbig
     rw [p2] at ei
     have := NS.1 ei; omega
  ·exfalso
   rcases i3 hi with rfl | rfl | rfl <;> rcases i3 hk with rfl | rfl | rfl <;> simp only [Qp, Nat.zero_ne_one, Nat.one_ne_zero, show ¬ (2 = 1) by omega, show ¬ (2 = 0) by omega, or_self, or_true, true_or, if_false, if_true] at hbig <;> (try simp only [show key (X.fin 0) = 0 from rfl] at hbig) <;> (try omega)
   ·rw [p0, q0] at hbig
    rw [p0] at ei
    rw [(near hs ps co.1).2 ei in1, xmul_m1, key_xneg] at hbig
    rw [q0] at ek
    have := NT.2 ek; omega
   ·have := sgn' (x := (pt 0 s).lo) (y := (pt 2 t).hi) (.inr ⟨S.1 a, T.2.2 d⟩); omega
   ·have := sgn' (x := (pt 2 s).hi) (y := (pt 0 t).lo) (.inl ⟨S.2.2 b, T.1 c⟩); omega
   ·rw [p2, q2] at hbig
    rw [p2] at ei
    rw [(near hs ps co.1).1 ei in1, xmul_1] at hbig
    rw [q2] at ek
    have := NT.1 ek; omega
 ·intro hbig
  apply key_inj okq.2 ok.2
  obtain ⟨cx, cy, c1, c2, c3⟩ := en.2.1
  have co := corner_ok hs ht es et c1 c2
  by_cases in1 : El (pt i s) cx
  ·by_cases in2 : El (pt k t) cy
   ·have q := Qp_in hs ht hi hk in1 in2
    rw [← c3] at q
    omega
   ·exfalso
    rcases i3 hi with rfl | rfl | rfl <;> rcases i3 hk with rfl | rfl | rfl <;> simp only [Qp, Nat.zero_ne_one, Nat.one_ne_zero, show ¬ (2 = 1) by omega, show ¬ (2 = 0) by omega, or_self, or_true, true_or, if_false, if_true] at hbig <;> (try simp only [show key (X.fin 0) = 0 from rfl] at hbig) <;> (try omega)
    ·have := sgn (x := (pt 0 s).lo) (y := (pt 0 t).lo) (.inr ⟨S.1 a, T.1 c⟩); omega
    ·rw [p0, q2] at hbig
     rw [q2] at ek
     rw [(near ht pt' co.2).1 ek in2, xmul_comm, xmul_1] at hbig
     rw [p0] at ei
     have := NS.2 ei; omega
    ·rw [p2, q0] at hbig
     rw [q0] at ek
     rw [(near ht pt' co.2).2 ek in2, xmul_comm, xmul_m1, key_xneg] at hbig
     rw [p2] at ei
     have := NS.1 ei; omega
    ·have := sgn (x := (pt 2 s).hi) (y := (pt 2 t).hi) (.inl ⟨S.2.2 b, T.2.2 d⟩); omega
  ·exfalso
   rcases i3 hi with rfl | rfl | rfl <;> rcases i3 hk with rfl | rfl | rfl <;> simp only [Qp, Nat.zero_ne_one, Nat.one_ne_zero, show ¬ (2 = 1) by omega, show ¬ (2 = 0) by omega, or_self, or_true, true_or, if_false, if_true] at hbig <;> (try simp only [show key (X.fin 0) = 0 from rfl] at hbig) <;> (try omega)
   ·have := sgn (x := (pt 0 s).lo) (y := (pt 0 t).lo) (.inr ⟨S.1 a, T.1 c⟩); omega
   ·rw [p0, q2] at hbig
    rw [p0] at ei
    rw [(near hs ps co.1).2 ei in1, xmul_m1, key_xneg] at hbig
    rw [q2] at ek
    have := NT.1 ek; omega
   ·rw [p2, q0] at hbig
    rw [p2] at ei
    rw [(near hs ps co.1).1 ei in1, xmul_1] at hbig
    rw [q0] at ek
    have := NT.2 ek; omega
   ·have := sgn (x := (pt 2 s).hi) (y := (pt 2 t).hi) (.inl ⟨S.2.2 b, T.2.2 d⟩); omega
theorem Qp_pr {i k : Nat} (hi : i < 3) (hk : k < 3) (ei : emp (pt i s) = false) (ek : emp (pt k t) = false) : emp (Qp i k (pt i s) (pt k t)) = false ∧ (Qp i k (pt i s) (pt k t)).lo ≠ .pi ∧ (Qp i k (pt i s) (pt k t)).hi ≠ .ni := by
 have hK := K_gt
 have a := El_lo (pt_ok hs i) ei
 have b := El_hi (pt_ok hs i) ei
 have c := El_lo (pt_ok ht k) ek
 have d := El_hi (pt_ok ht k) ek
 have q := Qp_in hs ht hi hk a c
 refine ⟨decide_eq_false (by omega), ?_⟩
 have fl : ∀ {s : Sp}, oks C s → Pr s → emp (pt 2 s) = false → ∃ z, (pt 2 s).lo = .fin z := fun h p e => by
  obtain ⟨l, e1, _⟩ := posS_lo (s := _) e h p
  exact ⟨l, e1⟩
 have fh : ∀ {s : Sp}, oks C s → Pr s → emp (pt 0 s) = false → ∃ z, (pt 0 s).hi = .fin z := fun {s} h p e => by
  have p' := (negS_pr p h).resolve_left (by rw [show negS s = pt 0 s from rfl, e]; simp)
  have k := (pt_keys h).1.2
  cases h' : (negS s).hi with
  | ni => exact absurd h' p'.2
  | pi => rw [h'] at k; simp only [key] at k; omega
  | fin z => exact ⟨z, h'⟩
 have bad : ∀ {x y : X} {g : Int}, sg x * sg y = g → (g = -1 → xmul x y ≠ .pi) ∧ (g = 1 → xmul x y ≠ .ni) := fun {x y g} h => by
  have m := key_mul_sg (x := x) (y := y)
  rw [h] at m
  constructor
  ·rintro rfl e
   rw [e] at m; simp only [key] at m; omega
  ·rintro rfl e
   rw [e] at m; simp only [key] at m; omega
 have sa := @El_sign s hs
 have sc := @El_sign t ht
 have gp : ∀ {x : X}, 1 ≤ key x → sg x = 1 := fun {x} h => by have := sg_key x; have := sg3 x; omega
 have gn : ∀ {x : X}, key x ≤ -1 → sg x = -1 := fun {x} h => by have := sg_key x; have := sg3 x; omega
 rcases i3 hi with rfl | rfl | rfl <;> rcases i3 hk with rfl | rfl | rfl <;> simp only [Qp, Nat.zero_ne_one, Nat.one_ne_zero, show ¬ (2 = 1) by omega, show ¬ (2 = 0) by omega, or_self, or_true, true_or, if_false, if_true]
 ·obtain ⟨u, hu⟩ := fh hs ps ei
  obtain ⟨v, hv⟩ := fh ht pt' ek
  refine ⟨by rw [hu, hv, xmul_ff]; simp, (bad (g := 1) ?_).2 rfl⟩
  rw [gn (sa.1 a), gn (sc.1 c)]; rfl
 ·simp
 ·obtain ⟨u, hu⟩ := fh hs ps ei
  obtain ⟨v, hv⟩ := fl ht pt' ek
  refine ⟨(bad (g := -1) ?_).1 rfl, by rw [hu, hv, xmul_ff]; simp⟩
  rw [gn (sa.1 a), gp (sc.2.2 d)]; rfl
 ·simp
 ·simp
 ·simp
 ·obtain ⟨u, hu⟩ := fl hs ps ei
  obtain ⟨v, hv⟩ := fh ht pt' ek
  refine ⟨(bad (g := -1) ?_).1 rfl, by rw [hu, hv, xmul_ff]; simp⟩
  rw [gp (sa.2.2 b), gn (sc.1 c)]; rfl
 ·simp
 ·obtain ⟨u, hu⟩ := fl hs ps ei
  obtain ⟨v, hv⟩ := fl ht pt' ek
  refine ⟨by rw [hu, hv, xmul_ff]; simp, (bad (g := 1) ?_).2 rfl⟩
  rw [gp (sa.2.2 b), gp (sc.2.2 d)]; rfl
end
theorem joinA {a b : A} (ha : Wf a) (hb : Wf b) (ea : a.em = false) (eb : b.em = false) : toA (hull (ofA a) (ofA b)) = ⟨false, leastO a.lo b.lo, greatestO a.hi b.hi⟩ := by
 have e1 := emp_ofA ha
 have e2 := emp_ofA hb
 rw [ea] at e1
 rw [eb] at e2
 have ne := hull_emp e1 e2
 rw [hullNE e1 e2] at ne ⊢
 have xa : ofA a = ⟨lox a.lo, hix a.hi⟩ := by unfold ofA; rw [if_neg (by simp [ea])]
 have xb : ofA b = ⟨lox b.lo, hix b.hi⟩ := by unfold ofA; rw [if_neg (by simp [eb])]
 unfold toA
 rw [ne, if_neg (by simp), xa, xb]
 simp only
 rw [← (lox_least ha.loK hb.loK).1, ← (hix_greatest ha.hiK hb.hiK).1, tx_lox, tx_hix]
 have l1 := ha.lo
 have l2 := hb.lo
 have l3 := ha.hi
 have l4 := hb.hi
 congr 1
 ·cases h1 : a.lo <;> cases h2 : b.lo <;> simp only [leastO, Option.bind_none, Option.bind_some, clip]
  rw [h1] at l1; rw [h2] at l2
  simp only [okb] at l1 l2
  rw [if_pos (by split <;> omega)]
 ·cases h1 : a.hi <;> cases h2 : b.hi <;> simp only [greatestO, Option.bind_none, Option.bind_some, clip]
  rw [h1] at l3; rw [h2] at l4
  simp only [okb] at l3 l4
  rw [if_pos (by split <;> omega)]
def LoI (S : List Sp) : Option Int → Prop
 | none => ∃ q ∈ S, tx q.lo = none
 | some m => (∃ q ∈ S, tx q.lo = some m) ∧ ∀ q ∈ S, ∃ z, tx q.lo = some z ∧ m ≤ z
def HiI (S : List Sp) : Option Int → Prop
 | none => ∃ q ∈ S, tx q.hi = none
 | some m => (∃ q ∈ S, tx q.hi = some m) ∧ ∀ q ∈ S, ∃ z, tx q.hi = some z ∧ z ≤ m
structure Inv (S : List Sp) (out : A) : Prop where
 wf : Wf out
 nil : S = [] → out = E0
 some : S ≠ [] → out.em = false ∧ LoI S out.lo ∧ HiI S out.hi
theorem inv_step {S : List Sp} {out : A} (h : Inv S out) {q : Sp} (hq : oks K q) (eq : emp q = false) (p1 : q.lo ≠ .pi) (p2 : q.hi ≠ .ni) : Inv (q :: S) (toA (hull (ofA out) (ofA (toA q)))) := by
 have wq : Wf (toA q) := toA_wf hq (.inr ⟨p1, p2⟩)
 have fq : toA q = ⟨false, tx q.lo, tx q.hi⟩ := by unfold toA; rw [eq, if_neg (by simp)]
 by_cases hS : S = []
 ·subst hS
  have e := h.nil rfl
  subst e
  have e0 : ofA E0 = non := rfl
  rw [e0, non_hull, toA_ofA wq]
  refine ⟨wq, (fun h => by simp at h), fun _ => ?_⟩
  rw [fq]
  refine ⟨rfl, ?_, ?_⟩
  ·simp only
   cases hx : tx q.lo with
   | none => exact ⟨q, by simp, hx⟩
   | some m => exact ⟨⟨q, by simp, hx⟩, fun r hr => by simp only [List.mem_singleton] at hr; subst hr; exact ⟨m, hx, Int.le_refl _⟩⟩
  ·simp only
   cases hx : tx q.hi with
   | none => exact ⟨q, by simp, hx⟩
   | some m => exact ⟨⟨q, by simp, hx⟩, fun r hr => by simp only [List.mem_singleton] at hr; subst hr; exact ⟨m, hx, Int.le_refl _⟩⟩
 ·obtain ⟨e1, e2, e3⟩ := h.some hS
  have em : (toA q).em = false := by rw [fq]
  have j := joinA h.wf wq e1 em
  have w : Wf (toA (hull (ofA out) (ofA (toA q)))) := by
   refine toA_wf (hull_ok h.wf.okK wq.okK) ?_
   have x := h.wf.pr
   have y := wq.pr
   have a1 := emp_ofA h.wf
   have a2 := emp_ofA wq
   rw [e1] at a1
   rw [em] at a2
   right
   rw [hullNE a1 a2]
   have x' := x.resolve_left (by simp [a1])
   have y' := y.resolve_left (by simp [a2])
   constructor
   ·simp only; rcases xmin_or (ofA out).lo (ofA (toA q)).lo with g | g <;> rw [g]
    ·exact x'.1
    ·exact y'.1
   ·simp only; rcases xmax_or (ofA out).hi (ofA (toA q)).hi with g | g <;> rw [g]
    ·exact x'.2
    ·exact y'.2
  refine ⟨w, (fun h => by simp at h), fun _ => ?_⟩
  rw [j, fq]
  refine ⟨rfl, ?_, ?_⟩
  ·simp only
   cases ho : out.lo with
   | none =>
    rw [ho] at e2
    obtain ⟨r, r1, r2⟩ := e2
    exact ⟨r, by simp [r1], r2⟩
   | some m =>
    rw [ho] at e2
    obtain ⟨⟨r, r1, r2⟩, r3⟩ := e2
    cases hx : tx q.lo with
    | none => exact ⟨q, by simp, hx⟩
    | some z =>
     simp only [leastO]
     by_cases c : z < m
     ·rw [if_pos c]
      refine ⟨⟨q, by simp, hx⟩, fun p hp => ?_⟩
      rcases List.mem_cons.1 hp with rfl | hp
      ·exact ⟨z, hx, Int.le_refl _⟩
      ·obtain ⟨v, v1, v2⟩ := r3 p hp
       exact ⟨v, v1, by omega⟩
     ·rw [if_neg c]
      refine ⟨⟨r, by simp [r1], r2⟩, fun p hp => ?_⟩
      rcases List.mem_cons.1 hp with rfl | hp
      ·exact ⟨z, hx, by omega⟩
      ·exact r3 p hp
  ·simp only
   cases ho : out.hi with
   | none =>
    rw [ho] at e3
    obtain ⟨r, r1, r2⟩ := e3
    exact ⟨r, by simp [r1], r2⟩
   | some m =>
    rw [ho] at e3
    obtain ⟨⟨r, r1, r2⟩, r3⟩ := e3
    cases hx : tx q.hi with
    | none => exact ⟨q, by simp, hx⟩
    | some z =>
     simp only [greatestO]
     by_cases c : m < z
     ·rw [if_pos c]
      refine ⟨⟨q, by simp, hx⟩, fun p hp => ?_⟩
      rcases List.mem_cons.1 hp with rfl | hp
      ·exact ⟨z, hx, Int.le_refl _⟩
      ·obtain ⟨v, v1, v2⟩ := r3 p hp
       exact ⟨v, v1, by omega⟩
     ·rw [if_neg c]
      refine ⟨⟨r, by simp [r1], r2⟩, fun p hp => ?_⟩
      rcases List.mem_cons.1 hp with rfl | hp
      ·exact ⟨z, hx, by omega⟩
      ·exact r3 p hp
def prs : List (Nat × Nat) := [(0, 0), (0, 1), (0, 2), (1, 0), (1, 1), (1, 2), (2, 0), (2, 1), (2, 2)]
def stA (s t : Sp) (out : A) (p : Nat × Nat) : A := if emp (pt p.1 s) = true then out else if emp (pt p.2 t) = true then out else toA (hull (ofA out) (ofA (toA (Qp p.1 p.2 (pt p.1 s) (pt p.2 t)))))
def stL (s t : Sp) (S : List Sp) (p : Nat × Nat) : List Sp := if emp (pt p.1 s) = true then S else if emp (pt p.2 t) = true then S else Qp p.1 p.2 (pt p.1 s) (pt p.2 t) :: S
section
variable {s t : Sp} (hs : oks C s) (ht : oks C t) (es : emp s = false) (et : emp t = false) (ps : Pr s) (pt' : Pr t)
include hs ht es et ps pt'
theorem inv_one {S : List Sp} {out : A} (h : Inv S out) {p : Nat × Nat} (h1 : p.1 < 3) (h2 : p.2 < 3) : Inv (stL s t S p) (stA s t out p) := by
 unfold stL stA
 by_cases c1 : emp (pt p.1 s) = true
 ·rw [if_pos c1, if_pos c1]; exact h
 ·rw [if_neg c1, if_neg c1]
  by_cases c2 : emp (pt p.2 t) = true
  ·rw [if_pos c2, if_pos c2]; exact h
  ·rw [if_neg c2, if_neg c2]
   have q := Qp_pr hs ht es et ps pt' h1 h2 (by simpa using c1) (by simpa using c2)
   exact inv_step h (Qp_ok hs ht _ _) q.1 q.2.1 q.2.2
theorem inv_all : ∀ (l : List (Nat × Nat)) (S : List Sp) (out : A), (∀ p ∈ l, p.1 < 3 ∧ p.2 < 3) → Inv S out → Inv (l.foldl (stL s t) S) (l.foldl (stA s t) out)
 | [], S, out, _, h => h
 | p :: l, S, out, hl, h => by
  have hp := hl p (by simp)
  exact inv_all l _ _ (fun q hq => hl q (by simp [hq])) (inv_one hs ht es et ps pt' h hp.1 hp.2)
omit hs ht es et ps pt' in
theorem mem_all (q : Sp) : ∀ (l : List (Nat × Nat)) (S : List Sp), q ∈ l.foldl (stL s t) S ↔ q ∈ S ∨ ∃ p ∈ l, emp (pt p.1 s) = false ∧ emp (pt p.2 t) = false ∧ q = Qp p.1 p.2 (pt p.1 s) (pt p.2 t)
 | [], S => by simp
 | p :: l, S => by
  rw [List.foldl_cons, mem_all q l]
  unfold stL
  by_cases c1 : emp (pt p.1 s) = true
  ·rw [if_pos c1]; simp [c1]
  ·rw [if_neg c1]
   by_cases c2 : emp (pt p.2 t) = true
   ·rw [if_pos c2]; simp [c2]
   ·rw [if_neg c2]
    simp only [List.mem_cons, Bool.not_eq_true] at c1 c2 ⊢
    constructor
    ·rintro ((h | h) | ⟨r, r1, r2⟩)
     ·exact .inr ⟨p, .inl rfl, c1, c2, h⟩
     ·exact .inl h
     ·exact .inr ⟨r, .inr r1, r2⟩
    ·rintro (h | ⟨r, rfl | r1, r2⟩)
     ·exact .inl (.inr h)
     ·exact .inl (.inl r2.2.2)
     ·exact .inr ⟨r, r1, r2⟩
theorem fold_mul : prs.foldl (stA s t) E0 = toA (apS xmul s t) := by
 have hC := C_gt
 have hK := C_lt_K
 have inv := inv_all hs ht es et ps pt' prs [] E0 (by decide) ⟨toA_non ▸ toA_wf non_ok (.inl emp_non), fun _ => rfl, fun h => absurd rfl h⟩
 have mem := fun q => mem_all (s := s) (t := t) q prs []
 have f2 := F2 hs ht es et
 have lt3 : ∀ p ∈ prs, p.1 < 3 ∧ p.2 < 3 := by decide
 have inp : ∀ i k, i < 3 → k < 3 → (i, k) ∈ prs := by
  intro i k hi hk
  rcases i3 hi with rfl | rfl | rfl <;> rcases i3 hk with rfl | rfl | rfl <;> decide
 have ok := mulS_ok hs ht
 have ne := apS_emp (o := xmul) es et
 generalize hS : prs.foldl (stL s t) [] = S at inv mem
 have ms : ∀ q, q ∈ S → ∃ i k, i < 3 ∧ k < 3 ∧ emp (pt i s) = false ∧ emp (pt k t) = false ∧ q = Qp i k (pt i s) (pt k t) := fun q hq => by
  rcases (mem q).1 hq with h | ⟨p, p1, p2, p3, p4⟩
  ·simp at h
  ·exact ⟨p.1, p.2, (lt3 p p1).1, (lt3 p p1).2, p2, p3, p4⟩
 have low : ∀ q ∈ S, key (apS xmul s t).lo ≤ key q.lo ∧ key q.hi ≤ key (apS xmul s t).hi ∧ (C ≤ key q.lo → q.lo = (apS xmul s t).lo) ∧ (key q.hi ≤ -C → q.hi = (apS xmul s t).hi) ∧ oks K q := fun q hq => by
  obtain ⟨i, k, hi, hk, ei, ek, rfl⟩ := ms q hq
  have a := F1 hs ht es et hi hk ei ek
  have b := F3 hs ht es et ps pt' hi hk ei ek
  exact ⟨a.1, a.2, b.1, b.2, Qp_ok hs ht i k⟩
 obtain ⟨⟨i, k, hi, hk, ei, ek, eL⟩, ⟨i', k', hi', hk', ei', ek', eH⟩⟩ := f2
 have qL : Qp i k (pt i s) (pt k t) ∈ S := (mem _).2 (.inr ⟨(i, k), inp i k hi hk, ei, ek, rfl⟩)
 have qH : Qp i' k' (pt i' s) (pt k' t) ∈ S := (mem _).2 (.inr ⟨(i', k'), inp i' k' hi' hk', ei', ek', rfl⟩)
 have hne : S ≠ [] := List.ne_nil_of_mem qL
 obtain ⟨g1, g2, g3⟩ := inv.some hne
 generalize hO : prs.foldl (stA s t) E0 = out at *
 have tl : ∀ x : X, ∀ z, tx x = some z → x = .fin z ∧ -C < z ∧ z < C := fun x z h => by
  cases x with
  | ni => simp [tx] at h
  | pi => simp [tx] at h
  | fin w =>
   simp only [tx, clip] at h
   split at h
   ·rename_i c; injection h with h; subst h; exact ⟨rfl, c⟩
   ·simp at h
 have tn : ∀ x : X, okx K x → tx x = none → key x ≤ -C ∨ C ≤ key x := fun x hx h => by
  cases x with
  | ni => left; simp only [key]; omega
  | pi => right; simp only [key]; omega
  | fin w =>
   simp only [tx, clip] at h
   split at h
   ·simp at h
   ·simp only [key]; omega
 have r1 : out.lo = tx (apS xmul s t).lo := by
  cases ho : out.lo with
  | none =>
   rw [ho] at g2
   obtain ⟨q, q1, q2⟩ := g2
   obtain ⟨l1, l2, l3, l4, l5⟩ := low q q1
   cases hx : tx (apS xmul s t).lo with
   | none => rfl
   | some z =>
    exfalso
    have t1 := tl _ _ hx
    rcases tn _ l5.1 q2 with c | c
    ·rw [t1.1, show key (X.fin z) = z from rfl] at l1; omega
    ·have e := l3 c
     rw [e, hx] at q2; cases q2
  | some m =>
   rw [ho] at g2
   obtain ⟨⟨q, q1, q2⟩, q3⟩ := g2
   obtain ⟨l1, l2, l3, l4, l5⟩ := low q q1
   obtain ⟨z, z1, z2⟩ := q3 _ qL
   rw [eL] at z1
   have t1 := tl _ _ z1
   have t2 := tl _ _ q2
   rw [t1.1, t2.1] at l1
   simp only [key] at l1
   rw [z1]; congr 1; omega
 have r2 : out.hi = tx (apS xmul s t).hi := by
  cases ho : out.hi with
  | none =>
   rw [ho] at g3
   obtain ⟨q, q1, q2⟩ := g3
   obtain ⟨l1, l2, l3, l4, l5⟩ := low q q1
   cases hx : tx (apS xmul s t).hi with
   | none => rfl
   | some z =>
    exfalso
    have t1 := tl _ _ hx
    rcases tn _ l5.2 q2 with c | c
    ·have e := l4 c
     rw [e, hx] at q2; cases q2
    ·rw [t1.1, show key (X.fin z) = z from rfl] at l2; omega
  | some m =>
   rw [ho] at g3
   obtain ⟨⟨q, q1, q2⟩, q3⟩ := g3
   obtain ⟨l1, l2, l3, l4, l5⟩ := low q q1
   obtain ⟨z, z1, z2⟩ := q3 _ qH
   rw [eH] at z1
   have t1 := tl _ _ z1
   have t2 := tl _ _ q2
   rw [t1.1, t2.1] at l2
   simp only [key] at l2
   rw [z1]; congr 1; omega
 unfold toA
 rw [ne, if_neg (by simp), ← r1, ← r2]
 obtain ⟨oe, ol, oh⟩ := out
 simp only at g1
 rw [g1]
end
theorem pt_ne {s : Sp} (hs : oks C s) {i : Nat} (h : emp (pt i s) = false) : emp s = false := by
 have k := pt_keys hs
 have := of_decide_eq_false h
 apply decide_eq_false
 unfold pt at this
 split at this
 ·omega
 ·split at this <;> omega
theorem fold_emp {s t : Sp} (h : emp s = true ∨ emp t = true) (hs : oks C s) (ht : oks C t) : prs.foldl (stA s t) E0 = toA (apS xmul s t) := by
 have pe : ∀ {s : Sp}, oks C s → emp s = true → ∀ i, emp (pt i s) = true := fun {s} h e i => by
  have k := pt_keys h
  have := of_decide_eq_true e
  apply decide_eq_true
  unfold pt
  split
  ·omega
  ·split <;> omega
 have st : ∀ out p, stA s t out p = out := fun out p => by
  unfold stA
  rcases h with h | h
  ·rw [if_pos (pe hs h _)]
  ·split
   ·rfl
   ·rw [if_pos (pe ht h _)]
 have all : ∀ l : List (Nat × Nat), l.foldl (stA s t) E0 = E0 := fun l => by
  induction l with
  | nil => rfl
  | cons p l ih => rw [List.foldl_cons, st]; exact ih
 rw [all]
 unfold apS
 rcases h with h | h
 ·rw [if_pos h, toA_non]
 ·rw [if_pos h, ite_self, toA_non]
end Go.N
namespace Go.N
open Go.IntKind (i64)
open Go Go.Q Go.Rx
set_option linter.unusedVariables false
set_option linter.unusedSimpArgs false
set_option linter.unusedSectionVars false
def PosA (a : A) : Prop := Wf a ∧ a.em = false ∧ ∃ l, a.lo = some l ∧ 1 ≤ l
theorem xmul_pi {x y : X} (h1 : sg x = 1) (h2 : sg y = 1) (h : x = .pi ∨ y = .pi) : xmul x y = .pi := by
 unfold xmul
 rw [h1, h2]
 rcases h with rfl | rfl
 ·cases y <;> rfl
 ·cases x <;> rfl
def prS (s t : Sp) : Sp := ⟨xmul s.lo t.lo, xmul s.hi t.hi⟩
theorem product_A (lf : Nat) (h3 : 200000 ≤ lf) {a b : A} (ha : PosA a) (hb : PosA b) : surveyorref21_product.f lf (ac a) (ac b) = some (ac (toA (prS (ofA a) (ofA b))), ()) := by
 have hK := CC_K
 have hC := C_gt
 obtain ⟨wa, ea, l, el, l1⟩ := ha
 obtain ⟨wb, eb, m, em, m1⟩ := hb
 obtain ⟨oa, la, xa⟩ := a
 obtain ⟨ob', lb, xb⟩ := b
 simp only at ea eb el em
 subst ea eb el em
 have kl : -C < l ∧ l < C := wa.lo
 have km : -C < m ∧ m < C := wb.lo
 have q1 := mul_C kl km
 have h4 : 0 ≤ C * C := Int.mul_nonneg (by omega) (by omega)
 have pl := productI lf h3 (CK kl) (CK km)
 have obs : ∀ z : Int, ob (some z) = bs (Lib.itoa z) := fun _ => rfl
 have e0 : (⟨#[]⟩ : ByteArray) = ob none := rfl
 have w1 := wa.hi
 have w2 := wb.hi
 have w3 := wa.le
 have w4 := wb.le
 have sp : ∀ {z : Int}, 1 ≤ z → sg (.fin z) = 1 := fun {z} h => by simp only [sg, sgn]; rw [if_neg (by omega), if_neg (by omega)]
 rw [surveyorref21_product.f]
 simp only [ac, ob_beq, obs, prS, ofA, Bool.false_eq_true, if_false, lox, xmul_ff]
 cases xa with
 | none =>
  simp only [decide_true, Bool.not_true, brF, pl, bdS]
  rw [e0, rng1 lf h3 (by omega), bdS]
  have : xmul (hix none) (hix xb) = .pi := by
   cases xb with
   | none => rfl
   | some v =>
    have hv : m ≤ v := w4
    exact xmul_pi rfl (sp (by omega)) (.inl rfl)
  rw [this]; rfl
 | some u =>
  have hu : l ≤ u := w3
  have ku : -C < u ∧ u < C := w1
  simp only [reduceCtorEq, decide_false, Bool.not_false, brT]
  cases xb with
  | none =>
   simp only [decide_true, Bool.not_true, brF, pl, bdS]
   rw [e0, rng1 lf h3 (by omega), bdS]
   have : xmul (hix (some u)) (hix none) = .pi := by
    exact xmul_pi (sp (by omega)) rfl (.inr rfl)
   rw [this]; rfl
  | some v =>
   have hv : m ≤ v := w4
   have kv : -C < v ∧ v < C := w2
   have q2 := mul_C ku kv
   simp only [reduceCtorEq, decide_false, Bool.not_false, brT, obs, productI lf h3 (CK ku) (CK kv), pl, bdS]
   rw [rng2 lf h3 (by omega) (by omega), bdS]
   simp only [hix, xmul_ff]; rfl
theorem clipneg (x : X) (hx : okx K x) : tx (xneg x) = (tx x).map fun z => -z := by
 cases x with
 | ni => rfl
 | pi => rfl
 | fin z =>
  simp only [xneg, tx, clip]
  by_cases c : -C < z ∧ z < C
  ·rw [if_pos c, if_pos (by omega)]; rfl
  ·rw [if_neg c, if_neg (by omega)]; rfl
theorem toAf {s : Sp} (e : emp s = false) : toA s = ⟨false, tx s.lo, tx s.hi⟩ := by unfold toA; rw [e, if_neg (by simp)]
theorem turn_toA {s : Sp} (hs : oks K s) (es : emp s = false) (p1 : s.lo ≠ .pi) (p2 : s.hi ≠ .ni) : toA (turn (ofA (toA s))) = toA ⟨xneg s.hi, xneg s.lo⟩ := by
 have w : Wf (toA s) := toA_wf hs (.inr ⟨p1, p2⟩)
 have e : (toA s).em = false := by rw [em_toA, es]
 have fs : toA s = ⟨false, tx s.lo, tx s.hi⟩ := by unfold toA; rw [es, if_neg (by simp)]
 have e1 := emp_ofA w
 rw [e] at e1
 have et : emp (turn (ofA (toA s))) = false := by rw [emp_turn, e1]
 have e2 : emp ⟨xneg s.hi, xneg s.lo⟩ = false := by
  have := of_decide_eq_false es
  apply decide_eq_false
  simp only [key_xneg]; omega
 have ft : turn (ofA (toA s)) = ⟨xneg (hix (tx s.hi)), xneg (lox (tx s.lo))⟩ := by
  unfold turn
  rw [if_neg (by simp [e1]), fs]
  simp only [ofA, Bool.false_eq_true, if_false]
 have oh := w.hi
 have ol := w.lo
 rw [fs] at oh ol
 simp only at oh ol
 rw [toAf et, toAf e2, ft]
 simp only
 rw [clipneg s.hi hs.2, clipneg s.lo hs.1]
 congr 1
 ·cases h : tx s.hi with
  | none => rfl
  | some z =>
   rw [h] at oh; simp only [okb] at oh
   simp only [hix, xneg, tx, clip, Option.map_some]
   rw [if_pos (by omega)]
 ·cases h : tx s.lo with
  | none => rfl
  | some z =>
   rw [h] at ol; simp only [okb] at ol
   simp only [lox, xneg, tx, clip, Option.map_some]
   rw [if_pos (by omega)]
theorem turned_pos {s : Sp} (hs : oks C s) (e : emp (negS s) = false) (p : Pr s) : PosA (toA (turn (negS s))) ∧ ofA (toA (turn (negS s))) = ⟨xneg (negS s).hi, xneg (negS s).lo⟩ := by
 have k := (pt_keys hs).1
 have ok := negS_ok hs
 have pr := negS_pr p hs
 have m := mkA (turn_ok ok) pr.turn
 have et : emp (turn (negS s)) = false := by rw [emp_turn, e]
 rw [et, if_neg (by simp)] at m
 have f : turn (negS s) = ⟨xneg (negS s).hi, xneg (negS s).lo⟩ := by unfold turn; rw [if_neg (by simp [e])]
 refine ⟨⟨m.1, by rw [em_toA, et], ?_⟩, by rw [m.2, f]⟩
 have hK := K_gt
 have nf := (near_fin hs p).2 e
 cases h : (negS s).hi with
 | ni => rw [h] at nf; have := C_lt_K; simp only [key] at nf; omega
 | pi => rw [h] at k; simp only [key] at k; omega
 | fin z =>
  rw [h] at k nf
  simp only [key] at k nf
  refine ⟨-z, ?_, by omega⟩
  unfold toA
  rw [et, if_neg (by simp), f, h]
  simp only [xneg, tx, clip]
  rw [if_pos (by omega)]
theorem pos_pos {s : Sp} (hs : oks C s) (e : emp (posS s) = false) (p : Pr s) : PosA (toA (posS s)) ∧ ofA (toA (posS s)) = posS s := by
 have m := mkA (posS_ok hs) (posS_pr p hs)
 rw [e, if_neg (by simp)] at m
 obtain ⟨l, e1, e2, _⟩ := posS_lo e hs p
 refine ⟨⟨m.1, by rw [em_toA, e], l, ?_, e2⟩, m.2⟩
 have ok := (posS_ok hs).1
 rw [e1] at ok
 simp only [okx] at ok
 unfold toA
 rw [e, if_neg (by simp), e1]
 simp only [tx, clip]
 rw [if_pos ok]
def pp (i : Nat) (s : Sp) : Sp := if i = 0 then ⟨xneg (negS s).hi, xneg (negS s).lo⟩ else posS s
theorem part_pos (lf : Nat) (h3 : 200000 ≤ lf) {s : Sp} (hs : oks C s) (p : Pr s) {i : Nat} (hi : i = 0 ∨ i = 2) (e : emp (pt i s) = false) :
  ∃ a : A, surveyorref21_positive.f lf (ac (toA (pt i s))) ((i : Nat) : Int) = some (ac a, ()) ∧ PosA a ∧ ofA a = pp i s := by
 rcases hi with rfl | rfl
 ·have m := mkA (negS_ok hs) (negS_pr p hs)
  have e' : emp (negS s) = false := e
  rw [e', if_neg (by simp)] at m
  have t := turned_pos hs e' p
  refine ⟨_, ?_, t.1, t.2⟩
  rw [surveyorref21_positive.f]
  have tr := turned_ref lf h3 m.1
  rw [m.2] at tr
  have tr' : surveyorref21_Turned.f lf (ac (toA (pt 0 s))) = some (ac (toA (turn (negS s))), ()) := tr
  exact (brT _ _).trans (by rw [tr', bdS])
 ·have t := pos_pos hs e p
  refine ⟨_, ?_, t.1, t.2⟩
  rw [surveyorref21_positive.f]
  exact brF _ _
theorem Qp_pp {s t : Sp} {i k : Nat} (hi : i = 0 ∨ i = 2) (hk : k = 0 ∨ k = 2) : Qp i k (pt i s) (pt k t) = if i = k then prS (pp i s) (pp k t) else ⟨xneg (prS (pp i s) (pp k t)).hi, xneg (prS (pp i s) (pp k t)).lo⟩ := by
 rcases hi with rfl | rfl <;> rcases hk with rfl | rfl <;> simp only [Qp, pt, pp, prS, Nat.zero_ne_one, show ¬ (2 = 1) by omega, show ¬ (2 = 0) by omega, show ¬ (0 = 2) by omega, or_self, if_false, if_true]
 ·rw [xmul_neg, xmul_neg', xneg_xneg, xmul_neg, xmul_neg', xneg_xneg]
 ·rw [xmul_neg, xmul_neg, xneg_xneg, xneg_xneg]
 ·rw [xmul_neg', xmul_neg', xneg_xneg, xneg_xneg]
section
variable (lf : Nat) (h3 : 200000 ≤ lf) {s t : Sp} (hs : oks C s) (ht : oks C t) (ps : Pr s) (pt' : Pr t)
include h3 hs ht ps pt'
theorem times_rd {ρ : Type} (v0 v1 : List IV) (b4 : Bool) (b5 b6 : ByteArray) {i k : Nat} (hi : i < 3) (hk : k < 3) (x0 : idxL v0 ((i : Nat) : Int) = some (ac (toA (pt i s)))) (x1 : idxL v1 ((k : Nat) : Int) = some (ac (toA (pt k t)))) (out : A) (wo : Wf out)
  (Kc : Int → Bool → ByteArray → ByteArray → Option ρ) (E0 : Bool → ByteArray → ByteArray → Option ρ) :
  surveyorref21_Times.r1 lf v0 v1 ((i : Nat) : Int) b4 b5 b6 ((k : Nat) : Int) out.em (ob out.lo) (ob out.hi) Kc E0 = Kc ((k + 1 : Nat) : Int) (stA s t out (i, k)).em (ob (stA s t out (i, k)).lo) (ob (stA s t out (i, k)).hi) := by
 have hC := C_gt
 have hK := C_lt_K
 have e5 : i64.wrap (((k : Nat) : Int) + 1) = ((k + 1 : Nat) : Int) := by rw [w64 (by omega) (by omega)]; omega
 have em1 : (ac (toA (pt i s))).1 = emp (pt i s) := em_toA _
 have em2 : (ac (toA (pt k t))).1 = emp (pt k t) := em_toA _
 have ao : ((out.em, ob out.lo, ob out.hi, ()) : IV) = ac out := rfl
 rw [surveyorref21_Times.r1, decide_eq_true (by omega), brT]
 simp only [x0, x1, bdS, e5, em1, em2, ao]
 unfold stA
 cases c1 : emp (pt i s) with
 | true => rw [brT, if_pos rfl]
 | false => cases c2 : emp (pt k t) with
  | true => rw [brF, brT, if_neg (by simp), if_pos rfl]
  | false =>
   have es := pt_ne hs c1
   have et := pt_ne ht c2
   have qp := Qp_pr hs ht es et ps pt' hi hk c1 c2
   have qo := Qp_ok hs ht i k
   have wq : Wf (toA (Qp i k (pt i s) (pt k t))) := toA_wf qo (.inr qp.2)
   have k0 : -K < (0 : Int) ∧ (0 : Int) < K := by omega
   have r0 := rng2 lf h3 k0 k0
   have J := joined_ref lf h3 wo wq
   rw [brF, brF, if_neg (by simp), if_neg (by simp), surveyorref21_One.f, i0, r0, bdS, bdS]
   by_cases z : i = 1 ∨ k = 1
   ·have eq : Qp i k (pt i s) (pt k t) = ⟨.fin 0, .fin 0⟩ := by unfold Qp; rw [if_pos z]
    rw [eq] at J ⊢
    by_cases z1 : i = 1
    ·subst z1
     rw [show ((((1 : Nat) : Int)) != 1) = false from rfl, brF, J, bdS]; rfl
    ·have z2 := z.resolve_left z1
     subst z2
     rw [show (((i : Nat) : Int) != 1) = true by simp only [bne_iff_ne, ne_eq]; omega, brT, show ((((1 : Nat) : Int)) != 1) = false from rfl, brF, J, bdS]; rfl
   ·have hi' : i = 0 ∨ i = 2 := by omega
    have hk' : k = 0 ∨ k = 2 := by omega
    obtain ⟨a, a1, a2, a3⟩ := part_pos lf h3 hs ps hi' c1
    obtain ⟨b, b1, b2, b3⟩ := part_pos lf h3 ht pt' hk' c2
    have pr := product_A lf h3 a2 b2
    rw [a3, b3] at pr
    have eq := Qp_pp (s := s) (t := t) hi' hk'
    rw [show (((i : Nat) : Int) != 1) = true by simp only [bne_iff_ne, ne_eq]; omega, brT, show (((k : Nat) : Int) != 1) = true by simp only [bne_iff_ne, ne_eq]; omega, brT, a1, bdS, b1, bdS, pr, bdS]
    by_cases ik : i = k
    ·rw [if_pos ik] at eq
     rw [show (((i : Nat) : Int) != ((k : Nat) : Int)) = false by simp only [bne_eq_false_iff_eq]; omega, brF]
     rw [eq] at J ⊢
     rw [J, bdS]; rfl
    ·rw [if_neg ik] at eq
     have tt : toA (turn (ofA (toA (prS (pp i s) (pp k t))))) = toA (Qp i k (pt i s) (pt k t)) := by
      have en : emp (prS (pp i s) (pp k t)) = false := by
       have := of_decide_eq_false qp.1
       rw [eq] at this
       simp only [key_xneg] at this
       exact decide_eq_false (by omega)
      rw [eq] at qo qp
      have o1 : ∀ {x : X}, okx K (xneg x) → okx K x := fun {x} h => by have := xneg_ok h; rwa [xneg_xneg] at this
      have n1 : (prS (pp i s) (pp k t)).lo ≠ .pi := fun e => by
       apply qp.2.2; simp only; rw [e]; rfl
      have n2 : (prS (pp i s) (pp k t)).hi ≠ .ni := fun e => by
       apply qp.2.1; simp only; rw [e]; rfl
      rw [turn_toA ⟨o1 qo.2, o1 qo.1⟩ en n1 n2, eq]
     have wpr : Wf (toA (prS (pp i s) (pp k t))) := by
      rw [eq] at qo qp
      have o1 : ∀ {x : X}, okx K (xneg x) → okx K x := fun {x} h => by have := xneg_ok h; rwa [xneg_xneg] at this
      have n1 : (prS (pp i s) (pp k t)).lo ≠ .pi := fun e => by
       apply qp.2.2; simp only; rw [e]; rfl
      have n2 : (prS (pp i s) (pp k t)).hi ≠ .ni := fun e => by
       apply qp.2.1; simp only; rw [e]; rfl
      exact toA_wf ⟨o1 qo.2, o1 qo.1⟩ (.inr ⟨n1, n2⟩)
     have tr := turned_ref lf h3 wpr
     rw [tt] at tr
     rw [show (((i : Nat) : Int) != ((k : Nat) : Int)) = true by simp only [bne_iff_ne, ne_eq]; omega, brT, tr, bdS, J, bdS]; rfl
theorem stA_wf {out : A} (wo : Wf out) {p : Nat × Nat} (h1 : p.1 < 3) (h2 : p.2 < 3) : Wf (stA s t out p) := by
 unfold stA
 split
 ·exact wo
 ·split
  ·exact wo
  ·rename_i c1 c2
   have es := pt_ne hs (by simpa using c1)
   have et := pt_ne ht (by simpa using c2)
   have qp := Qp_pr hs ht es et ps pt' h1 h2 (by simpa using c1) (by simpa using c2)
   have qo := Qp_ok hs ht p.1 p.2
   have wq : Wf (toA (Qp p.1 p.2 (pt p.1 s) (pt p.2 t))) := toA_wf qo (.inr qp.2)
   refine toA_wf (hull_ok wo.okK wq.okK) ?_
   by_cases e1 : emp (ofA out) = true
   ·rcases wq.pr with h | h
    ·left; unfold hull; rw [if_pos e1]; exact h
    ·right; unfold hull; rw [if_pos e1]; exact h
   ·by_cases e2 : emp (ofA (toA (Qp p.1 p.2 (pt p.1 s) (pt p.2 t)))) = true
    ·rcases wo.pr with h | h
     ·exact absurd h e1
     ·right; unfold hull; rw [if_neg e1, if_pos e2]; exact h
    ·right
     have x' := wo.pr.resolve_left e1
     have y' := wq.pr.resolve_left e2
     rw [hullNE (by simpa using e1) (by simpa using e2)]
     constructor
     ·simp only; rcases xmin_or (ofA out).lo (ofA (toA (Qp p.1 p.2 (pt p.1 s) (pt p.2 t)))).lo with g | g <;> rw [g]
      ·exact x'.1
      ·exact y'.1
     ·simp only; rcases xmax_or (ofA out).hi (ofA (toA (Qp p.1 p.2 (pt p.1 s) (pt p.2 t)))).hi with g | g <;> rw [g]
      ·exact x'.2
      ·exact y'.2
def sv (s : Sp) : List IV := [ac (toA (negS s)), ac (toA (zerS s)), ac (toA (posS s))]
omit h3 hs ht ps pt' in
theorem sv_at (s : Sp) {i : Nat} (hi : i < 3) : idxL (sv s) ((i : Nat) : Int) = some (ac (toA (pt i s))) := by
 rcases i3 hi with rfl | rfl | rfl <;> rfl
theorem tms_l1 (b4 : Bool) (b5 b6 : ByteArray) {i : Nat} (hi : i < 3) : ∀ (d n k : Nat) (out : A), k + d = 3 → d < n → Wf out →
  ∃ o, surveyorref21_Times.l1 lf (sv s) (sv t) ((i : Nat) : Int) b4 b5 b6 n ((k : Nat) : Int) out.em (ob out.lo) (ob out.hi) = some ((o.em, ob o.lo, ob o.hi, ()), ()) ∧ Wf o ∧ o = ((List.range' k d).map fun k => (i, k)).foldl (stA s t) out := by
 intro d
 induction d with
 | zero =>
  intro n k out hk hn wo
  obtain ⟨m, rfl⟩ := Nat.exists_eq_succ_of_ne_zero (show n ≠ 0 by omega)
  refine ⟨out, ?_, wo, rfl⟩
  rw [surveyorref21_Times.l1, surveyorref21_Times.r1, decide_eq_false (by omega), brF]
 | succ d ih =>
  intro n k out hk hn wo
  obtain ⟨m, rfl⟩ := Nat.exists_eq_succ_of_ne_zero (show n ≠ 0 by omega)
  obtain ⟨o, o1, o2, o3⟩ := ih m (k + 1) (stA s t out (i, k)) (by omega) (by omega) (stA_wf lf h3 hs ht ps pt' wo hi (show k < 3 by omega))
  refine ⟨o, ?_, o2, ?_⟩
  ·rw [surveyorref21_Times.l1, times_rd lf h3 hs ht ps pt' (sv s) (sv t) b4 b5 b6 hi (show k < 3 by omega) (sv_at s hi) (sv_at t (show k < 3 by omega)) out wo]
   exact o1
  ·rw [o3, List.range'_succ, List.map_cons, List.foldl_cons]
theorem tms_l0 (b4 : Bool) (b5 b6 : ByteArray) : ∀ (d n i : Nat) (out : A), i + d = 3 → d < n → Wf out →
  ∃ o, surveyorref21_Times.l0 lf (sv s) (sv t) b4 b5 b6 n ((i : Nat) : Int) out.em (ob out.lo) (ob out.hi) = some ((o.em, ob o.lo, ob o.hi, ()), ()) ∧ o = ((List.range' i d).flatMap fun i => (List.range' 0 3).map fun k => (i, k)).foldl (stA s t) out := by
 intro d
 induction d with
 | zero =>
  intro n i out hk hn wo
  obtain ⟨m, rfl⟩ := Nat.exists_eq_succ_of_ne_zero (show n ≠ 0 by omega)
  refine ⟨out, ?_, rfl⟩
  rw [surveyorref21_Times.l0, surveyorref21_Times.r0, decide_eq_false (by omega), brF]
 | succ d ih =>
  intro n i out hk hn wo
  obtain ⟨m, rfl⟩ := Nat.exists_eq_succ_of_ne_zero (show n ≠ 0 by omega)
  obtain ⟨p, p1, p2, p3⟩ := tms_l1 lf h3 hs ht ps pt' b4 b5 b6 (show i < 3 by omega) 3 (lf + 40) 0 out (by omega) (by omega) wo
  obtain ⟨o, o1, o3⟩ := ih m (i + 1) p (by omega) (by omega) p2
  have e5 : i64.wrap (((i : Nat) : Int) + 1) = ((i + 1 : Nat) : Int) := by rw [w64 (by omega) (by omega)]; omega
  refine ⟨o, ?_, ?_⟩
  ·rw [show ((0 : Nat) : Int) = 0 from rfl] at p1
   rw [surveyorref21_Times.l0, surveyorref21_Times.r0, decide_eq_true (by omega), brT, p1, bdS, e5]
   exact o1
  ·rw [o3, p3, List.range'_succ (s := i) (n := d), List.flatMap_cons, List.foldl_append]
end
theorem E0_wf : Wf E0 := toA_non ▸ toA_wf non_ok (.inl emp_non)
theorem times_A (lf : Nat) (h3 : 200000 ≤ lf) {a b : A} (ha : Wf a) (hb : Wf b) : surveyorref21_Times.f lf (ac a) (ac b) = some (ac (toA (apS xmul (ofA a) (ofA b))), ()) := by
 have hs := ha.okC
 have ht := hb.okC
 obtain ⟨o, o1, o2⟩ := tms_l0 lf h3 hs ht ha.pr hb.pr false (⟨#[]⟩ : ByteArray) (⟨#[]⟩ : ByteArray) 3 (lf + 40) 0 E0 (by omega) (by omega) E0_wf
 have e : ((List.range' 0 3).flatMap fun i => (List.range' 0 3).map fun k => (i, k)) = prs := by decide
 rw [e] at o2
 have fin : prs.foldl (stA (ofA a) (ofA b)) E0 = toA (apS xmul (ofA a) (ofA b)) := by
  cases es : emp (ofA a) with
  | true => exact fold_emp (.inl es) hs ht
  | false => cases et : emp (ofA b) with
   | true => exact fold_emp (.inr et) hs ht
   | false => exact fold_mul hs ht es et ha.pr hb.pr
 rw [fin] at o2
 rw [surveyorref21_Times.f, surveyorref21_None.f, bdS, split_A lf h3 ha, bdS, split_A lf h3 hb, bdS]
 have o1' : surveyorref21_Times.l0 lf (sv (ofA a)) (sv (ofA b)) false (⟨#[]⟩ : ByteArray) (⟨#[]⟩ : ByteArray) (lf + 40) 0 true (⟨#[]⟩ : ByteArray) (⟨#[]⟩ : ByteArray) = some ((o.em, ob o.lo, ob o.hi, ()), ()) := o1
 rw [show ([ac (toA (negS (ofA a))), ac (toA (zerS (ofA a))), ac (toA (posS (ofA a)))] : List IV) = sv (ofA a) from rfl, show ([ac (toA (negS (ofA b))), ac (toA (zerS (ofA b))), ac (toA (posS (ofA b)))] : List IV) = sv (ofA b) from rfl]
 simp only [o1', bdS]
 rw [o2]
 rfl
def opS (op : Int) (s t : Sp) : Sp := if op = 3 then addS s t else if op = 4 then addS s (turn t) else if op = 5 then apS xmul s t else if op = 6 then quoS s t else remS s t
theorem op3 {op : Int} (h : 3 ≤ op ∧ op ≤ 7) : op = 3 ∨ op = 4 ∨ op = 5 ∨ op = 6 ∨ op = 7 := by omega
theorem operation_A (lf : Nat) (h3 : 200000 ≤ lf) {a b : A} (ha : Wf a) (hb : Wf b) {op : Int} (ho : 3 ≤ op ∧ op ≤ 7) : surveyorref21_Operation.f lf op (ac a) (ac b) = some (ac (toA (opS op (ofA a) (ofA b))), ()) := by
 rw [surveyorref21_Operation.f]
 rcases op3 ho with rfl | rfl | rfl | rfl | rfl
 ·exact (brT _ _).trans (by rw [plus_A lf h3 ha hb, bdS]; rfl)
 ·exact (brF _ _).trans ((brT _ _).trans (by rw [minus_A lf h3 ha hb, bdS]; rfl))
 ·exact (brF _ _).trans ((brF _ _).trans ((brT _ _).trans (by rw [times_A lf h3 ha hb, bdS]; rfl)))
 ·exact (brF _ _).trans ((brF _ _).trans ((brF _ _).trans ((brT _ _).trans (by rw [over_A lf h3 ha hb, bdS]; rfl))))
 ·exact (brF _ _).trans ((brF _ _).trans ((brF _ _).trans ((brF _ _).trans (by rw [modulo_A lf h3 ha hb, bdS]; rfl))))
end Go.N
namespace Go.N
open Go Go.Q
theorem awake_f (lf : Nat) : surveyorlaw21_awake.f lf = some (true, ()) := by kernel_rfl
end Go.N
namespace Go.Q
open Go Go.RowKit Go.ChangeShapes Go.WideShapes
set_option linter.unusedVariables false
set_option linter.unusedSimpArgs false
set_option maxRecDepth 100000
def flat : Ty → Bool
 | .sl _ => false
 | .pair a b => flat a && flat b
 | _ => true
def partsOf (P : Program) (t : TypeId) : List (TypeId × Nat) := match P.underlying t with
 | some (.struct fs) => fs.toList.map fun f => (f.type, f.offset)
 | some (.array n e) => (List.range n).map fun i => (e, i * P.cellsOf e)
 | _ => []
mutual
def fitT (P : Program) : Ty → TypeId → Bool
 | .int k, t => match P.underlying t with
  | some (.int k') => decide (k' = k)
  | _ => false
 | .bool, t => match P.underlying t with
  | some .bool => true
  | _ => false
 | .str, t => match P.underlying t with
  | some .string => true
  | _ => false
 | .unit, _ => false
 | .nul, _ => false
 | .pair a b, t => match partsOf P t with
  | p :: r => p.2 == 0 && (fitT P a p.1 && (P.cellsOf p.1 == a.n && (fitL P b r a.n && P.cellsOf t == a.n + b.n)))
  | [] => false
 | .sl e, t => match P.underlying t with
  | some (.slice e') => fitT P e e' && (flat e && P.cellsOf e' == e.n)
  | _ => false
def fitL (P : Program) : Ty → List (TypeId × Nat) → Nat → Bool
 | .unit, l, _ => match l with
  | [] => true
  | _ => false
 | .pair a b, l, k => match l with
  | p :: r => p.2 == k && (fitT P a p.1 && (P.cellsOf p.1 == a.n && fitL P b r (k + a.n)))
  | [] => false
 | _, _, _ => false
end
def Bnd : (T : Ty) → T.α → Prop
 | .int k, x => k.min ≤ x ∧ x ≤ k.max
 | .str, x => x.size ≤ 9223372036854775807
 | .pair a b, x => Bnd a x.1 ∧ Bnd b x.2
 | .sl e, l => l.length ≤ 9223372036854775807 ∧ ∀ y ∈ l, Bnd e y
 | _, _ => True
def Bnds : (ps : List Ty) → Tys ps → Prop
 | [], _ => True
 | t :: ts, x => Bnd t x.1 ∧ Bnds ts x.2
section
variable {H : Type} {enc : TypeId × Value → H} {P : Program} {w : World} {F : Nat → Prop} {sp : Nat → Bool} {held : Bool}
theorem trod_parts {t : TypeId} {fuel : Nat} {cs : List Value} {x : DataW H × List MemPlace} (hp : partsOf P t ≠ []) (h : DataW.trod enc P w 0 sp held fuel t cs = some x) :
  cs.length = P.cellsOf t ∧ ∃ n, ∀ p ∈ partsOf P t, ∃ y, DataW.trod enc P w 0 sp held n p.1 ((cs.drop p.2).take (P.cellsOf p.1)) = some y := by
 unfold partsOf at hp ⊢
 split at hp
 ·rename_i fs hu
  obtain ⟨xs, n, _, _, hl, hxl, hf⟩ := DataW.trod_struct hu h
  refine ⟨hl, n, fun p hm => ?_⟩
  simp only [List.mem_map] at hm
  obtain ⟨f, hfm, rfl⟩ := hm
  obtain ⟨i, hi, he⟩ := List.mem_iff_getElem.1 hfm
  have h1 : fs[i]? = some f := by
   have : fs.toList[i]? = some f := by rw [List.getElem?_eq_getElem hi, he]
   simpa using this
  have h2 : i < xs.length := by
   rw [hxl]; simpa using hi
  exact ⟨xs[i], by rw [hf i f h1, List.getElem?_eq_getElem h2]⟩
 ·rename_i n e hu
  obtain ⟨xs, m, _, _, hl, hxl, hf⟩ := DataW.trod_array hu h
  refine ⟨hl, m, fun p hm => ?_⟩
  simp only [List.mem_map, List.mem_range] at hm
  obtain ⟨i, hi, rfl⟩ := hm
  exact ⟨xs[i], by rw [hf i hi, List.getElem?_eq_getElem (by omega)]⟩
 ·exact absurd rfl hp
mutual
theorem dr_flat : ∀ (T : Ty) (t : TypeId) (cs : List Value) (x : DataW H × List MemPlace) (fuel : Nat), flat T = true → fitT P T t = true → DataW.trod enc P w 0 sp held fuel t cs = some x → ∃ y : T.α, DR F w T y cs ∧ Bnd T y
 | .int k, t, cs, x, fuel, _, hf, h => by
  unfold fitT at hf
  split at hf
  ·rename_i k' hu
   obtain rfl : k' = k := by simpa using hf
   obtain ⟨n, rfl, _, hw⟩ := DataW.trod_int hu h
   exact ⟨n, rfl, by simpa [Lit.wf, Bnd] using hw⟩
  ·cases hf
 | .bool, t, cs, x, fuel, _, hf, h => by
  unfold fitT at hf
  split at hf
  ·rename_i hu
   obtain ⟨b, rfl, _⟩ := DataW.trod_bool hu h
   exact ⟨b, rfl, trivial⟩
  ·cases hf
 | .str, t, cs, x, fuel, _, hf, h => by
  unfold fitT at hf
  split at hf
  ·rename_i hu
   obtain ⟨s, rfl, _, hs⟩ := DataW.trod_string hu h
   exact ⟨s, rfl, by simpa [maxLen, Bnd] using hs⟩
  ·cases hf
 | .unit, t, cs, x, fuel, _, hf, h => by simp [fitT] at hf
 | .nul, t, cs, x, fuel, _, hf, h => by simp [fitT] at hf
 | .sl e, t, cs, x, fuel, hfl, _, _ => by simp [flat] at hfl
 | .pair a b, t, cs, x, fuel, hfl, hf, h => by
  unfold fitT at hf
  split at hf
  ·rename_i p r hp
   simp only [Bool.and_eq_true, beq_iff_eq] at hf
   obtain ⟨h0, h1, h2, h3, h4⟩ := hf
   simp only [flat, Bool.and_eq_true] at hfl
   obtain ⟨hl, n, hm⟩ := trod_parts (by rw [hp]; simp) h
   rw [hp] at hm
   obtain ⟨y0, hy0⟩ := hm p (by simp)
   rw [h0, h2] at hy0
   obtain ⟨u, d1, b1⟩ := dr_flat a p.1 _ _ n hfl.1 h1 hy0
   obtain ⟨v, d2, b2⟩ := dr_flatL b r a.n cs n hfl.2 h3 (fun q hq => hm q (by simp [hq])) (by omega)
   refine ⟨(u, v), ⟨_, _, ?_, d1, d2⟩, b1, b2⟩
   have e : (cs.drop a.n).take b.n = cs.drop a.n := List.take_of_length_le (by rw [List.length_drop]; omega)
   rw [e]; simp
  ·cases hf
theorem dr_flatL : ∀ (T : Ty) (l : List (TypeId × Nat)) (k : Nat) (cs : List Value) (n : Nat), flat T = true → fitL P T l k = true → (∀ p ∈ l, ∃ y, DataW.trod enc P w 0 sp held n p.1 ((cs.drop p.2).take (P.cellsOf p.1)) = some y) → k + T.n ≤ cs.length → ∃ y : T.α, DR F w T y ((cs.drop k).take T.n) ∧ Bnd T y
 | .int k', l, k, cs, n, _, hf, _, _ => by simp [fitL] at hf
 | .bool, l, k, cs, n, _, hf, _, _ => by simp [fitL] at hf
 | .str, l, k, cs, n, _, hf, _, _ => by simp [fitL] at hf
 | .nul, l, k, cs, n, _, hf, _, _ => by simp [fitL] at hf
 | .sl _, l, k, cs, n, _, hf, _, _ => by simp [fitL] at hf
 | .unit, l, k, cs, n, _, hf, _, _ => ⟨(), by simp [DR, Ty.n], trivial⟩
 | .pair a b, l, k, cs, n, hfl, hf, hm, hk => by
  unfold fitL at hf
  split at hf
  ·rename_i p r
   simp only [Bool.and_eq_true, beq_iff_eq] at hf
   obtain ⟨h0, h1, h2, h3⟩ := hf
   simp only [flat, Bool.and_eq_true] at hfl
   simp only [Ty.n] at hk
   obtain ⟨y0, hy0⟩ := hm p (by simp)
   rw [h0, h2] at hy0
   obtain ⟨u, d1, b1⟩ := dr_flat a p.1 _ _ n hfl.1 h1 hy0
   obtain ⟨v, d2, b2⟩ := dr_flatL b r (k + a.n) cs n hfl.2 h3 (fun q hq => hm q (by simp [hq])) (by omega)
   refine ⟨(u, v), ⟨_, _, ?_, d1, d2⟩, b1, b2⟩
   simp only [Ty.n]
   rw [List.take_add, List.drop_drop]
  ·cases hf
end
theorem list_of {α : Type} {R : Nat → α → Prop} : ∀ (n : Nat), (∀ i, i < n → ∃ y, R i y) → ∃ l : List α, l.length = n ∧ ∀ (i : Nat) (y : α), l[i]? = some y → R i y
 | 0, _ => ⟨[], rfl, fun i y h => by simp at h⟩
 | n + 1, h => by
  obtain ⟨l, hl, hr⟩ := list_of n fun i hi => h i (by omega)
  obtain ⟨y, hy⟩ := h n (by omega)
  refine ⟨l ++ [y], by simp [hl], fun i z hz => ?_⟩
  by_cases hi : i < l.length
  ·rw [List.getElem?_append_left hi] at hz; exact hr i z hz
  ·rw [List.getElem?_append_right (by omega)] at hz
   have : i = l.length := by
    by_cases e : i - l.length = 0
    ·omega
    ·obtain ⟨q, hq⟩ := Nat.exists_eq_succ_of_ne_zero e
     rw [hq] at hz; simp at hz
   subst this
   simp only [Nat.sub_self, List.getElem?_cons_zero, Option.some.injEq] at hz
   subst hz; rw [hl]; exact hy
def topOK : Ty → Bool
 | .sl e => flat e
 | T => flat T
theorem add_none (b o n : Nat) : (Addr.add ⟨b, o, none⟩ n) = ⟨b, o + n, none⟩ := by
 unfold Addr.add; split
 ·rename_i h; rw [h]; rfl
 ·rfl
theorem isC_shape {i : Nat} {q : TypeId × Nat} (h : w.shape? i = some q) : IsC w i := by
 unfold World.shape? at h
 unfold IsC
 cases hb : w.heap[i]? with
 | none => rw [hb] at h; simp at h
 | some o => cases o <;> rw [hb] at h <;> simp_all
theorem valR_of_trod {T : Ty} {t : TypeId} {v : Value} {d : DataW H} {p : List MemPlace} {base : Nat} (ht : topOK T = true) (hf : fitT P T t = true) (hv : Value.okWide P w .any base t v) (h : DataW.Trod enc P w 0 sp held t v d p) : ∃ y : T.α, ValR (IsC w) w T y v ∧ Bnd T y := by
 obtain ⟨fuel, h⟩ := h
 unfold ValR
 cases T with
 | int k =>
  obtain ⟨y, h1, h2⟩ := dr_flat (F := IsC w) (.int k) t _ _ fuel rfl hf h
  unfold fitT at hf
  split at hf
  ·rename_i k' hu
   obtain ⟨n, rfl⟩ := okWide_int hu hv
   exact ⟨y, by rw [if_neg (by simp [isSt])]; simpa [Value.cells] using h1, h2⟩
  ·cases hf
 | bool =>
  obtain ⟨y, h1, h2⟩ := dr_flat (F := IsC w) .bool t _ _ fuel rfl hf h
  unfold fitT at hf
  split at hf
  ·rename_i hu
   obtain ⟨n, rfl⟩ := okWide_bool hu hv
   exact ⟨y, by rw [if_neg (by simp [isSt])]; simpa [Value.cells] using h1, h2⟩
  ·cases hf
 | str =>
  obtain ⟨y, h1, h2⟩ := dr_flat (F := IsC w) .str t _ _ fuel rfl hf h
  unfold fitT at hf
  split at hf
  ·rename_i hu
   obtain ⟨n, rfl⟩ := okWide_string hu hv
   exact ⟨y, by rw [if_neg (by simp [isSt])]; simpa [Value.cells] using h1, h2⟩
  ·cases hf
 | unit => simp [fitT] at hf
 | nul => simp [fitT] at hf
 | pair a b =>
  obtain ⟨y, h1, h2⟩ := dr_flat (F := IsC w) (.pair a b) t _ _ fuel ht hf h
  obtain ⟨cs, rfl⟩ : ∃ cs, v = .agg cs := by
   unfold fitT at hf
   split at hf
   ·rename_i q r hp
    unfold partsOf at hp
    unfold Value.okWide at hv
    split at hp
    ·rename_i fs hu
     rw [hu] at hv
     obtain ⟨cs, e, _⟩ := hv
     exact ⟨cs, e⟩
    ·rename_i n e hu
     rw [hu] at hv
     obtain ⟨cs, e, _⟩ := hv
     exact ⟨cs, e⟩
    ·cases hp
   ·cases hf
  exact ⟨y, by rw [if_pos (show isSt (.pair a b) = true from rfl)]; exact ⟨cs.toList, by simp, h1⟩, h2⟩
 | sl e =>
  unfold fitT at hf
  split at hf
  ·rename_i e' hu
   simp only [Bool.and_eq_true, beq_iff_eq] at hf
   obtain ⟨h1, h2, h3⟩ := hf
   obtain ⟨a, len, cap, rfl⟩ := okWide_slice hu hv
   rcases DataW.trod_slice hu h with ⟨hc, _⟩ | ⟨a', len', cap', elems, rest, n, _, hc, _, _, hle, hcm, hel, hread, _⟩
   ·simp only [Value.cells, List.cons.injEq, Value.slice.injEq, and_true] at hc
    obtain ⟨rfl, rfl, rfl⟩ := hc
    exact ⟨[], by rw [if_neg (by simp [isSt])]; exact ⟨_, rfl, .inl ⟨rfl, rfl⟩⟩, by simp [Bnd]⟩
   ·simp only [Value.cells, List.cons.injEq, Value.slice.injEq, and_true] at hc
    obtain ⟨rfl, rfl, rfl⟩ := hc
    have hhas : w.has P .any base a' e' cap := by
     unfold Value.okWide Cell.okWide Cell.ok at hv
     rw [hu] at hv
     exact hv.2.2
    obtain ⟨_, hspot, row, cells, hsh, _⟩ := hhas
    obtain ⟨b, o, s⟩ := a'
    simp only at hspot; subst hspot
    have hisc : IsC w b := isC_shape hsh
    obtain ⟨l, hl, hr⟩ := list_of (α := e.α) (R := fun i y => (∃ ds : List Value, DR (IsC w) w e y ds ∧ ∀ (j : Nat) (d : Value), ds[j]? = some d → w.cell? ⟨b, o + (i * e.n + j), none⟩ = some d) ∧ Bnd e y) len fun i hi => by
     have hq := hread i hi
     rw [List.getElem?_eq_getElem (by omega), Option.bind_eq_some_iff] at hq
     obtain ⟨cs, c1, c2⟩ := hq
     obtain ⟨y, k1, k2⟩ := dr_flat (F := IsC w) e e' cs _ n h2 h1 c2
     refine ⟨y, ⟨cs, k1, fun j d' hd => ?_⟩, k2⟩
     obtain ⟨_, m1, m2⟩ := World.cells?_some c1
     have hj : j < cs.length := (List.getElem?_eq_some_iff.1 hd).1
     have := m2 j (by omega)
     rw [add_none, add_none, h3] at this
     rw [← Nat.add_assoc, this]; exact hd
    refine ⟨l, ?_, ?_, ?_⟩
    ·rw [if_neg (by simp [isSt])]
     refine ⟨_, rfl, .inr ⟨b, o, cap, by rw [hl], hisc, by omega, fun i x hx => (hr i x hx).1⟩⟩
    ·rw [hl]; simp only [maxLen] at hcm; omega
    ·intro y hy
     obtain ⟨i, hi, he⟩ := List.mem_iff_getElem.1 hy
     exact (hr i y (by rw [List.getElem?_eq_getElem hi, he])).2
  ·cases hf
def fitAll (P : Program) : List Ty → List TypeId → Bool
 | [], [] => true
 | T :: Ts, t :: ts => (topOK T && fitT P T t) && fitAll P Ts ts
 | _, _ => false
theorem argsR_of_trod : ∀ {Ts : List Ty} {ts : List TypeId} {vs : List Value} {ds : List (DataW H)} {p : List MemPlace} {base : Nat}, fitAll P Ts ts = true → (∀ (j : Nat) t v, ts[j]? = some t → vs[j]? = some v → Value.okWide P w .any base t v) →
  DataW.TrodAll enc P w 0 sp held ts vs ds p → ∃ x : Tys Ts, ArgsR (IsC w) w Ts x vs ∧ Bnds Ts x
 | [], [], vs, ds, p, base, _, _, h => by
  cases vs with
  | nil => exact ⟨(), rfl, trivial⟩
  | cons _ _ => cases ds <;> exact absurd h (by simp [DataW.TrodAll])
 | [], _ :: _, vs, ds, p, base, hf, _, h => by simp [fitAll] at hf
 | _ :: _, [], vs, ds, p, base, hf, _, h => by simp [fitAll] at hf
 | T :: Ts, t :: ts, vs, ds, p, base, hf, hv, h => by
  simp only [fitAll, Bool.and_eq_true] at hf
  cases vs with
  | nil => cases ds <;> exact absurd h (by simp [DataW.TrodAll])
  | cons v vs =>
   cases ds with
   | nil => exact absurd h (by simp [DataW.TrodAll])
   | cons d ds =>
    obtain ⟨p1, p2, h1, h2, _⟩ := h
    obtain ⟨y, k1, k2⟩ := valR_of_trod hf.1.1 hf.1.2 (hv 0 t v rfl rfl) h1
    obtain ⟨x, m1, m2⟩ := argsR_of_trod hf.2 (fun j t' v' a b => hv (j + 1) t' v' (by simpa using a) (by simpa using b)) h2
    exact ⟨(y, x), ⟨v, vs, rfl, k1, m1⟩, k2, m2⟩
theorem trodAll_below {W W' : World} (hl : laidOutB P = true) (hb : Below W.heap.size W W') : ∀ {ts : List TypeId} {vs : List Value} {ds : List (DataW H)} {p : List MemPlace}, (ts.all fun t => P.readableRec t && decide (t < P.types.size)) = true →
  DataW.TrodAll enc P W 0 (fun _ => true) true ts vs ds p → DataW.TrodAll enc P W' 0 (fun b => decide (b < W.heap.size)) true ts vs ds p
 | [], vs, ds, p, _, h => by cases vs <;> cases ds <;> simp_all [DataW.TrodAll]
 | t :: ts, vs, ds, p, ha, h => by
  cases vs with
  | nil => cases ds <;> exact absurd h (by simp [DataW.TrodAll])
  | cons v vs =>
   cases ds with
   | nil => exact absurd h (by simp [DataW.TrodAll])
   | cons d ds =>
    simp only [List.all_cons, Bool.and_eq_true, decide_eq_true_eq] at ha
    obtain ⟨p1, p2, h1, h2, rfl⟩ := h
    have hlt : ∀ x ∈ p1, x.block < W.heap.size := by
     obtain ⟨m, hm⟩ := h1
     exact DataW.trod_lt m _ _ _ hm
    exact ⟨p1, p2, Below.trod hl ha.1.1 ha.1.2 h1 hb hlt, trodAll_below hl hb ha.2 h2, rfl⟩
theorem trodAll_len {ts : List TypeId} : ∀ {vs : List Value} {ds : List (DataW H)} {p : List MemPlace}, DataW.TrodAll enc P w 0 sp held ts vs ds p → ds.length = ts.length := by
 induction ts with
 | nil => intro vs ds p h; cases vs <;> cases ds <;> simp_all [DataW.TrodAll]
 | cons t ts ih =>
  intro vs ds p h
  cases vs with
  | nil => cases ds <;> exact absurd h (by simp [DataW.TrodAll])
  | cons v vs =>
   cases ds with
   | nil => exact absurd h (by simp [DataW.TrodAll])
   | cons d ds => obtain ⟨_, _, _, h2, _⟩ := h; simp [ih h2]
end
section
variable {H : Type} {enc : TypeId × Value → H}
theorem law_post (hl : laidOutB Proofs.Tryz.prog = true) {n : FuncId} {fn : Func} {s : ChangeSpec} {Ts : List Ty} {f : Nat → Tys Ts → Option (Bool × Unit)} (hE : ∀ lf, EntryOK Proofs.Tryz.prog TabG n ⟨Ts, [.bool], f lf⟩)
  (hf : fitAll Proofs.Tryz.prog Ts fn.params.toList = true) (hrd : (fn.params.toList.all fun t => Proofs.Tryz.prog.readableRec t && decide (t < Proofs.Tryz.prog.types.size)) = true)
  {rt : TypeId} (hrt : fn.resultTypes = #[rt]) (hub : Proofs.Tryz.prog.underlying rt = some .bool) (hsv : s.vars = [])
  (hs : ∀ ds : List (DataW H), ds.length = fn.params.toList.length → s.fn H ds = { results := [.lit (.bool true)], args := ds })
  (hpure : ∀ x : Tys Ts, Bnds Ts x → ∃ lf, f lf x = some (true, ()))
  {W : World} {base : Nat} {args : Array Value} {ds gs : List (DataW H)} {before : List MemPlace} {apart fresh handsOn : Bool}
  (hval : ∀ (j : Nat) t v, fn.params[j]? = some t → args[j]? = some v → Value.okWide Proofs.Tryz.prog W .any base t v)
  (hW : DataW.Whole enc Proofs.Tryz.prog fn.params.toList s.vars apart W args.toList ds gs before) (hG : TabG W) :
  Calls Proofs.Tryz.prog n args W fun e W' => ∃ v, e = .returned v ∧ s.post enc Proofs.Tryz.prog fn apart fresh handsOn false W args v W' := by
 have hW' := hW
 obtain ⟨p, q, hA, hV, rfl, _, _⟩ := hW
 rw [hsv] at hV
 obtain ⟨rfl, rfl⟩ := trodVars_none hV
 have hv' : ∀ (j : Nat) (t : TypeId) (v : Value), fn.params.toList[j]? = some t → args.toList[j]? = some v → Value.okWide Proofs.Tryz.prog W .any base t v := by
  intro j t v a b
  rw [Array.getElem?_toList] at a b
  exact hval j t v a b
 obtain ⟨x, k1, k2⟩ := argsR_of_trod hf hv' hA
 obtain ⟨lf, hlf⟩ := hpure x k2
 have hlen := trodAll_len hA
 have h := hE lf x (true, ()) hlf (IsC W) W args.toList hG (fun i hi => hi) k1
 rw [Array.toArray_toList] at h
 refine h.mono ?_
 rintro e W' ⟨v, rfl, hb, hr⟩
 obtain ⟨vs, ⟨u, r, rfl, h1, h2⟩, rfl⟩ := hr
 obtain rfl : r = [] := h2
 have hu : u = .bool true := by
  unfold ValR at h1
  rw [if_neg (by simp [isSt])] at h1
  simpa [DR] using h1
 subst hu
 refine ⟨_, rfl, ds, [], p ++ [], [], p, [], hW', ?_, ?_, ?_, hb.frame _, fun h => by cases h⟩
 ·rw [List.append_nil, hs ds hlen, hrt]
  exact trodAll_mk1 (shut_bool hub true)
 ·rw [List.append_nil, hs ds hlen]
  exact trodAll_below hl hb hrd hA
 ·rw [List.append_nil, hs ds hlen, hsv]
  rfl
end
theorem tabG_of_laid {laid : List (String × DataW Unit)} {W : World} (hp : (laid.all fun x => x.2.handleName?.isNone) = true) {g : Nat} {t e : TypeId} {n : Nat} {rest : List (String × DataW Unit)}
  (hg : Proofs.Tryz.prog.globalNamed "internal/strconv.uint64pow10" = some g) (hty : (Proofs.Tryz.prog.globals[g]?).map (·.type) = some t) (ht : Proofs.Tryz.prog.underlying t = some (.array n e)) (he : Proofs.Tryz.prog.underlying e = some (.int .u64))
  (hce : Proofs.Tryz.prog.cellsOf e = 1) (hct : Proofs.Tryz.prog.cellsOf t = n)
  (hh : (laid.filter fun x => x.1 == "internal/strconv.uint64pow10") = ("internal/strconv.uint64pow10", Lib.tabData .u64 Lib.pow10Tab) :: rest)
  (h : laidMetH Proofs.Tryz.prog laid W) : TabG W := by
 rw [MakeChecks.laidMetH_plain _ _ _ hp] at h
 have h' := laidMet.filter (fun x => x.1 == "internal/strconv.uint64pow10") h
 rw [hh] at h'
 exact Lib.tabIs_of_head hg hty ht he hce hct h'
end Go.Q
namespace Go.N
open Go Go.Q Go.Rx
set_option linter.unusedVariables false
set_option linter.unusedSimpArgs false
theorem apply_wf (lf : Nat) (hlf : 2000000000 ≤ lf) {a b : A} (ha : Wf a) (hb : Wf b) {op : Int} (ho : 3 ≤ op ∧ op ≤ 7) : surveyorlaw21_apply.f lf op (ac a) (ac b) = some (ac (toA (opS op (ofA a) (ofA b))), 0, ()) := by
 have h3 : 200000 ≤ lf := by omega
 rw [surveyorlaw21_apply.f]
 rcases op3 ho with rfl | rfl | rfl | rfl | rfl
 ·exact (brT _ _).trans (by rw [iAdd_f lf h3 ha hb, bdS]; rfl)
 ·exact (brF _ _).trans ((brT _ _).trans (by rw [iSub_f lf h3 ha hb, bdS]; rfl))
 ·exact (brF _ _).trans ((brF _ _).trans ((brT _ _).trans (by rw [iMul_f lf h3 ha hb, bdS]; rfl)))
 ·exact (brF _ _).trans ((brF _ _).trans ((brF _ _).trans ((brT _ _).trans (by rw [iQuo_f lf hlf ha hb, bdS]; rfl))))
 ·exact (brF _ _).trans ((brF _ _).trans ((brF _ _).trans ((brF _ _).trans (by rw [iRem_f lf hlf ha hb, bdS]; rfl))))
theorem compute_same (lf : Nat) (hlf : 2000000000 ≤ lf) {e1 e2 : Bool} {l1 m1 l2 m2 : List UInt8} (a1 : l1.length ≤ 100000) (b1 : m1.length ≤ 100000) (a2 : l2.length ≤ 100000) (b2 : m2.length ≤ 100000) {op : Int} (ho : 3 ≤ op ∧ op ≤ 7) :
  ∃ r, surveyorlaw21_apply.f lf op (e1, bs l1, bs m1, ()) (e2, bs l2, bs m2, ()) = some r ∧ surveyorref21_Compute.f lf op (e1, bs l1, bs m1, ()) (e2, bs l2, bs m2, ()) = some r := by
 have h3 : 200000 ≤ lf := by omega
 have hb := both_ref lf h3 a1 b1 a2 b2 (e1 := e1) (e2 := e2)
 have k1 := check_iv lf h3 e1 l1 m1 (by omega) (by omega)
 have k2 := check_iv lf h3 e2 l2 m2 (by omega) (by omega)
 by_cases c1 : ck e1 l1 m1 = 0
 ·rw [if_pos c1] at hb
  by_cases c2 : ck e2 l2 m2 = 0
  ·obtain ⟨a, ea, wa⟩ := ck_wf c1
   obtain ⟨b, eb, wb⟩ := ck_wf c2
   rw [c2] at hb
   rw [surveyorref21_Compute.f]
   rw [ea, eb] at hb ⊢
   refine ⟨_, apply_wf lf hlf wa wb ho, ?_⟩
   simp only [hb, bdS, bne_self_eq_false, brF, operation_A lf h3 wa wb ho]
  ·refine ⟨((false, bs [], bs [], ()), ck e2 l2 m2, ()), ?_, ?_⟩
   ·rw [surveyorlaw21_apply.f]
    rcases op3 ho with rfl | rfl | rfl | rfl | rfl
    ·exact (brT _ _).trans (by rw [interval_Add.f]; simp only [k1, k2, c1, bdS, bne_self_eq_false, brF, bneT c2, brT])
    ·exact (brF _ _).trans ((brT _ _).trans (by rw [interval_Sub.f]; simp only [k1, k2, c1, bdS, bne_self_eq_false, brF, bneT c2, brT]))
    ·exact (brF _ _).trans ((brF _ _).trans ((brT _ _).trans (by rw [interval_Mul.f]; simp only [k1, k2, c1, bdS, bne_self_eq_false, brF, bneT c2, brT])))
    ·exact (brF _ _).trans ((brF _ _).trans ((brF _ _).trans ((brT _ _).trans (by rw [interval_Quo.f]; simp only [k1, k2, c1, bdS, bne_self_eq_false, brF, bneT c2, brT]))))
    ·exact (brF _ _).trans ((brF _ _).trans ((brF _ _).trans ((brF _ _).trans (by rw [interval_Rem.f]; simp only [k1, k2, c1, bdS, bne_self_eq_false, brF, bneT c2, brT]))))
   ·rw [surveyorref21_Compute.f]; simp only [hb, bdS, bneT c2, brT]
 ·rw [if_neg c1] at hb
  refine ⟨((false, bs [], bs [], ()), ck e1 l1 m1, ()), ?_, ?_⟩
  ·rw [surveyorlaw21_apply.f]
   rcases op3 ho with rfl | rfl | rfl | rfl | rfl
   ·exact (brT _ _).trans (by rw [interval_Add.f]; simp only [k1, bdS, bneT c1, brT])
   ·exact (brF _ _).trans ((brT _ _).trans (by rw [interval_Sub.f]; simp only [k1, bdS, bneT c1, brT]))
   ·exact (brF _ _).trans ((brF _ _).trans ((brT _ _).trans (by rw [interval_Mul.f]; simp only [k1, bdS, bneT c1, brT])))
   ·exact (brF _ _).trans ((brF _ _).trans ((brF _ _).trans ((brT _ _).trans (by rw [interval_Quo.f]; simp only [k1, bdS, bneT c1, brT]))))
   ·exact (brF _ _).trans ((brF _ _).trans ((brF _ _).trans ((brF _ _).trans (by rw [interval_Rem.f]; simp only [k1, bdS, bneT c1, brT]))))
  ·rw [surveyorref21_Compute.f]; simp only [hb, bdS, bneT c1, brT]
end Go.N
namespace Go.Q
open Go.N
theorem Pure.IntervalComputes (x : Tys (surveyorlaw21_IntervalComputes.E 0).ps) (h : Bnds (surveyorlaw21_IntervalComputes.E 0).ps x) : ∃ lf, surveyorlaw21_IntervalComputes.f lf x.1 x.2.1 = some (true, ()) := by
 obtain ⟨⟨e1, l1, m1, ⟨⟩⟩, ⟨e2, l2, m2, ⟨⟩⟩, ⟨⟩⟩ := x
 clear h
 rw [← bs_eta l1, ← bs_eta m1, ← bs_eta l2, ← bs_eta m2]
 generalize l1.data.toList = l1
 generalize m1.data.toList = m1
 generalize l2.data.toList = l2
 generalize m2.data.toList = m2
 refine ⟨2000000000, ?_⟩
 rw [surveyorlaw21_IntervalComputes.f]
 simp only [bdS, few_f, awake_f]
 by_cases hf : l1.length ≤ 450 ∧ m1.length ≤ 450 ∧ l2.length ≤ 450 ∧ m2.length ≤ 450
 ·rw [decide_eq_true hf]
  have cs := fun (op : Int) (ho : 3 ≤ op ∧ op ≤ 7) => compute_same 2000000000 (Nat.le_refl _) (e1 := e1) (e2 := e2) (l1 := l1) (m1 := m1) (l2 := l2) (m2 := m2) (by omega) (by omega) (by omega) (by omega) ho
  obtain ⟨r3, p3, q3⟩ := cs 3 (by decide)
  obtain ⟨r4, p4, q4⟩ := cs 4 (by decide)
  obtain ⟨r5, p5, q5⟩ := cs 5 (by decide)
  obtain ⟨r6, p6, q6⟩ := cs 6 (by decide)
  obtain ⟨r7, p7, q7⟩ := cs 7 (by decide)
  simp only [Bool.not_true, Go.N.brF, p3, q3, p4, q4, p5, q5, p6, q6, p7, q7, bdS, bne_self_eq_false, BEq.rfl, brT, ba_beq, decide_true, Bool.and_self]
 ·rw [decide_eq_false hf]
  simp only [Bool.not_false, brT]
end Go.Q
