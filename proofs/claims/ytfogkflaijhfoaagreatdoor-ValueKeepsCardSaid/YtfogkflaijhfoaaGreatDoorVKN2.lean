import Derived.KernelRfl
import Derived.Test.YtfogkflaijhfoaaGreatDoorChecked
import Derived.ProofKit
import Derived.OpenShut
import Derived.LaidMore
import Derived.Lay
import Derived.Carry
import Derived.SevenTiedAt
import Derived.Stop.Joined
import Derived.Lib.LaidTab
import Derived.LaidSub
import Derived.Test.YtfogkflaijhfoaaGreatDoorVKE2
import Derived.Test.YtfogkflaijhfoaaGreatDoorVKG6
import Derived.Test.YtfogkflaijhfoaaGreatDoorVKG7
import Derived.Test.YtfogkflaijhfoaaGreatDoorVKG8
import Derived.Test.YtfogkflaijhfoaaGreatDoorVKG9
import Derived.Test.YtfogkflaijhfoaaGreatDoorVKN1
set_option linter.unusedVariables false
set_option linter.unusedSimpArgs false
set_option linter.unusedSectionVars false
set_option maxRecDepth 100000
namespace Go.N
open Go Go.Q Go.Rx
theorem gcd_step {x y q r : Int} (h : x = y * q + r) (hy : 0 < y) (h0 : 0 ≤ r) (h1 : r < y) (hx : 0 ≤ x) : Int.gcd y r = Int.gcd x y := by
 have e : r = x % y := by rw [h, Int.mul_add_emod_self_left]; exact (Int.emod_eq_of_lt h0 h1).symm
 obtain ⟨a, rfl⟩ := Int.eq_ofNat_of_zero_le hx
 obtain ⟨b, rfl⟩ := Int.eq_ofNat_of_zero_le (Int.le_of_lt hy)
 have e' : r = ((a % b : Nat) : Int) := by rw [e]; rfl
 rw [e', Int.gcd_natCast_natCast, Int.gcd_natCast_natCast, Nat.gcd_comm a b, Nat.gcd_rec b a, Nat.gcd_comm]
theorem common_l0 (lf : Nat) (hlf : 2000000000 ≤ lf) : ∀ (k n : Nat) (xs ys : List Int), lv G ys ≤ k → k < n → Dg G xs → Dg G ys → Tr xs → Tr ys → xs.length ≤ 40000 → ys.length ≤ 40000 →
  ∃ r, bigint_common.l0 lf n xs ys = some ((r, ()), ()) ∧ Dg G r ∧ Tr r ∧ r.length ≤ max xs.length ys.length ∧ lv G r = (Int.gcd (lv G xs) (lv G ys) : Int) := by
 intro k
 induction k with
 | zero =>
  intro n xs ys hk hn hx hy tx ty lx ly
  obtain ⟨m, rfl⟩ := Nat.exists_eq_succ_of_ne_zero (show n ≠ 0 by omega)
  have y0 := lv_nonneg (B := G) (by decide) hy
  have x0 := lv_nonneg (B := G) (by decide) hx
  have : ys = [] := (lv_eq_zero (B := G) (by decide) hy ty).1 (by omega)
  subst this
  refine ⟨xs, ?_, hx, tx, by omega, ?_⟩
  ·rw [bigint_common.l0, bigint_common.r0, decide_eq_false (by simp), brF]
  ·rw [show lv G [] = 0 from rfl, Int.gcd_zero_right]; omega
 | succ k ih =>
  intro n xs ys hk hn hx hy tx ty lx ly
  obtain ⟨m, rfl⟩ := Nat.exists_eq_succ_of_ne_zero (show n ≠ 0 by omega)
  have x0 := lv_nonneg (B := G) (by decide) hx
  by_cases h : ys = []
  ·subst h
   refine ⟨xs, ?_, hx, tx, by omega, ?_⟩
   ·rw [bigint_common.l0, bigint_common.r0, decide_eq_false (by simp), brF]
   ·rw [show lv G [] = 0 from rfl, Int.gcd_zero_right]; omega
  ·obtain ⟨Q, R, e, dq, tq, dr, tr', val, lt⟩ := divide_f lf xs ys hx hy tx ty h (by omega) (by omega) hlf
   have yp := lv_pos (B := G) (by decide) hy ty h
   have R0 := lv_nonneg (B := G) (by decide) dr
   have lR : R.length ≤ ys.length := by
    by_cases z : R.length ≤ ys.length
    ·exact z
    ·have := lv_len_lt (B := G) (by decide) hy dr tr' (by omega); omega
   obtain ⟨r, r1, r2, r3, r4, r5⟩ := ih m ys R (by omega) (by omega) hy dr ty tr' ly (by omega)
   refine ⟨r, ?_, r2, r3, by omega, ?_⟩
   ·have : 0 < ys.length := List.length_pos_iff.2 h
    rw [bigint_common.l0, bigint_common.r0, decide_eq_true (by omega), brT, e, bdS]
    exact r1
   ·rw [r5, gcd_step val yp R0 lt x0]
def Big (lf : Nat) : Prop := 2000000000 ≤ lf ∧ K < (lf : Int)
theorem gcd_f (lf : Nat) (hb : Big lf) {x y : Int} (hx : -K < x ∧ x < K) (hy : -K < y ∧ y < K) : bigint_Gcd.f lf (bs (Lib.itoa x)) (bs (Lib.itoa y)) = some (bs (Lib.itoa (Int.gcd x y)), 0, ()) := by
 obtain ⟨hlf, hK⟩ := hb
 obtain ⟨p, q, e, k1, k2, _⟩ := pair_f lf _ _ (chkK hx) (chkK hy) (by omega)
 rw [iv_itoa] at k1 k2
 have vx : lv G p.2.1 = (x.natAbs : Int) := by
  have := k1.val
  have := lv_nonneg (B := G) (by decide) k1.dg
  split at * <;> omega
 have vy : lv G q.2.1 = (y.natAbs : Int) := by
  have := k2.val
  have := lv_nonneg (B := G) (by decide) k2.dg
  split at * <;> omega
 obtain ⟨r, r1, r2, r3, r4, r5⟩ := common_l0 lf hlf (lf + 39) (lf + 40) p.2.1 q.2.1 (by omega) (by omega) k1.dg k2.dg k1.tr k2.tr (by have := k1.len; omega) (by have := k2.len; omega)
 rw [vx, vy] at r5
 have g : (Int.gcd (x.natAbs : Int) (y.natAbs : Int) : Int) = (Int.gcd x y : Int) := by
  rw [Int.gcd_natCast_natCast]; rfl
 have rn : RN (false, r, ()) (Int.gcd x y) 4096 := ⟨r2, r3, by have := k1.len; have := k2.len; simp only; omega, by simp only [Bool.false_eq_true, if_false]; rw [r5, g]⟩
 rw [bigint_Gcd.f, e, bdS]
 simp only [bne_self_eq_false, brF]
 rw [bigint_common.f, r1, bdS, bdS, ntext_f lf rn (by omega) (by omega), bdS]
theorem magnitude_ref (lf : Nat) (z : Int) : surveyorref01_Magnitude.f lf (bs (Lib.itoa z)) = some (bs (Lib.itoa (z.natAbs : Int)), ()) := by
 rw [surveyorref01_Magnitude.f, negative_f lf _ (itoa_ne z), bdS]
 simp only
 rw [neg_itoa]
 have e' : Lib.itoa (z.natAbs : Int) = D z.natAbs := by unfold Lib.itoa; rw [if_neg (by omega)]; rfl
 rw [e']
 by_cases hn : z < 0
 ·have e : Lib.itoa z = 45 :: D z.natAbs := by unfold Lib.itoa; rw [if_pos hn]
  rw [decide_eq_true hn, brT, e, sCut_from (45 :: D z.natAbs) 1 1 rfl (by simp), bdS]
  rfl
 ·have e : Lib.itoa z = D z.natAbs := by unfold Lib.itoa; rw [if_neg hn]; congr 1; omega
  rw [decide_eq_false hn, brF, e]
theorem i0' : Lib.itoa 0 = [48] := by unfold Lib.itoa; rw [if_neg (by omega)]; exact dec_zero
theorem beq0 (z : Int) : ((bs (Lib.itoa z)).toList == (⟨#[48]⟩ : ByteArray).toList) = decide (z = 0) := by
 rw [show (⟨#[48]⟩ : ByteArray) = bs [48] from rfl, beq_bs, ← i0']
 simp only [decide_eq_decide]
 exact ⟨fun e => itoa_inj e, fun e => by rw [e]⟩
end Go.N
namespace Go.N
open Go Go.Q Go.Rx
def ckc (em : Bool) (l h : List UInt8) : Int :=
 if em = true then (if l ≠ [] ∨ h ≠ [] then 3 else 0) else if num l ≠ 0 then num l else if num h ≠ 0 then num h else if iv l < 0 ∨ (iv l ≠ 0 ∧ (iv h < 0 ∨ ¬ iv h < iv l)) then 2 else 0
theorem num22 (lf : Nat) (l : List UInt8) (hl : l.length ≤ 9223372036854775807) (hf : l.length ≤ lf) : surveyorref22_number.f lf (bs l) = some (num l, ()) := by
 rw [surveyorref22_number.f, form_f lf l hl hf, bdS]
 unfold num chk
 cases hc : can l with
 | false => simp [brT]
 | true =>
  simp only [Bool.not_true, brF, if_true]
  rw [rDigits_f lf l (can_parts hc).2.2 hl, bdS]
  by_cases h : nlen l > 100
  ·rw [decide_eq_true (by omega), brT]
   by_cases h2 : nlen l > 4096
   ·rw [if_pos h2]; rfl
   ·rw [if_neg h2, if_neg (by simp), if_pos h]
  ·rw [decide_eq_false (by omega), brF, if_neg (show ¬ nlen l > 4096 by omega), if_neg (by simp), if_neg h]
theorem long_f (lf : Nat) (l : List UInt8) (hl : l.length ≤ 9223372036854775807) : congruence_long.f lf (bs l) = some (decide (nlen l > 100), ()) := by
 have := nlen_le l
 rw [congruence_long.f, trimPrefix_f, bdS, bs_size]
 congr 2
 simp only [decide_eq_decide]; unfold nlen; omega
theorem numC (lf : Nat) (l : List UInt8) (hl : l.length ≤ 9223372036854775807) : congruence_number.f lf (bs l) = some (num l, ()) := by
 rw [congruence_number.f, check_f lf l hl, bdS]
 simp only [long_f lf l hl, bdS]
 unfold num
 by_cases h : chk l = 0
 ·rw [h]
  simp only [show ((0 : Int) == 10) = false from rfl, brF, BEq.rfl, brT, bne_self_eq_false, ne_eq, not_true, if_false]
  by_cases h2 : nlen l > 100
  ·rw [decide_eq_true h2, brT, if_pos h2]
  ·rw [decide_eq_false h2, brF, if_neg h2]
 ·rw [if_pos h, show (chk l == 0) = false from beq_eq_false_iff_ne.2 h, brF, bneT h, brT]
  by_cases h2 : chk l = 10
  ·rw [h2, BEq.rfl, brT]
  ·rw [show (chk l == 10) = false from beq_eq_false_iff_ne.2 h2, brF]
theorem less_c (lf : Nat) (l m : List UInt8) (h1 : chk l = 0) (h2 : chk m = 0) (h3 : 200000 ≤ lf) : congruence_less.f lf (bs l) (bs m) = some (decide (iv l < iv m), ()) := by
 rw [congruence_less.f, compare_f lf l m h1 h2 h3, bdS]
 simp only
 rw [congruence_sure_int.f, bdS]
 congr 2
 simp only [decide_eq_decide]; unfold sgn; (repeat' split) <;> omega
theorem ckc_f (lf : Nat) (h3 : 200000 ≤ lf) (em : Bool) (l h : List UInt8) (hl : l.length ≤ 9223372036854775807) (hh : h.length ≤ 9223372036854775807) : congruence_Check.f lf (em, bs l, bs h, ()) = some (ckc em l h, ()) := by
 rw [congruence_Check.f]
 simp only [e0, beq_bs, numC lf l hl, numC lf h hh, bdS]
 unfold ckc
 cases em with
 | true =>
  rw [brT, if_pos rfl]
  by_cases c1 : l = [] <;> by_cases c2 : h = [] <;> simp [c1, c2, brT, brF]
 | false =>
  rw [brF, if_neg (by simp)]
  by_cases c1 : num l = 0
  ·rw [c1, bne_self_eq_false, brF, if_neg (by simp)]
   by_cases c2 : num h = 0
   ·rw [c2, bne_self_eq_false, brF, if_neg (by simp)]
    have k1 := num_chk c1
    have k2 := num_chk c2
    have z : (⟨#[48]⟩ : ByteArray) = bs [48] := rfl
    rw [z, less_c lf l [48] k1 chk48 h3, bdS, less_c lf h [48] k2 chk48 h3, less_c lf h l k2 k1 h3, iv48]
    simp only [bdS]
    have e : l = [48] ↔ iv l = 0 := (iv_zero (chk_zero.1 k1).1).symm
    by_cases a : iv l < 0
    ·rw [decide_eq_true a, brT, if_pos (.inl a)]
    ·rw [decide_eq_false a, brF]
     by_cases b : iv l = 0
     ·rw [decide_eq_true (e.2 b), Bool.not_true, brF, if_neg (by omega)]
     ·rw [decide_eq_false (fun x => b (e.1 x)), Bool.not_false, brT]
      by_cases c : iv h < 0
      ·rw [decide_eq_true c, brT, if_pos (.inr ⟨b, .inl c⟩)]
      ·rw [decide_eq_false c, brF]
       by_cases d : iv h < iv l
       ·rw [decide_eq_true d, Bool.not_true, brF, if_neg (by omega)]
       ·rw [decide_eq_false d, Bool.not_false, brT, if_pos (.inr ⟨b, .inr d⟩)]
   ·rw [bneT c2, brT, if_pos c2]
  ·rw [bneT c1, brT, if_pos c1]
theorem ckc_ref (lf : Nat) (h3 : 200000 ≤ lf) (em : Bool) (l h : List UInt8) (hl : l.length ≤ 9223372036854775807) (hh : h.length ≤ 9223372036854775807) (fl : l.length ≤ lf) (fh : h.length ≤ lf) : surveyorref22_Check.f lf (em, bs l, bs h, ()) = some (ckc em l h, ()) := by
 rw [surveyorref22_Check.f]
 simp only [e0, beq_bs, num22 lf l hl fl, num22 lf h hh fh, bdS]
 unfold ckc
 cases em with
 | true =>
  rw [brT, if_pos rfl]
  by_cases c1 : l = [] <;> by_cases c2 : h = [] <;> simp [c1, c2, brT, brF]
 | false =>
  rw [brF, if_neg (by simp)]
  by_cases c1 : num l = 0
  ·rw [c1, bne_self_eq_false, brF, if_neg (by simp)]
   by_cases c2 : num h = 0
   ·rw [c2, bne_self_eq_false, brF, if_neg (by simp)]
    have k1 := num_chk c1
    have k2 := num_chk c2
    have l1 := num_len c1
    have l2 := num_len c2
    have z : (⟨#[48]⟩ : ByteArray) = bs [48] := rfl
    rw [sign_ref lf l (chk_zero.1 k1).1, bdS, sign_ref lf h (chk_zero.1 k2).1, less_f lf h l (chk_zero.1 k2).1 (chk_zero.1 k1).1 (by omega) (by omega) h3]
    simp only [bdS, sgn_lt0]
    have e : l = [48] ↔ iv l = 0 := (iv_zero (chk_zero.1 k1).1).symm
    by_cases a : iv l < 0
    ·rw [decide_eq_true a, brT, if_pos (.inl a)]
    ·rw [decide_eq_false a, brF]
     by_cases b : iv l = 0
     ·rw [decide_eq_true (e.2 b), Bool.not_true, brF, if_neg (by omega)]
     ·rw [decide_eq_false (fun x => b (e.1 x)), Bool.not_false, brT]
      by_cases c : iv h < 0
      ·rw [decide_eq_true c, brT, if_pos (.inr ⟨b, .inl c⟩)]
      ·rw [decide_eq_false c, brF]
       by_cases d : iv h < iv l
       ·rw [decide_eq_true d, Bool.not_true, brF, if_neg (by omega)]
       ·rw [decide_eq_false d, Bool.not_false, brT, if_pos (.inr ⟨b, .inr d⟩)]
   ·rw [bneT c2, brT, if_pos c2]
  ·rw [bneT c1, brT, if_pos c1]
structure Cg where
 em : Bool
 m : Int
 r : Int
deriving DecidableEq
def cc (c : Cg) : IV := if c.em = true then (true, bs [], bs [], ()) else (false, bs (Lib.itoa c.m), bs (Lib.itoa c.r), ())
structure WfC (c : Cg) : Prop where
 m : -C < c.m ∧ c.m < C
 r : -C < c.r ∧ c.r < C
 pos : 0 ≤ c.m
 rng : c.m ≠ 0 → 0 ≤ c.r ∧ c.r < c.m
def Ec : Cg := ⟨true, 0, 0⟩
def topC : Cg := ⟨false, 1, 0⟩
theorem ckc_wf {em : Bool} {l h : List UInt8} (hc : ckc em l h = 0) : ∃ c : Cg, ((em, bs l, bs h, ()) : IV) = cc c ∧ WfC c := by
 have hC := C_gt
 unfold ckc at hc
 cases em with
 | true =>
  rw [if_pos rfl] at hc
  have : ¬ (l ≠ [] ∨ h ≠ []) := fun x => by rw [if_pos x] at hc; cases hc
  have l0 : l = [] := by simpa using fun x => this (.inl x)
  have h0 : h = [] := by simpa using fun x => this (.inr x)
  subst l0 h0
  exact ⟨Ec, rfl, ⟨by simp only [Ec]; omega, by simp only [Ec]; omega, by simp [Ec], fun x => absurd rfl x⟩⟩
 | false =>
  rw [if_neg (by simp)] at hc
  by_cases c1 : num l = 0
  ·rw [if_neg (by simp [c1])] at hc
   by_cases c2 : num h = 0
   ·rw [if_neg (by simp [c2])] at hc
    have n : ¬ (iv l < 0 ∨ (iv l ≠ 0 ∧ (iv h < 0 ∨ ¬ iv h < iv l))) := fun x => by rw [if_pos x] at hc; cases hc
    have i1 := itoa_iv (num_zero.1 c1).1
    have i2 := itoa_iv (num_zero.1 c2).1
    refine ⟨⟨false, iv l, iv h⟩, by unfold cc; rw [if_neg (by simp)]; simp only; rw [← i1, ← i2], ?_⟩
    rw [i1, num_itoa] at c1
    rw [i2, num_itoa] at c2
    exact ⟨c1, c2, by simp only; omega, fun x => by simp only at x ⊢; omega⟩
   ·rw [if_pos c2] at hc; exact absurd hc c2
  ·rw [if_pos c1] at hc; exact absurd hc c1
def clsF (m r : Int) : Cg :=
 if sz (m.natAbs : Int) > 100 ∨ sz (if m = 0 then r else r.fmod (m.natAbs : Int)) > 100 then topC else ⟨false, (m.natAbs : Int), if m = 0 then r else r.fmod (m.natAbs : Int)⟩
theorem longI (lf : Nat) {z : Int} (hz : -K < z ∧ z < K) : congruence_long.f lf (bs (Lib.itoa z)) = some (decide (sz z > 100), ()) := by
 have := okb_len hz
 rw [long_f lf _ (by omega)]; rfl
theorem abs_f (lf : Nat) {z : Int} (hz : -K < z ∧ z < K) : bigint_Abs.f lf (bs (Lib.itoa z)) = some (bs (Lib.itoa (z.natAbs : Int)), 0, ()) := by
 have := okb_len hz
 rw [bigint_Abs.f, check_f lf _ (by omega), bdS]
 simp only [chkK hz, bne_self_eq_false, brF]
 rw [trimPrefix_f, bdS, body_itoa]
 have e' : Lib.itoa (z.natAbs : Int) = D z.natAbs := by unfold Lib.itoa; rw [if_neg (by omega)]; rfl
 rw [e']
theorem top_c : ((false, (⟨#[49]⟩ : ByteArray), (⟨#[48]⟩ : ByteArray), ()) : IV) = cc topC := by
 unfold cc topC; rw [if_neg (by simp)]; simp only; rw [i1, i0]
theorem rest_K {x m : Int} (hx : -K < x ∧ x < K) (hm : -K < m ∧ m < K) (h0 : m ≠ 0) : -K < x.fmod m ∧ x.fmod m < K := by
 have := fmod_abs (x := x) h0
 omega
theorem class_f (lf : Nat) (hlf : 2000000000 ≤ lf) {m r : Int} (hm : -K < m ∧ m < K) (hr : -K < r ∧ r < K) : congruence_class.f lf (bs (Lib.itoa m)) (bs (Lib.itoa r)) = some (cc (clsF m r), ()) := by
 have ha : -K < (m.natAbs : Int) ∧ (m.natAbs : Int) < K := by omega
 rw [congruence_class.f, abs_f lf hm, bdS]
 simp only [api_Int.f, bdS, beq0, longI lf ha, congruence_Top.f, top_c]
 unfold clsF
 by_cases h : m = 0
 ·subst h
  simp only [longI lf hr, bdS]
  rw [decide_eq_true (by trivial), Bool.not_true, brF]
  by_cases c1 : sz ((0 : Int).natAbs : Int) > 100
  ·rw [decide_eq_true c1, brT, if_pos (.inl c1)]
  ·rw [decide_eq_false c1, brF]
   by_cases c2 : sz r > 100
   ·rw [decide_eq_true c2, brT, if_pos (.inr (by rw [if_pos trivial]; exact c2))]
   ·rw [decide_eq_false c2, brF, if_neg (by rw [if_pos trivial]; exact fun x => x.elim c1 c2), if_pos trivial]
    unfold cc; rw [if_neg (by simp)]
 ·have h' : (m.natAbs : Int) ≠ 0 := by omega
  have rk := rest_K hr ha h'
  simp only [rem_small lf hlf hr ha h', bdS, longI lf rk]
  rw [decide_eq_false h', Bool.not_false, brT]
  by_cases c1 : sz (m.natAbs : Int) > 100
  ·rw [decide_eq_true c1, brT, if_pos (.inl c1)]
  ·rw [decide_eq_false c1, brF]
   by_cases c2 : sz (r.fmod (m.natAbs : Int)) > 100
   ·rw [decide_eq_true c2, brT, if_pos (.inr (by rw [if_neg h]; exact c2))]
   ·rw [decide_eq_false c2, brF, if_neg (by rw [if_neg h]; exact fun x => x.elim c1 c2), if_neg h]
    unfold cc; rw [if_neg (by simp)]
theorem digitsI (lf : Nat) {z : Int} (hz : -K < z ∧ z < K) : surveyorref01_Digits.f lf (bs (Lib.itoa z)) = some ((sz z : Int), ()) := by
 have := okb_len hz
 exact rDigits_f lf _ (itoa_ne z) (by omega)
theorem gt100 (n : Nat) : decide (((n : Nat) : Int) > 100) = decide (n > 100) := by simp only [decide_eq_decide]; omega
theorem class_ref (lf : Nat) (h3 : 200000 ≤ lf) {m r : Int} (hm : -K < m ∧ m < K) (hr : -K < r ∧ r < K) : surveyorref22_Class.f lf (bs (Lib.itoa m)) (bs (Lib.itoa r)) = some (cc (clsF m r), ()) := by
 have ha : -K < (m.natAbs : Int) ∧ (m.natAbs : Int) < K := by omega
 rw [surveyorref22_Class.f, magnitude_ref, bdS]
 simp only [beq0, digitsI lf ha, bdS, surveyorref22_Top.f, top_c, gt100]
 unfold clsF
 by_cases h : m = 0
 ·subst h
  simp only [digitsI lf hr, bdS, gt100]
  rw [decide_eq_true (by trivial), Bool.not_true, brF]
  by_cases c1 : sz ((0 : Int).natAbs : Int) > 100
  ·rw [decide_eq_true c1, brT, if_pos (.inl c1)]
  ·rw [decide_eq_false c1, brF]
   by_cases c2 : sz r > 100
   ·rw [decide_eq_true c2, brT, if_pos (.inr (by rw [if_pos trivial]; exact c2))]
   ·rw [decide_eq_false c2, brF, if_neg (by rw [if_pos trivial]; exact fun x => x.elim c1 c2), if_pos trivial]
    unfold cc; rw [if_neg (by simp)]
 ·have h' : (m.natAbs : Int) ≠ 0 := by omega
  have rk := rest_K hr ha h'
  have s1 := szK hr
  have s2 := szK ha
  simp only [rest_ref lf h3 (x := r) (y := (m.natAbs : Int)) (by omega) (by omega) h', bdS, digitsI lf rk, gt100]
  rw [decide_eq_false h, Bool.not_false, brT]
  by_cases c1 : sz (m.natAbs : Int) > 100
  ·rw [decide_eq_true c1, brT, if_pos (.inl c1)]
  ·rw [decide_eq_false c1, brF]
   by_cases c2 : sz (r.fmod (m.natAbs : Int)) > 100
   ·rw [decide_eq_true c2, brT, if_pos (.inr (by rw [if_neg h]; exact c2))]
   ·rw [decide_eq_false c2, brF, if_neg (by rw [if_neg h]; exact fun x => x.elim c1 c2), if_neg h]
    unfold cc; rw [if_neg (by simp)]
def dvd' (m a : Int) : Bool := if m = 0 then decide (a = 0) else decide (a.fmod m = 0)
theorem divides_f (lf : Nat) (hlf : 2000000000 ≤ lf) {m a : Int} (hm : -K < m ∧ m < K) (ha : -K < a ∧ a < K) : congruence_divides.f lf (bs (Lib.itoa m)) (bs (Lib.itoa a)) = some (dvd' m a, ()) := by
 rw [congruence_divides.f, beq0]
 unfold dvd'
 by_cases h : m = 0
 ·rw [decide_eq_true h, brT, if_pos h, beq0]
 ·rw [decide_eq_false h, brF, if_neg h, rem_small lf hlf ha hm h, bdS, api_Int.f, bdS, beq0]
theorem divides_ref (lf : Nat) (h3 : 200000 ≤ lf) {m a : Int} (hm : sz m ≤ 20000) (ha : sz a ≤ 20000) : surveyorref22_Divides.f lf (bs (Lib.itoa m)) (bs (Lib.itoa a)) = some (dvd' m a, ()) := by
 rw [surveyorref22_Divides.f, beq0]
 unfold dvd'
 by_cases h : m = 0
 ·rw [decide_eq_true h, brT, if_pos h, beq0]
 ·rw [decide_eq_false h, brF, if_neg h, rest_ref lf h3 ha hm h, bdS, beq0]
end Go.N
namespace Go.N
open Go Go.Q Go.Rx
theorem gcd_lt {k x y : Int} (hx : -k < x ∧ x < k) (hy : -k < y ∧ y < k) : -k < (Int.gcd x y : Int) ∧ (Int.gcd x y : Int) < k := by
 by_cases h : x = 0
 ·subst h; rw [Int.gcd_zero_left]; omega
 ·have := Nat.gcd_le_left y.natAbs (show 0 < x.natAbs by omega)
  have e : Int.gcd x y = Nat.gcd x.natAbs y.natAbs := rfl
  omega
section
variable (lf : Nat) (hb : Big lf)
include hb
theorem cgcd_f {x y : Int} (hx : -K < x ∧ x < K) (hy : -K < y ∧ y < K) : congruence_gcd.f lf (bs (Lib.itoa x)) (bs (Lib.itoa y)) = some (bs (Lib.itoa (Int.gcd x y)), ()) := by
 rw [congruence_gcd.f, gcd_f lf hb hx hy, bdS, api_Int.f, bdS]
theorem csub_f {x y : Int} (hx : -K < x ∧ x < K) (hy : -K < y ∧ y < K) (h : -K < x - y ∧ x - y < K) : congruence_sub.f lf (bs (Lib.itoa x)) (bs (Lib.itoa y)) = some (bs (Lib.itoa (x - y)), ()) := by
 have := (sz_K (x - y)).2 h
 rw [congruence_sub.f, sub_f lf _ _ (chkK hx) (chkK hy) (by have := hb.1; omega), iv_itoa, iv_itoa, dlen_sz, if_neg (by omega), bdS, api_Int.f, bdS]
theorem cadd_f {x y : Int} (hx : -K < x ∧ x < K) (hy : -K < y ∧ y < K) (h : -K < x + y ∧ x + y < K) : congruence_add.f lf (bs (Lib.itoa x)) (bs (Lib.itoa y)) = some (bs (Lib.itoa (x + y)), ()) := by
 rw [congruence_add.f, add_small lf (by have := hb.1; omega) hx hy h, bdS, api_Int.f, bdS]
theorem cmul_f {x y : Int} (hx : -K < x ∧ x < K) (hy : -K < y ∧ y < K) (h : -K < x * y ∧ x * y < K) : congruence_mul.f lf (bs (Lib.itoa x)) (bs (Lib.itoa y)) = some (bs (Lib.itoa (x * y)), ()) := by
 rw [congruence_mul.f, mul_small lf (by have := hb.1; omega) hx hy h, bdS, api_Int.f, bdS]
end
theorem cc_ne {c : Cg} (h : c.em = false) : cc c = (false, bs (Lib.itoa c.m), bs (Lib.itoa c.r), ()) := by unfold cc; rw [if_neg (by simp [h])]
theorem cc_em {c : Cg} (h : c.em = true) : cc c = (true, bs [], bs [], ()) := by unfold cc; rw [if_pos h]
theorem wf_ckc {c : Cg} (h : WfC c) : ∃ (l m : List UInt8), cc c = (c.em, bs l, bs m, ()) ∧ ckc c.em l m = 0 ∧ l.length ≤ 101 ∧ m.length ≤ 101 := by
 have hK := C_lt_K
 cases e : c.em with
 | true => exact ⟨[], [], cc_em e, by simp [ckc], by simp, by simp⟩
 | false =>
  have n1 := (num_itoa c.m).2 h.m
  have n2 := (num_itoa c.r).2 h.r
  refine ⟨Lib.itoa c.m, Lib.itoa c.r, cc_ne e, ?_, num_len n1, num_len n2⟩
  unfold ckc
  rw [if_neg (by simp), n1, n2, iv_itoa, iv_itoa, if_neg (by simp), if_neg (by simp), if_neg]
  have a := h.pos
  have b := h.rng
  intro x
  rcases x with x | ⟨x, y⟩
  ·omega
  ·have := b x; omega
section
variable (lf : Nat) (hb : Big lf) {c d : Cg} (hc : WfC c) (hd : WfC d)
include hb hc
theorem ccheck : congruence_Check.f lf (cc c) = some (0, ()) := by
 obtain ⟨l, m, e, h, a, b⟩ := wf_ckc hc
 rw [e, ckc_f lf (by have := hb.1; omega) _ _ _ (by omega) (by omega), h]
theorem rcheck : surveyorref22_Check.f lf (cc c) = some (0, ()) := by
 obtain ⟨l, m, e, h, a, b⟩ := wf_ckc hc
 have := hb.1
 rw [e, ckc_ref lf (by omega) _ _ _ (by omega) (by omega) (by omega) (by omega), h]
include hd
theorem cboth : congruence_both.f lf (cc c) (cc d) = some (0, ()) := by
 rw [congruence_both.f, ccheck lf hb hc, bdS]
 simp only [bne_self_eq_false, brF]
 rw [ccheck lf hb hd, bdS]
theorem bounds : (-K < c.m ∧ c.m < K) ∧ (-K < c.r ∧ c.r < K) ∧ (-K < d.m ∧ d.m < K) ∧ (-K < d.r ∧ d.r < K) ∧ (-K < c.r - d.r ∧ c.r - d.r < K) ∧ (-K < c.r + d.r ∧ c.r + d.r < K) ∧ (-K < c.m * d.m ∧ c.m * d.m < K) ∧ (-K < c.m * d.r ∧ c.m * d.r < K) ∧ (-K < d.m * c.r ∧ d.m * c.r < K) ∧ (-K < c.r * d.r ∧ c.r * d.r < K) := by
 have hK := CC_K
 have hC := C_gt
 have hCK := C_lt_K
 have h4 : 0 ≤ C * C := Int.mul_nonneg (by omega) (by omega)
 have a1 := hc.m
 have a2 := hc.r
 have a3 := hd.m
 have a4 := hd.r
 have m1 := mul_C a1 a3
 have m2 := mul_C a1 a4
 have m3 := mul_C a3 a2
 have m4 := mul_C a2 a4
 refine ⟨by omega, by omega, by omega, by omega, by omega, by omega, by omega, by omega, by omega, by omega⟩
end
end Go.N
namespace Go.N
open Go Go.Q Go.Rx
section
variable (lf : Nat) (hb : Big lf) {c d : Cg} (hc : WfC c) (hd : WfC d)
include hb hc hd
end
end Go.N
namespace Go.N
open Go Go.Q Go.Rx
section
variable (lf : Nat) (hb : Big lf) {c d : Cg} (hc : WfC c) (hd : WfC d)
include hb hc hd
end
end Go.N
namespace Go.N
open Go Go.Q Go.Rx
theorem clsF_wf {m r : Int} : WfC (clsF m r) := by
 have hC := C_gt
 unfold clsF
 by_cases h : sz (m.natAbs : Int) > 100 ∨ sz (if m = 0 then r else r.fmod (m.natAbs : Int)) > 100
 ·rw [if_pos h]
  exact ⟨by simp only [topC]; omega, by simp only [topC]; omega, by simp [topC], fun _ => by simp [topC]⟩
 ·rw [if_neg h]
  have h1 := (sz_C (m.natAbs : Int)).1 (by omega)
  have h2 := (sz_C (if m = 0 then r else r.fmod (m.natAbs : Int))).1 (by omega)
  refine ⟨h1, h2, by simp only; omega, fun x => ?_⟩
  simp only at x ⊢
  have h0 : m ≠ 0 := by omega
  rw [if_neg h0]
  exact ⟨Int.fmod_nonneg_of_pos r (by omega), Int.fmod_lt_of_pos r (by omega)⟩
theorem Ec_wf : WfC Ec := by
 have hC := C_gt
 exact ⟨by simp only [Ec]; omega, by simp only [Ec]; omega, by simp [Ec], fun x => absurd rfl x⟩
def inC (c : Cg) (a : Int) : Bool := !c.em && dvd' c.m (a - c.r)
def insideC (c d : Cg) : Bool := if c.em = true then true else if d.em = true then false else dvd' d.m c.m && dvd' d.m (c.r - d.r)
section
variable (lf : Nat) (hb : Big lf) {c d : Cg} (hc : WfC c) (hd : WfC d)
include hb hc hd
theorem inside_c : congruence_inside.f lf (cc c) (cc d) = some (insideC c d, ()) := by
 obtain ⟨b1, b2, b3, b4, b5, b6, b7, b8, b9, b10⟩ := bounds lf hb hc hd
 have hlf := hb.1
 rw [congruence_inside.f]
 unfold insideC
 cases ec : c.em with
 | true => rw [cc_em ec]; simp only [brT, if_true]
 | false => cases ed : d.em with
  | true => rw [cc_ne ec, cc_em ed]; simp only [brF, brT, if_true, if_false, Bool.false_eq_true]
  | false =>
   rw [cc_ne ec, cc_ne ed]
   simp only [brF, if_false, Bool.false_eq_true, divides_f lf hlf b3 b1, csub_f lf hb b2 b4 b5, divides_f lf hlf b3 b5, bdS]
   cases dvd' d.m c.m with
   | true => simp only [brT, Bool.true_and]
   | false => simp only [brF, Bool.false_and]
end
theorem in_def {c : Cg} (hc : WfC c) (h : c.em = false) (a : Int) : inC c a = if c.m = 0 then decide (a = c.r) else decide (a.fmod c.m = c.r) := by
 unfold inC dvd'
 rw [h, Bool.not_false, Bool.true_and]
 by_cases z : c.m = 0
 ·rw [if_pos z, if_pos z]; simp only [decide_eq_decide]; omega
 ·rw [if_neg z, if_neg z]
  have r := hc.rng z
  have p : 0 < c.m := by have := hc.pos; omega
  simp only [decide_eq_decide]
  have m1 := Int.mul_fdiv_add_fmod a c.m
  have m2 := Int.mul_fdiv_add_fmod (a - c.r) c.m
  constructor
  ·intro e
   exact ((fdiv_unique (x := a) (y := c.m) (q := (a - c.r).fdiv c.m) (r := c.r) (by omega) (.inl r)).2).symm
  ·intro e
   exact ((fdiv_unique (x := a - c.r) (y := c.m) (q := a.fdiv c.m) (r := 0) (by omega) (.inl (by omega))).2).symm
section
variable (lf : Nat) (hb : Big lf) {c : Cg} (hc : WfC c)
include hb hc
theorem holds_c {a : Int} (ha : -K < a ∧ a < K) : congruence_Holds.f lf (cc c) (bs (Lib.itoa a)) = some (inC c a, 0, ()) := by
 have hlf := hb.1
 have hl := okb_len ha
 have bm := CK hc.m
 rw [congruence_Holds.f, ccheck lf hb hc, bdS]
 simp only [bne_self_eq_false, brF, check_f lf (Lib.itoa a) (by omega), chkK ha, bdS]
 cases ec : c.em with
 | true => rw [cc_em ec]; simp only [brT, inC, ec, Bool.not_true, Bool.false_and]
 | false =>
  rw [in_def hc ec, cc_ne ec]
  simp only [brF, beq0]
  have bq : ∀ x y : Int, ((bs (Lib.itoa x)).toList == (bs (Lib.itoa y)).toList) = decide (x = y) := fun x y => by
   rw [beq_bs]; simp only [decide_eq_decide]; exact ⟨fun e => itoa_inj e, fun e => by rw [e]⟩
  by_cases z : c.m = 0
  ·rw [decide_eq_true z, brT, if_pos z, bq]
  ·rw [decide_eq_false z, brF, if_neg z, rem_small lf hlf ha bm z, bdS, api_Int.f, bdS, bq]
theorem in_r {a : Int} (ha : -Dd < a ∧ a < Dd) : surveyorref22_In.f lf (cc c) (bs (Lib.itoa a)) = some (inC c a, ()) := by
 have h3 : 200000 ≤ lf := by have := hb.1; omega
 have hD := DD_K
 have hC := C_gt
 have hCD := C_lt_Dd
 have h4 : 0 ≤ Dd * Dd := Int.mul_nonneg (by omega) (by omega)
 have bm := hc.m
 have br' := hc.r
 rw [surveyorref22_In.f]
 unfold inC
 cases ec : c.em with
 | true => rw [cc_em ec]; simp only [Bool.not_true, brF, Bool.false_and]
 | false =>
  rw [cc_ne ec]
  have s1 := szK (CK bm)
  have s2 := szK (z := a - c.r) (by omega)
  simp only [Bool.not_false, brT, Bool.true_and, diffI lf h3 (x := a) (y := c.r) (by omega) (by omega), bdS, divides_ref lf h3 (m := c.m) (a := a - c.r) (by omega) (by omega)]
end
end Go.N
namespace Go.N
open Go Go.Q Go.Rx
def negC (c : Cg) : Cg := if c.em = true then Ec else clsF c.m (-c.r)
theorem negC_wf {c : Cg} : WfC (negC c) := by unfold negC; split; exact Ec_wf; exact clsF_wf
section
variable (lf : Nat) (hb : Big lf) {c : Cg} (hc : WfC c)
include hb hc
theorem negative_c : surveyorref22_Negative.f lf (cc c) = some (cc (negC c), ()) := by
 have h3 : 200000 ≤ lf := by have := hb.1; omega
 have bm := CK hc.m
 have br' := CK hc.r
 rw [surveyorref22_Negative.f]
 unfold negC
 cases ec : c.em with
 | true => rw [cc_em ec]; simp only [brT, if_true]; rfl
 | false =>
  rw [cc_ne ec]
  simp only [brF, if_false, Bool.false_eq_true, negated_ref lf br', bdS, class_ref lf h3 bm (r := -c.r) (by omega)]
end
end Go.N
namespace Go.N
open Go Go.Q Go.Rx
def aboveC (c : Cg) (a : Int) : Option Int := if c.m = 0 then (if c.r < a then none else some c.r) else some (a + (c.r - a).fmod c.m)
theorem fmod_sub {x y m : Int} (h : 0 < m) : (x.fmod m - y.fmod m).fmod m = (x - y).fmod m := by
 rw [Int.fmod_eq_emod_of_nonneg _ (Int.le_of_lt h), Int.fmod_eq_emod_of_nonneg _ (Int.le_of_lt h), Int.fmod_eq_emod_of_nonneg _ (Int.le_of_lt h), Int.fmod_eq_emod_of_nonneg _ (Int.le_of_lt h), ← Int.sub_emod]
section
variable (lf : Nat) (hb : Big lf) {c : Cg} (hc : WfC c) (he : c.em = false) {a : Int} (ha : -Dd < a ∧ a < Dd)
include hb hc he ha
theorem least_c : congruence_Least.f lf (cc c) (bs (Lib.itoa a)) = some (match aboveC c a with
  | none => (bs [], 6, ())
  | some v => (bs (Lib.itoa v), 0, ())) := by
 have hlf := hb.1
 have hD := DD_K
 have hC := C_gt
 have hCD := C_lt_Dd
 have h4 : 0 ≤ Dd * Dd := Int.mul_nonneg (by omega) (by omega)
 have ka : -K < a ∧ a < K := by omega
 have hl := okb_len ka
 have m1 := hc.m
 have r1 := hc.r
 have bm := CK hc.m
 have br' := CK hc.r
 rw [congruence_Least.f, ccheck lf hb hc, bdS]
 simp only [bne_self_eq_false, brF, check_f lf (Lib.itoa a) (by omega), chkK ka, bdS]
 rw [cc_ne he]
 simp only [brF, beq0]
 unfold aboveC
 by_cases z : c.m = 0
 ·rw [decide_eq_true z, Bool.not_true, brF, if_pos z, less_c lf _ _ (chkK br') (chkK ka) (by omega), iv_itoa, iv_itoa, bdS]
  simp only
  by_cases h : c.r < a
  ·rw [decide_eq_true h, brT, if_pos h]
  ·rw [decide_eq_false h, brF, if_neg h]
 ·have p : 0 < c.m := by have := hc.pos; omega
  have k1 := rest_K br' bm z
  have k2 := rest_K ka bm z
  have g1 := Int.fmod_nonneg_of_pos c.r p
  have g2 := Int.fmod_lt_of_pos c.r p
  have g3 := Int.fmod_nonneg_of_pos a p
  have g4 := Int.fmod_lt_of_pos a p
  have k3 : -K < c.r.fmod c.m - a.fmod c.m ∧ c.r.fmod c.m - a.fmod c.m < K := by omega
  have g5 := Int.fmod_nonneg_of_pos (c.r - a) p
  have g6 := Int.fmod_lt_of_pos (c.r - a) p
  rw [decide_eq_false z, Bool.not_false, brT, if_neg z, congruence_modulo.f, rem_small lf hlf br' bm z, bdS]
  simp only [bne_self_eq_false, brF, rem_small lf hlf ka bm z, bdS, csub_f lf hb k1 k2 k3, rem_small lf hlf k3 bm z, fmod_sub p, add_small lf (by omega) ka (y := (c.r - a).fmod c.m) (by omega) (by omega)]
theorem above_c : surveyorref22_Above.f lf (cc c) (bs (Lib.itoa a)) = some (match aboveC c a with
  | none => (bs [], false, ())
  | some v => (bs (Lib.itoa v), true, ())) := by
 have h3 : 200000 ≤ lf := by have := hb.1; omega
 have hD := DD_K
 have hC := C_gt
 have hCD := C_lt_Dd
 have h4 : 0 ≤ Dd * Dd := Int.mul_nonneg (by omega) (by omega)
 have ka : -K < a ∧ a < K := by omega
 have m1 := hc.m
 have r1 := hc.r
 have bm := CK hc.m
 have br' := CK hc.r
 rw [surveyorref22_Above.f, cc_ne he]
 simp only [beq0]
 unfold aboveC
 by_cases z : c.m = 0
 ·rw [decide_eq_true z, brT, if_pos z, lessI lf h3 br' ka, bdS]
  simp only
  by_cases h : c.r < a
  ·rw [decide_eq_true h, brT, if_pos h]
  ·rw [decide_eq_false h, brF, if_neg h]
 ·have p : 0 < c.m := by have := hc.pos; omega
  have g5 := Int.fmod_nonneg_of_pos (c.r - a) p
  have g6 := Int.fmod_lt_of_pos (c.r - a) p
  have kd : -K < c.r - a ∧ c.r - a < K := by omega
  have s1 := szK kd
  have s2 := szK bm
  simp only [decide_eq_false z, brF, if_neg z, diffI lf h3 br' ka, bdS, rest_ref lf h3 (x := c.r - a) (y := c.m) (by omega) (by omega) z, sumI lf h3 ka (y := (c.r - a).fmod c.m) (by omega)]
end
end Go.N
namespace Go.N
open Go Go.Q Go.Rx
def belowC (c : Cg) (a : Int) : Option Int := if c.m = 0 then (if a < c.r then none else some c.r) else some (a - (a - c.r).fmod c.m)
theorem clsF_in {m r : Int} (h0 : 0 ≤ m) (hm : -C < m ∧ m < C) (hr : -C < r ∧ r < C) : clsF m r = ⟨false, m, if m = 0 then r else r.fmod m⟩ := by
 have e : (m.natAbs : Int) = m := by omega
 unfold clsF
 rw [e]
 have s1 := (sz_C m).2 hm
 have s2 : sz (if m = 0 then r else r.fmod m) ≤ 100 := by
  apply (sz_C _).2
  split
  ·exact hr
  ·have a := Int.fmod_nonneg_of_pos r (show 0 < m by omega)
   have b := Int.fmod_lt_of_pos r (show 0 < m by omega)
   omega
 rw [if_neg (by omega)]
theorem below_neg {c : Cg} (hc : WfC c) (he : c.em = false) (a : Int) : belowC c a = (aboveC (negC c) (-a)).map fun v => -v := by
 have e : negC c = ⟨false, c.m, if c.m = 0 then -c.r else (-c.r).fmod c.m⟩ := by
  unfold negC
  rw [if_neg (by simp [he])]
  exact clsF_in hc.pos hc.m (by have := hc.r; omega)
 rw [e]
 unfold belowC aboveC
 simp only
 by_cases z : c.m = 0
 ·simp only [z, if_true]
  by_cases h : a < c.r
  ·rw [if_pos h, if_pos (by omega)]; rfl
  ·rw [if_neg h, if_neg (by omega)]; simp
 ·have p : 0 < c.m := by have := hc.pos; omega
  simp only [if_neg z, Option.map_some]
  have k : ((-c.r).fmod c.m - -a).fmod c.m = (a - c.r).fmod c.m := by
   have h1 := fmod_sub (x := (-c.r).fmod c.m) (y := -a) p
   have h2 := fmod_sub (x := -c.r) (y := -a) p
   have h3 : ((-c.r).fmod c.m).fmod c.m = (-c.r).fmod c.m := by
    rw [Int.fmod_eq_emod_of_nonneg _ (Int.le_of_lt p), Int.fmod_eq_emod_of_nonneg _ (Int.le_of_lt p), Int.emod_emod]
   rw [← h1, h3, h2]
   congr 1; omega
  rw [k]
  congr 1; omega
section
variable (lf : Nat) (hb : Big lf) {c : Cg} (hc : WfC c) (he : c.em = false) {a : Int} (ha : -Dd < a ∧ a < Dd)
include hb hc he ha
theorem below_c : surveyorref22_Below.f lf (cc c) (bs (Lib.itoa a)) = some (match belowC c a with
  | none => (bs [], false, ())
  | some v => (bs (Lib.itoa v), true, ())) := by
 have hD := DD_K
 have hC := C_gt
 have hCD := C_lt_Dd
 have h4 : 0 ≤ Dd * Dd := Int.mul_nonneg (by omega) (by omega)
 have ne : (negC c).em = false := by
  have : negC c = ⟨false, c.m, if c.m = 0 then -c.r else (-c.r).fmod c.m⟩ := by
   unfold negC
   rw [if_neg (by simp [he])]
   exact clsF_in hc.pos hc.m (by have := hc.r; omega)
  rw [this]
 have ab := above_c lf hb negC_wf ne (a := -a) (by omega)
 rw [surveyorref22_Below.f, negative_c lf hb hc, bdS, negated_ref lf (z := a) (by omega), bdS, ab, bdS, below_neg hc he]
 cases h : aboveC (negC c) (-a) with
 | none => simp only [Bool.not_false, brT, Option.map_none]
 | some v =>
  have kv : -K < v ∧ v < K := by
   unfold aboveC at h
   have w := negC_wf (c := c)
   have m1 := w.m
   have r1 := w.r
   split at h
   ·split at h
    ·cases h
    ·injection h with h; omega
   ·rename_i z
    have p : 0 < (negC c).m := by have := w.pos; omega
    have g5 := Int.fmod_nonneg_of_pos ((negC c).r - -a) p
    have g6 := Int.fmod_lt_of_pos ((negC c).r - -a) p
    injection h with h
    omega
  simp only [Bool.not_true, brF, Option.map_some, negated_ref lf kv, bdS]
theorem greatest_c : congruence_Greatest.f lf (cc c) (bs (Lib.itoa a)) = some (match belowC c a with
  | none => (bs [], 6, ())
  | some v => (bs (Lib.itoa v), 0, ())) := by
 have hlf := hb.1
 have hD := DD_K
 have hC := C_gt
 have hCD := C_lt_Dd
 have h4 : 0 ≤ Dd * Dd := Int.mul_nonneg (by omega) (by omega)
 have ka : -K < a ∧ a < K := by omega
 have hl := okb_len ka
 have m1 := hc.m
 have r1 := hc.r
 have bm := CK hc.m
 have br' := CK hc.r
 rw [congruence_Greatest.f, ccheck lf hb hc, bdS]
 simp only [bne_self_eq_false, brF, check_f lf (Lib.itoa a) (by omega), chkK ka, bdS]
 rw [cc_ne he]
 simp only [brF, beq0]
 unfold belowC
 by_cases z : c.m = 0
 ·rw [decide_eq_true z, Bool.not_true, brF, if_pos z, less_c lf _ _ (chkK ka) (chkK br') (by omega), iv_itoa, iv_itoa, bdS]
  simp only
  by_cases h : a < c.r
  ·rw [decide_eq_true h, brT, if_pos h]
  ·rw [decide_eq_false h, brF, if_neg h]
 ·have p : 0 < c.m := by have := hc.pos; omega
  have k1 := rest_K br' bm z
  have k2 := rest_K ka bm z
  have g1 := Int.fmod_nonneg_of_pos c.r p
  have g2 := Int.fmod_lt_of_pos c.r p
  have g3 := Int.fmod_nonneg_of_pos a p
  have g4 := Int.fmod_lt_of_pos a p
  have k3 : -K < a.fmod c.m - c.r.fmod c.m ∧ a.fmod c.m - c.r.fmod c.m < K := by omega
  have g5 := Int.fmod_nonneg_of_pos (a - c.r) p
  have g6 := Int.fmod_lt_of_pos (a - c.r) p
  have kf : -K < (a - c.r).fmod c.m ∧ (a - c.r).fmod c.m < K := by omega
  have kd : -K < a - (a - c.r).fmod c.m ∧ a - (a - c.r).fmod c.m < K := by omega
  have sd := (sz_K _).2 kd
  have sb := sub_f lf _ _ (chkK ka) (chkK kf) (by omega)
  rw [iv_itoa, iv_itoa, dlen_sz, if_neg (by omega)] at sb
  rw [decide_eq_false z, Bool.not_false, brT, if_neg z, congruence_modulo.f, rem_small lf hlf ka bm z, bdS]
  simp only [bne_self_eq_false, brF, rem_small lf hlf br' bm z, bdS, csub_f lf hb k2 k1 k3, rem_small lf hlf k3 bm z, fmod_sub p, sb]
end
end Go.N
namespace Go.N
open Go Go.Q Go.Rx
theorem lcm_f (lf : Nat) (hb : Big lf) {x y : Int} (hx : 0 < x ∧ x < C) (hy : 0 < y ∧ y < C) : bigint_Lcm.f lf (bs (Lib.itoa x)) (bs (Lib.itoa y)) = some (bs (Lib.itoa (x / (Int.gcd x y : Int) * y)), 0, ()) := by
 have hlf := hb.1
 have hK := hb.2
 have hCK := C_lt_K
 have hCC := CC_K
 have hC := C_gt
 have kx : -K < x ∧ x < K := by omega
 have ky : -K < y ∧ y < K := by omega
 obtain ⟨p, q, e, k1, k2, _⟩ := pair_f lf _ _ (chkK kx) (chkK ky) (by omega)
 rw [iv_itoa] at k1 k2
 have n1 := lv_nonneg (B := G) (by decide) k1.dg
 have n2 := lv_nonneg (B := G) (by decide) k2.dg
 have vx : lv G p.2.1 = x := by have := k1.val; split at this <;> omega
 have vy : lv G q.2.1 = y := by have := k2.val; split at this <;> omega
 have p0 : p.2.1 ≠ [] := fun h => by rw [h] at vx; simp only [lv] at vx; omega
 have q0 : q.2.1 ≠ [] := fun h => by rw [h] at vy; simp only [lv] at vy; omega
 have pl : 0 < p.2.1.length := List.length_pos_iff.2 p0
 have ql : 0 < q.2.1.length := List.length_pos_iff.2 q0
 have l1 := k1.len
 have l2 := k2.len
 obtain ⟨g, g1, g2, g3, g4, g5⟩ := common_l0 lf hlf (lf + 39) (lf + 40) p.2.1 q.2.1 (by omega) (by omega) k1.dg k2.dg k1.tr k2.tr (by omega) (by omega)
 rw [vx, vy] at g5
 have gp : 0 < (Int.gcd x y : Int) := by
  have := Int.gcd_pos_of_ne_zero_left y (show x ≠ 0 by omega)
  omega
 have g0 : g ≠ [] := fun h => by rw [h] at g5; simp only [lv] at g5; omega
 obtain ⟨Q, R, d1, d2, d3, d4, d5, d6, d7⟩ := divide_f lf p.2.1 g k1.dg g2 k1.tr g3 g0 (by omega) (by omega) hlf
 have Q0 := lv_nonneg (B := G) (by decide) d2
 have R0 := lv_nonneg (B := G) (by decide) d4
 rw [vx, g5] at d6
 rw [g5] at d7
 have dv : (Int.gcd x y : Int) ∣ x := Int.gcd_dvd_left x y
 have qv : lv G Q = x / (Int.gcd x y : Int) := by
  obtain ⟨k, hk⟩ := dv
  have w := win_eq (M := (Int.gcd x y : Int)) (a := lv G R) (d := lv G Q - k) (b := 0) gp (by rw [Int.mul_sub]; omega) R0 d7 (by omega) gp
  have : lv G Q = k := by omega
  rw [this]
  exact (Int.ediv_eq_of_eq_mul_right (show (Int.gcd x y : Int) ≠ 0 by omega) hk).symm
 have qlen : Q.length ≤ p.2.1.length := by
  by_cases z : Q.length ≤ p.2.1.length
  ·exact z
  ·have := lv_len_lt (B := G) (by decide) k1.dg d2 d3 (by omega)
   have := Int.ediv_le_self (Int.gcd x y : Int) (show 0 ≤ x by omega)
   omega
 obtain ⟨r, r1, r2, r3, r4, r5⟩ := times_f lf Q q.2.1 d2 k2.dg (by omega) (by omega) (by omega)
 rw [qv, vy] at r5
 have rn : RN (false, r, ()) (x / (Int.gcd x y : Int) * y) 8192 := ⟨r2, r3, by simp only; omega, by simp only [Bool.false_eq_true, if_false]; rw [r5]⟩
 have lt : -K < x / (Int.gcd x y : Int) * y ∧ x / (Int.gcd x y : Int) * y < K := by
  have a := Int.ediv_le_self (Int.gcd x y : Int) (show 0 ≤ x by omega)
  have b := Int.ediv_nonneg (show 0 ≤ x by omega) (Int.le_of_lt gp)
  have := mul_C (a := x / (Int.gcd x y : Int)) (b := y) (by omega) (by omega)
  omega
 have sz' := (sz_K _).2 lt
 rw [bigint_Lcm.f, e, bdS]
 simp only [bne_self_eq_false, brF]
 rw [show (((p.2.1.length : Nat) : Int) == 0) = false from beq_eq_false_iff_ne.2 (by omega), brF, show (((q.2.1.length : Nat) : Int) == 0) = false from beq_eq_false_iff_ne.2 (by omega), brF, bigint_common.f, g1, bdS, bdS, d1, bdS, r1, bdS, written_f lf rn (by omega) (by omega), dlen_sz, if_neg (by omega), bdS]
end Go.N
namespace Go.N
open Go Go.Q Go.Rx
structure Bz (a b r s x z : Int) : Prop where
 b0 : 0 < b
 r0 : 0 < r
 s0 : 0 ≤ s
 xr : b ∣ x * a - r
 zs : b ∣ z * a - s
 sg : (0 ≤ z ∧ x ≤ 0 ∧ z * r - x * s = b) ∨ (z ≤ 0 ∧ 0 ≤ x ∧ z * r - x * s = -b)
 xb : -b ≤ x ∧ x ≤ b
theorem Bz.zb {a b r s x z : Int} (h : Bz a b r s x z) : -b ≤ z ∧ z ≤ b := by
 have r0 := h.r0
 have s0 := h.s0
 have b0 := h.b0
 rcases h.sg with ⟨h1, h2, h3⟩ | ⟨h1, h2, h3⟩
 ·have a1 : z * 1 ≤ z * r := Int.mul_le_mul_of_nonneg_left (by omega) h1
  have a2 : 0 ≤ -x * s := Int.mul_nonneg (by omega) s0
  rw [Int.neg_mul] at a2
  omega
 ·have a1 : -z * 1 ≤ -z * r := Int.mul_le_mul_of_nonneg_left (by omega) (by omega)
  have a2 : 0 ≤ x * s := Int.mul_nonneg h2 s0
  rw [Int.neg_mul, Int.neg_mul] at a1
  omega
theorem Bz.next {a b r s x z q t : Int} (h : Bz a b r s x z) (hs : 0 < s) (hq : r = s * q + t) (t0 : 0 ≤ t) (q0 : 0 ≤ q) : Bz a b s t z (x - q * z) := by
 have zb := h.zb
 refine ⟨h.b0, hs, t0, h.zs, ?_, ?_, zb⟩
 ·have e : (x - q * z) * a - t = (x * a - r) - q * (z * a - s) := by
   subst hq; rw [Int.sub_mul, Int.mul_sub, Int.mul_assoc, Int.mul_comm q s]; omega
  rw [e]
  exact Int.dvd_sub h.xr (Int.dvd_trans h.zs (Int.dvd_mul_left _ _))
 ·have e : (x - q * z) * s - z * t = -(z * r - x * s) := by
   subst hq; rw [Int.sub_mul, Int.mul_add, Int.mul_comm q z, Int.mul_assoc z q s, Int.mul_comm q s]; omega
  rw [e]
  rcases h.sg with ⟨h1, h2, h3⟩ | ⟨h1, h2, h3⟩
  ·refine .inr ⟨?_, h1, by rw [h3]⟩
   have := Int.mul_nonneg q0 h1
   omega
  ·refine .inl ⟨?_, h1, by rw [h3]; omega⟩
   have := Int.mul_nonneg q0 (show 0 ≤ -z by omega)
   rw [Int.mul_neg] at this
   omega
theorem crt {m1 m2 g r1 r2 x k : Int} (g0 : 0 < g) (h1 : 0 < m1) (h2 : 0 < m2) (d1 : g ∣ m1) (d2 : g ∣ m2) (hx : m2 ∣ x * m1 - g) (hk : r2 - r1 = g * k) : m2 ∣ (r1 + x * k * m1) - r2 := by
 have e : (r1 + x * k * m1) - r2 = k * (x * m1 - g) := by
  rw [Int.mul_sub, Int.mul_comm k g, ← hk, Int.mul_comm x k, Int.mul_assoc]; omega
 rw [e]
 exact Int.dvd_trans hx (Int.dvd_mul_left _ _)
theorem lcm_dvd {m1 m2 v : Int} (h1 : 0 < m1) (h2 : 0 < m2) (a : m1 ∣ v) (b : m2 ∣ v) : m1 / (Int.gcd m1 m2 : Int) * m2 ∣ v := by
 have l : (Int.lcm m1 m2 : Int) ∣ v := Int.coe_lcm_dvd a b
 have e : (Int.lcm m1 m2 : Int) = m1 / (Int.gcd m1 m2 : Int) * m2 := by
  rw [Int.lcm_eq_mul_div, Int.natCast_ediv, Int.natCast_mul, Int.natAbs_of_nonneg (Int.le_of_lt h1), Int.natAbs_of_nonneg (Int.le_of_lt h2), Int.mul_comm m1 m2, Int.mul_ediv_assoc _ (Int.gcd_dvd_left m1 m2), Int.mul_comm]
 rw [← e]; exact l
theorem lcm_pos {m1 m2 : Int} (h1 : 0 < m1) (h2 : 0 < m2) : 0 < m1 / (Int.gcd m1 m2 : Int) * m2 := by
 have gp : 0 < (Int.gcd m1 m2 : Int) := by
  have := Int.gcd_pos_of_ne_zero_left m2 (show m1 ≠ 0 by omega)
  omega
 have : 0 < m1 / (Int.gcd m1 m2 : Int) := Int.ediv_pos_of_pos_of_dvd h1 (by omega) (Int.gcd_dvd_left _ _)
 exact Int.mul_pos this h2
theorem fmod_same {L u v : Int} (h : 0 < L) (d : L ∣ u - v) : u.fmod L = v.fmod L := by
 rw [Int.fmod_eq_emod_of_nonneg _ (Int.le_of_lt h), Int.fmod_eq_emod_of_nonneg _ (Int.le_of_lt h)]
 exact Int.emod_eq_emod_iff_emod_sub_eq_zero.2 (Int.emod_eq_zero_of_dvd d)
end Go.N
namespace Go.N
open Go Go.Q Go.Rx
abbrev Nb : Type := Bool × (List Int × Unit)
theorem RN.natAbs {p : Nb} {z : Int} {k : Nat} (h : RN p z k) : lv G p.2.1 = (z.natAbs : Int) := by
 have := h.val
 have := lv_nonneg (B := G) (by decide) h.dg
 split at * <;> omega
theorem RN.small (lf : Nat) (h3 : 200000 ≤ lf) {p : Nb} {z : Int} {k : Nat} (h : RN p z k) (hz : -K < z ∧ z < K) : RN p z 4096 := by
 obtain ⟨q, _, _, k1, _⟩ := pair_f lf _ _ (chkK hz) (chkK hz) h3
 rw [iv_itoa] at k1
 refine ⟨h.dg, h.tr, ?_, h.val⟩
 by_cases l : p.2.1.length ≤ 4096
 ·exact l
 ·have := lv_len_lt (B := G) (by decide) k1.dg h.dg h.tr (by have := k1.len; omega)
  rw [h.natAbs, k1.natAbs] at this
  omega
theorem RN.nil {p : Nb} {k : Nat} (h : RN p 0 k) : p.2.1 = [] := (lv_eq_zero (B := G) (by decide) h.dg h.tr).1 (by rw [h.natAbs]; rfl)
theorem RN.ne {p : Nb} {z : Int} {k : Nat} (h : RN p z k) (h0 : z ≠ 0) : 0 < p.2.1.length := by
 refine List.length_pos_iff.2 fun e => h0 ?_
 have := h.natAbs
 rw [e] at this
 simp only [lv] at this
 omega
theorem prod_f (lf : Nat) (h3 : 200000 ≤ lf) {p q : Nb} {x y : Int} {k : Nat} (h1 : RN p x k) (h2 : RN q y k) (hk : k ≤ 50000) : ∃ s, bigint_product.f lf p q = some (s, ()) ∧ RN s (x * y) (k + k) := by
 obtain ⟨r, r1, r2, r3, r4, r5⟩ := times_f lf p.2.1 q.2.1 h1.dg h2.dg (by have := h1.len; omega) (by have := h2.len; omega) h3
 rw [bigint_product.f, r1, bdS]
 refine ⟨_, rfl, r2, r3, by have := h1.len; have := h2.len; simp only; omega, ?_⟩
 simp only
 rw [r5, h1.val, h2.val]
 cases p.1 <;> cases q.1 <;> simp [Int.neg_mul, Int.mul_neg]
section
variable (lf : Nat) (hlf : 2000000000 ≤ lf) {a b : Int} (hb : b < C)
include hlf hb
theorem bz_step {r s bf nw : Nb} {R S X Z : Int} (h1 : RN r R 4096) (h2 : RN s S 4096) (h3 : RN bf X 4096) (h4 : RN nw Z 4096) (h : Bz a b R S X Z) (hs : S ≠ 0) :
  ∃ q t u v w, bigint_quotient.f lf r s = some (q, t, ()) ∧ bigint_product.f lf q nw = some (u, ()) ∧ bigint_negated.f lf u = some (v, ()) ∧ bigint_sum.f lf bf v = some (w, ()) ∧
   RN t (R.fmod S) 4096 ∧ RN w (X - R.fdiv S * Z) 4096 ∧ Bz a b S (R.fmod S) Z (X - R.fdiv S * Z) := by
 have hC := C_lt_K
 have sp : 0 < S := by have := h.s0; omega
 obtain ⟨q, t, e1, k1, k2⟩ := quotient_f lf hlf h1 h2 (by omega) hs
 obtain ⟨u, e2, k3⟩ := prod_f lf (by omega) k1 (h4.mono (by omega)) (by omega)
 obtain ⟨v, e3, k4⟩ := negated_f lf k3
 obtain ⟨w, e4, k5⟩ := sum_f lf (h3.mono (show 4096 ≤ 4096 + 1 + (4096 + 1) by omega)) k4 (by omega) (by omega)
 rw [← Int.sub_eq_add_neg] at k5
 have m := Int.mul_fdiv_add_fmod R S
 have n := h.next sp m.symm (Int.fmod_nonneg_of_pos R sp) (by
  rw [Int.fdiv_eq_ediv_of_nonneg _ (Int.le_of_lt sp)]; exact Int.ediv_nonneg (Int.le_of_lt h.r0) (Int.le_of_lt sp))
 have zb := n.zb
 exact ⟨q, t, u, v, w, e1, e2, e3, e4, k2, k5.small lf (by omega) (by omega), n⟩
theorem bz_l2 (v0 : Bool) (v1 : List Int) (v2 : Bool) (v3 v8 : List Int) : ∀ (k n : Nat) (r s bf nw : Nb) (R S X Z : Int), S ≤ k → k < n → RN r R 4096 → RN s S 4096 → RN bf X 4096 → RN nw Z 4096 → Bz a b R S X Z →
  ∃ (g bf' nw' : Nb) (e : Bool) (X' : Int), bigint_Bezout.l2 lf v0 v1 v2 v3 v8 n r.1 r.2.1 s.1 s.2.1 bf.1 bf.2.1 nw.1 nw.2.1 = some ((v0, v1, v2, v3, g.1, g.2.1, e, [], v8, bf'.1, bf'.2.1, nw'.1, nw'.2.1, ()), ()) ∧
   RN g (Int.gcd R S) 4096 ∧ RN bf' X' 4096 ∧ b ∣ X' * a - (Int.gcd R S : Int) ∧ -b ≤ X' ∧ X' ≤ b := by
 intro k
 induction k with
 | zero =>
  intro n r s bf nw R S X Z hk hn h1 h2 h3 h4 h
  obtain ⟨m, rfl⟩ := Nat.exists_eq_succ_of_ne_zero (show n ≠ 0 by omega)
  have s0 := h.s0
  obtain rfl : S = 0 := by omega
  have e := h2.nil
  have r0 := h.r0
  have g : (Int.gcd R 0 : Int) = R := by rw [Int.gcd_zero_right]; omega
  refine ⟨r, bf, nw, s.1, X, ?_, by rw [g]; exact h1, h3, by rw [g]; exact h.xr, h.xb⟩
  rw [bigint_Bezout.l2, bigint_Bezout.r2, e, decide_eq_false (by simp), brF]
 | succ k ih =>
  intro n r s bf nw R S X Z hk hn h1 h2 h3 h4 h
  obtain ⟨m, rfl⟩ := Nat.exists_eq_succ_of_ne_zero (show n ≠ 0 by omega)
  have s0 := h.s0
  have r0 := h.r0
  by_cases hs : S = 0
  ·subst hs
   have e := h2.nil
   have g : (Int.gcd R 0 : Int) = R := by rw [Int.gcd_zero_right]; omega
   refine ⟨r, bf, nw, s.1, X, ?_, by rw [g]; exact h1, h3, by rw [g]; exact h.xr, h.xb⟩
   rw [bigint_Bezout.l2, bigint_Bezout.r2, e, decide_eq_false (by simp), brF]
  ·obtain ⟨q, t, u, v, w, e1, e2, e3, e4, k1, k2, nx⟩ := bz_step lf hlf hb h1 h2 h3 h4 h hs
   have sp : 0 < S := by omega
   have f1 := Int.fmod_lt_of_pos R sp
   have gs : (Int.gcd S (R.fmod S)) = Int.gcd R S := gcd_step (Int.mul_fdiv_add_fmod R S).symm sp nx.s0 f1 (by omega)
   obtain ⟨g, bf', nw', e, X', i1, i2, i3, i4, i5⟩ := ih m s t nw w S (R.fmod S) Z _ (by omega) (by omega) h2 k1 h4 k2 nx
   rw [gs] at i2 i4
   refine ⟨g, bf', nw', e, X', ?_, i2, i3, i4, i5⟩
   rw [bigint_Bezout.l2, bigint_Bezout.r2, decide_eq_true (by have := h2.ne hs; omega), brT]
   have x1 : ((r.1, r.2.1, ()) : Nb) = r := rfl
   have x2 : ((s.1, s.2.1, ()) : Nb) = s := rfl
   have x3 : ((nw.1, nw.2.1, ()) : Nb) = nw := rfl
   have x4 : ((bf.1, bf.2.1, ()) : Nb) = bf := rfl
   rw [x1, x2, x3, x4, e1, bdS, e2, bdS, e3, bdS, e4, bdS]
   exact i1
end
theorem bz_tail (lf : Nat) (hlf : 2000000000 ≤ lf) {a b : Int} (ha : 0 < a ∧ a < C) (hb : 0 < b ∧ b < C) {x y g bf : Nb} {X : Int} (hx : RN x a 4096) (hy : RN y b 4096) (hg : RN g (Int.gcd a b) 4096) (hf : RN bf X 4096) (hX : b ∣ X * a - (Int.gcd a b : Int)) :
  ∃ (Q R : List Int) (q u p m s t : Nb) (o : Nb), bigint_divide.f lf y.2.1 g.2.1 = some (Q, R, ()) ∧ bigint_quotient.f lf bf (false, Q, ()) = some (q, u, ()) ∧ bigint_product.f lf x u = some (p, ()) ∧ bigint_negated.f lf p = some (m, ()) ∧
   bigint_sum.f lf g m = some (s, ()) ∧ bigint_quotient.f lf s y = some (t, o, ()) ∧ (∃ c1, bigint_number_text.f lf g = some (c1, ())) ∧ (∃ c2, bigint_number_text.f lf t = some (c2, ())) ∧
   ∃ U : Int, bigint_number_text.f lf u = some (bs (Lib.itoa U), ()) ∧ 0 ≤ U ∧ U < C ∧ b ∣ U * a - (Int.gcd a b : Int) := by
 have hCK := C_lt_K
 have gp : 0 < (Int.gcd a b : Int) := by
  have := Int.gcd_pos_of_ne_zero_left b (show a ≠ 0 by omega)
  omega
 have g0 : g.2.1 ≠ [] := fun e => by have := hg.ne (by omega); rw [e] at this; simp at this
 obtain ⟨Q, R, d1, d2, d3, d4, d5, d6, d7⟩ := divide_f lf y.2.1 g.2.1 hy.dg hg.dg hy.tr hg.tr g0 (by have := hy.len; omega) (by have := hg.len; omega) hlf
 have yv : lv G y.2.1 = b := by rw [hy.natAbs]; omega
 have gv : lv G g.2.1 = (Int.gcd a b : Int) := by rw [hg.natAbs]; omega
 rw [yv, gv] at d6
 rw [gv] at d7
 have Q0 := lv_nonneg (B := G) (by decide) d2
 have R0 := lv_nonneg (B := G) (by decide) d4
 have dv : (Int.gcd a b : Int) ∣ b := Int.gcd_dvd_right a b
 have qv : (Int.gcd a b : Int) * lv G Q = b := by
  obtain ⟨k, hk⟩ := dv
  have w := win_eq (M := (Int.gcd a b : Int)) (a := lv G R) (d := lv G Q - k) (b := 0) gp (by rw [Int.mul_sub]; omega) R0 d7 (by omega) gp
  have : lv G Q = k := by omega
  rw [this]; exact hk.symm
 have qp : 0 < lv G Q := by
  by_cases z : lv G Q = 0
  ·rw [z, Int.mul_zero] at qv; omega
  ·omega
 have qb : lv G Q ≤ b := by
  have := Int.mul_le_mul_of_nonneg_right (show 1 ≤ (Int.gcd a b : Int) by omega) Q0
  omega
 have hQ : RN (false, Q, ()) (lv G Q) 4096 := (show RN (false, Q, ()) (lv G Q) Q.length from ⟨d2, d3, Nat.le_refl _, rfl⟩).small lf (by omega) (by omega)
 obtain ⟨q, u, e1, k1, k2⟩ := quotient_f lf hlf hf hQ (by omega) (by omega)
 have f0 := Int.fmod_nonneg_of_pos X qp
 have f1 := Int.fmod_lt_of_pos X qp
 obtain ⟨p, e2, k3⟩ := prod_f lf (by omega) hx k2 (by omega)
 obtain ⟨m, e3, k4⟩ := negated_f lf k3
 obtain ⟨s, e4, k5⟩ := sum_f lf (hg.mono (show 4096 ≤ 4096 + 4096 by omega)) k4 (by omega) (by omega)
 obtain ⟨t, o, e5, k6, k7⟩ := quotient_f lf hlf k5 (hy.mono (by omega)) (by omega) (by omega)
 refine ⟨Q, R, q, u, p, m, s, t, o, d1, e1, e2, e3, e4, e5, ⟨_, ntext_f lf hg (by omega) (by omega)⟩, ⟨_, ntext_f lf k6 (by omega) (by omega)⟩, X.fmod (lv G Q), ntext_f lf k2 (by omega) (by omega), f0, by omega, ?_⟩
 have mm := Int.mul_fdiv_add_fmod X (lv G Q)
 obtain ⟨k, hk⟩ := Int.gcd_dvd_left a b
 have e : X.fmod (lv G Q) * a - (Int.gcd a b : Int) = (X * a - (Int.gcd a b : Int)) - b * (X.fdiv (lv G Q) * k) := by
  have e1 : X.fmod (lv G Q) = X - lv G Q * X.fdiv (lv G Q) := by omega
  have e2 : b * (X.fdiv (lv G Q) * k) = lv G Q * X.fdiv (lv G Q) * a := by
   rw [← qv]
   generalize X.fdiv (lv G Q) = w at *
   generalize lv G Q = z at *
   generalize (Int.gcd a b : Int) = g at *
   rw [hk]; grind
  rw [e1, e2, Int.sub_mul]; omega
 rw [e]
 exact Int.dvd_sub hX (Int.dvd_mul_right _ _)
theorem bezout_f (lf : Nat) (hb : Big lf) {a b : Int} (ha : 0 < a ∧ a < C) (hbb : 0 < b ∧ b < C) :
  ∃ (t1 t3 : ByteArray) (U : Int), bigint_Bezout.f lf (bs (Lib.itoa a)) (bs (Lib.itoa b)) = some (t1, bs (Lib.itoa U), t3, 0, ()) ∧ 0 ≤ U ∧ U < C ∧ b ∣ U * a - (Int.gcd a b : Int) := by
 have hlf := hb.1
 have hK := hb.2
 have hCK := C_lt_K
 have ka : -K < a ∧ a < K := by omega
 have kb : -K < b ∧ b < K := by omega
 obtain ⟨x, y, e, k1, k2, n1, n2⟩ := pair_f lf _ _ (chkK ka) (chkK kb) (by omega)
 rw [iv_itoa] at k1 k2
 have na : x.1 = false := by
  cases hx : x.1 with
  | false => rfl
  | true =>
   have := k1.val
   have := lv_nonneg (B := G) (by decide) k1.dg
   rw [hx, if_pos rfl] at *; omega
 have nb : y.1 = false := by
  cases hx : y.1 with
  | false => rfl
  | true =>
   have := k2.val
   have := lv_nonneg (B := G) (by decide) k2.dg
   rw [hx, if_pos rfl] at *; omega
 have y0 := k2.ne (by omega)
 have B0 : Bz a b a b 1 0 := ⟨hbb.1, ha.1, by omega, by simp, by simp, .inr ⟨by omega, by omega, by simp⟩, by omega⟩
 have one : RN (false, [1], ()) 1 4096 := ⟨by intro d hd; simp at hd; subst hd; decide, by unfold Tr; simp, by simp, by decide⟩
 have zer : RN (false, [], ()) 0 4096 := ⟨nofun, by unfold Tr; simp, by simp, by decide⟩
 have x1 : RN (false, x.2.1, ()) a 4096 := by have h := k1; obtain ⟨xn, xl, ⟨⟩⟩ := x; simp only at na; subst na; exact h
 have y1 : RN (false, y.2.1, ()) b 4096 := by have h := k2; obtain ⟨xn, xl, ⟨⟩⟩ := y; simp only at nb; subst nb; exact h
 obtain ⟨q, t, u, v, w, s1, s2, s3, s4, s5, s6, nx⟩ := bz_step lf hlf hbb.2 x1 y1 one zer B0 (by omega)
 have gs : (Int.gcd b (a.fmod b)) = Int.gcd a b := gcd_step (Int.mul_fdiv_add_fmod a b).symm hbb.1 nx.s0 (Int.fmod_lt_of_pos a hbb.1) (by omega)
 have f1 : (decide (((y.2.1.length : Nat) : Int) > 0)) = true := decide_eq_true (by omega)
 have e0 : (((y.2.1.length : Nat) : Int) == 0) = false := beq_eq_false_iff_ne.2 (by omega)
 by_cases z : a.fmod b = 0
 ·rw [z] at s5 nx gs
  have tn := s5.nil
  rw [Int.gcd_zero_right, show b.natAbs = b.toNat by omega] at gs
  have hg : RN (false, y.2.1, ()) (Int.gcd a b) 4096 := by rw [← gs, show ((b.toNat : Nat) : Int) = b by omega]; exact y1
  have hX : b ∣ 0 * a - (Int.gcd a b : Int) := by
   rw [← gs, show ((b.toNat : Nat) : Int) = b by omega, Int.zero_mul, Int.zero_sub]; exact Int.dvd_neg.2 (Int.dvd_refl _)
  obtain ⟨Q, R, q', u', p', m', s', t', o', g1, g2, g3, g4, g5, g6, ⟨c1, g7⟩, ⟨c2, g8⟩, U, g9, U0, U1, U2⟩ := bz_tail lf hlf ha hbb k1 k2 hg zer hX
  refine ⟨c1, c2, U, ?_, U0, U1, U2⟩
  rw [bigint_Bezout.f, e, bdS]
  simp only [bne_self_eq_false, brF, e0]
  rw [show lf + 40 = lf + 38 + 1 + 1 from rfl, bigint_Bezout.l0, bigint_Bezout.r0, f1, brT, s1, bdS, s2, bdS, s3, bdS, s4, bdS]
  simp only
  rw [bigint_Bezout.l1, bigint_Bezout.r1, tn, decide_eq_false (by simp), brF]
  have xe : ((x.1, x.2.1, ()) : Nb) = x := rfl
  have ye : ((y.1, y.2.1, ()) : Nb) = y := rfl
  simp only [bdS, brT, brF, na, nb, Bool.false_eq_true] at *
  rw [ye] at g5 g7
  simp only [xe, ye, g1, g2, g3, g4, g5, g6, g7, g8, g9, bdS]
 ·obtain ⟨q2, t2, u2, v2, w2, r1, r2, r3, r4, r5, r6, ny⟩ := bz_step lf hlf hbb.2 y1 s5 zer s6 nx z
  have nx0 := nx.s0
  have sp : 0 < a.fmod b := by omega
  have fl := Int.fmod_lt_of_pos b sp
  have gs2 : (Int.gcd (a.fmod b) (b.fmod (a.fmod b))) = Int.gcd b (a.fmod b) := gcd_step (Int.mul_fdiv_add_fmod b (a.fmod b)).symm sp ny.s0 fl (by omega)
  obtain ⟨g, bf, nw, ee, X, l1, l2, l3, l4, l5, l6⟩ := bz_l2 lf hlf hbb.2 x.1 x.2.1 y.1 y.2.1 [1] (lf + 37) (lf + 38) t t2 w w2 _ _ _ _ (by have := Int.fmod_lt_of_pos a hbb.1; omega) (by omega) s5 r5 s6 r6 ny
  rw [gs2, gs] at l2 l4
  obtain ⟨Q, R, q', u', p', m', s', t', o', g1, g2, g3, g4, g5, g6, ⟨c1, g7⟩, ⟨c2, g8⟩, U, g9, U0, U1, U2⟩ := bz_tail lf hlf ha hbb k1 k2 l2 l3 l4
  refine ⟨c1, c2, U, ?_, U0, U1, U2⟩
  rw [bigint_Bezout.f, e, bdS]
  simp only [bne_self_eq_false, brF, e0]
  rw [show lf + 40 = lf + 38 + 1 + 1 from rfl, bigint_Bezout.l0, bigint_Bezout.r0, f1, brT, s1, bdS, s2, bdS, s3, bdS, s4, bdS]
  simp only
  have te : ((t.1, t.2.1, ()) : Nb) = t := rfl
  have we : ((w.1, w.2.1, ()) : Nb) = w := rfl
  rw [bigint_Bezout.l1, bigint_Bezout.r1, decide_eq_true (by have := s5.ne z; omega), brT, te, we, r1, bdS, r2, bdS, r3, bdS, r4, bdS]
  simp only
  rw [l1]
  have xe : ((x.1, x.2.1, ()) : Nb) = x := rfl
  have ye : ((y.1, y.2.1, ()) : Nb) = y := rfl
  have ge : ((g.1, g.2.1, ()) : Nb) = g := rfl
  have be : ((bf.1, bf.2.1, ()) : Nb) = bf := rfl
  simp only [bdS, brT, brF, xe, ye, ge, be, g1, g2, g3, g4, g5, g6, g7, g8, g9]
  rw [na, brF]
end Go.N
namespace Go.N
open Go Go.Q Go.Rx
structure Vl where
 a : A
 c : Cg
deriving DecidableEq
abbrev VV : Type := IV × (IV × Unit)
def vc (v : Vl) : VV := (ac v.a, cc v.c, ())
def Ev : Vl := ⟨E0, Ec⟩
def onev (z : Int) : Vl := ⟨⟨false, some z, some z⟩, ⟨false, 0, z⟩⟩
def loC (c : Cg) (a : Int) : Int := a + (c.r - a).fmod c.m
def hiC (c : Cg) (a : Int) : Int := a - (a - c.r).fmod c.m
def fin3 (x y : Option Int) (c : Cg) : Vl := match x, y with
 | some x, some y => if y < x then Ev else if x = y then onev x else ⟨⟨false, clip x, clip y⟩, c⟩
 | x, y => ⟨⟨false, x.bind clip, y.bind clip⟩, c⟩
def red (a : A) (c : Cg) : Vl := if a.em = true then Ev else if c.em = true then Ev else if c.m = 0 then (if inS (ofA a) c.r = true then onev c.r else Ev) else fin3 (a.lo.map (loC c)) (a.hi.map (hiC c)) c
def inV (v : Vl) (z : Int) : Bool := inS (ofA v.a) z && inC v.c z
structure WfV (v : Vl) : Prop where
 a : Wf v.a
 c : WfC v.c
 red : red v.a v.c = v
theorem lo_m {c : Cg} (p : 0 < c.m) (a : Int) : a ≤ loC c a ∧ loC c a < a + c.m := by
 have := Int.fmod_nonneg_of_pos (c.r - a) p
 have := Int.fmod_lt_of_pos (c.r - a) p
 unfold loC; omega
theorem hi_m {c : Cg} (p : 0 < c.m) (a : Int) : hiC c a ≤ a ∧ a - c.m < hiC c a := by
 have := Int.fmod_nonneg_of_pos (a - c.r) p
 have := Int.fmod_lt_of_pos (a - c.r) p
 unfold hiC; omega
theorem fmod0 {m a : Int} (p : 0 < m) : a.fmod m = 0 ↔ m ∣ a := by
 rw [Int.fmod_eq_emod_of_nonneg _ (Int.le_of_lt p)]
 exact ⟨Int.dvd_of_emod_eq_zero, Int.emod_eq_zero_of_dvd⟩
theorem fmod_dvd {m : Int} (p : 0 < m) (a : Int) : m ∣ a - a.fmod m := by
 rw [Int.fmod_eq_emod_of_nonneg _ (Int.le_of_lt p)]
 exact Int.dvd_self_sub_emod
theorem in_iff {c : Cg} (he : c.em = false) (hp : 0 ≤ c.m) {z : Int} : inC c z = true ↔ c.m ∣ z - c.r := by
 unfold inC dvd'
 rw [he]
 by_cases h : c.m = 0
 ·rw [if_pos h, h]; simp
 ·rw [if_neg h]
  simp only [Bool.not_false, Bool.true_and, decide_eq_true_eq]
  exact fmod0 (by omega)
theorem lo_in {c : Cg} (p : 0 < c.m) (a : Int) : c.m ∣ loC c a - c.r := by
 obtain ⟨k, hk⟩ := fmod_dvd p (c.r - a)
 exact ⟨-k, by unfold loC; rw [Int.mul_neg, ← hk]; omega⟩
theorem hi_in {c : Cg} (p : 0 < c.m) (a : Int) : c.m ∣ hiC c a - c.r := by
 obtain ⟨k, hk⟩ := fmod_dvd p (a - c.r)
 exact ⟨k, by unfold hiC; rw [← hk]; omega⟩
theorem lo_fix {c : Cg} (p : 0 < c.m) {a : Int} (h : c.m ∣ a - c.r) : loC c a = a := by
 have : (c.r - a).fmod c.m = 0 := (fmod0 p).2 (by have := Int.dvd_neg.2 h; rwa [Int.neg_sub] at this)
 unfold loC; omega
theorem hi_fix {c : Cg} (p : 0 < c.m) {a : Int} (h : c.m ∣ a - c.r) : hiC c a = a := by
 have : (a - c.r).fmod c.m = 0 := (fmod0 p).2 h
 unfold hiC; omega
theorem lo_least {c : Cg} (p : 0 < c.m) {a z : Int} (h : c.m ∣ z - c.r) (hz : a ≤ z) : loC c a ≤ z := by
 have l := lo_in p a
 have b := lo_m p a
 obtain ⟨k, hk⟩ := Int.dvd_sub h l
 have : -1 < k := by
  by_cases q : -1 < k
  ·exact q
  ·have := Int.mul_le_mul_of_nonneg_left (show k ≤ -1 by omega) (Int.le_of_lt p)
   omega
 have := Int.mul_nonneg (Int.le_of_lt p) (show 0 ≤ k by omega)
 omega
theorem hi_most {c : Cg} (p : 0 < c.m) {a z : Int} (h : c.m ∣ z - c.r) (hz : z ≤ a) : z ≤ hiC c a := by
 have l := hi_in p a
 have b := hi_m p a
 obtain ⟨k, hk⟩ := Int.dvd_sub h l
 have : k < 1 := by
  by_cases q : k < 1
  ·exact q
  ·have := Int.mul_le_mul_of_nonneg_left (show 1 ≤ k by omega) (Int.le_of_lt p)
   omega
 have := Int.mul_nonneg (Int.le_of_lt p) (show 0 ≤ -k by omega)
 rw [Int.mul_neg] at this
 omega
theorem clip_some {z : Int} (h : -C < z ∧ z < C) : clip z = some z := if_pos h
theorem clip_none {z : Int} (h : ¬ (-C < z ∧ z < C)) : clip z = none := if_neg h
theorem Wf.inS {a : A} (h : Wf a) (he : a.em = false) {z : Int} (hz : -K < z ∧ z < K) : inS (ofA a) z = true ↔ (∀ l, a.lo = some l → l ≤ z) ∧ ∀ u, a.hi = some u → z ≤ u := by
 unfold Go.N.inS ofA
 rw [he, if_neg (by simp)]
 simp only [Bool.and_eq_true, decide_eq_true_eq]
 cases a.lo with
 | none => cases a.hi with
  | none => simp [lox, hix, key]; omega
  | some u => simp [lox, hix, key]; omega
 | some l => cases a.hi with
  | none => simp [lox, hix, key]; omega
  | some u => simp [lox, hix, key]
theorem onev_wf {z : Int} (hz : -C < z ∧ z < C) : Wf (onev z).a ∧ WfC (onev z).c := by
 have hC := C_gt
 exact ⟨⟨fun h => by simp [onev] at h, hz, hz, Int.le_refl _⟩, ⟨by simp only [onev]; omega, hz, by simp [onev], fun h => absurd rfl h⟩⟩
theorem Ev_wf : Wf Ev.a ∧ WfC Ev.c := ⟨wf_E0, Ec_wf⟩
theorem onev_red {z : Int} (hz : -C < z ∧ z < C) : red (onev z).a (onev z).c = onev z := by
 have h : inS (ofA (onev z).a) z = true := by
  unfold inS ofA onev
  simp [lox, hix, key]
 unfold red
 rw [if_neg (by simp [onev]), if_neg (by simp [onev]), if_pos (by rfl)]
 exact if_pos h
theorem Ev_red : red Ev.a Ev.c = Ev := if_pos rfl
theorem onev_V {z : Int} (hz : -C < z ∧ z < C) : WfV (onev z) := ⟨(onev_wf hz).1, (onev_wf hz).2, onev_red hz⟩
theorem Ev_V : WfV Ev := ⟨Ev_wf.1, Ev_wf.2, Ev_red⟩
theorem fin3_V {c : Cg} (hc : WfC c) (he : c.em = false) (hm : c.m ≠ 0) {x y : Option Int} (hx : ∀ v, x = some v → c.m ∣ v - c.r) (hy : ∀ v, y = some v → c.m ∣ v - c.r) (bd : ∀ v u, x = some v → y = some u → v = u → -C < v ∧ v < C) : WfV (fin3 x y c) := by
 have p : 0 < c.m := by have := hc.pos; omega
 have key3 : ∀ u v : Option Int, (∀ z, u = some z → (-C < z ∧ z < C) ∧ c.m ∣ z - c.r) → (∀ z, v = some z → (-C < z ∧ z < C) ∧ c.m ∣ z - c.r) → (∀ z w, u = some z → v = some w → z < w) → WfV ⟨⟨false, u, v⟩, c⟩ := by
  intro u v hu hv huv
  refine ⟨⟨fun h => by simp at h, ?_, ?_, ?_⟩, hc, ?_⟩
  ·cases u with
   | none => trivial
   | some z => exact (hu z rfl).1
  ·cases v with
   | none => trivial
   | some z => exact (hv z rfl).1
  ·cases u with
   | none => trivial
   | some z => cases v with
    | none => trivial
    | some w => exact Int.le_of_lt (huv z w rfl rfl)
  ·unfold red
   rw [if_neg (by simp), if_neg (by simp [he]), if_neg hm]
   cases u with
   | none => cases v with
    | none => rfl
    | some w =>
     simp only [Option.map, hi_fix p (hv w rfl).2, fin3, Option.bind, clip_some (hv w rfl).1]
   | some z => cases v with
    | none => simp only [Option.map, lo_fix p (hu z rfl).2, fin3, Option.bind, clip_some (hu z rfl).1]
    | some w =>
     have := huv z w rfl rfl
     simp only [Option.map, lo_fix p (hu z rfl).2, hi_fix p (hv w rfl).2, fin3, clip_some (hu z rfl).1, clip_some (hv w rfl).1]
     rw [if_neg (by omega), if_neg (by omega)]
 have cl : ∀ z w, clip z = some w → w = z ∧ -C < z ∧ z < C := by
  intro z w h
  unfold clip at h; split at h
  ·cases h; exact ⟨rfl, by assumption⟩
  ·cases h
 cases x with
 | none => cases y with
  | none => exact key3 none none (fun z h => by cases h) (fun z h => by cases h) (fun z w h => by cases h)
  | some w => exact key3 none (clip w) (fun z h => by cases h) (fun z h => by obtain ⟨rfl, h⟩ := cl _ _ h; exact ⟨h, hy _ rfl⟩) (fun z w h => by cases h)
 | some z => cases y with
  | none => exact key3 (clip z) none (fun z h => by obtain ⟨rfl, h⟩ := cl _ _ h; exact ⟨h, hx _ rfl⟩) (fun z h => by cases h) (fun z w _ h => by cases h)
  | some w =>
   unfold fin3
   simp only
   by_cases h1 : w < z
   ·rw [if_pos h1]; exact Ev_V
   ·rw [if_neg h1]
    by_cases h2 : z = w
    ·rw [if_pos h2]; exact onev_V (bd z w rfl rfl h2)
    ·rw [if_neg h2]
     exact key3 (clip z) (clip w) (fun z h => by obtain ⟨rfl, h⟩ := cl _ _ h; exact ⟨h, hx _ rfl⟩) (fun z h => by obtain ⟨rfl, h⟩ := cl _ _ h; exact ⟨h, hy _ rfl⟩) (fun u v hu hv => by obtain ⟨rfl, _⟩ := cl _ _ hu; obtain ⟨rfl, _⟩ := cl _ _ hv; omega)
theorem red_V {a : A} {c : Cg} (ha : Wf a) (hc : WfC c) : WfV (red a c) := by
 unfold red
 by_cases e1 : a.em = true
 ·rw [if_pos e1]; exact Ev_V
 ·by_cases e2 : c.em = true
  ·rw [if_neg e1, if_pos e2]; exact Ev_V
  ·rw [if_neg e1, if_neg e2]
   by_cases z : c.m = 0
   ·rw [if_pos z]
    split
    ·exact onev_V hc.r
    ·exact Ev_V
   ·rw [if_neg z]
    have p : 0 < c.m := by have := hc.pos; omega
    have e2 : c.em = false := by simpa using e2
    refine fin3_V hc e2 z ?_ ?_ ?_
    ·intro v h
     cases hl : a.lo with
     | none => rw [hl] at h; cases h
     | some l => rw [hl] at h; cases h; exact lo_in p l
    ·intro v h
     cases hl : a.hi with
     | none => rw [hl] at h; cases h
     | some l => rw [hl] at h; cases h; exact hi_in p l
    ·intro v u h1 h2 h3
     have lk := ha.lo
     have hk := ha.hi
     cases hl : a.lo with
     | none => rw [hl] at h1; cases h1
     | some l =>
      cases hh : a.hi with
      | none => rw [hh] at h2; cases h2
      | some k =>
       rw [hl] at h1 lk; rw [hh] at h2 hk
       cases h1; cases h2
       have := lo_m p l
       have := hi_m p k
       simp only [okb] at lk hk
       omega
theorem red_in {a : A} {c : Cg} (ha : Wf a) (hc : WfC c) {z : Int} (hz : -K < z ∧ z < K) (h1 : inS (ofA a) z = true) (h2 : inC c z = true) : inV (red a c) z = true := by
 have e1 : a.em = false := by rw [← emp_ofA ha]; exact emp_of_in h1
 have e2 : c.em = false := by unfold inC at h2; revert h2; cases c.em <;> simp
 have d := (in_iff e2 hc.pos).1 h2
 unfold red
 rw [if_neg (by simp [e1]), if_neg (by simp [e2])]
 by_cases m0 : c.m = 0
 ·rw [if_pos m0]
  rw [m0] at d
  have : z = c.r := by have := Int.zero_dvd.1 d; omega
  subst this
  rw [if_pos h1]
  unfold inV
  rw [(Wf.inS (onev_wf hc.r).1 rfl hz).2 ⟨fun l h => by cases h; exact Int.le_refl _, fun l h => by cases h; exact Int.le_refl _⟩, Bool.true_and]
  exact (in_iff rfl (Int.le_refl _)).2 (by simp [onev])
 ·rw [if_neg m0]
  have p : 0 < c.m := by have := hc.pos; omega
  obtain ⟨k1, k2⟩ := (Wf.inS ha e1 hz).1 h1
  have g1 : ∀ v, a.lo.map (loC c) = some v → v ≤ z := by
   intro v h
   cases hl : a.lo with
   | none => rw [hl] at h; cases h
   | some l => rw [hl] at h; cases h; exact lo_least p d (k1 l hl)
  have g2 : ∀ v, a.hi.map (hiC c) = some v → z ≤ v := by
   intro v h
   cases hl : a.hi with
   | none => rw [hl] at h; cases h
   | some l => rw [hl] at h; cases h; exact hi_most p d (k2 l hl)
  have V := red_V ha hc
  unfold red at V
  rw [if_neg (by simp [e1]), if_neg (by simp [e2]), if_neg m0] at V
  revert V g1 g2
  generalize a.lo.map (loC c) = x
  generalize a.hi.map (hiC c) = y
  intro g1 g2 V
  have nb : ∀ (z w : Int), clip z = some w → w = z := by
   intro z w h
   unfold clip at h; split at h
   ·cases h; rfl
   ·cases h
  have fin : ∀ u v : Option Int, Wf ⟨false, u, v⟩ → (∀ l, u = some l → l ≤ z) → (∀ l, v = some l → z ≤ l) → inV ⟨⟨false, u, v⟩, c⟩ z = true := by
   intro u v hw hu hv
   unfold inV
   rw [(Wf.inS hw rfl hz).2 ⟨hu, hv⟩, h2]; rfl
  cases x with
  | none => cases y with
   | none => exact fin _ _ V.a (fun l h => by cases h) (fun l h => by cases h)
   | some w => exact fin _ _ V.a (fun l h => by cases h) (fun l h => by rw [nb _ _ h]; exact g2 _ rfl)
  | some v => cases y with
   | none => exact fin _ _ V.a (fun l h => by rw [nb _ _ h]; exact g1 _ rfl) (fun l h => by cases h)
   | some w =>
    have := g1 _ rfl
    have := g2 _ rfl
    unfold fin3 at V ⊢
    simp only at V ⊢
    rw [if_neg (by omega)] at V ⊢
    by_cases h3 : v = w
    ·rw [if_pos h3] at V ⊢
     obtain rfl : z = v := by omega
     unfold inV
     rw [(Wf.inS V.a rfl hz).2 ⟨fun l h => by cases h; exact Int.le_refl _, fun l h => by cases h; exact Int.le_refl _⟩, Bool.true_and]
     exact (in_iff rfl (Int.le_refl _)).2 (by simp [onev])
    ·rw [if_neg h3] at V ⊢
     exact fin _ _ V.a (fun l h => by rw [nb _ _ h]; exact g1 _ rfl) (fun l h => by rw [nb _ _ h]; exact g2 _ rfl)
end Go.N
namespace Go.N
open Go Go.Q Go.Rx
theorem inC_em {c : Cg} {z : Int} (h : inC c z = true) : c.em = false := by unfold inC at h; revert h; cases c.em <;> simp
theorem inC_dvd {c : Cg} (hc : WfC c) {z : Int} (h : inC c z = true) : c.m ∣ z - c.r := (in_iff (inC_em h) hc.pos).1 h
theorem in_top (z : Int) : inC topC z = true := (in_iff rfl (by decide)).2 (Int.one_dvd _)
theorem clsF_or (m r : Int) : clsF m r = topC ∨ clsF m r = ⟨false, (m.natAbs : Int), if m = 0 then r else r.fmod (m.natAbs : Int)⟩ := by
 unfold clsF
 by_cases h : sz (m.natAbs : Int) > 100 ∨ sz (if m = 0 then r else r.fmod (m.natAbs : Int)) > 100
 ·exact .inl (if_pos h)
 ·exact .inr (if_neg h)
theorem in_clsF {m r z : Int} (h : m ∣ z - r) : inC (clsF m r) z = true := by
 rcases clsF_or m r with e | e
 ·rw [e]; exact in_top z
 ·rw [e]
  refine (in_iff rfl (Int.natCast_nonneg _)).2 ?_
  simp only
  by_cases h0 : m = 0
  ·subst h0
   simpa using h
  ·rw [if_neg h0]
   have d := fmod_dvd (show 0 < (m.natAbs : Int) by omega) r
   have h' : (m.natAbs : Int) ∣ z - r := Int.natAbs_dvd.2 h
   have := Int.dvd_add h' d
   rwa [show z - r + (r - r.fmod (m.natAbs : Int)) = z - r.fmod (m.natAbs : Int) by omega] at this
section
variable {c d : Cg} (hc : WfC c) (hd : WfC d) {z w : Int} (hz : inC c z = true) (hw : inC d w = true)
include hc hd hz hw
end
theorem dvd_iff (m a : Int) (h : 0 ≤ m) : dvd' m a = true ↔ m ∣ a := by
 unfold dvd'
 by_cases h0 : m = 0
 ·rw [if_pos h0, h0]; simp
 ·rw [if_neg h0, decide_eq_true_eq]; exact fmod0 (by omega)
theorem inside_iff {c d : Cg} (hd : WfC d) (h1 : c.em = false) (h2 : d.em = false) : insideC c d = true ↔ d.m ∣ c.m ∧ d.m ∣ c.r - d.r := by
 unfold insideC
 rw [if_neg (by simp [h1]), if_neg (by simp [h2]), Bool.and_eq_true, dvd_iff _ _ hd.pos, dvd_iff _ _ hd.pos]
theorem inside_refl {c : Cg} (hc : WfC c) : insideC c c = true := by
 cases e : c.em with
 | true => unfold insideC; rw [if_pos e]
 | false => exact (inside_iff hc e e).2 ⟨Int.dvd_refl _, by simp⟩
theorem cc_inj {c d : Cg} (h : cc c = cc d) : c.em = d.em ∧ (c.em = false → c = d) := by
 unfold cc at h
 cases e1 : c.em with
 | true => cases e2 : d.em with
  | true => exact ⟨rfl, nofun⟩
  | false => rw [if_pos e1, if_neg (by simp [e2])] at h; have := congrArg Prod.fst h; simp at this
 | false => cases e2 : d.em with
  | true => rw [if_neg (by simp [e1]), if_pos e2] at h; have := congrArg Prod.fst h; simp at this
  | false =>
   rw [if_neg (by simp [e1]), if_neg (by simp [e2])] at h
   simp only [Prod.mk.injEq] at h
   refine ⟨rfl, fun _ => ?_⟩
   have h1 := itoa_inj (bs_inj h.2.1)
   have h2 := itoa_inj (bs_inj h.2.2.1)
   cases c; cases d; simp_all
end Go.N
namespace Go.N
open Go Go.Q Go.Rx
noncomputable def metC (c d : Cg) : Cg :=
 if c.em = true then Ec else if d.em = true then Ec
 else if c.m = 0 then (if inC d c.r = true then c else Ec)
 else if d.m = 0 then (if inC c d.r = true then d else Ec)
 else if dvd' (Int.gcd c.m d.m) (d.r - c.r) = true then clsF (c.m / (Int.gcd c.m d.m : Int) * d.m) (Classical.epsilon fun z => c.m ∣ z - c.r ∧ d.m ∣ z - d.r) else Ec
theorem Cg.eta {c : Cg} (h : c.em = false) : c = ⟨false, c.m, c.r⟩ := by cases c; simp_all
theorem clsF_same {L u v : Int} (h : 0 < L) (d : L ∣ u - v) : clsF L u = clsF L v := by
 have e : (L.natAbs : Int) = L := by omega
 unfold clsF
 rw [if_neg (show L ≠ 0 by omega), if_neg (show L ≠ 0 by omega), e, fmod_same h d]
theorem clsF_self {c : Cg} (hc : WfC c) (he : c.em = false) {v : Int} (h : c.m ≠ 0) (d : c.m ∣ v - c.r) : clsF c.m v = c := by
 have p : 0 < c.m := by have := hc.pos; omega
 obtain ⟨r0, r1⟩ := hc.rng h
 rw [clsF_same p d, clsF_in hc.pos hc.m hc.r, if_neg h, Int.fmod_eq_emod_of_nonneg _ hc.pos, Int.emod_eq_of_lt r0 r1]
 exact (Cg.eta he).symm
theorem met_eq {c d : Cg} (ec : c.em = false) (ed : d.em = false) (pc : 0 < c.m) (pd : 0 < d.m) {v : Int} (h1 : c.m ∣ v - c.r) (h2 : d.m ∣ v - d.r) : metC c d = clsF (c.m / (Int.gcd c.m d.m : Int) * d.m) v := by
 have g : dvd' (Int.gcd c.m d.m) (d.r - c.r) = true := by
  refine (dvd_iff _ _ (Int.natCast_nonneg _)).2 ?_
  have := Int.dvd_sub (Int.dvd_trans (Int.gcd_dvd_left c.m d.m) h1) (Int.dvd_trans (Int.gcd_dvd_right c.m d.m) h2)
  rwa [show v - c.r - (v - d.r) = d.r - c.r by omega] at this
 unfold metC
 rw [if_neg (by simp [ec]), if_neg (by simp [ed]), if_neg (by omega), if_neg (by omega), if_pos g]
 obtain ⟨k1, k2⟩ := Classical.epsilon_spec (p := fun z => c.m ∣ z - c.r ∧ d.m ∣ z - d.r) ⟨v, h1, h2⟩
 refine clsF_same (lcm_pos pc pd) (lcm_dvd pc pd ?_ ?_)
 ·have := Int.dvd_sub k1 h1
  rwa [show ∀ x : Int, x - c.r - (v - c.r) = x - v from fun x => by omega] at this
 ·have := Int.dvd_sub k2 h2
  rwa [show ∀ x : Int, x - d.r - (v - d.r) = x - v from fun x => by omega] at this
theorem gcd_of_dvd {a b : Int} (hb : 0 < b) (h : b ∣ a) : (Int.gcd a b : Int) = b := by
 have : Int.gcd a b = b.natAbs := by
  have := Int.gcd_eq_right_iff_dvd (Int.le_of_lt hb) (a := a)
  first
   | exact Int.ofNat.inj (by have := this.2 h; rw [← Int.natAbs_of_nonneg (Int.le_of_lt hb)] at this; exact this)
   | omega
 omega
section
variable {c d : Cg} (hc : WfC c) (hd : WfC d) (ec : c.em = false) (ed : d.em = false)
include hc hd ec ed
theorem met_insideL (h : insideC c d = true) : metC c d = c := by
 obtain ⟨a, b⟩ := (inside_iff hd ec ed).1 h
 by_cases z : c.m = 0
 ·unfold metC
  rw [if_neg (by simp [ec]), if_neg (by simp [ed]), if_pos z, if_pos ((in_iff ed hd.pos).2 b)]
 ·have pc : 0 < c.m := by have := hc.pos; omega
  have pd : 0 < d.m := by
   have := hd.pos
   by_cases e : d.m = 0
   ·rw [e] at a; have := Int.zero_dvd.1 a; omega
   ·omega
  rw [met_eq ec ed pc pd (v := c.r) (by simp) b, gcd_of_dvd pd a, Int.ediv_mul_cancel a]
  exact clsF_self hc ec z (by simp)
theorem met_insideR (h : insideC d c = true) : metC c d = d := by
 obtain ⟨a, b⟩ := (inside_iff hc ed ec).1 h
 by_cases z : c.m = 0
 ·rw [z] at a b
  have k1 : d.m = 0 := Int.zero_dvd.1 a
  have k2 : d.r = c.r := by have := Int.zero_dvd.1 b; omega
  have e : c = d := by rw [Cg.eta ec, Cg.eta ed, z, k1, k2]
  subst e
  exact met_insideL hc hd ec ed (inside_refl hc)
 ·by_cases z' : d.m = 0
  ·unfold metC
   rw [if_neg (by simp [ec]), if_neg (by simp [ed]), if_neg z, if_pos z', if_pos ((in_iff ec hc.pos).2 b)]
  ·have pc : 0 < c.m := by have := hc.pos; omega
   have pd : 0 < d.m := by have := hd.pos; omega
   have g : (Int.gcd c.m d.m : Int) = c.m := by rw [Int.gcd_comm]; exact gcd_of_dvd pc a
   rw [met_eq ec ed pc pd (v := d.r) b (by simp), g, Int.ediv_self (by omega), Int.one_mul]
   exact clsF_self hd ed z' (by simp)
theorem met_none (h1 : ¬ insideC c d = true) (h2 : ¬ insideC d c = true) (h : c.m = 0 ∨ d.m = 0 ∨ dvd' (Int.gcd c.m d.m) (d.r - c.r) = false) : metC c d = Ec := by
 unfold metC
 rw [if_neg (by simp [ec]), if_neg (by simp [ed])]
 by_cases z : c.m = 0
 ·rw [if_pos z, if_neg]
  intro x
  exact h1 ((inside_iff hd ec ed).2 ⟨by rw [z]; exact Int.dvd_zero _, (in_iff ed hd.pos).1 x⟩)
 ·rw [if_neg z]
  by_cases z' : d.m = 0
  ·rw [if_pos z', if_neg]
   intro x
   exact h2 ((inside_iff hc ed ec).2 ⟨by rw [z']; exact Int.dvd_zero _, (in_iff ec hc.pos).1 x⟩)
  ·rw [if_neg z']
   rcases h with h | h | h
   ·exact absurd h z
   ·exact absurd h z'
   ·rw [h, if_neg (by simp)]
end
theorem metC_wf {c d : Cg} (hc : WfC c) (hd : WfC d) : WfC (metC c d) := by
 unfold metC; split; exact Ec_wf; split; exact Ec_wf; split
 ·split; exact hc; exact Ec_wf
 ·split
  ·split; exact hd; exact Ec_wf
  ·split; exact clsF_wf; exact Ec_wf
theorem in_met {c d : Cg} (hc : WfC c) (hd : WfC d) {z : Int} (h1 : inC c z = true) (h2 : inC d z = true) : inC (metC c d) z = true := by
 have ec := inC_em h1
 have ed := inC_em h2
 have d1 := inC_dvd hc h1
 have d2 := inC_dvd hd h2
 by_cases a : c.m = 0
 ·rw [a] at d1
  have : z = c.r := by have := Int.zero_dvd.1 d1; omega
  subst this
  unfold metC
  rw [if_neg (by simp [ec]), if_neg (by simp [ed]), if_pos a, if_pos h2]; exact h1
 ·by_cases b : d.m = 0
  ·rw [b] at d2
   have : z = d.r := by have := Int.zero_dvd.1 d2; omega
   subst this
   unfold metC
   rw [if_neg (by simp [ec]), if_neg (by simp [ed]), if_neg a, if_pos b, if_pos h1]; exact h2
  ·rw [met_eq ec ed (by have := hc.pos; omega) (by have := hd.pos; omega) d1 d2]
   exact in_clsF (by simp)
end Go.N
namespace Go.N
open Go Go.Q Go.Rx
theorem mul_abs {a b A B : Int} (ha : -A ≤ a ∧ a ≤ A) (hb : -B ≤ b ∧ b ≤ B) : -(A * B) ≤ a * b ∧ a * b ≤ A * B := by
 have h1 := Int.mul_nonneg (show 0 ≤ A - a by omega) (show 0 ≤ B + b by omega)
 have h2 := Int.mul_nonneg (show 0 ≤ A + a by omega) (show 0 ≤ B - b by omega)
 have h3 := Int.mul_nonneg (show 0 ≤ A - a by omega) (show 0 ≤ B - b by omega)
 have h4 := Int.mul_nonneg (show 0 ≤ A + a by omega) (show 0 ≤ B + b by omega)
 rw [Int.sub_mul, Int.mul_add, Int.mul_add] at h1
 rw [Int.add_mul, Int.mul_sub, Int.mul_sub] at h2
 rw [Int.sub_mul, Int.mul_sub, Int.mul_sub] at h3
 rw [Int.add_mul, Int.mul_add, Int.mul_add] at h4
 omega
set_option exponentiation.threshold 5000 in
theorem C4_K : C * (C + C) * C + C + 10 < K ∧ C * (C + C) + 10 < K := by unfold C K; decide
theorem fdiv_gcd {a b : Int} (ha : 0 < a) : (Int.gcd a b : Int) * b.fdiv (Int.gcd a b : Int) = b ∧ b.fdiv (Int.gcd a b : Int) = b / (Int.gcd a b : Int) ∧ 0 < (Int.gcd a b : Int) := by
 have gp : 0 < (Int.gcd a b : Int) := by
  have := Int.gcd_pos_of_ne_zero_left b (show a ≠ 0 by omega)
  omega
 have e : b.fdiv (Int.gcd a b : Int) = b / (Int.gcd a b : Int) := Int.fdiv_eq_ediv_of_nonneg _ (Int.le_of_lt gp)
 exact ⟨by rw [e]; exact Int.mul_ediv_cancel' (Int.gcd_dvd_right _ _), e, gp⟩
section
variable (lf : Nat) (hb : Big lf) {a b : Int} (ha : 0 < a ∧ a < C) (hbb : 0 < b ∧ b < C)
include hb ha hbb
end
section
variable (lf : Nat) (hb : Big lf) {c d : Cg} (hc : WfC c) (hd : WfC d)
include hb hc hd
theorem met_coef (ec : c.em = false) (ed : d.em = false) (pc : 0 < c.m) (pd : 0 < d.m) (dv : dvd' (Int.gcd c.m d.m) (d.r - c.r) = true) {U : Int} (h : d.m ∣ U * c.m - (Int.gcd c.m d.m : Int)) :
  metC c d = clsF (c.m / (Int.gcd c.m d.m : Int) * d.m) (c.r + U * (d.r - c.r).fdiv (Int.gcd c.m d.m : Int) * c.m) := by
 obtain ⟨_, _, gp⟩ := fdiv_gcd (b := d.m) pc
 have dd := (dvd_iff _ _ (Int.natCast_nonneg _)).1 dv
 have q : (d.r - c.r) = (Int.gcd c.m d.m : Int) * (d.r - c.r).fdiv (Int.gcd c.m d.m : Int) := by
  rw [Int.fdiv_eq_ediv_of_nonneg _ (Int.le_of_lt gp)]; exact (Int.mul_ediv_cancel' dd).symm
 refine met_eq ec ed pc pd ?_ (crt gp pc pd (Int.gcd_dvd_left _ _) (Int.gcd_dvd_right _ _) h q)
 rw [show ∀ t : Int, c.r + t - c.r = t from fun t => by omega]
 exact Int.dvd_mul_left _ _
theorem met_sizes {U : Int} (u0 : 0 ≤ U) (u1 : U < C) (pc : 0 < c.m) (pd : 0 < d.m) :
  (-K < (d.r - c.r).fdiv (Int.gcd c.m d.m : Int) ∧ (d.r - c.r).fdiv (Int.gcd c.m d.m : Int) < K) ∧ (-K < U * (d.r - c.r).fdiv (Int.gcd c.m d.m : Int) ∧ U * (d.r - c.r).fdiv (Int.gcd c.m d.m : Int) < K) ∧
  (-K < U * (d.r - c.r).fdiv (Int.gcd c.m d.m : Int) * c.m ∧ U * (d.r - c.r).fdiv (Int.gcd c.m d.m : Int) * c.m < K) ∧ (-K < c.r + U * (d.r - c.r).fdiv (Int.gcd c.m d.m : Int) * c.m ∧ c.r + U * (d.r - c.r).fdiv (Int.gcd c.m d.m : Int) * c.m < K) := by
 obtain ⟨k1, k2⟩ := C4_K
 have hC := C_gt
 have hCK := C_lt_K
 have hCC := CC_K
 have h4 : 0 ≤ C * C := Int.mul_nonneg (by omega) (by omega)
 obtain ⟨_, _, gp⟩ := fdiv_gcd (b := d.m) pc
 have r1 := hc.r
 have r2 := hd.r
 have m1 := hc.m
 have e1 := fdiv_abs (x := d.r - c.r) (y := (Int.gcd c.m d.m : Int)) (by omega)
 have e2 := mul_abs (a := U) (b := (d.r - c.r).fdiv (Int.gcd c.m d.m : Int)) (A := C) (B := C + C) (by omega) (by omega)
 have e3 := mul_abs (b := c.m) (B := C) e2 (by omega)
 refine ⟨?_, ?_, ?_, ?_⟩ <;> omega
theorem meet_c : congruence_Meet.f lf (cc c) (cc d) = some (cc (metC c d), 0, ()) := by
 obtain ⟨b1, b2, b3, b4, b5, b6, b7, b8, b9, b10⟩ := bounds lf hb hc hd
 have hlf := hb.1
 rw [congruence_Meet.f, cboth lf hb hc hd, bdS]
 cases ec : c.em with
 | true =>
  have : metC c d = Ec := by unfold metC; rw [if_pos ec]
  rw [this, cc_em ec]; simp only [bne_self_eq_false, brF, brT, congruence_none.f, bdS]; rfl
 | false => cases ed : d.em with
  | true =>
   have : metC c d = Ec := by unfold metC; rw [if_neg (by simp [ec]), if_pos ed]
   rw [this, cc_ne ec, cc_em ed]; simp only [bne_self_eq_false, brF, brT, congruence_none.f, bdS]; rfl
  | false =>
   have e1 : (cc c).1 = false := by rw [cc_ne ec]
   have e2 : (cc d).1 = false := by rw [cc_ne ed]
   simp only [bne_self_eq_false, brF, e1, e2]
   rw [congruence_meet.f, inside_c lf hb hc hd, bdS]
   cases i1 : insideC c d with
   | true => simp only [brT, bdS]; rw [met_insideL hc hd ec ed i1]
   | false =>
    simp only [brF, inside_c lf hb hd hc, bdS]
    cases i2 : insideC d c with
    | true => simp only [brT, bdS]; rw [met_insideR hc hd ec ed i2]
    | false =>
     have k1 : (cc d).2.1 = bs (Lib.itoa d.m) := by rw [cc_ne ed]
     have k2 : (cc d).2.2.1 = bs (Lib.itoa d.r) := by rw [cc_ne ed]
     have k3 : (cc c).2.1 = bs (Lib.itoa c.m) := by rw [cc_ne ec]
     have k4 : (cc c).2.2.1 = bs (Lib.itoa c.r) := by rw [cc_ne ec]
     have r1 := hc.r
     have r2 := hd.r
     have hC := C_gt
     have hCK := C_lt_K
     have b5' : -K < d.r - c.r ∧ d.r - c.r < K := by omega
     have n := met_none hc hd ec ed (by simp [i1]) (by simp [i2])
     simp only [brF, k1, k2, k3, k4, cgcd_f lf hb b1 b3, csub_f lf hb b4 b2 b5', bdS, beq0, congruence_none.f]
     by_cases z1 : c.m = 0
     ·rw [n (.inl z1), decide_eq_true z1, brT, bdS]; rfl
     ·rw [decide_eq_false z1, brF]
      by_cases z2 : d.m = 0
      ·rw [n (.inr (.inl z2)), decide_eq_true z2, brT, bdS]; rfl
      ·rw [decide_eq_false z2, brF, divides_f lf hlf (gcd_lt b1 b3) b5', bdS]
       simp only
       cases dv : dvd' (Int.gcd c.m d.m) (d.r - c.r) with
       | false => rw [n (.inr (.inr dv))]; simp only [Bool.not_false, brT, bdS]; rfl
       | true =>
        have pc : 0 < c.m := by have := hc.pos; omega
        have pd : 0 < d.m := by have := hd.pos; omega
        obtain ⟨_, _, gp⟩ := fdiv_gcd (b := d.m) pc
        obtain ⟨t1, t3, U, u1, u2, u3, u4⟩ := bezout_f lf hb ⟨pc, hc.m.2⟩ ⟨pd, hd.m.2⟩
        obtain ⟨s1, s2, s3, s4⟩ := met_sizes lf hb hc hd u2 u3 pc pd
        have lc : -K < c.m / (Int.gcd c.m d.m : Int) * d.m ∧ c.m / (Int.gcd c.m d.m : Int) * d.m < K := by
         have h1 := lcm_pos pc pd
         have x := Int.ediv_le_self (Int.gcd c.m d.m : Int) (Int.le_of_lt pc)
         have := Int.mul_le_mul_of_nonneg_right x (Int.le_of_lt pd)
         omega
        simp only [Bool.not_true, brF, u1, bdS, quo_small lf hlf b5' (gcd_lt b1 b3) (by omega), api_Int.f, cmul_f lf hb (x := U) (y := (d.r - c.r).fdiv (Int.gcd c.m d.m : Int)) (by omega) s1 s2, lcm_f lf hb ⟨pc, hc.m.2⟩ ⟨pd, hd.m.2⟩,
         cmul_f lf hb s2 b1 s3, cadd_f lf hb b2 s3 s4, class_f lf hlf lc s4]
        rw [met_coef lf hb hc hd ec ed pc pd dv u4]
end
end Go.N
namespace Go.N
open Go Go.Q Go.Rx
theorem clipV (lf : Nat) {o : Option Int} (h : okb K o) : value_clip.f lf (ob o) = some (ob (o.bind clip), ()) := by
 rw [value_clip.f]
 cases o with
 | none => rw [show ob none = bs [] from rfl, trimPrefix_f, bdS, bs_size, show body [] = [] from rfl, decide_eq_false (by simp), brF]; rfl
 | some z =>
  have hl := okb_len h
  rw [show ob (some z) = bs (Lib.itoa z) from rfl, trimPrefix_f, bdS, bs_size]
  have e : (((body (Lib.itoa z)).length : Nat) : Int) = (sz z : Int) := rfl
  simp only [e, Option.bind]
  by_cases c : -C < z ∧ z < C
  ·have := (sz_C z).2 c
   rw [decide_eq_false (by omega), brF, clip_some c]; rfl
  ·have : ¬ sz z ≤ 100 := fun x => c ((sz_C z).1 x)
   rw [decide_eq_true (by omega), brT, clip_none c]; rfl
set_option exponentiation.threshold 5000 in
theorem C2_Dd : C + C < Dd := by
 have e : (10 ^ 100 + 10 ^ 100 : Nat) < 10 ^ 1000 := by
  have : (10 : Nat) ^ 1000 = 10 ^ 100 * 10 ^ 900 := by rw [← Nat.pow_add]
  rw [this]
  have : (2 : Nat) < 10 ^ 900 := Nat.lt_of_lt_of_le (show (2 : Nat) < 10 ^ 1 by decide) (Nat.pow_le_pow_right (by decide) (by decide))
  have h := Nat.mul_lt_mul_of_pos_left this (show 0 < 10 ^ 100 by exact Nat.pow_pos (by decide))
  omega
 unfold C Dd; exact Int.ofNat_lt.2 e
theorem evV : ((((true, (⟨#[]⟩ : ByteArray), (⟨#[]⟩ : ByteArray), ()), (true, (⟨#[]⟩ : ByteArray), (⟨#[]⟩ : ByteArray), ()), ()) : VV)) = vc Ev := rfl
theorem onV (z : Int) : (((false, bs (Lib.itoa z), bs (Lib.itoa z), ()), (false, (⟨#[48]⟩ : ByteArray), bs (Lib.itoa z), ()), ()) : VV) = vc (onev z) := by
 rw [i0]; unfold vc onev; rw [cc_ne rfl]; rfl
theorem ob_ne (x : Int) : ((bs (Lib.itoa x)).toList == (⟨#[]⟩ : ByteArray).toList) = false := by
 have := ob_beq (some x)
 rw [show ob (some x) = bs (Lib.itoa x) from rfl] at this
 rw [this]; exact decide_eq_false nofun
theorem ob_e : ((ob none).toList == (⟨#[]⟩ : ByteArray).toList) = true := by rw [ob_beq]; rfl
theorem sgn_gtd (x y : Int) : decide (sgn (x - y) > 0) = decide (y < x) := sgn_gt x y
theorem sgn_z (x y : Int) : (sgn (x - y) == 0) = decide (x = y) := by
 rw [Bool.eq_iff_iff, beq_iff_eq, decide_eq_true_eq]
 unfold sgn; (repeat' split) <;> omega
section
variable (lf : Nat) (hb : Big lf) {a : A} {c : Cg} (ha : Wf a) (hc : WfC c)
include hb ha hc
theorem lo_K {l : Int} (h : -C < l ∧ l < C) (p : 0 < c.m) : -K < loC c l ∧ loC c l < K ∧ -Dd < loC c l ∧ loC c l < Dd := by
 have := lo_m p l
 have := hc.m
 have := C_gt
 have := CC_K
 have hD := DD_K
 have hCD := C_lt_Dd
 have h4 : C * 2 ≤ C * C := Int.mul_le_mul_of_nonneg_left (by omega) (by omega)
 have h5 := C2_Dd
 have h6 := Dd_K
 omega
theorem hi_K {l : Int} (h : -C < l ∧ l < C) (p : 0 < c.m) : -K < hiC c l ∧ hiC c l < K ∧ -Dd < hiC c l ∧ hiC c l < Dd := by
 have := hi_m p l
 have := hc.m
 have := C_gt
 have h5 := C2_Dd
 have h6 := Dd_K
 omega
theorem vred_f : value_reduced.f lf (ac a) (cc c) = some (vc (red a c), ()) := by
 have hlf := hb.1
 have h3 : 200000 ≤ lf := by omega
 have hCD := C_lt_Dd
 rw [value_reduced.f]
 simp only [show (ac a).1 = a.em from rfl, show (ac a).2.1 = ob a.lo from rfl, show (ac a).2.2.1 = ob a.hi from rfl, value_empty.f, bdS, evV, value_one.f]
 unfold red
 cases ea : a.em with
 | true => simp only [brT, if_true]
 | false =>
  cases ec : c.em with
  | true => rw [cc_em ec]; simp only [brT, brF, if_true, if_false, Bool.false_eq_true]
  | false =>
   have e1 : (cc c).1 = false := by rw [cc_ne ec]
   have e2 : (cc c).2.1 = bs (Lib.itoa c.m) := by rw [cc_ne ec]
   have e3 : (cc c).2.2.1 = bs (Lib.itoa c.r) := by rw [cc_ne ec]
   simp only [brF, if_false, Bool.false_eq_true, e1, e2, e3, beq0]
   by_cases m : c.m = 0
   ·rw [decide_eq_true m, brT, if_pos m, holds_wf lf h3 ha (CK hc.r), bdS]
    simp only
    cases hi : inS (ofA a) c.r with
    | true => simp only [Bool.not_true, brF, if_true, onV]
    | false => simp only [Bool.not_false, brT, if_false, Bool.false_eq_true]
   ·have p : 0 < c.m := by have := hc.pos; omega
    rw [decide_eq_false m, brF, if_neg m]
    have kl := ha.lo
    have kh := ha.hi
    have L := fun {l : Int} (h : -C < l ∧ l < C) => least_c lf hb hc ec (a := l) (by omega)
    have G' := fun {l : Int} (h : -C < l ∧ l < C) => greatest_c lf hb hc ec (a := l) (by omega)
    have ab : ∀ l, aboveC c l = some (loC c l) := fun l => if_neg m
    have be : ∀ l, belowC c l = some (hiC c l) := fun l => if_neg m
    have cN := clipV lf (o := none) trivial
    cases hl : a.lo with
    | none => cases hh : a.hi with
     | none => simp only [ob_e, Bool.not_true, brF, cN, bdS, Option.map, fin3]; rfl
     | some u =>
      rw [hh] at kh
      have g := G' kh
      rw [be] at g
      have kk := hi_K lf hb ha hc kh p
      have cU := clipV lf (o := some (hiC c u)) ⟨kk.1, kk.2.1⟩
      simp only [show ob (some u) = bs (Lib.itoa u) from rfl, show ob (some (hiC c u)) = bs (Lib.itoa (hiC c u)) from rfl] at *
      simp only [ob_e, ob_ne, Bool.not_true, Bool.not_false, brF, brT, g, cN, cU, bdS, Option.map, fin3]; rfl
    | some l =>
     rw [hl] at kl
     have g := L kl
     rw [ab] at g
     have kk := lo_K lf hb ha hc kl p
     have cL := clipV lf (o := some (loC c l)) ⟨kk.1, kk.2.1⟩
     cases hh : a.hi with
     | none =>
      simp only [show ob (some l) = bs (Lib.itoa l) from rfl, show ob (some (loC c l)) = bs (Lib.itoa (loC c l)) from rfl] at *
      simp only [ob_e, ob_ne, Bool.not_true, Bool.not_false, brF, brT, g, cN, cL, bdS, Option.map, fin3]; rfl
     | some u =>
      rw [hh] at kh
      have g2 := G' kh
      rw [be] at g2
      have kk2 := hi_K lf hb ha hc kh p
      have cU := clipV lf (o := some (hiC c u)) ⟨kk2.1, kk2.2.1⟩
      have cm := compare_f lf _ _ (chkK ⟨kk.1, kk.2.1⟩) (chkK ⟨kk2.1, kk2.2.1⟩) h3
      rw [iv_itoa, iv_itoa] at cm
      simp only [show ob (some l) = bs (Lib.itoa l) from rfl, show ob (some (loC c l)) = bs (Lib.itoa (loC c l)) from rfl, show ob (some u) = bs (Lib.itoa u) from rfl, show ob (some (hiC c u)) = bs (Lib.itoa (hiC c u)) from rfl] at *
      simp only [ob_e, ob_ne, Bool.not_true, Bool.not_false, brF, brT, g, g2, cm, bdS, sgn_gtd, sgn_z, Option.map, fin3]
      by_cases h1 : hiC c u < loC c l
      ·rw [decide_eq_true h1, brT, if_pos h1]
      ·rw [decide_eq_false h1, brF, if_neg h1]
       by_cases h2 : loC c l = hiC c u
       ·rw [decide_eq_true h2, brT, if_pos h2, onV]
       ·rw [decide_eq_false h2, brF, if_neg h2, cL, bdS, cU, bdS]; rfl
theorem rred_f : surveyorref23_Reduced.f lf (ac a) (cc c) = some (vc (red a c), ()) := by
 have hlf := hb.1
 have h3 : 200000 ≤ lf := by omega
 have hCD := C_lt_Dd
 rw [surveyorref23_Reduced.f]
 simp only [show (ac a).1 = a.em from rfl, show (ac a).2.1 = ob a.lo from rfl, show (ac a).2.2.1 = ob a.hi from rfl, surveyorref23_Empty.f, surveyorref21_None.f, surveyorref22_Empty.f, bdS, evV]
 unfold red
 cases ea : a.em with
 | true => simp only [brT, if_true]
 | false =>
  cases ec : c.em with
  | true => rw [cc_em ec]; simp only [brT, brF, if_true, if_false, Bool.false_eq_true]
  | false =>
   have e1 : (cc c).1 = false := by rw [cc_ne ec]
   have e2 : (cc c).2.1 = bs (Lib.itoa c.m) := by rw [cc_ne ec]
   have e3 : (cc c).2.2.1 = bs (Lib.itoa c.r) := by rw [cc_ne ec]
   simp only [brF, if_false, Bool.false_eq_true, e1, e2, e3, beq0]
   by_cases m : c.m = 0
   ·rw [decide_eq_true m, brT, if_pos m, in_ref lf h3 ha (CK hc.r), bdS]
    simp only
    cases hi : inS (ofA a) c.r with
    | true =>
     simp only [Bool.not_true, brF, if_true, ← onV]
     rw [cc_ne ec, m, i0]
    | false => simp only [Bool.not_false, brT, if_false, Bool.false_eq_true]
   ·have p : 0 < c.m := by have := hc.pos; omega
    rw [decide_eq_false m, brF, if_neg m]
    have kl := ha.lo
    have kh := ha.hi
    have L := fun {l : Int} (h : -C < l ∧ l < C) => above_c lf hb hc ec (a := l) (by omega)
    have G' := fun {l : Int} (h : -C < l ∧ l < C) => below_c lf hb hc ec (a := l) (by omega)
    have ab : ∀ l, aboveC c l = some (loC c l) := fun l => if_neg m
    have be : ∀ l, belowC c l = some (hiC c l) := fun l => if_neg m
    have toL : ∀ x y : Option Int, okb K x → okb K y → gt? x y = false → toA ⟨lox x, hix y⟩ = ⟨false, x.bind clip, y.bind clip⟩ := by
     intro x y hx hy h
     unfold toA; rw [emp_lh hx hy, h, if_neg (by simp), tx_lox, tx_hix]
    cases hl : a.lo with
    | none => cases hh : a.hi with
     | none =>
      simp only [ob_e, Bool.not_true, brF, range_f lf h3 none none trivial trivial, toL none none trivial trivial rfl, bdS, Option.map, fin3]; rfl
     | some u =>
      rw [hh] at kh
      have g := G' kh
      rw [be] at g
      have kk := hi_K lf hb ha hc kh p
      have rg := range_f lf h3 none (some (hiC c u)) trivial ⟨kk.1, kk.2.1⟩
      rw [toL none (some (hiC c u)) trivial ⟨kk.1, kk.2.1⟩ rfl] at rg
      simp only [show ob (some u) = bs (Lib.itoa u) from rfl, show ob (some (hiC c u)) = bs (Lib.itoa (hiC c u)) from rfl] at *
      simp only [ob_e, ob_ne, Bool.not_true, Bool.not_false, brF, brT, g, rg, bdS, Option.map, fin3]; rfl
    | some l =>
     rw [hl] at kl
     have g := L kl
     rw [ab] at g
     have kk := lo_K lf hb ha hc kl p
     cases hh : a.hi with
     | none =>
      have rg := range_f lf h3 (some (loC c l)) none ⟨kk.1, kk.2.1⟩ trivial
      rw [toL (some (loC c l)) none ⟨kk.1, kk.2.1⟩ trivial rfl] at rg
      simp only [show ob (some l) = bs (Lib.itoa l) from rfl, show ob (some (loC c l)) = bs (Lib.itoa (loC c l)) from rfl] at *
      simp only [ob_e, ob_ne, Bool.not_true, Bool.not_false, brF, brT, g, rg, bdS, Option.map, fin3]; rfl
     | some u =>
      rw [hh] at kh
      have g2 := G' kh
      rw [be] at g2
      have kk2 := hi_K lf hb ha hc kh p
      have ls := lessI lf h3 (x := hiC c u) (y := loC c l) ⟨kk2.1, kk2.2.1⟩ ⟨kk.1, kk.2.1⟩
      have rg := range_f lf h3 (some (loC c l)) (some (hiC c u)) ⟨kk.1, kk.2.1⟩ ⟨kk2.1, kk2.2.1⟩
      have T := toL (some (loC c l)) (some (hiC c u)) ⟨kk.1, kk.2.1⟩ ⟨kk2.1, kk2.2.1⟩
      simp only [show ob (some l) = bs (Lib.itoa l) from rfl, show ob (some (loC c l)) = bs (Lib.itoa (loC c l)) from rfl, show ob (some u) = bs (Lib.itoa u) from rfl, show ob (some (hiC c u)) = bs (Lib.itoa (hiC c u)) from rfl] at *
      have eqt : ((bs (Lib.itoa (loC c l))).toList == (bs (Lib.itoa (hiC c u))).toList) = decide (loC c l = hiC c u) := by
       rw [beq_bs]; simp only [decide_eq_decide]; exact ⟨itoa_inj, fun e => by rw [e]⟩
      simp only [ob_e, ob_ne, Bool.not_true, Bool.not_false, brF, brT, g, g2, ls, bdS, eqt, Option.map, fin3]
      by_cases h1 : hiC c u < loC c l
      ·rw [decide_eq_true h1, brT, if_pos h1]
      ·rw [decide_eq_false h1, brF, if_neg h1]
       by_cases h2 : loC c l = hiC c u
       ·have kC : -C < loC c l ∧ loC c l < C := by
         have := lo_m p l
         have := hi_m p u
         simp only [okb] at kl kh
         omega
        have hC := C_gt
        have hCK := C_lt_K
        rw [decide_eq_true h2, brT, if_pos h2, surveyorref23_One.f, surveyorref22_Single.f, i0, class_ref lf h3 (m := 0) (by omega) (CK kC), bdS, bdS]
        simp only
        rw [clsF_in (Int.le_refl 0) (by omega) kC, if_pos rfl, cc_ne rfl]
        simp only [← i0, BEq.rfl, Bool.not_true, brF, bdS]
        rw [onV]
       ·rw [decide_eq_false h2, brF, if_neg h2, rg, T (by unfold gt?; simp; omega), bdS]; rfl
end
end Go.N
namespace Go.N
open Go Go.Q Go.Rx
section
variable (lf : Nat) (h3 : 200000 ≤ lf)
include h3
end
theorem negS_ok {s : Sp} (h : oks C s) : oks C (negS s) := common_ok h ⟨trivial, one_okx (by decide) (by decide)⟩
theorem zerS_ok {s : Sp} (h : oks C s) : oks C (zerS s) := common_ok h ⟨one_okx (by decide) (by decide), one_okx (by decide) (by decide)⟩
section
variable (lf : Nat) (h3 : 200000 ≤ lf)
include h3
end
end Go.N
namespace Go.N
open Go Go.Q Go.Rx
theorem sg_neg (x : X) : sg (xneg x) = -sg x := by
 cases x with
 | ni => rfl
 | pi => rfl
 | fin z => simp only [xneg, sg, sgn]; (repeat' split) <;> omega
theorem xmul_comm (x y : X) : xmul x y = xmul y x := by
 unfold xmul
 rw [Int.mul_comm (sg y) (sg x)]
 split
 ·rfl
 ·cases x <;> cases y <;> simp only [Int.mul_comm]
theorem xmul_neg (x y : X) : xmul (xneg x) y = xneg (xmul x y) := by
 unfold xmul
 rw [sg_neg, Int.neg_mul]
 have a := sg3 x
 have b := sg3 y
 by_cases h : sg x * sg y = 0
 ·rw [h, if_pos (by decide), if_pos rfl]; rfl
 ·rw [if_neg (by omega), if_neg h]
  have one : sg x * sg y = 1 ∨ sg x * sg y = -1 := by
   rcases a with a | a | a <;> rcases b with b | b | b <;> rw [a, b] at h ⊢ <;> simp at h ⊢
  cases x <;> cases y <;> simp only [xneg, Int.neg_mul] <;> rcases one with o | o <;> rw [o] <;> rfl
theorem xmul_neg' (x y : X) : xmul x (xneg y) = xneg (xmul x y) := by rw [xmul_comm, xmul_neg, xmul_comm]
theorem key_mul_sg {x y : X} : (key (xmul x y) < 0 ↔ sg x * sg y < 0) ∧ (key (xmul x y) = 0 ↔ sg x * sg y = 0) := by
 have hK := K_gt
 have a := sg3 x
 have b := sg3 y
 unfold xmul
 by_cases h : sg x * sg y = 0
 ·rw [if_pos h, h]; simp [key]
 ·rw [if_neg h]
  have one : sg x * sg y = 1 ∨ sg x * sg y = -1 := by
   rcases a with a | a | a <;> rcases b with b | b | b <;> rw [a, b] at h ⊢ <;> simp at h ⊢
  have inf : (key (if sg x * sg y = 1 then X.pi else X.ni) < 0 ↔ sg x * sg y < 0) ∧ (key (if sg x * sg y = 1 then X.pi else X.ni) = 0 ↔ sg x * sg y = 0) := by
   rcases one with o | o <;> rw [o]
   ·rw [if_pos rfl, show key X.pi = K from rfl]; omega
   ·rw [if_neg (by decide), show key X.ni = -K from rfl]; omega
  cases x with
  | fin u => cases y with
   | fin v =>
    simp only [key]
    have ku := sg_key (.fin u)
    have kv := sg_key (.fin v)
    simp only [key] at ku kv
    rcases a with a | a | a <;> rcases b with b | b | b <;> rw [a, b] at h ⊢ <;> simp at h ⊢
    ·have := Int.mul_pos_of_neg_of_neg (show u < 0 by omega) (show v < 0 by omega); omega
    ·have := Int.mul_neg_of_neg_of_pos (show u < 0 by omega) (show 0 < v by omega); omega
    ·have := Int.mul_neg_of_pos_of_neg (show 0 < u by omega) (show v < 0 by omega); omega
    ·have := Int.mul_pos (show 0 < u by omega) (show 0 < v by omega); omega
   | ni => exact inf
   | pi => exact inf
  | ni => exact inf
  | pi => exact inf
theorem xmul_ff {a b : Int} : xmul (.fin a) (.fin b) = .fin (a * b) := by
 unfold xmul
 split
 ·rename_i h
  have := (key_mul_sg (x := .fin a) (y := .fin b)).2
  have ka := sg_key (.fin a)
  have kb := sg_key (.fin b)
  simp only [key] at ka kb
  rcases Int.mul_eq_zero.1 h with z | z
  ·rw [ka.2.1.1 z, Int.zero_mul]
  ·rw [kb.2.1.1 z, Int.mul_zero]
 ·rfl
theorem xmul_mono {x x' y : X} (hx : okx Dd x) (hx' : okx Dd x') (hy : okx Dd y) (h : key x ≤ key x') (h0 : 0 ≤ key y) : key (xmul x y) ≤ key (xmul x' y) := by
 have hK := K_gt
 have hC := Dd_K
 have k1 := key_le (xmul_okD hx hy)
 have k2 := key_le (xmul_okD hx' hy)
 have s1 := key_mul_sg (x := x) (y := y)
 have s2 := key_mul_sg (x := x') (y := y)
 have gx := sg_key x
 have gx' := sg_key x'
 have gy := sg_key y
 have a := sg3 x
 have a' := sg3 x'
 have b := sg3 y
 have inf : ∀ {u v : X}, (u = .ni ∨ u = .pi ∨ v = .ni ∨ v = .pi) → key (xmul u v) = sg u * sg v * K := by
  intro u v hu
  have c := sg3 u
  have d := sg3 v
  unfold xmul
  by_cases hz : sg u * sg v = 0
  ·rw [if_pos hz, hz]; simp [key]
  ·rw [if_neg hz]
   have one : sg u * sg v = 1 ∨ sg u * sg v = -1 := by
    rcases c with c | c | c <;> rcases d with d | d | d <;> rw [c, d] at hz ⊢ <;> simp at hz ⊢
   have f : key (if sg u * sg v = 1 then X.pi else X.ni) = sg u * sg v * K := by
    rcases one with o | o <;> rw [o]
    ·rw [if_pos rfl, show key X.pi = K from rfl]; omega
    ·rw [if_neg (by decide), show key X.ni = -K from rfl]; omega
   rcases hu with rfl | rfl | rfl | rfl
   ·exact f
   ·exact f
   ·cases u <;> exact f
   ·cases u <;> exact f
 by_cases y0 : key y = 0
 ·have : sg y = 0 := by omega
  have e1 : key (xmul x y) = 0 := s1.2.2 (by rw [this, Int.mul_zero])
  have e2 : key (xmul x' y) = 0 := s2.2.2 (by rw [this, Int.mul_zero])
  omega
 have y1 : sg y = 1 := by omega
 rw [y1, Int.mul_one] at s1 s2
 cases y with
 | ni => simp only [key] at h0; omega
 | pi =>
  rw [inf (.inr (.inr (.inr rfl))), inf (.inr (.inr (.inr rfl))), y1, Int.mul_one, Int.mul_one]
  exact Int.mul_le_mul_of_nonneg_right (by omega) (by omega)
 | fin v =>
  cases x with
  | ni =>
   rw [inf (.inl rfl), y1, Int.mul_one, show sg X.ni = -1 from rfl]; omega
  | pi =>
   cases x' with
   | pi => exact Int.le_refl _
   | ni => simp only [key] at h; omega
   | fin w => simp only [key, okx] at h hx'; omega
  | fin u => cases x' with
   | pi =>
    rw [inf (u := X.pi) (.inr (.inl rfl)), y1, Int.mul_one, show sg X.pi = 1 from rfl]; omega
   | ni => simp only [key, okx] at h hx; omega
   | fin w =>
    rw [xmul_ff, xmul_ff]
    simp only [key] at h h0 ⊢
    exact Int.mul_le_mul_of_nonneg_right h h0
theorem xmul_anti {x x' y : X} (hx : okx Dd x) (hx' : okx Dd x') (hy : okx Dd y) (h : key x ≤ key x') (h0 : key y ≤ 0) : key (xmul x' y) ≤ key (xmul x y) := by
 have := xmul_mono hx hx' (xneg_ok hy) h (by rw [key_xneg]; omega)
 rw [xmul_neg', xmul_neg', key_xneg, key_xneg] at this
 omega
def El (s : Sp) (x : X) : Prop := okx Dd x ∧ key s.lo ≤ key x ∧ key x ≤ key s.hi
theorem El_lo {s : Sp} (hs : oks C s) (he : emp s = false) : El s s.lo := ⟨hs.1.D, Int.le_refl _, by have := of_decide_eq_false he; omega⟩
theorem El_hi {s : Sp} (hs : oks C s) (he : emp s = false) : El s s.hi := ⟨hs.2.D, by have := of_decide_eq_false he; omega, Int.le_refl _⟩
theorem corner {s t : Sp} (hs : oks C s) (ht : oks C t) {x y : X} (hx : El s x) (hy : El t y) :
  (∃ cx cy, (cx = s.lo ∨ cx = s.hi) ∧ (cy = t.lo ∨ cy = t.hi) ∧ key (xmul cx cy) ≤ key (xmul x y)) ∧ (∃ cx cy, (cx = s.lo ∨ cx = s.hi) ∧ (cy = t.lo ∨ cy = t.hi) ∧ key (xmul x y) ≤ key (xmul cx cy)) := by
 have one : ∀ {s : Sp} {x y : X}, oks C s → El s x → okx Dd y → (∃ cx, (cx = s.lo ∨ cx = s.hi) ∧ key (xmul cx y) ≤ key (xmul x y)) ∧ (∃ cx, (cx = s.lo ∨ cx = s.hi) ∧ key (xmul x y) ≤ key (xmul cx y)) := by
  intro s x y hs hx hy
  by_cases h : 0 ≤ key y
  ·exact ⟨⟨_, .inl rfl, xmul_mono hs.1.D hx.1 hy hx.2.1 h⟩, ⟨_, .inr rfl, xmul_mono hx.1 hs.2.D hy hx.2.2 h⟩⟩
  ·exact ⟨⟨_, .inr rfl, xmul_anti hx.1 hs.2.D hy hx.2.2 (by omega)⟩, ⟨_, .inl rfl, xmul_anti hs.1.D hx.1 hy hx.2.1 (by omega)⟩⟩
 obtain ⟨⟨cx, c1, c2⟩, ⟨dx, d1, d2⟩⟩ := one hs hx hy.1
 have okc : ∀ {c : X}, (c = s.lo ∨ c = s.hi) → okx Dd c := fun h => by rcases h with rfl | rfl; exact hs.1.D; exact hs.2.D
 obtain ⟨⟨cy, e1, e2⟩, _⟩ := one ht hy (okc c1)
 obtain ⟨_, ⟨dy, f1, f2⟩⟩ := one ht hy (okc d1)
 rw [xmul_comm cy, xmul_comm y] at e2
 rw [xmul_comm dy, xmul_comm y] at f2
 exact ⟨⟨cx, cy, c1, e1, by omega⟩, ⟨dx, dy, d1, f1, by omega⟩⟩
theorem xmin_or (x y : X) : xmin x y = x ∨ xmin x y = y := by unfold xmin; split; exact .inr rfl; exact .inl rfl
theorem xmax_or (x y : X) : xmax x y = x ∨ xmax x y = y := by unfold xmax; split; exact .inr rfl; exact .inl rfl
theorem apS_ends {o : X → X → X} {s t : Sp} (hs : emp s = false) (ht : emp t = false) :
  ((∃ x y, (x = s.lo ∨ x = s.hi) ∧ (y = t.lo ∨ y = t.hi) ∧ (apS o s t).lo = o x y) ∧ (∀ x y, (x = s.lo ∨ x = s.hi) → (y = t.lo ∨ y = t.hi) → key (apS o s t).lo ≤ key (o x y))) ∧
  ((∃ x y, (x = s.lo ∨ x = s.hi) ∧ (y = t.lo ∨ y = t.hi) ∧ (apS o s t).hi = o x y) ∧ (∀ x y, (x = s.lo ∨ x = s.hi) → (y = t.lo ∨ y = t.hi) → key (o x y) ≤ key (apS o s t).hi)) := by
 have e : apS o s t = ⟨xmin (xmin (xmin (o s.lo t.lo) (o s.lo t.hi)) (o s.hi t.lo)) (o s.hi t.hi), xmax (xmax (xmax (o s.lo t.lo) (o s.lo t.hi)) (o s.hi t.lo)) (o s.hi t.hi)⟩ := by
  unfold apS
  rw [if_neg (by simp [hs]), if_neg (by simp [ht]), non_hull, hullNE (emp_one _) (emp_one _)]
  have e1 := emp_one (o s.lo t.lo)
  have e2 := emp_one (o s.lo t.hi)
  have e3 := emp_one (o s.hi t.lo)
  have e4 := emp_one (o s.hi t.hi)
  have n1 := hull_emp e1 e2
  rw [hullNE e1 e2] at n1
  rw [hullNE n1 e3]
  have n2 := hull_emp n1 e3
  rw [hullNE n1 e3] at n2
  rw [hullNE n2 e4]
  rfl
 rw [e]
 refine ⟨⟨?_, ?_⟩, ⟨?_, ?_⟩⟩
 ·simp only
  rcases xmin_or (xmin (xmin (o s.lo t.lo) (o s.lo t.hi)) (o s.hi t.lo)) (o s.hi t.hi) with h | h <;> rw [h]
  ·rcases xmin_or (xmin (o s.lo t.lo) (o s.lo t.hi)) (o s.hi t.lo) with h | h <;> rw [h]
   ·rcases xmin_or (o s.lo t.lo) (o s.lo t.hi) with h | h <;> rw [h]
    ·exact ⟨_, _, .inl rfl, .inl rfl, rfl⟩
    ·exact ⟨_, _, .inl rfl, .inr rfl, rfl⟩
   ·exact ⟨_, _, .inr rfl, .inl rfl, rfl⟩
  ·exact ⟨_, _, .inr rfl, .inr rfl, rfl⟩
 ·intro x y hx hy
  simp only [key_min]
  rcases hx with rfl | rfl <;> rcases hy with rfl | rfl <;> omega
 ·simp only
  rcases xmax_or (xmax (xmax (o s.lo t.lo) (o s.lo t.hi)) (o s.hi t.lo)) (o s.hi t.hi) with h | h <;> rw [h]
  ·rcases xmax_or (xmax (o s.lo t.lo) (o s.lo t.hi)) (o s.hi t.lo) with h | h <;> rw [h]
   ·rcases xmax_or (o s.lo t.lo) (o s.lo t.hi) with h | h <;> rw [h]
    ·exact ⟨_, _, .inl rfl, .inl rfl, rfl⟩
    ·exact ⟨_, _, .inl rfl, .inr rfl, rfl⟩
   ·exact ⟨_, _, .inr rfl, .inl rfl, rfl⟩
  ·exact ⟨_, _, .inr rfl, .inr rfl, rfl⟩
 ·intro x y hx hy
  simp only [key_max]
  rcases hx with rfl | rfl <;> rcases hy with rfl | rfl <;> omega
end Go.N
namespace Go.N
open Go Go.Q Go.Rx
def pt (i : Nat) (s : Sp) : Sp := if i = 0 then negS s else if i = 1 then zerS s else posS s
def Qp (i k : Nat) (p q : Sp) : Sp := if i = 1 ∨ k = 1 then ⟨.fin 0, .fin 0⟩ else if i = 0 then (if k = 0 then ⟨xmul p.hi q.hi, xmul p.lo q.lo⟩ else ⟨xmul p.lo q.hi, xmul p.hi q.lo⟩) else (if k = 0 then ⟨xmul p.hi q.lo, xmul p.lo q.hi⟩ else ⟨xmul p.lo q.lo, xmul p.hi q.hi⟩)
theorem pt_ok {s : Sp} (h : oks C s) (i : Nat) : oks C (pt i s) := by
 unfold pt; split
 ·exact negS_ok h
 ·split
  ·exact zerS_ok h
  ·exact posS_ok h
theorem i3 {i : Nat} (h : i < 3) : i = 0 ∨ i = 1 ∨ i = 2 := by omega
theorem pt_keys {s : Sp} (h : oks C s) : (key (negS s).lo = key s.lo ∧ key (negS s).hi = min (key s.hi) (-1)) ∧ (key (zerS s).lo = max (key s.lo) 0 ∧ key (zerS s).hi = min (key s.hi) 0) ∧ (key (posS s).lo = max (key s.lo) 1 ∧ key (posS s).hi = key s.hi) := by
 have a := key_le h.K.1
 have b := key_le h.K.2
 have h1 : key (negS s).lo = max (key s.lo) (-K) := key_max s.lo .ni
 have h2 : key (negS s).hi = min (key s.hi) (-1) := key_min s.hi (.fin (-1))
 have h3 : key (zerS s).lo = max (key s.lo) 0 := key_max s.lo (.fin 0)
 have h4 : key (zerS s).hi = min (key s.hi) 0 := key_min s.hi (.fin 0)
 have h5 : key (posS s).lo = max (key s.lo) 1 := key_max s.lo (.fin 1)
 have h6 : key (posS s).hi = min (key s.hi) K := key_min s.hi .pi
 omega
theorem El_sub {s : Sp} (hs : oks C s) {i : Nat} {x : X} (h : El (pt i s) x) : El s x := by
 have k := pt_keys hs
 obtain ⟨h1, h2, h3⟩ := h
 refine ⟨h1, ?_, ?_⟩ <;> unfold pt at h2 h3 <;> split at h2 <;> (try split at h2) <;> simp_all <;> omega
theorem El_ne {s : Sp} {x : X} (h : El s x) : emp s = false := decide_eq_false (by have := h.2; omega)
theorem El_sign {s : Sp} (hs : oks C s) {x : X} : (El (pt 0 s) x → key x ≤ -1) ∧ (El (pt 1 s) x → key x = 0) ∧ (El (pt 2 s) x → 1 ≤ key x) := by
 have k := pt_keys hs
 refine ⟨fun h => ?_, fun h => ?_, fun h => ?_⟩
 ·have := h.2.2; simp only [pt, if_true] at this; omega
 ·have a := h.2.1
  have b := h.2.2
  simp only [pt, Nat.one_ne_zero, if_true, if_false] at a b; omega
 ·have := h.2.1
  simp only [pt, show ¬ (2 = 0) by omega, show ¬ (2 = 1) by omega, if_false] at this; omega
theorem cls {s : Sp} (hs : oks C s) {x : X} (h : El s x) : ∃ i, i < 3 ∧ El (pt i s) x := by
 have k := pt_keys hs
 obtain ⟨h1, h2, h3⟩ := h
 rcases Int.lt_trichotomy (key x) 0 with z | z | z
 ·exact ⟨0, by omega, h1, by simp only [pt, if_true]; omega, by simp only [pt, if_true]; omega⟩
 ·exact ⟨1, by omega, h1, by simp only [pt, Nat.one_ne_zero, if_true, if_false]; omega, by simp only [pt, Nat.one_ne_zero, if_true, if_false]; omega⟩
 ·exact ⟨2, by omega, h1, by simp only [pt, show ¬ (2 = 0) by omega, show ¬ (2 = 1) by omega, if_false]; omega, by simp only [pt, show ¬ (2 = 0) by omega, show ¬ (2 = 1) by omega, if_false]; omega⟩
theorem sg0 {x : X} (h : key x = 0) : sg x = 0 := (sg_key x).2.1.2 h
theorem key_mul0 {x y : X} (h : key x = 0 ∨ key y = 0) : xmul x y = .fin 0 := by
 unfold xmul
 rw [if_pos]
 rcases h with h | h
 ·rw [sg0 h, Int.zero_mul]
 ·rw [sg0 h, Int.mul_zero]
theorem upr {x y y' : X} (hx : okx Dd x) (hy : okx Dd y) (hy' : okx Dd y') (h : key y ≤ key y') (h0 : 0 ≤ key x) : key (xmul x y) ≤ key (xmul x y') := by rw [xmul_comm x y, xmul_comm x y']; exact xmul_mono hy hy' hx h h0
theorem dnr {x y y' : X} (hx : okx Dd x) (hy : okx Dd y) (hy' : okx Dd y') (h : key y ≤ key y') (h0 : key x ≤ 0) : key (xmul x y') ≤ key (xmul x y) := by rw [xmul_comm x y, xmul_comm x y']; exact xmul_anti hy hy' hx h h0
theorem Qp_in {s t : Sp} (hs : oks C s) (ht : oks C t) {i k : Nat} (hi : i < 3) (hk : k < 3) {x y : X} (hx : El (pt i s) x) (hy : El (pt k t) y) :
  key (Qp i k (pt i s) (pt k t)).lo ≤ key (xmul x y) ∧ key (xmul x y) ≤ key (Qp i k (pt i s) (pt k t)).hi := by
 have ps := pt_ok hs i
 have qs := pt_ok ht k
 have pe := El_ne hx
 have qe := El_ne hy
 have a := El_lo ps pe
 have b := El_hi ps pe
 have c := El_lo qs qe
 have d := El_hi qs qe
 have S := @El_sign s hs
 have T := @El_sign t ht
 rcases i3 hi with rfl | rfl | rfl
 ·have sx := S.1 hx
  have sa := S.1 a
  have sb := S.1 b
  rcases i3 hk with rfl | rfl | rfl
  ·have sy := T.1 hy
   have sc := T.1 c
   have sd := T.1 d
   simp only [Qp, Nat.zero_ne_one, or_self, if_false, if_true]
   exact ⟨Int.le_trans (xmul_anti hx.1 b.1 d.1 hx.2.2 (by omega)) (dnr hx.1 hy.1 d.1 hy.2.2 (by omega)), Int.le_trans (xmul_anti a.1 hx.1 hy.1 hx.2.1 (by omega)) (dnr a.1 c.1 hy.1 hy.2.1 (by omega))⟩
  ·have sy := T.2.1 hy
   simp only [Qp, or_true, if_true]
   rw [key_mul0 (.inr sy)]; exact ⟨Int.le_refl _, Int.le_refl _⟩
  ·have sy := T.2.2 hy
   have sc := T.2.2 c
   have sd := T.2.2 d
   simp only [Qp, Nat.zero_ne_one, show ¬ (2 = 1) by omega, show ¬ (2 = 0) by omega, or_self, if_false, if_true]
   exact ⟨Int.le_trans (dnr a.1 hy.1 d.1 hy.2.2 (by omega)) (xmul_mono a.1 hx.1 hy.1 hx.2.1 (by omega)), Int.le_trans (xmul_mono hx.1 b.1 hy.1 hx.2.2 (by omega)) (dnr b.1 c.1 hy.1 hy.2.1 (by omega))⟩
 ·have sx := S.2.1 hx
  simp only [Qp, true_or, if_true]
  rw [key_mul0 (.inl sx)]; exact ⟨Int.le_refl _, Int.le_refl _⟩
 ·have sx := S.2.2 hx
  have sa := S.2.2 a
  have sb := S.2.2 b
  rcases i3 hk with rfl | rfl | rfl
  ·have sy := T.1 hy
   have sc := T.1 c
   have sd := T.1 d
   simp only [Qp, Nat.zero_ne_one, show ¬ (2 = 1) by omega, show ¬ (2 = 0) by omega, or_self, if_false, if_true]
   exact ⟨Int.le_trans (xmul_anti hx.1 b.1 c.1 hx.2.2 (by omega)) (upr hx.1 c.1 hy.1 hy.2.1 (by omega)), Int.le_trans (xmul_anti a.1 hx.1 hy.1 hx.2.1 (by omega)) (upr a.1 hy.1 d.1 hy.2.2 (by omega))⟩
  ·have sy := T.2.1 hy
   simp only [Qp, or_true, if_true]
   rw [key_mul0 (.inr sy)]; exact ⟨Int.le_refl _, Int.le_refl _⟩
  ·have sy := T.2.2 hy
   have sc := T.2.2 c
   have sd := T.2.2 d
   simp only [Qp, show ¬ (2 = 1) by omega, show ¬ (2 = 0) by omega, or_self, if_false]
   exact ⟨Int.le_trans (xmul_mono a.1 hx.1 c.1 hx.2.1 (by omega)) (upr hx.1 c.1 hy.1 hy.2.1 (by omega)), Int.le_trans (xmul_mono hx.1 b.1 hy.1 hx.2.2 (by omega)) (upr b.1 hy.1 d.1 hy.2.2 (by omega))⟩
theorem Qp_ends {s t : Sp} (hs : oks C s) (ht : oks C t) {i k : Nat} (hi : i < 3) (hk : k < 3) (ei : emp (pt i s) = false) (ek : emp (pt k t) = false) :
  (∃ x y, El (pt i s) x ∧ El (pt k t) y ∧ (Qp i k (pt i s) (pt k t)).lo = xmul x y) ∧ (∃ x y, El (pt i s) x ∧ El (pt k t) y ∧ (Qp i k (pt i s) (pt k t)).hi = xmul x y) := by
 have a := El_lo (pt_ok hs i) ei
 have b := El_hi (pt_ok hs i) ei
 have c := El_lo (pt_ok ht k) ek
 have d := El_hi (pt_ok ht k) ek
 by_cases z : i = 1 ∨ k = 1
 ·have e : xmul (pt i s).lo (pt k t).lo = .fin 0 := by
   apply key_mul0
   rcases z with rfl | rfl
   ·exact .inl ((El_sign hs).2.1 a)
   ·exact .inr ((El_sign ht).2.1 c)
  simp only [Qp, if_pos z]
  exact ⟨⟨_, _, a, c, e.symm⟩, ⟨_, _, a, c, e.symm⟩⟩
 ·unfold Qp
  rw [if_neg z]
  split <;> split
  ·exact ⟨⟨_, _, b, d, rfl⟩, ⟨_, _, a, c, rfl⟩⟩
  ·exact ⟨⟨_, _, a, d, rfl⟩, ⟨_, _, b, c, rfl⟩⟩
  ·exact ⟨⟨_, _, b, c, rfl⟩, ⟨_, _, a, d, rfl⟩⟩
  ·exact ⟨⟨_, _, a, c, rfl⟩, ⟨_, _, b, d, rfl⟩⟩
theorem Qp_ok {s t : Sp} (hs : oks C s) (ht : oks C t) (i k : Nat) : oks K (Qp i k (pt i s) (pt k t)) := by
 have hK := K_gt
 have p := pt_ok hs i
 have q := pt_ok ht k
 have z : okx K (.fin 0) := by simp only [okx]; omega
 unfold Qp
 split
 ·exact ⟨z, z⟩
 ·split <;> split
  ·exact ⟨xmul_ok p.2 q.2, xmul_ok p.1 q.1⟩
  ·exact ⟨xmul_ok p.1 q.2, xmul_ok p.2 q.1⟩
  ·exact ⟨xmul_ok p.2 q.1, xmul_ok p.1 q.2⟩
  ·exact ⟨xmul_ok p.1 q.1, xmul_ok p.2 q.2⟩
section
variable {s t : Sp} (hs : oks C s) (ht : oks C t) (es : emp s = false) (et : emp t = false) (ps : Pr s) (pt' : Pr t)
include hs ht es et
theorem corner_ok {x y : X} (hx : x = s.lo ∨ x = s.hi) (hy : y = t.lo ∨ y = t.hi) : El s x ∧ El t y := by
 constructor
 ·rcases hx with rfl | rfl
  ·exact El_lo hs es
  ·exact El_hi hs es
 ·rcases hy with rfl | rfl
  ·exact El_lo ht et
  ·exact El_hi ht et
theorem F1 {i k : Nat} (hi : i < 3) (hk : k < 3) (ei : emp (pt i s) = false) (ek : emp (pt k t) = false) :
  key (apS xmul s t).lo ≤ key (Qp i k (pt i s) (pt k t)).lo ∧ key (Qp i k (pt i s) (pt k t)).hi ≤ key (apS xmul s t).hi := by
 obtain ⟨⟨x, y, hx, hy, e⟩, ⟨x', y', hx', hy', e'⟩⟩ := Qp_ends hs ht hi hk ei ek
 have en := apS_ends (o := xmul) es et
 obtain ⟨⟨cx, cy, c1, c2, c3⟩, _⟩ := corner hs ht (El_sub hs hx) (El_sub ht hy)
 obtain ⟨_, ⟨dx, dy, d1, d2, d3⟩⟩ := corner hs ht (El_sub hs hx') (El_sub ht hy')
 have a := en.1.2 cx cy c1 c2
 have b := en.2.2 dx dy d1 d2
 rw [e, e']
 omega
theorem F2 : (∃ i k, i < 3 ∧ k < 3 ∧ emp (pt i s) = false ∧ emp (pt k t) = false ∧ (Qp i k (pt i s) (pt k t)).lo = (apS xmul s t).lo) ∧
  (∃ i k, i < 3 ∧ k < 3 ∧ emp (pt i s) = false ∧ emp (pt k t) = false ∧ (Qp i k (pt i s) (pt k t)).hi = (apS xmul s t).hi) := by
 have en := apS_ends (o := xmul) es et
 have ok := mulS_ok hs ht
 constructor
 ·obtain ⟨cx, cy, c1, c2, c3⟩ := en.1.1
  have co := corner_ok hs ht es et c1 c2
  obtain ⟨i, hi, xi⟩ := cls hs co.1
  obtain ⟨k, hk, yk⟩ := cls ht co.2
  have ei := El_ne xi
  have ek := El_ne yk
  have q := Qp_in hs ht hi hk xi yk
  have f := F1 hs ht es et hi hk ei ek
  refine ⟨i, k, hi, hk, ei, ek, key_inj (Qp_ok hs ht i k).1 ok.1 ?_⟩
  rw [← c3] at q
  omega
 ·obtain ⟨cx, cy, c1, c2, c3⟩ := en.2.1
  have co := corner_ok hs ht es et c1 c2
  obtain ⟨i, hi, xi⟩ := cls hs co.1
  obtain ⟨k, hk, yk⟩ := cls ht co.2
  have ei := El_ne xi
  have ek := El_ne yk
  have q := Qp_in hs ht hi hk xi yk
  have f := F1 hs ht es et hi hk ei ek
  refine ⟨i, k, hi, hk, ei, ek, key_inj (Qp_ok hs ht i k).2 ok.2 ?_⟩
  rw [← c3] at q
  omega
end
section
variable {s t : Sp} (hs : oks C s) (ht : oks C t) (es : emp s = false) (et : emp t = false) (ps : Pr s) (pt' : Pr t)
include hs ht es et ps pt'
end
section
variable {s t : Sp} (hs : oks C s) (ht : oks C t) (es : emp s = false) (et : emp t = false) (ps : Pr s) (pt' : Pr t)
include hs ht es et ps pt'
end
end Go.N
namespace Go.N
open Go Go.Q Go.Rx
def pp (i : Nat) (s : Sp) : Sp := if i = 0 then ⟨xneg (negS s).hi, xneg (negS s).lo⟩ else posS s
section
variable (lf : Nat) (h3 : 200000 ≤ lf) {s t : Sp} (hs : oks C s) (ht : oks C t) (ps : Pr s) (pt' : Pr t)
include h3 hs ht ps pt'
def sv (s : Sp) : List IV := [ac (toA (negS s)), ac (toA (zerS s)), ac (toA (posS s))]
end
end Go.N
namespace Go.N
open Go Go.Q Go.Rx
theorem inS_iff {s : Sp} {z : Int} : inS s z = true ↔ key s.lo ≤ z ∧ z ≤ key s.hi := by unfold inS; simp
section
variable {s t : Sp} (hs : oks C s) (ht : oks C t) {x y : Int} (bx : -Dd < x ∧ x < Dd) (by' : -Dd < y ∧ y < Dd) (hx : inS s x = true) (hy : inS t y = true)
include hs ht bx by' hx hy
end
section
variable {s t : Sp} (hs : oks C s) (ht : oks C t) (ps : Pr s) (pt' : Pr t) {x y : Int} (bx : -Dd < x ∧ x < Dd) (by' : -Dd < y ∧ y < Dd) (hx : inS s x = true) (hy : inS t y = true)
include hs ht ps pt' bx by' hx hy
end
end Go.N
namespace Go.N
open Go Go.Q Go.Rx
section
variable {a b : A} (ha : Wf a) (hb : Wf b)
include ha hb
theorem common_w : Wf (toA (common (ofA a) (ofA b))) := by
 have hK := K_gt
 have k1 : key (common (ofA a) (ofA b)).lo = max (key (ofA a).lo) (key (ofA b).lo) := key_max _ _
 have k2 : key (common (ofA a) (ofA b)).hi = min (key (ofA a).hi) (key (ofA b).hi) := key_min _ _
 have ka := ha.ks.keys
 have kb := hb.ks.keys
 exact toA_wf' (common_ok ha.okK hb.okK) (by intro h; rw [k1, k2] at *; omega)
end
end Go.N
namespace Go.N
open Go Go.Q Go.Rx
namespace WfV
variable {v : Vl} (h : WfV v)
include h
theorem em : v.a.em = v.c.em := by
 have r := h.red
 unfold Go.N.red at r
 cases e1 : v.a.em with
 | true =>
  rw [if_pos e1] at r
  rw [← r]; rfl
 | false => cases e2 : v.c.em with
  | false => rfl
  | true =>
   rw [if_neg (by simp [e1]), if_pos e2] at r
   rw [← r] at e1; simp [Ev, E0] at e1
theorem ev (e : v.a.em = true) : v = Ev := by
 have r := h.red
 unfold Go.N.red at r
 rw [if_pos e] at r
 exact r.symm
theorem one (e : v.a.em = false) (m : v.c.m = 0) : v = onev v.c.r ∧ inS (ofA v.a) v.c.r = true := by
 have r := h.red
 have e2 : v.c.em = false := by rw [← h.em, e]
 unfold Go.N.red at r
 rw [if_neg (by simp [e]), if_neg (by simp [e2]), if_pos m] at r
 split at r
 ·exact ⟨r.symm, by assumption⟩
 ·rw [← r] at e; simp [Ev, E0] at e
theorem fin (e : v.a.em = false) (m : v.c.m ≠ 0) : fin3 (v.a.lo.map (loC v.c)) (v.a.hi.map (hiC v.c)) v.c = v := by
 have r := h.red
 have e2 : v.c.em = false := by rw [← h.em, e]
 unfold Go.N.red at r
 rwa [if_neg (by simp [e]), if_neg (by simp [e2]), if_neg m] at r
theorem bnd (e : v.a.em = false) : (∀ l, v.a.lo = some l → inC v.c l = true) ∧ ∀ l, v.a.hi = some l → inC v.c l = true := by
 have e2 : v.c.em = false := by rw [← h.em, e]
 by_cases m : v.c.m = 0
 ·obtain ⟨o, i⟩ := h.one e m
  have hs : inC v.c v.c.r = true := (in_iff e2 h.c.pos).2 (by simp)
  constructor
  ·intro l hl
   rw [o] at hl; cases hl; exact hs
  ·intro l hl
   rw [o] at hl; cases hl; exact hs
 ·have p : 0 < v.c.m := by have := h.c.pos; omega
  have f := h.fin e m
  have ck := h.a
  have lo := ck.lo
  have hi := ck.hi
  revert f lo hi
  cases hl : v.a.lo with
  | none => cases hh : v.a.hi with
   | none => intro _ _ _; exact ⟨nofun, nofun⟩
   | some u =>
    intro f lo hi
    have f2 := congrArg (fun x => x.a.hi) f
    simp only [Option.map, fin3, Option.bind, hh] at f2
    have hu : hiC v.c u = u := by
     unfold clip at f2; split at f2
     ·exact Option.some.inj f2
     ·cases f2
    exact ⟨nofun, fun l x => by cases x; exact (in_iff e2 h.c.pos).2 (by have := hi_in p u; rwa [hu] at this)⟩
  | some l => cases hh : v.a.hi with
   | none =>
    intro f lo hi
    have f2 := congrArg (fun x => x.a.lo) f
    simp only [Option.map, fin3, Option.bind, hl] at f2
    have hu : loC v.c l = l := by
     unfold clip at f2; split at f2
     ·exact Option.some.inj f2
     ·cases f2
    exact ⟨fun l x => (by cases x; exact (in_iff e2 h.c.pos).2 (by have := lo_in p l; rwa [hu] at this)), nofun⟩
   | some u =>
    intro f lo hi
    simp only [Option.map, fin3] at f
    split at f
    ·rw [← f] at e; simp [Ev, E0] at e
    ·split at f
     ·rw [← f] at m; simp [onev] at m
     ·have f1 := congrArg (fun x => x.a.lo) f
      have f2 := congrArg (fun x => x.a.hi) f
      simp only [hl, hh] at f1 f2
      have h1 : loC v.c l = l := by
       unfold clip at f1; split at f1
       ·exact Option.some.inj f1
       ·cases f1
      have h2 : hiC v.c u = u := by
       unfold clip at f2; split at f2
       ·exact Option.some.inj f2
       ·cases f2
      exact ⟨fun k x => (by cases x; exact (in_iff e2 h.c.pos).2 (by have := lo_in p l; rwa [h1] at this)), fun k x => (by cases x; exact (in_iff e2 h.c.pos).2 (by have := hi_in p u; rwa [h2] at this))⟩
end WfV
end Go.N
namespace Go.N
open Go Go.Q Go.Rx
noncomputable def metV (a b : Vl) : Vl := red (toA (common (ofA a.a) (ofA b.a))) (metC a.c b.c)
noncomputable def refV (op : Int) (a b : Vl) : Vl × Vl := if op = 2 then (metV a b, metV a b) else
 if (red (refA op a.a b.a).1 a.c).a.em = true then (Ev, Ev) else if (red (refA op a.a b.a).2 b.c).a.em = true then (Ev, Ev) else (red (refA op a.a b.a).1 a.c, red (refA op a.a b.a).2 b.c)
section
variable {a b : Vl} (ha : WfV a) (hb : WfV b)
include ha hb
theorem metV_V : WfV (metV a b) := red_V (common_w ha.a hb.a) (metC_wf ha.c hb.c)
theorem refV_V {op : Int} (ho : op = 2 ∨ op = 3 ∨ op = 4 ∨ op = 5) : WfV (refV op a b).1 ∧ WfV (refV op a b).2 := by
 unfold refV
 split
 ·exact ⟨metV_V ha hb, metV_V ha hb⟩
 ·obtain ⟨w1, w2⟩ := refA_wf ha.a hb.a ho
  split
  ·exact ⟨Ev_V, Ev_V⟩
  ·split
   ·exact ⟨Ev_V, Ev_V⟩
   ·exact ⟨red_V w1 ha.c, red_V w2 hb.c⟩
end
theorem inV_2 {v : Vl} {z : Int} (h : inV v z = true) : inS (ofA v.a) z = true ∧ inC v.c z = true := by
 unfold inV at h; rwa [Bool.and_eq_true] at h
theorem inV_em {v : Vl} (h : WfV v) {z : Int} (hz : inV v z = true) : v.a.em = false := by
 rw [h.em]; exact inC_em (inV_2 hz).2
section
variable {a b : Vl} (ha : WfV a) (hb : WfV b)
include ha hb
theorem in_common {s t : Sp} {z : Int} : inS (common s t) z = true ↔ inS s z = true ∧ inS t z = true := by
 have k1 : key (common s t).lo = max (key s.lo) (key t.lo) := key_max _ _
 have k2 : key (common s t).hi = min (key s.hi) (key t.hi) := key_min _ _
 rw [inS_iff, inS_iff, inS_iff, k1, k2]; omega
theorem in_metV {z : Int} (hz : -K < z ∧ z < K) (h1 : inV a z = true) (h2 : inV b z = true) : inV (metV a b) z = true := by
 obtain ⟨h1, h3⟩ := inV_2 h1
 obtain ⟨h2, h4⟩ := inV_2 h2
 exact red_in (common_w ha.a hb.a) (metC_wf ha.c hb.c) hz (inS_toA (common_ok ha.a.okK hb.a.okK) hz ((in_common ha hb).2 ⟨h1, h2⟩)) (in_met ha.c hb.c h3 h4)
theorem in_refV {op u v : Int} (ho : op = 2 ∨ op = 3 ∨ op = 4 ∨ op = 5) (bu : -K < u ∧ u < K) (bv : -K < v ∧ v < K) (h1 : inV a u = true) (h2 : inV b v = true) (hc : holdsC op u v) :
  inV (refV op a b).1 u = true ∧ inV (refV op a b).2 v = true := by
 unfold refV
 by_cases e : op = 2
 ·rw [if_pos e]
  have : u = v := by unfold holdsC at hc; rwa [if_pos e] at hc
  subst this
  exact ⟨in_metV ha hb bu h1 h2, in_metV ha hb bu h1 h2⟩
 ·rw [if_neg e]
  obtain ⟨h1, h3⟩ := inV_2 h1
  obtain ⟨h2, h4⟩ := inV_2 h2
  obtain ⟨w1, w2⟩ := refA_wf ha.a hb.a ho
  obtain ⟨i1, i2⟩ := refA_in ha.a hb.a ho bu bv h1 h2 hc
  have r1 := red_in w1 ha.c bu i1 h3
  have r2 := red_in w2 hb.c bv i2 h4
  rw [if_neg (by simp [inV_em (red_V w1 ha.c) r1]), if_neg (by simp [inV_em (red_V w2 hb.c) r2])]
  exact ⟨r1, r2⟩
end
end Go.N
namespace Go.N
open Go Go.Q Go.Rx
abbrev tb (b : ByteArray) : Nat := b.data.toList.length
def SmV (x : VV) : Prop := tb x.1.2.1 ≤ 100000 ∧ tb x.1.2.2.1 ≤ 100000 ∧ tb x.2.1.2.1 ≤ 100000 ∧ tb x.2.1.2.2.1 ≤ 100000
theorem vv_beq (x y : VV) : (((x.1.1 == y.1.1) && ((x.1.2.1 == y.1.2.1) && ((x.1.2.2.1 == y.1.2.2.1) && true))) && (((x.2.1.1 == y.2.1.1) && ((x.2.1.2.1 == y.2.1.2.1) && ((x.2.1.2.2.1 == y.2.1.2.2.1) && true))) && true)) = decide (x = y) := by
 obtain ⟨⟨e1, l1, m1, ⟨⟩⟩, ⟨e2, l2, m2, ⟨⟩⟩, ⟨⟩⟩ := x
 obtain ⟨⟨f1, p1, q1, ⟨⟩⟩, ⟨f2, p2, q2, ⟨⟩⟩, ⟨⟩⟩ := y
 rw [Bool.eq_iff_iff]
 simp only [ba_beq, Bool.and_eq_true, beq_iff_eq, decide_eq_true_eq, Bool.and_true, Prod.mk.injEq, and_true]
theorem vc_wf {a : A} {c : Cg} (ha : Wf a) (hc : WfC c) (h : vc (red a c) = vc ⟨a, c⟩) : ∃ v, vc ⟨a, c⟩ = vc v ∧ WfV v := by
 simp only [vc, Prod.mk.injEq] at h
 have e1 := ac_inj h.1
 obtain ⟨e2, e3⟩ := cc_inj h.2.1
 cases ec : c.em with
 | true =>
  have hE : red a c = Ev := by
   unfold red
   by_cases e : a.em = true
   ·rw [if_pos e]
   ·rw [if_neg e, if_pos ec]
  refine ⟨Ev, ?_, Ev_V⟩
  rw [hE] at e1
  simp only [vc, ← e1]
  rw [cc_em ec]; rfl
 | false =>
  rw [ec] at e2
  refine ⟨⟨a, c⟩, rfl, ha, hc, ?_⟩
  have e4 := e3 e2
  show red a c = ⟨a, c⟩
  generalize red a c = r at *
  cases r; simp_all
section
variable (lf : Nat) (hb : Big lf)
include hb
theorem chkV {x : VV} (hx : SmV x) : ∃ n : Int, value_Check.f lf x = some (n, ()) ∧ surveyorref23_Check.f lf x = some (n, ()) ∧ (n = 0 → ∃ v, x = vc v ∧ WfV v) := by
 have hlf := hb.1
 have h3 : 200000 ≤ lf := by omega
 obtain ⟨⟨e1, l1, m1, ⟨⟩⟩, ⟨e2, l2, m2, ⟨⟩⟩, ⟨⟩⟩ := x
 obtain ⟨x1, x2, x3, x4⟩ := hx
 rw [← bs_eta l1, ← bs_eta m1, ← bs_eta l2, ← bs_eta m2]
 simp only [tb] at x1 x2 x3 x4
 revert x1 x2 x3 x4
 generalize l1.data.toList = l1
 generalize m1.data.toList = m1
 generalize l2.data.toList = l2
 generalize m2.data.toList = m2
 intro x1 x2 x3 x4
 have p1 := check_iv lf h3 e1 l1 m1 (by omega) (by omega)
 have p2 := check_ref lf h3 e1 l1 m1 (by omega) (by omega) (by omega) (by omega)
 have q1 := ckc_f lf h3 e2 l2 m2 (by omega) (by omega)
 have q2 := ckc_ref lf h3 e2 l2 m2 (by omega) (by omega) (by omega) (by omega)
 rw [value_Check.f, value_parts.f, surveyorref23_Check.f]
 simp only [p1, p2, bdS]
 by_cases k1 : ck e1 l1 m1 = 0
 ·rw [k1]
  simp only [bne_self_eq_false, brF, q1, q2, bdS]
  by_cases k2 : ckc e2 l2 m2 = 0
  ·obtain ⟨a, ea, ha⟩ := ck_wf k1
   obtain ⟨c, ec, hc⟩ := ckc_wf k2
   rw [k2]
   have r1 := vred_f lf hb ha hc
   have r2 := rred_f lf hb ha hc
   rw [← ea, ← ec] at r1 r2
   simp only [bne_self_eq_false, brF, r1, r2, bdS]
   have bq := vv_beq (vc (red a c)) ((e1, bs l1, bs m1, ()), (e2, bs l2, bs m2, ()), ())
   simp only at bq
   rw [bq, ea, ec]
   by_cases h : vc (red a c) = (ac a, cc c, ())
   ·rw [decide_eq_true h, Bool.not_true, brF]
    exact ⟨0, rfl, rfl, fun _ => vc_wf ha hc h⟩
   ·rw [decide_eq_false h, Bool.not_false, brT]
    exact ⟨3, rfl, rfl, nofun⟩
  ·simp only [bneT k2, brT]
   exact ⟨_, rfl, rfl, fun h => absurd h k2⟩
 ·simp only [bneT k1, brT, bdS]
  exact ⟨_, rfl, rfl, fun h => absurd h k1⟩
theorem chk2V {x y : VV} (hx : SmV x) (hy : SmV y) : ∃ n : Int, value_checks.f lf x y = some (n, ()) ∧ surveyorref23_Checks.f lf x y = some (n, ()) ∧ (n = 0 → ∃ v w, x = vc v ∧ y = vc w ∧ WfV v ∧ WfV w) := by
 obtain ⟨n, a1, a2, a3⟩ := chkV lf hb hx
 obtain ⟨m, b1, b2, b3⟩ := chkV lf hb hy
 rw [value_checks.f, surveyorref23_Checks.f, a1, a2, bdS, bdS]
 by_cases h : n = 0
 ·subst h
  simp only [bne_self_eq_false, brF, b1, b2, bdS]
  refine ⟨m, rfl, rfl, fun h => ?_⟩
  obtain ⟨v, e1, w1⟩ := a3 rfl
  obtain ⟨w, e2, w2⟩ := b3 h
  exact ⟨v, w, e1, e2, w1, w2⟩
 ·simp only [bneT h, brT]
  exact ⟨n, rfl, rfl, fun e => absurd e h⟩
theorem chk_wf {v : Vl} (h : WfV v) : value_Check.f lf (vc v) = some (0, ()) ∧ surveyorref23_Check.f lf (vc v) = some (0, ()) := by
 have hlf := hb.1
 have h3 : 200000 ≤ lf := by omega
 have p1 := check_wf lf h3 h.a
 have p2 := check_wf_ref lf h3 h.a
 have q1 := ccheck lf hb h.c
 have q2 := rcheck lf hb h.c
 have r1 := vred_f lf hb h.a h.c
 have r2 := rred_f lf hb h.a h.c
 rw [h.red] at r1 r2
 have bq := vv_beq (vc v) (vc v)
 rw [decide_eq_true rfl] at bq
 constructor
 ·rw [value_Check.f, value_parts.f]
  simp only [show (vc v).1 = ac v.a from rfl, show (vc v).2.1 = cc v.c from rfl] at bq ⊢
  simp only [p1, q1, r1, bdS, bne_self_eq_false, brF]
  simp only [show (vc v).1 = ac v.a from rfl, show (vc v).2.1 = cc v.c from rfl, bq, Bool.not_true, brF]
 ·rw [surveyorref23_Check.f]
  simp only [show (vc v).1 = ac v.a from rfl, show (vc v).2.1 = cc v.c from rfl] at bq ⊢
  simp only [p2, q2, r2, bdS, bne_self_eq_false, brF]
  simp only [show (vc v).1 = ac v.a from rfl, show (vc v).2.1 = cc v.c from rfl, bq, Bool.not_true, brF]
theorem chk2_wf {v w : Vl} (h : WfV v) (k : WfV w) : value_checks.f lf (vc v) (vc w) = some (0, ()) ∧ surveyorref23_Checks.f lf (vc v) (vc w) = some (0, ()) := by
 rw [value_checks.f, surveyorref23_Checks.f, (chk_wf lf hb h).1, (chk_wf lf hb h).2, bdS, bdS]
 simp only [bne_self_eq_false, brF, (chk_wf lf hb k).1, (chk_wf lf hb k).2, bdS]
 exact ⟨trivial, trivial⟩
end
end Go.N
namespace Go.N
open Go Go.Q Go.Rx
section
variable (lf : Nat) (hb : Big lf) {v w : Vl} (hv : WfV v) (hw : WfV w)
include hb hv hw
theorem metV_f : value_Meet.f lf (vc v) (vc w) = some (vc (metV v w), 0, ()) := by
 have h3 : 200000 ≤ lf := by have := hb.1; omega
 rw [value_Meet.f, (chk2_wf lf hb hv hw).1, bdS]
 simp only [bne_self_eq_false, brF]
 simp only [show (vc v).1 = ac v.a from rfl, show (vc v).2.1 = cc v.c from rfl, show (vc w).1 = ac w.a from rfl, show (vc w).2.1 = cc w.c from rfl, meet_f lf h3 hv.a hw.a, meet_c lf hb hv.c hw.c, bdS, bne_self_eq_false, brF, vred_f lf hb (common_w hv.a hw.a) (metC_wf hv.c hw.c)]
 rfl
end
section
variable (lf : Nat) (hb : Big lf) {v : Vl} (hv : WfV v)
include hb hv
end
section
variable (lf : Nat) (hb : Big lf) {x y : VV} (hx : SmV x) (hy : SmV y)
include hb hx hy
end
end Go.N
namespace Go.N
open Go Go.Q Go.Rx
section
variable (lf : Nat) (hb : Big lf)
include hb
theorem holdsV_f {v : Vl} (hv : WfV v) {z : Int} (hz : -Dd < z ∧ z < Dd) : value_Holds.f lf (vc v) (bs (Lib.itoa z)) = some (inV v z, 0, ()) := by
 have h3 : 200000 ≤ lf := by have := hb.1; omega
 have hk : -K < z ∧ z < K := by have := Dd_K; omega
 rw [value_Holds.f, (chk_wf lf hb hv).1, bdS]
 simp only [bne_self_eq_false, brF]
 simp only [show (vc v).1 = ac v.a from rfl, show (vc v).2.1 = cc v.c from rfl, holds_wf lf h3 hv.a hk, holds_c lf hb hv.c hk, bdS, bne_self_eq_false, brF]
 unfold inV
 cases inS (ofA v.a) z with
 | false => simp only [brF, Bool.false_and]
 | true =>
  cases inC v.c z with
  | false => simp only [brT, brF, Bool.true_and]
  | true => simp only [brT, BEq.rfl, Bool.true_and]
theorem inV_r {v : Vl} (hv : WfV v) {z : Int} (hz : -Dd < z ∧ z < Dd) : surveyorref23_In.f lf (vc v) (bs (Lib.itoa z)) = some (inV v z, ()) := by
 have h3 : 200000 ≤ lf := by have := hb.1; omega
 have hk : -K < z ∧ z < K := by have := Dd_K; omega
 rw [surveyorref23_In.f]
 simp only [show (vc v).1 = ac v.a from rfl, show (vc v).2.1 = cc v.c from rfl, in_ref lf h3 hv.a hk, in_r lf hb hv.c hz, bdS]
 unfold inV
 cases inS (ofA v.a) z <;> simp only [brT, brF, Bool.true_and, Bool.false_and]
theorem num_Dd {l : List UInt8} (h : chk l = 0) (hl : l.length ≤ 1000) : ∃ z : Int, l = Lib.itoa z ∧ -Dd < z ∧ z < Dd := by
 have e := itoa_iv (chk_zero.1 h).1
 refine ⟨iv l, e, (sz_Dd _).1 ?_⟩
 have := nlen_le l
 unfold sz
 rw [← e]; omega
end
end Go.N
namespace Go.N
open Go Go.Q Go.Rx
section
variable (lf : Nat) (hb : Big lf) {v w : Vl} (hv : WfV v) (hw : WfV w)
include hb hv hw
theorem refV_f {op : Int} (ho : op = 2 ∨ op = 3 ∨ op = 4 ∨ op = 5) : value_Refine.f lf op (vc v) (vc w) = some (vc (refV op v w).1, vc (refV op v w).2, 0, ()) := by
 have h3 : 200000 ≤ lf := by have := hb.1; omega
 rw [value_Refine.f, decide_eq_false (by omega), brF, decide_eq_false (by omega), brF, (chk2_wf lf hb hv hw).1, bdS]
 simp only [bne_self_eq_false, brF]
 unfold refV
 by_cases h2 : op = 2
 ·have : (op == 2) = true := by simp [h2]
  rw [this, brT, if_pos h2, metV_f lf hb hv hw, bdS]
 ·have : (op == 2) = false := by simp [h2]
  obtain ⟨w1, w2⟩ := refA_wf hv.a hw.a ho
  rw [this, brF, if_neg h2]
  simp only [show (vc v).1 = ac v.a from rfl, show (vc v).2.1 = cc v.c from rfl, show (vc w).1 = ac w.a from rfl, show (vc w).2.1 = cc w.c from rfl, refine_f lf h3 hv.a hw.a op ho, bdS, bne_self_eq_false, brF, vred_f lf hb w1 hv.c, vred_f lf hb w2 hw.c, value_empty.f, evV]
  have em : ∀ x : Vl, (vc x).1.1 = x.a.em := fun _ => rfl
  simp only [em]
  cases e1 : (red (refA op v.a w.a).1 v.c).a.em with
  | true => simp only [brT, if_true]
  | false =>
   cases e2 : (red (refA op v.a w.a).2 w.c).a.em with
   | true => simp only [brT, brF, if_true, if_false, Bool.false_eq_true]
   | false => simp only [brF, if_false, Bool.false_eq_true]
end
end Go.N
namespace Go.N
open Go Go.Q Go.Rx
theorem few22_f (lf : Nat) (x : IV) : ∃ b, surveyorref22_Few.f lf x = some (b, ()) ∧ (b = true → tb x.2.1 ≤ 100000 ∧ tb x.2.2.1 ≤ 100000) := by
 rw [surveyorref22_Few.f]
 simp only [surveyorref01_Few.f, bdS]
 by_cases h : ((x.2.1.size : Nat) : Int) ≤ 250
 ·rw [decide_eq_true h, brT]
  refine ⟨_, rfl, fun k => ?_⟩
  have k := of_decide_eq_true k
  rw [Lib.size_eq] at h k
  exact ⟨by simp only [tb]; omega, by simp only [tb]; omega⟩
 ·rw [decide_eq_false h, brF]
  exact ⟨_, rfl, nofun⟩
theorem few21_f (lf : Nat) (x y : IV) : ∃ b, surveyorref21_Few.f lf x y = some (b, ()) ∧ (b = true → (tb x.2.1 ≤ 100000 ∧ tb x.2.2.1 ≤ 100000) ∧ (tb y.2.1 ≤ 100000 ∧ tb y.2.2.1 ≤ 100000)) := by
 rw [surveyorref21_Few.f]
 by_cases h1 : ((x.2.1.size : Nat) : Int) ≤ 450
 ·rw [decide_eq_true h1, brT]
  by_cases h2 : ((x.2.2.1.size : Nat) : Int) ≤ 450
  ·rw [decide_eq_true h2, brT]
   by_cases h3 : ((y.2.1.size : Nat) : Int) ≤ 450
   ·rw [decide_eq_true h3, brT]
    refine ⟨_, rfl, fun k => ?_⟩
    have k := of_decide_eq_true k
    rw [Lib.size_eq] at h1 h2 h3 k
    exact ⟨⟨by simp only [tb]; omega, by simp only [tb]; omega⟩, by simp only [tb]; omega, by simp only [tb]; omega⟩
   ·rw [decide_eq_false h3, brF]; exact ⟨_, rfl, nofun⟩
  ·rw [decide_eq_false h2, brF]; exact ⟨_, rfl, nofun⟩
 ·rw [decide_eq_false h1, brF]; exact ⟨_, rfl, nofun⟩
theorem fewV_f (lf : Nat) (x y : VV) : ∃ b, surveyorref23_Few.f lf x y = some (b, ()) ∧ (b = true → SmV x ∧ SmV y) := by
 obtain ⟨a, a1, a2⟩ := few21_f lf x.1 y.1
 obtain ⟨b, b1, b2⟩ := few22_f lf x.2.1
 obtain ⟨c, c1, c2⟩ := few22_f lf y.2.1
 rw [surveyorref23_Few.f, a1, bdS]
 cases a with
 | false => simp only [brF]; exact ⟨_, rfl, nofun⟩
 | true =>
  simp only [brT, b1, bdS]
  cases b with
  | false => simp only [brF]; exact ⟨_, rfl, nofun⟩
  | true =>
   simp only [brT, c1, bdS]
   refine ⟨_, rfl, fun k => ?_⟩
   obtain ⟨q1, q2⟩ := a2 rfl
   have q3 := b2 rfl
   have q4 := c2 k
   exact ⟨⟨q1.1, q1.2, q3.1, q3.2⟩, q2.1, q2.2, q4.1, q4.2⟩
theorem bigN (n : Nat) : ∃ lf, Big lf ∧ n ≤ lf := ⟨2000000000 + K.toNat + n, ⟨by omega, by omega⟩, by omega⟩
theorem bigE : ∃ lf, Big lf := ⟨_, (bigN 0).choose_spec.1⟩
end Go.N
namespace Go.N
open Go Go.Q
theorem awakeV (lf : Nat) : surveyorlaw23_awake.f lf = some (true, ()) := by kernel_rfl
end Go.N
namespace Go.Q
open Go Go.RowKit Go.ChangeShapes Go.WideShapes
def flat : Ty → Bool
 | .sl _ => false
 | .pair a b => flat a && flat b
 | _ => true
def partsOf (P : Program) (t : TypeId) : List (TypeId × Nat) := match P.underlying t with
 | some (.struct fs) => fs.toList.map fun f => (f.type, f.offset)
 | some (.array n e) => (List.range n).map fun i => (e, i * P.cellsOf e)
 | _ => []
mutual
def fitT (P : Program) : Ty → TypeId → Bool
 | .int k, t => match P.underlying t with
  | some (.int k') => decide (k' = k)
  | _ => false
 | .bool, t => match P.underlying t with
  | some .bool => true
  | _ => false
 | .str, t => match P.underlying t with
  | some .string => true
  | _ => false
 | .unit, _ => false
 | .nul, _ => false
 | .pair a b, t => match partsOf P t with
  | p :: r => p.2 == 0 && (fitT P a p.1 && (P.cellsOf p.1 == a.n && (fitL P b r a.n && P.cellsOf t == a.n + b.n)))
  | [] => false
 | .sl e, t => match P.underlying t with
  | some (.slice e') => fitT P e e' && (flat e && P.cellsOf e' == e.n)
  | _ => false
def fitL (P : Program) : Ty → List (TypeId × Nat) → Nat → Bool
 | .unit, l, _ => match l with
  | [] => true
  | _ => false
 | .pair a b, l, k => match l with
  | p :: r => p.2 == k && (fitT P a p.1 && (P.cellsOf p.1 == a.n && fitL P b r (k + a.n)))
  | [] => false
 | _, _, _ => false
end
def Bnd : (T : Ty) → T.α → Prop
 | .int k, x => k.min ≤ x ∧ x ≤ k.max
 | .str, x => x.size ≤ 9223372036854775807
 | .pair a b, x => Bnd a x.1 ∧ Bnd b x.2
 | .sl e, l => l.length ≤ 9223372036854775807 ∧ ∀ y ∈ l, Bnd e y
 | _, _ => True
def Bnds : (ps : List Ty) → Tys ps → Prop
 | [], _ => True
 | t :: ts, x => Bnd t x.1 ∧ Bnds ts x.2
section
variable {H : Type} {enc : TypeId × Value → H} {P : Program} {w : World} {F : Nat → Prop} {sp : Nat → Bool} {held : Bool}
theorem trod_parts {t : TypeId} {fuel : Nat} {cs : List Value} {x : DataW H × List MemPlace} (hp : partsOf P t ≠ []) (h : DataW.trod enc P w 0 sp held fuel t cs = some x) :
  cs.length = P.cellsOf t ∧ ∃ n, ∀ p ∈ partsOf P t, ∃ y, DataW.trod enc P w 0 sp held n p.1 ((cs.drop p.2).take (P.cellsOf p.1)) = some y := by
 unfold partsOf at hp ⊢
 split at hp
 ·rename_i fs hu
  obtain ⟨xs, n, _, _, hl, hxl, hf⟩ := DataW.trod_struct hu h
  refine ⟨hl, n, fun p hm => ?_⟩
  simp only [List.mem_map] at hm
  obtain ⟨f, hfm, rfl⟩ := hm
  obtain ⟨i, hi, he⟩ := List.mem_iff_getElem.1 hfm
  have h1 : fs[i]? = some f := by
   have : fs.toList[i]? = some f := by rw [List.getElem?_eq_getElem hi, he]
   simpa using this
  have h2 : i < xs.length := by
   rw [hxl]; simpa using hi
  exact ⟨xs[i], by rw [hf i f h1, List.getElem?_eq_getElem h2]⟩
 ·rename_i n e hu
  obtain ⟨xs, m, _, _, hl, hxl, hf⟩ := DataW.trod_array hu h
  refine ⟨hl, m, fun p hm => ?_⟩
  simp only [List.mem_map, List.mem_range] at hm
  obtain ⟨i, hi, rfl⟩ := hm
  exact ⟨xs[i], by rw [hf i hi, List.getElem?_eq_getElem (by omega)]⟩
 ·exact absurd rfl hp
mutual
theorem dr_flat : ∀ (T : Ty) (t : TypeId) (cs : List Value) (x : DataW H × List MemPlace) (fuel : Nat), flat T = true → fitT P T t = true → DataW.trod enc P w 0 sp held fuel t cs = some x → ∃ y : T.α, DR F w T y cs ∧ Bnd T y
 | .int k, t, cs, x, fuel, _, hf, h => by
  unfold fitT at hf
  split at hf
  ·rename_i k' hu
   obtain rfl : k' = k := by simpa using hf
   obtain ⟨n, rfl, _, hw⟩ := DataW.trod_int hu h
   exact ⟨n, rfl, by simpa [Lit.wf, Bnd] using hw⟩
  ·cases hf
 | .bool, t, cs, x, fuel, _, hf, h => by
  unfold fitT at hf
  split at hf
  ·rename_i hu
   obtain ⟨b, rfl, _⟩ := DataW.trod_bool hu h
   exact ⟨b, rfl, trivial⟩
  ·cases hf
 | .str, t, cs, x, fuel, _, hf, h => by
  unfold fitT at hf
  split at hf
  ·rename_i hu
   obtain ⟨s, rfl, _, hs⟩ := DataW.trod_string hu h
   exact ⟨s, rfl, by simpa [maxLen, Bnd] using hs⟩
  ·cases hf
 | .unit, t, cs, x, fuel, _, hf, h => by simp [fitT] at hf
 | .nul, t, cs, x, fuel, _, hf, h => by simp [fitT] at hf
 | .sl e, t, cs, x, fuel, hfl, _, _ => by simp [flat] at hfl
 | .pair a b, t, cs, x, fuel, hfl, hf, h => by
  unfold fitT at hf
  split at hf
  ·rename_i p r hp
   simp only [Bool.and_eq_true, beq_iff_eq] at hf
   obtain ⟨h0, h1, h2, h3, h4⟩ := hf
   simp only [flat, Bool.and_eq_true] at hfl
   obtain ⟨hl, n, hm⟩ := trod_parts (by rw [hp]; simp) h
   rw [hp] at hm
   obtain ⟨y0, hy0⟩ := hm p (by simp)
   rw [h0, h2] at hy0
   obtain ⟨u, d1, b1⟩ := dr_flat a p.1 _ _ n hfl.1 h1 hy0
   obtain ⟨v, d2, b2⟩ := dr_flatL b r a.n cs n hfl.2 h3 (fun q hq => hm q (by simp [hq])) (by omega)
   refine ⟨(u, v), ⟨_, _, ?_, d1, d2⟩, b1, b2⟩
   have e : (cs.drop a.n).take b.n = cs.drop a.n := List.take_of_length_le (by rw [List.length_drop]; omega)
   rw [e]; simp
  ·cases hf
theorem dr_flatL : ∀ (T : Ty) (l : List (TypeId × Nat)) (k : Nat) (cs : List Value) (n : Nat), flat T = true → fitL P T l k = true → (∀ p ∈ l, ∃ y, DataW.trod enc P w 0 sp held n p.1 ((cs.drop p.2).take (P.cellsOf p.1)) = some y) → k + T.n ≤ cs.length → ∃ y : T.α, DR F w T y ((cs.drop k).take T.n) ∧ Bnd T y
 | .int k', l, k, cs, n, _, hf, _, _ => by simp [fitL] at hf
 | .bool, l, k, cs, n, _, hf, _, _ => by simp [fitL] at hf
 | .str, l, k, cs, n, _, hf, _, _ => by simp [fitL] at hf
 | .nul, l, k, cs, n, _, hf, _, _ => by simp [fitL] at hf
 | .sl _, l, k, cs, n, _, hf, _, _ => by simp [fitL] at hf
 | .unit, l, k, cs, n, _, hf, _, _ => ⟨(), by simp [DR, Ty.n], trivial⟩
 | .pair a b, l, k, cs, n, hfl, hf, hm, hk => by
  unfold fitL at hf
  split at hf
  ·rename_i p r
   simp only [Bool.and_eq_true, beq_iff_eq] at hf
   obtain ⟨h0, h1, h2, h3⟩ := hf
   simp only [flat, Bool.and_eq_true] at hfl
   simp only [Ty.n] at hk
   obtain ⟨y0, hy0⟩ := hm p (by simp)
   rw [h0, h2] at hy0
   obtain ⟨u, d1, b1⟩ := dr_flat a p.1 _ _ n hfl.1 h1 hy0
   obtain ⟨v, d2, b2⟩ := dr_flatL b r (k + a.n) cs n hfl.2 h3 (fun q hq => hm q (by simp [hq])) (by omega)
   refine ⟨(u, v), ⟨_, _, ?_, d1, d2⟩, b1, b2⟩
   simp only [Ty.n]
   rw [List.take_add, List.drop_drop]
  ·cases hf
end
theorem list_of {α : Type} {R : Nat → α → Prop} : ∀ (n : Nat), (∀ i, i < n → ∃ y, R i y) → ∃ l : List α, l.length = n ∧ ∀ (i : Nat) (y : α), l[i]? = some y → R i y
 | 0, _ => ⟨[], rfl, fun i y h => by simp at h⟩
 | n + 1, h => by
  obtain ⟨l, hl, hr⟩ := list_of n fun i hi => h i (by omega)
  obtain ⟨y, hy⟩ := h n (by omega)
  refine ⟨l ++ [y], by simp [hl], fun i z hz => ?_⟩
  by_cases hi : i < l.length
  ·rw [List.getElem?_append_left hi] at hz; exact hr i z hz
  ·rw [List.getElem?_append_right (by omega)] at hz
   have : i = l.length := by
    by_cases e : i - l.length = 0
    ·omega
    ·obtain ⟨q, hq⟩ := Nat.exists_eq_succ_of_ne_zero e
     rw [hq] at hz; simp at hz
   subst this
   simp only [Nat.sub_self, List.getElem?_cons_zero, Option.some.injEq] at hz
   subst hz; rw [hl]; exact hy
def topOK : Ty → Bool
 | .sl e => flat e
 | T => flat T
theorem add_none (b o n : Nat) : (Addr.add ⟨b, o, none⟩ n) = ⟨b, o + n, none⟩ := by
 unfold Addr.add; split
 ·rename_i h; rw [h]; rfl
 ·rfl
theorem isC_shape {i : Nat} {q : TypeId × Nat} (h : w.shape? i = some q) : IsC w i := by
 unfold World.shape? at h
 unfold IsC
 cases hb : w.heap[i]? with
 | none => rw [hb] at h; simp at h
 | some o => cases o <;> rw [hb] at h <;> simp_all
theorem valR_of_trod {T : Ty} {t : TypeId} {v : Value} {d : DataW H} {p : List MemPlace} {base : Nat} (ht : topOK T = true) (hf : fitT P T t = true) (hv : Value.okWide P w .any base t v) (h : DataW.Trod enc P w 0 sp held t v d p) : ∃ y : T.α, ValR (IsC w) w T y v ∧ Bnd T y := by
 obtain ⟨fuel, h⟩ := h
 unfold ValR
 cases T with
 | int k =>
  obtain ⟨y, h1, h2⟩ := dr_flat (F := IsC w) (.int k) t _ _ fuel rfl hf h
  unfold fitT at hf
  split at hf
  ·rename_i k' hu
   obtain ⟨n, rfl⟩ := okWide_int hu hv
   exact ⟨y, by rw [if_neg (by simp [isSt])]; simpa [Value.cells] using h1, h2⟩
  ·cases hf
 | bool =>
  obtain ⟨y, h1, h2⟩ := dr_flat (F := IsC w) .bool t _ _ fuel rfl hf h
  unfold fitT at hf
  split at hf
  ·rename_i hu
   obtain ⟨n, rfl⟩ := okWide_bool hu hv
   exact ⟨y, by rw [if_neg (by simp [isSt])]; simpa [Value.cells] using h1, h2⟩
  ·cases hf
 | str =>
  obtain ⟨y, h1, h2⟩ := dr_flat (F := IsC w) .str t _ _ fuel rfl hf h
  unfold fitT at hf
  split at hf
  ·rename_i hu
   obtain ⟨n, rfl⟩ := okWide_string hu hv
   exact ⟨y, by rw [if_neg (by simp [isSt])]; simpa [Value.cells] using h1, h2⟩
  ·cases hf
 | unit => simp [fitT] at hf
 | nul => simp [fitT] at hf
 | pair a b =>
  obtain ⟨y, h1, h2⟩ := dr_flat (F := IsC w) (.pair a b) t _ _ fuel ht hf h
  obtain ⟨cs, rfl⟩ : ∃ cs, v = .agg cs := by
   unfold fitT at hf
   split at hf
   ·rename_i q r hp
    unfold partsOf at hp
    unfold Value.okWide at hv
    split at hp
    ·rename_i fs hu
     rw [hu] at hv
     obtain ⟨cs, e, _⟩ := hv
     exact ⟨cs, e⟩
    ·rename_i n e hu
     rw [hu] at hv
     obtain ⟨cs, e, _⟩ := hv
     exact ⟨cs, e⟩
    ·cases hp
   ·cases hf
  exact ⟨y, by rw [if_pos (show isSt (.pair a b) = true from rfl)]; exact ⟨cs.toList, by simp, h1⟩, h2⟩
 | sl e =>
  unfold fitT at hf
  split at hf
  ·rename_i e' hu
   simp only [Bool.and_eq_true, beq_iff_eq] at hf
   obtain ⟨h1, h2, h3⟩ := hf
   obtain ⟨a, len, cap, rfl⟩ := okWide_slice hu hv
   rcases DataW.trod_slice hu h with ⟨hc, _⟩ | ⟨a', len', cap', elems, rest, n, _, hc, _, _, hle, hcm, hel, hread, _⟩
   ·simp only [Value.cells, List.cons.injEq, Value.slice.injEq, and_true] at hc
    obtain ⟨rfl, rfl, rfl⟩ := hc
    exact ⟨[], by rw [if_neg (by simp [isSt])]; exact ⟨_, rfl, .inl ⟨rfl, rfl⟩⟩, by simp [Bnd]⟩
   ·simp only [Value.cells, List.cons.injEq, Value.slice.injEq, and_true] at hc
    obtain ⟨rfl, rfl, rfl⟩ := hc
    have hhas : w.has P .any base a' e' cap := by
     unfold Value.okWide Cell.okWide Cell.ok at hv
     rw [hu] at hv
     exact hv.2.2
    obtain ⟨_, hspot, row, cells, hsh, _⟩ := hhas
    obtain ⟨b, o, s⟩ := a'
    simp only at hspot; subst hspot
    have hisc : IsC w b := isC_shape hsh
    obtain ⟨l, hl, hr⟩ := list_of (α := e.α) (R := fun i y => (∃ ds : List Value, DR (IsC w) w e y ds ∧ ∀ (j : Nat) (d : Value), ds[j]? = some d → w.cell? ⟨b, o + (i * e.n + j), none⟩ = some d) ∧ Bnd e y) len fun i hi => by
     have hq := hread i hi
     rw [List.getElem?_eq_getElem (by omega), Option.bind_eq_some_iff] at hq
     obtain ⟨cs, c1, c2⟩ := hq
     obtain ⟨y, k1, k2⟩ := dr_flat (F := IsC w) e e' cs _ n h2 h1 c2
     refine ⟨y, ⟨cs, k1, fun j d' hd => ?_⟩, k2⟩
     obtain ⟨_, m1, m2⟩ := World.cells?_some c1
     have hj : j < cs.length := (List.getElem?_eq_some_iff.1 hd).1
     have := m2 j (by omega)
     rw [add_none, add_none, h3] at this
     rw [← Nat.add_assoc, this]; exact hd
    refine ⟨l, ?_, ?_, ?_⟩
    ·rw [if_neg (by simp [isSt])]
     refine ⟨_, rfl, .inr ⟨b, o, cap, by rw [hl], hisc, by omega, fun i x hx => (hr i x hx).1⟩⟩
    ·rw [hl]; simp only [maxLen] at hcm; omega
    ·intro y hy
     obtain ⟨i, hi, he⟩ := List.mem_iff_getElem.1 hy
     exact (hr i y (by rw [List.getElem?_eq_getElem hi, he])).2
  ·cases hf
def fitAll (P : Program) : List Ty → List TypeId → Bool
 | [], [] => true
 | T :: Ts, t :: ts => (topOK T && fitT P T t) && fitAll P Ts ts
 | _, _ => false
theorem argsR_of_trod : ∀ {Ts : List Ty} {ts : List TypeId} {vs : List Value} {ds : List (DataW H)} {p : List MemPlace} {base : Nat}, fitAll P Ts ts = true → (∀ (j : Nat) t v, ts[j]? = some t → vs[j]? = some v → Value.okWide P w .any base t v) →
  DataW.TrodAll enc P w 0 sp held ts vs ds p → ∃ x : Tys Ts, ArgsR (IsC w) w Ts x vs ∧ Bnds Ts x
 | [], [], vs, ds, p, base, _, _, h => by
  cases vs with
  | nil => exact ⟨(), rfl, trivial⟩
  | cons _ _ => cases ds <;> exact absurd h (by simp [DataW.TrodAll])
 | [], _ :: _, vs, ds, p, base, hf, _, h => by simp [fitAll] at hf
 | _ :: _, [], vs, ds, p, base, hf, _, h => by simp [fitAll] at hf
 | T :: Ts, t :: ts, vs, ds, p, base, hf, hv, h => by
  simp only [fitAll, Bool.and_eq_true] at hf
  cases vs with
  | nil => cases ds <;> exact absurd h (by simp [DataW.TrodAll])
  | cons v vs =>
   cases ds with
   | nil => exact absurd h (by simp [DataW.TrodAll])
   | cons d ds =>
    obtain ⟨p1, p2, h1, h2, _⟩ := h
    obtain ⟨y, k1, k2⟩ := valR_of_trod hf.1.1 hf.1.2 (hv 0 t v rfl rfl) h1
    obtain ⟨x, m1, m2⟩ := argsR_of_trod hf.2 (fun j t' v' a b => hv (j + 1) t' v' (by simpa using a) (by simpa using b)) h2
    exact ⟨(y, x), ⟨v, vs, rfl, k1, m1⟩, k2, m2⟩
theorem trodAll_below {W W' : World} (hl : laidOutB P = true) (hb : Below W.heap.size W W') : ∀ {ts : List TypeId} {vs : List Value} {ds : List (DataW H)} {p : List MemPlace}, (ts.all fun t => P.readableRec t && decide (t < P.types.size)) = true →
  DataW.TrodAll enc P W 0 (fun _ => true) true ts vs ds p → DataW.TrodAll enc P W' 0 (fun b => decide (b < W.heap.size)) true ts vs ds p
 | [], vs, ds, p, _, h => by cases vs <;> cases ds <;> simp_all [DataW.TrodAll]
 | t :: ts, vs, ds, p, ha, h => by
  cases vs with
  | nil => cases ds <;> exact absurd h (by simp [DataW.TrodAll])
  | cons v vs =>
   cases ds with
   | nil => exact absurd h (by simp [DataW.TrodAll])
   | cons d ds =>
    simp only [List.all_cons, Bool.and_eq_true, decide_eq_true_eq] at ha
    obtain ⟨p1, p2, h1, h2, rfl⟩ := h
    have hlt : ∀ x ∈ p1, x.block < W.heap.size := by
     obtain ⟨m, hm⟩ := h1
     exact DataW.trod_lt m _ _ _ hm
    exact ⟨p1, p2, Below.trod hl ha.1.1 ha.1.2 h1 hb hlt, trodAll_below hl hb ha.2 h2, rfl⟩
theorem trodAll_len {ts : List TypeId} : ∀ {vs : List Value} {ds : List (DataW H)} {p : List MemPlace}, DataW.TrodAll enc P w 0 sp held ts vs ds p → ds.length = ts.length := by
 induction ts with
 | nil => intro vs ds p h; cases vs <;> cases ds <;> simp_all [DataW.TrodAll]
 | cons t ts ih =>
  intro vs ds p h
  cases vs with
  | nil => cases ds <;> exact absurd h (by simp [DataW.TrodAll])
  | cons v vs =>
   cases ds with
   | nil => exact absurd h (by simp [DataW.TrodAll])
   | cons d ds => obtain ⟨_, _, _, h2, _⟩ := h; simp [ih h2]
end
section
variable {H : Type} {enc : TypeId × Value → H}
theorem law_post (hl : laidOutB Proofs.Tryz.prog = true) {n : FuncId} {fn : Func} {s : ChangeSpec} {Ts : List Ty} {f : Nat → Tys Ts → Option (Bool × Unit)} (hE : ∀ lf, EntryOK Proofs.Tryz.prog TabG n ⟨Ts, [.bool], f lf⟩)
  (hf : fitAll Proofs.Tryz.prog Ts fn.params.toList = true) (hrd : (fn.params.toList.all fun t => Proofs.Tryz.prog.readableRec t && decide (t < Proofs.Tryz.prog.types.size)) = true)
  {rt : TypeId} (hrt : fn.resultTypes = #[rt]) (hub : Proofs.Tryz.prog.underlying rt = some .bool) (hsv : s.vars = [])
  (hs : ∀ ds : List (DataW H), ds.length = fn.params.toList.length → s.fn H ds = { results := [.lit (.bool true)], args := ds })
  (hpure : ∀ x : Tys Ts, Bnds Ts x → ∃ lf, f lf x = some (true, ()))
  {W : World} {base : Nat} {args : Array Value} {ds gs : List (DataW H)} {before : List MemPlace} {apart fresh handsOn : Bool}
  (hval : ∀ (j : Nat) t v, fn.params[j]? = some t → args[j]? = some v → Value.okWide Proofs.Tryz.prog W .any base t v)
  (hW : DataW.Whole enc Proofs.Tryz.prog fn.params.toList s.vars apart W args.toList ds gs before) (hG : TabG W) :
  Calls Proofs.Tryz.prog n args W fun e W' => ∃ v, e = .returned v ∧ s.post enc Proofs.Tryz.prog fn apart fresh handsOn false W args v W' := by
 have hW' := hW
 obtain ⟨p, q, hA, hV, rfl, _, _⟩ := hW
 rw [hsv] at hV
 obtain ⟨rfl, rfl⟩ := trodVars_none hV
 have hv' : ∀ (j : Nat) (t : TypeId) (v : Value), fn.params.toList[j]? = some t → args.toList[j]? = some v → Value.okWide Proofs.Tryz.prog W .any base t v := by
  intro j t v a b
  rw [Array.getElem?_toList] at a b
  exact hval j t v a b
 obtain ⟨x, k1, k2⟩ := argsR_of_trod hf hv' hA
 obtain ⟨lf, hlf⟩ := hpure x k2
 have hlen := trodAll_len hA
 have h := hE lf x (true, ()) hlf (IsC W) W args.toList hG (fun i hi => hi) k1
 rw [Array.toArray_toList] at h
 refine h.mono ?_
 rintro e W' ⟨v, rfl, hb, hr⟩
 obtain ⟨vs, ⟨u, r, rfl, h1, h2⟩, rfl⟩ := hr
 obtain rfl : r = [] := h2
 have hu : u = .bool true := by
  unfold ValR at h1
  rw [if_neg (by simp [isSt])] at h1
  simpa [DR] using h1
 subst hu
 refine ⟨_, rfl, ds, [], p ++ [], [], p, [], hW', ?_, ?_, ?_, hb.frame _, fun h => by cases h⟩
 ·rw [List.append_nil, hs ds hlen, hrt]
  exact trodAll_mk1 (shut_bool hub true)
 ·rw [List.append_nil, hs ds hlen]
  exact trodAll_below hl hb hrd hA
 ·rw [List.append_nil, hs ds hlen, hsv]
  rfl
end
theorem tabG_of_laid {laid : List (String × DataW Unit)} {W : World} (hp : (laid.all fun x => x.2.handleName?.isNone) = true) {g : Nat} {t e : TypeId} {n : Nat} {rest : List (String × DataW Unit)}
  (hg : Proofs.Tryz.prog.globalNamed "internal/strconv.uint64pow10" = some g) (hty : (Proofs.Tryz.prog.globals[g]?).map (·.type) = some t) (ht : Proofs.Tryz.prog.underlying t = some (.array n e)) (he : Proofs.Tryz.prog.underlying e = some (.int .u64))
  (hce : Proofs.Tryz.prog.cellsOf e = 1) (hct : Proofs.Tryz.prog.cellsOf t = n)
  (hh : (laid.filter fun x => x.1 == "internal/strconv.uint64pow10") = ("internal/strconv.uint64pow10", Lib.tabData .u64 Lib.pow10Tab) :: rest)
  (h : laidMetH Proofs.Tryz.prog laid W) : TabG W := by
 rw [MakeChecks.laidMetH_plain _ _ _ hp] at h
 have h' := laidMet.filter (fun x => x.1 == "internal/strconv.uint64pow10") h
 rw [hh] at h'
 exact Lib.tabIs_of_head hg hty ht he hce hct h'
theorem goes_no {P : Program} {c : OpenClaim} (h : P.funcs.any Func.goes = false) (hs : c.start = .entering) : false = c.goesBy P := by
 have key : ∀ (g : Nat) (fn : Func), P.funcs[g]? = some fn → fn.goes = false := by
  intro g fn hg
  have := Array.any_eq_false.1 h
  obtain ⟨hlt, e⟩ := Array.getElem?_eq_some_iff.1 hg
  have := this g hlt
  rw [e] at this
  simpa using this
 have k2 : ∀ g : Nat, (P.funcs[g]?).any Func.goes = false := by
  intro g
  cases hg : P.funcs[g]? with
  | none => rfl
  | some fn => simp [key g fn hg]
 unfold OpenClaim.goesBy Program.goesAt Program.goesFrom
 rw [hs]
 have k3 : ∀ f, P.goes f = false := by
  intro f
  unfold Program.goes
  rw [h, Bool.and_false, Bool.or_false]
  simp only [k2]
  simp
 cases P.funcNamed c.func with
 | none => rfl
 | some f => simp [k3]
end Go.Q
namespace Go.N
open Go.IntKind (i64)
open Go Go.Q Go.Rx
theorem few01k (lf : Nat) (b : ByteArray) : ∃ c, surveyorref01_Few.f lf b = some (c, ()) ∧ (c = true → b.data.toList.length ≤ 1000) := by
 refine ⟨_, rfl, fun h => ?_⟩
 have h := of_decide_eq_true h
 rw [Lib.size_eq] at h; omega
theorem rightV_f (lf : Nat) (hb : Big lf) (x y : VV) (p : ByteArray × (ByteArray × Unit)) : ∃ c, surveyorlaw23_right.f lf x y p = some (c, ()) ∧
  (c = true → ∃ (v w : Vl) (a b : Int), x = vc v ∧ y = vc w ∧ WfV v ∧ WfV w ∧ p = (bs (Lib.itoa a), bs (Lib.itoa b), ()) ∧ (-Dd < a ∧ a < Dd) ∧ (-Dd < b ∧ b < Dd) ∧ inV v a = true ∧ inV w b = true) := by
 have hlf := hb.1
 obtain ⟨l, m, ⟨⟩⟩ := p
 obtain ⟨b1, f1, f2⟩ := fewV_f lf x y
 obtain ⟨b2, f3, f4⟩ := few01k lf l
 obtain ⟨b3, f5, f6⟩ := few01k lf m
 rw [surveyorlaw23_right.f, f1, bdS]
 cases b1 with
 | false => simp only [brF]; exact ⟨_, rfl, nofun⟩
 | true =>
  obtain ⟨hx, hy⟩ := f2 rfl
  obtain ⟨n, n1, n2, n3⟩ := chk2V lf hb hx hy
  simp only [brT, n2, bdS]
  by_cases h : n = 0
  ·subst h
   obtain ⟨v, w, rfl, rfl, hv, hw⟩ := n3 rfl
   simp only [BEq.rfl, brT, f3, bdS]
   cases b2 with
   | false => simp only [brF]; exact ⟨_, rfl, nofun⟩
   | true =>
    simp only [brT, f5, bdS]
    cases b3 with
    | false => simp only [brF]; exact ⟨_, rfl, nofun⟩
    | true =>
     have g1 := f4 rfl
     have g2 := f6 rfl
     rw [← bs_eta l, ← bs_eta m]
     revert g1 g2
     generalize l.data.toList = l
     generalize m.data.toList = m
     intro g1 g2
     simp only [brT, rCheck_f lf l (by omega) (by omega), rCheck_f lf m (by omega) (by omega), bdS]
     by_cases k1 : chk l = 0
     ·obtain ⟨a, rfl, ha⟩ := num_Dd lf hb k1 g1
      simp only [k1, BEq.rfl, brT]
      by_cases k2 : chk m = 0
      ·obtain ⟨b, rfl, hb'⟩ := num_Dd lf hb k2 g2
       simp only [k2, BEq.rfl, brT, inV_r lf hb hv ha, inV_r lf hb hw hb', bdS]
       cases i1 : inV v a with
       | false => simp only [brF]; exact ⟨_, rfl, nofun⟩
       | true =>
        simp only [brT]
        exact ⟨_, rfl, fun i2 => ⟨v, w, a, b, rfl, rfl, hv, hw, rfl, ha, hb', i1, i2⟩⟩
      ·have : (chk m == 0) = false := by simpa using k2
       simp only [this, brF]; exact ⟨_, rfl, nofun⟩
     ·have : (chk l == 0) = false := by simpa using k1
      simp only [this, brF]; exact ⟨_, rfl, nofun⟩
  ·have : (n == 0) = false := by simpa using h
   simp only [this, brF]; exact ⟨_, rfl, nofun⟩
theorem keep_way {β : Type} (lf : Nat) (hb : Big lf) {v w : Vl} (hv : WfV v) (hw : WfV w) {a b op : Int} (ho : op = 2 ∨ op = 3 ∨ op = 4 ∨ op = 5) (ba : -Dd < a ∧ a < Dd) (bb : -Dd < b ∧ b < Dd) (i1 : inV v a = true) (i2 : inV w b = true)
  (f : Bool) (hf : f = true → holdsC op a b) (F R : Option β) :
  (bd (value_Refine.f lf op (vc v) (vc w)) fun r8 => bd (value_Holds.f lf r8.1 (bs (Lib.itoa a))) fun r9 => bd (value_Holds.f lf r8.2.1 (bs (Lib.itoa b))) fun r10 =>
   br ((i64.wrap ((i64.wrap (r8.2.2.1 + r9.2.1)) + r10.2.1)) != 0) F (br f (br (!r9.1) F (br (!r10.1) F R)) R)) = R := by
 obtain ⟨w1, w2⟩ := refV_V hv hw ho
 have hD := Dd_K
 simp only [refV_f lf hb hv hw ho, bdS, holdsV_f lf hb w1 ba, holdsV_f lf hb w2 bb]
 rw [show (i64.wrap (i64.wrap (0 + 0) + 0) != 0) = false from by decide, brF]
 cases f with
 | false => rw [brF]
 | true =>
  obtain ⟨k1, k2⟩ := in_refV hv hw ho (by omega) (by omega) i1 i2 (hf rfl)
  rw [brT, k1, k2]
  simp only [Bool.not_true, brF]
def unsV (sn : List Nat) : Nat := ((List.range 4).filter fun i => !sn.contains i).length
theorem unsV_lt {sn : List Nat} {i : Nat} (hi : i < 4) (h : (!sn.contains i) = true) : unsV (i :: sn) < unsV sn := by
 unfold unsV
 refine filter_lt (fun j => !sn.contains j) (fun j => !(i :: sn).contains j) (fun x hx => ?_) i h (by simp) _ (List.mem_range.2 hi)
 simp only [List.contains_cons, Bool.not_or, Bool.and_eq_true] at hx
 exact hx.2
theorem keeps_l0 (lf : Nat) (hb : Big lf) {v w : Vl} (hv : WfV v) (hw : WfV w) {a b : Int} (ba : -Dd < a ∧ a < Dd) (bb : -Dd < b ∧ b < Dd) (i1 : inV v a = true) (i2 : inV w b = true) :
  ∀ (m n : Nat) (sn : List Nat), unsV sn ≤ m → m < n →
   surveyorlaw23_ValueKeeps.l0 lf (vc v).1.1 (vc v).1.2.1 (vc v).1.2.2.1 (vc v).2.1.1 (vc v).2.1.2.1 (vc v).2.1.2.2.1 (vc w).1.1 (vc w).1.2.1 (vc w).1.2.2.1 (vc w).2.1.1 (vc w).2.1.2.1 (vc w).2.1.2.2.1 (bs (Lib.itoa a)) (bs (Lib.itoa b)) (sgn (a - b) == 0) (sgn (a - b) != 0) (decide (sgn (a - b) < 0)) (decide (sgn (a - b) ≤ 0)) n sn = some (true, (), (), ()) := by
 intro m
 induction m with
 | zero =>
  intro n sn hm hn
  obtain ⟨k, rfl⟩ := Nat.exists_eq_succ_of_ne_zero (show n ≠ 0 by omega)
  rw [surveyorlaw23_ValueKeeps.l0, surveyorlaw23_ValueKeeps.r0, chsF_over]
  have key : ∀ i, i < 4 → (!sn.contains i) = false := by
   intro i hi
   cases hb : (!sn.contains i) with
   | false => rfl
   | true => have := unsV_lt hi hb; omega
  intro p hp
  simp only [List.mem_cons, List.not_mem_nil, or_false] at hp
  rcases hp with rfl | rfl | rfl | rfl
  ·exact key 0 (by omega)
  ·exact key 1 (by omega)
  ·exact key 2 (by omega)
  ·exact key 3 (by omega)
 | succ m ih =>
  intro n sn hm hn
  obtain ⟨k, rfl⟩ := Nat.exists_eq_succ_of_ne_zero (show n ≠ 0 by omega)
  have e1 : (((vc v).1.1, (vc v).1.2.1, (vc v).1.2.2.1, ()), ((vc v).2.1.1, (vc v).2.1.2.1, (vc v).2.1.2.2.1, ()), ()) = vc v := rfl
  have e2 : (((vc w).1.1, (vc w).1.2.1, (vc w).1.2.2.1, ()), ((vc w).2.1.1, (vc w).2.1.2.1, (vc w).2.1.2.2.1, ()), ()) = vc w := rfl
  have s0 : (sgn (a - b) == 0) = true → holdsC 2 a b := fun h => by
   have : sgn (a - b) = 0 := by simpa using h
   show a = b
   unfold sgn at this; (repeat' split at this) <;> omega
  have s1 : (sgn (a - b) != 0) = true → holdsC 3 a b := fun h => by
   have : sgn (a - b) ≠ 0 := by simpa using h
   show a ≠ b
   unfold sgn at this; (repeat' split at this) <;> omega
  have s2 : decide (sgn (a - b) < 0) = true → holdsC 4 a b := fun h => by
   have : sgn (a - b) < 0 := by simpa using h
   show a < b
   unfold sgn at this; (repeat' split at this) <;> omega
  have s3 : decide (sgn (a - b) ≤ 0) = true → holdsC 5 a b := fun h => by
   have : sgn (a - b) ≤ 0 := by simpa using h
   show a ≤ b
   unfold sgn at this; (repeat' split at this) <;> omega
  rw [surveyorlaw23_ValueKeeps.l0, surveyorlaw23_ValueKeeps.r0]
  simp only [e1, e2, keep_way lf hb hv hw (op := 2) (by omega) ba bb i1 i2 _ s0, keep_way lf hb hv hw (op := 3) (by omega) ba bb i1 i2 _ s1, keep_way lf hb hv hw (op := 4) (by omega) ba bb i1 i2 _ s2, keep_way lf hb hv hw (op := 5) (by omega) ba bb i1 i2 _ s3]
  have next := fun (i : Nat) (hi : i < 4) (h : (!sn.contains i) = true) => ih k (i :: sn) (by have := unsV_lt hi h; omega) (by omega)
  by_cases hall : ∃ i, i < 4 ∧ (!sn.contains i) = true
  ·refine chsF_of ?_ ?_
   ·obtain ⟨i, hi, h⟩ := hall
    have : i = 0 ∨ i = 1 ∨ i = 2 ∨ i = 3 := by omega
    rcases this with rfl | rfl | rfl | rfl
    ·exact ⟨_, List.mem_cons_self .., h⟩
    ·exact ⟨_, List.mem_cons_of_mem _ (List.mem_cons_self ..), h⟩
    ·exact ⟨_, List.mem_cons_of_mem _ (List.mem_cons_of_mem _ (List.mem_cons_self ..)), h⟩
    ·exact ⟨_, List.mem_cons_of_mem _ (List.mem_cons_of_mem _ (List.mem_cons_of_mem _ (List.mem_cons_self ..))), h⟩
   ·intro p hp h
    simp only [List.mem_cons, List.not_mem_nil, or_false] at hp
    rcases hp with rfl | rfl | rfl | rfl
    ·exact next 0 (by omega) h
    ·exact next 1 (by omega) h
    ·exact next 2 (by omega) h
    ·exact next 3 (by omega) h
  ·rw [chsF_over]
   intro p hp
   have key : ∀ i, i < 4 → (!sn.contains i) = false := by
    intro i hi
    cases hb : (!sn.contains i) with
    | false => rfl
    | true => exact absurd ⟨i, hi, hb⟩ hall
   simp only [List.mem_cons, List.not_mem_nil, or_false] at hp
   rcases hp with rfl | rfl | rfl | rfl
   ·exact key 0 (by omega)
   ·exact key 1 (by omega)
   ·exact key 2 (by omega)
   ·exact key 3 (by omega)
theorem unsV_le (sn : List Nat) : unsV sn ≤ 4 := by
 unfold unsV
 have := List.length_filter_le (fun i => !sn.contains i) (List.range 4)
 simpa using this
end Go.N
namespace Go.Q
open Go Go.N
theorem Pure.ValueKeeps (x : Tys (surveyorlaw23_ValueKeeps.E 0).ps) (h : Bnds (surveyorlaw23_ValueKeeps.E 0).ps x) : ∃ lf, surveyorlaw23_ValueKeeps.f lf x.1 x.2.1 x.2.2.1 = some (true, ()) := by
 obtain ⟨x, y, p, ⟨⟩⟩ := x
 clear h
 obtain ⟨lf, hb⟩ := bigE
 have hlf := hb.1
 refine ⟨lf, ?_⟩
 obtain ⟨c, c1, c2⟩ := rightV_f lf hb x y p
 rw [surveyorlaw23_ValueKeeps.f, c1, bdS]
 simp only [awakeV, bdS]
 cases c with
 | false => simp only [Bool.not_false, Go.N.brT]
 | true =>
  obtain ⟨v, w, a, b, rfl, rfl, hv, hw, rfl, ha, hb', i1, i2⟩ := c2 rfl
  have hD := Dd_K
  simp only [Bool.not_true, Go.N.brF, surveyorlaw23_short.f, digitsI lf (z := a) (by omega), digitsI lf (z := b) (by omega), bdS]
  by_cases s1 : (sz a : Int) ≤ 100
  ·rw [decide_eq_true s1, Bool.not_true, Go.N.brF]
   by_cases s2 : (sz b : Int) ≤ 100
   ·rw [decide_eq_true s2, Bool.not_true, Go.N.brF]
    have od : surveyorref01_Order.f lf (bs (Lib.itoa a)) (bs (Lib.itoa b)) = some (sgn (a - b), ()) := by
     have l1 := okb_len (x := a) (by omega)
     have l2 := okb_len (x := b) (by omega)
     have := order_ref lf (Lib.itoa a) (Lib.itoa b) (can_itoa a) (can_itoa b) (by omega) (by omega) (by omega)
     rwa [iv_itoa, iv_itoa] at this
    rw [od, bdS]
    simp only
    rw [keeps_l0 lf hb hv hw ha hb' i1 i2 4 (lf + 40) [] (unsV_le _) (by omega), bdS]
    simp only [Go.N.brT]
   ·rw [decide_eq_false s2, Bool.not_false, Go.N.brT]
  ·rw [decide_eq_false s1, Bool.not_false, Go.N.brT]
end Go.Q
