import Derived.KernelRfl
import Derived.Test.YtniehiachpcdeaaGreatDoorChecked
import Derived.ProofKit
import Derived.OpenShut
import Derived.LaidMore
import Derived.Lay
import Derived.Carry
import Derived.SevenTiedAt
import Derived.Stop.Joined
import Derived.Lib.LaidTab
import Derived.LaidSub
import Derived.Test.YtniehiachpcdeaaGreatDoorTVE2
import Derived.Test.YtniehiachpcdeaaGreatDoorTVG5
import Derived.Test.YtniehiachpcdeaaGreatDoorTVG6
import Derived.Test.YtniehiachpcdeaaGreatDoorTVG7
import Derived.Test.YtniehiachpcdeaaGreatDoorTVG8
import Derived.Test.YtniehiachpcdeaaGreatDoorTVG9
import Derived.Test.YtniehiachpcdeaaGreatDoorTVN1
set_option linter.unusedVariables false
set_option linter.unusedSimpArgs false
set_option linter.unusedSectionVars false
set_option maxRecDepth 100000
namespace Go.N
open Go Go.Q Go.Rx
def ckc (em : Bool) (l h : List UInt8) : Int :=
 if em = true then (if l ≠ [] ∨ h ≠ [] then 3 else 0) else if num l ≠ 0 then num l else if num h ≠ 0 then num h else if iv l < 0 ∨ (iv l ≠ 0 ∧ (iv h < 0 ∨ ¬ iv h < iv l)) then 2 else 0
theorem num22 (lf : Nat) (l : List UInt8) (hl : l.length ≤ 9223372036854775807) (hf : l.length ≤ lf) : surveyorref22_number.f lf (bs l) = some (num l, ()) := by
 rw [surveyorref22_number.f, form_f lf l hl hf, bdS]
 unfold num chk
 cases hc : can l with
 | false => simp [brT]
 | true =>
  simp only [Bool.not_true, brF, if_true]
  rw [rDigits_f lf l (can_parts hc).2.2 hl, bdS]
  by_cases h : nlen l > 100
  ·rw [decide_eq_true (by omega), brT]
   by_cases h2 : nlen l > 4096
   ·rw [if_pos h2]; rfl
   ·rw [if_neg h2, if_neg (by simp), if_pos h]
  ·rw [decide_eq_false (by omega), brF, if_neg (show ¬ nlen l > 4096 by omega), if_neg (by simp), if_neg h]
theorem long_f (lf : Nat) (l : List UInt8) (hl : l.length ≤ 9223372036854775807) : congruence_long.f lf (bs l) = some (decide (nlen l > 100), ()) := by
 have := nlen_le l
 rw [congruence_long.f, trimPrefix_f, bdS, bs_size]
 congr 2
 simp only [decide_eq_decide]; unfold nlen; omega
theorem numC (lf : Nat) (l : List UInt8) (hl : l.length ≤ 9223372036854775807) : congruence_number.f lf (bs l) = some (num l, ()) := by
 rw [congruence_number.f, check_f lf l hl, bdS]
 simp only [long_f lf l hl, bdS]
 unfold num
 by_cases h : chk l = 0
 ·rw [h]
  simp only [show ((0 : Int) == 10) = false from rfl, brF, BEq.rfl, brT, bne_self_eq_false, ne_eq, not_true, if_false]
  by_cases h2 : nlen l > 100
  ·rw [decide_eq_true h2, brT, if_pos h2]
  ·rw [decide_eq_false h2, brF, if_neg h2]
 ·rw [if_pos h, show (chk l == 0) = false from beq_eq_false_iff_ne.2 h, brF, bneT h, brT]
  by_cases h2 : chk l = 10
  ·rw [h2, BEq.rfl, brT]
  ·rw [show (chk l == 10) = false from beq_eq_false_iff_ne.2 h2, brF]
theorem less_c (lf : Nat) (l m : List UInt8) (h1 : chk l = 0) (h2 : chk m = 0) (h3 : 200000 ≤ lf) : congruence_less.f lf (bs l) (bs m) = some (decide (iv l < iv m), ()) := by
 rw [congruence_less.f, compare_f lf l m h1 h2 h3, bdS]
 simp only
 rw [congruence_sure_int.f, bdS]
 congr 2
 simp only [decide_eq_decide]; unfold sgn; (repeat' split) <;> omega
theorem ckc_f (lf : Nat) (h3 : 200000 ≤ lf) (em : Bool) (l h : List UInt8) (hl : l.length ≤ 9223372036854775807) (hh : h.length ≤ 9223372036854775807) : congruence_Check.f lf (em, bs l, bs h, ()) = some (ckc em l h, ()) := by
 rw [congruence_Check.f]
 simp only [e0, beq_bs, numC lf l hl, numC lf h hh, bdS]
 unfold ckc
 cases em with
 | true =>
  rw [brT, if_pos rfl]
  by_cases c1 : l = [] <;> by_cases c2 : h = [] <;> simp [c1, c2, brT, brF]
 | false =>
  rw [brF, if_neg (by simp)]
  by_cases c1 : num l = 0
  ·rw [c1, bne_self_eq_false, brF, if_neg (by simp)]
   by_cases c2 : num h = 0
   ·rw [c2, bne_self_eq_false, brF, if_neg (by simp)]
    have k1 := num_chk c1
    have k2 := num_chk c2
    have z : (⟨#[48]⟩ : ByteArray) = bs [48] := rfl
    rw [z, less_c lf l [48] k1 chk48 h3, bdS, less_c lf h [48] k2 chk48 h3, less_c lf h l k2 k1 h3, iv48]
    simp only [bdS]
    have e : l = [48] ↔ iv l = 0 := (iv_zero (chk_zero.1 k1).1).symm
    by_cases a : iv l < 0
    ·rw [decide_eq_true a, brT, if_pos (.inl a)]
    ·rw [decide_eq_false a, brF]
     by_cases b : iv l = 0
     ·rw [decide_eq_true (e.2 b), Bool.not_true, brF, if_neg (by omega)]
     ·rw [decide_eq_false (fun x => b (e.1 x)), Bool.not_false, brT]
      by_cases c : iv h < 0
      ·rw [decide_eq_true c, brT, if_pos (.inr ⟨b, .inl c⟩)]
      ·rw [decide_eq_false c, brF]
       by_cases d : iv h < iv l
       ·rw [decide_eq_true d, Bool.not_true, brF, if_neg (by omega)]
       ·rw [decide_eq_false d, Bool.not_false, brT, if_pos (.inr ⟨b, .inr d⟩)]
   ·rw [bneT c2, brT, if_pos c2]
  ·rw [bneT c1, brT, if_pos c1]
theorem ckc_ref (lf : Nat) (h3 : 200000 ≤ lf) (em : Bool) (l h : List UInt8) (hl : l.length ≤ 9223372036854775807) (hh : h.length ≤ 9223372036854775807) (fl : l.length ≤ lf) (fh : h.length ≤ lf) : surveyorref22_Check.f lf (em, bs l, bs h, ()) = some (ckc em l h, ()) := by
 rw [surveyorref22_Check.f]
 simp only [e0, beq_bs, num22 lf l hl fl, num22 lf h hh fh, bdS]
 unfold ckc
 cases em with
 | true =>
  rw [brT, if_pos rfl]
  by_cases c1 : l = [] <;> by_cases c2 : h = [] <;> simp [c1, c2, brT, brF]
 | false =>
  rw [brF, if_neg (by simp)]
  by_cases c1 : num l = 0
  ·rw [c1, bne_self_eq_false, brF, if_neg (by simp)]
   by_cases c2 : num h = 0
   ·rw [c2, bne_self_eq_false, brF, if_neg (by simp)]
    have k1 := num_chk c1
    have k2 := num_chk c2
    have l1 := num_len c1
    have l2 := num_len c2
    have z : (⟨#[48]⟩ : ByteArray) = bs [48] := rfl
    rw [sign_ref lf l (chk_zero.1 k1).1, bdS, sign_ref lf h (chk_zero.1 k2).1, less_f lf h l (chk_zero.1 k2).1 (chk_zero.1 k1).1 (by omega) (by omega) h3]
    simp only [bdS, sgn_lt0]
    have e : l = [48] ↔ iv l = 0 := (iv_zero (chk_zero.1 k1).1).symm
    by_cases a : iv l < 0
    ·rw [decide_eq_true a, brT, if_pos (.inl a)]
    ·rw [decide_eq_false a, brF]
     by_cases b : iv l = 0
     ·rw [decide_eq_true (e.2 b), Bool.not_true, brF, if_neg (by omega)]
     ·rw [decide_eq_false (fun x => b (e.1 x)), Bool.not_false, brT]
      by_cases c : iv h < 0
      ·rw [decide_eq_true c, brT, if_pos (.inr ⟨b, .inl c⟩)]
      ·rw [decide_eq_false c, brF]
       by_cases d : iv h < iv l
       ·rw [decide_eq_true d, Bool.not_true, brF, if_neg (by omega)]
       ·rw [decide_eq_false d, Bool.not_false, brT, if_pos (.inr ⟨b, .inr d⟩)]
   ·rw [bneT c2, brT, if_pos c2]
  ·rw [bneT c1, brT, if_pos c1]
structure Cg where
 em : Bool
 m : Int
 r : Int
deriving DecidableEq
def cc (c : Cg) : IV := if c.em = true then (true, bs [], bs [], ()) else (false, bs (Lib.itoa c.m), bs (Lib.itoa c.r), ())
structure WfC (c : Cg) : Prop where
 m : -C < c.m ∧ c.m < C
 r : -C < c.r ∧ c.r < C
 pos : 0 ≤ c.m
 rng : c.m ≠ 0 → 0 ≤ c.r ∧ c.r < c.m
def Ec : Cg := ⟨true, 0, 0⟩
def topC : Cg := ⟨false, 1, 0⟩
theorem ckc_wf {em : Bool} {l h : List UInt8} (hc : ckc em l h = 0) : ∃ c : Cg, ((em, bs l, bs h, ()) : IV) = cc c ∧ WfC c := by
 have hC := C_gt
 unfold ckc at hc
 cases em with
 | true =>
  rw [if_pos rfl] at hc
  have : ¬ (l ≠ [] ∨ h ≠ []) := fun x => by rw [if_pos x] at hc; cases hc
  have l0 : l = [] := by simpa using fun x => this (.inl x)
  have h0 : h = [] := by simpa using fun x => this (.inr x)
  subst l0 h0
  exact ⟨Ec, rfl, ⟨by simp only [Ec]; omega, by simp only [Ec]; omega, by simp [Ec], fun x => absurd rfl x⟩⟩
 | false =>
  rw [if_neg (by simp)] at hc
  by_cases c1 : num l = 0
  ·rw [if_neg (by simp [c1])] at hc
   by_cases c2 : num h = 0
   ·rw [if_neg (by simp [c2])] at hc
    have n : ¬ (iv l < 0 ∨ (iv l ≠ 0 ∧ (iv h < 0 ∨ ¬ iv h < iv l))) := fun x => by rw [if_pos x] at hc; cases hc
    have i1 := itoa_iv (num_zero.1 c1).1
    have i2 := itoa_iv (num_zero.1 c2).1
    refine ⟨⟨false, iv l, iv h⟩, by unfold cc; rw [if_neg (by simp)]; simp only; rw [← i1, ← i2], ?_⟩
    rw [i1, num_itoa] at c1
    rw [i2, num_itoa] at c2
    exact ⟨c1, c2, by simp only; omega, fun x => by simp only at x ⊢; omega⟩
   ·rw [if_pos c2] at hc; exact absurd hc c2
  ·rw [if_pos c1] at hc; exact absurd hc c1
def clsF (m r : Int) : Cg :=
 if sz (m.natAbs : Int) > 100 ∨ sz (if m = 0 then r else r.fmod (m.natAbs : Int)) > 100 then topC else ⟨false, (m.natAbs : Int), if m = 0 then r else r.fmod (m.natAbs : Int)⟩
theorem longI (lf : Nat) {z : Int} (hz : -K < z ∧ z < K) : congruence_long.f lf (bs (Lib.itoa z)) = some (decide (sz z > 100), ()) := by
 have := okb_len hz
 rw [long_f lf _ (by omega)]; rfl
theorem abs_f (lf : Nat) {z : Int} (hz : -K < z ∧ z < K) : bigint_Abs.f lf (bs (Lib.itoa z)) = some (bs (Lib.itoa (z.natAbs : Int)), 0, ()) := by
 have := okb_len hz
 rw [bigint_Abs.f, check_f lf _ (by omega), bdS]
 simp only [chkK hz, bne_self_eq_false, brF]
 rw [trimPrefix_f, bdS, body_itoa]
 have e' : Lib.itoa (z.natAbs : Int) = D z.natAbs := by unfold Lib.itoa; rw [if_neg (by omega)]; rfl
 rw [e']
theorem top_c : ((false, (⟨#[49]⟩ : ByteArray), (⟨#[48]⟩ : ByteArray), ()) : IV) = cc topC := by
 unfold cc topC; rw [if_neg (by simp)]; simp only; rw [i1, i0]
theorem rest_K {x m : Int} (hx : -K < x ∧ x < K) (hm : -K < m ∧ m < K) (h0 : m ≠ 0) : -K < x.fmod m ∧ x.fmod m < K := by
 have := fmod_abs (x := x) h0
 omega
theorem class_f (lf : Nat) (hlf : 2000000000 ≤ lf) {m r : Int} (hm : -K < m ∧ m < K) (hr : -K < r ∧ r < K) : congruence_class.f lf (bs (Lib.itoa m)) (bs (Lib.itoa r)) = some (cc (clsF m r), ()) := by
 have ha : -K < (m.natAbs : Int) ∧ (m.natAbs : Int) < K := by omega
 rw [congruence_class.f, abs_f lf hm, bdS]
 simp only [api_Int.f, bdS, beq0, longI lf ha, congruence_Top.f, top_c]
 unfold clsF
 by_cases h : m = 0
 ·subst h
  simp only [longI lf hr, bdS]
  rw [decide_eq_true (by trivial), Bool.not_true, brF]
  by_cases c1 : sz ((0 : Int).natAbs : Int) > 100
  ·rw [decide_eq_true c1, brT, if_pos (.inl c1)]
  ·rw [decide_eq_false c1, brF]
   by_cases c2 : sz r > 100
   ·rw [decide_eq_true c2, brT, if_pos (.inr (by rw [if_pos trivial]; exact c2))]
   ·rw [decide_eq_false c2, brF, if_neg (by rw [if_pos trivial]; exact fun x => x.elim c1 c2), if_pos trivial]
    unfold cc; rw [if_neg (by simp)]
 ·have h' : (m.natAbs : Int) ≠ 0 := by omega
  have rk := rest_K hr ha h'
  simp only [rem_small lf hlf hr ha h', bdS, longI lf rk]
  rw [decide_eq_false h', Bool.not_false, brT]
  by_cases c1 : sz (m.natAbs : Int) > 100
  ·rw [decide_eq_true c1, brT, if_pos (.inl c1)]
  ·rw [decide_eq_false c1, brF]
   by_cases c2 : sz (r.fmod (m.natAbs : Int)) > 100
   ·rw [decide_eq_true c2, brT, if_pos (.inr (by rw [if_neg h]; exact c2))]
   ·rw [decide_eq_false c2, brF, if_neg (by rw [if_neg h]; exact fun x => x.elim c1 c2), if_neg h]
    unfold cc; rw [if_neg (by simp)]
theorem digitsI (lf : Nat) {z : Int} (hz : -K < z ∧ z < K) : surveyorref01_Digits.f lf (bs (Lib.itoa z)) = some ((sz z : Int), ()) := by
 have := okb_len hz
 exact rDigits_f lf _ (itoa_ne z) (by omega)
theorem gt100 (n : Nat) : decide (((n : Nat) : Int) > 100) = decide (n > 100) := by simp only [decide_eq_decide]; omega
theorem class_ref (lf : Nat) (h3 : 200000 ≤ lf) {m r : Int} (hm : -K < m ∧ m < K) (hr : -K < r ∧ r < K) : surveyorref22_Class.f lf (bs (Lib.itoa m)) (bs (Lib.itoa r)) = some (cc (clsF m r), ()) := by
 have ha : -K < (m.natAbs : Int) ∧ (m.natAbs : Int) < K := by omega
 rw [surveyorref22_Class.f, magnitude_ref, bdS]
 simp only [beq0, digitsI lf ha, bdS, surveyorref22_Top.f, top_c, gt100]
 unfold clsF
 by_cases h : m = 0
 ·subst h
  simp only [digitsI lf hr, bdS, gt100]
  rw [decide_eq_true (by trivial), Bool.not_true, brF]
  by_cases c1 : sz ((0 : Int).natAbs : Int) > 100
  ·rw [decide_eq_true c1, brT, if_pos (.inl c1)]
  ·rw [decide_eq_false c1, brF]
   by_cases c2 : sz r > 100
   ·rw [decide_eq_true c2, brT, if_pos (.inr (by rw [if_pos trivial]; exact c2))]
   ·rw [decide_eq_false c2, brF, if_neg (by rw [if_pos trivial]; exact fun x => x.elim c1 c2), if_pos trivial]
    unfold cc; rw [if_neg (by simp)]
 ·have h' : (m.natAbs : Int) ≠ 0 := by omega
  have rk := rest_K hr ha h'
  have s1 := szK hr
  have s2 := szK ha
  simp only [rest_ref lf h3 (x := r) (y := (m.natAbs : Int)) (by omega) (by omega) h', bdS, digitsI lf rk, gt100]
  rw [decide_eq_false h, Bool.not_false, brT]
  by_cases c1 : sz (m.natAbs : Int) > 100
  ·rw [decide_eq_true c1, brT, if_pos (.inl c1)]
  ·rw [decide_eq_false c1, brF]
   by_cases c2 : sz (r.fmod (m.natAbs : Int)) > 100
   ·rw [decide_eq_true c2, brT, if_pos (.inr (by rw [if_neg h]; exact c2))]
   ·rw [decide_eq_false c2, brF, if_neg (by rw [if_neg h]; exact fun x => x.elim c1 c2), if_neg h]
    unfold cc; rw [if_neg (by simp)]
def dvd' (m a : Int) : Bool := if m = 0 then decide (a = 0) else decide (a.fmod m = 0)
theorem divides_f (lf : Nat) (hlf : 2000000000 ≤ lf) {m a : Int} (hm : -K < m ∧ m < K) (ha : -K < a ∧ a < K) : congruence_divides.f lf (bs (Lib.itoa m)) (bs (Lib.itoa a)) = some (dvd' m a, ()) := by
 rw [congruence_divides.f, beq0]
 unfold dvd'
 by_cases h : m = 0
 ·rw [decide_eq_true h, brT, if_pos h, beq0]
 ·rw [decide_eq_false h, brF, if_neg h, rem_small lf hlf ha hm h, bdS, api_Int.f, bdS, beq0]
end Go.N
namespace Go.N
open Go Go.Q Go.Rx
theorem gcd_lt {k x y : Int} (hx : -k < x ∧ x < k) (hy : -k < y ∧ y < k) : -k < (Int.gcd x y : Int) ∧ (Int.gcd x y : Int) < k := by
 by_cases h : x = 0
 ·subst h; rw [Int.gcd_zero_left]; omega
 ·have := Nat.gcd_le_left y.natAbs (show 0 < x.natAbs by omega)
  have e : Int.gcd x y = Nat.gcd x.natAbs y.natAbs := rfl
  omega
section
variable (lf : Nat) (hb : Big lf)
include hb
theorem cgcd_f {x y : Int} (hx : -K < x ∧ x < K) (hy : -K < y ∧ y < K) : congruence_gcd.f lf (bs (Lib.itoa x)) (bs (Lib.itoa y)) = some (bs (Lib.itoa (Int.gcd x y)), ()) := by
 rw [congruence_gcd.f, gcd_f lf hb hx hy, bdS, api_Int.f, bdS]
theorem csub_f {x y : Int} (hx : -K < x ∧ x < K) (hy : -K < y ∧ y < K) (h : -K < x - y ∧ x - y < K) : congruence_sub.f lf (bs (Lib.itoa x)) (bs (Lib.itoa y)) = some (bs (Lib.itoa (x - y)), ()) := by
 have := (sz_K (x - y)).2 h
 rw [congruence_sub.f, sub_f lf _ _ (chkK hx) (chkK hy) (by have := hb.1; omega), iv_itoa, iv_itoa, dlen_sz, if_neg (by omega), bdS, api_Int.f, bdS]
end
def joinC (c d : Cg) : Cg := if c.em = true then d else if d.em = true then c else clsF (Int.gcd (Int.gcd c.m d.m) (c.r - d.r)) c.r
theorem cc_ne {c : Cg} (h : c.em = false) : cc c = (false, bs (Lib.itoa c.m), bs (Lib.itoa c.r), ()) := by unfold cc; rw [if_neg (by simp [h])]
theorem cc_em {c : Cg} (h : c.em = true) : cc c = (true, bs [], bs [], ()) := by unfold cc; rw [if_pos h]
theorem wf_ckc {c : Cg} (h : WfC c) : ∃ (l m : List UInt8), cc c = (c.em, bs l, bs m, ()) ∧ ckc c.em l m = 0 ∧ l.length ≤ 101 ∧ m.length ≤ 101 := by
 have hK := C_lt_K
 cases e : c.em with
 | true => exact ⟨[], [], cc_em e, by simp [ckc], by simp, by simp⟩
 | false =>
  have n1 := (num_itoa c.m).2 h.m
  have n2 := (num_itoa c.r).2 h.r
  refine ⟨Lib.itoa c.m, Lib.itoa c.r, cc_ne e, ?_, num_len n1, num_len n2⟩
  unfold ckc
  rw [if_neg (by simp), n1, n2, iv_itoa, iv_itoa, if_neg (by simp), if_neg (by simp), if_neg]
  have a := h.pos
  have b := h.rng
  intro x
  rcases x with x | ⟨x, y⟩
  ·omega
  ·have := b x; omega
section
variable (lf : Nat) (hb : Big lf) {c d : Cg} (hc : WfC c) (hd : WfC d)
include hb hc
theorem ccheck : congruence_Check.f lf (cc c) = some (0, ()) := by
 obtain ⟨l, m, e, h, a, b⟩ := wf_ckc hc
 rw [e, ckc_f lf (by have := hb.1; omega) _ _ _ (by omega) (by omega), h]
theorem rcheck : surveyorref22_Check.f lf (cc c) = some (0, ()) := by
 obtain ⟨l, m, e, h, a, b⟩ := wf_ckc hc
 have := hb.1
 rw [e, ckc_ref lf (by omega) _ _ _ (by omega) (by omega) (by omega) (by omega), h]
include hd
theorem cboth : congruence_both.f lf (cc c) (cc d) = some (0, ()) := by
 rw [congruence_both.f, ccheck lf hb hc, bdS]
 simp only [bne_self_eq_false, brF]
 rw [ccheck lf hb hd, bdS]
theorem bounds : (-K < c.m ∧ c.m < K) ∧ (-K < c.r ∧ c.r < K) ∧ (-K < d.m ∧ d.m < K) ∧ (-K < d.r ∧ d.r < K) ∧ (-K < c.r - d.r ∧ c.r - d.r < K) ∧ (-K < c.r + d.r ∧ c.r + d.r < K) ∧ (-K < c.m * d.m ∧ c.m * d.m < K) ∧ (-K < c.m * d.r ∧ c.m * d.r < K) ∧ (-K < d.m * c.r ∧ d.m * c.r < K) ∧ (-K < c.r * d.r ∧ c.r * d.r < K) := by
 have hK := CC_K
 have hC := C_gt
 have hCK := C_lt_K
 have h4 : 0 ≤ C * C := Int.mul_nonneg (by omega) (by omega)
 have a1 := hc.m
 have a2 := hc.r
 have a3 := hd.m
 have a4 := hd.r
 have m1 := mul_C a1 a3
 have m2 := mul_C a1 a4
 have m3 := mul_C a3 a2
 have m4 := mul_C a2 a4
 refine ⟨by omega, by omega, by omega, by omega, by omega, by omega, by omega, by omega, by omega, by omega⟩
theorem join_c : congruence_Join.f lf (cc c) (cc d) = some (cc (joinC c d), 0, ()) := by
 obtain ⟨b1, b2, b3, b4, b5, b6, b7, b8, b9, b10⟩ := bounds lf hb hc hd
 rw [congruence_Join.f, cboth lf hb hc hd, bdS]
 unfold joinC
 cases ec : c.em with
 | true => rw [cc_em ec]; simp only [bne_self_eq_false, brF, brT, if_true]
 | false => cases ed : d.em with
  | true => rw [cc_ne ec, cc_em ed]; simp only [bne_self_eq_false, brF, brT, if_true, if_false, Bool.false_eq_true]; rw [cc_ne ec]
  | false =>
   rw [cc_ne ec, cc_ne ed]
   have g1 := gcd_lt b1 b3
   simp only [bne_self_eq_false, brF, if_false, Bool.false_eq_true, cgcd_f lf hb b1 b3, csub_f lf hb b2 b4 b5, bdS, cgcd_f lf hb g1 b5, class_f lf hb.1 (gcd_lt g1 b5) b2]
end
end Go.N
namespace Go.N
open Go Go.Q Go.Rx
section
variable (lf : Nat) (hb : Big lf) {c d : Cg} (hc : WfC c) (hd : WfC d)
include hb hc hd
end
end Go.N
namespace Go.N
open Go Go.Q Go.Rx
section
variable (lf : Nat) (hb : Big lf) {c d : Cg} (hc : WfC c) (hd : WfC d)
include hb hc hd
end
end Go.N
namespace Go.N
open Go Go.Q Go.Rx
theorem clsF_wf {m r : Int} : WfC (clsF m r) := by
 have hC := C_gt
 unfold clsF
 by_cases h : sz (m.natAbs : Int) > 100 ∨ sz (if m = 0 then r else r.fmod (m.natAbs : Int)) > 100
 ·rw [if_pos h]
  exact ⟨by simp only [topC]; omega, by simp only [topC]; omega, by simp [topC], fun _ => by simp [topC]⟩
 ·rw [if_neg h]
  have h1 := (sz_C (m.natAbs : Int)).1 (by omega)
  have h2 := (sz_C (if m = 0 then r else r.fmod (m.natAbs : Int))).1 (by omega)
  refine ⟨h1, h2, by simp only; omega, fun x => ?_⟩
  simp only at x ⊢
  have h0 : m ≠ 0 := by omega
  rw [if_neg h0]
  exact ⟨Int.fmod_nonneg_of_pos r (by omega), Int.fmod_lt_of_pos r (by omega)⟩
theorem Ec_wf : WfC Ec := by
 have hC := C_gt
 exact ⟨by simp only [Ec]; omega, by simp only [Ec]; omega, by simp [Ec], fun x => absurd rfl x⟩
theorem topC_wf : WfC topC := by
 have hC := C_gt
 exact ⟨by simp only [topC]; omega, by simp only [topC]; omega, by simp [topC], fun _ => by simp [topC]⟩
theorem joinC_wf {c d : Cg} (hc : WfC c) (hd : WfC d) : WfC (joinC c d) := by
 unfold joinC; split
 ·exact hd
 ·split
  ·exact hc
  ·exact clsF_wf
def inC (c : Cg) (a : Int) : Bool := !c.em && dvd' c.m (a - c.r)
def insideC (c d : Cg) : Bool := if c.em = true then true else if d.em = true then false else dvd' d.m c.m && dvd' d.m (c.r - d.r)
section
variable (lf : Nat) (hb : Big lf) {c d : Cg} (hc : WfC c) (hd : WfC d)
include hb hc hd
theorem inside_c : congruence_inside.f lf (cc c) (cc d) = some (insideC c d, ()) := by
 obtain ⟨b1, b2, b3, b4, b5, b6, b7, b8, b9, b10⟩ := bounds lf hb hc hd
 have hlf := hb.1
 rw [congruence_inside.f]
 unfold insideC
 cases ec : c.em with
 | true => rw [cc_em ec]; simp only [brT, if_true]
 | false => cases ed : d.em with
  | true => rw [cc_ne ec, cc_em ed]; simp only [brF, brT, if_true, if_false, Bool.false_eq_true]
  | false =>
   rw [cc_ne ec, cc_ne ed]
   simp only [brF, if_false, Bool.false_eq_true, divides_f lf hlf b3 b1, csub_f lf hb b2 b4 b5, divides_f lf hlf b3 b5, bdS]
   cases dvd' d.m c.m with
   | true => simp only [brT, Bool.true_and]
   | false => simp only [brF, Bool.false_and]
theorem leq_c : congruence_Leq.f lf (cc c) (cc d) = some (insideC c d, 0, ()) := by
 rw [congruence_Leq.f, cboth lf hb hc hd, bdS]
 simp only [BEq.rfl, brT, inside_c lf hb hc hd, bdS]
end
section
variable (lf : Nat) (hb : Big lf) {c : Cg} (hc : WfC c)
include hb hc
end
end Go.N
namespace Go.N
open Go Go.Q Go.Rx
def negC (c : Cg) : Cg := if c.em = true then Ec else clsF c.m (-c.r)
theorem negC_wf {c : Cg} : WfC (negC c) := by unfold negC; split; exact Ec_wf; exact clsF_wf
section
variable (lf : Nat) (hb : Big lf) {c : Cg} (hc : WfC c)
include hb hc
theorem negative_c : surveyorref22_Negative.f lf (cc c) = some (cc (negC c), ()) := by
 have h3 : 200000 ≤ lf := by have := hb.1; omega
 have bm := CK hc.m
 have br' := CK hc.r
 rw [surveyorref22_Negative.f]
 unfold negC
 cases ec : c.em with
 | true => rw [cc_em ec]; simp only [brT, if_true]; rfl
 | false =>
  rw [cc_ne ec]
  simp only [brF, if_false, Bool.false_eq_true, negated_ref lf br', bdS, class_ref lf h3 bm (r := -c.r) (by omega)]
end
end Go.N
namespace Go.N
open Go Go.Q Go.Rx
def aboveC (c : Cg) (a : Int) : Option Int := if c.m = 0 then (if c.r < a then none else some c.r) else some (a + (c.r - a).fmod c.m)
theorem fmod_sub {x y m : Int} (h : 0 < m) : (x.fmod m - y.fmod m).fmod m = (x - y).fmod m := by
 rw [Int.fmod_eq_emod_of_nonneg _ (Int.le_of_lt h), Int.fmod_eq_emod_of_nonneg _ (Int.le_of_lt h), Int.fmod_eq_emod_of_nonneg _ (Int.le_of_lt h), Int.fmod_eq_emod_of_nonneg _ (Int.le_of_lt h), ← Int.sub_emod]
section
variable (lf : Nat) (hb : Big lf) {c : Cg} (hc : WfC c) (he : c.em = false) {a : Int} (ha : -Dd < a ∧ a < Dd)
include hb hc he ha
theorem least_c : congruence_Least.f lf (cc c) (bs (Lib.itoa a)) = some (match aboveC c a with
  | none => (bs [], 6, ())
  | some v => (bs (Lib.itoa v), 0, ())) := by
 have hlf := hb.1
 have hD := DD_K
 have hC := C_gt
 have hCD := C_lt_Dd
 have h4 : 0 ≤ Dd * Dd := Int.mul_nonneg (by omega) (by omega)
 have ka : -K < a ∧ a < K := by omega
 have hl := okb_len ka
 have m1 := hc.m
 have r1 := hc.r
 have bm := CK hc.m
 have br' := CK hc.r
 rw [congruence_Least.f, ccheck lf hb hc, bdS]
 simp only [bne_self_eq_false, brF, check_f lf (Lib.itoa a) (by omega), chkK ka, bdS]
 rw [cc_ne he]
 simp only [brF, beq0]
 unfold aboveC
 by_cases z : c.m = 0
 ·rw [decide_eq_true z, Bool.not_true, brF, if_pos z, less_c lf _ _ (chkK br') (chkK ka) (by omega), iv_itoa, iv_itoa, bdS]
  simp only
  by_cases h : c.r < a
  ·rw [decide_eq_true h, brT, if_pos h]
  ·rw [decide_eq_false h, brF, if_neg h]
 ·have p : 0 < c.m := by have := hc.pos; omega
  have k1 := rest_K br' bm z
  have k2 := rest_K ka bm z
  have g1 := Int.fmod_nonneg_of_pos c.r p
  have g2 := Int.fmod_lt_of_pos c.r p
  have g3 := Int.fmod_nonneg_of_pos a p
  have g4 := Int.fmod_lt_of_pos a p
  have k3 : -K < c.r.fmod c.m - a.fmod c.m ∧ c.r.fmod c.m - a.fmod c.m < K := by omega
  have g5 := Int.fmod_nonneg_of_pos (c.r - a) p
  have g6 := Int.fmod_lt_of_pos (c.r - a) p
  rw [decide_eq_false z, Bool.not_false, brT, if_neg z, congruence_modulo.f, rem_small lf hlf br' bm z, bdS]
  simp only [bne_self_eq_false, brF, rem_small lf hlf ka bm z, bdS, csub_f lf hb k1 k2 k3, rem_small lf hlf k3 bm z, fmod_sub p, add_small lf (by omega) ka (y := (c.r - a).fmod c.m) (by omega) (by omega)]
theorem above_c : surveyorref22_Above.f lf (cc c) (bs (Lib.itoa a)) = some (match aboveC c a with
  | none => (bs [], false, ())
  | some v => (bs (Lib.itoa v), true, ())) := by
 have h3 : 200000 ≤ lf := by have := hb.1; omega
 have hD := DD_K
 have hC := C_gt
 have hCD := C_lt_Dd
 have h4 : 0 ≤ Dd * Dd := Int.mul_nonneg (by omega) (by omega)
 have ka : -K < a ∧ a < K := by omega
 have m1 := hc.m
 have r1 := hc.r
 have bm := CK hc.m
 have br' := CK hc.r
 rw [surveyorref22_Above.f, cc_ne he]
 simp only [beq0]
 unfold aboveC
 by_cases z : c.m = 0
 ·rw [decide_eq_true z, brT, if_pos z, lessI lf h3 br' ka, bdS]
  simp only
  by_cases h : c.r < a
  ·rw [decide_eq_true h, brT, if_pos h]
  ·rw [decide_eq_false h, brF, if_neg h]
 ·have p : 0 < c.m := by have := hc.pos; omega
  have g5 := Int.fmod_nonneg_of_pos (c.r - a) p
  have g6 := Int.fmod_lt_of_pos (c.r - a) p
  have kd : -K < c.r - a ∧ c.r - a < K := by omega
  have s1 := szK kd
  have s2 := szK bm
  simp only [decide_eq_false z, brF, if_neg z, diffI lf h3 br' ka, bdS, rest_ref lf h3 (x := c.r - a) (y := c.m) (by omega) (by omega) z, sumI lf h3 ka (y := (c.r - a).fmod c.m) (by omega)]
end
end Go.N
namespace Go.N
open Go Go.Q Go.Rx
def belowC (c : Cg) (a : Int) : Option Int := if c.m = 0 then (if a < c.r then none else some c.r) else some (a - (a - c.r).fmod c.m)
theorem clsF_in {m r : Int} (h0 : 0 ≤ m) (hm : -C < m ∧ m < C) (hr : -C < r ∧ r < C) : clsF m r = ⟨false, m, if m = 0 then r else r.fmod m⟩ := by
 have e : (m.natAbs : Int) = m := by omega
 unfold clsF
 rw [e]
 have s1 := (sz_C m).2 hm
 have s2 : sz (if m = 0 then r else r.fmod m) ≤ 100 := by
  apply (sz_C _).2
  split
  ·exact hr
  ·have a := Int.fmod_nonneg_of_pos r (show 0 < m by omega)
   have b := Int.fmod_lt_of_pos r (show 0 < m by omega)
   omega
 rw [if_neg (by omega)]
theorem below_neg {c : Cg} (hc : WfC c) (he : c.em = false) (a : Int) : belowC c a = (aboveC (negC c) (-a)).map fun v => -v := by
 have e : negC c = ⟨false, c.m, if c.m = 0 then -c.r else (-c.r).fmod c.m⟩ := by
  unfold negC
  rw [if_neg (by simp [he])]
  exact clsF_in hc.pos hc.m (by have := hc.r; omega)
 rw [e]
 unfold belowC aboveC
 simp only
 by_cases z : c.m = 0
 ·simp only [z, if_true]
  by_cases h : a < c.r
  ·rw [if_pos h, if_pos (by omega)]; rfl
  ·rw [if_neg h, if_neg (by omega)]; simp
 ·have p : 0 < c.m := by have := hc.pos; omega
  simp only [if_neg z, Option.map_some]
  have k : ((-c.r).fmod c.m - -a).fmod c.m = (a - c.r).fmod c.m := by
   have h1 := fmod_sub (x := (-c.r).fmod c.m) (y := -a) p
   have h2 := fmod_sub (x := -c.r) (y := -a) p
   have h3 : ((-c.r).fmod c.m).fmod c.m = (-c.r).fmod c.m := by
    rw [Int.fmod_eq_emod_of_nonneg _ (Int.le_of_lt p), Int.fmod_eq_emod_of_nonneg _ (Int.le_of_lt p), Int.emod_emod]
   rw [← h1, h3, h2]
   congr 1; omega
  rw [k]
  congr 1; omega
section
variable (lf : Nat) (hb : Big lf) {c : Cg} (hc : WfC c) (he : c.em = false) {a : Int} (ha : -Dd < a ∧ a < Dd)
include hb hc he ha
theorem below_c : surveyorref22_Below.f lf (cc c) (bs (Lib.itoa a)) = some (match belowC c a with
  | none => (bs [], false, ())
  | some v => (bs (Lib.itoa v), true, ())) := by
 have hD := DD_K
 have hC := C_gt
 have hCD := C_lt_Dd
 have h4 : 0 ≤ Dd * Dd := Int.mul_nonneg (by omega) (by omega)
 have ne : (negC c).em = false := by
  have : negC c = ⟨false, c.m, if c.m = 0 then -c.r else (-c.r).fmod c.m⟩ := by
   unfold negC
   rw [if_neg (by simp [he])]
   exact clsF_in hc.pos hc.m (by have := hc.r; omega)
  rw [this]
 have ab := above_c lf hb negC_wf ne (a := -a) (by omega)
 rw [surveyorref22_Below.f, negative_c lf hb hc, bdS, negated_ref lf (z := a) (by omega), bdS, ab, bdS, below_neg hc he]
 cases h : aboveC (negC c) (-a) with
 | none => simp only [Bool.not_false, brT, Option.map_none]
 | some v =>
  have kv : -K < v ∧ v < K := by
   unfold aboveC at h
   have w := negC_wf (c := c)
   have m1 := w.m
   have r1 := w.r
   split at h
   ·split at h
    ·cases h
    ·injection h with h; omega
   ·rename_i z
    have p : 0 < (negC c).m := by have := w.pos; omega
    have g5 := Int.fmod_nonneg_of_pos ((negC c).r - -a) p
    have g6 := Int.fmod_lt_of_pos ((negC c).r - -a) p
    injection h with h
    omega
  simp only [Bool.not_true, brF, Option.map_some, negated_ref lf kv, bdS]
theorem greatest_c : congruence_Greatest.f lf (cc c) (bs (Lib.itoa a)) = some (match belowC c a with
  | none => (bs [], 6, ())
  | some v => (bs (Lib.itoa v), 0, ())) := by
 have hlf := hb.1
 have hD := DD_K
 have hC := C_gt
 have hCD := C_lt_Dd
 have h4 : 0 ≤ Dd * Dd := Int.mul_nonneg (by omega) (by omega)
 have ka : -K < a ∧ a < K := by omega
 have hl := okb_len ka
 have m1 := hc.m
 have r1 := hc.r
 have bm := CK hc.m
 have br' := CK hc.r
 rw [congruence_Greatest.f, ccheck lf hb hc, bdS]
 simp only [bne_self_eq_false, brF, check_f lf (Lib.itoa a) (by omega), chkK ka, bdS]
 rw [cc_ne he]
 simp only [brF, beq0]
 unfold belowC
 by_cases z : c.m = 0
 ·rw [decide_eq_true z, Bool.not_true, brF, if_pos z, less_c lf _ _ (chkK ka) (chkK br') (by omega), iv_itoa, iv_itoa, bdS]
  simp only
  by_cases h : a < c.r
  ·rw [decide_eq_true h, brT, if_pos h]
  ·rw [decide_eq_false h, brF, if_neg h]
 ·have p : 0 < c.m := by have := hc.pos; omega
  have k1 := rest_K br' bm z
  have k2 := rest_K ka bm z
  have g1 := Int.fmod_nonneg_of_pos c.r p
  have g2 := Int.fmod_lt_of_pos c.r p
  have g3 := Int.fmod_nonneg_of_pos a p
  have g4 := Int.fmod_lt_of_pos a p
  have k3 : -K < a.fmod c.m - c.r.fmod c.m ∧ a.fmod c.m - c.r.fmod c.m < K := by omega
  have g5 := Int.fmod_nonneg_of_pos (a - c.r) p
  have g6 := Int.fmod_lt_of_pos (a - c.r) p
  have kf : -K < (a - c.r).fmod c.m ∧ (a - c.r).fmod c.m < K := by omega
  have kd : -K < a - (a - c.r).fmod c.m ∧ a - (a - c.r).fmod c.m < K := by omega
  have sd := (sz_K _).2 kd
  have sb := sub_f lf _ _ (chkK ka) (chkK kf) (by omega)
  rw [iv_itoa, iv_itoa, dlen_sz, if_neg (by omega)] at sb
  rw [decide_eq_false z, Bool.not_false, brT, if_neg z, congruence_modulo.f, rem_small lf hlf ka bm z, bdS]
  simp only [bne_self_eq_false, brF, rem_small lf hlf br' bm z, bdS, csub_f lf hb k2 k1 k3, rem_small lf hlf k3 bm z, fmod_sub p, sb]
end
end Go.N
namespace Go.N
open Go Go.Q Go.Rx
end Go.N
namespace Go.N
open Go Go.Q Go.Rx
end Go.N
namespace Go.N
open Go Go.Q Go.Rx
structure Vl where
 a : A
 c : Cg
deriving DecidableEq
abbrev VV : Type := IV × (IV × Unit)
def vc (v : Vl) : VV := (ac v.a, cc v.c, ())
def Ev : Vl := ⟨E0, Ec⟩
def onev (z : Int) : Vl := ⟨⟨false, some z, some z⟩, ⟨false, 0, z⟩⟩
def loC (c : Cg) (a : Int) : Int := a + (c.r - a).fmod c.m
def hiC (c : Cg) (a : Int) : Int := a - (a - c.r).fmod c.m
def fin3 (x y : Option Int) (c : Cg) : Vl := match x, y with
 | some x, some y => if y < x then Ev else if x = y then onev x else ⟨⟨false, clip x, clip y⟩, c⟩
 | x, y => ⟨⟨false, x.bind clip, y.bind clip⟩, c⟩
def red (a : A) (c : Cg) : Vl := if a.em = true then Ev else if c.em = true then Ev else if c.m = 0 then (if inS (ofA a) c.r = true then onev c.r else Ev) else fin3 (a.lo.map (loC c)) (a.hi.map (hiC c)) c
structure WfV (v : Vl) : Prop where
 a : Wf v.a
 c : WfC v.c
 red : red v.a v.c = v
theorem lo_m {c : Cg} (p : 0 < c.m) (a : Int) : a ≤ loC c a ∧ loC c a < a + c.m := by
 have := Int.fmod_nonneg_of_pos (c.r - a) p
 have := Int.fmod_lt_of_pos (c.r - a) p
 unfold loC; omega
theorem hi_m {c : Cg} (p : 0 < c.m) (a : Int) : hiC c a ≤ a ∧ a - c.m < hiC c a := by
 have := Int.fmod_nonneg_of_pos (a - c.r) p
 have := Int.fmod_lt_of_pos (a - c.r) p
 unfold hiC; omega
theorem fmod0 {m a : Int} (p : 0 < m) : a.fmod m = 0 ↔ m ∣ a := by
 rw [Int.fmod_eq_emod_of_nonneg _ (Int.le_of_lt p)]
 exact ⟨Int.dvd_of_emod_eq_zero, Int.emod_eq_zero_of_dvd⟩
theorem fmod_dvd {m : Int} (p : 0 < m) (a : Int) : m ∣ a - a.fmod m := by
 rw [Int.fmod_eq_emod_of_nonneg _ (Int.le_of_lt p)]
 exact Int.dvd_self_sub_emod
theorem in_iff {c : Cg} (he : c.em = false) (hp : 0 ≤ c.m) {z : Int} : inC c z = true ↔ c.m ∣ z - c.r := by
 unfold inC dvd'
 rw [he]
 by_cases h : c.m = 0
 ·rw [if_pos h, h]; simp
 ·rw [if_neg h]
  simp only [Bool.not_false, Bool.true_and, decide_eq_true_eq]
  exact fmod0 (by omega)
theorem lo_in {c : Cg} (p : 0 < c.m) (a : Int) : c.m ∣ loC c a - c.r := by
 obtain ⟨k, hk⟩ := fmod_dvd p (c.r - a)
 exact ⟨-k, by unfold loC; rw [Int.mul_neg, ← hk]; omega⟩
theorem hi_in {c : Cg} (p : 0 < c.m) (a : Int) : c.m ∣ hiC c a - c.r := by
 obtain ⟨k, hk⟩ := fmod_dvd p (a - c.r)
 exact ⟨k, by unfold hiC; rw [← hk]; omega⟩
theorem lo_fix {c : Cg} (p : 0 < c.m) {a : Int} (h : c.m ∣ a - c.r) : loC c a = a := by
 have : (c.r - a).fmod c.m = 0 := (fmod0 p).2 (by have := Int.dvd_neg.2 h; rwa [Int.neg_sub] at this)
 unfold loC; omega
theorem hi_fix {c : Cg} (p : 0 < c.m) {a : Int} (h : c.m ∣ a - c.r) : hiC c a = a := by
 have : (a - c.r).fmod c.m = 0 := (fmod0 p).2 h
 unfold hiC; omega
theorem lo_least {c : Cg} (p : 0 < c.m) {a z : Int} (h : c.m ∣ z - c.r) (hz : a ≤ z) : loC c a ≤ z := by
 have l := lo_in p a
 have b := lo_m p a
 obtain ⟨k, hk⟩ := Int.dvd_sub h l
 have : -1 < k := by
  by_cases q : -1 < k
  ·exact q
  ·have := Int.mul_le_mul_of_nonneg_left (show k ≤ -1 by omega) (Int.le_of_lt p)
   omega
 have := Int.mul_nonneg (Int.le_of_lt p) (show 0 ≤ k by omega)
 omega
theorem hi_most {c : Cg} (p : 0 < c.m) {a z : Int} (h : c.m ∣ z - c.r) (hz : z ≤ a) : z ≤ hiC c a := by
 have l := hi_in p a
 have b := hi_m p a
 obtain ⟨k, hk⟩ := Int.dvd_sub h l
 have : k < 1 := by
  by_cases q : k < 1
  ·exact q
  ·have := Int.mul_le_mul_of_nonneg_left (show 1 ≤ k by omega) (Int.le_of_lt p)
   omega
 have := Int.mul_nonneg (Int.le_of_lt p) (show 0 ≤ -k by omega)
 rw [Int.mul_neg] at this
 omega
theorem clip_some {z : Int} (h : -C < z ∧ z < C) : clip z = some z := if_pos h
theorem clip_none {z : Int} (h : ¬ (-C < z ∧ z < C)) : clip z = none := if_neg h
theorem Wf.inS {a : A} (h : Wf a) (he : a.em = false) {z : Int} (hz : -K < z ∧ z < K) : inS (ofA a) z = true ↔ (∀ l, a.lo = some l → l ≤ z) ∧ ∀ u, a.hi = some u → z ≤ u := by
 unfold Go.N.inS ofA
 rw [he, if_neg (by simp)]
 simp only [Bool.and_eq_true, decide_eq_true_eq]
 cases a.lo with
 | none => cases a.hi with
  | none => simp [lox, hix, key]; omega
  | some u => simp [lox, hix, key]; omega
 | some l => cases a.hi with
  | none => simp [lox, hix, key]; omega
  | some u => simp [lox, hix, key]
theorem onev_wf {z : Int} (hz : -C < z ∧ z < C) : Wf (onev z).a ∧ WfC (onev z).c := by
 have hC := C_gt
 exact ⟨⟨fun h => by simp [onev] at h, hz, hz, Int.le_refl _⟩, ⟨by simp only [onev]; omega, hz, by simp [onev], fun h => absurd rfl h⟩⟩
theorem Ev_wf : Wf Ev.a ∧ WfC Ev.c := ⟨wf_E0, Ec_wf⟩
theorem onev_red {z : Int} (hz : -C < z ∧ z < C) : red (onev z).a (onev z).c = onev z := by
 have h : inS (ofA (onev z).a) z = true := by
  unfold inS ofA onev
  simp [lox, hix, key]
 unfold red
 rw [if_neg (by simp [onev]), if_neg (by simp [onev]), if_pos (by rfl)]
 exact if_pos h
theorem Ev_red : red Ev.a Ev.c = Ev := if_pos rfl
theorem onev_V {z : Int} (hz : -C < z ∧ z < C) : WfV (onev z) := ⟨(onev_wf hz).1, (onev_wf hz).2, onev_red hz⟩
theorem Ev_V : WfV Ev := ⟨Ev_wf.1, Ev_wf.2, Ev_red⟩
theorem fin3_V {c : Cg} (hc : WfC c) (he : c.em = false) (hm : c.m ≠ 0) {x y : Option Int} (hx : ∀ v, x = some v → c.m ∣ v - c.r) (hy : ∀ v, y = some v → c.m ∣ v - c.r) (bd : ∀ v u, x = some v → y = some u → v = u → -C < v ∧ v < C) : WfV (fin3 x y c) := by
 have p : 0 < c.m := by have := hc.pos; omega
 have key3 : ∀ u v : Option Int, (∀ z, u = some z → (-C < z ∧ z < C) ∧ c.m ∣ z - c.r) → (∀ z, v = some z → (-C < z ∧ z < C) ∧ c.m ∣ z - c.r) → (∀ z w, u = some z → v = some w → z < w) → WfV ⟨⟨false, u, v⟩, c⟩ := by
  intro u v hu hv huv
  refine ⟨⟨fun h => by simp at h, ?_, ?_, ?_⟩, hc, ?_⟩
  ·cases u with
   | none => trivial
   | some z => exact (hu z rfl).1
  ·cases v with
   | none => trivial
   | some z => exact (hv z rfl).1
  ·cases u with
   | none => trivial
   | some z => cases v with
    | none => trivial
    | some w => exact Int.le_of_lt (huv z w rfl rfl)
  ·unfold red
   rw [if_neg (by simp), if_neg (by simp [he]), if_neg hm]
   cases u with
   | none => cases v with
    | none => rfl
    | some w =>
     simp only [Option.map, hi_fix p (hv w rfl).2, fin3, Option.bind, clip_some (hv w rfl).1]
   | some z => cases v with
    | none => simp only [Option.map, lo_fix p (hu z rfl).2, fin3, Option.bind, clip_some (hu z rfl).1]
    | some w =>
     have := huv z w rfl rfl
     simp only [Option.map, lo_fix p (hu z rfl).2, hi_fix p (hv w rfl).2, fin3, clip_some (hu z rfl).1, clip_some (hv w rfl).1]
     rw [if_neg (by omega), if_neg (by omega)]
 have cl : ∀ z w, clip z = some w → w = z ∧ -C < z ∧ z < C := by
  intro z w h
  unfold clip at h; split at h
  ·cases h; exact ⟨rfl, by assumption⟩
  ·cases h
 cases x with
 | none => cases y with
  | none => exact key3 none none (fun z h => by cases h) (fun z h => by cases h) (fun z w h => by cases h)
  | some w => exact key3 none (clip w) (fun z h => by cases h) (fun z h => by obtain ⟨rfl, h⟩ := cl _ _ h; exact ⟨h, hy _ rfl⟩) (fun z w h => by cases h)
 | some z => cases y with
  | none => exact key3 (clip z) none (fun z h => by obtain ⟨rfl, h⟩ := cl _ _ h; exact ⟨h, hx _ rfl⟩) (fun z h => by cases h) (fun z w _ h => by cases h)
  | some w =>
   unfold fin3
   simp only
   by_cases h1 : w < z
   ·rw [if_pos h1]; exact Ev_V
   ·rw [if_neg h1]
    by_cases h2 : z = w
    ·rw [if_pos h2]; exact onev_V (bd z w rfl rfl h2)
    ·rw [if_neg h2]
     exact key3 (clip z) (clip w) (fun z h => by obtain ⟨rfl, h⟩ := cl _ _ h; exact ⟨h, hx _ rfl⟩) (fun z h => by obtain ⟨rfl, h⟩ := cl _ _ h; exact ⟨h, hy _ rfl⟩) (fun u v hu hv => by obtain ⟨rfl, _⟩ := cl _ _ hu; obtain ⟨rfl, _⟩ := cl _ _ hv; omega)
theorem red_V {a : A} {c : Cg} (ha : Wf a) (hc : WfC c) : WfV (red a c) := by
 unfold red
 by_cases e1 : a.em = true
 ·rw [if_pos e1]; exact Ev_V
 ·by_cases e2 : c.em = true
  ·rw [if_neg e1, if_pos e2]; exact Ev_V
  ·rw [if_neg e1, if_neg e2]
   by_cases z : c.m = 0
   ·rw [if_pos z]
    split
    ·exact onev_V hc.r
    ·exact Ev_V
   ·rw [if_neg z]
    have p : 0 < c.m := by have := hc.pos; omega
    have e2 : c.em = false := by simpa using e2
    refine fin3_V hc e2 z ?_ ?_ ?_
    ·intro v h
     cases hl : a.lo with
     | none => rw [hl] at h; cases h
     | some l => rw [hl] at h; cases h; exact lo_in p l
    ·intro v h
     cases hl : a.hi with
     | none => rw [hl] at h; cases h
     | some l => rw [hl] at h; cases h; exact hi_in p l
    ·intro v u h1 h2 h3
     have lk := ha.lo
     have hk := ha.hi
     cases hl : a.lo with
     | none => rw [hl] at h1; cases h1
     | some l =>
      cases hh : a.hi with
      | none => rw [hh] at h2; cases h2
      | some k =>
       rw [hl] at h1 lk; rw [hh] at h2 hk
       cases h1; cases h2
       have := lo_m p l
       have := hi_m p k
       simp only [okb] at lk hk
       omega
end Go.N
namespace Go.N
open Go Go.Q Go.Rx
theorem inC_em {c : Cg} {z : Int} (h : inC c z = true) : c.em = false := by unfold inC at h; revert h; cases c.em <;> simp
theorem inC_dvd {c : Cg} (hc : WfC c) {z : Int} (h : inC c z = true) : c.m ∣ z - c.r := (in_iff (inC_em h) hc.pos).1 h
theorem clsF_or (m r : Int) : clsF m r = topC ∨ clsF m r = ⟨false, (m.natAbs : Int), if m = 0 then r else r.fmod (m.natAbs : Int)⟩ := by
 unfold clsF
 by_cases h : sz (m.natAbs : Int) > 100 ∨ sz (if m = 0 then r else r.fmod (m.natAbs : Int)) > 100
 ·exact .inl (if_pos h)
 ·exact .inr (if_neg h)
section
variable {c d : Cg} (hc : WfC c) (hd : WfC d) {z w : Int} (hz : inC c z = true) (hw : inC d w = true)
include hc hd hz hw
end
theorem dvd_iff (m a : Int) (h : 0 ≤ m) : dvd' m a = true ↔ m ∣ a := by
 unfold dvd'
 by_cases h0 : m = 0
 ·rw [if_pos h0, h0]; simp
 ·rw [if_neg h0, decide_eq_true_eq]; exact fmod0 (by omega)
theorem inside_iff {c d : Cg} (hd : WfC d) (h1 : c.em = false) (h2 : d.em = false) : insideC c d = true ↔ d.m ∣ c.m ∧ d.m ∣ c.r - d.r := by
 unfold insideC
 rw [if_neg (by simp [h1]), if_neg (by simp [h2]), Bool.and_eq_true, dvd_iff _ _ hd.pos, dvd_iff _ _ hd.pos]
theorem inside_in {c d : Cg} (hc : WfC c) (hd : WfC d) (h : insideC c d = true) {z : Int} (hz : inC c z = true) : inC d z = true := by
 have e := inC_em hz
 have e2 : d.em = false := by
  unfold insideC at h
  rw [if_neg (by simp [e])] at h
  revert h; cases d.em <;> simp
 obtain ⟨a, b⟩ := (inside_iff hd e e2).1 h
 refine (in_iff e2 hd.pos).2 ?_
 have := Int.dvd_add (Int.dvd_trans a (inC_dvd hc hz)) b
 rwa [show z - c.r + (c.r - d.r) = z - d.r by omega] at this
theorem inside_refl {c : Cg} (hc : WfC c) : insideC c c = true := by
 cases e : c.em with
 | true => unfold insideC; rw [if_pos e]
 | false => exact (inside_iff hc e e).2 ⟨Int.dvd_refl _, by simp⟩
theorem inside_em {c d : Cg} (h : c.em = true) : insideC c d = true := if_pos h
theorem inside_clsF {c : Cg} (he : c.em = false) {m r : Int} (h1 : m ∣ c.m) (h2 : m ∣ c.r - r) : insideC c (clsF m r) = true := by
 have w := clsF_wf (m := m) (r := r)
 rcases clsF_or m r with e | e
 ·rw [e]; exact (inside_iff topC_wf he rfl).2 ⟨Int.one_dvd _, Int.one_dvd _⟩
 ·rw [e] at w ⊢
  refine (inside_iff w he rfl).2 ⟨Int.natAbs_dvd.2 h1, ?_⟩
  simp only
  by_cases h0 : m = 0
  ·rw [if_pos h0]; exact Int.natAbs_dvd.2 h2
  ·rw [if_neg h0]
   have d := fmod_dvd (show 0 < (m.natAbs : Int) by omega) r
   have := Int.dvd_add (Int.natAbs_dvd.2 h2) d
   rwa [show c.r - r + (r - r.fmod (m.natAbs : Int)) = c.r - r.fmod (m.natAbs : Int) by omega] at this
theorem inside_joinL {c d : Cg} (hc : WfC c) : insideC c (joinC c d) = true := by
 cases e : c.em with
 | true => exact inside_em e
 | false =>
  unfold joinC
  rw [if_neg (by simp [e])]
  split
  ·exact inside_refl hc
  ·exact inside_clsF e (Int.dvd_trans (Int.gcd_dvd_left _ _) (Int.gcd_dvd_left _ _)) (by simp)
theorem inside_joinR {c d : Cg} (hd : WfC d) : insideC d (joinC c d) = true := by
 cases e : d.em with
 | true => exact inside_em e
 | false =>
  unfold joinC
  split
  ·exact inside_refl hd
  ·rw [if_neg (by simp [e])]
   refine inside_clsF e (Int.dvd_trans (Int.gcd_dvd_left _ _) (Int.gcd_dvd_right _ _)) ?_
   have := Int.dvd_neg.2 (Int.gcd_dvd_right (Int.gcd c.m d.m : Int) (c.r - d.r))
   rwa [show -(c.r - d.r) = d.r - c.r by omega] at this
theorem cc_inj {c d : Cg} (h : cc c = cc d) : c.em = d.em ∧ (c.em = false → c = d) := by
 unfold cc at h
 cases e1 : c.em with
 | true => cases e2 : d.em with
  | true => exact ⟨rfl, nofun⟩
  | false => rw [if_pos e1, if_neg (by simp [e2])] at h; have := congrArg Prod.fst h; simp at this
 | false => cases e2 : d.em with
  | true => rw [if_neg (by simp [e1]), if_pos e2] at h; have := congrArg Prod.fst h; simp at this
  | false =>
   rw [if_neg (by simp [e1]), if_neg (by simp [e2])] at h
   simp only [Prod.mk.injEq] at h
   refine ⟨rfl, fun _ => ?_⟩
   have h1 := itoa_inj (bs_inj h.2.1)
   have h2 := itoa_inj (bs_inj h.2.2.1)
   cases c; cases d; simp_all
end Go.N
namespace Go.N
open Go Go.Q Go.Rx
def Ch (x : Cg) (n lim : Int) : Prop :=
 (x.em = true ∧ n = 0 ∧ lim = 2) ∨ (x.em = false ∧ x.m = 0 ∧ n ≤ 1 ∧ lim = 2) ∨ (x.em = false ∧ 0 < x.m ∧ ∃ k : Nat, x.m < 2 ^ k ∧ n + k ≤ lim)
theorem Ch.le {x : Cg} {n lim : Int} (h : Ch x n lim) : n ≤ lim := by
 rcases h with ⟨_, h1, h2⟩ | ⟨_, _, h1, h2⟩ | ⟨_, _, k, _, h2⟩ <;> omega
theorem sz_pos (z : Int) : 0 < sz z := by
 by_cases h : 0 < sz z
 ·exact h
 ·have := (sz_le z 1 (by omega)).1 (by omega)
  have e : body (Lib.itoa z) = Lib.decDigits z.natAbs := body_itoa z
  unfold sz nlen at h
  rw [e] at h
  have := dec_ne z.natAbs
  cases hd : Lib.decDigits z.natAbs with
  | nil => exact absurd hd this
  | cons a b => rw [hd] at h; simp at h
theorem two_pow (m : Int) (h : 0 < m) : m < 2 ^ (4 * sz m) := by
 have h1 := (sz_le m (sz m) (sz_pos m)).1 (Nat.le_refl _)
 have h2 : (10 : Nat) ^ sz m ≤ 16 ^ sz m := Nat.pow_le_pow_left (by omega) _
 have h3 : (2 : Nat) ^ (4 * sz m) = 16 ^ sz m := by rw [Nat.pow_mul]
 have h4 : ((2 : Int) ^ (4 * sz m)) = ((2 ^ (4 * sz m) : Nat) : Int) := by simp
 rw [h4, h3]; omega
def limC (x y : Cg) (n lim : Int) : Int := if y.em = false ∧ y.m ≠ 0 ∧ (x.em = true ∨ x.m = 0) then n + 4 * sz y.m else lim
theorem clsF_m {m r : Int} (hm : m ≠ 0) : 0 < (clsF m r).m := by
 rcases clsF_or m r with e | e <;> rw [e]
 ·decide
 ·simp only; omega
theorem clsF_ne {m r : Int} : (clsF m r).em = false := by
 rcases clsF_or m r with e | e <;> rw [e] <;> rfl
theorem Ch.same {x y : Cg} {n lim : Int} (h : Ch x n lim) (e : cc y = cc x) : Ch y n lim := by
 obtain ⟨e1, e2⟩ := cc_inj e
 cases ey : y.em with
 | false => rw [e2 ey]; exact h
 | true =>
  rw [ey] at e1
  rcases h with ⟨_, h⟩ | ⟨h, _⟩ | ⟨h, _⟩
  ·exact .inl ⟨ey, h⟩
  ·rw [← e1] at h; cases h
  ·rw [← e1] at h; cases h
theorem chain_step {x a : Cg} (hx : WfC x) (ha : WfC a) {n lim : Int} (h : Ch x n lim) :
  cc (joinC x a) = cc x ∨ Ch (joinC x a) (n + 1) (limC x (joinC x a) (n + 1) lim) := by
 rcases h with ⟨e, h1, h2⟩ | ⟨e, m0, h1, h2⟩ | ⟨e, mp, k, h1, h2⟩
 ·have j : joinC x a = a := if_pos e
  rw [j]
  cases ea : a.em with
  | true =>
   left
   rw [cc_em ea, cc_em e]
  | false =>
   right
   unfold limC
   by_cases z : a.m = 0
   ·rw [if_neg (by simp [z])]
    exact .inr (.inl ⟨ea, z, by omega, h2⟩)
   ·rw [if_pos ⟨ea, z, .inl e⟩]
    have p : 0 < a.m := by have := ha.pos; omega
    exact .inr (.inr ⟨ea, p, 4 * sz a.m, two_pow _ p, by omega⟩)
 ·cases ea : a.em with
  | true => left; unfold joinC; rw [if_neg (by simp [e]), if_pos ea]
  | false =>
   have j : joinC x a = clsF (Int.gcd (Int.gcd x.m a.m) (x.r - a.r)) x.r := by unfold joinC; rw [if_neg (by simp [e]), if_neg (by simp [ea])]
   rw [j]
   by_cases z : (Int.gcd (Int.gcd x.m a.m) (x.r - a.r) : Int) = 0
   ·left
    rw [z, clsF_in (Int.le_refl 0) (by have := C_gt; omega) hx.r, if_pos rfl]
    congr 1; rw [← m0]; cases x; simp_all
   ·right
    have p := clsF_m (r := x.r) z
    unfold limC
    rw [if_pos ⟨clsF_ne, by omega, .inr m0⟩]
    exact .inr (.inr ⟨clsF_ne, p, _, two_pow _ p, by omega⟩)
 ·cases ea : a.em with
  | true => left; unfold joinC; rw [if_neg (by simp [e]), if_pos ea]
  | false =>
   have j : joinC x a = clsF (Int.gcd (Int.gcd x.m a.m) (x.r - a.r)) x.r := by unfold joinC; rw [if_neg (by simp [e]), if_neg (by simp [ea])]
   have d : (Int.gcd (Int.gcd x.m a.m) (x.r - a.r) : Int) ∣ x.m := Int.dvd_trans (Int.gcd_dvd_left _ _) (Int.gcd_dvd_left _ _)
   rw [j]
   revert d
   generalize (Int.gcd (Int.gcd x.m a.m) (x.r - a.r)) = g
   intro d
   have gp : 0 < (g : Int) := by
    by_cases q : (g : Int) = 0
    ·rw [q] at d; have := Int.zero_dvd.1 d; omega
    ·omega
   have gl := Int.le_of_dvd mp d
   obtain ⟨r0, r1⟩ := hx.rng (by omega)
   have cl : clsF g x.r = ⟨false, g, x.r.fmod g⟩ := by
    rw [clsF_in (by omega) (by have := hx.m; omega) hx.r, if_neg (by omega)]
   rw [cl]
   by_cases q : (g : Int) = x.m
   ·left
    rw [q, Int.fmod_eq_emod_of_nonneg _ (by omega), Int.emod_eq_of_lt r0 r1]
    congr 1; cases x; simp_all
   ·right
    obtain ⟨c, hc⟩ := d
    have c2 : 2 ≤ c := by
     by_cases c2 : 2 ≤ c
     ·exact c2
     ·have : c ≤ 1 := by omega
      have := Int.mul_le_mul_of_nonneg_left this (Int.le_of_lt gp)
      rw [Int.mul_one] at this; omega
    have h3 := Int.mul_le_mul_of_nonneg_left c2 (Int.le_of_lt gp)
    have k0 : k ≠ 0 := by rintro rfl; simp at h1; omega
    obtain ⟨l, rfl⟩ := Nat.exists_eq_succ_of_ne_zero k0
    have h4 : (2 : Int) ^ (l + 1) = 2 ^ l * 2 := by rw [Int.pow_succ]
    rw [show l.succ = l + 1 from rfl, h4] at h1
    unfold limC
    rw [if_neg (by simp only; simp [e]; omega)]
    exact .inr (.inr ⟨rfl, gp, l, by simp only; omega, by omega⟩)
end Go.N
namespace Go.N
open Go Go.Q Go.Rx
abbrev Nb : Type := Bool × (List Int × Unit)
theorem RN.natAbs {p : Nb} {z : Int} {k : Nat} (h : RN p z k) : lv G p.2.1 = (z.natAbs : Int) := by
 have := h.val
 have := lv_nonneg (B := G) (by decide) h.dg
 split at * <;> omega
theorem RN.nil {p : Nb} {k : Nat} (h : RN p 0 k) : p.2.1 = [] := (lv_eq_zero (B := G) (by decide) h.dg h.tr).1 (by rw [h.natAbs]; rfl)
theorem RN.ne {p : Nb} {z : Int} {k : Nat} (h : RN p z k) (h0 : z ≠ 0) : 0 < p.2.1.length := by
 refine List.length_pos_iff.2 fun e => h0 ?_
 have := h.natAbs
 rw [e] at this
 simp only [lv] at this
 omega
section
variable (lf : Nat) (hlf : 2000000000 ≤ lf) {a b : Int} (hb : b < C)
include hlf hb
end
end Go.N
namespace Go.N
open Go Go.Q Go.Rx
section
variable {c d : Cg} (hc : WfC c) (hd : WfC d) (ec : c.em = false) (ed : d.em = false)
include hc hd ec ed
end
end Go.N
namespace Go.N
open Go Go.Q Go.Rx
section
variable (lf : Nat) (hb : Big lf) {a b : Int} (ha : 0 < a ∧ a < C) (hbb : 0 < b ∧ b < C)
include hb ha hbb
end
section
variable (lf : Nat) (hb : Big lf) {c d : Cg} (hc : WfC c) (hd : WfC d)
include hb hc hd
end
end Go.N
namespace Go.N
open Go Go.Q Go.Rx
theorem clipV (lf : Nat) {o : Option Int} (h : okb K o) : value_clip.f lf (ob o) = some (ob (o.bind clip), ()) := by
 rw [value_clip.f]
 cases o with
 | none => rw [show ob none = bs [] from rfl, trimPrefix_f, bdS, bs_size, show body [] = [] from rfl, decide_eq_false (by simp), brF]; rfl
 | some z =>
  have hl := okb_len h
  rw [show ob (some z) = bs (Lib.itoa z) from rfl, trimPrefix_f, bdS, bs_size]
  have e : (((body (Lib.itoa z)).length : Nat) : Int) = (sz z : Int) := rfl
  simp only [e, Option.bind]
  by_cases c : -C < z ∧ z < C
  ·have := (sz_C z).2 c
   rw [decide_eq_false (by omega), brF, clip_some c]; rfl
  ·have : ¬ sz z ≤ 100 := fun x => c ((sz_C z).1 x)
   rw [decide_eq_true (by omega), brT, clip_none c]; rfl
set_option exponentiation.threshold 5000 in
theorem C2_Dd : C + C < Dd := by
 have e : (10 ^ 100 + 10 ^ 100 : Nat) < 10 ^ 1000 := by
  have : (10 : Nat) ^ 1000 = 10 ^ 100 * 10 ^ 900 := by rw [← Nat.pow_add]
  rw [this]
  have : (2 : Nat) < 10 ^ 900 := Nat.lt_of_lt_of_le (show (2 : Nat) < 10 ^ 1 by decide) (Nat.pow_le_pow_right (by decide) (by decide))
  have h := Nat.mul_lt_mul_of_pos_left this (show 0 < 10 ^ 100 by exact Nat.pow_pos (by decide))
  omega
 unfold C Dd; exact Int.ofNat_lt.2 e
theorem evV : ((((true, (⟨#[]⟩ : ByteArray), (⟨#[]⟩ : ByteArray), ()), (true, (⟨#[]⟩ : ByteArray), (⟨#[]⟩ : ByteArray), ()), ()) : VV)) = vc Ev := rfl
theorem onV (z : Int) : (((false, bs (Lib.itoa z), bs (Lib.itoa z), ()), (false, (⟨#[48]⟩ : ByteArray), bs (Lib.itoa z), ()), ()) : VV) = vc (onev z) := by
 rw [i0]; unfold vc onev; rw [cc_ne rfl]; rfl
theorem ob_ne (x : Int) : ((bs (Lib.itoa x)).toList == (⟨#[]⟩ : ByteArray).toList) = false := by
 have := ob_beq (some x)
 rw [show ob (some x) = bs (Lib.itoa x) from rfl] at this
 rw [this]; exact decide_eq_false nofun
theorem ob_e : ((ob none).toList == (⟨#[]⟩ : ByteArray).toList) = true := by rw [ob_beq]; rfl
theorem sgn_gtd (x y : Int) : decide (sgn (x - y) > 0) = decide (y < x) := sgn_gt x y
theorem sgn_z (x y : Int) : (sgn (x - y) == 0) = decide (x = y) := by
 rw [Bool.eq_iff_iff, beq_iff_eq, decide_eq_true_eq]
 unfold sgn; (repeat' split) <;> omega
section
variable (lf : Nat) (hb : Big lf) {a : A} {c : Cg} (ha : Wf a) (hc : WfC c)
include hb ha hc
theorem lo_K {l : Int} (h : -C < l ∧ l < C) (p : 0 < c.m) : -K < loC c l ∧ loC c l < K ∧ -Dd < loC c l ∧ loC c l < Dd := by
 have := lo_m p l
 have := hc.m
 have := C_gt
 have := CC_K
 have hD := DD_K
 have hCD := C_lt_Dd
 have h4 : C * 2 ≤ C * C := Int.mul_le_mul_of_nonneg_left (by omega) (by omega)
 have h5 := C2_Dd
 have h6 := Dd_K
 omega
theorem hi_K {l : Int} (h : -C < l ∧ l < C) (p : 0 < c.m) : -K < hiC c l ∧ hiC c l < K ∧ -Dd < hiC c l ∧ hiC c l < Dd := by
 have := hi_m p l
 have := hc.m
 have := C_gt
 have h5 := C2_Dd
 have h6 := Dd_K
 omega
theorem vred_f : value_reduced.f lf (ac a) (cc c) = some (vc (red a c), ()) := by
 have hlf := hb.1
 have h3 : 200000 ≤ lf := by omega
 have hCD := C_lt_Dd
 rw [value_reduced.f]
 simp only [show (ac a).1 = a.em from rfl, show (ac a).2.1 = ob a.lo from rfl, show (ac a).2.2.1 = ob a.hi from rfl, value_empty.f, bdS, evV, value_one.f]
 unfold red
 cases ea : a.em with
 | true => simp only [brT, if_true]
 | false =>
  cases ec : c.em with
  | true => rw [cc_em ec]; simp only [brT, brF, if_true, if_false, Bool.false_eq_true]
  | false =>
   have e1 : (cc c).1 = false := by rw [cc_ne ec]
   have e2 : (cc c).2.1 = bs (Lib.itoa c.m) := by rw [cc_ne ec]
   have e3 : (cc c).2.2.1 = bs (Lib.itoa c.r) := by rw [cc_ne ec]
   simp only [brF, if_false, Bool.false_eq_true, e1, e2, e3, beq0]
   by_cases m : c.m = 0
   ·rw [decide_eq_true m, brT, if_pos m, holds_wf lf h3 ha (CK hc.r), bdS]
    simp only
    cases hi : inS (ofA a) c.r with
    | true => simp only [Bool.not_true, brF, if_true, onV]
    | false => simp only [Bool.not_false, brT, if_false, Bool.false_eq_true]
   ·have p : 0 < c.m := by have := hc.pos; omega
    rw [decide_eq_false m, brF, if_neg m]
    have kl := ha.lo
    have kh := ha.hi
    have L := fun {l : Int} (h : -C < l ∧ l < C) => least_c lf hb hc ec (a := l) (by omega)
    have G' := fun {l : Int} (h : -C < l ∧ l < C) => greatest_c lf hb hc ec (a := l) (by omega)
    have ab : ∀ l, aboveC c l = some (loC c l) := fun l => if_neg m
    have be : ∀ l, belowC c l = some (hiC c l) := fun l => if_neg m
    have cN := clipV lf (o := none) trivial
    cases hl : a.lo with
    | none => cases hh : a.hi with
     | none => simp only [ob_e, Bool.not_true, brF, cN, bdS, Option.map, fin3]; rfl
     | some u =>
      rw [hh] at kh
      have g := G' kh
      rw [be] at g
      have kk := hi_K lf hb ha hc kh p
      have cU := clipV lf (o := some (hiC c u)) ⟨kk.1, kk.2.1⟩
      simp only [show ob (some u) = bs (Lib.itoa u) from rfl, show ob (some (hiC c u)) = bs (Lib.itoa (hiC c u)) from rfl] at *
      simp only [ob_e, ob_ne, Bool.not_true, Bool.not_false, brF, brT, g, cN, cU, bdS, Option.map, fin3]; rfl
    | some l =>
     rw [hl] at kl
     have g := L kl
     rw [ab] at g
     have kk := lo_K lf hb ha hc kl p
     have cL := clipV lf (o := some (loC c l)) ⟨kk.1, kk.2.1⟩
     cases hh : a.hi with
     | none =>
      simp only [show ob (some l) = bs (Lib.itoa l) from rfl, show ob (some (loC c l)) = bs (Lib.itoa (loC c l)) from rfl] at *
      simp only [ob_e, ob_ne, Bool.not_true, Bool.not_false, brF, brT, g, cN, cL, bdS, Option.map, fin3]; rfl
     | some u =>
      rw [hh] at kh
      have g2 := G' kh
      rw [be] at g2
      have kk2 := hi_K lf hb ha hc kh p
      have cU := clipV lf (o := some (hiC c u)) ⟨kk2.1, kk2.2.1⟩
      have cm := compare_f lf _ _ (chkK ⟨kk.1, kk.2.1⟩) (chkK ⟨kk2.1, kk2.2.1⟩) h3
      rw [iv_itoa, iv_itoa] at cm
      simp only [show ob (some l) = bs (Lib.itoa l) from rfl, show ob (some (loC c l)) = bs (Lib.itoa (loC c l)) from rfl, show ob (some u) = bs (Lib.itoa u) from rfl, show ob (some (hiC c u)) = bs (Lib.itoa (hiC c u)) from rfl] at *
      simp only [ob_e, ob_ne, Bool.not_true, Bool.not_false, brF, brT, g, g2, cm, bdS, sgn_gtd, sgn_z, Option.map, fin3]
      by_cases h1 : hiC c u < loC c l
      ·rw [decide_eq_true h1, brT, if_pos h1]
      ·rw [decide_eq_false h1, brF, if_neg h1]
       by_cases h2 : loC c l = hiC c u
       ·rw [decide_eq_true h2, brT, if_pos h2, onV]
       ·rw [decide_eq_false h2, brF, if_neg h2, cL, bdS, cU, bdS]; rfl
theorem rred_f : surveyorref23_Reduced.f lf (ac a) (cc c) = some (vc (red a c), ()) := by
 have hlf := hb.1
 have h3 : 200000 ≤ lf := by omega
 have hCD := C_lt_Dd
 rw [surveyorref23_Reduced.f]
 simp only [show (ac a).1 = a.em from rfl, show (ac a).2.1 = ob a.lo from rfl, show (ac a).2.2.1 = ob a.hi from rfl, surveyorref23_Empty.f, surveyorref21_None.f, surveyorref22_Empty.f, bdS, evV]
 unfold red
 cases ea : a.em with
 | true => simp only [brT, if_true]
 | false =>
  cases ec : c.em with
  | true => rw [cc_em ec]; simp only [brT, brF, if_true, if_false, Bool.false_eq_true]
  | false =>
   have e1 : (cc c).1 = false := by rw [cc_ne ec]
   have e2 : (cc c).2.1 = bs (Lib.itoa c.m) := by rw [cc_ne ec]
   have e3 : (cc c).2.2.1 = bs (Lib.itoa c.r) := by rw [cc_ne ec]
   simp only [brF, if_false, Bool.false_eq_true, e1, e2, e3, beq0]
   by_cases m : c.m = 0
   ·rw [decide_eq_true m, brT, if_pos m, in_ref lf h3 ha (CK hc.r), bdS]
    simp only
    cases hi : inS (ofA a) c.r with
    | true =>
     simp only [Bool.not_true, brF, if_true, ← onV]
     rw [cc_ne ec, m, i0]
    | false => simp only [Bool.not_false, brT, if_false, Bool.false_eq_true]
   ·have p : 0 < c.m := by have := hc.pos; omega
    rw [decide_eq_false m, brF, if_neg m]
    have kl := ha.lo
    have kh := ha.hi
    have L := fun {l : Int} (h : -C < l ∧ l < C) => above_c lf hb hc ec (a := l) (by omega)
    have G' := fun {l : Int} (h : -C < l ∧ l < C) => below_c lf hb hc ec (a := l) (by omega)
    have ab : ∀ l, aboveC c l = some (loC c l) := fun l => if_neg m
    have be : ∀ l, belowC c l = some (hiC c l) := fun l => if_neg m
    have toL : ∀ x y : Option Int, okb K x → okb K y → gt? x y = false → toA ⟨lox x, hix y⟩ = ⟨false, x.bind clip, y.bind clip⟩ := by
     intro x y hx hy h
     unfold toA; rw [emp_lh hx hy, h, if_neg (by simp), tx_lox, tx_hix]
    cases hl : a.lo with
    | none => cases hh : a.hi with
     | none =>
      simp only [ob_e, Bool.not_true, brF, range_f lf h3 none none trivial trivial, toL none none trivial trivial rfl, bdS, Option.map, fin3]; rfl
     | some u =>
      rw [hh] at kh
      have g := G' kh
      rw [be] at g
      have kk := hi_K lf hb ha hc kh p
      have rg := range_f lf h3 none (some (hiC c u)) trivial ⟨kk.1, kk.2.1⟩
      rw [toL none (some (hiC c u)) trivial ⟨kk.1, kk.2.1⟩ rfl] at rg
      simp only [show ob (some u) = bs (Lib.itoa u) from rfl, show ob (some (hiC c u)) = bs (Lib.itoa (hiC c u)) from rfl] at *
      simp only [ob_e, ob_ne, Bool.not_true, Bool.not_false, brF, brT, g, rg, bdS, Option.map, fin3]; rfl
    | some l =>
     rw [hl] at kl
     have g := L kl
     rw [ab] at g
     have kk := lo_K lf hb ha hc kl p
     cases hh : a.hi with
     | none =>
      have rg := range_f lf h3 (some (loC c l)) none ⟨kk.1, kk.2.1⟩ trivial
      rw [toL (some (loC c l)) none ⟨kk.1, kk.2.1⟩ trivial rfl] at rg
      simp only [show ob (some l) = bs (Lib.itoa l) from rfl, show ob (some (loC c l)) = bs (Lib.itoa (loC c l)) from rfl] at *
      simp only [ob_e, ob_ne, Bool.not_true, Bool.not_false, brF, brT, g, rg, bdS, Option.map, fin3]; rfl
     | some u =>
      rw [hh] at kh
      have g2 := G' kh
      rw [be] at g2
      have kk2 := hi_K lf hb ha hc kh p
      have ls := lessI lf h3 (x := hiC c u) (y := loC c l) ⟨kk2.1, kk2.2.1⟩ ⟨kk.1, kk.2.1⟩
      have rg := range_f lf h3 (some (loC c l)) (some (hiC c u)) ⟨kk.1, kk.2.1⟩ ⟨kk2.1, kk2.2.1⟩
      have T := toL (some (loC c l)) (some (hiC c u)) ⟨kk.1, kk.2.1⟩ ⟨kk2.1, kk2.2.1⟩
      simp only [show ob (some l) = bs (Lib.itoa l) from rfl, show ob (some (loC c l)) = bs (Lib.itoa (loC c l)) from rfl, show ob (some u) = bs (Lib.itoa u) from rfl, show ob (some (hiC c u)) = bs (Lib.itoa (hiC c u)) from rfl] at *
      have eqt : ((bs (Lib.itoa (loC c l))).toList == (bs (Lib.itoa (hiC c u))).toList) = decide (loC c l = hiC c u) := by
       rw [beq_bs]; simp only [decide_eq_decide]; exact ⟨itoa_inj, fun e => by rw [e]⟩
      simp only [ob_e, ob_ne, Bool.not_true, Bool.not_false, brF, brT, g, g2, ls, bdS, eqt, Option.map, fin3]
      by_cases h1 : hiC c u < loC c l
      ·rw [decide_eq_true h1, brT, if_pos h1]
      ·rw [decide_eq_false h1, brF, if_neg h1]
       by_cases h2 : loC c l = hiC c u
       ·have kC : -C < loC c l ∧ loC c l < C := by
         have := lo_m p l
         have := hi_m p u
         simp only [okb] at kl kh
         omega
        have hC := C_gt
        have hCK := C_lt_K
        rw [decide_eq_true h2, brT, if_pos h2, surveyorref23_One.f, surveyorref22_Single.f, i0, class_ref lf h3 (m := 0) (by omega) (CK kC), bdS, bdS]
        simp only
        rw [clsF_in (Int.le_refl 0) (by omega) kC, if_pos rfl, cc_ne rfl]
        simp only [← i0, BEq.rfl, Bool.not_true, brF, bdS]
        rw [onV]
       ·rw [decide_eq_false h2, brF, if_neg h2, rg, T (by unfold gt?; simp; omega), bdS]; rfl
end
end Go.N
namespace Go.N
open Go Go.Q Go.Rx
section
variable (lf : Nat) (h3 : 200000 ≤ lf)
include h3
end
theorem negS_ok {s : Sp} (h : oks C s) : oks C (negS s) := common_ok h ⟨trivial, one_okx (by decide) (by decide)⟩
theorem zerS_ok {s : Sp} (h : oks C s) : oks C (zerS s) := common_ok h ⟨one_okx (by decide) (by decide), one_okx (by decide) (by decide)⟩
section
variable (lf : Nat) (h3 : 200000 ≤ lf)
include h3
end
end Go.N
namespace Go.N
open Go Go.Q Go.Rx
theorem sg_neg (x : X) : sg (xneg x) = -sg x := by
 cases x with
 | ni => rfl
 | pi => rfl
 | fin z => simp only [xneg, sg, sgn]; (repeat' split) <;> omega
theorem xmul_comm (x y : X) : xmul x y = xmul y x := by
 unfold xmul
 rw [Int.mul_comm (sg y) (sg x)]
 split
 ·rfl
 ·cases x <;> cases y <;> simp only [Int.mul_comm]
theorem xmul_neg (x y : X) : xmul (xneg x) y = xneg (xmul x y) := by
 unfold xmul
 rw [sg_neg, Int.neg_mul]
 have a := sg3 x
 have b := sg3 y
 by_cases h : sg x * sg y = 0
 ·rw [h, if_pos (by decide), if_pos rfl]; rfl
 ·rw [if_neg (by omega), if_neg h]
  have one : sg x * sg y = 1 ∨ sg x * sg y = -1 := by
   rcases a with a | a | a <;> rcases b with b | b | b <;> rw [a, b] at h ⊢ <;> simp at h ⊢
  cases x <;> cases y <;> simp only [xneg, Int.neg_mul] <;> rcases one with o | o <;> rw [o] <;> rfl
theorem xmul_neg' (x y : X) : xmul x (xneg y) = xneg (xmul x y) := by rw [xmul_comm, xmul_neg, xmul_comm]
theorem key_mul_sg {x y : X} : (key (xmul x y) < 0 ↔ sg x * sg y < 0) ∧ (key (xmul x y) = 0 ↔ sg x * sg y = 0) := by
 have hK := K_gt
 have a := sg3 x
 have b := sg3 y
 unfold xmul
 by_cases h : sg x * sg y = 0
 ·rw [if_pos h, h]; simp [key]
 ·rw [if_neg h]
  have one : sg x * sg y = 1 ∨ sg x * sg y = -1 := by
   rcases a with a | a | a <;> rcases b with b | b | b <;> rw [a, b] at h ⊢ <;> simp at h ⊢
  have inf : (key (if sg x * sg y = 1 then X.pi else X.ni) < 0 ↔ sg x * sg y < 0) ∧ (key (if sg x * sg y = 1 then X.pi else X.ni) = 0 ↔ sg x * sg y = 0) := by
   rcases one with o | o <;> rw [o]
   ·rw [if_pos rfl, show key X.pi = K from rfl]; omega
   ·rw [if_neg (by decide), show key X.ni = -K from rfl]; omega
  cases x with
  | fin u => cases y with
   | fin v =>
    simp only [key]
    have ku := sg_key (.fin u)
    have kv := sg_key (.fin v)
    simp only [key] at ku kv
    rcases a with a | a | a <;> rcases b with b | b | b <;> rw [a, b] at h ⊢ <;> simp at h ⊢
    ·have := Int.mul_pos_of_neg_of_neg (show u < 0 by omega) (show v < 0 by omega); omega
    ·have := Int.mul_neg_of_neg_of_pos (show u < 0 by omega) (show 0 < v by omega); omega
    ·have := Int.mul_neg_of_pos_of_neg (show 0 < u by omega) (show v < 0 by omega); omega
    ·have := Int.mul_pos (show 0 < u by omega) (show 0 < v by omega); omega
   | ni => exact inf
   | pi => exact inf
  | ni => exact inf
  | pi => exact inf
theorem xmul_ff {a b : Int} : xmul (.fin a) (.fin b) = .fin (a * b) := by
 unfold xmul
 split
 ·rename_i h
  have := (key_mul_sg (x := .fin a) (y := .fin b)).2
  have ka := sg_key (.fin a)
  have kb := sg_key (.fin b)
  simp only [key] at ka kb
  rcases Int.mul_eq_zero.1 h with z | z
  ·rw [ka.2.1.1 z, Int.zero_mul]
  ·rw [kb.2.1.1 z, Int.mul_zero]
 ·rfl
theorem xmul_mono {x x' y : X} (hx : okx Dd x) (hx' : okx Dd x') (hy : okx Dd y) (h : key x ≤ key x') (h0 : 0 ≤ key y) : key (xmul x y) ≤ key (xmul x' y) := by
 have hK := K_gt
 have hC := Dd_K
 have k1 := key_le (xmul_okD hx hy)
 have k2 := key_le (xmul_okD hx' hy)
 have s1 := key_mul_sg (x := x) (y := y)
 have s2 := key_mul_sg (x := x') (y := y)
 have gx := sg_key x
 have gx' := sg_key x'
 have gy := sg_key y
 have a := sg3 x
 have a' := sg3 x'
 have b := sg3 y
 have inf : ∀ {u v : X}, (u = .ni ∨ u = .pi ∨ v = .ni ∨ v = .pi) → key (xmul u v) = sg u * sg v * K := by
  intro u v hu
  have c := sg3 u
  have d := sg3 v
  unfold xmul
  by_cases hz : sg u * sg v = 0
  ·rw [if_pos hz, hz]; simp [key]
  ·rw [if_neg hz]
   have one : sg u * sg v = 1 ∨ sg u * sg v = -1 := by
    rcases c with c | c | c <;> rcases d with d | d | d <;> rw [c, d] at hz ⊢ <;> simp at hz ⊢
   have f : key (if sg u * sg v = 1 then X.pi else X.ni) = sg u * sg v * K := by
    rcases one with o | o <;> rw [o]
    ·rw [if_pos rfl, show key X.pi = K from rfl]; omega
    ·rw [if_neg (by decide), show key X.ni = -K from rfl]; omega
   rcases hu with rfl | rfl | rfl | rfl
   ·exact f
   ·exact f
   ·cases u <;> exact f
   ·cases u <;> exact f
 by_cases y0 : key y = 0
 ·have : sg y = 0 := by omega
  have e1 : key (xmul x y) = 0 := s1.2.2 (by rw [this, Int.mul_zero])
  have e2 : key (xmul x' y) = 0 := s2.2.2 (by rw [this, Int.mul_zero])
  omega
 have y1 : sg y = 1 := by omega
 rw [y1, Int.mul_one] at s1 s2
 cases y with
 | ni => simp only [key] at h0; omega
 | pi =>
  rw [inf (.inr (.inr (.inr rfl))), inf (.inr (.inr (.inr rfl))), y1, Int.mul_one, Int.mul_one]
  exact Int.mul_le_mul_of_nonneg_right (by omega) (by omega)
 | fin v =>
  cases x with
  | ni =>
   rw [inf (.inl rfl), y1, Int.mul_one, show sg X.ni = -1 from rfl]; omega
  | pi =>
   cases x' with
   | pi => exact Int.le_refl _
   | ni => simp only [key] at h; omega
   | fin w => simp only [key, okx] at h hx'; omega
  | fin u => cases x' with
   | pi =>
    rw [inf (u := X.pi) (.inr (.inl rfl)), y1, Int.mul_one, show sg X.pi = 1 from rfl]; omega
   | ni => simp only [key, okx] at h hx; omega
   | fin w =>
    rw [xmul_ff, xmul_ff]
    simp only [key] at h h0 ⊢
    exact Int.mul_le_mul_of_nonneg_right h h0
theorem xmul_anti {x x' y : X} (hx : okx Dd x) (hx' : okx Dd x') (hy : okx Dd y) (h : key x ≤ key x') (h0 : key y ≤ 0) : key (xmul x' y) ≤ key (xmul x y) := by
 have := xmul_mono hx hx' (xneg_ok hy) h (by rw [key_xneg]; omega)
 rw [xmul_neg', xmul_neg', key_xneg, key_xneg] at this
 omega
def El (s : Sp) (x : X) : Prop := okx Dd x ∧ key s.lo ≤ key x ∧ key x ≤ key s.hi
theorem El_lo {s : Sp} (hs : oks C s) (he : emp s = false) : El s s.lo := ⟨hs.1.D, Int.le_refl _, by have := of_decide_eq_false he; omega⟩
theorem El_hi {s : Sp} (hs : oks C s) (he : emp s = false) : El s s.hi := ⟨hs.2.D, by have := of_decide_eq_false he; omega, Int.le_refl _⟩
theorem corner {s t : Sp} (hs : oks C s) (ht : oks C t) {x y : X} (hx : El s x) (hy : El t y) :
  (∃ cx cy, (cx = s.lo ∨ cx = s.hi) ∧ (cy = t.lo ∨ cy = t.hi) ∧ key (xmul cx cy) ≤ key (xmul x y)) ∧ (∃ cx cy, (cx = s.lo ∨ cx = s.hi) ∧ (cy = t.lo ∨ cy = t.hi) ∧ key (xmul x y) ≤ key (xmul cx cy)) := by
 have one : ∀ {s : Sp} {x y : X}, oks C s → El s x → okx Dd y → (∃ cx, (cx = s.lo ∨ cx = s.hi) ∧ key (xmul cx y) ≤ key (xmul x y)) ∧ (∃ cx, (cx = s.lo ∨ cx = s.hi) ∧ key (xmul x y) ≤ key (xmul cx y)) := by
  intro s x y hs hx hy
  by_cases h : 0 ≤ key y
  ·exact ⟨⟨_, .inl rfl, xmul_mono hs.1.D hx.1 hy hx.2.1 h⟩, ⟨_, .inr rfl, xmul_mono hx.1 hs.2.D hy hx.2.2 h⟩⟩
  ·exact ⟨⟨_, .inr rfl, xmul_anti hx.1 hs.2.D hy hx.2.2 (by omega)⟩, ⟨_, .inl rfl, xmul_anti hs.1.D hx.1 hy hx.2.1 (by omega)⟩⟩
 obtain ⟨⟨cx, c1, c2⟩, ⟨dx, d1, d2⟩⟩ := one hs hx hy.1
 have okc : ∀ {c : X}, (c = s.lo ∨ c = s.hi) → okx Dd c := fun h => by rcases h with rfl | rfl; exact hs.1.D; exact hs.2.D
 obtain ⟨⟨cy, e1, e2⟩, _⟩ := one ht hy (okc c1)
 obtain ⟨_, ⟨dy, f1, f2⟩⟩ := one ht hy (okc d1)
 rw [xmul_comm cy, xmul_comm y] at e2
 rw [xmul_comm dy, xmul_comm y] at f2
 exact ⟨⟨cx, cy, c1, e1, by omega⟩, ⟨dx, dy, d1, f1, by omega⟩⟩
theorem xmin_or (x y : X) : xmin x y = x ∨ xmin x y = y := by unfold xmin; split; exact .inr rfl; exact .inl rfl
theorem xmax_or (x y : X) : xmax x y = x ∨ xmax x y = y := by unfold xmax; split; exact .inr rfl; exact .inl rfl
theorem apS_ends {o : X → X → X} {s t : Sp} (hs : emp s = false) (ht : emp t = false) :
  ((∃ x y, (x = s.lo ∨ x = s.hi) ∧ (y = t.lo ∨ y = t.hi) ∧ (apS o s t).lo = o x y) ∧ (∀ x y, (x = s.lo ∨ x = s.hi) → (y = t.lo ∨ y = t.hi) → key (apS o s t).lo ≤ key (o x y))) ∧
  ((∃ x y, (x = s.lo ∨ x = s.hi) ∧ (y = t.lo ∨ y = t.hi) ∧ (apS o s t).hi = o x y) ∧ (∀ x y, (x = s.lo ∨ x = s.hi) → (y = t.lo ∨ y = t.hi) → key (o x y) ≤ key (apS o s t).hi)) := by
 have e : apS o s t = ⟨xmin (xmin (xmin (o s.lo t.lo) (o s.lo t.hi)) (o s.hi t.lo)) (o s.hi t.hi), xmax (xmax (xmax (o s.lo t.lo) (o s.lo t.hi)) (o s.hi t.lo)) (o s.hi t.hi)⟩ := by
  unfold apS
  rw [if_neg (by simp [hs]), if_neg (by simp [ht]), non_hull, hullNE (emp_one _) (emp_one _)]
  have e1 := emp_one (o s.lo t.lo)
  have e2 := emp_one (o s.lo t.hi)
  have e3 := emp_one (o s.hi t.lo)
  have e4 := emp_one (o s.hi t.hi)
  have n1 := hull_emp e1 e2
  rw [hullNE e1 e2] at n1
  rw [hullNE n1 e3]
  have n2 := hull_emp n1 e3
  rw [hullNE n1 e3] at n2
  rw [hullNE n2 e4]
  rfl
 rw [e]
 refine ⟨⟨?_, ?_⟩, ⟨?_, ?_⟩⟩
 ·simp only
  rcases xmin_or (xmin (xmin (o s.lo t.lo) (o s.lo t.hi)) (o s.hi t.lo)) (o s.hi t.hi) with h | h <;> rw [h]
  ·rcases xmin_or (xmin (o s.lo t.lo) (o s.lo t.hi)) (o s.hi t.lo) with h | h <;> rw [h]
   ·rcases xmin_or (o s.lo t.lo) (o s.lo t.hi) with h | h <;> rw [h]
    ·exact ⟨_, _, .inl rfl, .inl rfl, rfl⟩
    ·exact ⟨_, _, .inl rfl, .inr rfl, rfl⟩
   ·exact ⟨_, _, .inr rfl, .inl rfl, rfl⟩
  ·exact ⟨_, _, .inr rfl, .inr rfl, rfl⟩
 ·intro x y hx hy
  simp only [key_min]
  rcases hx with rfl | rfl <;> rcases hy with rfl | rfl <;> omega
 ·simp only
  rcases xmax_or (xmax (xmax (o s.lo t.lo) (o s.lo t.hi)) (o s.hi t.lo)) (o s.hi t.hi) with h | h <;> rw [h]
  ·rcases xmax_or (xmax (o s.lo t.lo) (o s.lo t.hi)) (o s.hi t.lo) with h | h <;> rw [h]
   ·rcases xmax_or (o s.lo t.lo) (o s.lo t.hi) with h | h <;> rw [h]
    ·exact ⟨_, _, .inl rfl, .inl rfl, rfl⟩
    ·exact ⟨_, _, .inl rfl, .inr rfl, rfl⟩
   ·exact ⟨_, _, .inr rfl, .inl rfl, rfl⟩
  ·exact ⟨_, _, .inr rfl, .inr rfl, rfl⟩
 ·intro x y hx hy
  simp only [key_max]
  rcases hx with rfl | rfl <;> rcases hy with rfl | rfl <;> omega
end Go.N
namespace Go.N
open Go Go.Q Go.Rx
def pt (i : Nat) (s : Sp) : Sp := if i = 0 then negS s else if i = 1 then zerS s else posS s
def Qp (i k : Nat) (p q : Sp) : Sp := if i = 1 ∨ k = 1 then ⟨.fin 0, .fin 0⟩ else if i = 0 then (if k = 0 then ⟨xmul p.hi q.hi, xmul p.lo q.lo⟩ else ⟨xmul p.lo q.hi, xmul p.hi q.lo⟩) else (if k = 0 then ⟨xmul p.hi q.lo, xmul p.lo q.hi⟩ else ⟨xmul p.lo q.lo, xmul p.hi q.hi⟩)
theorem pt_ok {s : Sp} (h : oks C s) (i : Nat) : oks C (pt i s) := by
 unfold pt; split
 ·exact negS_ok h
 ·split
  ·exact zerS_ok h
  ·exact posS_ok h
theorem i3 {i : Nat} (h : i < 3) : i = 0 ∨ i = 1 ∨ i = 2 := by omega
theorem pt_keys {s : Sp} (h : oks C s) : (key (negS s).lo = key s.lo ∧ key (negS s).hi = min (key s.hi) (-1)) ∧ (key (zerS s).lo = max (key s.lo) 0 ∧ key (zerS s).hi = min (key s.hi) 0) ∧ (key (posS s).lo = max (key s.lo) 1 ∧ key (posS s).hi = key s.hi) := by
 have a := key_le h.K.1
 have b := key_le h.K.2
 have h1 : key (negS s).lo = max (key s.lo) (-K) := key_max s.lo .ni
 have h2 : key (negS s).hi = min (key s.hi) (-1) := key_min s.hi (.fin (-1))
 have h3 : key (zerS s).lo = max (key s.lo) 0 := key_max s.lo (.fin 0)
 have h4 : key (zerS s).hi = min (key s.hi) 0 := key_min s.hi (.fin 0)
 have h5 : key (posS s).lo = max (key s.lo) 1 := key_max s.lo (.fin 1)
 have h6 : key (posS s).hi = min (key s.hi) K := key_min s.hi .pi
 omega
theorem El_sub {s : Sp} (hs : oks C s) {i : Nat} {x : X} (h : El (pt i s) x) : El s x := by
 have k := pt_keys hs
 obtain ⟨h1, h2, h3⟩ := h
 refine ⟨h1, ?_, ?_⟩ <;> unfold pt at h2 h3 <;> split at h2 <;> (try split at h2) <;> simp_all <;> omega
theorem El_ne {s : Sp} {x : X} (h : El s x) : emp s = false := decide_eq_false (by have := h.2; omega)
theorem El_sign {s : Sp} (hs : oks C s) {x : X} : (El (pt 0 s) x → key x ≤ -1) ∧ (El (pt 1 s) x → key x = 0) ∧ (El (pt 2 s) x → 1 ≤ key x) := by
 have k := pt_keys hs
 refine ⟨fun h => ?_, fun h => ?_, fun h => ?_⟩
 ·have := h.2.2; simp only [pt, if_true] at this; omega
 ·have a := h.2.1
  have b := h.2.2
  simp only [pt, Nat.one_ne_zero, if_true, if_false] at a b; omega
 ·have := h.2.1
  simp only [pt, show ¬ (2 = 0) by omega, show ¬ (2 = 1) by omega, if_false] at this; omega
theorem cls {s : Sp} (hs : oks C s) {x : X} (h : El s x) : ∃ i, i < 3 ∧ El (pt i s) x := by
 have k := pt_keys hs
 obtain ⟨h1, h2, h3⟩ := h
 rcases Int.lt_trichotomy (key x) 0 with z | z | z
 ·exact ⟨0, by omega, h1, by simp only [pt, if_true]; omega, by simp only [pt, if_true]; omega⟩
 ·exact ⟨1, by omega, h1, by simp only [pt, Nat.one_ne_zero, if_true, if_false]; omega, by simp only [pt, Nat.one_ne_zero, if_true, if_false]; omega⟩
 ·exact ⟨2, by omega, h1, by simp only [pt, show ¬ (2 = 0) by omega, show ¬ (2 = 1) by omega, if_false]; omega, by simp only [pt, show ¬ (2 = 0) by omega, show ¬ (2 = 1) by omega, if_false]; omega⟩
theorem sg0 {x : X} (h : key x = 0) : sg x = 0 := (sg_key x).2.1.2 h
theorem key_mul0 {x y : X} (h : key x = 0 ∨ key y = 0) : xmul x y = .fin 0 := by
 unfold xmul
 rw [if_pos]
 rcases h with h | h
 ·rw [sg0 h, Int.zero_mul]
 ·rw [sg0 h, Int.mul_zero]
theorem upr {x y y' : X} (hx : okx Dd x) (hy : okx Dd y) (hy' : okx Dd y') (h : key y ≤ key y') (h0 : 0 ≤ key x) : key (xmul x y) ≤ key (xmul x y') := by rw [xmul_comm x y, xmul_comm x y']; exact xmul_mono hy hy' hx h h0
theorem dnr {x y y' : X} (hx : okx Dd x) (hy : okx Dd y) (hy' : okx Dd y') (h : key y ≤ key y') (h0 : key x ≤ 0) : key (xmul x y') ≤ key (xmul x y) := by rw [xmul_comm x y, xmul_comm x y']; exact xmul_anti hy hy' hx h h0
theorem Qp_in {s t : Sp} (hs : oks C s) (ht : oks C t) {i k : Nat} (hi : i < 3) (hk : k < 3) {x y : X} (hx : El (pt i s) x) (hy : El (pt k t) y) :
  key (Qp i k (pt i s) (pt k t)).lo ≤ key (xmul x y) ∧ key (xmul x y) ≤ key (Qp i k (pt i s) (pt k t)).hi := by
 have ps := pt_ok hs i
 have qs := pt_ok ht k
 have pe := El_ne hx
 have qe := El_ne hy
 have a := El_lo ps pe
 have b := El_hi ps pe
 have c := El_lo qs qe
 have d := El_hi qs qe
 have S := @El_sign s hs
 have T := @El_sign t ht
 rcases i3 hi with rfl | rfl | rfl
 ·have sx := S.1 hx
  have sa := S.1 a
  have sb := S.1 b
  rcases i3 hk with rfl | rfl | rfl
  ·have sy := T.1 hy
   have sc := T.1 c
   have sd := T.1 d
   simp only [Qp, Nat.zero_ne_one, or_self, if_false, if_true]
   exact ⟨Int.le_trans (xmul_anti hx.1 b.1 d.1 hx.2.2 (by omega)) (dnr hx.1 hy.1 d.1 hy.2.2 (by omega)), Int.le_trans (xmul_anti a.1 hx.1 hy.1 hx.2.1 (by omega)) (dnr a.1 c.1 hy.1 hy.2.1 (by omega))⟩
  ·have sy := T.2.1 hy
   simp only [Qp, or_true, if_true]
   rw [key_mul0 (.inr sy)]; exact ⟨Int.le_refl _, Int.le_refl _⟩
  ·have sy := T.2.2 hy
   have sc := T.2.2 c
   have sd := T.2.2 d
   simp only [Qp, Nat.zero_ne_one, show ¬ (2 = 1) by omega, show ¬ (2 = 0) by omega, or_self, if_false, if_true]
   exact ⟨Int.le_trans (dnr a.1 hy.1 d.1 hy.2.2 (by omega)) (xmul_mono a.1 hx.1 hy.1 hx.2.1 (by omega)), Int.le_trans (xmul_mono hx.1 b.1 hy.1 hx.2.2 (by omega)) (dnr b.1 c.1 hy.1 hy.2.1 (by omega))⟩
 ·have sx := S.2.1 hx
  simp only [Qp, true_or, if_true]
  rw [key_mul0 (.inl sx)]; exact ⟨Int.le_refl _, Int.le_refl _⟩
 ·have sx := S.2.2 hx
  have sa := S.2.2 a
  have sb := S.2.2 b
  rcases i3 hk with rfl | rfl | rfl
  ·have sy := T.1 hy
   have sc := T.1 c
   have sd := T.1 d
   simp only [Qp, Nat.zero_ne_one, show ¬ (2 = 1) by omega, show ¬ (2 = 0) by omega, or_self, if_false, if_true]
   exact ⟨Int.le_trans (xmul_anti hx.1 b.1 c.1 hx.2.2 (by omega)) (upr hx.1 c.1 hy.1 hy.2.1 (by omega)), Int.le_trans (xmul_anti a.1 hx.1 hy.1 hx.2.1 (by omega)) (upr a.1 hy.1 d.1 hy.2.2 (by omega))⟩
  ·have sy := T.2.1 hy
   simp only [Qp, or_true, if_true]
   rw [key_mul0 (.inr sy)]; exact ⟨Int.le_refl _, Int.le_refl _⟩
  ·have sy := T.2.2 hy
   have sc := T.2.2 c
   have sd := T.2.2 d
   simp only [Qp, show ¬ (2 = 1) by omega, show ¬ (2 = 0) by omega, or_self, if_false]
   exact ⟨Int.le_trans (xmul_mono a.1 hx.1 c.1 hx.2.1 (by omega)) (upr hx.1 c.1 hy.1 hy.2.1 (by omega)), Int.le_trans (xmul_mono hx.1 b.1 hy.1 hx.2.2 (by omega)) (upr b.1 hy.1 d.1 hy.2.2 (by omega))⟩
theorem Qp_ends {s t : Sp} (hs : oks C s) (ht : oks C t) {i k : Nat} (hi : i < 3) (hk : k < 3) (ei : emp (pt i s) = false) (ek : emp (pt k t) = false) :
  (∃ x y, El (pt i s) x ∧ El (pt k t) y ∧ (Qp i k (pt i s) (pt k t)).lo = xmul x y) ∧ (∃ x y, El (pt i s) x ∧ El (pt k t) y ∧ (Qp i k (pt i s) (pt k t)).hi = xmul x y) := by
 have a := El_lo (pt_ok hs i) ei
 have b := El_hi (pt_ok hs i) ei
 have c := El_lo (pt_ok ht k) ek
 have d := El_hi (pt_ok ht k) ek
 by_cases z : i = 1 ∨ k = 1
 ·have e : xmul (pt i s).lo (pt k t).lo = .fin 0 := by
   apply key_mul0
   rcases z with rfl | rfl
   ·exact .inl ((El_sign hs).2.1 a)
   ·exact .inr ((El_sign ht).2.1 c)
  simp only [Qp, if_pos z]
  exact ⟨⟨_, _, a, c, e.symm⟩, ⟨_, _, a, c, e.symm⟩⟩
 ·unfold Qp
  rw [if_neg z]
  split <;> split
  ·exact ⟨⟨_, _, b, d, rfl⟩, ⟨_, _, a, c, rfl⟩⟩
  ·exact ⟨⟨_, _, a, d, rfl⟩, ⟨_, _, b, c, rfl⟩⟩
  ·exact ⟨⟨_, _, b, c, rfl⟩, ⟨_, _, a, d, rfl⟩⟩
  ·exact ⟨⟨_, _, a, c, rfl⟩, ⟨_, _, b, d, rfl⟩⟩
theorem Qp_ok {s t : Sp} (hs : oks C s) (ht : oks C t) (i k : Nat) : oks K (Qp i k (pt i s) (pt k t)) := by
 have hK := K_gt
 have p := pt_ok hs i
 have q := pt_ok ht k
 have z : okx K (.fin 0) := by simp only [okx]; omega
 unfold Qp
 split
 ·exact ⟨z, z⟩
 ·split <;> split
  ·exact ⟨xmul_ok p.2 q.2, xmul_ok p.1 q.1⟩
  ·exact ⟨xmul_ok p.1 q.2, xmul_ok p.2 q.1⟩
  ·exact ⟨xmul_ok p.2 q.1, xmul_ok p.1 q.2⟩
  ·exact ⟨xmul_ok p.1 q.1, xmul_ok p.2 q.2⟩
section
variable {s t : Sp} (hs : oks C s) (ht : oks C t) (es : emp s = false) (et : emp t = false) (ps : Pr s) (pt' : Pr t)
include hs ht es et
theorem corner_ok {x y : X} (hx : x = s.lo ∨ x = s.hi) (hy : y = t.lo ∨ y = t.hi) : El s x ∧ El t y := by
 constructor
 ·rcases hx with rfl | rfl
  ·exact El_lo hs es
  ·exact El_hi hs es
 ·rcases hy with rfl | rfl
  ·exact El_lo ht et
  ·exact El_hi ht et
theorem F1 {i k : Nat} (hi : i < 3) (hk : k < 3) (ei : emp (pt i s) = false) (ek : emp (pt k t) = false) :
  key (apS xmul s t).lo ≤ key (Qp i k (pt i s) (pt k t)).lo ∧ key (Qp i k (pt i s) (pt k t)).hi ≤ key (apS xmul s t).hi := by
 obtain ⟨⟨x, y, hx, hy, e⟩, ⟨x', y', hx', hy', e'⟩⟩ := Qp_ends hs ht hi hk ei ek
 have en := apS_ends (o := xmul) es et
 obtain ⟨⟨cx, cy, c1, c2, c3⟩, _⟩ := corner hs ht (El_sub hs hx) (El_sub ht hy)
 obtain ⟨_, ⟨dx, dy, d1, d2, d3⟩⟩ := corner hs ht (El_sub hs hx') (El_sub ht hy')
 have a := en.1.2 cx cy c1 c2
 have b := en.2.2 dx dy d1 d2
 rw [e, e']
 omega
theorem F2 : (∃ i k, i < 3 ∧ k < 3 ∧ emp (pt i s) = false ∧ emp (pt k t) = false ∧ (Qp i k (pt i s) (pt k t)).lo = (apS xmul s t).lo) ∧
  (∃ i k, i < 3 ∧ k < 3 ∧ emp (pt i s) = false ∧ emp (pt k t) = false ∧ (Qp i k (pt i s) (pt k t)).hi = (apS xmul s t).hi) := by
 have en := apS_ends (o := xmul) es et
 have ok := mulS_ok hs ht
 constructor
 ·obtain ⟨cx, cy, c1, c2, c3⟩ := en.1.1
  have co := corner_ok hs ht es et c1 c2
  obtain ⟨i, hi, xi⟩ := cls hs co.1
  obtain ⟨k, hk, yk⟩ := cls ht co.2
  have ei := El_ne xi
  have ek := El_ne yk
  have q := Qp_in hs ht hi hk xi yk
  have f := F1 hs ht es et hi hk ei ek
  refine ⟨i, k, hi, hk, ei, ek, key_inj (Qp_ok hs ht i k).1 ok.1 ?_⟩
  rw [← c3] at q
  omega
 ·obtain ⟨cx, cy, c1, c2, c3⟩ := en.2.1
  have co := corner_ok hs ht es et c1 c2
  obtain ⟨i, hi, xi⟩ := cls hs co.1
  obtain ⟨k, hk, yk⟩ := cls ht co.2
  have ei := El_ne xi
  have ek := El_ne yk
  have q := Qp_in hs ht hi hk xi yk
  have f := F1 hs ht es et hi hk ei ek
  refine ⟨i, k, hi, hk, ei, ek, key_inj (Qp_ok hs ht i k).2 ok.2 ?_⟩
  rw [← c3] at q
  omega
end
section
variable {s t : Sp} (hs : oks C s) (ht : oks C t) (es : emp s = false) (et : emp t = false) (ps : Pr s) (pt' : Pr t)
include hs ht es et ps pt'
end
section
variable {s t : Sp} (hs : oks C s) (ht : oks C t) (es : emp s = false) (et : emp t = false) (ps : Pr s) (pt' : Pr t)
include hs ht es et ps pt'
end
end Go.N
namespace Go.N
open Go Go.Q Go.Rx
def pp (i : Nat) (s : Sp) : Sp := if i = 0 then ⟨xneg (negS s).hi, xneg (negS s).lo⟩ else posS s
section
variable (lf : Nat) (h3 : 200000 ≤ lf) {s t : Sp} (hs : oks C s) (ht : oks C t) (ps : Pr s) (pt' : Pr t)
include h3 hs ht ps pt'
def sv (s : Sp) : List IV := [ac (toA (negS s)), ac (toA (zerS s)), ac (toA (posS s))]
end
end Go.N
namespace Go.N
open Go Go.Q Go.Rx
theorem inS_iff {s : Sp} {z : Int} : inS s z = true ↔ key s.lo ≤ z ∧ z ≤ key s.hi := by unfold inS; simp
theorem in_ne {s : Sp} {z : Int} (h : inS s z = true) : emp s = false := emp_of_in h
section
variable {s t : Sp} (hs : oks C s) (ht : oks C t) {x y : Int} (bx : -Dd < x ∧ x < Dd) (by' : -Dd < y ∧ y < Dd) (hx : inS s x = true) (hy : inS t y = true)
include hs ht bx by' hx hy
end
section
variable {s t : Sp} (hs : oks C s) (ht : oks C t) (ps : Pr s) (pt' : Pr t) {x y : Int} (bx : -Dd < x ∧ x < Dd) (by' : -Dd < y ∧ y < Dd) (hx : inS s x = true) (hy : inS t y = true)
include hs ht ps pt' bx by' hx hy
end
end Go.N
namespace Go.N
open Go Go.Q Go.Rx
theorem ofA_em {a : A} (h : a.em = true) : ofA a = non := by unfold ofA; rw [if_pos h]
section
variable {a b : A} (ha : Wf a) (hb : Wf b)
include ha hb
end
theorem leqA_rf (s : Sp) : leqA s s = true := by rw [leqA_iff]; apply decide_eq_true; omega
theorem widen_w {a b : A} (ha : Wf a) (hb : Wf b) {zs : List Int} (hz : Th zs) :
  Wf (toA (widen (ofA a) (ofA b) zs)) ∧ leqA (ofA a) (ofA (toA (widen (ofA a) (ofA b) zs))) = true ∧ leqA (ofA b) (ofA (toA (widen (ofA a) (ofA b) zs))) = true := by
 have hK := K_gt
 cases ea : a.em with
 | true =>
  have e : toA (widen (ofA a) (ofA b) zs) = b := by
   unfold widen hull
   rw [emp_ofA ha, ea, if_pos (.inl rfl), if_pos rfl, toA_ofA hb]
  rw [e]
  refine ⟨hb, ?_, leqA_rf _⟩
  unfold leqA; rw [emp_ofA ha, ea]; rfl
 | false => cases eb : b.em with
  | true =>
   have e : toA (widen (ofA a) (ofA b) zs) = a := by
    unfold widen hull
    rw [emp_ofA ha, emp_ofA hb, ea, eb, if_pos (.inr rfl), if_neg (by simp), if_pos rfl, toA_ofA ha]
   rw [e]
   refine ⟨ha, leqA_rf _, ?_⟩
   unfold leqA; rw [emp_ofA hb, eb]; rfl
  | false =>
   have ka := ha.ks.e2 ea
   have kb := hb.ks.e2 eb
   obtain ⟨he, hp, hn⟩ := hull_keys ha hb ea eb
   have hCo := hull_ok ha.okC hb.okC
   have hKo := hull_ok ha.okK hb.okK
   have kh := key_hull (ofA a) (ofA b)
   rw [if_neg (by omega), if_neg (by omega), if_neg (by omega), if_neg (by omega)] at kh
   have hW : widen (ofA a) (ofA b) zs = ⟨if key (hull (ofA a) (ofA b)).lo ≠ key (ofA a).lo then below zs (hull (ofA a) (ofA b)).lo else (hull (ofA a) (ofA b)).lo, if key (hull (ofA a) (ofA b)).hi ≠ key (ofA a).hi then above zs (hull (ofA a) (ofA b)).hi else (hull (ofA a) (ofA b)).hi⟩ := by
    unfold widen; rw [emp_ofA ha, emp_ofA hb, ea, eb, if_neg (by simp)]
   generalize hull (ofA a) (ofA b) = H at *
   have le1 := below_le zs hKo.1
   have le2 := above_ge zs hKo.2
   have o1 := below_ok hz H.lo
   have o2 := above_ok hz H.hi
   rw [hW]
   obtain ⟨lo, hlo⟩ : ∃ lo, lo = (if key H.lo ≠ key (ofA a).lo then below zs H.lo else H.lo) := ⟨_, rfl⟩
   obtain ⟨hi, hhi⟩ : ∃ hi, hi = (if key H.hi ≠ key (ofA a).hi then above zs H.hi else H.hi) := ⟨_, rfl⟩
   rw [← hlo, ← hhi]
   have olo : okx C lo := by rw [hlo]; split; exact o1; exact hCo.1
   have ohi : okx C hi := by rw [hhi]; split; exact o2; exact hCo.2
   have klo : key lo ≤ key H.lo := by rw [hlo]; split; exact le1; exact Int.le_refl _
   have khi : key H.hi ≤ key hi := by rw [hhi]; split; exact le2; exact Int.le_refl _
   have kk := keys_toA (s := ⟨lo, hi⟩) ⟨olo, ohi⟩ (fun _ => by simp only; omega)
   have wf := toA_wf' (s := ⟨lo, hi⟩) ⟨olo.mono (Int.le_of_lt C_lt_K), ohi.mono (Int.le_of_lt C_lt_K)⟩ (fun _ => by simp only; omega)
   simp only at kk
   rw [if_neg (by omega), if_neg (by omega)] at kk
   refine ⟨wf, ?_, ?_⟩
   ·rw [leqA_iff, kk.1, kk.2]; apply decide_eq_true; omega
   ·rw [leqA_iff, kk.1, kk.2]; apply decide_eq_true; omega
end Go.N
namespace Go.N
open Go Go.Q Go.Rx
def leqV (v w : Vl) : Bool := leqA (ofA v.a) (ofA w.a) && insideC v.c w.c
theorem leqA_emp {a b : A} (h : a.em = true) : leqA (ofA a) (ofA b) = true := by
 unfold leqA; rw [ofA_em h, emp_non]; rfl
theorem leqA_of {a b : A} (ha : Wf a) (hb : Wf b) (ea : a.em = false) (eb : b.em = false) :
  leqA (ofA a) (ofA b) = true ↔ (∀ l, b.lo = some l → ∃ k, a.lo = some k ∧ l ≤ k) ∧ ∀ u, b.hi = some u → ∃ k, a.hi = some k ∧ k ≤ u := by
 have a1 := ha.loK
 have a2 := ha.hiK
 have b1 := hb.loK
 have b2 := hb.hiK
 have e : emp (ofA a) = false := by rw [emp_ofA ha, ea]
 unfold leqA
 rw [e, Bool.false_or]
 unfold ofA
 rw [ea, eb, if_neg (by simp), if_neg (by simp)]
 simp only [Bool.and_eq_true, decide_eq_true_eq]
 have L : key (lox b.lo) ≤ key (lox a.lo) ↔ ∀ l, b.lo = some l → ∃ k, a.lo = some k ∧ l ≤ k := by
  revert a1 b1
  cases b.lo with
  | none => cases a.lo with
   | none => simp [lox, key]
   | some k => simp [lox, key, okb] <;> omega
  | some l => cases a.lo with
   | none => simp [lox, key, okb] <;> omega
   | some k => simp [lox, key]
 have U : key (hix a.hi) ≤ key (hix b.hi) ↔ ∀ u, b.hi = some u → ∃ k, a.hi = some k ∧ k ≤ u := by
  revert a2 b2
  cases b.hi with
  | none => cases a.hi with
   | none => simp [hix, key]
   | some k => simp [hix, key, okb] <;> omega
  | some l => cases a.hi with
   | none => simp [hix, key, okb] <;> omega
   | some k => simp [hix, key]
 rw [L, U]
theorem leqA_ne {a b : A} (ha : Wf a) (hb : Wf b) (h : leqA (ofA a) (ofA b) = true) (ea : a.em = false) : b.em = false := by
 cases eb : b.em with
 | false => rfl
 | true =>
  have hK := K_gt
  have e : emp (ofA a) = false := by rw [emp_ofA ha, ea]
  have k := ha.ks.keys
  rw [leqA_iff, decide_eq_true_eq, ofA_em eb, key_non.1, key_non.2] at h
  have := of_decide_eq_false e
  omega
theorem leqA_in {s t : Sp} (h : leqA s t = true) {z : Int} (hz : inS s z = true) : inS t z = true := by
 have e := in_ne hz
 rw [leqA_iff, decide_eq_true_eq] at h
 have := of_decide_eq_false e
 have := inS_iff.1 hz
 exact inS_iff.2 (by omega)
namespace WfV
variable {v : Vl} (h : WfV v)
include h
theorem em : v.a.em = v.c.em := by
 have r := h.red
 unfold Go.N.red at r
 cases e1 : v.a.em with
 | true =>
  rw [if_pos e1] at r
  rw [← r]; rfl
 | false => cases e2 : v.c.em with
  | false => rfl
  | true =>
   rw [if_neg (by simp [e1]), if_pos e2] at r
   rw [← r] at e1; simp [Ev, E0] at e1
theorem ev (e : v.a.em = true) : v = Ev := by
 have r := h.red
 unfold Go.N.red at r
 rw [if_pos e] at r
 exact r.symm
theorem one (e : v.a.em = false) (m : v.c.m = 0) : v = onev v.c.r ∧ inS (ofA v.a) v.c.r = true := by
 have r := h.red
 have e2 : v.c.em = false := by rw [← h.em, e]
 unfold Go.N.red at r
 rw [if_neg (by simp [e]), if_neg (by simp [e2]), if_pos m] at r
 split at r
 ·exact ⟨r.symm, by assumption⟩
 ·rw [← r] at e; simp [Ev, E0] at e
theorem fin (e : v.a.em = false) (m : v.c.m ≠ 0) : fin3 (v.a.lo.map (loC v.c)) (v.a.hi.map (hiC v.c)) v.c = v := by
 have r := h.red
 have e2 : v.c.em = false := by rw [← h.em, e]
 unfold Go.N.red at r
 rwa [if_neg (by simp [e]), if_neg (by simp [e2]), if_neg m] at r
theorem bnd (e : v.a.em = false) : (∀ l, v.a.lo = some l → inC v.c l = true) ∧ ∀ l, v.a.hi = some l → inC v.c l = true := by
 have e2 : v.c.em = false := by rw [← h.em, e]
 by_cases m : v.c.m = 0
 ·obtain ⟨o, i⟩ := h.one e m
  have hs : inC v.c v.c.r = true := (in_iff e2 h.c.pos).2 (by simp)
  constructor
  ·intro l hl
   rw [o] at hl; cases hl; exact hs
  ·intro l hl
   rw [o] at hl; cases hl; exact hs
 ·have p : 0 < v.c.m := by have := h.c.pos; omega
  have f := h.fin e m
  have ck := h.a
  have lo := ck.lo
  have hi := ck.hi
  revert f lo hi
  cases hl : v.a.lo with
  | none => cases hh : v.a.hi with
   | none => intro _ _ _; exact ⟨nofun, nofun⟩
   | some u =>
    intro f lo hi
    have f2 := congrArg (fun x => x.a.hi) f
    simp only [Option.map, fin3, Option.bind, hh] at f2
    have hu : hiC v.c u = u := by
     unfold clip at f2; split at f2
     ·exact Option.some.inj f2
     ·cases f2
    exact ⟨nofun, fun l x => by cases x; exact (in_iff e2 h.c.pos).2 (by have := hi_in p u; rwa [hu] at this)⟩
  | some l => cases hh : v.a.hi with
   | none =>
    intro f lo hi
    have f2 := congrArg (fun x => x.a.lo) f
    simp only [Option.map, fin3, Option.bind, hl] at f2
    have hu : loC v.c l = l := by
     unfold clip at f2; split at f2
     ·exact Option.some.inj f2
     ·cases f2
    exact ⟨fun l x => (by cases x; exact (in_iff e2 h.c.pos).2 (by have := lo_in p l; rwa [hu] at this)), nofun⟩
   | some u =>
    intro f lo hi
    simp only [Option.map, fin3] at f
    split at f
    ·rw [← f] at e; simp [Ev, E0] at e
    ·split at f
     ·rw [← f] at m; simp [onev] at m
     ·have f1 := congrArg (fun x => x.a.lo) f
      have f2 := congrArg (fun x => x.a.hi) f
      simp only [hl, hh] at f1 f2
      have h1 : loC v.c l = l := by
       unfold clip at f1; split at f1
       ·exact Option.some.inj f1
       ·cases f1
      have h2 : hiC v.c u = u := by
       unfold clip at f2; split at f2
       ·exact Option.some.inj f2
       ·cases f2
      exact ⟨fun k x => (by cases x; exact (in_iff e2 h.c.pos).2 (by have := lo_in p l; rwa [h1] at this)), fun k x => (by cases x; exact (in_iff e2 h.c.pos).2 (by have := hi_in p u; rwa [h2] at this))⟩
theorem eqb (e : v.a.em = false) {z : Int} (h1 : v.a.lo = some z) (h2 : v.a.hi = some z) : v = onev z := by
 have e2 : v.c.em = false := by rw [← h.em, e]
 by_cases m : v.c.m = 0
 ·obtain ⟨o, i⟩ := h.one e m
  rw [o] at h1
  cases h1; exact o
 ·have p : 0 < v.c.m := by have := h.c.pos; omega
  have f := h.fin e m
  have d1 := (in_iff e2 h.c.pos).1 ((h.bnd e).1 z h1)
  have d2 := (in_iff e2 h.c.pos).1 ((h.bnd e).2 z h2)
  rw [h1, h2] at f
  simp only [Option.map, fin3, lo_fix p d1, hi_fix p d2] at f
  rw [if_neg (by omega), if_pos trivial] at f
  exact f.symm
end WfV
theorem leqV_refl {v : Vl} (h : WfV v) : leqV v v = true := by
 unfold leqV; rw [leqA_rf, inside_refl h.c]; rfl
theorem inside_ne {c d : Cg} (h : insideC c d = true) (e : c.em = false) : d.em = false := by
 unfold insideC at h
 rw [if_neg (by simp [e])] at h
 revert h; cases d.em <;> simp
theorem leq_red {v : Vl} (hv : WfV v) {r : A} {c : Cg} (hr : Wf r) (hc : WfC c) (h1 : leqA (ofA v.a) (ofA r) = true) (h2 : insideC v.c c = true) : leqV v (red r c) = true := by
 cases e : v.a.em with
 | true =>
  have e2 : v.c.em = true := by rw [← hv.em, e]
  unfold leqV
  rw [leqA_emp e, inside_em e2]; rfl
 | false =>
  have e2 : v.c.em = false := by rw [← hv.em, e]
  have er := leqA_ne hv.a hr h1 e
  have ec := inside_ne h2 e2
  obtain ⟨q1, q2⟩ := (inside_iff hc e2 ec).1 h2
  obtain ⟨g1, g2⟩ := (leqA_of hv.a hr e er).1 h1
  obtain ⟨b1, b2⟩ := hv.bnd e
  have wr := red_V hr hc
  by_cases m : c.m = 0
  ·rw [m] at q1 q2
   have m1 := Int.zero_dvd.1 q1
   have m2 : v.c.r = c.r := by have := Int.zero_dvd.1 q2; omega
   obtain ⟨o, i⟩ := hv.one e m1
   have : red r c = onev v.c.r := by
    unfold red
    rw [if_neg (by simp [er]), if_neg (by simp [ec]), if_pos m, ← m2, if_pos (leqA_in h1 i)]
   rw [this, ← o]
   exact leqV_refl hv
  ·have p : 0 < c.m := by have := hc.pos; omega
   have C1 : ∀ x, r.lo.map (loC c) = some x → ∃ k, v.a.lo = some k ∧ x ≤ k := by
    intro x hx
    cases hl : r.lo with
    | none => rw [hl] at hx; cases hx
    | some l =>
     rw [hl] at hx; cases hx
     obtain ⟨k, k1, k2⟩ := g1 l hl
     exact ⟨k, k1, lo_least p ((in_iff ec hc.pos).1 (inside_in hv.c hc h2 (b1 k k1))) k2⟩
   have C2 : ∀ x, r.hi.map (hiC c) = some x → ∃ k, v.a.hi = some k ∧ k ≤ x := by
    intro x hx
    cases hl : r.hi with
    | none => rw [hl] at hx; cases hx
    | some l =>
     rw [hl] at hx; cases hx
     obtain ⟨k, k1, k2⟩ := g2 l hl
     exact ⟨k, k1, hi_most p ((in_iff ec hc.pos).1 (inside_in hv.c hc h2 (b2 k k1))) k2⟩
   have R : red r c = fin3 (r.lo.map (loC c)) (r.hi.map (hiC c)) c := by
    unfold red
    rw [if_neg (by simp [er]), if_neg (by simp [ec]), if_neg m]
   rw [R] at wr ⊢
   revert C1 C2 wr
   generalize r.lo.map (loC c) = x
   generalize r.hi.map (hiC c) = y
   intro wr C1 C2
   have nb : ∀ (z w : Int), clip z = some w → w = z := by
    intro z w h
    unfold clip at h; split at h
    ·cases h; rfl
    ·cases h
   have fin : ∀ t u : Option Int, Wf ⟨false, t, u⟩ → (∀ l, t = some l → ∃ k, v.a.lo = some k ∧ l ≤ k) → (∀ l, u = some l → ∃ k, v.a.hi = some k ∧ k ≤ l) → leqV v ⟨⟨false, t, u⟩, c⟩ = true := by
    intro t u hw ht hu
    unfold leqV
    rw [(leqA_of hv.a hw e rfl).2 ⟨ht, hu⟩, h2]; rfl
   cases x with
   | none => cases y with
    | none => exact fin _ _ wr.a nofun nofun
    | some w => exact fin _ _ wr.a nofun (fun l h => by rw [nb _ _ h]; exact C2 _ rfl)
   | some z => cases y with
    | none => exact fin _ _ wr.a (fun l h => by rw [nb _ _ h]; exact C1 _ rfl) nofun
    | some w =>
     obtain ⟨k, k1, k2⟩ := C1 _ rfl
     obtain ⟨k', k3, k4⟩ := C2 _ rfl
     have le := hv.a.le
     rw [k1, k3] at le
     simp only [le?] at le
     unfold fin3 at wr ⊢
     simp only at wr ⊢
     rw [if_neg (by omega)] at wr ⊢
     by_cases h3 : z = w
     ·rw [if_pos h3] at wr ⊢
      have k5 : k = z := by omega
      have k6 : k' = z := by omega
      rw [k5] at k1; rw [k6] at k3
      rw [← hv.eqb e k1 k3]
      exact leqV_refl hv
     ·rw [if_neg h3] at wr ⊢
      exact fin _ _ wr.a (fun l h => by rw [nb _ _ h]; exact C1 _ rfl) (fun l h => by rw [nb _ _ h]; exact C2 _ rfl)
end Go.N
namespace Go.N
open Go Go.Q Go.Rx
def widV (zs : List Int) (a b : Vl) : Vl := red (toA (widen (ofA a.a) (ofA b.a) zs)) (joinC a.c b.c)
section
variable {a b : Vl} (ha : WfV a) (hb : WfV b)
include ha hb
theorem widV_V {zs : List Int} (hz : Th zs) : WfV (widV zs a b) := red_V (widen_w ha.a hb.a hz).1 (joinC_wf ha.c hb.c)
end
section
variable {a b : Vl} (ha : WfV a) (hb : WfV b)
include ha hb
theorem leq_widL {zs : List Int} (hz : Th zs) : leqV a (widV zs a b) = true := by
 obtain ⟨w, l1, l2⟩ := widen_w ha.a hb.a hz
 exact leq_red ha w (joinC_wf ha.c hb.c) l1 (inside_joinL ha.c)
theorem leq_widR {zs : List Int} (hz : Th zs) : leqV b (widV zs a b) = true := by
 obtain ⟨w, l1, l2⟩ := widen_w ha.a hb.a hz
 exact leq_red hb w (joinC_wf ha.c hb.c) l2 (inside_joinR hb.c)
end
end Go.N
namespace Go.N
open Go Go.Q Go.Rx
abbrev tb (b : ByteArray) : Nat := b.data.toList.length
def SmV (x : VV) : Prop := tb x.1.2.1 ≤ 100000 ∧ tb x.1.2.2.1 ≤ 100000 ∧ tb x.2.1.2.1 ≤ 100000 ∧ tb x.2.1.2.2.1 ≤ 100000
theorem vv_beq (x y : VV) : (((x.1.1 == y.1.1) && ((x.1.2.1 == y.1.2.1) && ((x.1.2.2.1 == y.1.2.2.1) && true))) && (((x.2.1.1 == y.2.1.1) && ((x.2.1.2.1 == y.2.1.2.1) && ((x.2.1.2.2.1 == y.2.1.2.2.1) && true))) && true)) = decide (x = y) := by
 obtain ⟨⟨e1, l1, m1, ⟨⟩⟩, ⟨e2, l2, m2, ⟨⟩⟩, ⟨⟩⟩ := x
 obtain ⟨⟨f1, p1, q1, ⟨⟩⟩, ⟨f2, p2, q2, ⟨⟩⟩, ⟨⟩⟩ := y
 rw [Bool.eq_iff_iff]
 simp only [ba_beq, Bool.and_eq_true, beq_iff_eq, decide_eq_true_eq, Bool.and_true, Prod.mk.injEq, and_true]
theorem vc_wf {a : A} {c : Cg} (ha : Wf a) (hc : WfC c) (h : vc (red a c) = vc ⟨a, c⟩) : ∃ v, vc ⟨a, c⟩ = vc v ∧ WfV v := by
 simp only [vc, Prod.mk.injEq] at h
 have e1 := ac_inj h.1
 obtain ⟨e2, e3⟩ := cc_inj h.2.1
 cases ec : c.em with
 | true =>
  have hE : red a c = Ev := by
   unfold red
   by_cases e : a.em = true
   ·rw [if_pos e]
   ·rw [if_neg e, if_pos ec]
  refine ⟨Ev, ?_, Ev_V⟩
  rw [hE] at e1
  simp only [vc, ← e1]
  rw [cc_em ec]; rfl
 | false =>
  rw [ec] at e2
  refine ⟨⟨a, c⟩, rfl, ha, hc, ?_⟩
  have e4 := e3 e2
  show red a c = ⟨a, c⟩
  generalize red a c = r at *
  cases r; simp_all
section
variable (lf : Nat) (hb : Big lf)
include hb
theorem chk_wf {v : Vl} (h : WfV v) : value_Check.f lf (vc v) = some (0, ()) ∧ surveyorref23_Check.f lf (vc v) = some (0, ()) := by
 have hlf := hb.1
 have h3 : 200000 ≤ lf := by omega
 have p1 := check_wf lf h3 h.a
 have p2 := check_wf_ref lf h3 h.a
 have q1 := ccheck lf hb h.c
 have q2 := rcheck lf hb h.c
 have r1 := vred_f lf hb h.a h.c
 have r2 := rred_f lf hb h.a h.c
 rw [h.red] at r1 r2
 have bq := vv_beq (vc v) (vc v)
 rw [decide_eq_true rfl] at bq
 constructor
 ·rw [value_Check.f, value_parts.f]
  simp only [show (vc v).1 = ac v.a from rfl, show (vc v).2.1 = cc v.c from rfl] at bq ⊢
  simp only [p1, q1, r1, bdS, bne_self_eq_false, brF]
  simp only [show (vc v).1 = ac v.a from rfl, show (vc v).2.1 = cc v.c from rfl, bq, Bool.not_true, brF]
 ·rw [surveyorref23_Check.f]
  simp only [show (vc v).1 = ac v.a from rfl, show (vc v).2.1 = cc v.c from rfl] at bq ⊢
  simp only [p2, q2, r2, bdS, bne_self_eq_false, brF]
  simp only [show (vc v).1 = ac v.a from rfl, show (vc v).2.1 = cc v.c from rfl, bq, Bool.not_true, brF]
theorem chk2_f {v w : Vl} (h : WfV v) (k : WfV w) : value_checks.f lf (vc v) (vc w) = some (0, ()) := by
 rw [value_checks.f, (chk_wf lf hb h).1, bdS]
 simp only [bne_self_eq_false, brF, (chk_wf lf hb k).1, bdS]
end
end Go.N
namespace Go.N
open Go Go.Q Go.Rx
section
variable (lf : Nat) (hb : Big lf) {v w : Vl} (hv : WfV v) (hw : WfV w)
include hb hv hw
theorem leqV_f : value_Leq.f lf (vc v) (vc w) = some (leqV v w, 0, ()) := by
 have h3 : 200000 ≤ lf := by have := hb.1; omega
 rw [value_Leq.f, chk2_f lf hb hv hw, bdS]
 simp only [bne_self_eq_false, brF]
 simp only [show (vc v).1 = ac v.a from rfl, show (vc v).2.1 = cc v.c from rfl, show (vc w).1 = ac w.a from rfl, show (vc w).2.1 = cc w.c from rfl, leq_f lf h3 hv.a hw.a, leq_c lf hb hv.c hw.c, bdS]
 unfold leqV
 cases leqA (ofA v.a) (ofA w.a) <;> simp only [brT, brF, Bool.true_and, Bool.false_and]
end
section
variable (lf : Nat) (hb : Big lf) {v : Vl} (hv : WfV v)
include hb hv
end
section
variable (lf : Nat) (hb : Big lf) {x y : VV} (hx : SmV x) (hy : SmV y)
include hb hx hy
end
end Go.N
namespace Go.N
open Go Go.Q Go.Rx
theorem ev_join {v w : Vl} (hv : WfV v) (hw : WfV w) (zs : List Int) (e : v.a.em = true) : widV zs v w = w := by
 have e1 : toA (widen (ofA v.a) (ofA w.a) zs) = w.a := by
  unfold widen hull
  rw [emp_ofA hv.a, e, if_pos (.inl rfl), if_pos rfl, toA_ofA hw.a]
 have e2 : joinC v.c w.c = w.c := by unfold joinC; rw [if_pos (by rw [← hv.em]; exact e)]
 unfold widV
 rw [e1, e2, hw.red]
theorem ev_join' {v w : Vl} (hv : WfV v) (hw : WfV w) (zs : List Int) (e : v.a.em = false) (e' : w.a.em = true) : widV zs v w = v := by
 have e1 : toA (widen (ofA v.a) (ofA w.a) zs) = v.a := by
  unfold widen hull
  rw [emp_ofA hv.a, emp_ofA hw.a, e, e', if_pos (.inr rfl), if_neg (by simp), if_pos rfl, toA_ofA hv.a]
 have e2 : joinC v.c w.c = v.c := by unfold joinC; rw [if_neg (by rw [← hv.em, e]; simp), if_pos (by rw [← hw.em]; exact e')]
 unfold widV
 rw [e1, e2, hv.red]
section
variable (lf : Nat) (hb : Big lf) {v w : Vl} (hv : WfV v) (hw : WfV w)
include hb hv hw
theorem widV_f {zs : List Int} (hz : Th zs) (hl : zs.length ≤ 1024) (hasc : interval_ascending.f lf (zs.map bz) = some (0, ())) : value_Widen.f lf (vc v) (vc w) (zs.map bz) = some (vc (widV zs v w), 0, ()) := by
 have h3 : 200000 ≤ lf := by have := hb.1; omega
 rw [value_Widen.f, chk2_f lf hb hv hw, bdS]
 simp only [bne_self_eq_false, brF]
 simp only [show (vc v).1 = ac v.a from rfl, show (vc v).2.1 = cc v.c from rfl, show (vc w).1 = ac w.a from rfl, show (vc w).2.1 = cc w.c from rfl, show (ac v.a).1 = v.a.em from rfl, show (ac w.a).1 = w.a.em from rfl, widen_f lf h3 hv.a hw.a hz hl hasc, bdS, bne_self_eq_false, brF]
 cases e : v.a.em with
 | true => simp only [brT]; rw [ev_join hv hw zs e]
 | false => cases e' : w.a.em with
  | true => simp only [brT, brF]; rw [ev_join' hv hw zs e e']
  | false =>
   simp only [brF, join_c lf hb hv.c hw.c, bdS, bne_self_eq_false, vred_f lf hb (widen_w hv.a hw.a hz).1 (joinC_wf hv.c hw.c)]
   rfl
end
section
variable (lf : Nat) (hb : Big lf) {x y : VV} (hx : SmV x) (hy : SmV y)
include hb hx hy
end
section
variable (lf : Nat) (hb : Big lf) {x : VV} (hx : SmV x)
include hb hx
end
end Go.N
namespace Go.N
open Go Go.Q
theorem tryC (lf : Nat) : surveyortop_tryChains.f lf = some (true, ()) := by kernel_rfl
end Go.N
namespace Go.Q
open Go Go.RowKit Go.ChangeShapes Go.WideShapes
def flat : Ty → Bool
 | .sl _ => false
 | .pair a b => flat a && flat b
 | _ => true
def partsOf (P : Program) (t : TypeId) : List (TypeId × Nat) := match P.underlying t with
 | some (.struct fs) => fs.toList.map fun f => (f.type, f.offset)
 | some (.array n e) => (List.range n).map fun i => (e, i * P.cellsOf e)
 | _ => []
mutual
def fitT (P : Program) : Ty → TypeId → Bool
 | .int k, t => match P.underlying t with
  | some (.int k') => decide (k' = k)
  | _ => false
 | .bool, t => match P.underlying t with
  | some .bool => true
  | _ => false
 | .str, t => match P.underlying t with
  | some .string => true
  | _ => false
 | .unit, _ => false
 | .nul, _ => false
 | .pair a b, t => match partsOf P t with
  | p :: r => p.2 == 0 && (fitT P a p.1 && (P.cellsOf p.1 == a.n && (fitL P b r a.n && P.cellsOf t == a.n + b.n)))
  | [] => false
 | .sl e, t => match P.underlying t with
  | some (.slice e') => fitT P e e' && (flat e && P.cellsOf e' == e.n)
  | _ => false
def fitL (P : Program) : Ty → List (TypeId × Nat) → Nat → Bool
 | .unit, l, _ => match l with
  | [] => true
  | _ => false
 | .pair a b, l, k => match l with
  | p :: r => p.2 == k && (fitT P a p.1 && (P.cellsOf p.1 == a.n && fitL P b r (k + a.n)))
  | [] => false
 | _, _, _ => false
end
def Bnd : (T : Ty) → T.α → Prop
 | .int k, x => k.min ≤ x ∧ x ≤ k.max
 | .str, x => x.size ≤ 9223372036854775807
 | .pair a b, x => Bnd a x.1 ∧ Bnd b x.2
 | .sl e, l => l.length ≤ 9223372036854775807 ∧ ∀ y ∈ l, Bnd e y
 | _, _ => True
def Bnds : (ps : List Ty) → Tys ps → Prop
 | [], _ => True
 | t :: ts, x => Bnd t x.1 ∧ Bnds ts x.2
section
variable {H : Type} {enc : TypeId × Value → H} {P : Program} {w : World} {F : Nat → Prop} {sp : Nat → Bool} {held : Bool}
theorem trod_parts {t : TypeId} {fuel : Nat} {cs : List Value} {x : DataW H × List MemPlace} (hp : partsOf P t ≠ []) (h : DataW.trod enc P w 0 sp held fuel t cs = some x) :
  cs.length = P.cellsOf t ∧ ∃ n, ∀ p ∈ partsOf P t, ∃ y, DataW.trod enc P w 0 sp held n p.1 ((cs.drop p.2).take (P.cellsOf p.1)) = some y := by
 unfold partsOf at hp ⊢
 split at hp
 ·rename_i fs hu
  obtain ⟨xs, n, _, _, hl, hxl, hf⟩ := DataW.trod_struct hu h
  refine ⟨hl, n, fun p hm => ?_⟩
  simp only [List.mem_map] at hm
  obtain ⟨f, hfm, rfl⟩ := hm
  obtain ⟨i, hi, he⟩ := List.mem_iff_getElem.1 hfm
  have h1 : fs[i]? = some f := by
   have : fs.toList[i]? = some f := by rw [List.getElem?_eq_getElem hi, he]
   simpa using this
  have h2 : i < xs.length := by
   rw [hxl]; simpa using hi
  exact ⟨xs[i], by rw [hf i f h1, List.getElem?_eq_getElem h2]⟩
 ·rename_i n e hu
  obtain ⟨xs, m, _, _, hl, hxl, hf⟩ := DataW.trod_array hu h
  refine ⟨hl, m, fun p hm => ?_⟩
  simp only [List.mem_map, List.mem_range] at hm
  obtain ⟨i, hi, rfl⟩ := hm
  exact ⟨xs[i], by rw [hf i hi, List.getElem?_eq_getElem (by omega)]⟩
 ·exact absurd rfl hp
mutual
theorem dr_flat : ∀ (T : Ty) (t : TypeId) (cs : List Value) (x : DataW H × List MemPlace) (fuel : Nat), flat T = true → fitT P T t = true → DataW.trod enc P w 0 sp held fuel t cs = some x → ∃ y : T.α, DR F w T y cs ∧ Bnd T y
 | .int k, t, cs, x, fuel, _, hf, h => by
  unfold fitT at hf
  split at hf
  ·rename_i k' hu
   obtain rfl : k' = k := by simpa using hf
   obtain ⟨n, rfl, _, hw⟩ := DataW.trod_int hu h
   exact ⟨n, rfl, by simpa [Lit.wf, Bnd] using hw⟩
  ·cases hf
 | .bool, t, cs, x, fuel, _, hf, h => by
  unfold fitT at hf
  split at hf
  ·rename_i hu
   obtain ⟨b, rfl, _⟩ := DataW.trod_bool hu h
   exact ⟨b, rfl, trivial⟩
  ·cases hf
 | .str, t, cs, x, fuel, _, hf, h => by
  unfold fitT at hf
  split at hf
  ·rename_i hu
   obtain ⟨s, rfl, _, hs⟩ := DataW.trod_string hu h
   exact ⟨s, rfl, by simpa [maxLen, Bnd] using hs⟩
  ·cases hf
 | .unit, t, cs, x, fuel, _, hf, h => by simp [fitT] at hf
 | .nul, t, cs, x, fuel, _, hf, h => by simp [fitT] at hf
 | .sl e, t, cs, x, fuel, hfl, _, _ => by simp [flat] at hfl
 | .pair a b, t, cs, x, fuel, hfl, hf, h => by
  unfold fitT at hf
  split at hf
  ·rename_i p r hp
   simp only [Bool.and_eq_true, beq_iff_eq] at hf
   obtain ⟨h0, h1, h2, h3, h4⟩ := hf
   simp only [flat, Bool.and_eq_true] at hfl
   obtain ⟨hl, n, hm⟩ := trod_parts (by rw [hp]; simp) h
   rw [hp] at hm
   obtain ⟨y0, hy0⟩ := hm p (by simp)
   rw [h0, h2] at hy0
   obtain ⟨u, d1, b1⟩ := dr_flat a p.1 _ _ n hfl.1 h1 hy0
   obtain ⟨v, d2, b2⟩ := dr_flatL b r a.n cs n hfl.2 h3 (fun q hq => hm q (by simp [hq])) (by omega)
   refine ⟨(u, v), ⟨_, _, ?_, d1, d2⟩, b1, b2⟩
   have e : (cs.drop a.n).take b.n = cs.drop a.n := List.take_of_length_le (by rw [List.length_drop]; omega)
   rw [e]; simp
  ·cases hf
theorem dr_flatL : ∀ (T : Ty) (l : List (TypeId × Nat)) (k : Nat) (cs : List Value) (n : Nat), flat T = true → fitL P T l k = true → (∀ p ∈ l, ∃ y, DataW.trod enc P w 0 sp held n p.1 ((cs.drop p.2).take (P.cellsOf p.1)) = some y) → k + T.n ≤ cs.length → ∃ y : T.α, DR F w T y ((cs.drop k).take T.n) ∧ Bnd T y
 | .int k', l, k, cs, n, _, hf, _, _ => by simp [fitL] at hf
 | .bool, l, k, cs, n, _, hf, _, _ => by simp [fitL] at hf
 | .str, l, k, cs, n, _, hf, _, _ => by simp [fitL] at hf
 | .nul, l, k, cs, n, _, hf, _, _ => by simp [fitL] at hf
 | .sl _, l, k, cs, n, _, hf, _, _ => by simp [fitL] at hf
 | .unit, l, k, cs, n, _, hf, _, _ => ⟨(), by simp [DR, Ty.n], trivial⟩
 | .pair a b, l, k, cs, n, hfl, hf, hm, hk => by
  unfold fitL at hf
  split at hf
  ·rename_i p r
   simp only [Bool.and_eq_true, beq_iff_eq] at hf
   obtain ⟨h0, h1, h2, h3⟩ := hf
   simp only [flat, Bool.and_eq_true] at hfl
   simp only [Ty.n] at hk
   obtain ⟨y0, hy0⟩ := hm p (by simp)
   rw [h0, h2] at hy0
   obtain ⟨u, d1, b1⟩ := dr_flat a p.1 _ _ n hfl.1 h1 hy0
   obtain ⟨v, d2, b2⟩ := dr_flatL b r (k + a.n) cs n hfl.2 h3 (fun q hq => hm q (by simp [hq])) (by omega)
   refine ⟨(u, v), ⟨_, _, ?_, d1, d2⟩, b1, b2⟩
   simp only [Ty.n]
   rw [List.take_add, List.drop_drop]
  ·cases hf
end
theorem list_of {α : Type} {R : Nat → α → Prop} : ∀ (n : Nat), (∀ i, i < n → ∃ y, R i y) → ∃ l : List α, l.length = n ∧ ∀ (i : Nat) (y : α), l[i]? = some y → R i y
 | 0, _ => ⟨[], rfl, fun i y h => by simp at h⟩
 | n + 1, h => by
  obtain ⟨l, hl, hr⟩ := list_of n fun i hi => h i (by omega)
  obtain ⟨y, hy⟩ := h n (by omega)
  refine ⟨l ++ [y], by simp [hl], fun i z hz => ?_⟩
  by_cases hi : i < l.length
  ·rw [List.getElem?_append_left hi] at hz; exact hr i z hz
  ·rw [List.getElem?_append_right (by omega)] at hz
   have : i = l.length := by
    by_cases e : i - l.length = 0
    ·omega
    ·obtain ⟨q, hq⟩ := Nat.exists_eq_succ_of_ne_zero e
     rw [hq] at hz; simp at hz
   subst this
   simp only [Nat.sub_self, List.getElem?_cons_zero, Option.some.injEq] at hz
   subst hz; rw [hl]; exact hy
def topOK : Ty → Bool
 | .sl e => flat e
 | T => flat T
theorem add_none (b o n : Nat) : (Addr.add ⟨b, o, none⟩ n) = ⟨b, o + n, none⟩ := by
 unfold Addr.add; split
 ·rename_i h; rw [h]; rfl
 ·rfl
theorem isC_shape {i : Nat} {q : TypeId × Nat} (h : w.shape? i = some q) : IsC w i := by
 unfold World.shape? at h
 unfold IsC
 cases hb : w.heap[i]? with
 | none => rw [hb] at h; simp at h
 | some o => cases o <;> rw [hb] at h <;> simp_all
theorem valR_of_trod {T : Ty} {t : TypeId} {v : Value} {d : DataW H} {p : List MemPlace} {base : Nat} (ht : topOK T = true) (hf : fitT P T t = true) (hv : Value.okWide P w .any base t v) (h : DataW.Trod enc P w 0 sp held t v d p) : ∃ y : T.α, ValR (IsC w) w T y v ∧ Bnd T y := by
 obtain ⟨fuel, h⟩ := h
 unfold ValR
 cases T with
 | int k =>
  obtain ⟨y, h1, h2⟩ := dr_flat (F := IsC w) (.int k) t _ _ fuel rfl hf h
  unfold fitT at hf
  split at hf
  ·rename_i k' hu
   obtain ⟨n, rfl⟩ := okWide_int hu hv
   exact ⟨y, by rw [if_neg (by simp [isSt])]; simpa [Value.cells] using h1, h2⟩
  ·cases hf
 | bool =>
  obtain ⟨y, h1, h2⟩ := dr_flat (F := IsC w) .bool t _ _ fuel rfl hf h
  unfold fitT at hf
  split at hf
  ·rename_i hu
   obtain ⟨n, rfl⟩ := okWide_bool hu hv
   exact ⟨y, by rw [if_neg (by simp [isSt])]; simpa [Value.cells] using h1, h2⟩
  ·cases hf
 | str =>
  obtain ⟨y, h1, h2⟩ := dr_flat (F := IsC w) .str t _ _ fuel rfl hf h
  unfold fitT at hf
  split at hf
  ·rename_i hu
   obtain ⟨n, rfl⟩ := okWide_string hu hv
   exact ⟨y, by rw [if_neg (by simp [isSt])]; simpa [Value.cells] using h1, h2⟩
  ·cases hf
 | unit => simp [fitT] at hf
 | nul => simp [fitT] at hf
 | pair a b =>
  obtain ⟨y, h1, h2⟩ := dr_flat (F := IsC w) (.pair a b) t _ _ fuel ht hf h
  obtain ⟨cs, rfl⟩ : ∃ cs, v = .agg cs := by
   unfold fitT at hf
   split at hf
   ·rename_i q r hp
    unfold partsOf at hp
    unfold Value.okWide at hv
    split at hp
    ·rename_i fs hu
     rw [hu] at hv
     obtain ⟨cs, e, _⟩ := hv
     exact ⟨cs, e⟩
    ·rename_i n e hu
     rw [hu] at hv
     obtain ⟨cs, e, _⟩ := hv
     exact ⟨cs, e⟩
    ·cases hp
   ·cases hf
  exact ⟨y, by rw [if_pos (show isSt (.pair a b) = true from rfl)]; exact ⟨cs.toList, by simp, h1⟩, h2⟩
 | sl e =>
  unfold fitT at hf
  split at hf
  ·rename_i e' hu
   simp only [Bool.and_eq_true, beq_iff_eq] at hf
   obtain ⟨h1, h2, h3⟩ := hf
   obtain ⟨a, len, cap, rfl⟩ := okWide_slice hu hv
   rcases DataW.trod_slice hu h with ⟨hc, _⟩ | ⟨a', len', cap', elems, rest, n, _, hc, _, _, hle, hcm, hel, hread, _⟩
   ·simp only [Value.cells, List.cons.injEq, Value.slice.injEq, and_true] at hc
    obtain ⟨rfl, rfl, rfl⟩ := hc
    exact ⟨[], by rw [if_neg (by simp [isSt])]; exact ⟨_, rfl, .inl ⟨rfl, rfl⟩⟩, by simp [Bnd]⟩
   ·simp only [Value.cells, List.cons.injEq, Value.slice.injEq, and_true] at hc
    obtain ⟨rfl, rfl, rfl⟩ := hc
    have hhas : w.has P .any base a' e' cap := by
     unfold Value.okWide Cell.okWide Cell.ok at hv
     rw [hu] at hv
     exact hv.2.2
    obtain ⟨_, hspot, row, cells, hsh, _⟩ := hhas
    obtain ⟨b, o, s⟩ := a'
    simp only at hspot; subst hspot
    have hisc : IsC w b := isC_shape hsh
    obtain ⟨l, hl, hr⟩ := list_of (α := e.α) (R := fun i y => (∃ ds : List Value, DR (IsC w) w e y ds ∧ ∀ (j : Nat) (d : Value), ds[j]? = some d → w.cell? ⟨b, o + (i * e.n + j), none⟩ = some d) ∧ Bnd e y) len fun i hi => by
     have hq := hread i hi
     rw [List.getElem?_eq_getElem (by omega), Option.bind_eq_some_iff] at hq
     obtain ⟨cs, c1, c2⟩ := hq
     obtain ⟨y, k1, k2⟩ := dr_flat (F := IsC w) e e' cs _ n h2 h1 c2
     refine ⟨y, ⟨cs, k1, fun j d' hd => ?_⟩, k2⟩
     obtain ⟨_, m1, m2⟩ := World.cells?_some c1
     have hj : j < cs.length := (List.getElem?_eq_some_iff.1 hd).1
     have := m2 j (by omega)
     rw [add_none, add_none, h3] at this
     rw [← Nat.add_assoc, this]; exact hd
    refine ⟨l, ?_, ?_, ?_⟩
    ·rw [if_neg (by simp [isSt])]
     refine ⟨_, rfl, .inr ⟨b, o, cap, by rw [hl], hisc, by omega, fun i x hx => (hr i x hx).1⟩⟩
    ·rw [hl]; simp only [maxLen] at hcm; omega
    ·intro y hy
     obtain ⟨i, hi, he⟩ := List.mem_iff_getElem.1 hy
     exact (hr i y (by rw [List.getElem?_eq_getElem hi, he])).2
  ·cases hf
def fitAll (P : Program) : List Ty → List TypeId → Bool
 | [], [] => true
 | T :: Ts, t :: ts => (topOK T && fitT P T t) && fitAll P Ts ts
 | _, _ => false
theorem argsR_of_trod : ∀ {Ts : List Ty} {ts : List TypeId} {vs : List Value} {ds : List (DataW H)} {p : List MemPlace} {base : Nat}, fitAll P Ts ts = true → (∀ (j : Nat) t v, ts[j]? = some t → vs[j]? = some v → Value.okWide P w .any base t v) →
  DataW.TrodAll enc P w 0 sp held ts vs ds p → ∃ x : Tys Ts, ArgsR (IsC w) w Ts x vs ∧ Bnds Ts x
 | [], [], vs, ds, p, base, _, _, h => by
  cases vs with
  | nil => exact ⟨(), rfl, trivial⟩
  | cons _ _ => cases ds <;> exact absurd h (by simp [DataW.TrodAll])
 | [], _ :: _, vs, ds, p, base, hf, _, h => by simp [fitAll] at hf
 | _ :: _, [], vs, ds, p, base, hf, _, h => by simp [fitAll] at hf
 | T :: Ts, t :: ts, vs, ds, p, base, hf, hv, h => by
  simp only [fitAll, Bool.and_eq_true] at hf
  cases vs with
  | nil => cases ds <;> exact absurd h (by simp [DataW.TrodAll])
  | cons v vs =>
   cases ds with
   | nil => exact absurd h (by simp [DataW.TrodAll])
   | cons d ds =>
    obtain ⟨p1, p2, h1, h2, _⟩ := h
    obtain ⟨y, k1, k2⟩ := valR_of_trod hf.1.1 hf.1.2 (hv 0 t v rfl rfl) h1
    obtain ⟨x, m1, m2⟩ := argsR_of_trod hf.2 (fun j t' v' a b => hv (j + 1) t' v' (by simpa using a) (by simpa using b)) h2
    exact ⟨(y, x), ⟨v, vs, rfl, k1, m1⟩, k2, m2⟩
theorem trodAll_below {W W' : World} (hl : laidOutB P = true) (hb : Below W.heap.size W W') : ∀ {ts : List TypeId} {vs : List Value} {ds : List (DataW H)} {p : List MemPlace}, (ts.all fun t => P.readableRec t && decide (t < P.types.size)) = true →
  DataW.TrodAll enc P W 0 (fun _ => true) true ts vs ds p → DataW.TrodAll enc P W' 0 (fun b => decide (b < W.heap.size)) true ts vs ds p
 | [], vs, ds, p, _, h => by cases vs <;> cases ds <;> simp_all [DataW.TrodAll]
 | t :: ts, vs, ds, p, ha, h => by
  cases vs with
  | nil => cases ds <;> exact absurd h (by simp [DataW.TrodAll])
  | cons v vs =>
   cases ds with
   | nil => exact absurd h (by simp [DataW.TrodAll])
   | cons d ds =>
    simp only [List.all_cons, Bool.and_eq_true, decide_eq_true_eq] at ha
    obtain ⟨p1, p2, h1, h2, rfl⟩ := h
    have hlt : ∀ x ∈ p1, x.block < W.heap.size := by
     obtain ⟨m, hm⟩ := h1
     exact DataW.trod_lt m _ _ _ hm
    exact ⟨p1, p2, Below.trod hl ha.1.1 ha.1.2 h1 hb hlt, trodAll_below hl hb ha.2 h2, rfl⟩
theorem trodAll_len {ts : List TypeId} : ∀ {vs : List Value} {ds : List (DataW H)} {p : List MemPlace}, DataW.TrodAll enc P w 0 sp held ts vs ds p → ds.length = ts.length := by
 induction ts with
 | nil => intro vs ds p h; cases vs <;> cases ds <;> simp_all [DataW.TrodAll]
 | cons t ts ih =>
  intro vs ds p h
  cases vs with
  | nil => cases ds <;> exact absurd h (by simp [DataW.TrodAll])
  | cons v vs =>
   cases ds with
   | nil => exact absurd h (by simp [DataW.TrodAll])
   | cons d ds => obtain ⟨_, _, _, h2, _⟩ := h; simp [ih h2]
end
section
variable {H : Type} {enc : TypeId × Value → H}
theorem law_post (hl : laidOutB Proofs.Tryz.prog = true) {n : FuncId} {fn : Func} {s : ChangeSpec} {Ts : List Ty} {f : Nat → Tys Ts → Option (Bool × Unit)} (hE : ∀ lf, EntryOK Proofs.Tryz.prog TabG n ⟨Ts, [.bool], f lf⟩)
  (hf : fitAll Proofs.Tryz.prog Ts fn.params.toList = true) (hrd : (fn.params.toList.all fun t => Proofs.Tryz.prog.readableRec t && decide (t < Proofs.Tryz.prog.types.size)) = true)
  {rt : TypeId} (hrt : fn.resultTypes = #[rt]) (hub : Proofs.Tryz.prog.underlying rt = some .bool) (hsv : s.vars = [])
  (hs : ∀ ds : List (DataW H), ds.length = fn.params.toList.length → s.fn H ds = { results := [.lit (.bool true)], args := ds })
  (hpure : ∀ x : Tys Ts, Bnds Ts x → ∃ lf, f lf x = some (true, ()))
  {W : World} {base : Nat} {args : Array Value} {ds gs : List (DataW H)} {before : List MemPlace} {apart fresh handsOn : Bool}
  (hval : ∀ (j : Nat) t v, fn.params[j]? = some t → args[j]? = some v → Value.okWide Proofs.Tryz.prog W .any base t v)
  (hW : DataW.Whole enc Proofs.Tryz.prog fn.params.toList s.vars apart W args.toList ds gs before) (hG : TabG W) :
  Calls Proofs.Tryz.prog n args W fun e W' => ∃ v, e = .returned v ∧ s.post enc Proofs.Tryz.prog fn apart fresh handsOn false W args v W' := by
 have hW' := hW
 obtain ⟨p, q, hA, hV, rfl, _, _⟩ := hW
 rw [hsv] at hV
 obtain ⟨rfl, rfl⟩ := trodVars_none hV
 have hv' : ∀ (j : Nat) (t : TypeId) (v : Value), fn.params.toList[j]? = some t → args.toList[j]? = some v → Value.okWide Proofs.Tryz.prog W .any base t v := by
  intro j t v a b
  rw [Array.getElem?_toList] at a b
  exact hval j t v a b
 obtain ⟨x, k1, k2⟩ := argsR_of_trod hf hv' hA
 obtain ⟨lf, hlf⟩ := hpure x k2
 have hlen := trodAll_len hA
 have h := hE lf x (true, ()) hlf (IsC W) W args.toList hG (fun i hi => hi) k1
 rw [Array.toArray_toList] at h
 refine h.mono ?_
 rintro e W' ⟨v, rfl, hb, hr⟩
 obtain ⟨vs, ⟨u, r, rfl, h1, h2⟩, rfl⟩ := hr
 obtain rfl : r = [] := h2
 have hu : u = .bool true := by
  unfold ValR at h1
  rw [if_neg (by simp [isSt])] at h1
  simpa [DR] using h1
 subst hu
 refine ⟨_, rfl, ds, [], p ++ [], [], p, [], hW', ?_, ?_, ?_, hb.frame _, fun h => by cases h⟩
 ·rw [List.append_nil, hs ds hlen, hrt]
  exact trodAll_mk1 (shut_bool hub true)
 ·rw [List.append_nil, hs ds hlen]
  exact trodAll_below hl hb hrd hA
 ·rw [List.append_nil, hs ds hlen, hsv]
  rfl
end
theorem tabG_of_laid {laid : List (String × DataW Unit)} {W : World} (hp : (laid.all fun x => x.2.handleName?.isNone) = true) {g : Nat} {t e : TypeId} {n : Nat} {rest : List (String × DataW Unit)}
  (hg : Proofs.Tryz.prog.globalNamed "internal/strconv.uint64pow10" = some g) (hty : (Proofs.Tryz.prog.globals[g]?).map (·.type) = some t) (ht : Proofs.Tryz.prog.underlying t = some (.array n e)) (he : Proofs.Tryz.prog.underlying e = some (.int .u64))
  (hce : Proofs.Tryz.prog.cellsOf e = 1) (hct : Proofs.Tryz.prog.cellsOf t = n)
  (hh : (laid.filter fun x => x.1 == "internal/strconv.uint64pow10") = ("internal/strconv.uint64pow10", Lib.tabData .u64 Lib.pow10Tab) :: rest)
  (h : laidMetH Proofs.Tryz.prog laid W) : TabG W := by
 rw [MakeChecks.laidMetH_plain _ _ _ hp] at h
 have h' := laidMet.filter (fun x => x.1 == "internal/strconv.uint64pow10") h
 rw [hh] at h'
 exact Lib.tabIs_of_head hg hty ht he hce hct h'
theorem goes_no {P : Program} {c : OpenClaim} (h : P.funcs.any Func.goes = false) (hs : c.start = .entering) : false = c.goesBy P := by
 have key : ∀ (g : Nat) (fn : Func), P.funcs[g]? = some fn → fn.goes = false := by
  intro g fn hg
  have := Array.any_eq_false.1 h
  obtain ⟨hlt, e⟩ := Array.getElem?_eq_some_iff.1 hg
  have := this g hlt
  rw [e] at this
  simpa using this
 have k2 : ∀ g : Nat, (P.funcs[g]?).any Func.goes = false := by
  intro g
  cases hg : P.funcs[g]? with
  | none => rfl
  | some fn => simp [key g fn hg]
 unfold OpenClaim.goesBy Program.goesAt Program.goesFrom
 rw [hs]
 have k3 : ∀ f, P.goes f = false := by
  intro f
  unfold Program.goes
  rw [h, Bool.and_false, Bool.or_false]
  simp only [k2]
  simp
 cases P.funcNamed c.func with
 | none => rfl
 | some f => simp [k3]
end Go.Q
namespace Go.N
open Go.IntKind (i64)
open Go Go.Q Go.Rx
def LnV (lf : Nat) (x : VV) : Prop := (tb x.1.2.1 ≤ 9223372036854775807 ∧ tb x.1.2.1 ≤ lf) ∧ (tb x.1.2.2.1 ≤ 9223372036854775807 ∧ tb x.1.2.2.1 ≤ lf) ∧ (tb x.2.1.2.1 ≤ 9223372036854775807 ∧ tb x.2.1.2.1 ≤ lf) ∧ (tb x.2.1.2.2.1 ≤ 9223372036854775807 ∧ tb x.2.1.2.2.1 ≤ lf)
theorem chkR (lf : Nat) (hb : Big lf) {x : VV} (hx : LnV lf x) : ∃ n : Int, surveyorref23_Check.f lf x = some (n, ()) ∧ (n = 0 → ∃ v, x = vc v ∧ WfV v) := by
 have hlf := hb.1
 have h3 : 200000 ≤ lf := by omega
 obtain ⟨⟨e1, l1, m1, ⟨⟩⟩, ⟨e2, l2, m2, ⟨⟩⟩, ⟨⟩⟩ := x
 obtain ⟨x1, x2, x3, x4⟩ := hx
 rw [← bs_eta l1, ← bs_eta m1, ← bs_eta l2, ← bs_eta m2]
 simp only [tb] at x1 x2 x3 x4
 revert x1 x2 x3 x4
 generalize l1.data.toList = l1
 generalize m1.data.toList = m1
 generalize l2.data.toList = l2
 generalize m2.data.toList = m2
 intro x1 x2 x3 x4
 have p2 := check_ref lf h3 e1 l1 m1 (by omega) (by omega) (by omega) (by omega)
 have q2 := ckc_ref lf h3 e2 l2 m2 (by omega) (by omega) (by omega) (by omega)
 rw [surveyorref23_Check.f]
 simp only [p2, bdS]
 by_cases k1 : ck e1 l1 m1 = 0
 ·rw [k1]
  simp only [bne_self_eq_false, brF, q2, bdS]
  by_cases k2 : ckc e2 l2 m2 = 0
  ·obtain ⟨a, ea, ha⟩ := ck_wf k1
   obtain ⟨c, ec, hc⟩ := ckc_wf k2
   rw [k2]
   have r2 := rred_f lf hb ha hc
   rw [← ea, ← ec] at r2
   simp only [bne_self_eq_false, brF, r2, bdS]
   have bq := vv_beq (vc (red a c)) ((e1, bs l1, bs m1, ()), (e2, bs l2, bs m2, ()), ())
   simp only at bq
   rw [bq, ea, ec]
   by_cases h : vc (red a c) = (ac a, cc c, ())
   ·rw [decide_eq_true h, Bool.not_true, brF]
    exact ⟨0, rfl, fun _ => vc_wf ha hc h⟩
   ·rw [decide_eq_false h, Bool.not_false, brT]
    exact ⟨3, rfl, nofun⟩
  ·simp only [bneT k2, brT]
   exact ⟨_, rfl, fun h => absurd h k2⟩
 ·simp only [bneT k1, brT, bdS]
  exact ⟨_, rfl, fun h => absurd h k1⟩
theorem int_f (lf : Nat) (h3 : 200000 ≤ lf) {z : Int} (hz : -C < z ∧ z < C) : ∃ (n : Int) (b : Bool), surveyorref01_Int.f lf (bs (Lib.itoa z)) = some (n, b, ()) ∧ (b = true → n = z) := by
 have s : sz z ≤ 100 := (sz_C z).2 hz
 rw [surveyorref01_Int.f, short_ref lf (by omega), bdS]
 by_cases c : (sz z : Int) ≤ 17
 ·rw [decide_eq_true c, Bool.not_true, brF, number_ref lf h3 (by omega), bdS]
  by_cases d : z > 1048576
  ·rw [decide_eq_true d, brT]; exact ⟨_, _, rfl, nofun⟩
  ·rw [decide_eq_false d, brF]
   by_cases e : z < -1048576
   ·rw [decide_eq_true e, brT]; exact ⟨_, _, rfl, nofun⟩
   ·rw [decide_eq_false e, brF]; exact ⟨_, _, rfl, fun _ => rfl⟩
 ·rw [decide_eq_false c, Bool.not_false, brT]; exact ⟨_, _, rfl, nofun⟩
theorem gate (lf : Nat) (h3 : 200000 ≤ lf) {z : Int} (hz : -C < z ∧ z < C) (T : (Int × Bool × Unit) → Option (Int × Unit)) (P : Prop)
  (h : ∀ r : Int × Bool × Unit, (-1000 ≤ z ∧ z ≤ 1000) → ∃ t : Int, T r = some (t, ()) ∧ (t ≤ 1000 → P)) :
  ∃ t : Int, bd (surveyorref01_Int.f lf (bs (Lib.itoa z))) (fun r => br (!r.2.1) (some (1001, ())) (br (decide (r.1 < (-1000))) (some (1001, ())) (br (decide (r.1 > 1000)) (some (1001, ())) (T r)))) = some (t, ()) ∧ (t ≤ 1000 → P) := by
 obtain ⟨n, b, e, hn⟩ := int_f lf h3 hz
 rw [e, bdS]
 cases b with
 | false => simp only [Bool.not_false, brT]; exact ⟨1001, rfl, fun h => by omega⟩
 | true =>
  have := hn rfl
  subst this
  simp only [Bool.not_true, brF]
  by_cases c : n < -1000
  ·rw [decide_eq_true c, brT]; exact ⟨1001, rfl, fun h => by omega⟩
  ·rw [decide_eq_false c, brF]
   by_cases d : n > 1000
   ·rw [decide_eq_true d, brT]; exact ⟨1001, rfl, fun h => by omega⟩
   ·rw [decide_eq_false d, brF]; exact h _ (by omega)
theorem em_itoa (z : Int) : ((bs (Lib.itoa z)).toList == (⟨#[]⟩ : ByteArray).toList) = false := by
 have := ob_beq (some z)
 rw [decide_eq_false (by simp)] at this
 exact this
theorem em_nil : ((bs []).toList == (⟨#[]⟩ : ByteArray).toList) = true := by
 have := ob_beq none
 rw [decide_eq_true rfl] at this
 exact this
def SmC (c : Cg) : Prop := (-1000 ≤ c.m ∧ c.m ≤ 1000) ∧ -1000 ≤ c.r ∧ c.r ≤ 1000
theorem tsize_f (lf : Nat) (h3 : 200000 ≤ lf) {v : Vl} (hv : WfV v) : ∃ t : Int, surveyortop_trySize.f lf (vc v) = some (t, ()) ∧ (t ≤ 1000 → v.a.em = false → SmC v.c) := by
 cases e : v.a.em with
 | true =>
  rw [hv.ev e]
  refine ⟨0, ?_, nofun⟩
  show surveyortop_trySize.f lf ((true, bs [], bs [], ()), (true, bs [], bs [], ()), ()) = _
  rw [surveyortop_trySize.f]
  simp only [em_nil, brT]
 | false =>
  have e2 : v.c.em = false := by rw [← hv.em, e]
  have lo := hv.a.lo
  have hi := hv.a.hi
  have e3 : vc v = ((false, ob v.a.lo, ob v.a.hi, ()), (false, bs (Lib.itoa v.c.m), bs (Lib.itoa v.c.r), ()), ()) := by
   unfold vc; rw [cc_ne e2]; unfold ac; rw [e]
  rw [e3, surveyortop_trySize.f]
  revert lo hi
  cases v.a.lo with
  | none => cases v.a.hi with
   | none =>
    intro _ _
    simp only [show ob none = bs [] from rfl, em_nil, em_itoa, brT, brF]
    refine gate lf h3 hv.c.m _ _ fun r1 b1 => ?_
    refine gate lf h3 hv.c.r _ _ fun r2 b2 => ?_
    exact ⟨_, rfl, fun _ _ => ⟨b1, b2⟩⟩
   | some u =>
    intro _ hu
    simp only [show ob none = bs [] from rfl, show ob (some u) = bs (Lib.itoa u) from rfl, em_nil, em_itoa, brT, brF]
    refine gate lf h3 hu _ _ fun r0 b0 => ?_
    refine gate lf h3 hv.c.m _ _ fun r1 b1 => ?_
    refine gate lf h3 hv.c.r _ _ fun r2 b2 => ?_
    exact ⟨_, rfl, fun _ _ => ⟨b1, b2⟩⟩
  | some l => cases v.a.hi with
   | none =>
    intro hl _
    simp only [show ob none = bs [] from rfl, show ob (some l) = bs (Lib.itoa l) from rfl, em_nil, em_itoa, brT, brF]
    refine gate lf h3 hl _ _ fun r0 b0 => ?_
    refine gate lf h3 hv.c.m _ _ fun r1 b1 => ?_
    refine gate lf h3 hv.c.r _ _ fun r2 b2 => ?_
    exact ⟨_, rfl, fun _ _ => ⟨b1, b2⟩⟩
   | some u =>
    intro hl hu
    simp only [show ob (some l) = bs (Lib.itoa l) from rfl, show ob (some u) = bs (Lib.itoa u) from rfl, em_nil, em_itoa, brT, brF]
    refine gate lf h3 hl _ _ fun r0 b0 => ?_
    refine gate lf h3 hu _ _ fun r0' b0' => ?_
    refine gate lf h3 hv.c.m _ _ fun r1 b1 => ?_
    refine gate lf h3 hv.c.r _ _ fun r2 b2 => ?_
    exact ⟨_, rfl, fun _ _ => ⟨b1, b2⟩⟩
def Kc (c : Cg) (k : Nat) : Prop := (c.m = 0 ∧ k = 12 ∧ -1000 ≤ c.r ∧ c.r ≤ 1000) ∨ (0 < c.m ∧ c.m < 2 ^ k)
def fin1 (x : Option Int) : Int := if x = none then 0 else 1
def Pv (v : Vl) (n : Int) : Prop := (v.a.em = true ∧ n = 0) ∨ (v.a.em = false ∧ ∃ k : Nat, Kc v.c k ∧ n + fin1 v.a.lo + fin1 v.a.hi + k ≤ 20)
theorem joinC_step {c d : Cg} (hc : WfC c) (hd : WfC d) (ec : c.em = false) (ed : d.em = false) {k : Nat} (hk : Kc c k) (sd : SmC d) :
  joinC c d = c ∨ (0 < (joinC c d).m ∧ ∃ k' : Nat, (joinC c d).m < 2 ^ k' ∧ k' + 1 ≤ k) := by
 rcases hk with ⟨m0, rfl, r1, r2⟩ | ⟨mp, mk⟩
 ·have j : joinC c d = clsF (Int.gcd (Int.gcd c.m d.m) (c.r - d.r)) c.r := by
   unfold joinC; rw [if_neg (by simp [ec]), if_neg (by simp [ed])]
  obtain ⟨⟨s1, s2⟩, s3, s4⟩ := sd
  rw [m0, Int.gcd_zero_left] at j
  have g : Int.gcd (d.m.natAbs : Int) (c.r - d.r) ≤ 2000 := by
   by_cases z : d.m = 0
   ·rw [z]; simp only [Int.natAbs_zero, Int.gcd_zero_left, Int.natCast_zero]; omega
   ·have := Nat.gcd_le_left (c.r - d.r).natAbs (show 0 < d.m.natAbs by omega)
    have e : Int.gcd (d.m.natAbs : Int) (c.r - d.r) = Nat.gcd d.m.natAbs (c.r - d.r).natAbs := rfl
    omega
  by_cases z : Int.gcd (d.m.natAbs : Int) (c.r - d.r) = 0
  ·left
   have hC := C_gt
   have cc : clsF (0 : Int) c.r = ⟨false, 0, c.r⟩ := by
    rcases clsF_or 0 c.r with e | e
    ·exfalso
     unfold clsF at e
     have q1 : sz ((0 : Int).natAbs : Int) ≤ 100 := (sz_C _).2 (by simp; omega)
     have q2 : sz c.r ≤ 100 := (sz_C _).2 (by omega)
     rw [if_neg (by rw [if_pos rfl]; omega)] at e
     simp [topC] at e
    ·rw [e]; simp
   rw [j, z]
   rw [show ((0 : Nat) : Int) = 0 from rfl, cc]
   cases c; simp_all
  ·right
   have p := clsF_m (m := (Int.gcd (d.m.natAbs : Int) (c.r - d.r) : Int)) (r := c.r) (by omega)
   rw [← j] at p
   refine ⟨p, 11, ?_, by omega⟩
   rcases clsF_or (Int.gcd (d.m.natAbs : Int) (c.r - d.r) : Int) c.r with e | e
   ·rw [j, e]; decide
   ·rw [j, e]
    simp only [Int.natAbs_natCast]
    have : (2 : Int) ^ 11 = 2048 := by decide
    omega
 ·have st := chain_step hc hd (n := 0) (lim := k) (.inr (.inr ⟨ec, mp, k, mk, by omega⟩))
  have jn : (joinC c d).em = false := by
   unfold joinC; rw [if_neg (by simp [ec]), if_neg (by simp [ed])]; exact clsF_ne
  rcases st with st | st
  ·obtain ⟨_, e⟩ := cc_inj st
   exact .inl (e jn)
  ·have li : limC c (joinC c d) (0 + 1) k = k := by
    unfold limC; rw [if_neg]; rintro ⟨_, _, h | h⟩
    ·rw [ec] at h; cases h
    ·omega
   rw [li] at st
   rcases st with ⟨h, _⟩ | ⟨_, h, _⟩ | ⟨_, h1, k', h2, h3⟩
   ·rw [jn] at h; cases h
   ·exfalso
    have j : joinC c d = clsF (Int.gcd (Int.gcd c.m d.m) (c.r - d.r)) c.r := by
     unfold joinC; rw [if_neg (by simp [ec]), if_neg (by simp [ed])]
    have := clsF_m (m := (Int.gcd (Int.gcd c.m d.m) (c.r - d.r) : Int)) (r := c.r) (by
     have : 0 < Int.gcd (Int.gcd c.m d.m) (c.r - d.r) := Int.gcd_pos_iff.2 (.inl (by have := Int.gcd_pos_iff.2 (show c.m ≠ 0 ∨ d.m ≠ 0 from .inl (by omega)); omega))
     omega)
    rw [← j] at this; omega
   ·exact .inr ⟨h1, k', h2, by omega⟩
theorem lox_key {a : A} (h : Wf a) (e : a.em = false) : (-K < key (lox a.lo) ∨ lox a.lo = .ni) ∧ (key (hix a.hi) < K ∨ hix a.hi = .pi) := by
 have hC := C_lt_K
 have l := h.lo
 have u := h.hi
 constructor
 ·cases hl : a.lo with
  | none => exact .inr rfl
  | some z => rw [hl] at l; left; simp only [okb] at l; simp only [lox, key]; omega
 ·cases hl : a.hi with
  | none => exact .inr rfl
  | some z => rw [hl] at u; left; simp only [okb] at u; simp only [hix, key]; omega
theorem txL {a : A} (h : Wf a) : tx (lox a.lo) = a.lo := by
 have l := h.lo
 revert l
 cases a.lo with
 | none => intro _; rfl
 | some z => intro l; simp only [okb] at l; show clip z = some z; unfold clip; rw [if_pos l]
theorem txH {a : A} (h : Wf a) : tx (hix a.hi) = a.hi := by
 have l := h.hi
 revert l
 cases a.hi with
 | none => intro _; rfl
 | some z => intro l; simp only [okb] at l; show clip z = some z; unfold clip; rw [if_pos l]
theorem widen_nil {a b : A} (ha : Wf a) (hb : Wf b) (ea : a.em = false) (eb : b.em = false) :
  ∃ lo hi, toA (widen (ofA a) (ofA b) []) = ⟨false, lo, hi⟩ ∧ (lo = a.lo ∨ lo = none) ∧ (hi = a.hi ∨ hi = none) := by
 have e1 : emp (ofA a) = false := by rw [emp_ofA ha, ea]
 have e2 : emp (ofA b) = false := by rw [emp_ofA hb, eb]
 have oa : ofA a = ⟨lox a.lo, hix a.hi⟩ := by unfold ofA; rw [if_neg (by simp [ea])]
 have hK := K_gt
 obtain ⟨k1, k2⟩ := lox_key ha ea
 have hh : hull (ofA a) (ofA b) = ⟨xmin (ofA a).lo (ofA b).lo, xmax (ofA a).hi (ofA b).hi⟩ := by
  unfold hull; rw [if_neg (by simp [e1]), if_neg (by simp [e2])]
 have hw : widen (ofA a) (ofA b) [] = ⟨if key (xmin (ofA a).lo (ofA b).lo) ≠ key (ofA a).lo then .ni else xmin (ofA a).lo (ofA b).lo, if key (xmax (ofA a).hi (ofA b).hi) ≠ key (ofA a).hi then .pi else xmax (ofA a).hi (ofA b).hi⟩ := by
  unfold widen; rw [if_neg (by simp [e1, e2]), hh]; rfl
 have L : (widen (ofA a) (ofA b) []).lo = lox a.lo ∨ (widen (ofA a) (ofA b) []).lo = .ni := by
  rw [hw]
  simp only
  by_cases c : key (xmin (ofA a).lo (ofA b).lo) ≠ key (ofA a).lo
  ·rw [if_pos c]; exact .inr rfl
  ·rw [if_neg c]
   left
   unfold xmin at c ⊢
   by_cases d : key (ofA b).lo < key (ofA a).lo
   ·rw [if_pos d] at c; omega
   ·rw [if_neg d, oa]
 have U : (widen (ofA a) (ofA b) []).hi = hix a.hi ∨ (widen (ofA a) (ofA b) []).hi = .pi := by
  rw [hw]
  simp only
  by_cases c : key (xmax (ofA a).hi (ofA b).hi) ≠ key (ofA a).hi
  ·rw [if_pos c]; exact .inr rfl
  ·rw [if_neg c]
   left
   unfold xmax at c ⊢
   by_cases d : key (ofA b).hi > key (ofA a).hi
   ·rw [if_pos d] at c; omega
   ·rw [if_neg d, oa]
 have ee : emp (widen (ofA a) (ofA b) []) = false := by
  rw [oa] at e1
  have e1 := of_decide_eq_false e1
  simp only at e1
  unfold emp
  rw [decide_eq_false_iff_not]
  have q1 : key .ni = -K := rfl
  have q2 : key .pi = K := rfl
  have r1 : -K ≤ key (lox a.lo) := by rcases k1 with k | k; omega; rw [k, q1]; omega
  have r2 : key (hix a.hi) ≤ K := by rcases k2 with k | k; omega; rw [k, q2]; omega
  rcases L with l | l <;> rcases U with u | u <;> rw [l, u] <;> omega
 refine ⟨tx (widen (ofA a) (ofA b) []).lo, tx (widen (ofA a) (ofA b) []).hi, by unfold toA; rw [ee]; rfl, ?_, ?_⟩
 ·rcases L with l | l <;> rw [l]
  ·exact .inl (txL ha)
  ·exact .inr rfl
 ·rcases U with l | l <;> rw [l]
  ·exact .inl (txH ha)
  ·exact .inr rfl
theorem toA_of {a : A} (h : Wf a) (e : a.em = false) : toA (ofA a) = a := by
 have ee := emp_ofA h
 rw [e] at ee
 unfold toA; rw [ee]
 have : ofA a = ⟨lox a.lo, hix a.hi⟩ := by unfold ofA; rw [if_neg (by simp [e])]
 rw [this]
 simp only [Bool.false_eq_true, if_false, txL h, txH h]
 cases a; simp_all
theorem loC_in {c : Cg} (e : c.em = false) (p : 0 < c.m) {l : Int} (h : inC c l = true) : loC c l = l ∧ hiC c l = l := by
 have := (in_iff e (Int.le_of_lt p)).1 h
 exact ⟨lo_fix p this, hi_fix p this⟩
theorem step_V {v a : Vl} (hv : WfV v) (ha : WfV a) (ev : v.a.em = false) (sa : a.a.em = false → SmC a.c) {k : Nat} (hk : Kc v.c k) :
  widV [] v a = v ∨ ((widV [] v a).a.em = false ∧ ∃ k' : Nat, Kc (widV [] v a).c k' ∧ fin1 (widV [] v a).a.lo + fin1 (widV [] v a).a.hi + k' + 1 ≤ fin1 v.a.lo + fin1 v.a.hi + k) := by
 have evc : v.c.em = false := by rw [← hv.em, ev]
 cases ea : a.a.em with
 | true =>
  left
  have eac : a.c.em = true := by rw [← ha.em, ea]
  have e2 : emp (ofA a.a) = true := by rw [emp_ofA ha.a, ea]
  have e1 : emp (ofA v.a) = false := by rw [emp_ofA hv.a, ev]
  have w : widen (ofA v.a) (ofA a.a) [] = ofA v.a := by
   unfold widen hull; rw [if_pos (.inr e2), if_neg (by simp [e1]), if_pos e2]
  have j : joinC v.c a.c = v.c := by unfold joinC; rw [if_neg (by simp [evc]), if_pos eac]
  unfold widV
  rw [w, j, toA_of hv.a ev]
  exact hv.red
 | false =>
  have eac : a.c.em = false := by rw [← ha.em, ea]
  obtain ⟨lo, hi, hw, hlo, hhi⟩ := widen_nil hv.a ha.a ev ea
  have jw := joinC_wf hv.c ha.c
  have jn : (joinC v.c a.c).em = false := by
   unfold joinC; rw [if_neg (by simp [evc]), if_neg (by simp [eac])]; exact clsF_ne
  have js := joinC_step hv.c ha.c evc eac hk (sa ea)
  have hwid : widV [] v a = red ⟨false, lo, hi⟩ (joinC v.c a.c) := by unfold widV; rw [hw]
  have hsub : ∀ z, inC v.c z = true → inC (joinC v.c a.c) z = true := fun z h => inside_in hv.c jw (inside_joinL hv.c) h
  obtain ⟨b1, b2⟩ := hv.bnd ev
  rw [hwid]
  by_cases jm : (joinC v.c a.c).m = 0
  ·left
   have jc : joinC v.c a.c = v.c := by
    rcases js with h | ⟨h, _⟩
    ·exact h
    ·omega
   rw [jc] at jm ⊢
   obtain ⟨o, i⟩ := hv.one ev jm
   unfold red
   rw [if_neg (by simp), if_neg (by simp [evc]), if_pos jm]
   have hC := hv.c.r
   have hCK := C_lt_K
   have w' : Wf (⟨false, lo, hi⟩ : A) := by
    refine ⟨nofun, ?_, ?_, ?_⟩
    ·rcases hlo with h | h <;> rw [h]
     ·exact hv.a.lo
     ·trivial
    ·rcases hhi with h | h <;> rw [h]
     ·exact hv.a.hi
     ·trivial
    ·have := hv.a.le
     rcases hlo with h | h <;> rcases hhi with h' | h' <;> rw [h, h']
     ·exact this
     ·cases v.a.lo <;> trivial
     ·trivial
     ·trivial
   have ii : inS (ofA (⟨false, lo, hi⟩ : A)) v.c.r = true := by
    refine (Wf.inS w' rfl (by omega)).2 ?_
    have := (Wf.inS hv.a ev (z := v.c.r) (by omega)).1 i
    refine ⟨fun l h => ?_, fun u h => ?_⟩
    ·simp only at h
     rcases hlo with q | q
     ·exact this.1 l (by rw [← q]; exact h)
     ·rw [q] at h; cases h
    ·simp only at h
     rcases hhi with q | q
     ·exact this.2 u (by rw [← q]; exact h)
     ·rw [q] at h; cases h
   rw [if_pos ii]; exact o.symm
  ·have jp : 0 < (joinC v.c a.c).m := by have := jw.pos; omega
   have hl1 : lo.map (loC (joinC v.c a.c)) = lo := by
    rcases hlo with h | h
    ·rw [h]
     cases hl : v.a.lo with
     | none => rfl
     | some l => simp only [Option.map]; rw [(loC_in jn jp (hsub l (b1 l hl))).1]
    ·rw [h]; rfl
   have hh1 : hi.map (hiC (joinC v.c a.c)) = hi := by
    rcases hhi with h | h
    ·rw [h]
     cases hl : v.a.hi with
     | none => rfl
     | some l => simp only [Option.map]; rw [(loC_in jn jp (hsub l (b2 l hl))).2]
    ·rw [h]; rfl
   have hr : red ⟨false, lo, hi⟩ (joinC v.c a.c) = fin3 lo hi (joinC v.c a.c) := by
    unfold red; rw [if_neg (by simp), if_neg (by simp [jn]), if_neg jm]; simp only [hl1, hh1]
   rw [hr]
   have lB := hv.a.lo
   have hB := hv.a.hi
   have lE := hv.a.le
   have key : fin3 lo hi (joinC v.c a.c) = v ∨ fin3 lo hi (joinC v.c a.c) = ⟨⟨false, lo, hi⟩, joinC v.c a.c⟩ := by
    cases lo with
    | none =>
     right
     cases hi with
     | none => rfl
     | some u =>
      rcases hhi with h | h
      ·rw [← h] at hB
       have hB' : -C < u ∧ u < C := hB
       simp only [fin3, Option.bind, clip, if_pos hB']
      ·cases h
    | some l =>
     have hl := hlo.resolve_right (by simp)
     rw [← hl] at lB
     cases hi with
     | none => right; have lB' : -C < l ∧ l < C := lB; simp only [fin3, Option.bind, clip, if_pos lB']
     | some u =>
      have hu := hhi.resolve_right (by simp)
      rw [← hu] at hB
      rw [← hl, ← hu] at lE
      simp only [le?] at lE
      simp only [fin3]
      rw [if_neg (by omega)]
      by_cases q : l = u
      ·rw [if_pos q]
       left
       exact (hv.eqb ev hl.symm (by rw [← hu, q])).symm
      ·rw [if_neg q]
       right
       have lB' : -C < l ∧ l < C := lB
       have hB' : -C < u ∧ u < C := hB
       simp only [clip, if_pos lB', if_pos hB']
   rcases key with h | h
   ·exact .inl h
   ·rw [h]
    by_cases same : (⟨⟨false, lo, hi⟩, joinC v.c a.c⟩ : Vl) = v
    ·exact .inl same
    ·right
     refine ⟨rfl, ?_⟩
     have f1 : fin1 lo ≤ fin1 v.a.lo := by
      rcases hlo with h | h <;> rw [h]
      ·exact Int.le_refl _
      ·show (if (none : Option Int) = none then (0 : Int) else 1) ≤ _
       rw [if_pos rfl]; unfold fin1; split <;> omega
     have f2 : fin1 hi ≤ fin1 v.a.hi := by
      rcases hhi with h | h <;> rw [h]
      ·exact Int.le_refl _
      ·show (if (none : Option Int) = none then (0 : Int) else 1) ≤ _
       rw [if_pos rfl]; unfold fin1; split <;> omega
     rcases js with hj | ⟨hj, k', h1, h2⟩
     ·refine ⟨k, by simp only [hj]; exact hk, ?_⟩
      simp only
      have : fin1 lo + fin1 hi + 1 ≤ fin1 v.a.lo + fin1 v.a.hi := by
       by_cases q1 : lo = v.a.lo
       ·by_cases q2 : hi = v.a.hi
        ·exfalso
         apply same
         rw [hj, q1, q2]
         have : (⟨false, v.a.lo, v.a.hi⟩ : A) = v.a := by rw [← ev]
         rw [this]
        ·have := hhi.resolve_left q2
         have : fin1 hi + 1 ≤ fin1 v.a.hi := by
          rw [this]
          unfold fin1
          rw [if_pos rfl, if_neg (by intro x; apply q2; rw [this, x])]; omega
         omega
       ·have := hlo.resolve_left q1
        have : fin1 lo + 1 ≤ fin1 v.a.lo := by
         rw [this]
         unfold fin1
         rw [if_pos rfl, if_neg (by intro x; apply q1; rw [this, x])]; omega
        omega
      omega
     ·exact ⟨k', .inr ⟨hj, h1⟩, by simp only; omega⟩
end Go.N
namespace Go.N
open Go.IntKind (i64)
open Go Go.Q Go.Rx
theorem fin1_pos (x : Option Int) : 0 ≤ fin1 x ∧ fin1 x ≤ 1 := by unfold fin1; split <;> omega
theorem Pv.le {v : Vl} {n : Int} (h : Pv v n) : n ≤ 20 := by
 rcases h with ⟨_, h⟩ | ⟨_, k, _, h⟩
 ·omega
 ·have := fin1_pos v.a.lo
  have := fin1_pos v.a.hi
  omega
theorem Pv_new {a : Vl} (ha : WfV a) (ea : a.a.em = false) (s : SmC a.c) {n : Int} (hn : n ≤ 1) : Pv a n := by
 have h1 := fin1_pos a.a.lo
 have h2 := fin1_pos a.a.hi
 obtain ⟨⟨s1, s2⟩, s3, s4⟩ := s
 by_cases m : a.c.m = 0
 ·exact .inr ⟨ea, 12, .inl ⟨m, rfl, s3, s4⟩, by omega⟩
 ·have := ha.c.pos
  have p : (2 : Int) ^ 10 = 1024 := by decide
  exact .inr ⟨ea, 10, .inr ⟨by omega, by rw [p]; omega⟩, by omega⟩
theorem widV_E {v a : Vl} (hv : WfV v) (ha : WfV a) (ev : v.a.em = true) : widV [] v a = a := by
 have evc : v.c.em = true := by rw [← hv.em, ev]
 have e1 : emp (ofA v.a) = true := by rw [emp_ofA hv.a, ev]
 have w : widen (ofA v.a) (ofA a.a) [] = ofA a.a := by
  unfold widen hull; rw [if_pos (.inl e1), if_pos e1]
 have j : joinC v.c a.c = a.c := by unfold joinC; rw [if_pos evc]
 unfold widV
 rw [w, j]
 cases ea : a.a.em with
 | false => rw [toA_of ha.a ea]; exact ha.red
 | true =>
  have e2 : emp (ofA a.a) = true := by rw [emp_ofA ha.a, ea]
  unfold toA red; rw [if_pos e2, if_pos rfl]
  exact (ha.ev ea).symm
theorem Pv_step {v a : Vl} (hv : WfV v) (ha : WfV a) (sa : a.a.em = false → SmC a.c) {n : Int} (h : Pv v n) :
  Pv (widV [] v a) n ∧ (widV [] v a ≠ v → Pv (widV [] v a) (n + 1)) := by
 rcases h with ⟨e, rfl⟩ | ⟨e, k, hk, h⟩
 ·rw [widV_E hv ha e]
  cases ea : a.a.em with
  | false => exact ⟨Pv_new ha ea (sa ea) (by omega), fun _ => Pv_new ha ea (sa ea) (by omega)⟩
  | true => exact ⟨.inl ⟨ea, rfl⟩, fun q => absurd (by rw [ha.ev ea, hv.ev e]) q⟩
 ·rcases step_V hv ha e sa hk with q | ⟨q, k', h1, h2⟩
  ·rw [q]; exact ⟨.inr ⟨e, k, hk, h⟩, fun x => absurd rfl x⟩
  ·exact ⟨.inr ⟨q, k', h1, by omega⟩, fun _ => .inr ⟨q, k', h1, by omega⟩⟩
theorem asc_nil (lf : Nat) : interval_ascending.f lf ([] : List ByteArray) = some (0, ()) := by kernel_rfl
theorem chainV_l0 (lf : Nat) (hb : Big lf) (l : List VV) (hl : l.length ≤ 100) (hs : ∀ x ∈ l, LnV lf x) :
  ∀ (k n i : Nat) (v : Vl) (ch : Int), i + k = l.length → k < n → WfV v → Pv v ch → 0 ≤ ch → ch ≤ (i : Nat) →
   ∃ z, surveyortop_TopChainsValues.l0 lf l (l.length : Nat) n ch (i : Nat) (vc v).1.1 (vc v).1.2.1 (vc v).1.2.2.1 (vc v).2.1.1 (vc v).2.1.2.1 (vc v).2.1.2.2.1 = some z ∧ ((z.1 = true ∧ z.2.1.1 = true) ∨ (z.1 = false ∧ z.2.2.1.1 ≤ 20)) := by
 have hlf := hb.1
 have h3 : 200000 ≤ lf := by omega
 intro k
 induction k with
 | zero =>
  intro n i v ch h1 h2 wv h c0 c1
  obtain ⟨m, rfl⟩ := Nat.exists_eq_succ_of_ne_zero (show n ≠ 0 by omega)
  rw [surveyortop_TopChainsValues.l0, surveyortop_TopChainsValues.r0, decide_eq_false (by omega), brF]
  exact ⟨_, rfl, .inr ⟨rfl, h.le⟩⟩
 | succ k ih =>
  intro n i v ch h1 h2 wv h c0 c1
  obtain ⟨m, rfl⟩ := Nat.exists_eq_succ_of_ne_zero (show n ≠ 0 by omega)
  have hi : i < l.length := by omega
  have ww : i64.wrap (((i : Nat) : Int) + 1) = ((i + 1 : Nat) : Int) := by rw [w64 (by omega) (by omega)]; omega
  obtain ⟨e, e1, e2⟩ := chkR lf hb (hs _ (List.getElem_mem hi))
  rw [surveyortop_TopChainsValues.l0, surveyortop_TopChainsValues.r0, decide_eq_true (by omega), brT, idxL_nat l i hi, bdS, e1, bdS, tryC]
  by_cases he : e = 0
  ·subst he
   obtain ⟨a, ea, wa⟩ := e2 rfl
   obtain ⟨t, t1, t2⟩ := tsize_f lf h3 wa
   rw [ea, t1]
   simp only [bne_self_eq_false, brF, bdS]
   by_cases ht : t > 1000
   ·rw [decide_eq_true ht, brT]; exact ⟨_, rfl, .inl ⟨rfl, rfl⟩⟩
   ·rw [decide_eq_false ht, brF]
    obtain ⟨p1, p2⟩ := Pv_step wv wa (t2 (by omega)) h
    have tz : Th ([] : List Int) := fun z hz => by cases hz
    have wV := widV_V wv wa tz
    have et : (((vc v).1.1, (vc v).1.2.1, (vc v).1.2.2.1, ()), ((vc v).2.1.1, (vc v).2.1.2.1, (vc v).2.1.2.2.1, ()), ()) = vc v := rfl
    have wf := widV_f lf hb wv wa tz (by simp) (asc_nil lf)
    rw [show ([] : List Int).map bz = [] from rfl] at wf
    have cmp := vv_beq (vc (widV [] v a)) (vc v)
    have cw : i64.wrap (ch + 1) = ch + 1 := w64 (by omega) (by omega)
    rw [et, wf]
    simp only [bdS, leqV_f lf hb wa wV, leqV_f lf hb wv wV, leq_widL wv wa tz, leq_widR wv wa tz, Bool.not_true, cmp, ww, cw,
     show (i64.wrap (i64.wrap (0 + 0) + 0) != 0) = false from by decide, brF]
    by_cases q : vc (widV [] v a) = vc v
    ·rw [decide_eq_true q, Bool.not_true, brF]
     exact ih m (i + 1) (widV [] v a) ch (by omega) (by omega) wV p1 c0 (by omega)
    ·rw [decide_eq_false q, Bool.not_false, brT]
     exact ih m (i + 1) (widV [] v a) (ch + 1) (by omega) (by omega) wV (p2 fun x => q (by rw [x])) (by omega) (by omega)
  ·simp only [bneT he, brT, bdS]
   exact ⟨_, rfl, .inl ⟨rfl, rfl⟩⟩
end Go.N
namespace Go.Q
open Go.IntKind (i64)
open Go Go.N
theorem big_allV (f : VV → Nat) : ∀ (l : List VV), ∃ s, ∀ b ∈ l, f b ≤ s := by
 intro l
 induction l with
 | nil => exact ⟨0, nofun⟩
 | cons c l ih =>
  obtain ⟨s, hs⟩ := ih
  refine ⟨s + f c, fun b hb => ?_⟩
  rcases List.mem_cons.1 hb with rfl | hb
  ·omega
  ·have := hs b hb; omega
theorem Pure.TopChainsValues (x : Tys (surveyortop_TopChainsValues.E 0).ps) (h : Bnds (surveyortop_TopChainsValues.E 0).ps x) : ∃ lf, surveyortop_TopChainsValues.f lf x.1 = some (true, ()) := by
 obtain ⟨l, ⟨⟩⟩ := x
 obtain ⟨⟨hl, hbd⟩, _⟩ := h
 simp only at hl hbd
 obtain ⟨s1, hs1⟩ := big_allV (fun x : VV => tb x.1.2.1 + tb x.1.2.2.1 + tb x.2.1.2.1 + tb x.2.1.2.2.1) l
 obtain ⟨lf, hb, hlf⟩ : ∃ lf, Big lf ∧ s1 ≤ lf := ⟨2000000000 + K.toNat + s1, ⟨by omega, by omega⟩, by omega⟩
 refine ⟨lf, ?_⟩
 have hs : ∀ x ∈ l, LnV lf x := by
  intro x hx
  have h1 := hbd x hx
  have h2 := hs1 x hx
  obtain ⟨⟨_, h4, h5, _⟩, ⟨_, h6, h7, _⟩, _⟩ := h1
  simp only [Bnd] at h4 h5 h6 h7
  rw [Lib.size_eq] at h4 h5 h6 h7
  simp only [tb] at h2
  exact ⟨⟨h4, by simp only [tb]; omega⟩, ⟨h5, by simp only [tb]; omega⟩, ⟨h6, by simp only [tb]; omega⟩, h7, by simp only [tb]; omega⟩
 have hlf2 := hb.1
 rw [surveyortop_TopChainsValues.f, tryC]
 by_cases c : ((l.length : Nat) : Int) > 100
 ·simp only [decide_eq_true c, Go.N.brT, bdS]
 ·obtain ⟨z, e, hz⟩ := chainV_l0 lf hb l (by omega) hs l.length (lf + 40) 0 Ev 0 (by omega) (by omega) Ev_V (.inl ⟨rfl, rfl⟩) (by omega) (by omega)
  rw [show ((0 : Nat) : Int) = 0 from rfl] at e
  simp only [decide_eq_false c, Go.N.brF, surveyorref22_Empty.f, bdS]
  rw [show surveyortop_TopChainsValues.l0 lf l (l.length : Nat) (lf + 40) 0 0 true (⟨#[]⟩ : ByteArray) (⟨#[]⟩ : ByteArray) true (⟨#[]⟩ : ByteArray) (⟨#[]⟩ : ByteArray) = some z from e, bdS]
  rcases hz with ⟨h1, h2⟩ | ⟨h1, h2⟩
  ·rw [h1, Go.N.brT, h2]
  ·rw [h1, Go.N.brF, decide_eq_true h2, Go.N.brT]
end Go.Q
