import Derived.KernelRfl
import Derived.Test.YtlikbeopppeojaaGreatDoorChecked
import Derived.ProofKit
import Derived.OpenShut
import Derived.LaidMore
import Derived.Lay
import Derived.Carry
import Derived.SevenTiedAt
import Derived.Stop.Joined
import Derived.Lib.LaidTab
import Derived.LaidSub
import Derived.Test.YtlikbeopppeojaaGreatDoorEHE3
import Derived.Test.YtlikbeopppeojaaGreatDoorEHG10
import Derived.Test.YtlikbeopppeojaaGreatDoorEHG4
import Derived.Test.YtlikbeopppeojaaGreatDoorEHG6
import Derived.Test.YtlikbeopppeojaaGreatDoorEHG7
import Derived.Test.YtlikbeopppeojaaGreatDoorEHG8
import Derived.Test.YtlikbeopppeojaaGreatDoorEHG9
import Derived.Test.YtlikbeopppeojaaGreatDoorEHN1
set_option linter.unusedVariables false
set_option linter.unusedSimpArgs false
set_option linter.unusedSectionVars false
set_option maxRecDepth 100000
namespace Go.N
open Go Go.Q Go.Rx
section
variable {c d : Cg} (hc : WfC c) (hd : WfC d) {z w : Int} (hz : inC c z = true) (hw : inC d w = true)
include hc hd hz hw
end
theorem cc_inj {c d : Cg} (h : cc c = cc d) : c.em = d.em ∧ (c.em = false → c = d) := by
 unfold cc at h
 cases e1 : c.em with
 | true => cases e2 : d.em with
  | true => exact ⟨rfl, nofun⟩
  | false => rw [if_pos e1, if_neg (by simp [e2])] at h; have := congrArg Prod.fst h; simp at this
 | false => cases e2 : d.em with
  | true => rw [if_neg (by simp [e1]), if_pos e2] at h; have := congrArg Prod.fst h; simp at this
  | false =>
   rw [if_neg (by simp [e1]), if_neg (by simp [e2])] at h
   simp only [Prod.mk.injEq] at h
   refine ⟨rfl, fun _ => ?_⟩
   have h1 := itoa_inj (bs_inj h.2.1)
   have h2 := itoa_inj (bs_inj h.2.2.1)
   cases c; cases d; simp_all
end Go.N
namespace Go.N
open Go Go.Q Go.Rx
section
variable {c d : Cg} (hc : WfC c) (hd : WfC d) (ec : c.em = false) (ed : d.em = false)
include hc hd ec ed
end
end Go.N
namespace Go.N
open Go Go.Q Go.Rx
section
variable (lf : Nat) (hb : Big lf) {a b : Int} (ha : 0 < a ∧ a < C) (hbb : 0 < b ∧ b < C)
include hb ha hbb
end
section
variable (lf : Nat) (hb : Big lf) {c d : Cg} (hc : WfC c) (hd : WfC d)
include hb hc hd
end
end Go.N
namespace Go.N
open Go Go.Q Go.Rx
theorem clipV (lf : Nat) {o : Option Int} (h : okb K o) : value_clip.f lf (ob o) = some (ob (o.bind clip), ()) := by
 rw [value_clip.f]
 cases o with
 | none => rw [show ob none = bs [] from rfl, trimPrefix_f, bdS, bs_size, show body [] = [] from rfl, decide_eq_false (by simp), brF]; rfl
 | some z =>
  have hl := okb_len h
  rw [show ob (some z) = bs (Lib.itoa z) from rfl, trimPrefix_f, bdS, bs_size]
  have e : (((body (Lib.itoa z)).length : Nat) : Int) = (sz z : Int) := rfl
  simp only [e, Option.bind]
  by_cases c : -C < z ∧ z < C
  ·have := (sz_C z).2 c
   rw [decide_eq_false (by omega), brF, clip_some c]; rfl
  ·have : ¬ sz z ≤ 100 := fun x => c ((sz_C z).1 x)
   rw [decide_eq_true (by omega), brT, clip_none c]; rfl
set_option exponentiation.threshold 5000 in
theorem C2_Dd : C + C < Dd := by
 have e : (10 ^ 100 + 10 ^ 100 : Nat) < 10 ^ 1000 := by
  have : (10 : Nat) ^ 1000 = 10 ^ 100 * 10 ^ 900 := by rw [← Nat.pow_add]
  rw [this]
  have : (2 : Nat) < 10 ^ 900 := Nat.lt_of_lt_of_le (show (2 : Nat) < 10 ^ 1 by decide) (Nat.pow_le_pow_right (by decide) (by decide))
  have h := Nat.mul_lt_mul_of_pos_left this (show 0 < 10 ^ 100 by exact Nat.pow_pos (by decide))
  omega
 unfold C Dd; exact Int.ofNat_lt.2 e
theorem evV : ((((true, (⟨#[]⟩ : ByteArray), (⟨#[]⟩ : ByteArray), ()), (true, (⟨#[]⟩ : ByteArray), (⟨#[]⟩ : ByteArray), ()), ()) : VV)) = vc Ev := rfl
theorem onV (z : Int) : (((false, bs (Lib.itoa z), bs (Lib.itoa z), ()), (false, (⟨#[48]⟩ : ByteArray), bs (Lib.itoa z), ()), ()) : VV) = vc (onev z) := by
 rw [i0]; unfold vc onev; rw [cc_ne rfl]; rfl
theorem ob_ne (x : Int) : ((bs (Lib.itoa x)).toList == (⟨#[]⟩ : ByteArray).toList) = false := by
 have := ob_beq (some x)
 rw [show ob (some x) = bs (Lib.itoa x) from rfl] at this
 rw [this]; exact decide_eq_false nofun
theorem ob_e : ((ob none).toList == (⟨#[]⟩ : ByteArray).toList) = true := by rw [ob_beq]; rfl
theorem sgn_gtd (x y : Int) : decide (sgn (x - y) > 0) = decide (y < x) := sgn_gt x y
theorem sgn_z (x y : Int) : (sgn (x - y) == 0) = decide (x = y) := by
 rw [Bool.eq_iff_iff, beq_iff_eq, decide_eq_true_eq]
 unfold sgn; (repeat' split) <;> omega
section
variable (lf : Nat) (hb : Big lf) {a : A} {c : Cg} (ha : Wf a) (hc : WfC c)
include hb ha hc
theorem lo_K {l : Int} (h : -C < l ∧ l < C) (p : 0 < c.m) : -K < loC c l ∧ loC c l < K ∧ -Dd < loC c l ∧ loC c l < Dd := by
 have := lo_m p l
 have := hc.m
 have := C_gt
 have := CC_K
 have hD := DD_K
 have hCD := C_lt_Dd
 have h4 : C * 2 ≤ C * C := Int.mul_le_mul_of_nonneg_left (by omega) (by omega)
 have h5 := C2_Dd
 have h6 := Dd_K
 omega
theorem hi_K {l : Int} (h : -C < l ∧ l < C) (p : 0 < c.m) : -K < hiC c l ∧ hiC c l < K ∧ -Dd < hiC c l ∧ hiC c l < Dd := by
 have := hi_m p l
 have := hc.m
 have := C_gt
 have h5 := C2_Dd
 have h6 := Dd_K
 omega
theorem vred_f : value_reduced.f lf (ac a) (cc c) = some (vc (red a c), ()) := by
 have hlf := hb.1
 have h3 : 200000 ≤ lf := by omega
 have hCD := C_lt_Dd
 rw [value_reduced.f]
 simp only [show (ac a).1 = a.em from rfl, show (ac a).2.1 = ob a.lo from rfl, show (ac a).2.2.1 = ob a.hi from rfl, value_empty.f, bdS, evV, value_one.f]
 unfold red
 cases ea : a.em with
 | true => simp only [brT, if_true]
 | false =>
  cases ec : c.em with
  | true => rw [cc_em ec]; simp only [brT, brF, if_true, if_false, Bool.false_eq_true]
  | false =>
   have e1 : (cc c).1 = false := by rw [cc_ne ec]
   have e2 : (cc c).2.1 = bs (Lib.itoa c.m) := by rw [cc_ne ec]
   have e3 : (cc c).2.2.1 = bs (Lib.itoa c.r) := by rw [cc_ne ec]
   simp only [brF, if_false, Bool.false_eq_true, e1, e2, e3, beq0]
   by_cases m : c.m = 0
   ·rw [decide_eq_true m, brT, if_pos m, holds_wf lf h3 ha (CK hc.r), bdS]
    simp only
    cases hi : inS (ofA a) c.r with
    | true => simp only [Bool.not_true, brF, if_true, onV]
    | false => simp only [Bool.not_false, brT, if_false, Bool.false_eq_true]
   ·have p : 0 < c.m := by have := hc.pos; omega
    rw [decide_eq_false m, brF, if_neg m]
    have kl := ha.lo
    have kh := ha.hi
    have L := fun {l : Int} (h : -C < l ∧ l < C) => least_c lf hb hc ec (a := l) (by omega)
    have G' := fun {l : Int} (h : -C < l ∧ l < C) => greatest_c lf hb hc ec (a := l) (by omega)
    have ab : ∀ l, aboveC c l = some (loC c l) := fun l => if_neg m
    have be : ∀ l, belowC c l = some (hiC c l) := fun l => if_neg m
    have cN := clipV lf (o := none) trivial
    cases hl : a.lo with
    | none => cases hh : a.hi with
     | none => simp only [ob_e, Bool.not_true, brF, cN, bdS, Option.map, fin3]; rfl
     | some u =>
      rw [hh] at kh
      have g := G' kh
      rw [be] at g
      have kk := hi_K lf hb ha hc kh p
      have cU := clipV lf (o := some (hiC c u)) ⟨kk.1, kk.2.1⟩
      simp only [show ob (some u) = bs (Lib.itoa u) from rfl, show ob (some (hiC c u)) = bs (Lib.itoa (hiC c u)) from rfl] at *
      simp only [ob_e, ob_ne, Bool.not_true, Bool.not_false, brF, brT, g, cN, cU, bdS, Option.map, fin3]; rfl
    | some l =>
     rw [hl] at kl
     have g := L kl
     rw [ab] at g
     have kk := lo_K lf hb ha hc kl p
     have cL := clipV lf (o := some (loC c l)) ⟨kk.1, kk.2.1⟩
     cases hh : a.hi with
     | none =>
      simp only [show ob (some l) = bs (Lib.itoa l) from rfl, show ob (some (loC c l)) = bs (Lib.itoa (loC c l)) from rfl] at *
      simp only [ob_e, ob_ne, Bool.not_true, Bool.not_false, brF, brT, g, cN, cL, bdS, Option.map, fin3]; rfl
     | some u =>
      rw [hh] at kh
      have g2 := G' kh
      rw [be] at g2
      have kk2 := hi_K lf hb ha hc kh p
      have cU := clipV lf (o := some (hiC c u)) ⟨kk2.1, kk2.2.1⟩
      have cm := compare_f lf _ _ (chkK ⟨kk.1, kk.2.1⟩) (chkK ⟨kk2.1, kk2.2.1⟩) h3
      rw [iv_itoa, iv_itoa] at cm
      simp only [show ob (some l) = bs (Lib.itoa l) from rfl, show ob (some (loC c l)) = bs (Lib.itoa (loC c l)) from rfl, show ob (some u) = bs (Lib.itoa u) from rfl, show ob (some (hiC c u)) = bs (Lib.itoa (hiC c u)) from rfl] at *
      simp only [ob_e, ob_ne, Bool.not_true, Bool.not_false, brF, brT, g, g2, cm, bdS, sgn_gtd, sgn_z, Option.map, fin3]
      by_cases h1 : hiC c u < loC c l
      ·rw [decide_eq_true h1, brT, if_pos h1]
      ·rw [decide_eq_false h1, brF, if_neg h1]
       by_cases h2 : loC c l = hiC c u
       ·rw [decide_eq_true h2, brT, if_pos h2, onV]
       ·rw [decide_eq_false h2, brF, if_neg h2, cL, bdS, cU, bdS]; rfl
theorem rred_f : surveyorref23_Reduced.f lf (ac a) (cc c) = some (vc (red a c), ()) := by
 have hlf := hb.1
 have h3 : 200000 ≤ lf := by omega
 have hCD := C_lt_Dd
 rw [surveyorref23_Reduced.f]
 simp only [show (ac a).1 = a.em from rfl, show (ac a).2.1 = ob a.lo from rfl, show (ac a).2.2.1 = ob a.hi from rfl, surveyorref23_Empty.f, surveyorref21_None.f, surveyorref22_Empty.f, bdS, evV]
 unfold red
 cases ea : a.em with
 | true => simp only [brT, if_true]
 | false =>
  cases ec : c.em with
  | true => rw [cc_em ec]; simp only [brT, brF, if_true, if_false, Bool.false_eq_true]
  | false =>
   have e1 : (cc c).1 = false := by rw [cc_ne ec]
   have e2 : (cc c).2.1 = bs (Lib.itoa c.m) := by rw [cc_ne ec]
   have e3 : (cc c).2.2.1 = bs (Lib.itoa c.r) := by rw [cc_ne ec]
   simp only [brF, if_false, Bool.false_eq_true, e1, e2, e3, beq0]
   by_cases m : c.m = 0
   ·rw [decide_eq_true m, brT, if_pos m, in_ref lf h3 ha (CK hc.r), bdS]
    simp only
    cases hi : inS (ofA a) c.r with
    | true =>
     simp only [Bool.not_true, brF, if_true, ← onV]
     rw [cc_ne ec, m, i0]
    | false => simp only [Bool.not_false, brT, if_false, Bool.false_eq_true]
   ·have p : 0 < c.m := by have := hc.pos; omega
    rw [decide_eq_false m, brF, if_neg m]
    have kl := ha.lo
    have kh := ha.hi
    have L := fun {l : Int} (h : -C < l ∧ l < C) => above_c lf hb hc ec (a := l) (by omega)
    have G' := fun {l : Int} (h : -C < l ∧ l < C) => below_c lf hb hc ec (a := l) (by omega)
    have ab : ∀ l, aboveC c l = some (loC c l) := fun l => if_neg m
    have be : ∀ l, belowC c l = some (hiC c l) := fun l => if_neg m
    have toL : ∀ x y : Option Int, okb K x → okb K y → gt? x y = false → toA ⟨lox x, hix y⟩ = ⟨false, x.bind clip, y.bind clip⟩ := by
     intro x y hx hy h
     unfold toA; rw [emp_lh hx hy, h, if_neg (by simp), tx_lox, tx_hix]
    cases hl : a.lo with
    | none => cases hh : a.hi with
     | none =>
      simp only [ob_e, Bool.not_true, brF, range_f lf h3 none none trivial trivial, toL none none trivial trivial rfl, bdS, Option.map, fin3]; rfl
     | some u =>
      rw [hh] at kh
      have g := G' kh
      rw [be] at g
      have kk := hi_K lf hb ha hc kh p
      have rg := range_f lf h3 none (some (hiC c u)) trivial ⟨kk.1, kk.2.1⟩
      rw [toL none (some (hiC c u)) trivial ⟨kk.1, kk.2.1⟩ rfl] at rg
      simp only [show ob (some u) = bs (Lib.itoa u) from rfl, show ob (some (hiC c u)) = bs (Lib.itoa (hiC c u)) from rfl] at *
      simp only [ob_e, ob_ne, Bool.not_true, Bool.not_false, brF, brT, g, rg, bdS, Option.map, fin3]; rfl
    | some l =>
     rw [hl] at kl
     have g := L kl
     rw [ab] at g
     have kk := lo_K lf hb ha hc kl p
     cases hh : a.hi with
     | none =>
      have rg := range_f lf h3 (some (loC c l)) none ⟨kk.1, kk.2.1⟩ trivial
      rw [toL (some (loC c l)) none ⟨kk.1, kk.2.1⟩ trivial rfl] at rg
      simp only [show ob (some l) = bs (Lib.itoa l) from rfl, show ob (some (loC c l)) = bs (Lib.itoa (loC c l)) from rfl] at *
      simp only [ob_e, ob_ne, Bool.not_true, Bool.not_false, brF, brT, g, rg, bdS, Option.map, fin3]; rfl
     | some u =>
      rw [hh] at kh
      have g2 := G' kh
      rw [be] at g2
      have kk2 := hi_K lf hb ha hc kh p
      have ls := lessI lf h3 (x := hiC c u) (y := loC c l) ⟨kk2.1, kk2.2.1⟩ ⟨kk.1, kk.2.1⟩
      have rg := range_f lf h3 (some (loC c l)) (some (hiC c u)) ⟨kk.1, kk.2.1⟩ ⟨kk2.1, kk2.2.1⟩
      have T := toL (some (loC c l)) (some (hiC c u)) ⟨kk.1, kk.2.1⟩ ⟨kk2.1, kk2.2.1⟩
      simp only [show ob (some l) = bs (Lib.itoa l) from rfl, show ob (some (loC c l)) = bs (Lib.itoa (loC c l)) from rfl, show ob (some u) = bs (Lib.itoa u) from rfl, show ob (some (hiC c u)) = bs (Lib.itoa (hiC c u)) from rfl] at *
      have eqt : ((bs (Lib.itoa (loC c l))).toList == (bs (Lib.itoa (hiC c u))).toList) = decide (loC c l = hiC c u) := by
       rw [beq_bs]; simp only [decide_eq_decide]; exact ⟨itoa_inj, fun e => by rw [e]⟩
      simp only [ob_e, ob_ne, Bool.not_true, Bool.not_false, brF, brT, g, g2, ls, bdS, eqt, Option.map, fin3]
      by_cases h1 : hiC c u < loC c l
      ·rw [decide_eq_true h1, brT, if_pos h1]
      ·rw [decide_eq_false h1, brF, if_neg h1]
       by_cases h2 : loC c l = hiC c u
       ·have kC : -C < loC c l ∧ loC c l < C := by
         have := lo_m p l
         have := hi_m p u
         simp only [okb] at kl kh
         omega
        have hC := C_gt
        have hCK := C_lt_K
        rw [decide_eq_true h2, brT, if_pos h2, surveyorref23_One.f, surveyorref22_Single.f, i0, class_ref lf h3 (m := 0) (by omega) (CK kC), bdS, bdS]
        simp only
        rw [clsF_in (Int.le_refl 0) (by omega) kC, if_pos rfl, cc_ne rfl]
        simp only [← i0, BEq.rfl, Bool.not_true, brF, bdS]
        rw [onV]
       ·rw [decide_eq_false h2, brF, if_neg h2, rg, T (by unfold gt?; simp; omega), bdS]; rfl
end
end Go.N
namespace Go.N
open Go Go.Q Go.Rx
section
variable (lf : Nat) (h3 : 200000 ≤ lf)
include h3
end
theorem negS_ok {s : Sp} (h : oks C s) : oks C (negS s) := common_ok h ⟨trivial, one_okx (by decide) (by decide)⟩
theorem zerS_ok {s : Sp} (h : oks C s) : oks C (zerS s) := common_ok h ⟨one_okx (by decide) (by decide), one_okx (by decide) (by decide)⟩
section
variable (lf : Nat) (h3 : 200000 ≤ lf)
include h3
end
end Go.N
namespace Go.N
open Go Go.Q Go.Rx
theorem sg_neg (x : X) : sg (xneg x) = -sg x := by
 cases x with
 | ni => rfl
 | pi => rfl
 | fin z => simp only [xneg, sg, sgn]; (repeat' split) <;> omega
theorem xmul_comm (x y : X) : xmul x y = xmul y x := by
 unfold xmul
 rw [Int.mul_comm (sg y) (sg x)]
 split
 ·rfl
 ·cases x <;> cases y <;> simp only [Int.mul_comm]
theorem xmul_neg (x y : X) : xmul (xneg x) y = xneg (xmul x y) := by
 unfold xmul
 rw [sg_neg, Int.neg_mul]
 have a := sg3 x
 have b := sg3 y
 by_cases h : sg x * sg y = 0
 ·rw [h, if_pos (by decide), if_pos rfl]; rfl
 ·rw [if_neg (by omega), if_neg h]
  have one : sg x * sg y = 1 ∨ sg x * sg y = -1 := by
   rcases a with a | a | a <;> rcases b with b | b | b <;> rw [a, b] at h ⊢ <;> simp at h ⊢
  cases x <;> cases y <;> simp only [xneg, Int.neg_mul] <;> rcases one with o | o <;> rw [o] <;> rfl
theorem xmul_neg' (x y : X) : xmul x (xneg y) = xneg (xmul x y) := by rw [xmul_comm, xmul_neg, xmul_comm]
theorem key_mul_sg {x y : X} : (key (xmul x y) < 0 ↔ sg x * sg y < 0) ∧ (key (xmul x y) = 0 ↔ sg x * sg y = 0) := by
 have hK := K_gt
 have a := sg3 x
 have b := sg3 y
 unfold xmul
 by_cases h : sg x * sg y = 0
 ·rw [if_pos h, h]; simp [key]
 ·rw [if_neg h]
  have one : sg x * sg y = 1 ∨ sg x * sg y = -1 := by
   rcases a with a | a | a <;> rcases b with b | b | b <;> rw [a, b] at h ⊢ <;> simp at h ⊢
  have inf : (key (if sg x * sg y = 1 then X.pi else X.ni) < 0 ↔ sg x * sg y < 0) ∧ (key (if sg x * sg y = 1 then X.pi else X.ni) = 0 ↔ sg x * sg y = 0) := by
   rcases one with o | o <;> rw [o]
   ·rw [if_pos rfl, show key X.pi = K from rfl]; omega
   ·rw [if_neg (by decide), show key X.ni = -K from rfl]; omega
  cases x with
  | fin u => cases y with
   | fin v =>
    simp only [key]
    have ku := sg_key (.fin u)
    have kv := sg_key (.fin v)
    simp only [key] at ku kv
    rcases a with a | a | a <;> rcases b with b | b | b <;> rw [a, b] at h ⊢ <;> simp at h ⊢
    ·have := Int.mul_pos_of_neg_of_neg (show u < 0 by omega) (show v < 0 by omega); omega
    ·have := Int.mul_neg_of_neg_of_pos (show u < 0 by omega) (show 0 < v by omega); omega
    ·have := Int.mul_neg_of_pos_of_neg (show 0 < u by omega) (show v < 0 by omega); omega
    ·have := Int.mul_pos (show 0 < u by omega) (show 0 < v by omega); omega
   | ni => exact inf
   | pi => exact inf
  | ni => exact inf
  | pi => exact inf
theorem xmul_ff {a b : Int} : xmul (.fin a) (.fin b) = .fin (a * b) := by
 unfold xmul
 split
 ·rename_i h
  have := (key_mul_sg (x := .fin a) (y := .fin b)).2
  have ka := sg_key (.fin a)
  have kb := sg_key (.fin b)
  simp only [key] at ka kb
  rcases Int.mul_eq_zero.1 h with z | z
  ·rw [ka.2.1.1 z, Int.zero_mul]
  ·rw [kb.2.1.1 z, Int.mul_zero]
 ·rfl
theorem xmul_mono {x x' y : X} (hx : okx Dd x) (hx' : okx Dd x') (hy : okx Dd y) (h : key x ≤ key x') (h0 : 0 ≤ key y) : key (xmul x y) ≤ key (xmul x' y) := by
 have hK := K_gt
 have hC := Dd_K
 have k1 := key_le (xmul_okD hx hy)
 have k2 := key_le (xmul_okD hx' hy)
 have s1 := key_mul_sg (x := x) (y := y)
 have s2 := key_mul_sg (x := x') (y := y)
 have gx := sg_key x
 have gx' := sg_key x'
 have gy := sg_key y
 have a := sg3 x
 have a' := sg3 x'
 have b := sg3 y
 have inf : ∀ {u v : X}, (u = .ni ∨ u = .pi ∨ v = .ni ∨ v = .pi) → key (xmul u v) = sg u * sg v * K := by
  intro u v hu
  have c := sg3 u
  have d := sg3 v
  unfold xmul
  by_cases hz : sg u * sg v = 0
  ·rw [if_pos hz, hz]; simp [key]
  ·rw [if_neg hz]
   have one : sg u * sg v = 1 ∨ sg u * sg v = -1 := by
    rcases c with c | c | c <;> rcases d with d | d | d <;> rw [c, d] at hz ⊢ <;> simp at hz ⊢
   have f : key (if sg u * sg v = 1 then X.pi else X.ni) = sg u * sg v * K := by
    rcases one with o | o <;> rw [o]
    ·rw [if_pos rfl, show key X.pi = K from rfl]; omega
    ·rw [if_neg (by decide), show key X.ni = -K from rfl]; omega
   rcases hu with rfl | rfl | rfl | rfl
   ·exact f
   ·exact f
   ·cases u <;> exact f
   ·cases u <;> exact f
 by_cases y0 : key y = 0
 ·have : sg y = 0 := by omega
  have e1 : key (xmul x y) = 0 := s1.2.2 (by rw [this, Int.mul_zero])
  have e2 : key (xmul x' y) = 0 := s2.2.2 (by rw [this, Int.mul_zero])
  omega
 have y1 : sg y = 1 := by omega
 rw [y1, Int.mul_one] at s1 s2
 cases y with
 | ni => simp only [key] at h0; omega
 | pi =>
  rw [inf (.inr (.inr (.inr rfl))), inf (.inr (.inr (.inr rfl))), y1, Int.mul_one, Int.mul_one]
  exact Int.mul_le_mul_of_nonneg_right (by omega) (by omega)
 | fin v =>
  cases x with
  | ni =>
   rw [inf (.inl rfl), y1, Int.mul_one, show sg X.ni = -1 from rfl]; omega
  | pi =>
   cases x' with
   | pi => exact Int.le_refl _
   | ni => simp only [key] at h; omega
   | fin w => simp only [key, okx] at h hx'; omega
  | fin u => cases x' with
   | pi =>
    rw [inf (u := X.pi) (.inr (.inl rfl)), y1, Int.mul_one, show sg X.pi = 1 from rfl]; omega
   | ni => simp only [key, okx] at h hx; omega
   | fin w =>
    rw [xmul_ff, xmul_ff]
    simp only [key] at h h0 ⊢
    exact Int.mul_le_mul_of_nonneg_right h h0
theorem xmul_anti {x x' y : X} (hx : okx Dd x) (hx' : okx Dd x') (hy : okx Dd y) (h : key x ≤ key x') (h0 : key y ≤ 0) : key (xmul x' y) ≤ key (xmul x y) := by
 have := xmul_mono hx hx' (xneg_ok hy) h (by rw [key_xneg]; omega)
 rw [xmul_neg', xmul_neg', key_xneg, key_xneg] at this
 omega
def El (s : Sp) (x : X) : Prop := okx Dd x ∧ key s.lo ≤ key x ∧ key x ≤ key s.hi
theorem El_lo {s : Sp} (hs : oks C s) (he : emp s = false) : El s s.lo := ⟨hs.1.D, Int.le_refl _, by have := of_decide_eq_false he; omega⟩
theorem El_hi {s : Sp} (hs : oks C s) (he : emp s = false) : El s s.hi := ⟨hs.2.D, by have := of_decide_eq_false he; omega, Int.le_refl _⟩
theorem corner {s t : Sp} (hs : oks C s) (ht : oks C t) {x y : X} (hx : El s x) (hy : El t y) :
  (∃ cx cy, (cx = s.lo ∨ cx = s.hi) ∧ (cy = t.lo ∨ cy = t.hi) ∧ key (xmul cx cy) ≤ key (xmul x y)) ∧ (∃ cx cy, (cx = s.lo ∨ cx = s.hi) ∧ (cy = t.lo ∨ cy = t.hi) ∧ key (xmul x y) ≤ key (xmul cx cy)) := by
 have one : ∀ {s : Sp} {x y : X}, oks C s → El s x → okx Dd y → (∃ cx, (cx = s.lo ∨ cx = s.hi) ∧ key (xmul cx y) ≤ key (xmul x y)) ∧ (∃ cx, (cx = s.lo ∨ cx = s.hi) ∧ key (xmul x y) ≤ key (xmul cx y)) := by
  intro s x y hs hx hy
  by_cases h : 0 ≤ key y
  ·exact ⟨⟨_, .inl rfl, xmul_mono hs.1.D hx.1 hy hx.2.1 h⟩, ⟨_, .inr rfl, xmul_mono hx.1 hs.2.D hy hx.2.2 h⟩⟩
  ·exact ⟨⟨_, .inr rfl, xmul_anti hx.1 hs.2.D hy hx.2.2 (by omega)⟩, ⟨_, .inl rfl, xmul_anti hs.1.D hx.1 hy hx.2.1 (by omega)⟩⟩
 obtain ⟨⟨cx, c1, c2⟩, ⟨dx, d1, d2⟩⟩ := one hs hx hy.1
 have okc : ∀ {c : X}, (c = s.lo ∨ c = s.hi) → okx Dd c := fun h => by rcases h with rfl | rfl; exact hs.1.D; exact hs.2.D
 obtain ⟨⟨cy, e1, e2⟩, _⟩ := one ht hy (okc c1)
 obtain ⟨_, ⟨dy, f1, f2⟩⟩ := one ht hy (okc d1)
 rw [xmul_comm cy, xmul_comm y] at e2
 rw [xmul_comm dy, xmul_comm y] at f2
 exact ⟨⟨cx, cy, c1, e1, by omega⟩, ⟨dx, dy, d1, f1, by omega⟩⟩
theorem xmin_or (x y : X) : xmin x y = x ∨ xmin x y = y := by unfold xmin; split; exact .inr rfl; exact .inl rfl
theorem xmax_or (x y : X) : xmax x y = x ∨ xmax x y = y := by unfold xmax; split; exact .inr rfl; exact .inl rfl
theorem apS_ends {o : X → X → X} {s t : Sp} (hs : emp s = false) (ht : emp t = false) :
  ((∃ x y, (x = s.lo ∨ x = s.hi) ∧ (y = t.lo ∨ y = t.hi) ∧ (apS o s t).lo = o x y) ∧ (∀ x y, (x = s.lo ∨ x = s.hi) → (y = t.lo ∨ y = t.hi) → key (apS o s t).lo ≤ key (o x y))) ∧
  ((∃ x y, (x = s.lo ∨ x = s.hi) ∧ (y = t.lo ∨ y = t.hi) ∧ (apS o s t).hi = o x y) ∧ (∀ x y, (x = s.lo ∨ x = s.hi) → (y = t.lo ∨ y = t.hi) → key (o x y) ≤ key (apS o s t).hi)) := by
 have e : apS o s t = ⟨xmin (xmin (xmin (o s.lo t.lo) (o s.lo t.hi)) (o s.hi t.lo)) (o s.hi t.hi), xmax (xmax (xmax (o s.lo t.lo) (o s.lo t.hi)) (o s.hi t.lo)) (o s.hi t.hi)⟩ := by
  unfold apS
  rw [if_neg (by simp [hs]), if_neg (by simp [ht]), non_hull, hullNE (emp_one _) (emp_one _)]
  have e1 := emp_one (o s.lo t.lo)
  have e2 := emp_one (o s.lo t.hi)
  have e3 := emp_one (o s.hi t.lo)
  have e4 := emp_one (o s.hi t.hi)
  have n1 := hull_emp e1 e2
  rw [hullNE e1 e2] at n1
  rw [hullNE n1 e3]
  have n2 := hull_emp n1 e3
  rw [hullNE n1 e3] at n2
  rw [hullNE n2 e4]
  rfl
 rw [e]
 refine ⟨⟨?_, ?_⟩, ⟨?_, ?_⟩⟩
 ·simp only
  rcases xmin_or (xmin (xmin (o s.lo t.lo) (o s.lo t.hi)) (o s.hi t.lo)) (o s.hi t.hi) with h | h <;> rw [h]
  ·rcases xmin_or (xmin (o s.lo t.lo) (o s.lo t.hi)) (o s.hi t.lo) with h | h <;> rw [h]
   ·rcases xmin_or (o s.lo t.lo) (o s.lo t.hi) with h | h <;> rw [h]
    ·exact ⟨_, _, .inl rfl, .inl rfl, rfl⟩
    ·exact ⟨_, _, .inl rfl, .inr rfl, rfl⟩
   ·exact ⟨_, _, .inr rfl, .inl rfl, rfl⟩
  ·exact ⟨_, _, .inr rfl, .inr rfl, rfl⟩
 ·intro x y hx hy
  simp only [key_min]
  rcases hx with rfl | rfl <;> rcases hy with rfl | rfl <;> omega
 ·simp only
  rcases xmax_or (xmax (xmax (o s.lo t.lo) (o s.lo t.hi)) (o s.hi t.lo)) (o s.hi t.hi) with h | h <;> rw [h]
  ·rcases xmax_or (xmax (o s.lo t.lo) (o s.lo t.hi)) (o s.hi t.lo) with h | h <;> rw [h]
   ·rcases xmax_or (o s.lo t.lo) (o s.lo t.hi) with h | h <;> rw [h]
    ·exact ⟨_, _, .inl rfl, .inl rfl, rfl⟩
    ·exact ⟨_, _, .inl rfl, .inr rfl, rfl⟩
   ·exact ⟨_, _, .inr rfl, .inl rfl, rfl⟩
  ·exact ⟨_, _, .inr rfl, .inr rfl, rfl⟩
 ·intro x y hx hy
  simp only [key_max]
  rcases hx with rfl | rfl <;> rcases hy with rfl | rfl <;> omega
end Go.N
namespace Go.N
open Go Go.Q Go.Rx
def pt (i : Nat) (s : Sp) : Sp := if i = 0 then negS s else if i = 1 then zerS s else posS s
def Qp (i k : Nat) (p q : Sp) : Sp := if i = 1 ∨ k = 1 then ⟨.fin 0, .fin 0⟩ else if i = 0 then (if k = 0 then ⟨xmul p.hi q.hi, xmul p.lo q.lo⟩ else ⟨xmul p.lo q.hi, xmul p.hi q.lo⟩) else (if k = 0 then ⟨xmul p.hi q.lo, xmul p.lo q.hi⟩ else ⟨xmul p.lo q.lo, xmul p.hi q.hi⟩)
theorem pt_ok {s : Sp} (h : oks C s) (i : Nat) : oks C (pt i s) := by
 unfold pt; split
 ·exact negS_ok h
 ·split
  ·exact zerS_ok h
  ·exact posS_ok h
theorem i3 {i : Nat} (h : i < 3) : i = 0 ∨ i = 1 ∨ i = 2 := by omega
theorem pt_keys {s : Sp} (h : oks C s) : (key (negS s).lo = key s.lo ∧ key (negS s).hi = min (key s.hi) (-1)) ∧ (key (zerS s).lo = max (key s.lo) 0 ∧ key (zerS s).hi = min (key s.hi) 0) ∧ (key (posS s).lo = max (key s.lo) 1 ∧ key (posS s).hi = key s.hi) := by
 have a := key_le h.K.1
 have b := key_le h.K.2
 have h1 : key (negS s).lo = max (key s.lo) (-K) := key_max s.lo .ni
 have h2 : key (negS s).hi = min (key s.hi) (-1) := key_min s.hi (.fin (-1))
 have h3 : key (zerS s).lo = max (key s.lo) 0 := key_max s.lo (.fin 0)
 have h4 : key (zerS s).hi = min (key s.hi) 0 := key_min s.hi (.fin 0)
 have h5 : key (posS s).lo = max (key s.lo) 1 := key_max s.lo (.fin 1)
 have h6 : key (posS s).hi = min (key s.hi) K := key_min s.hi .pi
 omega
theorem El_sub {s : Sp} (hs : oks C s) {i : Nat} {x : X} (h : El (pt i s) x) : El s x := by
 have k := pt_keys hs
 obtain ⟨h1, h2, h3⟩ := h
 refine ⟨h1, ?_, ?_⟩ <;> unfold pt at h2 h3 <;> split at h2 <;> (try split at h2) <;> simp_all <;> omega
theorem El_ne {s : Sp} {x : X} (h : El s x) : emp s = false := decide_eq_false (by have := h.2; omega)
theorem El_sign {s : Sp} (hs : oks C s) {x : X} : (El (pt 0 s) x → key x ≤ -1) ∧ (El (pt 1 s) x → key x = 0) ∧ (El (pt 2 s) x → 1 ≤ key x) := by
 have k := pt_keys hs
 refine ⟨fun h => ?_, fun h => ?_, fun h => ?_⟩
 ·have := h.2.2; simp only [pt, if_true] at this; omega
 ·have a := h.2.1
  have b := h.2.2
  simp only [pt, Nat.one_ne_zero, if_true, if_false] at a b; omega
 ·have := h.2.1
  simp only [pt, show ¬ (2 = 0) by omega, show ¬ (2 = 1) by omega, if_false] at this; omega
theorem cls {s : Sp} (hs : oks C s) {x : X} (h : El s x) : ∃ i, i < 3 ∧ El (pt i s) x := by
 have k := pt_keys hs
 obtain ⟨h1, h2, h3⟩ := h
 rcases Int.lt_trichotomy (key x) 0 with z | z | z
 ·exact ⟨0, by omega, h1, by simp only [pt, if_true]; omega, by simp only [pt, if_true]; omega⟩
 ·exact ⟨1, by omega, h1, by simp only [pt, Nat.one_ne_zero, if_true, if_false]; omega, by simp only [pt, Nat.one_ne_zero, if_true, if_false]; omega⟩
 ·exact ⟨2, by omega, h1, by simp only [pt, show ¬ (2 = 0) by omega, show ¬ (2 = 1) by omega, if_false]; omega, by simp only [pt, show ¬ (2 = 0) by omega, show ¬ (2 = 1) by omega, if_false]; omega⟩
theorem sg0 {x : X} (h : key x = 0) : sg x = 0 := (sg_key x).2.1.2 h
theorem key_mul0 {x y : X} (h : key x = 0 ∨ key y = 0) : xmul x y = .fin 0 := by
 unfold xmul
 rw [if_pos]
 rcases h with h | h
 ·rw [sg0 h, Int.zero_mul]
 ·rw [sg0 h, Int.mul_zero]
theorem upr {x y y' : X} (hx : okx Dd x) (hy : okx Dd y) (hy' : okx Dd y') (h : key y ≤ key y') (h0 : 0 ≤ key x) : key (xmul x y) ≤ key (xmul x y') := by rw [xmul_comm x y, xmul_comm x y']; exact xmul_mono hy hy' hx h h0
theorem dnr {x y y' : X} (hx : okx Dd x) (hy : okx Dd y) (hy' : okx Dd y') (h : key y ≤ key y') (h0 : key x ≤ 0) : key (xmul x y') ≤ key (xmul x y) := by rw [xmul_comm x y, xmul_comm x y']; exact xmul_anti hy hy' hx h h0
theorem Qp_in {s t : Sp} (hs : oks C s) (ht : oks C t) {i k : Nat} (hi : i < 3) (hk : k < 3) {x y : X} (hx : El (pt i s) x) (hy : El (pt k t) y) :
  key (Qp i k (pt i s) (pt k t)).lo ≤ key (xmul x y) ∧ key (xmul x y) ≤ key (Qp i k (pt i s) (pt k t)).hi := by
 have ps := pt_ok hs i
 have qs := pt_ok ht k
 have pe := El_ne hx
 have qe := El_ne hy
 have a := El_lo ps pe
 have b := El_hi ps pe
 have c := El_lo qs qe
 have d := El_hi qs qe
 have S := @El_sign s hs
 have T := @El_sign t ht
 rcases i3 hi with rfl | rfl | rfl
 ·have sx := S.1 hx
  have sa := S.1 a
  have sb := S.1 b
  rcases i3 hk with rfl | rfl | rfl
  ·have sy := T.1 hy
   have sc := T.1 c
   have sd := T.1 d
   simp only [Qp, Nat.zero_ne_one, or_self, if_false, if_true]
   exact ⟨Int.le_trans (xmul_anti hx.1 b.1 d.1 hx.2.2 (by omega)) (dnr hx.1 hy.1 d.1 hy.2.2 (by omega)), Int.le_trans (xmul_anti a.1 hx.1 hy.1 hx.2.1 (by omega)) (dnr a.1 c.1 hy.1 hy.2.1 (by omega))⟩
  ·have sy := T.2.1 hy
   simp only [Qp, or_true, if_true]
   rw [key_mul0 (.inr sy)]; exact ⟨Int.le_refl _, Int.le_refl _⟩
  ·have sy := T.2.2 hy
   have sc := T.2.2 c
   have sd := T.2.2 d
   simp only [Qp, Nat.zero_ne_one, show ¬ (2 = 1) by omega, show ¬ (2 = 0) by omega, or_self, if_false, if_true]
   exact ⟨Int.le_trans (dnr a.1 hy.1 d.1 hy.2.2 (by omega)) (xmul_mono a.1 hx.1 hy.1 hx.2.1 (by omega)), Int.le_trans (xmul_mono hx.1 b.1 hy.1 hx.2.2 (by omega)) (dnr b.1 c.1 hy.1 hy.2.1 (by omega))⟩
 ·have sx := S.2.1 hx
  simp only [Qp, true_or, if_true]
  rw [key_mul0 (.inl sx)]; exact ⟨Int.le_refl _, Int.le_refl _⟩
 ·have sx := S.2.2 hx
  have sa := S.2.2 a
  have sb := S.2.2 b
  rcases i3 hk with rfl | rfl | rfl
  ·have sy := T.1 hy
   have sc := T.1 c
   have sd := T.1 d
   simp only [Qp, Nat.zero_ne_one, show ¬ (2 = 1) by omega, show ¬ (2 = 0) by omega, or_self, if_false, if_true]
   exact ⟨Int.le_trans (xmul_anti hx.1 b.1 c.1 hx.2.2 (by omega)) (upr hx.1 c.1 hy.1 hy.2.1 (by omega)), Int.le_trans (xmul_anti a.1 hx.1 hy.1 hx.2.1 (by omega)) (upr a.1 hy.1 d.1 hy.2.2 (by omega))⟩
  ·have sy := T.2.1 hy
   simp only [Qp, or_true, if_true]
   rw [key_mul0 (.inr sy)]; exact ⟨Int.le_refl _, Int.le_refl _⟩
  ·have sy := T.2.2 hy
   have sc := T.2.2 c
   have sd := T.2.2 d
   simp only [Qp, show ¬ (2 = 1) by omega, show ¬ (2 = 0) by omega, or_self, if_false]
   exact ⟨Int.le_trans (xmul_mono a.1 hx.1 c.1 hx.2.1 (by omega)) (upr hx.1 c.1 hy.1 hy.2.1 (by omega)), Int.le_trans (xmul_mono hx.1 b.1 hy.1 hx.2.2 (by omega)) (upr b.1 hy.1 d.1 hy.2.2 (by omega))⟩
theorem Qp_ends {s t : Sp} (hs : oks C s) (ht : oks C t) {i k : Nat} (hi : i < 3) (hk : k < 3) (ei : emp (pt i s) = false) (ek : emp (pt k t) = false) :
  (∃ x y, El (pt i s) x ∧ El (pt k t) y ∧ (Qp i k (pt i s) (pt k t)).lo = xmul x y) ∧ (∃ x y, El (pt i s) x ∧ El (pt k t) y ∧ (Qp i k (pt i s) (pt k t)).hi = xmul x y) := by
 have a := El_lo (pt_ok hs i) ei
 have b := El_hi (pt_ok hs i) ei
 have c := El_lo (pt_ok ht k) ek
 have d := El_hi (pt_ok ht k) ek
 by_cases z : i = 1 ∨ k = 1
 ·have e : xmul (pt i s).lo (pt k t).lo = .fin 0 := by
   apply key_mul0
   rcases z with rfl | rfl
   ·exact .inl ((El_sign hs).2.1 a)
   ·exact .inr ((El_sign ht).2.1 c)
  simp only [Qp, if_pos z]
  exact ⟨⟨_, _, a, c, e.symm⟩, ⟨_, _, a, c, e.symm⟩⟩
 ·unfold Qp
  rw [if_neg z]
  split <;> split
  ·exact ⟨⟨_, _, b, d, rfl⟩, ⟨_, _, a, c, rfl⟩⟩
  ·exact ⟨⟨_, _, a, d, rfl⟩, ⟨_, _, b, c, rfl⟩⟩
  ·exact ⟨⟨_, _, b, c, rfl⟩, ⟨_, _, a, d, rfl⟩⟩
  ·exact ⟨⟨_, _, a, c, rfl⟩, ⟨_, _, b, d, rfl⟩⟩
theorem Qp_ok {s t : Sp} (hs : oks C s) (ht : oks C t) (i k : Nat) : oks K (Qp i k (pt i s) (pt k t)) := by
 have hK := K_gt
 have p := pt_ok hs i
 have q := pt_ok ht k
 have z : okx K (.fin 0) := by simp only [okx]; omega
 unfold Qp
 split
 ·exact ⟨z, z⟩
 ·split <;> split
  ·exact ⟨xmul_ok p.2 q.2, xmul_ok p.1 q.1⟩
  ·exact ⟨xmul_ok p.1 q.2, xmul_ok p.2 q.1⟩
  ·exact ⟨xmul_ok p.2 q.1, xmul_ok p.1 q.2⟩
  ·exact ⟨xmul_ok p.1 q.1, xmul_ok p.2 q.2⟩
section
variable {s t : Sp} (hs : oks C s) (ht : oks C t) (es : emp s = false) (et : emp t = false) (ps : Pr s) (pt' : Pr t)
include hs ht es et
theorem corner_ok {x y : X} (hx : x = s.lo ∨ x = s.hi) (hy : y = t.lo ∨ y = t.hi) : El s x ∧ El t y := by
 constructor
 ·rcases hx with rfl | rfl
  ·exact El_lo hs es
  ·exact El_hi hs es
 ·rcases hy with rfl | rfl
  ·exact El_lo ht et
  ·exact El_hi ht et
theorem F1 {i k : Nat} (hi : i < 3) (hk : k < 3) (ei : emp (pt i s) = false) (ek : emp (pt k t) = false) :
  key (apS xmul s t).lo ≤ key (Qp i k (pt i s) (pt k t)).lo ∧ key (Qp i k (pt i s) (pt k t)).hi ≤ key (apS xmul s t).hi := by
 obtain ⟨⟨x, y, hx, hy, e⟩, ⟨x', y', hx', hy', e'⟩⟩ := Qp_ends hs ht hi hk ei ek
 have en := apS_ends (o := xmul) es et
 obtain ⟨⟨cx, cy, c1, c2, c3⟩, _⟩ := corner hs ht (El_sub hs hx) (El_sub ht hy)
 obtain ⟨_, ⟨dx, dy, d1, d2, d3⟩⟩ := corner hs ht (El_sub hs hx') (El_sub ht hy')
 have a := en.1.2 cx cy c1 c2
 have b := en.2.2 dx dy d1 d2
 rw [e, e']
 omega
theorem F2 : (∃ i k, i < 3 ∧ k < 3 ∧ emp (pt i s) = false ∧ emp (pt k t) = false ∧ (Qp i k (pt i s) (pt k t)).lo = (apS xmul s t).lo) ∧
  (∃ i k, i < 3 ∧ k < 3 ∧ emp (pt i s) = false ∧ emp (pt k t) = false ∧ (Qp i k (pt i s) (pt k t)).hi = (apS xmul s t).hi) := by
 have en := apS_ends (o := xmul) es et
 have ok := mulS_ok hs ht
 constructor
 ·obtain ⟨cx, cy, c1, c2, c3⟩ := en.1.1
  have co := corner_ok hs ht es et c1 c2
  obtain ⟨i, hi, xi⟩ := cls hs co.1
  obtain ⟨k, hk, yk⟩ := cls ht co.2
  have ei := El_ne xi
  have ek := El_ne yk
  have q := Qp_in hs ht hi hk xi yk
  have f := F1 hs ht es et hi hk ei ek
  refine ⟨i, k, hi, hk, ei, ek, key_inj (Qp_ok hs ht i k).1 ok.1 ?_⟩
  rw [← c3] at q
  omega
 ·obtain ⟨cx, cy, c1, c2, c3⟩ := en.2.1
  have co := corner_ok hs ht es et c1 c2
  obtain ⟨i, hi, xi⟩ := cls hs co.1
  obtain ⟨k, hk, yk⟩ := cls ht co.2
  have ei := El_ne xi
  have ek := El_ne yk
  have q := Qp_in hs ht hi hk xi yk
  have f := F1 hs ht es et hi hk ei ek
  refine ⟨i, k, hi, hk, ei, ek, key_inj (Qp_ok hs ht i k).2 ok.2 ?_⟩
  rw [← c3] at q
  omega
end
section
variable {s t : Sp} (hs : oks C s) (ht : oks C t) (es : emp s = false) (et : emp t = false) (ps : Pr s) (pt' : Pr t)
include hs ht es et ps pt'
end
section
variable {s t : Sp} (hs : oks C s) (ht : oks C t) (es : emp s = false) (et : emp t = false) (ps : Pr s) (pt' : Pr t)
include hs ht es et ps pt'
end
end Go.N
namespace Go.N
open Go Go.Q Go.Rx
def pp (i : Nat) (s : Sp) : Sp := if i = 0 then ⟨xneg (negS s).hi, xneg (negS s).lo⟩ else posS s
section
variable (lf : Nat) (h3 : 200000 ≤ lf) {s t : Sp} (hs : oks C s) (ht : oks C t) (ps : Pr s) (pt' : Pr t)
include h3 hs ht ps pt'
def sv (s : Sp) : List IV := [ac (toA (negS s)), ac (toA (zerS s)), ac (toA (posS s))]
end
end Go.N
namespace Go.N
open Go Go.Q Go.Rx
section
variable {s t : Sp} (hs : oks C s) (ht : oks C t) {x y : Int} (bx : -Dd < x ∧ x < Dd) (by' : -Dd < y ∧ y < Dd) (hx : inS s x = true) (hy : inS t y = true)
include hs ht bx by' hx hy
end
section
variable {s t : Sp} (hs : oks C s) (ht : oks C t) (ps : Pr s) (pt' : Pr t) {x y : Int} (bx : -Dd < x ∧ x < Dd) (by' : -Dd < y ∧ y < Dd) (hx : inS s x = true) (hy : inS t y = true)
include hs ht ps pt' bx by' hx hy
end
end Go.N
namespace Go.N
open Go Go.Q Go.Rx
section
variable {a b : A} (ha : Wf a) (hb : Wf b)
include ha hb
end
end Go.N
namespace Go.N
open Go Go.Q Go.Rx
namespace WfV
variable {v : Vl} (h : WfV v)
include h
theorem em : v.a.em = v.c.em := by
 have r := h.red
 unfold Go.N.red at r
 cases e1 : v.a.em with
 | true =>
  rw [if_pos e1] at r
  rw [← r]; rfl
 | false => cases e2 : v.c.em with
  | false => rfl
  | true =>
   rw [if_neg (by simp [e1]), if_pos e2] at r
   rw [← r] at e1; simp [Ev, E0] at e1
theorem ev (e : v.a.em = true) : v = Ev := by
 have r := h.red
 unfold Go.N.red at r
 rw [if_pos e] at r
 exact r.symm
theorem one (e : v.a.em = false) (m : v.c.m = 0) : v = onev v.c.r ∧ inS (ofA v.a) v.c.r = true := by
 have r := h.red
 have e2 : v.c.em = false := by rw [← h.em, e]
 unfold Go.N.red at r
 rw [if_neg (by simp [e]), if_neg (by simp [e2]), if_pos m] at r
 split at r
 ·exact ⟨r.symm, by assumption⟩
 ·rw [← r] at e; simp [Ev, E0] at e
theorem fin (e : v.a.em = false) (m : v.c.m ≠ 0) : fin3 (v.a.lo.map (loC v.c)) (v.a.hi.map (hiC v.c)) v.c = v := by
 have r := h.red
 have e2 : v.c.em = false := by rw [← h.em, e]
 unfold Go.N.red at r
 rwa [if_neg (by simp [e]), if_neg (by simp [e2]), if_neg m] at r
theorem bnd (e : v.a.em = false) : (∀ l, v.a.lo = some l → inC v.c l = true) ∧ ∀ l, v.a.hi = some l → inC v.c l = true := by
 have e2 : v.c.em = false := by rw [← h.em, e]
 by_cases m : v.c.m = 0
 ·obtain ⟨o, i⟩ := h.one e m
  have hs : inC v.c v.c.r = true := (in_iff e2 h.c.pos).2 (by simp)
  constructor
  ·intro l hl
   rw [o] at hl; cases hl; exact hs
  ·intro l hl
   rw [o] at hl; cases hl; exact hs
 ·have p : 0 < v.c.m := by have := h.c.pos; omega
  have f := h.fin e m
  have ck := h.a
  have lo := ck.lo
  have hi := ck.hi
  revert f lo hi
  cases hl : v.a.lo with
  | none => cases hh : v.a.hi with
   | none => intro _ _ _; exact ⟨nofun, nofun⟩
   | some u =>
    intro f lo hi
    have f2 := congrArg (fun x => x.a.hi) f
    simp only [Option.map, fin3, Option.bind, hh] at f2
    have hu : hiC v.c u = u := by
     unfold clip at f2; split at f2
     ·exact Option.some.inj f2
     ·cases f2
    exact ⟨nofun, fun l x => by cases x; exact (in_iff e2 h.c.pos).2 (by have := hi_in p u; rwa [hu] at this)⟩
  | some l => cases hh : v.a.hi with
   | none =>
    intro f lo hi
    have f2 := congrArg (fun x => x.a.lo) f
    simp only [Option.map, fin3, Option.bind, hl] at f2
    have hu : loC v.c l = l := by
     unfold clip at f2; split at f2
     ·exact Option.some.inj f2
     ·cases f2
    exact ⟨fun l x => (by cases x; exact (in_iff e2 h.c.pos).2 (by have := lo_in p l; rwa [hu] at this)), nofun⟩
   | some u =>
    intro f lo hi
    simp only [Option.map, fin3] at f
    split at f
    ·rw [← f] at e; simp [Ev, E0] at e
    ·split at f
     ·rw [← f] at m; simp [onev] at m
     ·have f1 := congrArg (fun x => x.a.lo) f
      have f2 := congrArg (fun x => x.a.hi) f
      simp only [hl, hh] at f1 f2
      have h1 : loC v.c l = l := by
       unfold clip at f1; split at f1
       ·exact Option.some.inj f1
       ·cases f1
      have h2 : hiC v.c u = u := by
       unfold clip at f2; split at f2
       ·exact Option.some.inj f2
       ·cases f2
      exact ⟨fun k x => (by cases x; exact (in_iff e2 h.c.pos).2 (by have := lo_in p l; rwa [h1] at this)), fun k x => (by cases x; exact (in_iff e2 h.c.pos).2 (by have := hi_in p u; rwa [h2] at this))⟩
end WfV
end Go.N
namespace Go.N
open Go Go.Q Go.Rx
section
variable {a b : Vl} (ha : WfV a) (hb : WfV b)
include ha hb
end
section
variable {a b : Vl} (ha : WfV a) (hb : WfV b)
include ha hb
end
end Go.N
namespace Go.N
open Go Go.Q Go.Rx
abbrev tb (b : ByteArray) : Nat := b.data.toList.length
def SmV (x : VV) : Prop := tb x.1.2.1 ≤ 100000 ∧ tb x.1.2.2.1 ≤ 100000 ∧ tb x.2.1.2.1 ≤ 100000 ∧ tb x.2.1.2.2.1 ≤ 100000
theorem vv_beq (x y : VV) : (((x.1.1 == y.1.1) && ((x.1.2.1 == y.1.2.1) && ((x.1.2.2.1 == y.1.2.2.1) && true))) && (((x.2.1.1 == y.2.1.1) && ((x.2.1.2.1 == y.2.1.2.1) && ((x.2.1.2.2.1 == y.2.1.2.2.1) && true))) && true)) = decide (x = y) := by
 obtain ⟨⟨e1, l1, m1, ⟨⟩⟩, ⟨e2, l2, m2, ⟨⟩⟩, ⟨⟩⟩ := x
 obtain ⟨⟨f1, p1, q1, ⟨⟩⟩, ⟨f2, p2, q2, ⟨⟩⟩, ⟨⟩⟩ := y
 rw [Bool.eq_iff_iff]
 simp only [ba_beq, Bool.and_eq_true, beq_iff_eq, decide_eq_true_eq, Bool.and_true, Prod.mk.injEq, and_true]
theorem vc_wf {a : A} {c : Cg} (ha : Wf a) (hc : WfC c) (h : vc (red a c) = vc ⟨a, c⟩) : ∃ v, vc ⟨a, c⟩ = vc v ∧ WfV v := by
 simp only [vc, Prod.mk.injEq] at h
 have e1 := ac_inj h.1
 obtain ⟨e2, e3⟩ := cc_inj h.2.1
 cases ec : c.em with
 | true =>
  have hE : red a c = Ev := by
   unfold red
   by_cases e : a.em = true
   ·rw [if_pos e]
   ·rw [if_neg e, if_pos ec]
  refine ⟨Ev, ?_, Ev_V⟩
  rw [hE] at e1
  simp only [vc, ← e1]
  rw [cc_em ec]; rfl
 | false =>
  rw [ec] at e2
  refine ⟨⟨a, c⟩, rfl, ha, hc, ?_⟩
  have e4 := e3 e2
  show red a c = ⟨a, c⟩
  generalize red a c = r at *
  cases r; simp_all
section
variable (lf : Nat) (hb : Big lf)
include hb
theorem chkV {x : VV} (hx : SmV x) : ∃ n : Int, value_Check.f lf x = some (n, ()) ∧ surveyorref23_Check.f lf x = some (n, ()) ∧ (n = 0 → ∃ v, x = vc v ∧ WfV v) := by
 have hlf := hb.1
 have h3 : 200000 ≤ lf := by omega
 obtain ⟨⟨e1, l1, m1, ⟨⟩⟩, ⟨e2, l2, m2, ⟨⟩⟩, ⟨⟩⟩ := x
 obtain ⟨x1, x2, x3, x4⟩ := hx
 rw [← bs_eta l1, ← bs_eta m1, ← bs_eta l2, ← bs_eta m2]
 simp only [tb] at x1 x2 x3 x4
 revert x1 x2 x3 x4
 generalize l1.data.toList = l1
 generalize m1.data.toList = m1
 generalize l2.data.toList = l2
 generalize m2.data.toList = m2
 intro x1 x2 x3 x4
 have p1 := check_iv lf h3 e1 l1 m1 (by omega) (by omega)
 have p2 := check_ref lf h3 e1 l1 m1 (by omega) (by omega) (by omega) (by omega)
 have q1 := ckc_f lf h3 e2 l2 m2 (by omega) (by omega)
 have q2 := ckc_ref lf h3 e2 l2 m2 (by omega) (by omega) (by omega) (by omega)
 rw [value_Check.f, value_parts.f, surveyorref23_Check.f]
 simp only [p1, p2, bdS]
 by_cases k1 : ck e1 l1 m1 = 0
 ·rw [k1]
  simp only [bne_self_eq_false, brF, q1, q2, bdS]
  by_cases k2 : ckc e2 l2 m2 = 0
  ·obtain ⟨a, ea, ha⟩ := ck_wf k1
   obtain ⟨c, ec, hc⟩ := ckc_wf k2
   rw [k2]
   have r1 := vred_f lf hb ha hc
   have r2 := rred_f lf hb ha hc
   rw [← ea, ← ec] at r1 r2
   simp only [bne_self_eq_false, brF, r1, r2, bdS]
   have bq := vv_beq (vc (red a c)) ((e1, bs l1, bs m1, ()), (e2, bs l2, bs m2, ()), ())
   simp only at bq
   rw [bq, ea, ec]
   by_cases h : vc (red a c) = (ac a, cc c, ())
   ·rw [decide_eq_true h, Bool.not_true, brF]
    exact ⟨0, rfl, rfl, fun _ => vc_wf ha hc h⟩
   ·rw [decide_eq_false h, Bool.not_false, brT]
    exact ⟨3, rfl, rfl, nofun⟩
  ·simp only [bneT k2, brT]
   exact ⟨_, rfl, rfl, fun h => absurd h k2⟩
 ·simp only [bneT k1, brT, bdS]
  exact ⟨_, rfl, rfl, fun h => absurd h k1⟩
theorem chk_wf {v : Vl} (h : WfV v) : value_Check.f lf (vc v) = some (0, ()) ∧ surveyorref23_Check.f lf (vc v) = some (0, ()) := by
 have hlf := hb.1
 have h3 : 200000 ≤ lf := by omega
 have p1 := check_wf lf h3 h.a
 have p2 := check_wf_ref lf h3 h.a
 have q1 := ccheck lf hb h.c
 have q2 := rcheck lf hb h.c
 have r1 := vred_f lf hb h.a h.c
 have r2 := rred_f lf hb h.a h.c
 rw [h.red] at r1 r2
 have bq := vv_beq (vc v) (vc v)
 rw [decide_eq_true rfl] at bq
 constructor
 ·rw [value_Check.f, value_parts.f]
  simp only [show (vc v).1 = ac v.a from rfl, show (vc v).2.1 = cc v.c from rfl] at bq ⊢
  simp only [p1, q1, r1, bdS, bne_self_eq_false, brF]
  simp only [show (vc v).1 = ac v.a from rfl, show (vc v).2.1 = cc v.c from rfl, bq, Bool.not_true, brF]
 ·rw [surveyorref23_Check.f]
  simp only [show (vc v).1 = ac v.a from rfl, show (vc v).2.1 = cc v.c from rfl] at bq ⊢
  simp only [p2, q2, r2, bdS, bne_self_eq_false, brF]
  simp only [show (vc v).1 = ac v.a from rfl, show (vc v).2.1 = cc v.c from rfl, bq, Bool.not_true, brF]
end
end Go.N
namespace Go.N
open Go Go.Q Go.Rx
section
variable (lf : Nat) (hb : Big lf)
include hb
theorem holdsV_f {v : Vl} (hv : WfV v) {z : Int} (hz : -Dd < z ∧ z < Dd) : value_Holds.f lf (vc v) (bs (Lib.itoa z)) = some (inV v z, 0, ()) := by
 have h3 : 200000 ≤ lf := by have := hb.1; omega
 have hk : -K < z ∧ z < K := by have := Dd_K; omega
 rw [value_Holds.f, (chk_wf lf hb hv).1, bdS]
 simp only [bne_self_eq_false, brF]
 simp only [show (vc v).1 = ac v.a from rfl, show (vc v).2.1 = cc v.c from rfl, holds_wf lf h3 hv.a hk, holds_c lf hb hv.c hk, bdS, bne_self_eq_false, brF]
 unfold inV
 cases inS (ofA v.a) z with
 | false => simp only [brF, Bool.false_and]
 | true =>
  cases inC v.c z with
  | false => simp only [brT, brF, Bool.true_and]
  | true => simp only [brT, BEq.rfl, Bool.true_and]
theorem inV_r {v : Vl} (hv : WfV v) {z : Int} (hz : -Dd < z ∧ z < Dd) : surveyorref23_In.f lf (vc v) (bs (Lib.itoa z)) = some (inV v z, ()) := by
 have h3 : 200000 ≤ lf := by have := hb.1; omega
 have hk : -K < z ∧ z < K := by have := Dd_K; omega
 rw [surveyorref23_In.f]
 simp only [show (vc v).1 = ac v.a from rfl, show (vc v).2.1 = cc v.c from rfl, in_ref lf h3 hv.a hk, in_r lf hb hv.c hz, bdS]
 unfold inV
 cases inS (ofA v.a) z <;> simp only [brT, brF, Bool.true_and, Bool.false_and]
theorem num_Dd {l : List UInt8} (h : chk l = 0) (hl : l.length ≤ 1000) : ∃ z : Int, l = Lib.itoa z ∧ -Dd < z ∧ z < Dd := by
 have e := itoa_iv (chk_zero.1 h).1
 refine ⟨iv l, e, (sz_Dd _).1 ?_⟩
 have := nlen_le l
 unfold sz
 rw [← e]; omega
end
end Go.N
namespace Go.N
open Go Go.Q Go.Rx
section
variable (lf : Nat) (hb : Big lf) {v w : Vl} (hv : WfV v) (hw : WfV w)
include hb hv hw
end
section
variable (lf : Nat) (hb : Big lf) {v : Vl} (hv : WfV v)
include hb hv
end
section
variable (lf : Nat) (hb : Big lf) {x y : VV} (hx : SmV x) (hy : SmV y)
include hb hx hy
end
end Go.N
namespace Go.N
open Go Go.Q Go.Rx
section
variable (lf : Nat) (hb : Big lf) {v w : Vl} (hv : WfV v) (hw : WfV w)
include hb hv hw
end
section
variable (lf : Nat) (hb : Big lf) {x y : VV} (hx : SmV x) (hy : SmV y)
include hb hx hy
end
section
variable (lf : Nat) (hb : Big lf) {x : VV} (hx : SmV x)
include hb hx
end
end Go.N
namespace Go.N
open Go Go.Q Go.Rx
theorem few22_f (lf : Nat) (x : IV) : ∃ b, surveyorref22_Few.f lf x = some (b, ()) ∧ (b = true → tb x.2.1 ≤ 100000 ∧ tb x.2.2.1 ≤ 100000) := by
 rw [surveyorref22_Few.f]
 simp only [surveyorref01_Few.f, bdS]
 by_cases h : ((x.2.1.size : Nat) : Int) ≤ 250
 ·rw [decide_eq_true h, brT]
  refine ⟨_, rfl, fun k => ?_⟩
  have k := of_decide_eq_true k
  rw [Lib.size_eq] at h k
  exact ⟨by simp only [tb]; omega, by simp only [tb]; omega⟩
 ·rw [decide_eq_false h, brF]
  exact ⟨_, rfl, nofun⟩
theorem few21_f (lf : Nat) (x y : IV) : ∃ b, surveyorref21_Few.f lf x y = some (b, ()) ∧ (b = true → (tb x.2.1 ≤ 100000 ∧ tb x.2.2.1 ≤ 100000) ∧ (tb y.2.1 ≤ 100000 ∧ tb y.2.2.1 ≤ 100000)) := by
 rw [surveyorref21_Few.f]
 by_cases h1 : ((x.2.1.size : Nat) : Int) ≤ 450
 ·rw [decide_eq_true h1, brT]
  by_cases h2 : ((x.2.2.1.size : Nat) : Int) ≤ 450
  ·rw [decide_eq_true h2, brT]
   by_cases h3 : ((y.2.1.size : Nat) : Int) ≤ 450
   ·rw [decide_eq_true h3, brT]
    refine ⟨_, rfl, fun k => ?_⟩
    have k := of_decide_eq_true k
    rw [Lib.size_eq] at h1 h2 h3 k
    exact ⟨⟨by simp only [tb]; omega, by simp only [tb]; omega⟩, by simp only [tb]; omega, by simp only [tb]; omega⟩
   ·rw [decide_eq_false h3, brF]; exact ⟨_, rfl, nofun⟩
  ·rw [decide_eq_false h2, brF]; exact ⟨_, rfl, nofun⟩
 ·rw [decide_eq_false h1, brF]; exact ⟨_, rfl, nofun⟩
theorem fewV_f (lf : Nat) (x y : VV) : ∃ b, surveyorref23_Few.f lf x y = some (b, ()) ∧ (b = true → SmV x ∧ SmV y) := by
 obtain ⟨a, a1, a2⟩ := few21_f lf x.1 y.1
 obtain ⟨b, b1, b2⟩ := few22_f lf x.2.1
 obtain ⟨c, c1, c2⟩ := few22_f lf y.2.1
 rw [surveyorref23_Few.f, a1, bdS]
 cases a with
 | false => simp only [brF]; exact ⟨_, rfl, nofun⟩
 | true =>
  simp only [brT, b1, bdS]
  cases b with
  | false => simp only [brF]; exact ⟨_, rfl, nofun⟩
  | true =>
   simp only [brT, c1, bdS]
   refine ⟨_, rfl, fun k => ?_⟩
   obtain ⟨q1, q2⟩ := a2 rfl
   have q3 := b2 rfl
   have q4 := c2 k
   exact ⟨⟨q1.1, q1.2, q3.1, q3.2⟩, q2.1, q2.2, q4.1, q4.2⟩
theorem bigN (n : Nat) : ∃ lf, Big lf ∧ n ≤ lf := ⟨2000000000 + K.toNat + n, ⟨by omega, by omega⟩, by omega⟩
theorem bigE : ∃ lf, Big lf := ⟨_, (bigN 0).choose_spec.1⟩
end Go.N
namespace Go.N
open Go.IntKind (i64)
open Go Go.Q Go.Rx
theorem apLe {α : Type} (b : Nat) (l l' : List α) (hb : b ≤ 1000) (h : l.length + l'.length ≤ 1000000) : apL true b l l' = some (l ++ l') := by
 unfold apL
 have : (l.length + l'.length) * b ≤ 1000000 * 1000 := Nat.mul_le_mul h hb
 rw [if_pos ⟨rfl, by simp only [maxLen]; omega, by omega⟩]
theorem ltE {j k : Nat} : decide ((j : Int) < ((k : Nat) : Int)) = decide (j < k) := by simp
theorem wrE {j : Nat} (h : j < 1000000) : i64.wrap ((j : Int) + 1) = ((j + 1 : Nat) : Int) := by rw [w64 (by omega) (by omega)]; omega
structure WfE (vs : List Vl) : Prop where
 v : ∀ v ∈ vs, WfV v
 ne : ∀ v ∈ vs, v.a.em = false
 len : vs.length ≤ 32
section
variable (lf : Nat) (hb : Big lf)
include hb
theorem few24_l {l : List VV} (hl : l.length ≤ 40) : ∀ (d n j : Nat), j + d = l.length → d < n → ∃ b, surveyorref24_Few.l0 lf l n j = some (b, (), (), ()) ∧ (b = false → ∀ s ∈ l.drop j, SmV s)
 | 0, n, j, hd, hn => by
  obtain ⟨n, rfl⟩ : ∃ q, n = q + 1 := ⟨n - 1, by omega⟩
  refine ⟨false, ?_, fun _ s hs => ?_⟩
  ·rw [surveyorref24_Few.l0, surveyorref24_Few.r0, ltE, decide_eq_false (by omega), brF]
  ·rw [List.drop_eq_nil_of_le (by omega)] at hs; cases hs
 | d + 1, n, j, hd, hn => by
  obtain ⟨n, rfl⟩ : ∃ q, n = q + 1 := ⟨n - 1, by omega⟩
  have hj : j < l.length := by omega
  obtain ⟨b, b1, b2⟩ := fewV_f lf l[j] l[j]
  obtain ⟨c, c1, c2⟩ := few24_l hl d n (j + 1) (by omega) (by omega)
  rw [surveyorref24_Few.l0, surveyorref24_Few.r0, ltE, decide_eq_true hj, brT, idxL_nat l j hj, bdS, bdS, b1, bdS, wrE (by omega), c1]
  cases b with
  | false => exact ⟨true, by rw [Bool.not_false, brT], fun h => by cases h⟩
  | true =>
   refine ⟨c, by rw [Bool.not_true, brF], fun h s hs => ?_⟩
   rw [List.drop_eq_getElem_cons hj] at hs
   rcases List.mem_cons.1 hs with rfl | hs
   ·exact (b2 rfl).1
   ·exact c2 h s hs
theorem few24 (l : List VV) : ∃ b, surveyorref24_Few.f lf l = some (b, ()) ∧ (b = true → l.length ≤ 40 ∧ ∀ s ∈ l, SmV s) := by
 rw [surveyorref24_Few.f]
 by_cases h : 40 < l.length
 ·exact ⟨false, by rw [show decide (((l.length : Nat) : Int) > 40) = true by simp; omega, brT], fun h => by cases h⟩
 ·rw [show decide (((l.length : Nat) : Int) > 40) = false by simp; omega, brF]
  obtain ⟨b, b1, b2⟩ := few24_l lf hb (l := l) (by omega) l.length (lf + 40) 0 (by omega) (by have := hb.1; omega)
  rw [show ((0 : Nat) : Int) = 0 from rfl] at b1
  rw [b1, bdS]
  cases b with
  | true => exact ⟨false, by rw [brT], fun h => by cases h⟩
  | false => exact ⟨true, by rw [brF], fun _ => ⟨by omega, fun s hs => b2 rfl s (by simpa using hs)⟩⟩
theorem same24_l {l : List VV} (hl : l.length ≤ 1000) : ∀ (d n j : Nat), j + d = l.length → d < n → surveyorref24_Same.l0 lf l l n j = some (false, (), (), ())
 | 0, n, j, hd, hn => by
  obtain ⟨n, rfl⟩ : ∃ q, n = q + 1 := ⟨n - 1, by omega⟩
  rw [surveyorref24_Same.l0, surveyorref24_Same.r0, ltE, decide_eq_false (by omega), brF]
 | d + 1, n, j, hd, hn => by
  obtain ⟨n, rfl⟩ : ∃ q, n = q + 1 := ⟨n - 1, by omega⟩
  have hj : j < l.length := by omega
  rw [surveyorref24_Same.l0, surveyorref24_Same.r0, ltE, decide_eq_true hj, brT, idxL_nat l j hj, bdS, bdS, vv_beq, bdS]
  simp only [BEq.rfl, decide_true, Bool.not_true]
  rw [brF, wrE (by omega)]
  exact same24_l hl d n (j + 1) (by omega) (by omega)
theorem same24 (l : List VV) (hl : l.length ≤ 1000) : surveyorref24_Same.f lf l l = some (true, ()) := by
 rw [surveyorref24_Same.f, show ((((l.length : Nat) : Int)) != ((l.length : Nat) : Int)) = false by simp, brF]
 have := same24_l lf hb hl l.length (lf + 40) 0 (by omega) (by have := hb.1; omega)
 rw [show ((0 : Nat) : Int) = 0 from rfl] at this
 rw [this, bdS, brF]
theorem chkE_l {l : List VV} (hs : ∀ x ∈ l, SmV x) (hl : l.length ≤ 40) : ∀ (d n j : Nat), j + d = l.length → d < n → ∃ (b : Bool) (e : Int), env_Check.l0 lf l (l.length : Nat) n j = some (b, (e, ()), (), ()) ∧ surveyorref24_Check.l0 lf l n j = some (b, (e, ()), (), ()) ∧
      (b = true → e ≠ 0) ∧ (b = false → ∃ vs : List Vl, l.drop j = vs.map vc ∧ (∀ v ∈ vs, WfV v) ∧ ∀ v ∈ vs, v.a.em = false)
  | 0, n, j, hd, hn => by
    obtain ⟨n, rfl⟩ : ∃ q, n = q + 1 := ⟨n - 1, by omega⟩
    refine ⟨false, 0, ?_, ?_, nofun, fun _ => ⟨[], ?_, by simp, by simp⟩⟩
    · rw [env_Check.l0, env_Check.r0, ltE, decide_eq_false (by omega), brF]
    · rw [surveyorref24_Check.l0, surveyorref24_Check.r0, ltE, decide_eq_false (by omega), brF]
    · rw [List.drop_eq_nil_of_le (by omega)]; rfl
  | d + 1, n, j, hd, hn => by
    obtain ⟨n, rfl⟩ : ∃ q, n = q + 1 := ⟨n - 1, by omega⟩
    have hj : j < l.length := by omega
    obtain ⟨k, k1, k2, k3⟩ := chkV lf hb (hs _ (List.getElem_mem hj))
    obtain ⟨b, e, i1, i2, i3, i4⟩ := chkE_l hs hl d n (j + 1) (by omega) (by omega)
    rw [env_Check.l0, env_Check.r0, surveyorref24_Check.l0, surveyorref24_Check.r0, ltE, decide_eq_true hj, brT, brT, idxL_nat l j hj, bdS, bdS, k1, k2, bdS, bdS]
    by_cases h : k = 0
    · subst h
      obtain ⟨v, ev, hv⟩ := k3 rfl
      simp only [bne_self_eq_false, brF, surveyorref24_none.f, bdS]
      cases hem : (l[j]).1.1 with
      | true => simp only [brT]; exact ⟨true, 16, rfl, rfl, fun _ => by decide, nofun⟩
      | false =>
        simp only [brF, wrE (show j < 1000000 by omega), i1, i2]
        refine ⟨b, e, rfl, rfl, i3, fun hbf => ?_⟩
        obtain ⟨vs, e1, e2, e3⟩ := i4 hbf
        refine ⟨v :: vs, by rw [List.drop_eq_getElem_cons hj, e1, ev]; rfl, fun w hw => ?_, fun w hw => ?_⟩
        · rcases List.mem_cons.1 hw with rfl | hw
          · exact hv
          · exact e2 w hw
        · rcases List.mem_cons.1 hw with rfl | hw
          · rw [ev] at hem; exact hem
          · exact e3 w hw
    · simp only [bneT h, brT]
      exact ⟨true, k, rfl, rfl, fun _ => h, nofun⟩
theorem chkE {l : List VV} (hs : ∀ x ∈ l, SmV x) (hl : l.length ≤ 40) : ∃ e : Int, env_Check.f lf l = some (e, ()) ∧ surveyorref24_Check.f lf l = some (e, ()) ∧ (e = 0 → ∃ vs : List Vl, l = vs.map vc ∧ WfE vs) := by
 rw [env_Check.f, surveyorref24_Check.f]
 by_cases h : 32 < l.length
 ·rw [show decide (((l.length : Nat) : Int) > 32) = true by simp; omega, brT, brT]
  exact ⟨5, rfl, rfl, nofun⟩
 ·rw [show decide (((l.length : Nat) : Int) > 32) = false by simp; omega, brF, brF]
  obtain ⟨b, e, i1, i2, i3, i4⟩ := chkE_l lf hb hs hl l.length (lf + 40) 0 (by omega) (by have := hb.1; omega)
  rw [show ((0 : Nat) : Int) = 0 from rfl] at i1 i2
  rw [i1, i2, bdS]
  cases b with
  | true => simp only [brT]; exact ⟨e, rfl, rfl, fun h => absurd h (i3 rfl)⟩
  | false =>
   simp only [brF]
   obtain ⟨vs, e1, e2, e3⟩ := i4 rfl
   refine ⟨0, rfl, rfl, fun _ => ⟨vs, by simpa using e1, e2, e3, ?_⟩⟩
   have : l.length = vs.length := by have := congrArg List.length e1; simpa using this
   omega
end
section
variable (lf : Nat) (hb : Big lf) {vs ws : List Vl} (hv : WfE vs) (hw : WfE ws) (hn : vs.length = ws.length)
include hb hv hw hn
end
section
variable (lf : Nat) (hb : Big lf) {l m : List VV} (hs : ∀ x ∈ l, SmV x) (hl : l.length ≤ 40) (ks : ∀ x ∈ m, SmV x) (kl : m.length ≤ 40)
include hb hs hl ks kl
end
end Go.N
namespace Go.N
open Go Go.Q Go.Rx
theorem zeroE (lf : Nat) : env_of.f lf (⟨#[48]⟩ : ByteArray) = some (((false, (⟨#[48]⟩ : ByteArray), (⟨#[48]⟩ : ByteArray), ()), (false, (⟨#[48]⟩ : ByteArray), (⟨#[48]⟩ : ByteArray), ()), ()), ()) := by kernel_rfl
theorem zeroR (lf : Nat) : surveyorref23_One.f lf (⟨#[48]⟩ : ByteArray) = some (((false, (⟨#[48]⟩ : ByteArray), (⟨#[48]⟩ : ByteArray), ()), (false, (⟨#[48]⟩ : ByteArray), (⟨#[48]⟩ : ByteArray), ()), ()), ()) := by kernel_rfl
theorem repE (lf : Nat) (v : VV) : ∀ k : Nat, k ≤ 32 → api_ValueR.f lf [v] (k : Int) = some (List.replicate k v, ())
 | 0, _ => by kernel_rfl
 | 1, _ => by kernel_rfl
 | 2, _ => by kernel_rfl
 | 3, _ => by kernel_rfl
 | 4, _ => by kernel_rfl
 | 5, _ => by kernel_rfl
 | 6, _ => by kernel_rfl
 | 7, _ => by kernel_rfl
 | 8, _ => by kernel_rfl
 | 9, _ => by kernel_rfl
 | 10, _ => by kernel_rfl
 | 11, _ => by kernel_rfl
 | 12, _ => by kernel_rfl
 | 13, _ => by kernel_rfl
 | 14, _ => by kernel_rfl
 | 15, _ => by kernel_rfl
 | 16, _ => by kernel_rfl
 | 17, _ => by kernel_rfl
 | 18, _ => by kernel_rfl
 | 19, _ => by kernel_rfl
 | 20, _ => by kernel_rfl
 | 21, _ => by kernel_rfl
 | 22, _ => by kernel_rfl
 | 23, _ => by kernel_rfl
 | 24, _ => by kernel_rfl
 | 25, _ => by kernel_rfl
 | 26, _ => by kernel_rfl
 | 27, _ => by kernel_rfl
 | 28, _ => by kernel_rfl
 | 29, _ => by kernel_rfl
 | 30, _ => by kernel_rfl
 | 31, _ => by kernel_rfl
 | 32, _ => by kernel_rfl
 | k + 33, h => absurd h (by omega)
theorem fill_l (lf : Nat) (v : VV) (N : Nat) (hN : N ≤ 32) : ∀ (d n j : Nat) (acc : List VV), j + d = N → d < n → acc.length = j → surveyorref24_Filled.l0 lf (N : Int) v.1.1 v.1.2.1 v.1.2.2.1 v.2.1.1 v.2.1.2.1 v.2.1.2.2.1 n (j : Int) acc = some ((acc ++ List.replicate d v, ()), ())
 | 0, n, j, acc, hd, hn, ha => by
  obtain ⟨n, rfl⟩ : ∃ q, n = q + 1 := ⟨n - 1, by omega⟩
  rw [surveyorref24_Filled.l0, surveyorref24_Filled.r0, ltE, decide_eq_false (by omega), brF, List.replicate_zero, List.append_nil]
 | d + 1, n, j, acc, hd, hn, ha => by
  obtain ⟨n, rfl⟩ : ∃ q, n = q + 1 := ⟨n - 1, by omega⟩
  rw [surveyorref24_Filled.l0, surveyorref24_Filled.r0, ltE, decide_eq_true (by omega), brT, apLe 80 acc _ (by omega) (by simp; omega), bdS, wrE (by omega)]
  rw [show (((v.1.1, v.1.2.1, v.1.2.2.1, ()), (v.2.1.1, v.2.1.2.1, v.2.1.2.2.1, ()), ()) : VV) = v from rfl, fill_l lf v N hN d n (j + 1) (acc ++ [v]) (by omega) (by omega) (by simp [ha]), List.replicate_succ, List.append_assoc]
  rfl
section
variable (lf : Nat) (hb : Big lf)
include hb
theorem allE (n : Int) (v : VV) : ∃ (l : List VV) (e : Int), env_filled.f lf n v = some (l, e, ()) ∧ surveyorref24_All.f lf n v = some (l, e, ()) ∧ l.length ≤ 1000 := by
 rw [env_filled.f, surveyorref24_All.f]
 by_cases h : n < 0
 ·rw [decide_eq_true h, brT, brT]; exact ⟨[], 2, rfl, rfl, by simp⟩
 ·rw [decide_eq_false h, brF, brF]
  by_cases h' : n > 32
  ·rw [decide_eq_true h', brT, brT]; exact ⟨[], 2, rfl, rfl, by simp⟩
  ·rw [decide_eq_false h', brF, brF]
   obtain ⟨k, rfl⟩ : ∃ k : Nat, n = (k : Int) := ⟨n.toNat, by omega⟩
   have := fill_l lf v k (by omega) k (lf + 40) 0 [] (by omega) (by have := hb.1; omega) rfl
   rw [show ((0 : Nat) : Int) = 0 from rfl] at this
   rw [repE lf v k (by omega), bdS, surveyorref24_Filled.f, this, bdS, bdS]
   exact ⟨_, _, rfl, rfl, by simp; omega⟩
theorem topE (n : Int) : ∃ (l : List VV) (e : Int), env_Top.f lf n = some (l, e, ()) ∧ surveyorref24_Top.f lf n = some (l, e, ()) ∧ l.length ≤ 1000 := by
 rw [env_Top.f, surveyorref24_Top.f, value_Top.f, surveyorref23_Top.f, surveyorref22_Top.f, bdS, bdS, bdS]
 obtain ⟨l, e, h1, h2, h3⟩ := allE lf hb n ((false, (⟨#[]⟩ : ByteArray), (⟨#[]⟩ : ByteArray), ()), (false, (⟨#[49]⟩ : ByteArray), (⟨#[48]⟩ : ByteArray), ()), ())
 simp only [h1, h2, bdS]
 exact ⟨l, e, rfl, rfl, h3⟩
theorem nilE (n : Int) : ∃ (l : List VV) (e : Int), env_Zero.f lf n = some (l, e, ()) ∧ surveyorref24_Zero.f lf n = some (l, e, ()) ∧ l.length ≤ 1000 := by
 rw [env_Zero.f, surveyorref24_Zero.f, zeroE, zeroR, bdS, bdS]
 obtain ⟨l, e, h1, h2, h3⟩ := allE lf hb n ((false, (⟨#[48]⟩ : ByteArray), (⟨#[48]⟩ : ByteArray), ()), (false, (⟨#[48]⟩ : ByteArray), (⟨#[48]⟩ : ByteArray), ()), ())
 simp only [h1, h2, bdS]
 exact ⟨l, e, rfl, rfl, h3⟩
theorem holdsV_bad {v : Vl} (hv : WfV v) {l : List UInt8} (hl : l.length ≤ 1000) (hk : chk l ≠ 0) : value_Holds.f lf (vc v) (bs l) = some (false, chk l, ()) := by
 have h3 : 200000 ≤ lf := by have := hb.1; omega
 rw [value_Holds.f, (chk_wf lf hb hv).1, bdS]
 simp only [bne_self_eq_false, brF]
 rw [interval_Holds.f]
 simp only [show (vc v).1 = ac v.a from rfl, check_wf lf h3 hv.a, bdS, bne_self_eq_false, brF, check_f lf l (by omega), bneT hk, brT]
theorem few06_l {l : List ByteArray} (hl : l.length ≤ 40) : ∀ (d n j : Nat), j + d = l.length → d < n → ∃ b, surveyorref06_FewInts.l0 lf l n j = some (b, (), (), ()) ∧ (b = false → ∀ s ∈ l.drop j, (tl s).length ≤ 1000)
 | 0, n, j, hd, hn => by
  obtain ⟨n, rfl⟩ : ∃ q, n = q + 1 := ⟨n - 1, by omega⟩
  refine ⟨false, ?_, fun _ s hs => ?_⟩
  ·rw [surveyorref06_FewInts.l0, surveyorref06_FewInts.r0, ltE, decide_eq_false (by omega), brF]
  ·rw [List.drop_eq_nil_of_le (by omega)] at hs; cases hs
 | d + 1, n, j, hd, hn => by
  obtain ⟨n, rfl⟩ : ∃ q, n = q + 1 := ⟨n - 1, by omega⟩
  have hj : j < l.length := by omega
  obtain ⟨c, c1, c2⟩ := few06_l hl d n (j + 1) (by omega) (by omega)
  rw [surveyorref06_FewInts.l0, surveyorref06_FewInts.r0, ltE, decide_eq_true hj, brT, idxL_nat l j hj, bdS, surveyorref03_FewText.f, bdS, wrE (by omega), c1]
  by_cases hq : (((l[j]).size : Nat) : Int) ≤ 450
  ·refine ⟨c, by simp only [decide_eq_true hq, Bool.not_true, brF], fun h s hs => ?_⟩
   rw [List.drop_eq_getElem_cons hj] at hs
   rcases List.mem_cons.1 hs with rfl | hs
   ·rw [Lib.size_eq] at hq
    simp only [tl]; omega
   ·exact c2 h s hs
  ·exact ⟨true, by simp only [decide_eq_false hq, Bool.not_false, brT], fun h => by cases h⟩
theorem few06 (l : List ByteArray) : ∃ b, surveyorref06_FewInts.f lf l = some (b, ()) ∧ (b = true → ∀ s ∈ l, (tl s).length ≤ 1000) := by
 rw [surveyorref06_FewInts.f]
 by_cases h : 40 < l.length
 ·exact ⟨false, by rw [show decide (((l.length : Nat) : Int) > 40) = true by simp; omega, brT], fun h => by cases h⟩
 ·rw [show decide (((l.length : Nat) : Int) > 40) = false by simp; omega, brF]
  obtain ⟨b, b1, b2⟩ := few06_l lf hb (l := l) (by omega) l.length (lf + 40) 0 (by omega) (by have := hb.1; omega)
  rw [show ((0 : Nat) : Int) = 0 from rfl] at b1
  rw [b1, bdS]
  cases b with
  | true => exact ⟨false, by rw [brT], fun h => by cases h⟩
  | false => exact ⟨true, by rw [brF], fun _ s hs => b2 rfl s (by simpa using hs)⟩
theorem holdsE_l {vs : List Vl} (hv : WfE vs) {ps : List ByteArray} (hp : ∀ p ∈ ps, (tl p).length ≤ 1000) (hl : ps.length = vs.length) : ∀ (d n j : Nat), j + d = vs.length → d < n →
  (∃ e : Int, (∀ acc, ∃ w, env_Holds.l0 lf ps (vs.map vc) ((vs.length : Nat) : Int) n acc j = some (true, (e, w, ()), (false, ()), ())) ∧ surveyorref24_Holds.l0 lf (vs.map vc) ps n j = some (true, (e, ()), (), ())) ∨
  (∃ c, (∀ acc, env_Holds.l0 lf ps (vs.map vc) ((vs.length : Nat) : Int) n acc j = some (false, (0, false, ()), (acc && c, ()), ())) ∧ surveyorref24_Holds.l0 lf (vs.map vc) ps n j = some (false, (0, ()), (), ()) ∧ surveyorref24_In.l0 lf (vs.map vc) ps n j = some (!c, (), (), ()))
 | 0, n, j, hd, hn => by
  obtain ⟨n, rfl⟩ : ∃ q, n = q + 1 := ⟨n - 1, by omega⟩
  refine .inr ⟨true, fun acc => ?_, ?_, ?_⟩
  ·rw [env_Holds.l0, env_Holds.r0, ltE, decide_eq_false (by omega), brF, Bool.and_true]
  ·rw [surveyorref24_Holds.l0, surveyorref24_Holds.r0, ltE, decide_eq_false (by omega), brF]
  ·rw [surveyorref24_In.l0, surveyorref24_In.r0, List.length_map, ltE, decide_eq_false (by omega), brF]; rfl
 | d + 1, n, j, hd, hn => by
  obtain ⟨n, rfl⟩ : ∃ q, n = q + 1 := ⟨n - 1, by omega⟩
  have hlf := hb.1
  have h32 := hv.len
  have j1 : j < vs.length := by omega
  have j2 : j < ps.length := by omega
  have hw := hv.v _ (List.getElem_mem j1)
  have hq := hp _ (List.getElem_mem j2)
  have ih := holdsE_l hv hp hl d n (j + 1) (by omega) (by omega)
  have a1 : ∀ acc, env_Holds.l0 lf ps (vs.map vc) ((vs.length : Nat) : Int) (n + 1) acc j = bd (value_Holds.f lf (vc vs[j]) (bs (tl ps[j]))) fun r4 => br (r4.2.1 != 0) (some (true, (r4.2.1, acc, ()), (false, ()), ())) (br acc (env_Holds.l0 lf ps (vs.map vc) ((vs.length : Nat) : Int) n r4.1 ((j + 1 : Nat) : Int)) (env_Holds.l0 lf ps (vs.map vc) ((vs.length : Nat) : Int) n false ((j + 1 : Nat) : Int))) := fun acc => by
   rw [env_Holds.l0, env_Holds.r0, ltE, decide_eq_true j1, brT, idxL_nat _ j (by simpa using j1), bdS, idxL_nat _ j j2, bdS, wrE (by omega), List.getElem_map, bs_eta]
  have a2 : surveyorref24_Holds.l0 lf (vs.map vc) ps (n + 1) j = br (chk (tl ps[j]) != 0) (some (true, (chk (tl ps[j]), ()), (), ())) (surveyorref24_Holds.l0 lf (vs.map vc) ps n ((j + 1 : Nat) : Int)) := by
   rw [surveyorref24_Holds.l0, surveyorref24_Holds.r0, ltE, decide_eq_true j2, brT, idxL_nat _ j j2, bdS, ← bs_eta ps[j], rCheck_f lf _ (show (tl ps[j]).length ≤ 9223372036854775807 by omega) (by omega), bdS, wrE (by omega)]
  have a3 : surveyorref24_In.l0 lf (vs.map vc) ps (n + 1) j = bd (surveyorref23_In.f lf (vc vs[j]) (bs (tl ps[j]))) fun r3 => br (!r3.1) (some (true, (), (), ())) (surveyorref24_In.l0 lf (vs.map vc) ps n ((j + 1 : Nat) : Int)) := by
   rw [surveyorref24_In.l0, surveyorref24_In.r0, List.length_map, ltE, decide_eq_true j1, brT, idxL_nat _ j (by simpa using j1), bdS, idxL_nat _ j j2, bdS, wrE (by omega), List.getElem_map, bs_eta]
  by_cases hk : chk (tl ps[j]) = 0
  ·obtain ⟨z, ez, hz⟩ := num_Dd lf hb hk hq
   simp only [hk, bne_self_eq_false, brF] at a2
   rw [ez, inV_r lf hb hw hz, bdS] at a3
   have a1' : ∀ acc, env_Holds.l0 lf ps (vs.map vc) ((vs.length : Nat) : Int) (n + 1) acc j = env_Holds.l0 lf ps (vs.map vc) ((vs.length : Nat) : Int) n (acc && inV vs[j] z) ((j + 1 : Nat) : Int) := fun acc => by
    rw [a1, ez, holdsV_f lf hb hw hz, bdS]
    simp only [bne_self_eq_false, brF]
    cases acc <;> simp only [brT, brF, Bool.true_and, Bool.false_and]
   rw [a2, a3]
   rcases ih with ⟨e, i1, i2⟩ | ⟨c, i1, i2, i3⟩
   ·refine .inl ⟨e, fun acc => ?_, i2⟩
    rw [a1']; exact i1 _
   ·refine .inr ⟨inV vs[j] z && c, fun acc => ?_, i2, ?_⟩
    ·rw [a1', i1, Bool.and_assoc]
    ·rw [i3]
     cases inV vs[j] z <;> simp only [Bool.not_true, Bool.not_false, brT, brF, Bool.true_and, Bool.false_and]
  ·refine .inl ⟨chk (tl ps[j]), fun acc => ⟨acc, ?_⟩, ?_⟩
   ·rw [a1, holdsV_bad lf hb hw hq hk, bdS]
    simp only [bneT hk, brT]
   ·rw [a2, bneT hk, brT]
theorem holdsE_same {l : List VV} (hs : ∀ x ∈ l, SmV x) (hl : l.length ≤ 40) {ps : List ByteArray} (hp : ∀ p ∈ ps, (tl p).length ≤ 1000) : ∃ r, env_Holds.f lf l ps = some r ∧ surveyorref24_Holds.f lf l ps = some r := by
 obtain ⟨e, a1, a2, a3⟩ := chkE lf hb hs hl
 rw [env_Holds.f, surveyorref24_Holds.f, a1, a2, bdS, bdS]
 by_cases h : e = 0
 ·subst h
  obtain ⟨vs, rfl, hv⟩ := a3 rfl
  simp only [bne_self_eq_false, brF, List.length_map]
  by_cases hn : ps.length = vs.length
  ·rw [hn]
   simp only [bne_self_eq_false, brF]
   have := holdsE_l lf hb hv hp hn vs.length (lf + 40) 0 (by omega) (by have := hb.1; have := hv.len; omega)
   rw [show ((0 : Nat) : Int) = 0 from rfl] at this
   rcases this with ⟨e, i1, i2⟩ | ⟨c, i1, i2, i3⟩
   ·obtain ⟨w, i1⟩ := i1 true
    rw [i1, i2, bdS, bdS]
    simp only [brT]
    exact ⟨_, rfl, rfl⟩
   ·rw [i1, i2, bdS, bdS]
    simp only [brF]
    rw [surveyorref24_In.f, i3, bdS]
    cases c with
    | true => simp only [Bool.not_true, brF, bdS, Bool.and_self]; exact ⟨_, rfl, rfl⟩
    | false => simp only [Bool.not_false, brT, bdS, Bool.and_false]; exact ⟨_, rfl, rfl⟩
  ·rw [show (((ps.length : Nat) : Int) != ((vs.length : Nat) : Int)) = true by simp; omega, brT, brT]
   exact ⟨_, rfl, rfl⟩
 ·simp only [bneT h, brT]
  exact ⟨_, rfl, rfl⟩
end
end Go.N
namespace Go.N
open Go Go.Q
theorem awakeE (lf : Nat) : surveyorlaw24_awake.f lf = some (true, ()) := by kernel_rfl
end Go.N
namespace Go.Q
open Go Go.RowKit Go.ChangeShapes Go.WideShapes
def flat : Ty → Bool
 | .sl _ => false
 | .pair a b => flat a && flat b
 | _ => true
def partsOf (P : Program) (t : TypeId) : List (TypeId × Nat) := match P.underlying t with
 | some (.struct fs) => fs.toList.map fun f => (f.type, f.offset)
 | some (.array n e) => (List.range n).map fun i => (e, i * P.cellsOf e)
 | _ => []
mutual
def fitT (P : Program) : Ty → TypeId → Bool
 | .int k, t => match P.underlying t with
  | some (.int k') => decide (k' = k)
  | _ => false
 | .bool, t => match P.underlying t with
  | some .bool => true
  | _ => false
 | .str, t => match P.underlying t with
  | some .string => true
  | _ => false
 | .unit, _ => false
 | .nul, _ => false
 | .rc _, _ => false
 | .pair a b, t => match partsOf P t with
  | p :: r => p.2 == 0 && (fitT P a p.1 && (P.cellsOf p.1 == a.n && (fitL P b r a.n && P.cellsOf t == a.n + b.n)))
  | [] => false
 | .sl e, t => match P.underlying t with
  | some (.slice e') => fitT P e e' && (flat e && P.cellsOf e' == e.n)
  | _ => false
def fitL (P : Program) : Ty → List (TypeId × Nat) → Nat → Bool
 | .unit, l, _ => match l with
  | [] => true
  | _ => false
 | .pair a b, l, k => match l with
  | p :: r => p.2 == k && (fitT P a p.1 && (P.cellsOf p.1 == a.n && fitL P b r (k + a.n)))
  | [] => false
 | _, _, _ => false
end
def Bnd : (T : Ty) → T.α → Prop
 | .int k, x => k.min ≤ x ∧ x ≤ k.max
 | .str, x => x.size ≤ 9223372036854775807
 | .pair a b, x => Bnd a x.1 ∧ Bnd b x.2
 | .sl e, l => l.length ≤ 9223372036854775807 ∧ ∀ y ∈ l, Bnd e y
 | _, _ => True
def Bnds : (ps : List Ty) → Tys ps → Prop
 | [], _ => True
 | t :: ts, x => Bnd t x.1 ∧ Bnds ts x.2
section
variable {H : Type} {enc : TypeId × Value → H} {P : Program} {w : World} {F : Nat → Prop} {sp : Nat → Bool} {held : Bool}
theorem trod_parts {t : TypeId} {fuel : Nat} {cs : List Value} {x : DataW H × List MemPlace} (hp : partsOf P t ≠ []) (h : DataW.trod enc P w 0 sp held fuel t cs = some x) :
  cs.length = P.cellsOf t ∧ ∃ n, ∀ p ∈ partsOf P t, ∃ y, DataW.trod enc P w 0 sp held n p.1 ((cs.drop p.2).take (P.cellsOf p.1)) = some y := by
 unfold partsOf at hp ⊢
 split at hp
 ·rename_i fs hu
  obtain ⟨xs, n, _, _, hl, hxl, hf⟩ := DataW.trod_struct hu h
  refine ⟨hl, n, fun p hm => ?_⟩
  simp only [List.mem_map] at hm
  obtain ⟨f, hfm, rfl⟩ := hm
  obtain ⟨i, hi, he⟩ := List.mem_iff_getElem.1 hfm
  have h1 : fs[i]? = some f := by
   have : fs.toList[i]? = some f := by rw [List.getElem?_eq_getElem hi, he]
   simpa using this
  have h2 : i < xs.length := by
   rw [hxl]; simpa using hi
  exact ⟨xs[i], by rw [hf i f h1, List.getElem?_eq_getElem h2]⟩
 ·rename_i n e hu
  obtain ⟨xs, m, _, _, hl, hxl, hf⟩ := DataW.trod_array hu h
  refine ⟨hl, m, fun p hm => ?_⟩
  simp only [List.mem_map, List.mem_range] at hm
  obtain ⟨i, hi, rfl⟩ := hm
  exact ⟨xs[i], by rw [hf i hi, List.getElem?_eq_getElem (by omega)]⟩
 ·exact absurd rfl hp
mutual
theorem dr_flat : ∀ (T : Ty) (t : TypeId) (cs : List Value) (x : DataW H × List MemPlace) (fuel : Nat), flat T = true → fitT P T t = true → DataW.trod enc P w 0 sp held fuel t cs = some x → ∃ y : T.α, DR F w T y cs ∧ Bnd T y
 | .int k, t, cs, x, fuel, _, hf, h => by
  unfold fitT at hf
  split at hf
  ·rename_i k' hu
   obtain rfl : k' = k := by simpa using hf
   obtain ⟨n, rfl, _, hw⟩ := DataW.trod_int hu h
   exact ⟨n, rfl, by simpa [Lit.wf, Bnd] using hw⟩
  ·cases hf
 | .bool, t, cs, x, fuel, _, hf, h => by
  unfold fitT at hf
  split at hf
  ·rename_i hu
   obtain ⟨b, rfl, _⟩ := DataW.trod_bool hu h
   exact ⟨b, rfl, trivial⟩
  ·cases hf
 | .str, t, cs, x, fuel, _, hf, h => by
  unfold fitT at hf
  split at hf
  ·rename_i hu
   obtain ⟨s, rfl, _, hs⟩ := DataW.trod_string hu h
   exact ⟨s, rfl, by simpa [maxLen, Bnd] using hs⟩
  ·cases hf
 | .unit, t, cs, x, fuel, _, hf, h => by simp [fitT] at hf
 | .nul, t, cs, x, fuel, _, hf, h => by simp [fitT] at hf
 | .rc _, t, cs, x, fuel, _, hf, h => by simp [fitT] at hf
 | .sl e, t, cs, x, fuel, hfl, _, _ => by simp [flat] at hfl
 | .pair a b, t, cs, x, fuel, hfl, hf, h => by
  unfold fitT at hf
  split at hf
  ·rename_i p r hp
   simp only [Bool.and_eq_true, beq_iff_eq] at hf
   obtain ⟨h0, h1, h2, h3, h4⟩ := hf
   simp only [flat, Bool.and_eq_true] at hfl
   obtain ⟨hl, n, hm⟩ := trod_parts (by rw [hp]; simp) h
   rw [hp] at hm
   obtain ⟨y0, hy0⟩ := hm p (by simp)
   rw [h0, h2] at hy0
   obtain ⟨u, d1, b1⟩ := dr_flat a p.1 _ _ n hfl.1 h1 hy0
   obtain ⟨v, d2, b2⟩ := dr_flatL b r a.n cs n hfl.2 h3 (fun q hq => hm q (by simp [hq])) (by omega)
   refine ⟨(u, v), ⟨_, _, ?_, d1, d2⟩, b1, b2⟩
   have e : (cs.drop a.n).take b.n = cs.drop a.n := List.take_of_length_le (by rw [List.length_drop]; omega)
   rw [e]; simp
  ·cases hf
theorem dr_flatL : ∀ (T : Ty) (l : List (TypeId × Nat)) (k : Nat) (cs : List Value) (n : Nat), flat T = true → fitL P T l k = true → (∀ p ∈ l, ∃ y, DataW.trod enc P w 0 sp held n p.1 ((cs.drop p.2).take (P.cellsOf p.1)) = some y) → k + T.n ≤ cs.length → ∃ y : T.α, DR F w T y ((cs.drop k).take T.n) ∧ Bnd T y
 | .int k', l, k, cs, n, _, hf, _, _ => by simp [fitL] at hf
 | .bool, l, k, cs, n, _, hf, _, _ => by simp [fitL] at hf
 | .str, l, k, cs, n, _, hf, _, _ => by simp [fitL] at hf
 | .nul, l, k, cs, n, _, hf, _, _ => by simp [fitL] at hf
 | .rc _, l, k, cs, n, _, hf, _, _ => by simp [fitL] at hf
 | .sl _, l, k, cs, n, _, hf, _, _ => by simp [fitL] at hf
 | .unit, l, k, cs, n, _, hf, _, _ => ⟨(), by simp [DR, Ty.n], trivial⟩
 | .pair a b, l, k, cs, n, hfl, hf, hm, hk => by
  unfold fitL at hf
  split at hf
  ·rename_i p r
   simp only [Bool.and_eq_true, beq_iff_eq] at hf
   obtain ⟨h0, h1, h2, h3⟩ := hf
   simp only [flat, Bool.and_eq_true] at hfl
   simp only [Ty.n] at hk
   obtain ⟨y0, hy0⟩ := hm p (by simp)
   rw [h0, h2] at hy0
   obtain ⟨u, d1, b1⟩ := dr_flat a p.1 _ _ n hfl.1 h1 hy0
   obtain ⟨v, d2, b2⟩ := dr_flatL b r (k + a.n) cs n hfl.2 h3 (fun q hq => hm q (by simp [hq])) (by omega)
   refine ⟨(u, v), ⟨_, _, ?_, d1, d2⟩, b1, b2⟩
   simp only [Ty.n]
   rw [List.take_add, List.drop_drop]
  ·cases hf
end
theorem list_of {α : Type} {R : Nat → α → Prop} : ∀ (n : Nat), (∀ i, i < n → ∃ y, R i y) → ∃ l : List α, l.length = n ∧ ∀ (i : Nat) (y : α), l[i]? = some y → R i y
 | 0, _ => ⟨[], rfl, fun i y h => by simp at h⟩
 | n + 1, h => by
  obtain ⟨l, hl, hr⟩ := list_of n fun i hi => h i (by omega)
  obtain ⟨y, hy⟩ := h n (by omega)
  refine ⟨l ++ [y], by simp [hl], fun i z hz => ?_⟩
  by_cases hi : i < l.length
  ·rw [List.getElem?_append_left hi] at hz; exact hr i z hz
  ·rw [List.getElem?_append_right (by omega)] at hz
   have : i = l.length := by
    by_cases e : i - l.length = 0
    ·omega
    ·obtain ⟨q, hq⟩ := Nat.exists_eq_succ_of_ne_zero e
     rw [hq] at hz; simp at hz
   subst this
   simp only [Nat.sub_self, List.getElem?_cons_zero, Option.some.injEq] at hz
   subst hz; rw [hl]; exact hy
def topS : Ty → Bool
 | .sl e => flat e
 | .pair a b => topS a && topS b
 | T => flat T
def topOK : Ty → Bool
 | .sl e => flat e
 | T => topS T
theorem add_none (b o n : Nat) : (Addr.add ⟨b, o, none⟩ n) = ⟨b, o + n, none⟩ := by
 unfold Addr.add; split
 ·rename_i h; rw [h]; rfl
 ·rfl
theorem isC_shape {i : Nat} {q : TypeId × Nat} (h : w.shape? i = some q) : IsC w i := by
 unfold World.shape? at h
 unfold IsC
 cases hb : w.heap[i]? with
 | none => rw [hb] at h; simp at h
 | some o => cases o <;> rw [hb] at h <;> simp_all
def SlOK (w : World) (v : Value) : Prop := ∀ a len cap, v = .slice (some a) len cap → a.spot = none ∧ IsC w a.block
theorem slOK_wide {base : Nat} {u : TypeId} {v : Value} (h : Cell.okWide P w .any base u v) : SlOK w v := by
 rintro a len cap rfl
 cases hu : P.underlying u with
 | none => simp [Cell.okWide, Cell.ok, hu] at h
 | some d =>
  cases d <;> simp only [Cell.okWide, Cell.ok, hu] at h
  case slice e =>
   obtain ⟨_, hspot, row, cells, hsh, _⟩ := h.2.2
   exact ⟨hspot, isC_shape hsh⟩
mutual
theorem dr_top : ∀ (T : Ty) (t : TypeId) (cs : List Value) (x : DataW H × List MemPlace) (fuel : Nat), topS T = true → fitT P T t = true → (∀ v ∈ cs, SlOK w v) → DataW.trod enc P w 0 sp held fuel t cs = some x → ∃ y : T.α, DR (IsC w) w T y cs ∧ Bnd T y
 | .int k, t, cs, x, fuel, _, hf, _, h => dr_flat (.int k) t cs x fuel rfl hf h
 | .bool, t, cs, x, fuel, _, hf, _, h => dr_flat .bool t cs x fuel rfl hf h
 | .str, t, cs, x, fuel, _, hf, _, h => dr_flat .str t cs x fuel rfl hf h
 | .unit, t, cs, x, fuel, _, hf, _, h => by simp [fitT] at hf
 | .nul, t, cs, x, fuel, _, hf, _, h => by simp [fitT] at hf
 | .rc _, t, cs, x, fuel, _, hf, _, h => by simp [fitT] at hf
 | .sl e, t, cs, x, fuel, _, hf, hok, h => by
  unfold fitT at hf
  split at hf
  ·rename_i e' hu
   simp only [Bool.and_eq_true, beq_iff_eq] at hf
   obtain ⟨h1, h2, h3⟩ := hf
   rcases DataW.trod_slice hu h with ⟨hc, _⟩ | ⟨a', len', cap', elems, rest, n, _, hc, _, _, hle, hcm, hel, hread, _⟩
   ·subst hc
    exact ⟨[], ⟨_, rfl, .inl ⟨rfl, rfl⟩⟩, by simp [Bnd]⟩
   ·subst hc
    obtain ⟨hspot, hisc⟩ := hok _ (List.mem_cons_self ..) a' len' cap' rfl
    obtain ⟨b, o, s⟩ := a'
    simp only at hspot hisc; subst hspot
    obtain ⟨l, hl, hr⟩ := list_of (α := e.α) (R := fun i y => (∃ ds : List Value, DR (IsC w) w e y ds ∧ ∀ (j : Nat) (d : Value), ds[j]? = some d → w.cell? ⟨b, o + (i * e.n + j), none⟩ = some d) ∧ Bnd e y) len' fun i hi => by
     have hq := hread i hi
     rw [List.getElem?_eq_getElem (by omega), Option.bind_eq_some_iff] at hq
     obtain ⟨cs, c1, c2⟩ := hq
     obtain ⟨y, k1, k2⟩ := dr_flat (F := IsC w) e e' cs _ n h2 h1 c2
     refine ⟨y, ⟨cs, k1, fun j d' hd => ?_⟩, k2⟩
     obtain ⟨_, m1, m2⟩ := World.cells?_some c1
     have hj : j < cs.length := (List.getElem?_eq_some_iff.1 hd).1
     have := m2 j (by omega)
     rw [add_none, add_none, h3] at this
     rw [← Nat.add_assoc, this]; exact hd
    refine ⟨l, ⟨_, rfl, .inr ⟨b, o, cap', by rw [hl], hisc, by omega, fun i x hx => (hr i x hx).1⟩⟩, ?_, ?_⟩
    ·rw [hl]; simp only [maxLen] at hcm; omega
    ·intro y hy
     obtain ⟨i, hi, he⟩ := List.mem_iff_getElem.1 hy
     exact (hr i y (by rw [List.getElem?_eq_getElem hi, he])).2
  ·cases hf
 | .pair a b, t, cs, x, fuel, hfl, hf, hok, h => by
  unfold fitT at hf
  split at hf
  ·rename_i p r hp
   simp only [Bool.and_eq_true, beq_iff_eq] at hf
   obtain ⟨h0, h1, h2, h3, h4⟩ := hf
   simp only [topS, Bool.and_eq_true] at hfl
   obtain ⟨hl, n, hm⟩ := trod_parts (by rw [hp]; simp) h
   rw [hp] at hm
   obtain ⟨y0, hy0⟩ := hm p (by simp)
   rw [h0, h2] at hy0
   obtain ⟨u, d1, b1⟩ := dr_top a p.1 _ _ n hfl.1 h1 (fun v hv => hok v (List.mem_of_mem_drop (List.mem_of_mem_take hv))) hy0
   obtain ⟨v, d2, b2⟩ := dr_topL b r a.n cs n hfl.2 h3 hok (fun q hq => hm q (by simp [hq])) (by omega)
   refine ⟨(u, v), ⟨_, _, ?_, d1, d2⟩, b1, b2⟩
   have e : (cs.drop a.n).take b.n = cs.drop a.n := List.take_of_length_le (by rw [List.length_drop]; omega)
   rw [e]; simp
  ·cases hf
theorem dr_topL : ∀ (T : Ty) (l : List (TypeId × Nat)) (k : Nat) (cs : List Value) (n : Nat), topS T = true → fitL P T l k = true → (∀ v ∈ cs, SlOK w v) → (∀ p ∈ l, ∃ y, DataW.trod enc P w 0 sp held n p.1 ((cs.drop p.2).take (P.cellsOf p.1)) = some y) → k + T.n ≤ cs.length → ∃ y : T.α, DR (IsC w) w T y ((cs.drop k).take T.n) ∧ Bnd T y
 | .int k', l, k, cs, n, _, hf, _, _, _ => by simp [fitL] at hf
 | .bool, l, k, cs, n, _, hf, _, _, _ => by simp [fitL] at hf
 | .str, l, k, cs, n, _, hf, _, _, _ => by simp [fitL] at hf
 | .nul, l, k, cs, n, _, hf, _, _, _ => by simp [fitL] at hf
 | .rc _, l, k, cs, n, _, hf, _, _, _ => by simp [fitL] at hf
 | .sl _, l, k, cs, n, _, hf, _, _, _ => by simp [fitL] at hf
 | .unit, l, k, cs, n, _, hf, _, _, _ => ⟨(), by simp [DR, Ty.n], trivial⟩
 | .pair a b, l, k, cs, n, hfl, hf, hok, hm, hk => by
  unfold fitL at hf
  split at hf
  ·rename_i p r
   simp only [Bool.and_eq_true, beq_iff_eq] at hf
   obtain ⟨h0, h1, h2, h3⟩ := hf
   simp only [topS, Bool.and_eq_true] at hfl
   simp only [Ty.n] at hk
   obtain ⟨y0, hy0⟩ := hm p (by simp)
   rw [h0, h2] at hy0
   obtain ⟨u, d1, b1⟩ := dr_top a p.1 _ _ n hfl.1 h1 (fun v hv => hok v (List.mem_of_mem_drop (List.mem_of_mem_take hv))) hy0
   obtain ⟨v, d2, b2⟩ := dr_topL b r (k + a.n) cs n hfl.2 h3 hok (fun q hq => hm q (by simp [hq])) (by omega)
   refine ⟨(u, v), ⟨_, _, ?_, d1, d2⟩, b1, b2⟩
   simp only [Ty.n]
   rw [List.take_add, List.drop_drop]
  ·cases hf
end
theorem valR_of_trod {T : Ty} {t : TypeId} {v : Value} {d : DataW H} {p : List MemPlace} {base : Nat} (ht : topOK T = true) (hf : fitT P T t = true) (hv : Value.okWide P w .any base t v) (h : DataW.Trod enc P w 0 sp held t v d p) : ∃ y : T.α, ValR (IsC w) w T y v ∧ Bnd T y := by
 obtain ⟨fuel, h⟩ := h
 unfold ValR
 cases T with
 | int k =>
  obtain ⟨y, h1, h2⟩ := dr_flat (F := IsC w) (.int k) t _ _ fuel rfl hf h
  unfold fitT at hf
  split at hf
  ·rename_i k' hu
   obtain ⟨n, rfl⟩ := okWide_int hu hv
   exact ⟨y, by rw [if_neg (by simp [isSt])]; simpa [Value.cells] using h1, h2⟩
  ·cases hf
 | bool =>
  obtain ⟨y, h1, h2⟩ := dr_flat (F := IsC w) .bool t _ _ fuel rfl hf h
  unfold fitT at hf
  split at hf
  ·rename_i hu
   obtain ⟨n, rfl⟩ := okWide_bool hu hv
   exact ⟨y, by rw [if_neg (by simp [isSt])]; simpa [Value.cells] using h1, h2⟩
  ·cases hf
 | str =>
  obtain ⟨y, h1, h2⟩ := dr_flat (F := IsC w) .str t _ _ fuel rfl hf h
  unfold fitT at hf
  split at hf
  ·rename_i hu
   obtain ⟨n, rfl⟩ := okWide_string hu hv
   exact ⟨y, by rw [if_neg (by simp [isSt])]; simpa [Value.cells] using h1, h2⟩
  ·cases hf
 | unit => simp [fitT] at hf
 | nul => simp [fitT] at hf
 | rc c => simp [fitT] at hf
 | pair a b =>
  obtain ⟨cs, rfl, hok⟩ : ∃ cs, v = .agg cs ∧ ∀ y ∈ cs.toList, SlOK w y := by
   unfold fitT at hf
   split at hf
   ·rename_i q r hp
    have row : ∀ cs : Array Value, Row.okWide P w .any base t cs → ∀ y ∈ cs.toList, SlOK w y := fun cs hr y hy => by
     obtain ⟨ts, _, _, hc⟩ := hr
     obtain ⟨i, hi, he⟩ := List.mem_iff_getElem.1 hy
     have h1 : cs[i]? = some y := by
      have : cs.toList[i]? = some y := by rw [List.getElem?_eq_getElem hi, he]
      simpa using this
     obtain ⟨u, _, hu⟩ := hc i y h1
     exact slOK_wide hu
    unfold partsOf at hp
    unfold Value.okWide at hv
    split at hp
    ·rename_i fs hu
     rw [hu] at hv
     obtain ⟨cs, e, _, hr⟩ := hv
     exact ⟨cs, e, row cs hr⟩
    ·rename_i n e hu
     rw [hu] at hv
     obtain ⟨cs, e, _, hr⟩ := hv
     exact ⟨cs, e, row cs hr⟩
    ·cases hp
   ·cases hf
  obtain ⟨y, h1, h2⟩ := dr_top (.pair a b) t cs.toList _ fuel ht hf hok h
  exact ⟨y, by rw [if_pos (show isSt (.pair a b) = true from rfl)]; exact ⟨cs.toList, by simp, h1⟩, h2⟩
 | sl e =>
  unfold fitT at hf
  split at hf
  ·rename_i e' hu
   simp only [Bool.and_eq_true, beq_iff_eq] at hf
   obtain ⟨h1, h2, h3⟩ := hf
   obtain ⟨a, len, cap, rfl⟩ := okWide_slice hu hv
   rcases DataW.trod_slice hu h with ⟨hc, _⟩ | ⟨a', len', cap', elems, rest, n, _, hc, _, _, hle, hcm, hel, hread, _⟩
   ·simp only [Value.cells, List.cons.injEq, Value.slice.injEq, and_true] at hc
    obtain ⟨rfl, rfl, rfl⟩ := hc
    exact ⟨[], by rw [if_neg (by simp [isSt])]; exact ⟨_, rfl, .inl ⟨rfl, rfl⟩⟩, by simp [Bnd]⟩
   ·simp only [Value.cells, List.cons.injEq, Value.slice.injEq, and_true] at hc
    obtain ⟨rfl, rfl, rfl⟩ := hc
    have hhas : w.has P .any base a' e' cap := by
     unfold Value.okWide Cell.okWide Cell.ok at hv
     rw [hu] at hv
     exact hv.2.2
    obtain ⟨_, hspot, row, cells, hsh, _⟩ := hhas
    obtain ⟨b, o, s⟩ := a'
    simp only at hspot; subst hspot
    have hisc : IsC w b := isC_shape hsh
    obtain ⟨l, hl, hr⟩ := list_of (α := e.α) (R := fun i y => (∃ ds : List Value, DR (IsC w) w e y ds ∧ ∀ (j : Nat) (d : Value), ds[j]? = some d → w.cell? ⟨b, o + (i * e.n + j), none⟩ = some d) ∧ Bnd e y) len fun i hi => by
     have hq := hread i hi
     rw [List.getElem?_eq_getElem (by omega), Option.bind_eq_some_iff] at hq
     obtain ⟨cs, c1, c2⟩ := hq
     obtain ⟨y, k1, k2⟩ := dr_flat (F := IsC w) e e' cs _ n h2 h1 c2
     refine ⟨y, ⟨cs, k1, fun j d' hd => ?_⟩, k2⟩
     obtain ⟨_, m1, m2⟩ := World.cells?_some c1
     have hj : j < cs.length := (List.getElem?_eq_some_iff.1 hd).1
     have := m2 j (by omega)
     rw [add_none, add_none, h3] at this
     rw [← Nat.add_assoc, this]; exact hd
    refine ⟨l, ?_, ?_, ?_⟩
    ·rw [if_neg (by simp [isSt])]
     refine ⟨_, rfl, .inr ⟨b, o, cap, by rw [hl], hisc, by omega, fun i x hx => (hr i x hx).1⟩⟩
    ·rw [hl]; simp only [maxLen] at hcm; omega
    ·intro y hy
     obtain ⟨i, hi, he⟩ := List.mem_iff_getElem.1 hy
     exact (hr i y (by rw [List.getElem?_eq_getElem hi, he])).2
  ·cases hf
def fitAll (P : Program) : List Ty → List TypeId → Bool
 | [], [] => true
 | T :: Ts, t :: ts => (topOK T && fitT P T t) && fitAll P Ts ts
 | _, _ => false
theorem argsR_of_trod : ∀ {Ts : List Ty} {ts : List TypeId} {vs : List Value} {ds : List (DataW H)} {p : List MemPlace} {base : Nat}, fitAll P Ts ts = true → (∀ (j : Nat) t v, ts[j]? = some t → vs[j]? = some v → Value.okWide P w .any base t v) →
  DataW.TrodAll enc P w 0 sp held ts vs ds p → ∃ x : Tys Ts, ArgsR (IsC w) w Ts x vs ∧ Bnds Ts x
 | [], [], vs, ds, p, base, _, _, h => by
  cases vs with
  | nil => exact ⟨(), rfl, trivial⟩
  | cons _ _ => cases ds <;> exact absurd h (by simp [DataW.TrodAll])
 | [], _ :: _, vs, ds, p, base, hf, _, h => by simp [fitAll] at hf
 | _ :: _, [], vs, ds, p, base, hf, _, h => by simp [fitAll] at hf
 | T :: Ts, t :: ts, vs, ds, p, base, hf, hv, h => by
  simp only [fitAll, Bool.and_eq_true] at hf
  cases vs with
  | nil => cases ds <;> exact absurd h (by simp [DataW.TrodAll])
  | cons v vs =>
   cases ds with
   | nil => exact absurd h (by simp [DataW.TrodAll])
   | cons d ds =>
    obtain ⟨p1, p2, h1, h2, _⟩ := h
    obtain ⟨y, k1, k2⟩ := valR_of_trod hf.1.1 hf.1.2 (hv 0 t v rfl rfl) h1
    obtain ⟨x, m1, m2⟩ := argsR_of_trod hf.2 (fun j t' v' a b => hv (j + 1) t' v' (by simpa using a) (by simpa using b)) h2
    exact ⟨(y, x), ⟨v, vs, rfl, k1, m1⟩, k2, m2⟩
theorem trodAll_below {W W' : World} (hl : laidOutB P = true) (hb : Below W.heap.size W W') : ∀ {ts : List TypeId} {vs : List Value} {ds : List (DataW H)} {p : List MemPlace}, (ts.all fun t => P.readableRec t && decide (t < P.types.size)) = true →
  DataW.TrodAll enc P W 0 (fun _ => true) true ts vs ds p → DataW.TrodAll enc P W' 0 (fun b => decide (b < W.heap.size)) true ts vs ds p
 | [], vs, ds, p, _, h => by cases vs <;> cases ds <;> simp_all [DataW.TrodAll]
 | t :: ts, vs, ds, p, ha, h => by
  cases vs with
  | nil => cases ds <;> exact absurd h (by simp [DataW.TrodAll])
  | cons v vs =>
   cases ds with
   | nil => exact absurd h (by simp [DataW.TrodAll])
   | cons d ds =>
    simp only [List.all_cons, Bool.and_eq_true, decide_eq_true_eq] at ha
    obtain ⟨p1, p2, h1, h2, rfl⟩ := h
    have hlt : ∀ x ∈ p1, x.block < W.heap.size := by
     obtain ⟨m, hm⟩ := h1
     exact DataW.trod_lt m _ _ _ hm
    exact ⟨p1, p2, Below.trod hl ha.1.1 ha.1.2 h1 hb hlt, trodAll_below hl hb ha.2 h2, rfl⟩
theorem trodAll_len {ts : List TypeId} : ∀ {vs : List Value} {ds : List (DataW H)} {p : List MemPlace}, DataW.TrodAll enc P w 0 sp held ts vs ds p → ds.length = ts.length := by
 induction ts with
 | nil => intro vs ds p h; cases vs <;> cases ds <;> simp_all [DataW.TrodAll]
 | cons t ts ih =>
  intro vs ds p h
  cases vs with
  | nil => cases ds <;> exact absurd h (by simp [DataW.TrodAll])
  | cons v vs =>
   cases ds with
   | nil => exact absurd h (by simp [DataW.TrodAll])
   | cons d ds => obtain ⟨_, _, _, h2, _⟩ := h; simp [ih h2]
end
def GTabs (W : World) : Prop := ∀ (g j : Nat) (v : Int), (gtab g)[j]? = some v → W.cell? ⟨g, j, none⟩ = some (.int .i64 v)
theorem isC_cell {w : World} {g j : Nat} {v : Value} (h : w.cell? ⟨g, j, none⟩ = some v) : IsC w g := by
 unfold World.cell? at h
 unfold IsC
 cases hb : w.heap[g]? with
 | none => rw [hb] at h; cases h
 | some o => cases o <;> rw [hb] at h <;> simp_all
theorem gtabs_of_laid {laid : List (String × DataW Unit)} {W : World} (hp : (laid.all fun x => x.2.handleName?.isNone) = true) {t e : TypeId} {rest : List (String × DataW Unit)}
  (hg : Proofs.Tryz.prog.globalNamed "surveyor/expr.operands" = some gtN) (hty : (Proofs.Tryz.prog.globals[gtN]?).map (·.type) = some t) (ht : Proofs.Tryz.prog.underlying t = some (.array 8 e)) (he : Proofs.Tryz.prog.underlying e = some (.int .i64))
  (hce : Proofs.Tryz.prog.cellsOf e = 1) (hct : Proofs.Tryz.prog.cellsOf t = 8)
  (hh : (laid.filter fun x => x.1 == "surveyor/expr.operands") = ("surveyor/expr.operands", Lib.tabData .i64 [0, 0, 1, 2, 2, 2, 2, 2]) :: rest)
  (h : laidMetH Proofs.Tryz.prog laid W) : GTabs W := by
 rw [MakeChecks.laidMetH_plain _ _ _ hp] at h
 have h' := laidMet.filter (fun x => x.1 == "surveyor/expr.operands") h
 rw [hh] at h'
 have k := Lib.tabIs_of_head hg hty ht he hce hct h'
 intro g j v hv
 unfold gtab at hv
 cases hc : (g == gtN && Nat.blt gtN 1000000000) with
 | false => rw [hc] at hv; simp at hv
 | true =>
  rw [hc, cond_true] at hv
  simp only [Bool.and_eq_true, beq_iff_eq] at hc
  obtain ⟨rfl, _⟩ := hc
  unfold Lib.TabIs World.var? at k
  rw [hg] at k
  simp only [Option.bind_some] at k
  unfold World.cell?
  cases hb : W.heap[gtN]? with
  | none => rw [hb] at k; cases k
  | some o =>
   rw [hb] at k
   cases o with
   | cells c u z =>
    have e' := Option.some.inj k
    simp only [Option.isSome_none, Bool.false_eq_true, if_false]
    rw [e', List.getElem?_toArray, List.getElem?_map, hv]
    rfl
   | _ => cases k
section
variable {H : Type} {enc : TypeId × Value → H}
theorem law_post {L : World → Prop} (hl : laidOutB Proofs.Tryz.prog = true) {n : FuncId} {fn : Func} {s : ChangeSpec} {Ts : List Ty} {f : Nat → Tys Ts → Option (Bool × Unit)} (hE : ∀ lf, EntryOK Proofs.Tryz.prog TabG n ⟨Ts, [.bool], f lf⟩)
  (hf : fitAll Proofs.Tryz.prog Ts fn.params.toList = true) (hrd : (fn.params.toList.all fun t => Proofs.Tryz.prog.readableRec t && decide (t < Proofs.Tryz.prog.types.size)) = true)
  {rt : TypeId} (hrt : fn.resultTypes = #[rt]) (hub : Proofs.Tryz.prog.underlying rt = some .bool) (hsv : s.vars = [])
  (hs : ∀ ds : List (DataW H), ds.length = fn.params.toList.length → s.fn H ds = { results := [.lit (.bool true)], args := ds })
  (hpure : ∀ x : Tys Ts, Bnds Ts x → ∃ lf, f lf x = some (true, ()))
  (hgt : ∀ W : World, L W → GTabs W)
  {W : World} {base : Nat} {args : Array Value} {ds gs : List (DataW H)} {before : List MemPlace} {apart fresh handsOn : Bool}
  (hval : ∀ (j : Nat) t v, fn.params[j]? = some t → args[j]? = some v → Value.okWide Proofs.Tryz.prog W .any base t v)
  (hW : DataW.Whole enc Proofs.Tryz.prog fn.params.toList s.vars apart W args.toList ds gs before) (hG : TabG W) (hL : L W) :
  Calls Proofs.Tryz.prog n args W fun e W' => ∃ v, e = .returned v ∧ s.post enc Proofs.Tryz.prog fn apart fresh handsOn false W args v W' := by
 have hW' := hW
 obtain ⟨p, q, hA, hV, rfl, _, _⟩ := hW
 rw [hsv] at hV
 obtain ⟨rfl, rfl⟩ := trodVars_none hV
 have hv' : ∀ (j : Nat) (t : TypeId) (v : Value), fn.params.toList[j]? = some t → args.toList[j]? = some v → Value.okWide Proofs.Tryz.prog W .any base t v := by
  intro j t v a b
  rw [Array.getElem?_toList] at a b
  exact hval j t v a b
 obtain ⟨x, k1, k2⟩ := argsR_of_trod hf hv' hA
 obtain ⟨lf, hlf⟩ := hpure x k2
 have hlen := trodAll_len hA
 have h := hE lf x (true, ()) hlf (IsC W) W args.toList hG ⟨fun i hi => hi, fun g j v hv => ⟨isC_cell (hgt W hL g j v hv), hgt W hL g j v hv⟩⟩ k1
 rw [Array.toArray_toList] at h
 refine h.mono ?_
 rintro e W' ⟨v, rfl, hb, hr⟩
 obtain ⟨vs, ⟨u, r, rfl, h1, h2⟩, rfl⟩ := hr
 obtain rfl : r = [] := h2
 have hu : u = .bool true := by
  unfold ValR at h1
  rw [if_neg (by simp [isSt])] at h1
  simpa [DR] using h1
 subst hu
 refine ⟨_, rfl, ds, [], p ++ [], [], p, [], hW', ?_, ?_, ?_, hb.frame _, fun h => by cases h⟩
 ·rw [List.append_nil, hs ds hlen, hrt]
  exact trodAll_mk1 (shut_bool hub true)
 ·rw [List.append_nil, hs ds hlen]
  exact trodAll_below hl hb hrd hA
 ·rw [List.append_nil, hs ds hlen, hsv]
  rfl
end
theorem tabG_of_laid {laid : List (String × DataW Unit)} {W : World} (hp : (laid.all fun x => x.2.handleName?.isNone) = true) {g : Nat} {t e : TypeId} {n : Nat} {rest : List (String × DataW Unit)}
  (hg : Proofs.Tryz.prog.globalNamed "internal/strconv.uint64pow10" = some g) (hty : (Proofs.Tryz.prog.globals[g]?).map (·.type) = some t) (ht : Proofs.Tryz.prog.underlying t = some (.array n e)) (he : Proofs.Tryz.prog.underlying e = some (.int .u64))
  (hce : Proofs.Tryz.prog.cellsOf e = 1) (hct : Proofs.Tryz.prog.cellsOf t = n)
  (hh : (laid.filter fun x => x.1 == "internal/strconv.uint64pow10") = ("internal/strconv.uint64pow10", Lib.tabData .u64 Lib.pow10Tab) :: rest)
  (h : laidMetH Proofs.Tryz.prog laid W) : TabG W := by
 rw [MakeChecks.laidMetH_plain _ _ _ hp] at h
 have h' := laidMet.filter (fun x => x.1 == "internal/strconv.uint64pow10") h
 rw [hh] at h'
 exact Lib.tabIs_of_head hg hty ht he hce hct h'
theorem goes_no {P : Program} {c : OpenClaim} (h : P.funcs.any Func.goes = false) (hs : c.start = .entering) : false = c.goesBy P := by
 have key : ∀ (g : Nat) (fn : Func), P.funcs[g]? = some fn → fn.goes = false := by
  intro g fn hg
  have := Array.any_eq_false.1 h
  obtain ⟨hlt, e⟩ := Array.getElem?_eq_some_iff.1 hg
  have := this g hlt
  rw [e] at this
  simpa using this
 have k2 : ∀ g : Nat, (P.funcs[g]?).any Func.goes = false := by
  intro g
  cases hg : P.funcs[g]? with
  | none => rfl
  | some fn => simp [key g fn hg]
 unfold OpenClaim.goesBy Program.goesAt Program.goesFrom
 rw [hs]
 have k3 : ∀ f, P.goes f = false := by
  intro f
  unfold Program.goes
  rw [h, Bool.and_false, Bool.or_false]
  simp only [k2]
  simp
 cases P.funcNamed c.func with
 | none => rfl
 | some f => simp [k3]
end Go.Q
namespace Go.Q
open Go Go.N
theorem Pure.EnvHolds (x : Tys (surveyorlaw24_EnvHolds.E 0).ps) (h : Bnds (surveyorlaw24_EnvHolds.E 0).ps x) : ∃ lf, surveyorlaw24_EnvHolds.f lf x.1 x.2.1 x.2.2.1 = some (true, ()) := by
 obtain ⟨l, n, ps, ⟨⟩⟩ := x
 clear h
 obtain ⟨lf, hb⟩ := bigE
 refine ⟨lf, ?_⟩
 obtain ⟨b, b1, b2⟩ := few24 lf hb l
 obtain ⟨c, c1, c2⟩ := few06 lf hb ps
 rw [surveyorlaw24_EnvHolds.f]
 simp only [b1, bdS, awakeE, c1]
 cases b with
 | false => simp only [Bool.not_false, Go.N.brT]
 | true =>
  simp only [Bool.not_true, Go.N.brF]
  cases c with
  | false => simp only [Bool.not_false, Go.N.brT]
  | true =>
   obtain ⟨h1, h2⟩ := b2 rfl
   obtain ⟨r, r1, r2⟩ := holdsE_same lf hb h2 h1 (c2 rfl)
   obtain ⟨t, e, t1, t2, t3⟩ := topE lf hb n
   obtain ⟨u, f, u1, u2, u3⟩ := nilE lf hb n
   obtain ⟨k, k1, k2, _⟩ := chkE lf hb h2 h1
   simp only [Bool.not_true, Go.N.brF, r1, r2, t1, t2, u1, u2, k1, k2, same24 lf hb _ t3, same24 lf hb _ u3, bdS, BEq.rfl, Go.N.brT]
end Go.Q
