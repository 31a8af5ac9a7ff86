import Derived.Shelf.Strconv.Atoi
import Derived.Shelf.LaysM
import Derived.Shelf.Strconv.Itoa3
import Derived.Shelf.Strings.Repeat
import Derived.Shelf.Strings.SlTrimAscii
import Derived.Test.YtniehiachpcdeaaGreatDoorProg
import Derived.Lib.SlTrimSet
import Derived.Test.YtniehiachpcdeaaGreatDoorTVE2
set_option linter.unusedVariables false
set_option linter.unusedSimpArgs false
set_option linter.unusedSectionVars false
namespace Go.N
open Go Go.Q Go.Rx
def lv (B : Int) : List Int → Int
 | [] => 0
 | x :: l => x + B * lv B l
def Dg (B : Int) (l : List Int) : Prop := ∀ x ∈ l, 0 ≤ x ∧ x < B
theorem Dg.tail {B : Int} {x : Int} {l : List Int} (h : Dg B (x :: l)) : Dg B l := fun y hy => h y (by simp [hy])
theorem Dg.head {B : Int} {x : Int} {l : List Int} (h : Dg B (x :: l)) : 0 ≤ x ∧ x < B := h x (by simp)
theorem Dg.nil {B : Int} : Dg B [] := fun y hy => by simp at hy
theorem Dg.cons {B x : Int} {l : List Int} (h1 : 0 ≤ x ∧ x < B) (h : Dg B l) : Dg B (x :: l) := by
 intro y hy
 rcases List.mem_cons.1 hy with rfl | hy
 ·exact h1
 ·exact h y hy
theorem Dg.take {B : Int} {l : List Int} (h : Dg B l) (n : Nat) : Dg B (l.take n) := fun y hy => h y (List.mem_of_mem_take hy)
theorem Dg.drop {B : Int} {l : List Int} (h : Dg B l) (n : Nat) : Dg B (l.drop n) := fun y hy => h y (List.mem_of_mem_drop hy)
theorem Dg.app {B : Int} {l m : List Int} (h : Dg B l) (k : Dg B m) : Dg B (l ++ m) := fun y hy => by
 rcases List.mem_append.1 hy with hy | hy
 ·exact h y hy
 ·exact k y hy
theorem Dg.at {B : Int} {l : List Int} (h : Dg B l) (i : Nat) (hi : i < l.length) : 0 ≤ l[i] ∧ l[i] < B := h _ (List.getElem_mem hi)
theorem Dg.getD {B : Int} (hB : 0 < B) {l : List Int} (h : Dg B l) (i : Nat) : 0 ≤ l.getD i 0 ∧ l.getD i 0 < B := by
 by_cases hi : i < l.length
 ·rw [List.getD_eq_getElem?_getD, List.getElem?_eq_getElem hi]; exact h.at i hi
 ·rw [List.getD_eq_getElem?_getD, List.getElem?_eq_none (by omega)]; exact ⟨by simp, by simpa using hB⟩
theorem Dg.zeros {B : Int} (hB : 0 < B) (n : Nat) : Dg B (List.replicate n 0) := fun y hy => by
 rw [(List.mem_replicate.1 hy).2]; exact ⟨by omega, hB⟩
theorem lv_app (B : Int) : ∀ l m : List Int, lv B (l ++ m) = lv B l + B ^ l.length * lv B m
 | [], m => by simp [lv]
 | x :: l, m => by
  rw [List.cons_append, lv, lv, lv_app B l m, List.length_cons, Int.pow_succ, Int.mul_add, Int.mul_comm (B ^ l.length) B, Int.mul_assoc]
  omega
theorem lv_zeros (B : Int) : ∀ n : Nat, lv B (List.replicate n 0) = 0
 | 0 => rfl
 | n + 1 => by rw [List.replicate_succ, lv, lv_zeros B n]; simp
theorem lv_nonneg {B : Int} (hB : 0 < B) : ∀ {l : List Int}, Dg B l → 0 ≤ lv B l
 | [], _ => by simp [lv]
 | x :: l, h => by
  have h1 := h.head
  have h2 := lv_nonneg hB h.tail
  have h3 := Int.mul_nonneg (Int.le_of_lt hB) h2
  rw [lv]; omega
theorem lv_lt {B : Int} (hB : 0 < B) : ∀ {l : List Int}, Dg B l → lv B l < B ^ l.length
 | [], _ => by simp [lv]
 | x :: l, h => by
  have h1 := h.head
  have h2 := lv_lt hB h.tail
  have h3 : B * (lv B l + 1) ≤ B * B ^ l.length := Int.mul_le_mul_of_nonneg_left (by omega) (Int.le_of_lt hB)
  rw [lv, List.length_cons, Int.pow_succ, Int.mul_comm (B ^ l.length) B]
  rw [Int.mul_add] at h3
  omega
theorem pow_pos' {B : Int} (hB : 0 < B) (n : Nat) : 0 < B ^ n := Int.pow_pos hB
def Tr (l : List Int) : Prop := l.getLast? ≠ some 0
theorem Tr.nil : Tr [] := by simp [Tr]
theorem lv_top {B : Int} (hB : 0 < B) {l : List Int} (h : Dg B l) (ht : Tr l) (hn : l ≠ []) : B ^ (l.length - 1) ≤ lv B l := by
 obtain ⟨m, x, rfl⟩ : ∃ m x, l = m ++ [x] := ⟨l.dropLast, l.getLast hn, (List.dropLast_concat_getLast hn).symm⟩
 have hx : x ≠ 0 := by
  intro e; subst e; simp [Tr] at ht
 have hx2 := h x (by simp)
 have hm : Dg B m := fun y hy => h y (by simp [hy])
 have h0 := lv_nonneg hB hm
 rw [lv_app, List.length_append, List.length_singleton, Nat.add_sub_cancel]
 simp only [lv, Int.mul_zero, Int.add_zero]
 have : B ^ m.length * 1 ≤ B ^ m.length * x := Int.mul_le_mul_of_nonneg_left (by omega) (Int.le_of_lt (pow_pos' hB _))
 omega
theorem lv_pos {B : Int} (hB : 0 < B) {l : List Int} (h : Dg B l) (ht : Tr l) (hn : l ≠ []) : 0 < lv B l := by
 have := lv_top hB h ht hn
 have := pow_pos' hB (l.length - 1)
 omega
theorem lv_eq_zero {B : Int} (hB : 0 < B) {l : List Int} (h : Dg B l) (ht : Tr l) : lv B l = 0 ↔ l = [] := by
 constructor
 ·intro e
  by_cases hn : l = []
  ·exact hn
  ·have := lv_pos hB h ht hn; omega
 ·rintro rfl; rfl
theorem pow_mono' {B : Int} (hB : 1 ≤ B) {a b : Nat} (h : a ≤ b) : B ^ a ≤ B ^ b := by
 obtain ⟨k, rfl⟩ := Nat.exists_eq_add_of_le h
 rw [Int.pow_add]
 have h1 : 0 < B ^ a := pow_pos' (by omega) a
 have h2 : 0 < B ^ k := pow_pos' (by omega) k
 have : B ^ a * 1 ≤ B ^ a * B ^ k := Int.mul_le_mul_of_nonneg_left (by omega) (by omega)
 omega
theorem lv_len_lt {B : Int} (hB : 1 < B) {l m : List Int} (h1 : Dg B l) (h2 : Dg B m) (ht : Tr m) (h : l.length < m.length) : lv B l < lv B m := by
 have a := lv_lt (by omega) h1
 have b := lv_top (by omega) h2 ht (by intro e; subst e; simp at h)
 have c := pow_mono' (B := B) (by omega) (show l.length ≤ m.length - 1 by omega)
 omega
def tr (l : List Int) : List Int := (l.reverse.dropWhile (· == 0)).reverse
theorem tr_snoc0 (l : List Int) : tr (l ++ [0]) = tr l := by unfold tr; rw [List.reverse_append]; simp
theorem tr_snoc (l : List Int) (x : Int) (h : x ≠ 0) : tr (l ++ [x]) = l ++ [x] := by
 unfold tr; rw [List.reverse_append]; simp [h]
theorem tr_nil : tr [] = [] := rfl
theorem tr_ind {p : List Int → Prop} (l : List Int) (h0 : p []) (hz : ∀ l, p l → p (l ++ [0])) (hx : ∀ l x, x ≠ 0 → p (l ++ [x])) : p l := by
 induction h : l.length generalizing l with
 | zero => rw [List.length_eq_zero_iff.1 h]; exact h0
 | succ n ih =>
  have hn : l ≠ [] := by intro e; subst e; simp at h
  rw [← List.dropLast_concat_getLast hn]
  by_cases e : l.getLast hn = 0
  ·rw [e]; exact hz _ (ih _ (by rw [List.length_dropLast]; omega))
  ·exact hx _ _ e
theorem tr_tr (l : List Int) : Tr (tr l) := by
 refine tr_ind (p := fun l => Tr (tr l)) l Tr.nil (fun l h => by rw [tr_snoc0]; exact h) fun l x h => ?_
 rw [tr_snoc _ _ h]; simp [Tr, h]
theorem lv_tr (B : Int) (l : List Int) : lv B (tr l) = lv B l := by
 refine tr_ind (p := fun l => lv B (tr l) = lv B l) l rfl (fun l h => by rw [tr_snoc0, h, lv_app]; simp [lv]) fun l x h => by rw [tr_snoc _ _ h]
theorem dg_tr {B : Int} {l : List Int} (h : Dg B l) : Dg B (tr l) := by
 intro y hy
 apply h
 unfold tr at hy
 have := List.mem_reverse.1 hy
 exact List.mem_reverse.1 ((List.dropWhile_sublist _).subset this)
theorem tr_of_Tr {l : List Int} (h : Tr l) : tr l = l := by
 revert h
 refine tr_ind (p := fun l => Tr l → tr l = l) l (fun _ => rfl) (fun l _ h => by simp [Tr] at h) fun l x hx _ => tr_snoc _ _ hx
theorem tr_len (l : List Int) : (tr l).length ≤ l.length := by
 unfold tr
 have := (List.dropWhile_sublist (fun x : Int => x == 0) (l := l.reverse)).length_le
 simpa using this
def addL (B : Int) : List Int → List Int → Int → Nat → List Int
 | _, _, _, 0 => []
 | xs, ys, c, n + 1 => (c + xs.headD 0 + ys.headD 0) % B :: addL B xs.tail ys.tail ((c + xs.headD 0 + ys.headD 0) / B) n
def subL (B : Int) : List Int → List Int → Int → Nat → List Int
 | _, _, _, 0 => []
 | xs, ys, c, n + 1 => (xs.headD 0 - c - ys.headD 0) % B :: subL B xs.tail ys.tail (-((xs.headD 0 - c - ys.headD 0) / B)) n
theorem addL_len (B : Int) : ∀ (n : Nat) (xs ys : List Int) (c : Int), (addL B xs ys c n).length = n
 | 0, _, _, _ => rfl
 | n + 1, xs, ys, c => by rw [addL, List.length_cons, addL_len B n]
theorem subL_len (B : Int) : ∀ (n : Nat) (xs ys : List Int) (c : Int), (subL B xs ys c n).length = n
 | 0, _, _, _ => rfl
 | n + 1, xs, ys, c => by rw [subL, List.length_cons, subL_len B n]
theorem lv_headD (B : Int) (l : List Int) : lv B l = l.headD 0 + B * lv B l.tail := by
 cases l with
 | nil => simp [lv]
 | cons x l => rfl
theorem mod_split {B : Int} (hB : 0 < B) (s q : Int) (n : Nat) : s % B + B * ((s / B + q) % B ^ n) = (s + B * q) % B ^ (n + 1) := by
 have hM : 0 < B ^ n := pow_pos' hB n
 have h1 : 0 ≤ s % B := Int.emod_nonneg s (by omega)
 have h2 : s % B < B := Int.emod_lt_of_pos s hB
 have h3 : 0 ≤ (s / B + q) % B ^ n := Int.emod_nonneg _ (by omega)
 have h4 : (s / B + q) % B ^ n < B ^ n := Int.emod_lt_of_pos _ hM
 have e : s + B * q = (s % B + B * ((s / B + q) % B ^ n)) + B ^ (n + 1) * ((s / B + q) / B ^ n) := by
  have a := Int.emod_add_mul_ediv s B
  have b := Int.emod_add_mul_ediv (s / B + q) (B ^ n)
  have c : B ^ (n + 1) * ((s / B + q) / B ^ n) = B * (B ^ n * ((s / B + q) / B ^ n)) := by rw [Int.pow_succ, Int.mul_comm (B ^ n) B, Int.mul_assoc]
  have d : B * (s / B + q) = B * ((s / B + q) % B ^ n) + B * (B ^ n * ((s / B + q) / B ^ n)) := by rw [← Int.mul_add, b]
  rw [Int.mul_add] at d
  rw [c]; omega
 rw [e, Int.add_mul_emod_self_left]
 symm
 apply Int.emod_eq_of_lt
 ·have := Int.mul_nonneg (Int.le_of_lt hB) h3
  omega
 ·have : B * ((s / B + q) % B ^ n + 1) ≤ B * B ^ n := Int.mul_le_mul_of_nonneg_left (by omega) (Int.le_of_lt hB)
  rw [Int.mul_add] at this
  rw [Int.pow_succ, Int.mul_comm (B ^ n) B]
  omega
theorem lv_addL {B : Int} (hB : 0 < B) : ∀ (n : Nat) (xs ys : List Int) (c : Int), lv B (addL B xs ys c n) = (c + lv B xs + lv B ys) % B ^ n
 | 0, xs, ys, c => by simp [addL, lv, Int.emod_one]
 | n + 1, xs, ys, c => by
  rw [addL, lv, lv_addL hB n, lv_headD B xs, lv_headD B ys]
  rw [show c + (xs.headD 0 + B * lv B xs.tail) + (ys.headD 0 + B * lv B ys.tail) = (c + xs.headD 0 + ys.headD 0) + B * (lv B xs.tail + lv B ys.tail) by rw [Int.mul_add]; omega]
  rw [← mod_split hB, ← Int.add_assoc ((c + xs.headD 0 + ys.headD 0) / B)]
theorem lv_subL {B : Int} (hB : 0 < B) : ∀ (n : Nat) (xs ys : List Int) (c : Int), lv B (subL B xs ys c n) = (lv B xs - c - lv B ys) % B ^ n
 | 0, xs, ys, c => by simp [subL, lv, Int.emod_one]
 | n + 1, xs, ys, c => by
  rw [subL, lv, lv_subL hB n, lv_headD B xs, lv_headD B ys]
  rw [show xs.headD 0 + B * lv B xs.tail - c - (ys.headD 0 + B * lv B ys.tail) = (xs.headD 0 - c - ys.headD 0) + B * (lv B xs.tail - lv B ys.tail) by rw [Int.mul_sub]; omega]
  rw [← mod_split hB]
  congr 3
  omega
theorem dg_addL {B : Int} (hB : 0 < B) : ∀ (n : Nat) (xs ys : List Int) (c : Int), Dg B (addL B xs ys c n)
 | 0, xs, ys, c => Dg.nil
 | n + 1, xs, ys, c => Dg.cons ⟨Int.emod_nonneg _ (by omega), Int.emod_lt_of_pos _ hB⟩ (dg_addL hB n _ _ _)
theorem dg_subL {B : Int} (hB : 0 < B) : ∀ (n : Nat) (xs ys : List Int) (c : Int), Dg B (subL B xs ys c n)
 | 0, xs, ys, c => Dg.nil
 | n + 1, xs, ys, c => Dg.cons ⟨Int.emod_nonneg _ (by omega), Int.emod_lt_of_pos _ hB⟩ (dg_subL hB n _ _ _)
theorem take_set {α : Type} (l : List α) (i : Nat) (z : α) (h : i < l.length) : (l.set i z).take (i + 1) = l.take i ++ [z] := by
 rw [List.take_add_one]
 simp [List.getElem?_set, h, List.take_set_of_le]
theorem headD_drop (l : List Int) (i : Nat) : (l.drop i).headD 0 = l.getD i 0 := by
 simp [List.headD_eq_head?_getD, List.head?_drop, List.getD_eq_getElem?_getD]
theorem tail_drop' (l : List Int) (i : Nat) : (l.drop i).tail = l.drop (i + 1) := by simp [List.tail_drop]
theorem getD_lt (l : List Int) (i : Nat) (h : i < l.length) : l.getD i 0 = l[i] := by simp [List.getD_eq_getElem?_getD, h]
theorem getD_ge (l : List Int) (i : Nat) (h : ¬ i < l.length) : l.getD i 0 = 0 := by simp [List.getD_eq_getElem?_getD, h]
end Go.N
namespace Go.Q
open Go Go.RowKit
open Go.Rx (br bd br_eq bd_eq bd_some)
noncomputable section
inductive Sh where
 | any
 | int (k : IntKind)
 | bool
 | str
 | sl (T : Ty)
 | ep (T : Ty) (o : Nat)
 | rp (b n o : Nat)
 | p0 (b k : Nat)
 | p1 (b k : Nat)
 | q1 (b k : Nat)
 | ptr (b o : Nat)
 | row (b : Nat)
 | mp (b : Nat)
 | csl (b n k : Nat)
 | yld (i : Nat)
 | nil
 | nilp
 | nilf
 | nilm
 | nili
 | agg (l : List Sh)
 | tup (l : List Sh)
 | fn (g : FuncId) (f c : List Sh)
@[reducible] def Sh.L (s : Sh) (R : Type) (rc : List Sh → Type → Type) : Type := match s with
 | .int _ => Int × R
 | .bool => Bool × R
 | .str => ByteArray × R
 | .sl T => List T.α × R
 | .ep T _ => T.α × R
 | .rp _ _ _ => Nat × R
 | .p0 _ _ => Nat × R
 | .p1 _ _ => Nat × Nat × R
 | .q1 _ _ => Nat × Nat × R
 | .agg l => rc l R
 | .tup l => rc l R
 | .fn _ f c => rc f (rc c R)
 | _ => R
@[reducible] def DF (f : Sh → Type → Type) : List Sh → Type → Type
 | [], R => R
 | s :: l, R => f s (DF f l R)
@[reducible] def recD : Nat → List Sh → Type → Type
 | 0, _, R => R
 | d + 1, l, R => DF (fun s R => s.L R (recD d)) l R
@[reducible] def Sh.D (d : Nat) (s : Sh) (R : Type) : Type := s.L R (recD d)
abbrev BL (rc : List Sh → Type → Type) := (l : List Sh) → (R : Type) → rc l R → (γ : Type) → (List SV → R → γ) → γ
def bldS (rc : List Sh → Type → Type) (b : BL rc) (s : Sh) (R : Type) (x : s.L R rc) (γ : Type) (k : SV → R → γ) : γ := match s, x with
 | .int i, x => x.rec fun a r => k (.v (.int i a)) r
 | .bool, x => x.rec fun a r => k (.v (.bool a)) r
 | .str, x => x.rec fun a r => k (.v (.string a)) r
 | .sl T, x => x.rec fun a r => k (.sl T a) r
 | .ep T o, x => x.rec fun a r => k (.ep T a o) r
 | .rp b n o, x => x.rec fun a r => k (.rp b a n o) r
 | .p0 b i, x => x.rec fun a r => k (.part b 0 a i) r
 | .p1 b i, x => x.rec fun a r => r.rec fun c r => k (.part b a c i) r
 | .q1 b i, x => x.rec fun a r => r.rec fun c r => k (.ptc b a c i) r
 | .agg l, x => b l R x γ fun vs r => k (.agg vs) r
 | .tup l, x => b l R x γ fun vs r => k (.tup vs) r
 | .fn g f c, x => b f _ x γ fun fs r => b c R r γ fun cs r => k (.fn g fs cs) r
 | .ptr b o, x => k (.ptr b o) x
 | .row b, x => k (.row b) x
 | .mp b, x => k (.mp b) x
 | .csl b n i, x => k (.csl b n i) x
 | .yld i, x => k (.yld i) x
 | .nil, x => k (.v (.slice none 0 0)) x
 | .nilp, x => k (.v (.pointer none)) x
 | .nilf, x => k (.v .nilFunc) x
 | .nilm, x => k (.v (.map none)) x
 | .nili, x => k (.v .nilIface) x
 | .any, x => k .any x
def BF {f : Sh → Type → Type} (b : (s : Sh) → (R : Type) → f s R → (γ : Type) → (SV → R → γ) → γ) : (l : List Sh) → (R : Type) → DF f l R → (γ : Type) → (List SV → R → γ) → γ
 | [], R, x, γ, k => k [] x
 | s :: l, R, x, γ, k => b s (DF f l R) x γ fun v r => BF b l R r γ fun vs r => k (v :: vs) r
def recB : (d : Nat) → BL (recD d)
 | 0 => fun _ R x γ k => k [] x
 | d + 1 => BF (f := fun s R => s.L R (recD d)) (bldS (recD d) (recB d))
def bld (d : Nat) (s : Sh) (R : Type) (x : s.D d R) (γ : Type) (k : SV → R → γ) : γ := bldS (recD d) (recB d) s R x γ k
abbrev ML (rc : List Sh → Type → Type) := (l : List Sh) → List SV → Option ((R : Type) → R → rc l R)
def matS (rc : List Sh → Type → Type) (m : ML rc) (s : Sh) (v : SV) : Option ((R : Type) → R → s.L R rc) := match s with
 | .int k => match v with
  | .v (.int k' x) => if k' = k then some fun _ r => (x, r) else none
  | _ => none
 | .bool => match v with
  | .v (.bool x) => some fun _ r => (x, r)
  | _ => none
 | .str => match v with
  | .v (.string x) => some fun _ r => (x, r)
  | _ => none
 | .sl T => match v with
  | .sl T' l => if h : T' = T then some fun _ r => (h ▸ l, r) else none
  | _ => none
 | .ep T o => match v with
  | .ep T' x o' => if h : T' = T then (if o' = o then some fun _ r => (h ▸ x, r) else none) else none
  | _ => none
 | .rp b n o => match v with
  | .rp b' i n' o' => if b' = b ∧ n' = n ∧ o' = o then some fun _ r => (i, r) else none
  | _ => none
 | .p0 b k => match v with
  | .part b' 0 n k' => if b' = b ∧ k' = k then some fun _ r => (n, r) else none
  | _ => none
 | .p1 b k => match v with
  | .part b' lo n k' => if b' = b ∧ k' = k then some fun _ r => (lo, n, r) else none
  | _ => none
 | .q1 b k => match v with
  | .ptc b' lo n k' => if b' = b ∧ k' = k then some fun _ r => (lo, n, r) else none
  | _ => none
 | .agg l => match v with
  | .agg cs => m l cs
  | _ => none
 | .tup l => match v with
  | .tup cs => m l cs
  | _ => none
 | .fn g f c => match v with
  | .fn g' fs cs => if g' = g then (match m f fs with
   | some a => match m c cs with
    | some b => some fun R r => a _ (b R r)
    | none => none
   | none => none) else none
  | _ => none
 | .ptr b o => match v with
  | .ptr b' o' => if b' = b ∧ o' = o then some fun _ r => r else none
  | _ => none
 | .row b => match v with
  | .row b' => if b' = b then some fun _ r => r else none
  | _ => none
 | .mp b => match v with
  | .mp b' => if b' = b then some fun _ r => r else none
  | _ => none
 | .csl b n k => match v with
  | .csl b' n' k' => if b' = b ∧ n' = n ∧ k' = k then some fun _ r => r else none
  | _ => none
 | .yld i => match v with
  | .yld i' => if i' = i then some fun _ r => r else none
  | _ => none
 | .nil => match v with
  | .v (.slice none 0 0) => some fun _ r => r
  | _ => none
 | .nilp => match v with
  | .v (.pointer none) => some fun _ r => r
  | _ => none
 | .nilf => match v with
  | .v .nilFunc => some fun _ r => r
  | _ => none
 | .nilm => match v with
  | .v (.map none) => some fun _ r => r
  | _ => none
 | .nili => match v with
  | .v .nilIface => some fun _ r => r
  | _ => none
 | .any => match v with
  | .any => some fun _ r => r
  | _ => none
def MF {f : Sh → Type → Type} (m : (s : Sh) → SV → Option ((R : Type) → R → f s R)) : (l : List Sh) → List SV → Option ((R : Type) → R → DF f l R)
 | [], ss => match ss with
  | [] => some fun _ r => r
  | _ :: _ => none
 | s :: l, ss => match ss with
  | [] => none
  | v :: vs => match m s v with
   | some a => match MF m l vs with
    | some g => some fun R r => a _ (g R r)
    | none => none
   | none => none
def recM : (d : Nat) → ML (recD d)
 | 0 => fun _ _ => none
 | d + 1 => MF (f := fun s R => s.L R (recD d)) (matS (recD d) (recM d))
def mat (d : Nat) (s : Sh) (v : SV) : Option ((R : Type) → R → s.D d R) := matS (recD d) (recM d) s v
def LOK {rc : List Sh → Type → Type} (m : ML rc) (b : BL rc) : Prop := ∀ l vs f, m l vs = some f → ∀ (R : Type) (r : R) (γ : Type) (k : List SV → R → γ), b l R (f R r) γ k = k vs r
theorem matS_bldS {rc : List Sh → Type → Type} {m : ML rc} {b : BL rc} (hh : LOK m b) (s : Sh) (v : SV) (f : (R : Type) → R → s.L R rc) (h : matS rc m s v = some f) (R : Type) (r : R) (γ : Type) (k : SV → R → γ) : bldS rc b s R (f R r) γ k = k v r := by
 cases s with
 | agg l =>
  simp only [matS] at h
  split at h
  ·rename_i cs
   simp only [bldS]; rw [hh l cs f h R r]
  ·cases h
 | tup l =>
  simp only [matS] at h
  split at h
  ·rename_i cs
   simp only [bldS]; rw [hh l cs f h R r]
  ·cases h
 | fn g fl cl =>
  simp only [matS] at h
  split at h
  ·rename_i g' fs cs
   split at h
   ·rename_i hg
    split at h
    ·rename_i a ha
     split at h
     ·rename_i b' hb
      cases h
      simp only [bldS]; rw [hh fl fs a ha _ (b' R r), hh cl cs b' hb R r, hg]
     ·cases h
    ·cases h
   ·cases h
  ·cases h
 | sl T =>
  simp only [matS] at h
  split at h
  ·split at h
   ·rename_i hT; subst hT; cases h; rfl
   ·cases h
  ·cases h
 | ep T o =>
  simp only [matS] at h
  split at h
  ·split at h
   ·rename_i hT; subst hT
    split at h
    ·rename_i ho; cases h; simp only [bldS]; rw [ho]
    ·cases h
   ·cases h
  ·cases h
 | nil =>
  simp only [matS] at h
  split at h
  ·cases h; rfl
  ·cases h
 | nilp =>
  simp only [matS] at h
  split at h
  ·cases h; rfl
  ·cases h
 | nilf =>
  simp only [matS] at h
  split at h
  ·cases h; rfl
  ·cases h
 | nilm =>
  simp only [matS] at h
  split at h
  ·cases h; rfl
  ·cases h
 | nili =>
  simp only [matS] at h
  split at h
  ·cases h; rfl
  ·cases h
 | any =>
  simp only [matS] at h
  split at h
  ·cases h; rfl
  ·cases h
 | bool =>
  simp only [matS] at h
  split at h
  ·cases h; rfl
  ·cases h
 | str =>
  simp only [matS] at h
  split at h
  ·cases h; rfl
  ·cases h
 | _ =>
  simp only [matS] at h
  split at h
  ·split at h
   ·rename_i hc; cases h; simp_all [bldS]
   ·cases h
  ·cases h
theorem MF_BF {f : Sh → Type → Type} {m : (s : Sh) → SV → Option ((R : Type) → R → f s R)} {b : (s : Sh) → (R : Type) → f s R → (γ : Type) → (SV → R → γ) → γ} (h : ∀ s v a, m s v = some a → ∀ (R : Type) (r : R) (γ : Type) (k : SV → R → γ), b s R (a R r) γ k = k v r) :
  ∀ (l : List Sh) (vs : List SV) (g : (R : Type) → R → DF f l R), MF m l vs = some g → ∀ (R : Type) (r : R) (γ : Type) (k : List SV → R → γ), BF b l R (g R r) γ k = k vs r
 | [], vs, f, hf, R, r, γ, k => by
  simp only [MF] at hf
  split at hf
  ·cases hf; rfl
  ·cases hf
 | s :: l, vs, f, hf, R, r, γ, k => by
  simp only [MF] at hf
  split at hf
  ·cases hf
  ·rename_i v vs'
   split at hf
   ·rename_i f1 h1
    split at hf
    ·rename_i g h2
     cases hf
     simp only [BF]
     rw [h s v f1 h1 _ (g R r), MF_BF h l vs' g h2 R r]
    ·cases hf
   ·cases hf
theorem recM_ok : ∀ d, LOK (recM d) (recB d)
 | 0 => fun l vs f h => by cases h
 | d + 1 => fun l vs f h R r γ k => MF_BF (f := fun s R => s.L R (recD d)) (fun s v a hs R r γ k => matS_bldS (recM_ok d) s v a hs R r γ k) l vs f h R r γ k
theorem mat_bld (d : Nat) (s : Sh) (v : SV) (f : (R : Type) → R → s.D d R) (h : mat d s v = some f) (R : Type) (r : R) (γ : Type) (k : SV → R → γ) : bld d s R (f R r) γ k = k v r := matS_bldS (recM_ok d) s v f h R r γ k
inductive ShT where
 | a (n : Nat)
 | s (x : Sh)
def anyN : Nat → List SV → List SV
 | 0, l => l
 | n + 1, l => .any :: anyN n l
def dropAny : Nat → List SV → Option (List SV)
 | 0, l => some l
 | n + 1, l => match l with
  | .any :: l => dropAny n l
  | _ => none
theorem dropAny_spec : ∀ (n : Nat) (l m : List SV), dropAny n l = some m → l = anyN n m
 | 0, l, m, h => by simp only [dropAny, Option.some.injEq] at h; exact h
 | n + 1, l, m, h => by
  simp only [dropAny] at h
  split at h
  ·rw [anyN, ← dropAny_spec n _ _ h]
  ·cases h
@[reducible] def DT : List ShT → Type → Type
 | [], R => R
 | .a _ :: l, R => DT l R
 | .s x :: l, R => Sh.D 5 x (DT l R)
def bldT : (l : List ShT) → (R : Type) → DT l R → (γ : Type) → (List SV → R → γ) → γ
 | [], R, x, γ, k => k [] x
 | .a n :: l, R, x, γ, k => bldT l R x γ fun vs r => k (anyN n vs) r
 | .s h :: l, R, x, γ, k => bld 5 h (DT l R) x γ fun v r => bldT l R r γ fun vs r => k (v :: vs) r
def matT : (l : List ShT) → List SV → Option ((R : Type) → R → DT l R)
 | [], ss => match ss with
  | [] => some fun _ r => r
  | _ :: _ => none
 | .a n :: l, ss => match dropAny n ss with
  | some ss => matT l ss
  | none => none
 | .s h :: l, ss => match ss with
  | [] => none
  | v :: vs => match mat 5 h v with
   | some f => match matT l vs with
    | some g => some fun R r => f _ (g R r)
    | none => none
   | none => none
theorem matT_bldT : ∀ (l : List ShT) (vs : List SV) (f : (R : Type) → R → DT l R), matT l vs = some f → ∀ (R : Type) (r : R) (γ : Type) (k : List SV → R → γ), bldT l R (f R r) γ k = k vs r
 | [], vs, f, hf, R, r, γ, k => by
  simp only [matT] at hf
  split at hf
  ·cases hf; rfl
  ·cases hf
 | .a n :: l, vs, f, hf, R, r, γ, k => by
  simp only [matT] at hf
  split at hf
  ·rename_i ss h
   simp only [bldT]
   rw [matT_bldT l ss f hf R r, dropAny_spec _ _ _ h]
  ·cases hf
 | .s h :: l, vs, f, hf, R, r, γ, k => by
  simp only [matT] at hf
  split at hf
  ·cases hf
  ·rename_i v vs'
   split at hf
   ·rename_i f1 h1
    split at hf
    ·rename_i g h2
     cases hf
     simp only [bldT]
     rw [mat_bld 5 h v f1 h1 (DT l R) (g R r), matT_bldT l vs' g h2 R r]
    ·cases hf
   ·cases hf
inductive ShK where
 | no
 | cells (l : List ShT) (t : TypeId)
 | row (T : Ty) (t : TypeId) (fz : Bool)
 | rnd (l : List ShT) (g : FuncId) (li : Nat) (st : LoopState) (pd : Option Code)
 | dead
 | gone
 | map (k : IntKind) (is : List Int) (l : List ShT)
 | iter (mb n : Nat)
@[reducible] def DK : ShK → Type → Type
 | .cells l _, R => DT l R
 | .row T _ _, R => List T.α × R
 | .rnd l _ _ _ _, R => DT l R
 | .map _ _ l, R => DT l R
 | .iter _ _, R => List Nat × R
 | _, R => R
def bldK (b : ShK) (R : Type) (x : DK b R) (γ : Type) (k : Option Blk → R → γ) : γ := match b, x with
 | .no, x => k none x
 | .cells l t, x => bldT l R x γ fun vs r => k (some (.cells vs t)) r
 | .row T t fz, x => x.rec fun l r => k (some (.row T l t fz)) r
 | .rnd l g li st pd, x => bldT l R x γ fun vs r => k (some (.rnd ⟨vs, g, li, st, pd⟩)) r
 | .dead, x => k (some .dead) x
 | .gone, x => k (some .gone) x
 | .map kd is l, x => bldT l R x γ fun vs r => k (some (.map kd (is.zip vs))) r
 | .iter mb n, x => x.rec fun l r => k (some (.iter mb n l none)) r
def keysI : List Int → List (Int × SV) → Option (List SV)
 | [], es => match es with
  | [] => some []
  | _ :: _ => none
 | i :: is, es => match es with
  | [] => none
  | e :: es => if e.1 = i then (keysI is es).map (e.2 :: ·) else none
theorem keysI_spec : ∀ (is : List Int) (es : List (Int × SV)) (l : List SV), keysI is es = some l → es = is.zip l
 | [], es, l, h => by
  simp only [keysI] at h
  split at h
  ·cases h; rfl
  ·cases h
 | i :: is, es, l, h => by
  simp only [keysI] at h
  split at h
  ·cases h
  ·rename_i e es'
   split at h
   ·rename_i he
    obtain ⟨l', h1, rfl⟩ := Option.map_eq_some_iff.1 h
    rw [List.zip_cons_cons, ← keysI_spec is es' l' h1, ← he]
   ·cases h
def matK : (b : ShK) → Option Blk → Option ((R : Type) → R → DK b R)
 | .no, o => match o with
  | none => some fun _ r => r
  | some _ => none
 | .cells l t, o => match o with
  | some (.cells cs t') => if t' = t then matT l cs else none
  | _ => none
 | .row T t fz, o => match o with
  | some (.row T' l t' fz') => if h : T' = T then (if t' = t ∧ fz' = fz then some fun _ r => (h ▸ l, r) else none) else none
  | _ => none
 | .rnd l g li st pd, o => match st, pd with
  | .ready, none => match o with
   | some (.rnd r) => match r with
    | ⟨ts, g', li', .ready, none⟩ => if g' = g ∧ li' = li then matT l ts else none
    | _ => none
   | _ => none
  | _, _ => none
 | .dead, o => match o with
  | some .dead => some fun _ r => r
  | _ => none
 | .gone, o => match o with
  | some .gone => some fun _ r => r
  | _ => none
 | .map k is l, o => match o with
  | some (.map k' es) => if k' = k then (match keysI is es with
   | some vs => matT l vs
   | none => none) else none
  | _ => none
 | .iter mb n, o => match o with
  | some (.iter mb' n' sn none) => if mb' = mb ∧ n' = n then some fun _ r => (sn, r) else none
  | _ => none
theorem matK_bldK : ∀ (b : ShK) (o : Option Blk) (f : (R : Type) → R → DK b R), matK b o = some f → ∀ (R : Type) (r : R) (γ : Type) (k : Option Blk → R → γ), bldK b R (f R r) γ k = k o r := by
 intro b o f h R r γ k
 cases b with
 | cells l t =>
  simp only [matK] at h
  split at h
  ·rename_i cs t'
   split at h
   ·rename_i ht
    simp only [bldK]; rw [matT_bldT l cs f h R r, ht]
   ·cases h
  ·cases h
 | row T t fz =>
  simp only [matK] at h
  split at h
  ·rename_i T' l t' fz'
   split at h
   ·rename_i hT
    subst hT
    split at h
    ·rename_i ht
     cases h
     simp only [bldK]; rw [ht.1, ht.2]
    ·cases h
   ·cases h
  ·cases h
 | rnd l g li st pd =>
  simp only [matK] at h
  split at h
  ·split at h
   ·rename_i q
    split at h
    ·rename_i ts g' li'
     split at h
     ·rename_i hg
      simp only [bldK]; rw [matT_bldT l ts f h R r, hg.1, hg.2]
     ·cases h
    ·cases h
   ·cases h
  ·cases h
 | map k is l =>
  simp only [matK] at h
  split at h
  ·rename_i k' es
   split at h
   ·rename_i hk
    split at h
    ·rename_i vs hv
     simp only [bldK]; rw [matT_bldT l vs f h R r, hk, keysI_spec _ _ _ hv]
    ·cases h
   ·cases h
  ·cases h
 | iter mb n =>
  simp only [matK] at h
  split at h
  ·rename_i mb' n' sn
   split at h
   ·rename_i hc
    cases h
    simp only [bldK]; rw [hc.1, hc.2]
   ·cases h
  ·cases h
 | _ => simp only [matK] at h <;> split at h <;> first | (cases h; rfl) | cases h
@[reducible] def DM : List ShK → Type → Type
 | [], R => R
 | b :: l, R => DK b (DM l R)
def bldM : (l : List ShK) → (R : Type) → DM l R → (γ : Type) → (Mem → R → γ) → γ
 | [], R, x, γ, k => k [] x
 | b :: l, R, x, γ, k => bldK b (DM l R) x γ fun v r => bldM l R r γ fun vs r => k (v :: vs) r
def matM : (l : List ShK) → Mem → Option ((R : Type) → R → DM l R)
 | [], ss => match ss with
  | [] => some fun _ r => r
  | _ :: _ => none
 | b :: l, ss => match ss with
  | [] => none
  | v :: vs => match matK b v with
   | some f => match matM l vs with
    | some g => some fun R r => f _ (g R r)
    | none => none
   | none => none
theorem matM_bldM : ∀ (l : List ShK) (vs : Mem) (f : (R : Type) → R → DM l R), matM l vs = some f → ∀ (R : Type) (r : R) (γ : Type) (k : Mem → R → γ), bldM l R (f R r) γ k = k vs r
 | [], vs, f, hf, R, r, γ, k => by
  simp only [matM] at hf
  split at hf
  ·cases hf; rfl
  ·cases hf
 | b :: l, vs, f, hf, R, r, γ, k => by
  simp only [matM] at hf
  split at hf
  ·cases hf
  ·rename_i v vs'
   split at hf
   ·rename_i f1 h1
    split at hf
    ·rename_i g h2
     cases hf
     simp only [bldM]
     rw [matK_bldK b v f1 h1 (DM l R) (g R r), matM_bldM l vs' g h2 R r]
    ·cases hf
   ·cases hf
structure ShS where
 t : List ShT
 m : List ShK
@[reducible] def ShS.D (s : ShS) : Type := DT s.t (DM s.m Unit)
def ShS.b (s : ShS) (x : s.D) : St := bldT s.t (DM s.m Unit) x St fun ts r => bldM s.m Unit r St fun mem _ => (ts, mem)
def ShS.m? (s : ShS) (st : St) : Option s.D := match matT s.t st.1 with
 | some f => match matM s.m st.2 with
  | some g => some (f _ (g Unit ()))
  | none => none
 | none => none
theorem ShS.m?_spec {s : ShS} {st : St} {x : s.D} (h : s.m? st = some x) : st = s.b x := by
 unfold ShS.m? at h
 split at h
 ·rename_i f hf
  split at h
  ·rename_i g hg
   cases h
   unfold ShS.b
   rw [matT_bldT _ _ f hf, matM_bldM _ _ g hg]
  ·cases h
 ·cases h
end
end Go.Q
namespace Go.Q
open Go Go.RowKit
open Go.Rx (br bd br_eq bd_eq bd_some)
abbrev Ok (g : FuncId) (E : Entry) : Prop := EntryOK Proofs.Tryz.prog TabG g E
def kxF : Nat → Nat → List Nat → List Nat
 | 0, _, _ => []
 | f + 1, i, ks => match ks with
  | [] => i :: kxF f (i + 1) []
  | k :: ks => bif Nat.beq i k then kxF f (i + 1) ks else i :: kxF f (i + 1) (k :: ks)
def kx (n : Nat) (l : List Nat) : List Nat := kxF n 0 l
def annOf : List (Nat × Nr × Nr) → Nat → Nr × Nr
 | [], _ => (⟨[], [], []⟩, ⟨[], [], []⟩)
 | p :: l, li => bif li == p.1 then p.2 else annOf l li
def annsL : List (FuncId × FA) → FuncId → FA
 | [], _ => FA.none
 | p :: l, g => bif g == p.1 then p.2 else annsL l g
theorem aoN : AnnsOK Proofs.Tryz.prog (annsL []) := fun g s h => by cases h
theorem aoS {g : FuncId} {a : FA} {l : List (FuncId × FA)} (h : ∀ s, a.spc = some s → SpkOK Proofs.Tryz.prog s g) (hl : AnnsOK Proofs.Tryz.prog (annsL l)) : AnnsOK Proofs.Tryz.prog (annsL ((g, a) :: l)) := by
 intro g' s hs
 simp only [annsL] at hs
 by_cases e : g' = g
 ·subst e
  simp only [BEq.rfl, cond_true] at hs
  exact h s hs
 ·rw [show (g' == g) = false from by simpa using e, cond_false] at hs
  exact hl g' s hs
theorem aoC {g : FuncId} {n : List (Nat × Nr × Nr)} {i : List Nat} {l : List (FuncId × FA)} (hl : AnnsOK Proofs.Tryz.prog (annsL l)) : AnnsOK Proofs.Tryz.prog (annsL ((g, ⟨annOf n, none, i⟩) :: l)) :=
 aoS (fun s h => by cases h) hl
theorem aoP {g : FuncId} {n : List (Nat × Nr × Nr)} {i : List Nat} {s : Spk} {l : List (FuncId × FA)} (h : SpkOK Proofs.Tryz.prog s g) (hl : AnnsOK Proofs.Tryz.prog (annsL l)) : AnnsOK Proofs.Tryz.prog (annsL ((g, ⟨annOf n, some s, i⟩) :: l)) :=
 aoS (fun s' h' => by cases h'; exact h) hl
section
variable (an : FuncId → FA) (ls : List (Nat × FuncId × Sums)) (tb : List (FuncId × Entry)) (lf : Nat)
noncomputable def drG (ρ : Type) : Draws ρ := drawA Proofs.Tryz.prog (lookT tb) 0 fun n => clQ Proofs.Tryz.prog an (lookT tb) (lf + 40) 14 6 n ρ
noncomputable def itG {ρ : Type} (n0 g li j : Nat) (sg : Sums) (n : Nat) (st : St) (k : KE ρ) : Option ρ :=
 iterK (nrmS 0 ((an g).ann li).1 j) (nrmS 0 ((an g).ann li).2 j) (codeK Proofs.Tryz.prog g (an g).ann sg (drG an tb lf ρ) (goK true Proofs.Tryz.prog an (lsOf ls) (drG an tb lf ρ) (lookT tb) 0 (lf + 40) n0) 0 (lf + 40) none (li + 1) (loopP Proofs.Tryz.prog g li)) n st k
def sumE (sh : ShS) (f : sh.D → LTE) : St → Option LTE := fun st => (sh.m? st).map f
def sumsL : List (Nat × (St → Option LTE)) → Nat → St → Option LTE
 | [], _, _ => none
 | p :: l, li, st => bif li == p.1 then (match p.2 st with
  | some T => some T
  | none => sumsL l li st) else sumsL l li st
def LA (n0 g : Nat) (sg : Sums) (l : List (Nat × (St → Option LTE))) : Prop :=
 ∀ p ∈ l, ∀ (ρ : Type) (st : St) (T : LTE), p.2 st = some T → ∀ (k : KE ρ) (r : ρ), bd T.x (fun y => altK k (T.out y)) = some r → itG an ls tb lf n0 g p.1 (st.2.length - ((an g).ann p.1).1.acc.length) sg (lf + 40) st k = some r
def SL (q : List (Nat × FuncId × Sums)) : Prop := ∀ p ∈ q, ∃ l, p.2.2 = sumsL l ∧ LA an ls tb lf p.1 p.2.1 p.2.2 l
variable {an ls tb lf}
theorem laN {n0 g : Nat} {sg : Sums} : LA an ls tb lf n0 g sg [] := fun p hp => by cases hp
theorem laC {n0 g li j : Nat} {sg : Sums} {sh : ShS} {f : sh.D → LTE} {l : List (Nat × (St → Option LTE))} (hj : ∀ x : sh.D, (sh.b x).2.length - ((an g).ann li).1.acc.length = j)
  (h : ∀ (ρ : Type) (x : sh.D) (k : KE ρ), LeO (bd (f x).x fun y => altK k ((f x).out y)) (itG an ls tb lf n0 g li j sg (lf + 40) (sh.b x) k)) (hl : LA an ls tb lf n0 g sg l) : LA an ls tb lf n0 g sg ((li, sumE sh f) :: l) := by
 intro p hp ρ st T hT k r he
 rcases List.mem_cons.1 hp with rfl | hp
 ·simp only [sumE] at hT
  obtain ⟨x, hx, rfl⟩ := Option.map_eq_some_iff.1 hT
  have e := ShS.m?_spec hx
  subst e
  rw [hj]
  exact h ρ x k r he
 ·exact hl p hp ρ st T hT k r he
theorem slN : SL an ls tb lf [] := fun p hp => by cases hp
theorem slC {n0 g : Nat} {l : List (Nat × (St → Option LTE))} {q : List (Nat × FuncId × Sums)} (h : LA an ls tb lf n0 g (sumsL l) l) (hq : SL an ls tb lf q) : SL an ls tb lf ((n0, g, sumsL l) :: q) := by
 intro p hp
 rcases List.mem_cons.1 hp with rfl | hp
 ·exact ⟨l, rfl, h⟩
 ·exact hq p hp
theorem sumsL_some : ∀ {l : List (Nat × (St → Option LTE))} {li : Nat} {st : St} {T : LTE}, sumsL l li st = some T → ∃ p ∈ l, p.1 = li ∧ p.2 st = some T
 | p :: l, li, st, T, h => by
  simp only [sumsL] at h
  cases hb : li == p.1 with
  | true =>
   rw [hb, cond_true] at h
   split at h
   ·rename_i T' hT
    cases h
    exact ⟨p, List.mem_cons_self .., (by simpa using hb : li = p.1).symm, hT⟩
   ·obtain ⟨q, h1, h2⟩ := sumsL_some h
    exact ⟨q, List.mem_cons_of_mem _ h1, h2⟩
  | false =>
   rw [hb, cond_false] at h
   obtain ⟨q, h1, h2⟩ := sumsL_some h
   exact ⟨q, List.mem_cons_of_mem _ h1, h2⟩
theorem sumsG (h : SL an ls tb lf ls) (ρ : Type) : SumsOK true ρ Proofs.Tryz.prog an (lsOf ls) (drG an tb lf ρ) (lookT tb) 0 (lf + 40) := by
 refine sumsOK_of rfl fun p hp i st T hT k r he => ?_
 obtain ⟨l, e, hl⟩ := h p hp
 rw [e] at hT
 obtain ⟨q, h1, rfl, h3⟩ := sumsL_some hT
 exact hl q h1 ρ st T h3 k r he
theorem okL (hl : TabOK Proofs.Tryz.prog TabG (lookT tb)) (hsp : AnnsOK Proofs.Tryz.prog an) (hs : SL an ls tb lf ls) {g : FuncId} {E : Entry}
  (h : ∀ x, E.f x = runQ Proofs.Tryz.prog an (lsOf ls) (lookT tb) (lf + 40) 14 6 g E.ps E.rs x) : Ok g E := entryL hl hsp (sumsG hs _) h
theorem okT (hl : TabOK Proofs.Tryz.prog TabG (lookT tb)) (hsp : AnnsOK Proofs.Tryz.prog an) {g : FuncId} {E : Entry}
  (h : ∀ x, E.f x = runQ Proofs.Tryz.prog an noLs (lookT tb) (lf + 40) 14 6 g E.ps E.rs x) : Ok g E := entryT hl hsp h
theorem tN : TabOK Proofs.Tryz.prog TabG (lookT []) := lookT_nil
theorem tC {g : FuncId} {E : Entry} {l : List (FuncId × Entry)} (h : Ok g E) (hl : TabOK Proofs.Tryz.prog TabG (lookT l)) : TabOK Proofs.Tryz.prog TabG (lookT ((g, E) :: l)) := lookT_cons h hl
theorem leq_of {ρ : Type} {a b : Option ρ} (h : b = a) : LeO a b := fun r hr => h.trans hr
end
end Go.Q
/-
 DERIVED: THE SHELF's CONTRACTS AT THIS DUMP, IN PLAIN WORDS (tools/lay-plain.mjs out of 'TryzShelf.lean', which tools/lay-shelf.mjs wrote): THE SAME DECLARATIONS UNDER THE SAME NAMES: 'import', 'namespace', 'open', 'def', 'theorem' AND NOTHING ELSE: no command of the shelf's: FOR A HAND-IN. Each laying: the table of numbers ('.._ren') and one theorem, a field a fact of the dump's own or the kernel's comparison; each contract: ONE APPLICATION.
-/
namespace Go.Proofs
open Go.Shelf
def Tryz.lays172_ren : Go.Shelf.Ren := ⟨fun | 172 => 343 | 244 => 347 | 245 => 348 | 247 => 350 | 279 => 351 | 280 => 352 | 281 => 353 | 282 => 354 | 287 => 355 | 316 => 356 | 171 => 93 | 205 => 357 | 321 => 358 | 322 => 359 | 243 => 146 | 246 => 209 | 283 => 267 | 284 => 268 | 285 => 269 | 286 => 270 | 129 => 306 | 317 => 305 | 318 => 307 | 319 => 308 | 320 => 309 | 337 => 325 | 338 => 326 | n => n, fun | 9 => 9 | 3 => 3 | 75 => 178 | 76 => 179 | 4 => 4 | 5 => 5 | 167 => 331 | 37 => 173 | 0 => 0 | 85 => 332 | 2 => 2 | 168 => 334 | 53 => 252 | 175 => 337 | 46 => 290 | 210 => 341 | 127 => 221 | 145 => 347 | 143 => 345 | 21 => 21 | 171 => 251 | 173 => 255 | 212 => 286 | 51 => 287 | 20 => 20 | 213 => 288 | 232 => 323 | 233 => 324 | 80 => 181 | n => n, fun | 15 => 6 | 16 => 7 | 17 => 0 | 18 => 4 | 19 => 5 | n => n⟩
theorem Tryz.lays172 : Go.Proofs.Lays.n172 Tryz.prog Tryz.lays172_ren := {
 mixed := by kernel_rfl
 f129 := Tryz.func306.trans (congrArg some (by kernel_rfl))
 f171 := Tryz.func93.trans (congrArg some (by kernel_rfl))
 f172 := Tryz.func343.trans (congrArg some (by kernel_rfl))
 f205 := Tryz.func357.trans (congrArg some (by kernel_rfl))
 f243 := Tryz.func146.trans (congrArg some (by kernel_rfl))
 f244 := Tryz.func347.trans (congrArg some (by kernel_rfl))
 f245 := Tryz.func348.trans (congrArg some (by kernel_rfl))
 f246 := Tryz.func209.trans (congrArg some (by kernel_rfl))
 f247 := Tryz.func350.trans (congrArg some (by kernel_rfl))
 f279 := Tryz.func351.trans (congrArg some (by kernel_rfl))
 f280 := Tryz.func352.trans (congrArg some (by kernel_rfl))
 f281 := Tryz.func353.trans (congrArg some (by kernel_rfl))
 f282 := Tryz.func354.trans (congrArg some (by kernel_rfl))
 f283 := Tryz.func267.trans (congrArg some (by kernel_rfl))
 f284 := Tryz.func268.trans (congrArg some (by kernel_rfl))
 f285 := Tryz.func269.trans (congrArg some (by kernel_rfl))
 f286 := Tryz.func270.trans (congrArg some (by kernel_rfl))
 f287 := Tryz.func355.trans (congrArg some (by kernel_rfl))
 f316 := Tryz.func356.trans (congrArg some (by kernel_rfl))
 f317 := Tryz.func305.trans (congrArg some (by kernel_rfl))
 f318 := Tryz.func307.trans (congrArg some (by kernel_rfl))
 f319 := Tryz.func308.trans (congrArg some (by kernel_rfl))
 f320 := Tryz.func309.trans (congrArg some (by kernel_rfl))
 f321 := Tryz.func358.trans (congrArg some (by kernel_rfl))
 f322 := Tryz.func359.trans (congrArg some (by kernel_rfl))
 f337 := Tryz.func325.trans (congrArg some (by kernel_rfl))
 f338 := Tryz.func326.trans (congrArg some (by kernel_rfl))
 t0 := Tryz.underlying0
 a0 := Tryz.isAgg0
 z0 := Tryz.sizeOf0
 v0 := Tryz.zeroValue0
 t2 := Tryz.underlying2
 a2 := Tryz.isAgg2
 z2 := Tryz.sizeOf2
 v2 := Tryz.zeroValue2
 t3 := Tryz.underlying3
 a3 := Tryz.isAgg3
 z3 := Tryz.sizeOf3
 v3 := Tryz.zeroValue3
 t4 := Tryz.underlying4
 a4 := Tryz.isAgg4
 z4 := Tryz.sizeOf4
 v4 := Tryz.zeroValue4
 t5 := Tryz.underlying5
 a5 := Tryz.isAgg5
 z5 := Tryz.sizeOf5
 v5 := Tryz.zeroValue5
 t9 := Tryz.underlying9
 a9 := Tryz.isAgg9
 z9 := Tryz.sizeOf9
 v9 := Tryz.zeroValue9
 t20 := Tryz.underlying20
 a20 := Tryz.isAgg20
 z20 := Tryz.sizeOf20
 v20 := Tryz.zeroValue20
 t21 := Tryz.underlying21
 a21 := Tryz.isAgg21
 z21 := Tryz.sizeOf21
 v21 := Tryz.zeroValue21
 t37 := Tryz.underlying173
 a37 := Tryz.isAgg173
 z37 := Tryz.sizeOf173
 v37 := Tryz.zeroValue173
 t46 := Tryz.underlying290
 a46 := Tryz.isAgg290
 z46 := Tryz.sizeOf290
 v46 := Tryz.zeroValue290
 t51 := Tryz.underlying287
 a51 := Tryz.isAgg287
 z51 := Tryz.sizeOf287
 v51 := Tryz.zeroValue287
 t53 := Tryz.underlying252
 a53 := Tryz.isAgg252
 z53 := Tryz.sizeOf252
 v53 := Tryz.zeroValue252
 t75 := Tryz.underlying178
 a75 := Tryz.isAgg178
 z75 := Tryz.sizeOf178
 v75 := Tryz.zeroValue178
 t76 := Tryz.underlying179
 a76 := Tryz.isAgg179
 z76 := Tryz.sizeOf179
 v76 := Tryz.zeroValue179
 t85 := Tryz.underlying332
 a85 := Tryz.isAgg332
 z85 := Tryz.sizeOf332
 v85 := Tryz.zeroValue332
 t127 := Tryz.underlying221
 a127 := Tryz.isAgg221
 z127 := Tryz.sizeOf221
 v127 := Tryz.zeroValue221
 t143 := Tryz.underlying345
 a143 := Tryz.isAgg345
 z143 := Tryz.sizeOf345
 v143 := Tryz.zeroValue345
 t145 := Tryz.underlying347
 a145 := Tryz.isAgg347
 z145 := Tryz.sizeOf347
 v145 := Tryz.zeroValue347
 t167 := Tryz.underlying331
 a167 := Tryz.isAgg331
 z167 := Tryz.sizeOf331
 v167 := Tryz.zeroValue331
 t168 := Tryz.underlying334
 a168 := Tryz.isAgg334
 z168 := Tryz.sizeOf334
 v168 := Tryz.zeroValue334
 t171 := Tryz.underlying251
 a171 := Tryz.isAgg251
 z171 := Tryz.sizeOf251
 v171 := Tryz.zeroValue251
 t173 := Tryz.underlying255
 a173 := Tryz.isAgg255
 z173 := Tryz.sizeOf255
 v173 := Tryz.zeroValue255
 t175 := Tryz.underlying337
 a175 := Tryz.isAgg337
 z175 := Tryz.sizeOf337
 v175 := Tryz.zeroValue337
 t210 := Tryz.underlying341
 a210 := Tryz.isAgg341
 z210 := Tryz.sizeOf341
 v210 := Tryz.zeroValue341
 t212 := Tryz.underlying286
 a212 := Tryz.isAgg286
 z212 := Tryz.sizeOf286
 v212 := Tryz.zeroValue286
 t213 := Tryz.underlying288
 a213 := Tryz.isAgg288
 z213 := Tryz.sizeOf288
 t232 := Tryz.underlying323
 a232 := Tryz.isAgg323
 z232 := Tryz.sizeOf323
 v232 := Tryz.zeroValue323
 t233 := Tryz.underlying324
 a233 := Tryz.isAgg324
 z233 := Tryz.sizeOf324
 v233 := Tryz.zeroValue324
 g15 := by kernel_rfl
 g16 := by kernel_rfl
 g17 := by kernel_rfl
 g18 := by kernel_rfl
 g19 := by kernel_rfl }
open Go.RowKit in
theorem Tryz.strconv_Atoi (s : ByteArray) (n : Int) (hl : s.size ≤ 18) (h : Lib.atoi s.data.toList = some n) (w : World) :
  Calls Tryz.prog 343 #[.string s] w fun e w' => e = .returned (.tuple #[.int .i64 n, .nilIface]) ∧ ∃ t, w' = Lib.bytesWorld w 5 t := Any.strconv_Atoi Tryz.lays172 s n hl h w
def Tryz.laysM171_ren : Go.Shelf.Ren := ⟨fun | 171 => 93 | 243 => 146 | 246 => 209 | 283 => 267 | 284 => 268 | 285 => 269 | 286 => 270 | 129 => 306 | 317 => 305 | 318 => 307 | 319 => 308 | 320 => 309 | 337 => 325 | 338 => 326 | n => n, fun | 3 => 3 | 9 => 9 | 2 => 2 | 4 => 4 | 171 => 251 | 0 => 0 | 53 => 252 | 37 => 173 | 5 => 5 | 173 => 255 | 212 => 286 | 51 => 287 | 20 => 20 | 213 => 288 | 46 => 290 | 232 => 323 | 233 => 324 | n => n, fun | 17 => 0 | 18 => 4 | 19 => 5 | n => n⟩
theorem Tryz.laysM171 : Go.Proofs.LaysM.n171 Tryz.prog Tryz.laysM171_ren := {
 mixed := by kernel_rfl
 f129 := Tryz.func306.trans (congrArg some (by kernel_rfl))
 f171 := Tryz.func93.trans (congrArg some (by kernel_rfl))
 f243 := Tryz.func146.trans (congrArg some (by kernel_rfl))
 f246 := Tryz.func209.trans (congrArg some (by kernel_rfl))
 f283 := Tryz.func267.trans (congrArg some (by kernel_rfl))
 f284 := Tryz.func268.trans (congrArg some (by kernel_rfl))
 f285 := Tryz.func269.trans (congrArg some (by kernel_rfl))
 f286 := Tryz.func270.trans (congrArg some (by kernel_rfl))
 f317 := Tryz.func305.trans (congrArg some (by kernel_rfl))
 f318 := Tryz.func307.trans (congrArg some (by kernel_rfl))
 f319 := Tryz.func308.trans (congrArg some (by kernel_rfl))
 f320 := Tryz.func309.trans (congrArg some (by kernel_rfl))
 f337 := Tryz.func325.trans (congrArg some (by kernel_rfl))
 f338 := Tryz.func326.trans (congrArg some (by kernel_rfl))
 t0 := Tryz.underlying0
 a0 := Tryz.isAgg0
 z0 := Tryz.sizeOf0
 v0 := Tryz.zeroValue0
 t2 := Tryz.underlying2
 a2 := Tryz.isAgg2
 z2 := Tryz.sizeOf2
 v2 := Tryz.zeroValue2
 t3 := Tryz.underlying3
 a3 := Tryz.isAgg3
 z3 := Tryz.sizeOf3
 v3 := Tryz.zeroValue3
 t4 := Tryz.underlying4
 a4 := Tryz.isAgg4
 z4 := Tryz.sizeOf4
 v4 := Tryz.zeroValue4
 t5 := Tryz.underlying5
 a5 := Tryz.isAgg5
 z5 := Tryz.sizeOf5
 v5 := Tryz.zeroValue5
 t9 := Tryz.underlying9
 a9 := Tryz.isAgg9
 z9 := Tryz.sizeOf9
 v9 := Tryz.zeroValue9
 t20 := Tryz.underlying20
 a20 := Tryz.isAgg20
 z20 := Tryz.sizeOf20
 v20 := Tryz.zeroValue20
 t37 := Tryz.underlying173
 a37 := Tryz.isAgg173
 z37 := Tryz.sizeOf173
 v37 := Tryz.zeroValue173
 t46 := Tryz.underlying290
 a46 := Tryz.isAgg290
 z46 := Tryz.sizeOf290
 v46 := Tryz.zeroValue290
 t51 := Tryz.underlying287
 a51 := Tryz.isAgg287
 z51 := Tryz.sizeOf287
 v51 := Tryz.zeroValue287
 t53 := Tryz.underlying252
 a53 := Tryz.isAgg252
 z53 := Tryz.sizeOf252
 v53 := Tryz.zeroValue252
 t171 := Tryz.underlying251
 a171 := Tryz.isAgg251
 z171 := Tryz.sizeOf251
 v171 := Tryz.zeroValue251
 t173 := Tryz.underlying255
 a173 := Tryz.isAgg255
 z173 := Tryz.sizeOf255
 v173 := Tryz.zeroValue255
 t212 := Tryz.underlying286
 a212 := Tryz.isAgg286
 z212 := Tryz.sizeOf286
 v212 := Tryz.zeroValue286
 t213 := Tryz.underlying288
 a213 := Tryz.isAgg288
 z213 := Tryz.sizeOf288
 t232 := Tryz.underlying323
 a232 := Tryz.isAgg323
 z232 := Tryz.sizeOf323
 v232 := Tryz.zeroValue323
 t233 := Tryz.underlying324
 a233 := Tryz.isAgg324
 z233 := Tryz.sizeOf324
 v233 := Tryz.zeroValue324
 g17 := by kernel_rfl
 g18 := by kernel_rfl
 g19 := by kernel_rfl
 i0 := by kernel_rfl
 i2 := by kernel_rfl
 i3 := by kernel_rfl
 i4 := by kernel_rfl
 i5 := by kernel_rfl
 i9 := by kernel_rfl
 i20 := by kernel_rfl
 i37 := by kernel_rfl
 i46 := by kernel_rfl
 i51 := by kernel_rfl
 i53 := by kernel_rfl
 i171 := by kernel_rfl
 i173 := by kernel_rfl
 i212 := by kernel_rfl
 i232 := by kernel_rfl
 i233 := by kernel_rfl
 m17 := by kernel_rfl
 m18 := by kernel_rfl
 m19 := by kernel_rfl }
open Go.RowKit Go.Sort Go.Lib in
theorem Tryz.strconv_Itoa (n : Int) (h0 : -9223372036854775808 ≤ n) (h1 : n ≤ 9223372036854775807) (w : World) (htab : Lib.TabIs Tryz.prog w "internal/strconv.uint64pow10" .u64 Lib.pow10Tab) :
  Calls Tryz.prog 93 #[.int .i64 n] w fun e w' => e = .returned (.string ⟨(Lib.itoa n).toArray⟩) ∧ ∃ k os, w' = grow (w.drewN k) os := Any.strconv_Itoa Tryz.laysM171 n h0 h1 w htab
def Tryz.lays105_ren : Go.Shelf.Ren := ⟨fun | 105 => 313 | 212 => 330 | 99 => 331 | 165 => 148 | 166 => 149 | 170 => 332 | 169 => 150 | 263 => 344 | 264 => 345 | 206 => 299 | 240 => 210 | 241 => 211 | 276 => 271 | 277 => 272 | n => n, fun | 9 => 9 | 3 => 3 | 4 => 4 | 20 => 20 | 0 => 0 | 46 => 290 | 109 => 313 | 5 => 5 | 72 => 175 | 76 => 179 | 51 => 287 | 146 => 326 | 53 => 252 | 148 => 328 | 70 => 172 | 37 => 173 | 75 => 178 | 127 => 221 | 164 => 257 | 80 => 181 | n => n, fun | n => n⟩
theorem Tryz.lays105 : Go.Proofs.Lays.n105 Tryz.prog Tryz.lays105_ren := {
 mixed := by kernel_rfl
 f99 := Tryz.func331.trans (congrArg some (by kernel_rfl))
 f105 := Tryz.func313.trans (congrArg some (by kernel_rfl))
 f165 := Tryz.func148.trans (congrArg some (by kernel_rfl))
 f166 := Tryz.func149.trans (congrArg some (by kernel_rfl))
 f169 := Tryz.func150.trans (congrArg some (by kernel_rfl))
 f170 := Tryz.func332.trans (congrArg some (by kernel_rfl))
 f206 := Tryz.func299.trans (congrArg some (by kernel_rfl))
 f212 := Tryz.func330.trans (congrArg some (by kernel_rfl))
 f240 := Tryz.func210.trans (congrArg some (by kernel_rfl))
 f241 := Tryz.func211.trans (congrArg some (by kernel_rfl))
 f263 := Tryz.func344.trans (congrArg some (by kernel_rfl))
 f264 := Tryz.func345.trans (congrArg some (by kernel_rfl))
 f276 := Tryz.func271.trans (congrArg some (by kernel_rfl))
 f277 := Tryz.func272.trans (congrArg some (by kernel_rfl))
 t0 := Tryz.underlying0
 a0 := Tryz.isAgg0
 z0 := Tryz.sizeOf0
 v0 := Tryz.zeroValue0
 t3 := Tryz.underlying3
 a3 := Tryz.isAgg3
 z3 := Tryz.sizeOf3
 v3 := Tryz.zeroValue3
 t4 := Tryz.underlying4
 a4 := Tryz.isAgg4
 z4 := Tryz.sizeOf4
 v4 := Tryz.zeroValue4
 t5 := Tryz.underlying5
 a5 := Tryz.isAgg5
 z5 := Tryz.sizeOf5
 v5 := Tryz.zeroValue5
 t9 := Tryz.underlying9
 a9 := Tryz.isAgg9
 z9 := Tryz.sizeOf9
 v9 := Tryz.zeroValue9
 t20 := Tryz.underlying20
 a20 := Tryz.isAgg20
 z20 := Tryz.sizeOf20
 v20 := Tryz.zeroValue20
 t37 := Tryz.underlying173
 a37 := Tryz.isAgg173
 z37 := Tryz.sizeOf173
 v37 := Tryz.zeroValue173
 t46 := Tryz.underlying290
 a46 := Tryz.isAgg290
 z46 := Tryz.sizeOf290
 v46 := Tryz.zeroValue290
 t51 := Tryz.underlying287
 a51 := Tryz.isAgg287
 z51 := Tryz.sizeOf287
 v51 := Tryz.zeroValue287
 t53 := Tryz.underlying252
 a53 := Tryz.isAgg252
 z53 := Tryz.sizeOf252
 v53 := Tryz.zeroValue252
 t70 := Tryz.underlying172
 a70 := Tryz.isAgg172
 z70 := Tryz.sizeOf172
 v70 := Tryz.zeroValue172
 t72 := Tryz.underlying175
 a72 := Tryz.isAgg175
 z72 := Tryz.sizeOf175
 v72 := Tryz.zeroValue175
 t75 := Tryz.underlying178
 a75 := Tryz.isAgg178
 z75 := Tryz.sizeOf178
 v75 := Tryz.zeroValue178
 t76 := Tryz.underlying179
 a76 := Tryz.isAgg179
 z76 := Tryz.sizeOf179
 v76 := Tryz.zeroValue179
 t109 := Tryz.underlying313
 a109 := Tryz.isAgg313
 z109 := Tryz.sizeOf313
 v109 := Tryz.zeroValue313
 t127 := Tryz.underlying221
 a127 := Tryz.isAgg221
 z127 := Tryz.sizeOf221
 v127 := Tryz.zeroValue221
 t146 := Tryz.underlying326
 a146 := Tryz.isAgg326
 z146 := Tryz.sizeOf326
 v146 := Tryz.zeroValue326
 t148 := Tryz.underlying328
 a148 := Tryz.isAgg328
 z148 := Tryz.sizeOf328
 v148 := Tryz.zeroValue328
 t164 := Tryz.underlying257
 a164 := Tryz.isAgg257
 z164 := Tryz.sizeOf257
 v164 := Tryz.zeroValue257 }
theorem Tryz.Builder_Extra_105 : Builder.Extra Tryz.prog Tryz.lays105_ren := {
 sizeBuilder := by kernel_rfl
 liesBuilder := by kernel_rfl
 t5 := Tryz.underlying5
 a5 := Tryz.isAgg5
 z5 := Tryz.sizeOf5
 v5 := Tryz.zeroValue5
 infoByte := by kernel_rfl
 cellsByte := by kernel_rfl
 sizeByte := by kernel_rfl
 neB5 := by decide }
open Go.RowKit Go.Lib in
theorem Tryz.strings_Repeat (s : ByteArray) (c : Nat) (w : World) (hc : c ≤ 9223372036854775807) (hlen : s.size * c ≤ 140737488355328) :
  Calls Tryz.prog 313 #[.string s, .int .i64 c] w fun e w' => e = .returned (.string ⟨(Lib.repeatL s.data.toList c).toArray⟩) ∧ Below w.heap.size w w' := Any.strings_Repeat Tryz.lays105 Tryz.Builder_Extra_105 s c w hc hlen
def Tryz.lays160_ren : Go.Shelf.Ren := ⟨fun | 160 => 203 | 232 => 257 | 231 => 256 | 227 => 258 | 234 => 260 | 233 => 259 | 236 => 262 | 235 => 261 | 228 => 300 | 271 => 303 | 151 => 302 | 197 => 301 | 120 => 324 | 152 => 323 | 260 => 322 | 137 => 337 | 119 => 338 | 224 => 339 | 225 => 340 | 217 => 346 | 266 => 349 | n => n, fun | 9 => 9 | 4 => 4 | 3 => 3 | 5 => 5 | 117 => 244 | 116 => 243 | 0 => 0 | 124 => 247 | 21 => 21 | 105 => 280 | 46 => 290 | 119 => 316 | 139 => 319 | 138 => 318 | n => n, fun | 3 => 2 | 4 => 3 | n => n⟩
theorem Tryz.lays160 : Go.Proofs.Lays.n160 Tryz.prog Tryz.lays160_ren := {
 mixed := by kernel_rfl
 f119 := Tryz.func338.trans (congrArg some (by kernel_rfl))
 f120 := Tryz.func324.trans (congrArg some (by kernel_rfl))
 f137 := Tryz.func337.trans (congrArg some (by kernel_rfl))
 f151 := Tryz.func302.trans (congrArg some (by kernel_rfl))
 f152 := Tryz.func323.trans (congrArg some (by kernel_rfl))
 f160 := Tryz.func203.trans (congrArg some (by kernel_rfl))
 f197 := Tryz.func301.trans (congrArg some (by kernel_rfl))
 f217 := Tryz.func346.trans (congrArg some (by kernel_rfl))
 f224 := Tryz.func339.trans (congrArg some (by kernel_rfl))
 f225 := Tryz.func340.trans (congrArg some (by kernel_rfl))
 f227 := Tryz.func258.trans (congrArg some (by kernel_rfl))
 f228 := Tryz.func300.trans (congrArg some (by kernel_rfl))
 f231 := Tryz.func256.trans (congrArg some (by kernel_rfl))
 f232 := Tryz.func257.trans (congrArg some (by kernel_rfl))
 f233 := Tryz.func259.trans (congrArg some (by kernel_rfl))
 f234 := Tryz.func260.trans (congrArg some (by kernel_rfl))
 f235 := Tryz.func261.trans (congrArg some (by kernel_rfl))
 f236 := Tryz.func262.trans (congrArg some (by kernel_rfl))
 f260 := Tryz.func322.trans (congrArg some (by kernel_rfl))
 f266 := Tryz.func349.trans (congrArg some (by kernel_rfl))
 f271 := Tryz.func303.trans (congrArg some (by kernel_rfl))
 t0 := Tryz.underlying0
 a0 := Tryz.isAgg0
 z0 := Tryz.sizeOf0
 v0 := Tryz.zeroValue0
 t3 := Tryz.underlying3
 a3 := Tryz.isAgg3
 z3 := Tryz.sizeOf3
 v3 := Tryz.zeroValue3
 t4 := Tryz.underlying4
 a4 := Tryz.isAgg4
 z4 := Tryz.sizeOf4
 v4 := Tryz.zeroValue4
 t5 := Tryz.underlying5
 a5 := Tryz.isAgg5
 z5 := Tryz.sizeOf5
 v5 := Tryz.zeroValue5
 t9 := Tryz.underlying9
 a9 := Tryz.isAgg9
 z9 := Tryz.sizeOf9
 v9 := Tryz.zeroValue9
 t21 := Tryz.underlying21
 a21 := Tryz.isAgg21
 z21 := Tryz.sizeOf21
 v21 := Tryz.zeroValue21
 t46 := Tryz.underlying290
 a46 := Tryz.isAgg290
 z46 := Tryz.sizeOf290
 v46 := Tryz.zeroValue290
 t105 := Tryz.underlying280
 a105 := Tryz.isAgg280
 z105 := Tryz.sizeOf280
 v105 := Tryz.zeroValue280
 t116 := Tryz.underlying243
 a116 := Tryz.isAgg243
 z116 := Tryz.sizeOf243
 t117 := Tryz.underlying244
 a117 := Tryz.isAgg244
 z117 := Tryz.sizeOf244
 v117 := Tryz.zeroValue244
 t119 := Tryz.underlying316
 a119 := Tryz.isAgg316
 z119 := Tryz.sizeOf316
 t124 := Tryz.underlying247
 a124 := Tryz.isAgg247
 z124 := Tryz.sizeOf247
 v124 := Tryz.zeroValue247
 t138 := Tryz.underlying318
 a138 := Tryz.isAgg318
 z138 := Tryz.sizeOf318
 v138 := Tryz.zeroValue318
 t139 := Tryz.underlying319
 a139 := Tryz.isAgg319
 z139 := Tryz.sizeOf319
 v139 := Tryz.zeroValue319
 g3 := by kernel_rfl
 g4 := by kernel_rfl }
open Go.RowKit in
theorem Tryz.strings_Trim_laid (s cutset : ByteArray) (w : World) (hs : s.size ≤ 9223372036854775807) (hcs : cutset.size < 4294967281) (hascii : ∀ (j : Nat) b, cutset.data.toList[j]? = some b → b.toNat < 128) :
  Calls Tryz.prog 203 #[.string s, .string cutset] w fun e w' => e = .returned (.string ⟨(Lib.trimS s.data.toList cutset.data.toList).toArray⟩) ∧ Below w.heap.size w w' := Any.strings_Trim_laid Tryz.lays160 (by kernel_rfl) s cutset w hs hcs hascii
end Go.Proofs
namespace Go.Q
open Go Go.RowKit
open Go.Rx (br bd sIdx sCat sCut iQuo iRem)
noncomputable section
theorem res1 {F : Nat → Prop} {w : World} {t : Ty} {x : t.α} {v : Value} (h : ValR F w t x v) : ResR F w [t] (x, ()) v := ⟨[v], ⟨v, [], rfl, h, rfl⟩, rfl⟩
theorem res2 {F : Nat → Prop} {w : World} {t u : Ty} {x : t.α} {y : u.α} {v v' : Value} (h : ValR F w t x v) (k : ValR F w u y v') : ResR F w [t, u] (x, y, ()) (.tuple #[v, v']) := ⟨[v, v'], ⟨v, [v'], rfl, h, v', [], rfl, k, rfl⟩, rfl⟩
theorem valR_str {F : Nat → Prop} {w : World} (s : ByteArray) : ValR F w .str s (.string s) := by unfold ValR; rw [if_neg (by decide)]; rfl
theorem valR_int {F : Nat → Prop} {w : World} (k : IntKind) (n : Int) : ValR F w (.int k) n (.int k n) := by unfold ValR; rw [if_neg (by simp [isSt])]; rfl
theorem valR_nul {F : Nat → Prop} {w : World} : ValR F w .nul () .nilIface := by unfold ValR; rw [if_neg (by decide)]; rfl
theorem of_valR_str {F : Nat → Prop} {w : World} {s : ByteArray} {v : Value} (h : ValR F w .str s v) : v = .string s := by
 unfold ValR at h; rw [if_neg (by decide)] at h; simpa using (show [v] = _ from h)
theorem of_valR_int {F : Nat → Prop} {w : World} {k : IntKind} {n : Int} {v : Value} (h : ValR F w (.int k) n v) : v = .int k n := by
 unfold ValR at h; rw [if_neg (by simp [isSt])] at h; simpa using (show [v] = _ from h)
def B.Trim.f (lf : Nat) (a0 : ByteArray) (a1 : ByteArray) : Option (ByteArray × Unit) :=
 if a0.size ≤ 9223372036854775807 ∧ a1.size < 4294967281 ∧ a1.data.toList.all (fun b => decide (b.toNat < 128)) = true then some (⟨(Lib.trimS a0.data.toList a1.data.toList).toArray⟩, ()) else none
def B.Trim.E (lf : Nat) : Entry := ⟨[.str, .str], [.str], fun x => B.Trim.f lf x.1 x.2.1⟩
theorem B.Trim.ok (lf : Nat) : EntryOK Proofs.Tryz.prog TabG 203 (B.Trim.E lf) := by
 rintro ⟨s, c, ⟨⟩⟩ y hy F w vals hG hF ⟨v, r, rfl, h1, v2, r2, rfl, h2, h3⟩
 cases h3
 rw [of_valR_str h1, of_valR_str h2]
 simp only [B.Trim.E, B.Trim.f] at hy
 split at hy
 ·rename_i hc
  cases hy
  refine (Proofs.Tryz.strings_Trim_laid s c w hc.1 hc.2.1 (Proofs.ascii_of_all hc.2.2)).mono ?_
  rintro e w' ⟨rfl, hb⟩
  exact ⟨_, rfl, hb, res1 (valR_str _)⟩
 ·cases hy
def B.Atoi.f (lf : Nat) (a0 : ByteArray) : Option (Int × Unit × Unit) := if a0.size ≤ 18 then (Lib.atoi a0.data.toList).map fun n => (n, (), ()) else none
def B.Atoi.E (lf : Nat) : Entry := ⟨[.str], [.int .i64, .nul], fun x => B.Atoi.f lf x.1⟩
theorem B.Atoi.ok (lf : Nat) : EntryOK Proofs.Tryz.prog TabG 343 (B.Atoi.E lf) := by
 rintro ⟨s, ⟨⟩⟩ y hy F w vals hG hF ⟨v, r, rfl, h1, h3⟩
 cases h3
 rw [of_valR_str h1]
 simp only [B.Atoi.E, B.Atoi.f] at hy
 split at hy
 ·rename_i hc
  obtain ⟨n, hn, rfl⟩ := Option.map_eq_some_iff.1 hy
  refine (Proofs.Tryz.strconv_Atoi s n hc hn w).mono ?_
  rintro e w' ⟨rfl, t, rfl⟩
  refine ⟨_, rfl, ?_, res2 (valR_int _ _) valR_nul⟩
  unfold Lib.bytesWorld
  exact Lib.below_freeze ((Below.drew (Below.refl _ w)).alloc (Nat.le_refl _) _) (Nat.le_refl _) _
 ·cases hy
def B.Itoa.f (lf : Nat) (a0 : Int) : Option (ByteArray × Unit) := if -9223372036854775808 ≤ a0 ∧ a0 ≤ 9223372036854775807 then some (⟨(Lib.itoa a0).toArray⟩, ()) else none
def B.Itoa.E (lf : Nat) : Entry := ⟨[.int .i64], [.str], fun x => B.Itoa.f lf x.1⟩
theorem B.Itoa.ok (lf : Nat) : EntryOK Proofs.Tryz.prog TabG 93 (B.Itoa.E lf) := by
 rintro ⟨n, ⟨⟩⟩ y hy F w vals hG hF ⟨v, r, rfl, h1, h3⟩
 cases h3
 rw [of_valR_int h1]
 simp only [B.Itoa.E, B.Itoa.f] at hy
 split at hy
 ·rename_i hc
  cases hy
  refine (Proofs.Tryz.strconv_Itoa n hc.1 hc.2 w hG).mono ?_
  rintro e w' ⟨rfl, k, os, rfl⟩
  refine ⟨_, rfl, ?_, res1 (valR_str _)⟩
  refine ⟨rfl, rfl, rfl, ?_, fun i hi => ?_⟩
  ·simp [Go.Sort.grow, World.drewN]
  ·simp only [Go.Sort.grow, World.drewN]
   rw [Array.getElem?_append_left hi]
 ·cases hy
def B.Repeat.f (lf : Nat) (a0 : ByteArray) (a1 : Int) : Option (ByteArray × Unit) :=
 if 0 ≤ a1 ∧ a1 ≤ 9223372036854775807 ∧ a0.size * a1.toNat ≤ 140737488355328 then some (⟨(Lib.repeatL a0.data.toList a1.toNat).toArray⟩, ()) else none
def B.Repeat.E (lf : Nat) : Entry := ⟨[.str, .int .i64], [.str], fun x => B.Repeat.f lf x.1 x.2.1⟩
theorem B.Repeat.ok (lf : Nat) : EntryOK Proofs.Tryz.prog TabG 313 (B.Repeat.E lf) := by
 rintro ⟨s, c, ⟨⟩⟩ y hy F w vals hG hF ⟨v, r, rfl, h1, v2, r2, rfl, h2, h3⟩
 cases h3
 rw [of_valR_str h1, of_valR_int h2]
 simp only [B.Repeat.E, B.Repeat.f] at hy
 split at hy
 ·rename_i hc
  cases hy
  have e : (c.toNat : Int) = c := Int.toNat_of_nonneg hc.1
  have := Proofs.Tryz.strings_Repeat s c.toNat w (by omega) hc.2.2
  rw [e] at this
  refine this.mono ?_
  rintro e w' ⟨rfl, hb⟩
  exact ⟨_, rfl, hb, res1 (valR_str _)⟩
 ·cases hy
end
end Go.Q
namespace Go.Q
open Go Go.RowKit
def eqL {α : Type} (f : α → α → Bool) : List α → List α → Bool
 | [], [] => true
 | x :: l, y :: m => f x y && eqL f l m
 | _, _ => false
def eqT : (T : Ty) → T.α → T.α → Bool
 | .int _, x, y => decide ((show Int from x) = y)
 | .bool, x, y => (show Bool from x) == y
 | .str, x, y => (show ByteArray from x).data.toList == (show ByteArray from y).data.toList
 | .unit, _, _ => true
 | .nul, _, _ => true
 | .pair a b, x, y => eqT a x.1 y.1 && eqT b x.2 y.2
 | .sl e, x, y => eqL (eqT e) x y
def eqTs : (ps : List Ty) → Tys ps → Tys ps → Bool
 | [], _, _ => true
 | t :: ts, x, y => eqT t x.1 y.1 && eqTs ts x.2 y.2
def pick {β : Type} (ps : List Ty) : List (Tys ps × β) → Tys ps → Option β
 | [], _ => none
 | p :: l, x => bif eqTs ps p.1 x then some p.2 else pick ps l x
end Go.Q
namespace Go.N
open Go Go.Q Go.Rx
def isDig (b : UInt8) : Bool := decide (48 ≤ b.toNat ∧ b.toNat ≤ 57)
def dig (b : UInt8) : Nat := b.toNat - 48
def dch (d : Nat) : UInt8 := UInt8.ofNat (48 + d)
theorem dch_nat {d : Nat} (h : d < 10) : (dch d).toNat = 48 + d := by
 unfold dch
 rw [UInt8.toNat_ofNat']
 omega
theorem dch_isDig {d : Nat} (h : d < 10) : isDig (dch d) = true := by
 unfold isDig
 rw [dch_nat h]
 simp; omega
theorem dig_dch {d : Nat} (h : d < 10) : dig (dch d) = d := by unfold dig; rw [dch_nat h]; omega
theorem dch_dig {b : UInt8} (h : isDig b = true) : dch (dig b) = b := by
 unfold isDig at h
 simp only [decide_eq_true_eq] at h
 apply UInt8.toNat_inj.1
 unfold dch dig
 rw [UInt8.toNat_ofNat']
 omega
theorem dig_lt {b : UInt8} (h : isDig b = true) : dig b < 10 := by
 unfold isDig at h
 simp only [decide_eq_true_eq] at h
 unfold dig; omega
def dv (l : List UInt8) : Nat := l.foldl (fun a b => a * 10 + dig b) 0
theorem dv_nil : dv [] = 0 := rfl
theorem dv_snoc (l : List UInt8) (b : UInt8) : dv (l ++ [b]) = dv l * 10 + dig b := by simp [dv]
theorem snoc_ind {p : List UInt8 → Prop} (l : List UInt8) (h0 : p []) (hs : ∀ l b, p l → p (l ++ [b])) : p l := by
 induction h : l.length generalizing l with
 | zero => rw [List.length_eq_zero_iff.1 h]; exact h0
 | succ n ih =>
  have hn : l ≠ [] := by intro e; subst e; simp at h
  rw [← List.dropLast_concat_getLast hn]
  exact hs _ _ (ih _ (by rw [List.length_dropLast]; omega))
theorem dv_app (l : List UInt8) : ∀ m : List UInt8, dv (l ++ m) = dv l * 10 ^ m.length + dv m := by
 intro m
 refine snoc_ind (p := fun m => dv (l ++ m) = dv l * 10 ^ m.length + dv m) m (by simp [dv_nil]) fun m b ih => ?_
 rw [← List.append_assoc, dv_snoc, dv_snoc, ih, List.length_append, List.length_singleton, Nat.pow_succ, Nat.add_mul, Nat.mul_assoc]
 omega
theorem dv_lt : ∀ l : List UInt8, l.all isDig = true → dv l < 10 ^ l.length := by
 intro l
 refine snoc_ind (p := fun l => l.all isDig = true → dv l < 10 ^ l.length) l (by simp [dv_nil]) fun l b ih h => ?_
 rw [List.all_append, Bool.and_eq_true] at h
 have h1 := ih h.1
 have h2 := dig_lt (b := b) (by simpa using h.2)
 rw [dv_snoc, List.length_append, List.length_singleton, Nat.pow_succ]
 omega
theorem dec_small {n : Nat} (h : n < 10) : Lib.decDigits n = [dch n] := by rw [Lib.decDigits, dif_pos h]; rfl
theorem dec_big {n : Nat} (h : ¬ n < 10) : Lib.decDigits n = Lib.decDigits (n / 10) ++ [dch (n % 10)] := by rw [Lib.decDigits, dif_neg h]; rfl
theorem dec_ne (n : Nat) : Lib.decDigits n ≠ [] := by
 by_cases h : n < 10
 ·rw [dec_small h]; simp
 ·rw [dec_big h]; simp
theorem dec_all (n : Nat) : (Lib.decDigits n).all isDig = true := by
 induction n using Nat.strongRecOn with
 | _ n ih =>
  by_cases h : n < 10
  ·rw [dec_small h]; simp [dch_isDig h]
  ·rw [dec_big h, List.all_append, ih (n / 10) (by omega)]
   simp [dch_isDig (show n % 10 < 10 by omega)]
theorem dv_dec (n : Nat) : dv (Lib.decDigits n) = n := by
 induction n using Nat.strongRecOn with
 | _ n ih =>
  by_cases h : n < 10
  ·rw [dec_small h]; simp [dv, dig_dch h]
  ·rw [dec_big h, dv_snoc, ih (n / 10) (by omega), dig_dch (by omega)]; omega
theorem dec_head {n : Nat} (h : n ≠ 0) : ∃ b r, Lib.decDigits n = b :: r ∧ b ≠ 48 := by
 induction n using Nat.strongRecOn with
 | _ n ih =>
  by_cases h10 : n < 10
  ·refine ⟨dch n, [], dec_small h10, ?_⟩
   intro e
   have := congrArg UInt8.toNat e
   rw [dch_nat h10] at this
   have h48 : (48 : UInt8).toNat = 48 := rfl
   omega
  ·obtain ⟨b, r, e, hb⟩ := ih (n / 10) (by omega) (by omega)
   exact ⟨b, r ++ [dch (n % 10)], by rw [dec_big h10, e]; rfl, hb⟩
theorem dec_of {l : List UInt8} (h : l.all isDig = true) (hn : l ≠ []) (hh : l.head? ≠ some 48 ∨ l.length = 1) : l = Lib.decDigits (dv l) := by
 revert h hn hh
 refine snoc_ind (p := fun l => l.all isDig = true → l ≠ [] → (l.head? ≠ some 48 ∨ l.length = 1) → l = Lib.decDigits (dv l)) l (fun _ h => absurd rfl h) fun l b ih h _ hh => ?_
 rw [List.all_append, Bool.and_eq_true] at h
 have hb : isDig b = true := by simpa using h.2
 have hd := dig_lt hb
 by_cases hl : l = []
 ·subst hl
  rw [List.nil_append, show dv [b] = dig b by simp [dv], dec_small hd, dch_dig hb]
 ·have hh' : l.head? ≠ some 48 := by
   rcases hh with hh | hh
   ·cases l with
    | nil => exact absurd rfl hl
    | cons x r => exact hh
   ·rw [List.length_append, List.length_singleton] at hh
    exact absurd (List.length_eq_zero_iff.1 (by omega)) hl
  have e := ih h.1 hl (.inl hh')
  have hpos : dv l ≠ 0 := by
   intro e0
   rw [e0, dec_small (by omega)] at e
   rw [e] at hh'
   exact hh' rfl
  rw [dv_snoc, dec_big (by omega), show (dv l * 10 + dig b) / 10 = dv l by omega, show (dv l * 10 + dig b) % 10 = dig b by omega, ← e, dch_dig hb]
theorem dec_len_le : ∀ (k n : Nat), n < 10 ^ (k + 1) → (Lib.decDigits n).length ≤ k + 1
 | 0, n, h => by rw [dec_small (by simpa using h)]; simp
 | k + 1, n, h => by
  by_cases h10 : n < 10
  ·rw [dec_small h10]; simp
  ·rw [dec_big h10, List.length_append, List.length_singleton]
   have : n / 10 < 10 ^ (k + 1) := by rw [Nat.pow_succ] at h; omega
   have := dec_len_le k (n / 10) this
   omega
theorem dec_zero : Lib.decDigits 0 = [48] := dec_small (by omega)
theorem dec_no45 (n : Nat) : (Lib.decDigits n).head? ≠ some 45 := by
 have h := dec_all n
 cases e : Lib.decDigits n with
 | nil => simp
 | cons b r =>
  rw [e, List.all_cons, Bool.and_eq_true] at h
  intro h45
  simp only [List.head?_cons, Option.some.injEq] at h45
  subst h45
  have : isDig 45 = false := rfl
  rw [this] at h
  cases h.1
def body (l : List UInt8) : List UInt8 := if l.head? = some 45 then l.tail else l
def neg (l : List UInt8) : Bool := decide (l.head? = some 45)
def can (l : List UInt8) : Bool := decide (l = [48]) || (decide (body l ≠ []) && (decide ((body l).head? ≠ some 48) && (body l).all isDig))
def iv (l : List UInt8) : Int := if neg l = true then -(dv (body l) : Int) else (dv (body l) : Int)
theorem can_itoa (z : Int) : can (Lib.itoa z) = true := by
 unfold can Lib.itoa body
 by_cases h : z < 0
 ·rw [if_pos h]
  obtain ⟨b, r, e, hb⟩ := dec_head (show z.natAbs ≠ 0 by omega)
  have ha := dec_all z.natAbs
  rw [e] at ha ⊢
  simp only [List.head?_cons, if_true, List.tail_cons]
  simp [hb, ha]
 ·rw [if_neg h]
  by_cases h0 : z = 0
  ·subst h0
   rw [show (0 : Int).toNat = 0 from rfl, dec_zero]
   simp
  ·rw [if_neg (dec_no45 _)]
   obtain ⟨b, r, e, hb⟩ := dec_head (show z.toNat ≠ 0 by omega)
   have ha := dec_all z.toNat
   rw [e] at ha ⊢
   simp [hb, ha]
theorem iv_itoa (z : Int) : iv (Lib.itoa z) = z := by
 unfold iv neg body Lib.itoa
 by_cases h : z < 0
 ·rw [if_pos h]
  simp only [List.head?_cons, if_true, List.tail_cons, decide_true, dv_dec]
  omega
 ·rw [if_neg h, if_neg (dec_no45 _), decide_eq_false (dec_no45 _), if_neg (by simp), dv_dec]
  omega
theorem itoa_iv {l : List UInt8} (h : can l = true) : l = Lib.itoa (iv l) := by
 unfold can at h
 rw [Bool.or_eq_true] at h
 rcases h with h | h
 ·have e : l = [48] := by simpa using h
  subst e
  have : iv [48] = 0 := by decide
  rw [this]
  unfold Lib.itoa
  rw [if_neg (by omega)]
  exact dec_zero.symm
 ·simp only [Bool.and_eq_true, decide_eq_true_eq] at h
  obtain ⟨h1, h2, h3⟩ := h
  have e := dec_of h3 h1 (.inl h2)
  have hpos : dv (body l) ≠ 0 := by
   intro e0
   rw [e0, dec_zero] at e
   rw [e] at h2
   exact h2 rfl
  unfold iv Lib.itoa
  by_cases hn : l.head? = some 45
  ·have hneg : neg l = true := by unfold neg; exact decide_eq_true hn
   rw [if_pos hneg, if_pos (by omega), show (-(dv (body l) : Int)).natAbs = dv (body l) by omega, ← e]
   unfold body
   rw [if_pos hn]
   cases l with
   | nil => simp at hn
   | cons b r => simp at hn; subst hn; rfl
  ·have hneg : ¬ neg l = true := by unfold neg; rw [decide_eq_false hn]; simp
   rw [if_neg hneg, if_neg (by omega), show ((dv (body l) : Int)).toNat = dv (body l) by omega, ← e]
   unfold body
   rw [if_neg hn]
theorem iv_inj {l m : List UInt8} (h1 : can l = true) (h2 : can m = true) (h : iv l = iv m) : l = m := by rw [itoa_iv h1, itoa_iv h2, h]
theorem can_parts {l : List UInt8} (h : can l = true) : (body l).all isDig = true ∧ body l ≠ [] ∧ l ≠ [] := by
 unfold can at h
 rw [Bool.or_eq_true] at h
 rcases h with h | h
 ·have e : l = [48] := by simpa using h
  subst e
  exact ⟨by decide, by decide, by simp⟩
 ·simp only [Bool.and_eq_true, decide_eq_true_eq] at h
  refine ⟨h.2.2, h.1, ?_⟩
  rintro rfl
  exact h.1 rfl
def nlen (l : List UInt8) : Nat := (body l).length
theorem nlen_le (l : List UInt8) : nlen l ≤ l.length := by unfold nlen body; split <;> simp
theorem len_nlen (l : List UInt8) : l.length ≤ nlen l + 1 := by unfold nlen body; split <;> simp <;> omega
def chk (l : List UInt8) : Int := if can l = true then (if nlen l > 4096 then 10 else 0) else 3
def num (l : List UInt8) : Int := if chk l ≠ 0 then chk l else if nlen l > 100 then 10 else 0
theorem chk_zero {l : List UInt8} : chk l = 0 ↔ can l = true ∧ nlen l ≤ 4096 := by
 unfold chk
 split
 ·split
  ·simp; omega
  ·simp_all
 ·simp_all
theorem num_zero {l : List UInt8} : num l = 0 ↔ can l = true ∧ nlen l ≤ 100 := by
 unfold num
 split
 ·rename_i h
  constructor
  ·intro e; exact absurd e h
  ·intro e; exact absurd (chk_zero.2 ⟨e.1, by omega⟩) h
 ·rename_i h
  have := chk_zero.1 (Classical.not_not.1 h)
  split
  ·simp; intro; omega
  ·simp; exact ⟨this.1, by omega⟩
theorem atoi_digs {l : List UInt8} (h : l.all isDig = true) (hn : l ≠ []) : Lib.atoi l = some (dv l : Int) := by
 have key : ∀ (m : List UInt8) (acc : Nat), m.all isDig = true → Lib.decFrom acc m = some (m.foldl (fun a b => a * 10 + dig b) acc) := by
  intro m
  induction m with
  | nil => intro acc _; rfl
  | cons b r ih =>
   intro acc ha
   rw [List.all_cons, Bool.and_eq_true] at ha
   have hb := ha.1
   unfold isDig at hb
   simp only [decide_eq_true_eq] at hb
   rw [Lib.decFrom, Lib.digitVal, if_pos hb, List.foldl_cons]
   exact ih _ ha.2
 cases l with
 | nil => exact absurd rfl hn
 | cons b r =>
  have ha := h
  rw [List.all_cons, Bool.and_eq_true] at ha
  have hb := ha.1
  have n45 : (b == 45) = false := by
   rw [beq_eq_false_iff_ne]; rintro rfl
   have : isDig 45 = false := rfl
   rw [this] at hb; cases hb
  have n43 : (b == 43) = false := by
   rw [beq_eq_false_iff_ne]; rintro rfl
   have : isDig 43 = false := rfl
   rw [this] at hb; cases hb
  rw [Lib.atoi, n45, n43]
  simp only [Bool.false_eq_true, if_false]
  rw [Lib.decNat, if_neg (by simp), key _ 0 h]
  rfl
theorem dropWhile_nil {α : Type} {p : α → Bool} : ∀ {l : List α}, l.dropWhile p = [] ↔ ∀ x ∈ l, p x = true
 | [] => by simp
 | x :: l => by
  rw [List.dropWhile_cons]
  by_cases h : p x = true
  ·rw [if_pos h, dropWhile_nil (l := l)]; simp [h]
  ·rw [if_neg h]; simp [h]
theorem trimS_nil (l cs : List UInt8) : Lib.trimS l cs = [] ↔ l.all (cs.contains ·) = true := by
 unfold Lib.trimS Lib.trimLeftS Lib.trimRightS
 constructor
 ·intro h
  rw [dropWhile_nil] at h
  have h1 : (l.reverse.dropWhile (cs.contains ·)) = [] := by
   cases e : l.reverse.dropWhile (cs.contains ·) with
   | nil => rfl
   | cons b r =>
    have hb := h b (by rw [e]; simp)
    have := List.head?_dropWhile_not (cs.contains ·) l.reverse
    rw [e] at this
    simp at this hb
    exact absurd hb this
  rw [dropWhile_nil] at h1
  exact List.all_eq_true.2 fun b hb => h1 b (by simpa using hb)
 ·intro h
  have h1 : (l.reverse.dropWhile (cs.contains ·)) = [] := by
   rw [dropWhile_nil]
   intro b hb
   exact List.all_eq_true.1 h b (by simpa using hb)
  rw [h1]; rfl
theorem digs_fin : ∀ n : Fin 256, ([48, 49, 50, 51, 52, 53, 54, 55, 56, 57] : List UInt8).contains (UInt8.ofNat n.val) = isDig (UInt8.ofNat n.val) := by decide +kernel
theorem digs_contains (b : UInt8) : ([48, 49, 50, 51, 52, 53, 54, 55, 56, 57] : List UInt8).contains b = isDig b := by
 have := digs_fin ⟨b.toNat, b.toNat_lt⟩
 simpa using this
end Go.N
namespace Go.Q
open Go
abbrev yI : Ty := .pair .bool (.pair .str (.pair .str .unit))
abbrev yV : Ty := .pair yI (.pair yI .unit)
abbrev yB : Ty := .pair .bool (.pair (.sl (.int .i64)) .unit)
abbrev yX : Ty := .pair (.int .i64) (.pair .str .unit)
abbrev yS : Ty := .pair yX (.pair yX .unit)
abbrev TI : Type := Bool × (ByteArray × (ByteArray × Unit))
abbrev TV : Type := TI × (TI × Unit)
abbrev TB : Type := Bool × ((List Int) × Unit)
abbrev TX : Type := Int × (ByteArray × Unit)
abbrev TS : Type := TX × (TX × Unit)
end Go.Q
