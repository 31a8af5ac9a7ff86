import Derived.Test.YthfphcemoehllaaGreatDoorChecked
import Derived.ProofKit
import Derived.OpenShut
import Derived.LaidMore
import Derived.Lay
import Derived.Carry
import Derived.SevenTiedAt
import Derived.Stop.Joined
import Derived.Lib.LaidTab
import Derived.LaidSub
import Derived.Test.YthfphcemoehllaaGreatDoorCtG8
import Derived.Test.YthfphcemoehllaaGreatDoorCtN1
import Derived.Test.YthfphcemoehllaaGreatDoorE2
set_option linter.unusedVariables false
set_option linter.unusedSimpArgs false
set_option linter.unusedSectionVars false
namespace Go.Q
open Go Go.RowKit Go.ChangeShapes Go.WideShapes
set_option linter.unusedVariables false
set_option linter.unusedSimpArgs false
set_option maxRecDepth 100000
def flat : Ty → Bool
 | .sl _ => false
 | .pair a b => flat a && flat b
 | _ => true
def partsOf (P : Program) (t : TypeId) : List (TypeId × Nat) := match P.underlying t with
 | some (.struct fs) => fs.toList.map fun f => (f.type, f.offset)
 | some (.array n e) => (List.range n).map fun i => (e, i * P.cellsOf e)
 | _ => []
mutual
def fitT (P : Program) : Ty → TypeId → Bool
 | .int k, t => match P.underlying t with
  | some (.int k') => decide (k' = k)
  | _ => false
 | .bool, t => match P.underlying t with
  | some .bool => true
  | _ => false
 | .str, t => match P.underlying t with
  | some .string => true
  | _ => false
 | .unit, _ => false
 | .nul, _ => false
 | .pair a b, t => match partsOf P t with
  | p :: r => p.2 == 0 && (fitT P a p.1 && (P.cellsOf p.1 == a.n && (fitL P b r a.n && P.cellsOf t == a.n + b.n)))
  | [] => false
 | .sl e, t => match P.underlying t with
  | some (.slice e') => fitT P e e' && (flat e && P.cellsOf e' == e.n)
  | _ => false
def fitL (P : Program) : Ty → List (TypeId × Nat) → Nat → Bool
 | .unit, l, _ => match l with
  | [] => true
  | _ => false
 | .pair a b, l, k => match l with
  | p :: r => p.2 == k && (fitT P a p.1 && (P.cellsOf p.1 == a.n && fitL P b r (k + a.n)))
  | [] => false
 | _, _, _ => false
end
def Bnd : (T : Ty) → T.α → Prop
 | .int k, x => k.min ≤ x ∧ x ≤ k.max
 | .str, x => x.size ≤ 9223372036854775807
 | .pair a b, x => Bnd a x.1 ∧ Bnd b x.2
 | .sl e, l => l.length ≤ 9223372036854775807 ∧ ∀ y ∈ l, Bnd e y
 | _, _ => True
def Bnds : (ps : List Ty) → Tys ps → Prop
 | [], _ => True
 | t :: ts, x => Bnd t x.1 ∧ Bnds ts x.2
section
variable {H : Type} {enc : TypeId × Value → H} {P : Program} {w : World} {F : Nat → Prop} {sp : Nat → Bool} {held : Bool}
theorem trod_parts {t : TypeId} {fuel : Nat} {cs : List Value} {x : DataW H × List MemPlace} (hp : partsOf P t ≠ []) (h : DataW.trod enc P w 0 sp held fuel t cs = some x) :
  cs.length = P.cellsOf t ∧ ∃ n, ∀ p ∈ partsOf P t, ∃ y, DataW.trod enc P w 0 sp held n p.1 ((cs.drop p.2).take (P.cellsOf p.1)) = some y := by
 unfold partsOf at hp ⊢
 split at hp
 ·rename_i fs hu
  obtain ⟨xs, n, _, _, hl, hxl, hf⟩ := DataW.trod_struct hu h
  refine ⟨hl, n, fun p hm => ?_⟩
  simp only [List.mem_map] at hm
  obtain ⟨f, hfm, rfl⟩ := hm
  obtain ⟨i, hi, he⟩ := List.mem_iff_getElem.1 hfm
  have h1 : fs[i]? = some f := by
   have : fs.toList[i]? = some f := by rw [List.getElem?_eq_getElem hi, he]
   simpa using this
  have h2 : i < xs.length := by
   rw [hxl]; simpa using hi
  exact ⟨xs[i], by rw [hf i f h1, List.getElem?_eq_getElem h2]⟩
 ·rename_i n e hu
  obtain ⟨xs, m, _, _, hl, hxl, hf⟩ := DataW.trod_array hu h
  refine ⟨hl, m, fun p hm => ?_⟩
  simp only [List.mem_map, List.mem_range] at hm
  obtain ⟨i, hi, rfl⟩ := hm
  exact ⟨xs[i], by rw [hf i hi, List.getElem?_eq_getElem (by omega)]⟩
 ·exact absurd rfl hp
mutual
theorem dr_flat : ∀ (T : Ty) (t : TypeId) (cs : List Value) (x : DataW H × List MemPlace) (fuel : Nat), flat T = true → fitT P T t = true → DataW.trod enc P w 0 sp held fuel t cs = some x → ∃ y : T.α, DR F w T y cs ∧ Bnd T y
 | .int k, t, cs, x, fuel, _, hf, h => by
  unfold fitT at hf
  split at hf
  ·rename_i k' hu
   obtain rfl : k' = k := by simpa using hf
   obtain ⟨n, rfl, _, hw⟩ := DataW.trod_int hu h
   exact ⟨n, rfl, by simpa [Lit.wf, Bnd] using hw⟩
  ·cases hf
 | .bool, t, cs, x, fuel, _, hf, h => by
  unfold fitT at hf
  split at hf
  ·rename_i hu
   obtain ⟨b, rfl, _⟩ := DataW.trod_bool hu h
   exact ⟨b, rfl, trivial⟩
  ·cases hf
 | .str, t, cs, x, fuel, _, hf, h => by
  unfold fitT at hf
  split at hf
  ·rename_i hu
   obtain ⟨s, rfl, _, hs⟩ := DataW.trod_string hu h
   exact ⟨s, rfl, by simpa [maxLen, Bnd] using hs⟩
  ·cases hf
 | .unit, t, cs, x, fuel, _, hf, h => by simp [fitT] at hf
 | .nul, t, cs, x, fuel, _, hf, h => by simp [fitT] at hf
 | .sl e, t, cs, x, fuel, hfl, _, _ => by simp [flat] at hfl
 | .pair a b, t, cs, x, fuel, hfl, hf, h => by
  unfold fitT at hf
  split at hf
  ·rename_i p r hp
   simp only [Bool.and_eq_true, beq_iff_eq] at hf
   obtain ⟨h0, h1, h2, h3, h4⟩ := hf
   simp only [flat, Bool.and_eq_true] at hfl
   obtain ⟨hl, n, hm⟩ := trod_parts (by rw [hp]; simp) h
   rw [hp] at hm
   obtain ⟨y0, hy0⟩ := hm p (by simp)
   rw [h0, h2] at hy0
   obtain ⟨u, d1, b1⟩ := dr_flat a p.1 _ _ n hfl.1 h1 hy0
   obtain ⟨v, d2, b2⟩ := dr_flatL b r a.n cs n hfl.2 h3 (fun q hq => hm q (by simp [hq])) (by omega)
   refine ⟨(u, v), ⟨_, _, ?_, d1, d2⟩, b1, b2⟩
   have e : (cs.drop a.n).take b.n = cs.drop a.n := List.take_of_length_le (by rw [List.length_drop]; omega)
   rw [e]; simp
  ·cases hf
theorem dr_flatL : ∀ (T : Ty) (l : List (TypeId × Nat)) (k : Nat) (cs : List Value) (n : Nat), flat T = true → fitL P T l k = true → (∀ p ∈ l, ∃ y, DataW.trod enc P w 0 sp held n p.1 ((cs.drop p.2).take (P.cellsOf p.1)) = some y) → k + T.n ≤ cs.length → ∃ y : T.α, DR F w T y ((cs.drop k).take T.n) ∧ Bnd T y
 | .int k', l, k, cs, n, _, hf, _, _ => by simp [fitL] at hf
 | .bool, l, k, cs, n, _, hf, _, _ => by simp [fitL] at hf
 | .str, l, k, cs, n, _, hf, _, _ => by simp [fitL] at hf
 | .nul, l, k, cs, n, _, hf, _, _ => by simp [fitL] at hf
 | .sl _, l, k, cs, n, _, hf, _, _ => by simp [fitL] at hf
 | .unit, l, k, cs, n, _, hf, _, _ => ⟨(), by simp [DR, Ty.n], trivial⟩
 | .pair a b, l, k, cs, n, hfl, hf, hm, hk => by
  unfold fitL at hf
  split at hf
  ·rename_i p r
   simp only [Bool.and_eq_true, beq_iff_eq] at hf
   obtain ⟨h0, h1, h2, h3⟩ := hf
   simp only [flat, Bool.and_eq_true] at hfl
   simp only [Ty.n] at hk
   obtain ⟨y0, hy0⟩ := hm p (by simp)
   rw [h0, h2] at hy0
   obtain ⟨u, d1, b1⟩ := dr_flat a p.1 _ _ n hfl.1 h1 hy0
   obtain ⟨v, d2, b2⟩ := dr_flatL b r (k + a.n) cs n hfl.2 h3 (fun q hq => hm q (by simp [hq])) (by omega)
   refine ⟨(u, v), ⟨_, _, ?_, d1, d2⟩, b1, b2⟩
   simp only [Ty.n]
   rw [List.take_add, List.drop_drop]
  ·cases hf
end
theorem list_of {α : Type} {R : Nat → α → Prop} : ∀ (n : Nat), (∀ i, i < n → ∃ y, R i y) → ∃ l : List α, l.length = n ∧ ∀ (i : Nat) (y : α), l[i]? = some y → R i y
 | 0, _ => ⟨[], rfl, fun i y h => by simp at h⟩
 | n + 1, h => by
  obtain ⟨l, hl, hr⟩ := list_of n fun i hi => h i (by omega)
  obtain ⟨y, hy⟩ := h n (by omega)
  refine ⟨l ++ [y], by simp [hl], fun i z hz => ?_⟩
  by_cases hi : i < l.length
  ·rw [List.getElem?_append_left hi] at hz; exact hr i z hz
  ·rw [List.getElem?_append_right (by omega)] at hz
   have : i = l.length := by
    by_cases e : i - l.length = 0
    ·omega
    ·obtain ⟨q, hq⟩ := Nat.exists_eq_succ_of_ne_zero e
     rw [hq] at hz; simp at hz
   subst this
   simp only [Nat.sub_self, List.getElem?_cons_zero, Option.some.injEq] at hz
   subst hz; rw [hl]; exact hy
def topOK : Ty → Bool
 | .sl e => flat e
 | T => flat T
theorem add_none (b o n : Nat) : (Addr.add ⟨b, o, none⟩ n) = ⟨b, o + n, none⟩ := by
 unfold Addr.add; split
 ·rename_i h; rw [h]; rfl
 ·rfl
theorem isC_shape {i : Nat} {q : TypeId × Nat} (h : w.shape? i = some q) : IsC w i := by
 unfold World.shape? at h
 unfold IsC
 cases hb : w.heap[i]? with
 | none => rw [hb] at h; simp at h
 | some o => cases o <;> rw [hb] at h <;> simp_all
theorem valR_of_trod {T : Ty} {t : TypeId} {v : Value} {d : DataW H} {p : List MemPlace} {base : Nat} (ht : topOK T = true) (hf : fitT P T t = true) (hv : Value.okWide P w .any base t v) (h : DataW.Trod enc P w 0 sp held t v d p) : ∃ y : T.α, ValR (IsC w) w T y v ∧ Bnd T y := by
 obtain ⟨fuel, h⟩ := h
 unfold ValR
 cases T with
 | int k =>
  obtain ⟨y, h1, h2⟩ := dr_flat (F := IsC w) (.int k) t _ _ fuel rfl hf h
  unfold fitT at hf
  split at hf
  ·rename_i k' hu
   obtain ⟨n, rfl⟩ := okWide_int hu hv
   exact ⟨y, by rw [if_neg (by simp [isSt])]; simpa [Value.cells] using h1, h2⟩
  ·cases hf
 | bool =>
  obtain ⟨y, h1, h2⟩ := dr_flat (F := IsC w) .bool t _ _ fuel rfl hf h
  unfold fitT at hf
  split at hf
  ·rename_i hu
   obtain ⟨n, rfl⟩ := okWide_bool hu hv
   exact ⟨y, by rw [if_neg (by simp [isSt])]; simpa [Value.cells] using h1, h2⟩
  ·cases hf
 | str =>
  obtain ⟨y, h1, h2⟩ := dr_flat (F := IsC w) .str t _ _ fuel rfl hf h
  unfold fitT at hf
  split at hf
  ·rename_i hu
   obtain ⟨n, rfl⟩ := okWide_string hu hv
   exact ⟨y, by rw [if_neg (by simp [isSt])]; simpa [Value.cells] using h1, h2⟩
  ·cases hf
 | unit => simp [fitT] at hf
 | nul => simp [fitT] at hf
 | pair a b =>
  obtain ⟨y, h1, h2⟩ := dr_flat (F := IsC w) (.pair a b) t _ _ fuel ht hf h
  obtain ⟨cs, rfl⟩ : ∃ cs, v = .agg cs := by
   unfold fitT at hf
   split at hf
   ·rename_i q r hp
    unfold partsOf at hp
    unfold Value.okWide at hv
    split at hp
    ·rename_i fs hu
     rw [hu] at hv
     obtain ⟨cs, e, _⟩ := hv
     exact ⟨cs, e⟩
    ·rename_i n e hu
     rw [hu] at hv
     obtain ⟨cs, e, _⟩ := hv
     exact ⟨cs, e⟩
    ·cases hp
   ·cases hf
  exact ⟨y, by rw [if_pos (show isSt (.pair a b) = true from rfl)]; exact ⟨cs.toList, by simp, h1⟩, h2⟩
 | sl e =>
  unfold fitT at hf
  split at hf
  ·rename_i e' hu
   simp only [Bool.and_eq_true, beq_iff_eq] at hf
   obtain ⟨h1, h2, h3⟩ := hf
   obtain ⟨a, len, cap, rfl⟩ := okWide_slice hu hv
   rcases DataW.trod_slice hu h with ⟨hc, _⟩ | ⟨a', len', cap', elems, rest, n, _, hc, _, _, hle, hcm, hel, hread, _⟩
   ·simp only [Value.cells, List.cons.injEq, Value.slice.injEq, and_true] at hc
    obtain ⟨rfl, rfl, rfl⟩ := hc
    exact ⟨[], by rw [if_neg (by simp [isSt])]; exact ⟨_, rfl, .inl ⟨rfl, rfl⟩⟩, by simp [Bnd]⟩
   ·simp only [Value.cells, List.cons.injEq, Value.slice.injEq, and_true] at hc
    obtain ⟨rfl, rfl, rfl⟩ := hc
    have hhas : w.has P .any base a' e' cap := by
     unfold Value.okWide Cell.okWide Cell.ok at hv
     rw [hu] at hv
     exact hv.2.2
    obtain ⟨_, hspot, row, cells, hsh, _⟩ := hhas
    obtain ⟨b, o, s⟩ := a'
    simp only at hspot; subst hspot
    have hisc : IsC w b := isC_shape hsh
    obtain ⟨l, hl, hr⟩ := list_of (α := e.α) (R := fun i y => (∃ ds : List Value, DR (IsC w) w e y ds ∧ ∀ (j : Nat) (d : Value), ds[j]? = some d → w.cell? ⟨b, o + (i * e.n + j), none⟩ = some d) ∧ Bnd e y) len fun i hi => by
     have hq := hread i hi
     rw [List.getElem?_eq_getElem (by omega), Option.bind_eq_some_iff] at hq
     obtain ⟨cs, c1, c2⟩ := hq
     obtain ⟨y, k1, k2⟩ := dr_flat (F := IsC w) e e' cs _ n h2 h1 c2
     refine ⟨y, ⟨cs, k1, fun j d' hd => ?_⟩, k2⟩
     obtain ⟨_, m1, m2⟩ := World.cells?_some c1
     have hj : j < cs.length := (List.getElem?_eq_some_iff.1 hd).1
     have := m2 j (by omega)
     rw [add_none, add_none, h3] at this
     rw [← Nat.add_assoc, this]; exact hd
    refine ⟨l, ?_, ?_, ?_⟩
    ·rw [if_neg (by simp [isSt])]
     refine ⟨_, rfl, .inr ⟨b, o, cap, by rw [hl], hisc, by omega, fun i x hx => (hr i x hx).1⟩⟩
    ·rw [hl]; simp only [maxLen] at hcm; omega
    ·intro y hy
     obtain ⟨i, hi, he⟩ := List.mem_iff_getElem.1 hy
     exact (hr i y (by rw [List.getElem?_eq_getElem hi, he])).2
  ·cases hf
def fitAll (P : Program) : List Ty → List TypeId → Bool
 | [], [] => true
 | T :: Ts, t :: ts => (topOK T && fitT P T t) && fitAll P Ts ts
 | _, _ => false
theorem argsR_of_trod : ∀ {Ts : List Ty} {ts : List TypeId} {vs : List Value} {ds : List (DataW H)} {p : List MemPlace} {base : Nat}, fitAll P Ts ts = true → (∀ (j : Nat) t v, ts[j]? = some t → vs[j]? = some v → Value.okWide P w .any base t v) →
  DataW.TrodAll enc P w 0 sp held ts vs ds p → ∃ x : Tys Ts, ArgsR (IsC w) w Ts x vs ∧ Bnds Ts x
 | [], [], vs, ds, p, base, _, _, h => by
  cases vs with
  | nil => exact ⟨(), rfl, trivial⟩
  | cons _ _ => cases ds <;> exact absurd h (by simp [DataW.TrodAll])
 | [], _ :: _, vs, ds, p, base, hf, _, h => by simp [fitAll] at hf
 | _ :: _, [], vs, ds, p, base, hf, _, h => by simp [fitAll] at hf
 | T :: Ts, t :: ts, vs, ds, p, base, hf, hv, h => by
  simp only [fitAll, Bool.and_eq_true] at hf
  cases vs with
  | nil => cases ds <;> exact absurd h (by simp [DataW.TrodAll])
  | cons v vs =>
   cases ds with
   | nil => exact absurd h (by simp [DataW.TrodAll])
   | cons d ds =>
    obtain ⟨p1, p2, h1, h2, _⟩ := h
    obtain ⟨y, k1, k2⟩ := valR_of_trod hf.1.1 hf.1.2 (hv 0 t v rfl rfl) h1
    obtain ⟨x, m1, m2⟩ := argsR_of_trod hf.2 (fun j t' v' a b => hv (j + 1) t' v' (by simpa using a) (by simpa using b)) h2
    exact ⟨(y, x), ⟨v, vs, rfl, k1, m1⟩, k2, m2⟩
theorem trodAll_below {W W' : World} (hl : laidOutB P = true) (hb : Below W.heap.size W W') : ∀ {ts : List TypeId} {vs : List Value} {ds : List (DataW H)} {p : List MemPlace}, (ts.all fun t => P.readableRec t && decide (t < P.types.size)) = true →
  DataW.TrodAll enc P W 0 (fun _ => true) true ts vs ds p → DataW.TrodAll enc P W' 0 (fun b => decide (b < W.heap.size)) true ts vs ds p
 | [], vs, ds, p, _, h => by cases vs <;> cases ds <;> simp_all [DataW.TrodAll]
 | t :: ts, vs, ds, p, ha, h => by
  cases vs with
  | nil => cases ds <;> exact absurd h (by simp [DataW.TrodAll])
  | cons v vs =>
   cases ds with
   | nil => exact absurd h (by simp [DataW.TrodAll])
   | cons d ds =>
    simp only [List.all_cons, Bool.and_eq_true, decide_eq_true_eq] at ha
    obtain ⟨p1, p2, h1, h2, rfl⟩ := h
    have hlt : ∀ x ∈ p1, x.block < W.heap.size := by
     obtain ⟨m, hm⟩ := h1
     exact DataW.trod_lt m _ _ _ hm
    exact ⟨p1, p2, Below.trod hl ha.1.1 ha.1.2 h1 hb hlt, trodAll_below hl hb ha.2 h2, rfl⟩
theorem trodAll_len {ts : List TypeId} : ∀ {vs : List Value} {ds : List (DataW H)} {p : List MemPlace}, DataW.TrodAll enc P w 0 sp held ts vs ds p → ds.length = ts.length := by
 induction ts with
 | nil => intro vs ds p h; cases vs <;> cases ds <;> simp_all [DataW.TrodAll]
 | cons t ts ih =>
  intro vs ds p h
  cases vs with
  | nil => cases ds <;> exact absurd h (by simp [DataW.TrodAll])
  | cons v vs =>
   cases ds with
   | nil => exact absurd h (by simp [DataW.TrodAll])
   | cons d ds => obtain ⟨_, _, _, h2, _⟩ := h; simp [ih h2]
end
section
variable {H : Type} {enc : TypeId × Value → H}
theorem law_post (hl : laidOutB Proofs.Tryz.prog = true) {n : FuncId} {fn : Func} {s : ChangeSpec} {Ts : List Ty} {f : Nat → Tys Ts → Option (Bool × Unit)} (hE : ∀ lf, EntryOK Proofs.Tryz.prog TabG n ⟨Ts, [.bool], f lf⟩)
  (hf : fitAll Proofs.Tryz.prog Ts fn.params.toList = true) (hrd : (fn.params.toList.all fun t => Proofs.Tryz.prog.readableRec t && decide (t < Proofs.Tryz.prog.types.size)) = true)
  {rt : TypeId} (hrt : fn.resultTypes = #[rt]) (hub : Proofs.Tryz.prog.underlying rt = some .bool) (hsv : s.vars = [])
  (hs : ∀ ds : List (DataW H), ds.length = fn.params.toList.length → s.fn H ds = { results := [.lit (.bool true)], args := ds })
  (hpure : ∀ x : Tys Ts, Bnds Ts x → ∃ lf, f lf x = some (true, ()))
  {W : World} {base : Nat} {args : Array Value} {ds gs : List (DataW H)} {before : List MemPlace} {apart fresh handsOn : Bool}
  (hval : ∀ (j : Nat) t v, fn.params[j]? = some t → args[j]? = some v → Value.okWide Proofs.Tryz.prog W .any base t v)
  (hW : DataW.Whole enc Proofs.Tryz.prog fn.params.toList s.vars apart W args.toList ds gs before) (hG : TabG W) :
  Calls Proofs.Tryz.prog n args W fun e W' => ∃ v, e = .returned v ∧ s.post enc Proofs.Tryz.prog fn apart fresh handsOn false W args v W' := by
 have hW' := hW
 obtain ⟨p, q, hA, hV, rfl, _, _⟩ := hW
 rw [hsv] at hV
 obtain ⟨rfl, rfl⟩ := trodVars_none hV
 have hv' : ∀ (j : Nat) (t : TypeId) (v : Value), fn.params.toList[j]? = some t → args.toList[j]? = some v → Value.okWide Proofs.Tryz.prog W .any base t v := by
  intro j t v a b
  rw [Array.getElem?_toList] at a b
  exact hval j t v a b
 obtain ⟨x, k1, k2⟩ := argsR_of_trod hf hv' hA
 obtain ⟨lf, hlf⟩ := hpure x k2
 have hlen := trodAll_len hA
 have h := hE lf x (true, ()) hlf (IsC W) W args.toList hG (fun i hi => hi) k1
 rw [Array.toArray_toList] at h
 refine h.mono ?_
 rintro e W' ⟨v, rfl, hb, hr⟩
 obtain ⟨vs, ⟨u, r, rfl, h1, h2⟩, rfl⟩ := hr
 obtain rfl : r = [] := h2
 have hu : u = .bool true := by
  unfold ValR at h1
  rw [if_neg (by simp [isSt])] at h1
  simpa [DR] using h1
 subst hu
 refine ⟨_, rfl, ds, [], p ++ [], [], p, [], hW', ?_, ?_, ?_, hb.frame _, fun h => by cases h⟩
 ·rw [List.append_nil, hs ds hlen, hrt]
  exact trodAll_mk1 (shut_bool hub true)
 ·rw [List.append_nil, hs ds hlen]
  exact trodAll_below hl hb hrd hA
 ·rw [List.append_nil, hs ds hlen, hsv]
  rfl
end
theorem tabG_of_laid {laid : List (String × DataW Unit)} {W : World} (hp : (laid.all fun x => x.2.handleName?.isNone) = true) {g : Nat} {t e : TypeId} {n : Nat} {rest : List (String × DataW Unit)}
  (hg : Proofs.Tryz.prog.globalNamed "internal/strconv.uint64pow10" = some g) (hty : (Proofs.Tryz.prog.globals[g]?).map (·.type) = some t) (ht : Proofs.Tryz.prog.underlying t = some (.array n e)) (he : Proofs.Tryz.prog.underlying e = some (.int .u64))
  (hce : Proofs.Tryz.prog.cellsOf e = 1) (hct : Proofs.Tryz.prog.cellsOf t = n)
  (hh : (laid.filter fun x => x.1 == "internal/strconv.uint64pow10") = ("internal/strconv.uint64pow10", Lib.tabData .u64 Lib.pow10Tab) :: rest)
  (h : laidMetH Proofs.Tryz.prog laid W) : TabG W := by
 rw [MakeChecks.laidMetH_plain _ _ _ hp] at h
 have h' := laidMet.filter (fun x => x.1 == "internal/strconv.uint64pow10") h
 rw [hh] at h'
 exact Lib.tabIs_of_head hg hty ht he hce hct h'
end Go.Q
namespace Go.N
open Go.IntKind (i64)
open Go Go.Q Go.Rx
set_option linter.unusedVariables false
set_option linter.unusedSimpArgs false
theorem apply_wf (lf : Nat) (hlf : 2000000000 ≤ lf) {a b : A} (ha : Wf a) (hb : Wf b) {op : Int} (ho : 3 ≤ op ∧ op ≤ 7) : surveyorlaw21_apply.f lf op (ac a) (ac b) = some (ac (toA (opS op (ofA a) (ofA b))), 0, ()) := by
 have h3 : 200000 ≤ lf := by omega
 rw [surveyorlaw21_apply.f]
 rcases op3 ho with rfl | rfl | rfl | rfl | rfl
 ·exact (brT _ _).trans (by rw [iAdd_f lf h3 ha hb, bdS]; rfl)
 ·exact (brF _ _).trans ((brT _ _).trans (by rw [iSub_f lf h3 ha hb, bdS]; rfl))
 ·exact (brF _ _).trans ((brF _ _).trans ((brT _ _).trans (by rw [iMul_f lf h3 ha hb, bdS]; rfl)))
 ·exact (brF _ _).trans ((brF _ _).trans ((brF _ _).trans ((brT _ _).trans (by rw [iQuo_f lf hlf ha hb, bdS]; rfl))))
 ·exact (brF _ _).trans ((brF _ _).trans ((brF _ _).trans ((brF _ _).trans (by rw [iRem_f lf hlf ha hb, bdS]; rfl))))
theorem DK {z : Int} (h : -Dd < z ∧ z < Dd) : -K < z ∧ z < K := by have := Dd_K; omega
theorem valO_K {x y op : Int} (bx : -Dd < x ∧ x < Dd) (by' : -Dd < y ∧ y < Dd) (ho : 3 ≤ op ∧ op ≤ 7) (h0 : op ≤ 5 ∨ y ≠ 0) : -K < valO op x y ∧ valO op x y < K := by
 have hK := DD_K
 have hC := C_gt
 have hD := C_lt_Dd
 have h4 : 0 ≤ Dd * Dd := Int.mul_nonneg (by omega) (by omega)
 rcases op3 ho with rfl | rfl | rfl | rfl | rfl
 ·show -K < x + y ∧ x + y < K; omega
 ·show -K < x - y ∧ x - y < K; omega
 ·have := mul_Dd bx by'; show -K < x * y ∧ x * y < K; omega
 ·have := fdiv_abs (x := x) (h0.resolve_left (by decide)); show -K < x.fdiv y ∧ x.fdiv y < K; omega
 ·have := fmod_abs (x := x) (h0.resolve_left (by decide)); show -K < x.fmod y ∧ x.fmod y < K; omega
theorem value_ok (lf : Nat) (hlf : 2000000000 ≤ lf) {x y op : Int} (bx : -Dd < x ∧ x < Dd) (by' : -Dd < y ∧ y < Dd) (ho : 3 ≤ op ∧ op ≤ 7) (h0 : op ≤ 5 ∨ y ≠ 0) :
  surveyorlaw21_value.f lf op (bs (Lib.itoa x)) (bs (Lib.itoa y)) = some (bs (Lib.itoa (valO op x y)), true, ()) := by
 have h3 : 200000 ≤ lf := by omega
 have kx := DK bx
 have ky := DK by'
 have v := valO_K bx by' ho h0
 rw [surveyorlaw21_value.f]
 rcases op3 ho with rfl | rfl | rfl | rfl | rfl
 ·exact (brT _ _).trans (by rw [add_small lf h3 kx ky v, bdS]; rfl)
 ·refine (brF _ _).trans ((brT _ _).trans ?_)
  have h := (sz_K (x - y)).2 v
  rw [sub_f lf _ _ (chkK kx) (chkK ky) h3, iv_itoa, iv_itoa, dlen_sz, if_neg (by omega), bdS]; rfl
 ·exact (brF _ _).trans ((brF _ _).trans ((brT _ _).trans (by rw [mul_small lf h3 kx ky v, bdS]; rfl)))
 ·exact (brF _ _).trans ((brF _ _).trans ((brF _ _).trans ((brT _ _).trans (by rw [quo_small lf hlf kx ky (h0.resolve_left (by decide)), bdS]; rfl))))
 ·exact (brF _ _).trans ((brF _ _).trans ((brF _ _).trans ((brF _ _).trans (by rw [rem_small lf hlf kx ky (h0.resolve_left (by decide)), bdS]; rfl))))
theorem value_no (lf : Nat) (hlf : 2000000000 ≤ lf) {x op : Int} (bx : -Dd < x ∧ x < Dd) (ho : 6 ≤ op ∧ op ≤ 7) :
  surveyorlaw21_value.f lf op (bs (Lib.itoa x)) (bs (Lib.itoa 0)) = some (bs [], false, ()) := by
 have hC := C_gt
 have hD := C_lt_Dd
 have kx := DK bx
 have k0 : -K < (0 : Int) ∧ (0 : Int) < K := DK (by omega)
 rw [surveyorlaw21_value.f]
 rcases (show op = 6 ∨ op = 7 by omega) with rfl | rfl
 ·exact (brF _ _).trans ((brF _ _).trans ((brF _ _).trans ((brT _ _).trans (by rw [quo_f lf hlf _ _ (chkK kx) (chkK k0), iv_itoa, iv_itoa, if_pos rfl, bdS]; rfl))))
 ·exact (brF _ _).trans ((brF _ _).trans ((brF _ _).trans ((brF _ _).trans (by rw [rem_f lf hlf _ _ (chkK kx) (chkK k0), iv_itoa, iv_itoa, if_pos rfl, bdS]; rfl))))
theorem ob_len {o : Option Int} (h : okb C o) : ∃ l : List UInt8, ob o = bs l ∧ l.length ≤ 100000 := by
 cases o with
 | none => exact ⟨[], rfl, by simp⟩
 | some z => exact ⟨Lib.itoa z, rfl, by have := okb_len (x := z) (by have := C_lt_K; simp only [okb] at h; omega); omega⟩
theorem tx_okb (x : X) : okb C (tx x) := by
  cases x with
  | fin z => unfold tx clip; simp only; split
             · assumption
             · trivial
  | ni => trivial
  | pi => trivial
theorem holds_no (lf : Nat) (h3 : 200000 ≤ lf) (s : Sp) : ∃ r, interval_Holds.f lf (ac (toA s)) (bs []) = some r := by
 have h1 : okb C (toA s).lo := by unfold toA; split; trivial; exact tx_okb _
 have h2 : okb C (toA s).hi := by unfold toA; split; trivial; exact tx_okb _
 obtain ⟨l, el, ll⟩ := ob_len h1
 obtain ⟨m, em, lm⟩ := ob_len h2
 have e : ac (toA s) = ((toA s).em, bs l, bs m, ()) := by rw [← el, ← em]; rfl
 have c := check_iv lf h3 (toA s).em l m (by omega) (by omega)
 have k := check_f lf [] (by simp)
 have k3 : chk [] = 3 := by decide
 rw [interval_Holds.f, e, c]
 simp only [bdS, k, k3]
 by_cases z : ck (toA s).em l m = 0
 ·rw [z]; exact ⟨_, (brF _ _).trans (brT _ _)⟩
 ·rw [bneT z, brT]; exact ⟨_, rfl⟩
theorem contains_l0 (lf : Nat) (hlf : 2000000000 ≤ lf) {a b : A} (ha : Wf a) (hb : Wf b) {x y : Int} (bx : -Dd < x ∧ x < Dd) (by' : -Dd < y ∧ y < Dd) (hx : inS (ofA a) x = true) (hy : inS (ofA b) y = true) :
  ∀ (d n : Nat) (op : Int), 3 ≤ op → op + d = 8 → d < n →
   surveyorlaw21_IntervalContains.l0 lf (ac a).1 (ac a).2.1 (ac a).2.2.1 (ac b).1 (ac b).2.1 (ac b).2.2.1 (bs (Lib.itoa x)) (bs (Lib.itoa y)) n op = some (false, (), (), ()) := by
 have h3 : 200000 ≤ lf := by omega
 intro d
 induction d with
 | zero =>
  intro n op h1 h2 hn
  obtain ⟨m, rfl⟩ := Nat.exists_eq_succ_of_ne_zero (show n ≠ 0 by omega)
  rw [surveyorlaw21_IntervalContains.l0, surveyorlaw21_IntervalContains.r0, decide_eq_false (by omega), brF]
 | succ d ih =>
  intro n op h1 h2 hn
  obtain ⟨m, rfl⟩ := Nat.exists_eq_succ_of_ne_zero (show n ≠ 0 by omega)
  have ho : 3 ≤ op ∧ op ≤ 7 := by omega
  have e5 : i64.wrap (op + 1) = op + 1 := w64 (by omega) (by omega)
  have ea : (((ac a).1, (ac a).2.1, (ac a).2.2.1, ()) : IV) = ac a := rfl
  have eb : (((ac b).1, (ac b).2.1, (ac b).2.2.1, ()) : IV) = ac b := rfl
  have nx := ih m (op + 1) (by omega) (by omega) (by omega)
  rw [surveyorlaw21_IntervalContains.l0, surveyorlaw21_IntervalContains.r0, decide_eq_true ho.2, brT]
  simp only [ea, eb, apply_wf lf hlf ha hb ho, bdS, bne_self_eq_false, brF, e5]
  by_cases h0 : op ≤ 5 ∨ y ≠ 0
  ·have v := value_ok lf hlf bx by' ho h0
   have k := valO_K bx by' ho h0
   have i := in_op ha.okC hb.okC ha.pr hb.pr bx by' hx hy ho h0
   have ok := opS_ok (op := op) ha.okC hb.okC ha.pr hb.pr
   have w : Wf (toA (opS op (ofA a) (ofA b))) := by
    refine toA_wf ok (.inr ⟨fun e => ?_, fun e => ?_⟩)
    ·have := inS_iff.1 i; rw [e] at this; simp only [key] at this; omega
    ·have := inS_iff.1 i; rw [e] at this; simp only [key] at this; omega
   have hh := holds_wf lf h3 w k
   rw [inS_toA ok k i] at hh
   simp only [v, bdS, hh, brT, bne_self_eq_false, brF, Bool.not_true]
   exact nx
  ·have y0 : y = 0 := by omega
   subst y0
   have v := value_no lf hlf bx (op := op) (by omega)
   obtain ⟨r, hr⟩ := holds_no lf h3 (opS op (ofA a) (ofA b))
   simp only [v, bdS, hr, brF]
   exact nx
end Go.N
namespace Go.Q
open Go.N
set_option linter.unusedSimpArgs false
theorem Pure.IntervalContains (x : Tys (surveyorlaw21_IntervalContains.E 0).ps) (h : Bnds (surveyorlaw21_IntervalContains.E 0).ps x) : ∃ lf, surveyorlaw21_IntervalContains.f lf x.1 x.2.1 x.2.2.1 = some (true, ()) := by
 obtain ⟨⟨e1, l1, m1, ⟨⟩⟩, ⟨e2, l2, m2, ⟨⟩⟩, ⟨l3, m3, ⟨⟩⟩, ⟨⟩⟩ := x
 obtain ⟨⟨_, a1, b1, _⟩, ⟨_, a2, b2, _⟩, ⟨a3, b3, _⟩, _⟩ := h
 simp only [Bnd] at a1 b1 a2 b2 a3 b3
 rw [Lib.size_eq] at a1 b1 a2 b2 a3 b3
 rw [← bs_eta l1, ← bs_eta m1, ← bs_eta l2, ← bs_eta m2, ← bs_eta l3, ← bs_eta m3]
 generalize l1.data.toList = l1 at *
 generalize m1.data.toList = m1 at *
 generalize l2.data.toList = l2 at *
 generalize m2.data.toList = m2 at *
 generalize l3.data.toList = l3 at *
 generalize m3.data.toList = m3 at *
 obtain ⟨lf, hlf⟩ : ∃ lf, lf = 2000000000 + l1.length + m1.length + l2.length + m2.length + l3.length + m3.length := ⟨_, rfl⟩
 refine ⟨lf, ?_⟩
 have h3 : 200000 ≤ lf := by omega
 have hr := right_f lf h3 e1 e2 l1 m1 l2 m2 a1 b1 a2 b2 (by omega) (by omega) (by omega) (by omega)
 have hk3 := rCheck_f lf l3 a3 (by omega)
 have hk4 := rCheck_f lf m3 b3 (by omega)
 rw [surveyorlaw21_IntervalContains.f]
 by_cases hc : ck e1 l1 m1 = 0 ∧ ck e2 l2 m2 = 0
 ·rw [decide_eq_true hc] at hr
  obtain ⟨a, ea, wa⟩ := ck_wf hc.1
  obtain ⟨b, eb, wb⟩ := ck_wf hc.2
  simp only [ea, eb] at hr ⊢
  simp only [hr, bdS, Bool.not_true, brF, hk3, hk4, awake_f]
  by_cases c3 : chk l3 = 0
  ·by_cases c4 : chk m3 = 0
   ·have i3 := itoa_iv (chk_zero.1 c3).1
    have i4 := itoa_iv (chk_zero.1 c4).1
    have bu := c3
    have bv := c4
    rw [i3, chk_itoa] at bu
    rw [i4, chk_itoa] at bv
    simp only [c3, c4, bne_self_eq_false, brF]
    rw [i3, i4]
    generalize iv l3 = u at *
    generalize iv m3 = v at *
    have lu := okb_len bu
    have lv' := okb_len bv
    simp only [in_ref lf h3 wa bu, in_ref lf h3 wb bv, bdS, rDigits_f lf _ (itoa_ne u) (show (Lib.itoa u).length ≤ 9223372036854775807 by omega), rDigits_f lf _ (itoa_ne v) (show (Lib.itoa v).length ≤ 9223372036854775807 by omega)]
    cases hu : inS (ofA a) u with
    | false => simp only [Bool.not_false, brT]
    | true =>
     cases hv : inS (ofA b) v with
     | false => simp only [Bool.not_true, brF, Bool.not_false, brT]
     | true =>
      simp only [Bool.not_true, brF]
      by_cases du : sz u ≤ 1000
      ·by_cases dv' : sz v ≤ 1000
       ·have bx := (sz_Dd u).1 du
        have by' := (sz_Dd v).1 dv'
        rw [decide_eq_false (show ¬ ((nlen (Lib.itoa u) : Nat) : Int) > 1000 by unfold sz at du; omega), brF, decide_eq_false (show ¬ ((nlen (Lib.itoa v) : Nat) : Int) > 1000 by unfold sz at dv'; omega), brF]
        have hl := contains_l0 lf (by omega) wa wb bx by' hu hv 5 (lf + 40) 3 (by omega) (by omega) (by omega)
        rw [← ea, ← eb] at hl
        simp only at hl
        have wn := toA_wf (turn_ok wa.okC).K wa.pr.turn
        have nk : -K < -u ∧ -u < K := by omega
        have hn := holds_wf lf h3 wn nk
        rw [inS_toA (turn_ok wa.okC).K nk (in_turn hu)] at hn
        simp only [hl, bdS, brF, neg_f lf h3 wa, bneg_f lf h3 bu, hn]
        exact (brT _ _).trans (brT _ _)
       ·rw [decide_eq_false (show ¬ ((nlen (Lib.itoa u) : Nat) : Int) > 1000 by unfold sz at du; omega), brF, decide_eq_true (show ((nlen (Lib.itoa v) : Nat) : Int) > 1000 by unfold sz at dv'; omega), brT]
      ·rw [decide_eq_true (show ((nlen (Lib.itoa u) : Nat) : Int) > 1000 by unfold sz at du; omega), brT]
   ·simp only [c3, bne_self_eq_false, brF, bneT c4, brT]
  ·simp only [bneT c3, brT]
 ·rw [decide_eq_false hc] at hr
  simp only [hr, bdS, Bool.not_false, brT, awake_f]
end Go.Q
