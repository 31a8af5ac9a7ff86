/- surveyor/surveyorlaw21.IntervalWidens: the row's statement, and the card over it: for every input the call returns true and leaves its arguments as they were. Condition: the listed package-level variables hold what the program's text lays (the card ties them to the pruned copy of the program). -/
import Derived.Test.YthfphcemoehllaaGreatDoorCards
import Derived.Test.YthfphcemoehllaaGreatDoorTie
import Derived.KernelRfl
import Derived.Test.YthfphcemoehllaaGreatDoorV
import Derived.Test.YthfphcemoehllaaGreatDoorWiF
set_option linter.unusedVariables false
set_option linter.unusedSimpArgs false
set_option linter.unusedSectionVars false
/-! # IntervalWidens -/
namespace Go.Q
open Go Go.N
set_option linter.unusedVariables false
set_option linter.unusedSimpArgs false
theorem sum_of (ts : List ByteArray) : ∃ s, ∀ b ∈ ts, (tl b).length ≤ s := by
  induction ts with
  | nil => exact ⟨0, fun b hb => by simp at hb⟩
  | cons c ts ih =>
    obtain ⟨s, hs⟩ := ih
    refine ⟨s + (tl c).length, fun b hb => ?_⟩
    rcases List.mem_cons.1 hb with rfl | hb
    · omega
    · have := hs b hb; omega
/-- IntervalWidens answers true. -/
theorem Pure.IntervalWidens (x : Tys (surveyorlaw21_IntervalWidens.E 0).ps) (h : Bnds (surveyorlaw21_IntervalWidens.E 0).ps x) : ∃ lf, surveyorlaw21_IntervalWidens.f lf x.1 x.2.1 x.2.2.1 = some (true, ()) := by
  obtain ⟨⟨e1, l1, m1, ⟨⟩⟩, ⟨e2, l2, m2, ⟨⟩⟩, ts, ⟨⟩⟩ := x
  obtain ⟨_, _, ⟨hl, hb⟩, _⟩ := h
  rw [← bs_eta l1, ← bs_eta m1, ← bs_eta l2, ← bs_eta m2]
  generalize l1.data.toList = l1
  generalize m1.data.toList = m1
  generalize l2.data.toList = l2
  generalize m2.data.toList = m2
  simp only at hl hb
  obtain ⟨s, hs⟩ := sum_of ts
  obtain ⟨lf, hlf⟩ : ∃ lf, lf = 200000 + s := ⟨_, rfl⟩
  refine ⟨lf, ?_⟩
  have h3 : 200000 ≤ lf := by omega
  have hsz : ∀ b ∈ ts, (tl b).length ≤ 9223372036854775807 ∧ (tl b).length ≤ lf := by
    intro b hm
    have h1 := hb b hm
    simp only [Bnd] at h1
    rw [Lib.size_eq] at h1
    have h2 := hs b hm
    exact ⟨h1, by omega⟩
  rw [surveyorlaw21_IntervalWidens.f]
  simp only [bdS, few_f, awake_f]
  by_cases hf : l1.length ≤ 450 ∧ m1.length ≤ 450 ∧ l2.length ≤ 450 ∧ m2.length ≤ 450
  · rw [decide_eq_true hf]
    obtain ⟨r, r1, r2⟩ := widen_same lf h3 (e1 := e1) (e2 := e2) (l1 := l1) (m1 := m1) (l2 := l2) (m2 := m2) (by omega) (by omega) (by omega) (by omega) ts hl hsz
    obtain ⟨n, n1, n2⟩ := narrow_same lf h3 (e1 := e1) (e2 := e2) (l1 := l1) (m1 := m1) (l2 := l2) (m2 := m2) (by omega) (by omega) (by omega) (by omega)
    obtain ⟨f, f1, f2⟩ := format_same lf h3 (e1 := e1) (l1 := l1) (m1 := m1) (by omega) (by omega)
    simp only [Bool.not_true, brF, r1, r2, n1, n2, f1, f2, bdS, BEq.rfl, brT, ba_beq, decide_true, Bool.and_self]
    by_cases h60 : ((ts.length : Nat) : Int) > 60
    · rw [decide_eq_true h60, brT]
      by_cases hm : ((ts.length : Nat) : Int) ≤ 1024
      · rw [decide_eq_true hm, brT]
      · rw [decide_eq_false hm, brF]
    · rw [decide_eq_false h60, brF]
  · rw [decide_eq_false hf]
    simp only [Bool.not_false, brT]
end Go.Q
namespace Go.Q
open Go Go.RowKit Go.ChangeShapes Go.WideShapes Go.Proofs Go.Proofs.YthfphcemoehllaaGreatDoor
set_option maxRecDepth 100000
/-- The call of 'surveyor/surveyorlaw21.IntervalWidens' under what the row lists. -/
theorem intervalWidens_call {H : Type} {enc : TypeId × Value → H} {W : World} {base : Nat} {args : Array Value} {ds gs : List (DataW H)} {before : List MemPlace}
    (hval : ∀ (j : Nat) (t : TypeId) (v : Value), Tryz.f3.params[j]? = some t → args[j]? = some v → Value.okWide Tryz.prog W .any base t v)
    (hW : DataW.Whole enc Tryz.prog Tryz.f3.params.toList Rows.intervalWidensSpec.vars false W args.toList ds gs before) (hL : laidMetH Tryz.prog Rows.intervalWidensRow.laid W) :
    Calls Tryz.prog 3 args W fun e W' => ∃ v, e = .returned v ∧ Rows.intervalWidensSpec.post enc Tryz.prog Tryz.f3 false true false false W args v W' :=
  law_post (Ts := [(.pair .bool (.pair .str (.pair .str .unit))), (.pair .bool (.pair .str (.pair .str .unit))), (.sl .str)]) (f := fun lf x => surveyorlaw21_IntervalWidens.f lf x.1 x.2.1 x.2.2.1) (by kernel_rfl) (fun lf => surveyorlaw21_IntervalWidens.ok lf) (by kernel_rfl) (by kernel_rfl) (rt := 4) (by kernel_rfl) (by kernel_rfl) rfl
    (fun ds hl => by
      have hk : ds.length = 3 := hl.trans (by kernel_rfl)
      match ds, hk with
      | [d0, d1, d2], _ => rfl)
    Pure.IntervalWidens hval hW
    (tabG_of_laid (laid := Rows.intervalWidensRow.laid) (rest := []) (g := 5) (t := 248) (e := 218) (n := 20) (by kernel_rfl) (by kernel_rfl) (by kernel_rfl) (by kernel_rfl) (by kernel_rfl) (by kernel_rfl) (by kernel_rfl) (by kernel_rfl) hL)
theorem intervalWidens_own : ownKnob Tryz.prog.godebug = none := by kernel_rfl
theorem intervalWidens_lifted (os : Os) (started : os.Started) (H : Type) (enc : TypeId × Value → H) :
    ReturnsInHanded {} Tryz.checked os 3 .any (fun w args => (Rows.intervalWidensSpec.pre enc Tryz.prog Tryz.f3 Rows.intervalWidensRow.domain false w args ∧ laidMetH Tryz.prog Rows.intervalWidensRow.laid w) ∧ sizedMet enc Tryz.prog Tryz.f3 (OpenSpec.ofChange Rows.intervalWidensSpec) false w args)
      (Rows.intervalWidensSpec.post enc Tryz.prog Tryz.f3 false true false false) := by
  refine returnsInHanded_of_change_and (C := Tryz.checked) (X := fun w _ => laidMetH Tryz.prog Rows.intervalWidensRow.laid w) (fun _ _ _ hh h => h.of_heap hh) intervalWidens_own started (by kernel_rfl) Tryz.func3
    (ChangeSpec.witness_shaped (enc := enc) (C := Tryz.checked) (os := os) (X := fun w _ => laidMetH Tryz.prog Rows.intervalWidensRow.laid w) false (World.laidAll Tryz.prog os Rows.intervalWidensRow.laid) #[(.agg #[.bool false, .string ByteArray.empty, .string ByteArray.empty]), (.agg #[.bool false, .string ByteArray.empty, .string ByteArray.empty]), .slice none 0 0] 8 (World.laidAll_os _ _ _)
      (World.shaped_of_ZipB (by kernel_rfl) (by kernel_rfl)) (by kernel_rfl) (by kernel_rfl) (by kernel_rfl)
      (by rw [MakeChecks.laidMetH_plain _ _ _ (by kernel_rfl)]; exact laidMet_laidAll _ (by kernel_rfl) (by kernel_rfl))) ?_
  intro W base args ds gs before hval hW _ _ hL _
  exact intervalWidens_call hval hW hL
theorem intervalWidens_holds : Rows.intervalWidensRow.holds Tryz.pinned (OpenSpec.ofChange Rows.intervalWidensSpec) :=
  OpenClaim.holds_of_wide 3 Tryz.f3 rfl rfl rfl rfl rfl rfl rfl ⟨rfl, rfl, rfl, rfl, rfl⟩ rfl rfl rfl rfl rfl (by kernel_rfl) Tryz.func3 (by kernel_rfl)
    (of_decide_eq_true (by kernel_rfl)) (by unfold Func.isWrapper; first | (rw [if_pos (by decide +kernel)]; kernel_rfl) | (rw [if_neg (by decide +kernel)]; exact ⟨rfl, rfl⟩))
    (fun os started H enc _ => intervalWidens_lifted os started H enc)
end Go.Q
namespace Go.Proofs.YthfphcemoehllaaGreatDoor
open Go
theorem intervalWidens_card_holds : Rows.IntervalWidensCardSaid :=
  Claim7.holds_tied_plain_at .later [] [.data, .data, .data, .data, .sentinel, .sentinel, .pinned] true (true, "200e0d0247193c78fa2dcac0056ddea2c2186019dbd2e8568f94680fda8a5131") true Go.Q.intervalWidens_holds (fun _ h => by cases h) (by kernel_rfl) (fun _ h => by cases h) intervalWidens_row_tie rfl ⟨rfl, rfl⟩ (by kernel_rfl) rfl
    (fun f fn hf hfn => by
      obtain rfl : f = 3 := Option.some.inj ((show Tryz.prog.funcNamed "surveyor/surveyorlaw21.IntervalWidens" = some 3 by kernel_rfl).symm.trans hf) |>.symm
      obtain rfl : fn = Tryz.f3 := (Option.some.inj (Tryz.func3.symm.trans hfn)).symm
      exact ⟨by kernel_rfl, fun j t ht => by
        have hall : (Tryz.f3.params.toList.all fun u => !Tryz.prog.wantsStandIn u) = true := by kernel_rfl
        have hm : t ∈ Tryz.f3.params.toList := by
          rw [← Array.getElem?_toList] at ht
          exact List.mem_of_getElem? ht
        exact (show Tryz.prog.wantsStandIn t = false by simpa using List.all_eq_true.1 hall t hm)⟩)
    (by kernel_rfl)
#print axioms intervalWidens_card_holds
end Go.Proofs.YthfphcemoehllaaGreatDoor
