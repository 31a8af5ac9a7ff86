import Derived.Test.YthfphcemoehllaaGreatDoorProg
import Derived.KernelRfl
import Derived.Test.YthfphcemoehllaaGreatDoorE3
import Derived.Test.YthfphcemoehllaaGreatDoorU1
import Derived.Test.YthfphcemoehllaaGreatDoorU2
set_option linter.unusedVariables false
set_option linter.unusedSimpArgs false
set_option linter.unusedSectionVars false
namespace Go.Q
open Go Go.RowKit
open Go.Rx (br bd sIdx sCat sCut iQuo iRem)
set_option linter.unusedVariables false
set_option linter.unusedSimpArgs false
set_option maxRecDepth 100000
noncomputable section
noncomputable def interval_digits.f (lf : Nat) (a0 : ByteArray) : Option (Int × Unit) :=
 br (decide (((a0.size : Nat) : Int) > 0)) (
  bd (sIdx a0 0) fun r1 =>
  br (((r1.toNat : Nat) : Int) == 45) (
   some ((IntKind.i64.wrap (((a0.size : Nat) : Int) - 1)), ())) (
   some (((a0.size : Nat) : Int), ()))) (
  some (((a0.size : Nat) : Int), ()))
noncomputable def interval_digits.E (lf : Nat) : Entry := ⟨[.str], [(.int .i64)], fun x => interval_digits.f lf x.1⟩
theorem interval_digits.ev (lf : Nat) (x : Tys (interval_digits.E lf).ps) : (interval_digits.E lf).f x = runQ Proofs.Tryz.prog (fun _ => FA.none) noLs (lookT []) (lf + 40) 14 6 135 (interval_digits.E lf).ps (interval_digits.E lf).rs x := by kernel_rfl
theorem interval_digits.ok (lf : Nat) : EntryOK Proofs.Tryz.prog TabG 135 (interval_digits.E lf) := entryT lookT_nil (annsOK_none fun _ => rfl) (interval_digits.ev lf)
noncomputable def interval_number.f (lf : Nat) (a0 : ByteArray) : Option (Int × Unit) :=
 bd (bigint_Check.f lf a0) fun r1 =>
 br (r1.1 != 0) (
  some (r1.1, ())) (
  bd (interval_digits.f lf a0) fun r2 =>
  br (decide (r2.1 > 100)) (
   some (10, ())) (
   some (0, ())))
noncomputable def interval_number.E (lf : Nat) : Entry := ⟨[.str], [(.int .i64)], fun x => interval_number.f lf x.1⟩
theorem interval_number.ev (lf : Nat) (x : Tys (interval_number.E lf).ps) : (interval_number.E lf).f x = runQ Proofs.Tryz.prog (fun _ => FA.none) noLs (lookT [(77, bigint_Check.E lf), (135, interval_digits.E lf)]) (lf + 40) 14 6 87 (interval_number.E lf).ps (interval_number.E lf).rs x := by kernel_rfl
theorem interval_number.ok (lf : Nat) : EntryOK Proofs.Tryz.prog TabG 87 (interval_number.E lf) := entryT (lookT_cons (bigint_Check.ok lf) (lookT_cons (interval_digits.ok lf) lookT_nil)) (annsOK_none fun _ => rfl) (interval_number.ev lf)
noncomputable def interval_order.f (lf : Nat) (a0 : ByteArray) (a1 : ByteArray) : Option (Int × Unit) :=
 bd (bigint_Compare.f lf a0 a1) fun r1 =>
 some (r1.1, ())
noncomputable def interval_order.E (lf : Nat) : Entry := ⟨[.str, .str], [(.int .i64)], fun x => interval_order.f lf x.1 x.2.1⟩
theorem interval_order.ev (lf : Nat) (x : Tys (interval_order.E lf).ps) : (interval_order.E lf).f x = runQ Proofs.Tryz.prog (fun _ => FA.none) noLs (lookT [(29, bigint_Compare.E lf)]) (lf + 40) 14 6 88 (interval_order.E lf).ps (interval_order.E lf).rs x := by kernel_rfl
theorem interval_order.ok (lf : Nat) : EntryOK Proofs.Tryz.prog TabG 88 (interval_order.E lf) := entryT (lookT_cons (bigint_Compare.ok lf) lookT_nil) (annsOK_none fun _ => rfl) (interval_order.ev lf)
noncomputable def interval_Check.f (lf : Nat) (a0 : (Bool × (ByteArray × (ByteArray × Unit)))) : Option (Int × Unit) :=
 br a0.1 (
  br (!(a0.2.1.toList == (⟨#[]⟩ : ByteArray).toList)) (
   some (3, ())) (
   br (!(a0.2.2.1.toList == (⟨#[]⟩ : ByteArray).toList)) (
    some (3, ())) (
    br (a0.2.1.toList == (⟨#[]⟩ : ByteArray).toList) (
     br (a0.2.2.1.toList == (⟨#[]⟩ : ByteArray).toList) (
      br (!(a0.2.1.toList == (⟨#[]⟩ : ByteArray).toList)) (
       br (!(a0.2.2.1.toList == (⟨#[]⟩ : ByteArray).toList)) (
        bd (interval_order.f lf a0.2.1 a0.2.2.1) fun r1 =>
        br (decide (r1.1 > 0)) (
         some (14, ())) (
         some (0, ()))) (
        some (0, ()))) (
       some (0, ()))) (
      bd (interval_number.f lf a0.2.2.1) fun r2 =>
      br (r2.1 != 0) (
       some (r2.1, ())) (
       br (!(a0.2.1.toList == (⟨#[]⟩ : ByteArray).toList)) (
        br (!(a0.2.2.1.toList == (⟨#[]⟩ : ByteArray).toList)) (
         bd (interval_order.f lf a0.2.1 a0.2.2.1) fun r3 =>
         br (decide (r3.1 > 0)) (
          some (14, ())) (
          some (0, ()))) (
         some (0, ()))) (
        some (0, ()))))) (
     bd (interval_number.f lf a0.2.1) fun r4 =>
     br (r4.1 != 0) (
      some (r4.1, ())) (
      br (a0.2.2.1.toList == (⟨#[]⟩ : ByteArray).toList) (
       br (!(a0.2.1.toList == (⟨#[]⟩ : ByteArray).toList)) (
        br (!(a0.2.2.1.toList == (⟨#[]⟩ : ByteArray).toList)) (
         bd (interval_order.f lf a0.2.1 a0.2.2.1) fun r5 =>
         br (decide (r5.1 > 0)) (
          some (14, ())) (
          some (0, ()))) (
         some (0, ()))) (
        some (0, ()))) (
       bd (interval_number.f lf a0.2.2.1) fun r6 =>
       br (r6.1 != 0) (
        some (r6.1, ())) (
        br (!(a0.2.1.toList == (⟨#[]⟩ : ByteArray).toList)) (
         br (!(a0.2.2.1.toList == (⟨#[]⟩ : ByteArray).toList)) (
          bd (interval_order.f lf a0.2.1 a0.2.2.1) fun r7 =>
          br (decide (r7.1 > 0)) (
           some (14, ())) (
           some (0, ()))) (
          some (0, ()))) (
         some (0, ()))))))))) (
  br (a0.2.1.toList == (⟨#[]⟩ : ByteArray).toList) (
   br (a0.2.2.1.toList == (⟨#[]⟩ : ByteArray).toList) (
    br (!(a0.2.1.toList == (⟨#[]⟩ : ByteArray).toList)) (
     br (!(a0.2.2.1.toList == (⟨#[]⟩ : ByteArray).toList)) (
      bd (interval_order.f lf a0.2.1 a0.2.2.1) fun r8 =>
      br (decide (r8.1 > 0)) (
       some (14, ())) (
       some (0, ()))) (
      some (0, ()))) (
     some (0, ()))) (
    bd (interval_number.f lf a0.2.2.1) fun r9 =>
    br (r9.1 != 0) (
     some (r9.1, ())) (
     br (!(a0.2.1.toList == (⟨#[]⟩ : ByteArray).toList)) (
      br (!(a0.2.2.1.toList == (⟨#[]⟩ : ByteArray).toList)) (
       bd (interval_order.f lf a0.2.1 a0.2.2.1) fun r10 =>
       br (decide (r10.1 > 0)) (
        some (14, ())) (
        some (0, ()))) (
       some (0, ()))) (
      some (0, ()))))) (
   bd (interval_number.f lf a0.2.1) fun r11 =>
   br (r11.1 != 0) (
    some (r11.1, ())) (
    br (a0.2.2.1.toList == (⟨#[]⟩ : ByteArray).toList) (
     br (!(a0.2.1.toList == (⟨#[]⟩ : ByteArray).toList)) (
      br (!(a0.2.2.1.toList == (⟨#[]⟩ : ByteArray).toList)) (
       bd (interval_order.f lf a0.2.1 a0.2.2.1) fun r12 =>
       br (decide (r12.1 > 0)) (
        some (14, ())) (
        some (0, ()))) (
       some (0, ()))) (
      some (0, ()))) (
     bd (interval_number.f lf a0.2.2.1) fun r13 =>
     br (r13.1 != 0) (
      some (r13.1, ())) (
      br (!(a0.2.1.toList == (⟨#[]⟩ : ByteArray).toList)) (
       br (!(a0.2.2.1.toList == (⟨#[]⟩ : ByteArray).toList)) (
        bd (interval_order.f lf a0.2.1 a0.2.2.1) fun r14 =>
        br (decide (r14.1 > 0)) (
         some (14, ())) (
         some (0, ()))) (
        some (0, ()))) (
       some (0, ())))))))
noncomputable def interval_Check.E (lf : Nat) : Entry := ⟨[(.pair .bool (.pair .str (.pair .str .unit)))], [(.int .i64)], fun x => interval_Check.f lf x.1⟩
theorem interval_Check.ev (lf : Nat) (x : Tys (interval_Check.E lf).ps) : (interval_Check.E lf).f x = runQ Proofs.Tryz.prog (fun _ => FA.none) noLs (lookT [(87, interval_number.E lf), (88, interval_order.E lf)]) (lf + 40) 14 6 43 (interval_Check.E lf).ps (interval_Check.E lf).rs x := by kernel_rfl
theorem interval_Check.ok (lf : Nat) : EntryOK Proofs.Tryz.prog TabG 43 (interval_Check.E lf) := entryT (lookT_cons (interval_number.ok lf) (lookT_cons (interval_order.ok lf) lookT_nil)) (annsOK_none fun _ => rfl) (interval_Check.ev lf)
noncomputable def interval_ascending.anns : FuncId → FA := fun g => bif g == 52 then ⟨fun li => bif li == 0 then (⟨[1, 2, 3, 4, 5, 6, 7, 8, 12, 13, 14, 15, 16, 17, 18, 19, 20, 21, 22, 23, 24, 25, 26, 27, 28, 29, 30, 31, 32, 33], [], []⟩, ⟨[0, 1, 3, 4, 5, 6, 7, 8, 9, 10, 11, 12, 13, 14, 15, 16, 17, 18, 19, 20, 21, 22, 23, 24, 25, 26, 27, 28, 29, 30, 31, 32, 33], [], []⟩) else (⟨[], [], []⟩, ⟨[], [], []⟩), none⟩ else FA.none
theorem interval_ascending.sp : AnnsOK Proofs.Tryz.prog interval_ascending.anns := by
  intro g s h
  unfold interval_ascending.anns at h
  by_cases e52 : g = 52
  · subst e52
    cases h
  have e52' : (g == 52) = false := by simpa using e52
  rw [e52', cond_false] at h
  cases h
noncomputable def interval_ascending.l0 (lf : Nat) (v0_0 : (List ByteArray)) (v0_1 : (List ByteArray)) (v0_2 : Int) : Nat → Int → Option (Bool × (Int × Unit) × (Unit) × Unit)
  | 0, _ => none
  | n + 1, v0_3 =>
  br (decide (v0_3 < v0_2)) (
   bd (idxL v0_1 v0_3) fun y1 =>
   bd (interval_number.f lf y1) fun r2 =>
   br (r2.1 != 0) (
    some (true, (r2.1, ()), ((()), ()))) (
    br (decide (v0_3 > 0)) (
     bd (idxL v0_0 (IntKind.i64.wrap (v0_3 - 1))) fun y3 =>
     bd (interval_order.f lf y3 y1) fun r4 =>
     br (decide (r4.1 ≥ 0)) (
      some (true, (14, ()), ((()), ()))) (
      interval_ascending.l0 lf v0_0 v0_1 v0_2 n (IntKind.i64.wrap (v0_3 + 1)))) (
     interval_ascending.l0 lf v0_0 v0_1 v0_2 n (IntKind.i64.wrap (v0_3 + 1))))) (
   some (false, (0, ()), ((()), ())))
noncomputable def interval_ascending.S0 (v0_0 : (List ByteArray)) (v0_1 : (List ByteArray)) (v0_2 : Int) (v0_3 : Int) : St := ([.sl .str v0_0, .any, .any, .any, .any, .any, .any, .any, .any, .sl .str v0_1, .v (.int .i64 v0_2), .v (.int .i64 v0_3), .any, .any, .any, .any, .any, .any, .any, .any, .any, .any, .any, .any, .any, .any, .any, .any, .any, .any, .any, .any, .any, .any], [])
noncomputable def interval_ascending.X0 (w0 : Int) : St := ([.any, .any, .v (.int .i64 w0), .any, .any, .any, .any, .any, .any, .any, .any, .any, .any, .any, .any, .any, .any, .any, .any, .any, .any, .any, .any, .any, .any, .any, .any, .any, .any, .any, .any, .any, .any, .any], [])
noncomputable def interval_ascending.X1 : St := ([.any, .any, .any, .any, .any, .any, .any, .any, .any, .any, .any, .any, .any, .any, .any, .any, .any, .any, .any, .any, .any, .any, .any, .any, .any, .any, .any, .any, .any, .any, .any, .any, .any, .any], [])
noncomputable def interval_ascending.m0 : (st : St) → Option {x : (List ByteArray) × (List ByteArray) × Int × Int × Unit // st = interval_ascending.S0 x.1 x.2.1 x.2.2.1 x.2.2.2.1}
  | (((.sl .str v0_0) :: .any :: .any :: .any :: .any :: .any :: .any :: .any :: .any :: (.sl .str v0_1) :: (.v (.int .i64 v0_2)) :: (.v (.int .i64 v0_3)) :: .any :: .any :: .any :: .any :: .any :: .any :: .any :: .any :: .any :: .any :: .any :: .any :: .any :: .any :: .any :: .any :: .any :: .any :: .any :: .any :: .any :: .any :: []), ([])) => some ⟨(v0_0, v0_1, v0_2, v0_3, ()), rfl⟩
  | _ => none
noncomputable def interval_ascending.o0 (v0_0 : (List ByteArray)) (v0_1 : (List ByteArray)) (v0_2 : Int) (y : Bool × (Int × Unit) × (Unit) × Unit) : Alt := .two y.1 (.one .ret (interval_ascending.X0 y.2.1.1)) (.one (.exit 0) (interval_ascending.X1 ))
noncomputable def interval_ascending.tb (lf : Nat) : List (FuncId × Entry) := [(87, interval_number.E lf), (88, interval_order.E lf)]
noncomputable def interval_ascending.s13_52 (lf : Nat) : Sums := fun li st => match li with
  | 0 => ((interval_ascending.m0 st).map fun p => (⟨Bool × (Int × Unit) × (Unit) × Unit, interval_ascending.l0 lf p.1.1 p.1.2.1 p.1.2.2.1 (lf + 40) p.1.2.2.2.1, interval_ascending.o0 p.1.1 p.1.2.1 p.1.2.2.1⟩ : LTE))
  | _ => none
noncomputable def interval_ascending.ls (lf : Nat) : List (Nat × FuncId × Sums) := [(13, 52, interval_ascending.s13_52 lf)]
noncomputable def interval_ascending.dr (lf : Nat) (ρ : Type) : Draws ρ := drawA Proofs.Tryz.prog (lookT (interval_ascending.tb lf)) 0 fun n => clQ Proofs.Tryz.prog interval_ascending.anns (lookT (interval_ascending.tb lf)) (lf + 40) 14 6 n ρ
noncomputable def interval_ascending.it0 {ρ : Type} (lf n : Nat) (st : St) (k : KE ρ) : Option ρ := iterK (nrmS 0 ((interval_ascending.anns 52).ann 0).1 0) (nrmS 0 ((interval_ascending.anns 52).ann 0).2 0) (codeK Proofs.Tryz.prog 52 (interval_ascending.anns 52).ann (interval_ascending.s13_52 lf) (interval_ascending.dr lf ρ) (goK Proofs.Tryz.prog interval_ascending.anns (lsOf (interval_ascending.ls lf)) (interval_ascending.dr lf ρ) (lookT (interval_ascending.tb lf)) 0 (lf + 40) 13) 0 (lf + 40) none 1 (loopP Proofs.Tryz.prog 52 0)) n st k
theorem interval_ascending.t0 {ρ : Type} (lf n : Nat) (v0_0 : (List ByteArray)) (v0_1 : (List ByteArray)) (v0_2 : Int) (v0_3 : Int) (k : KE ρ) : interval_ascending.it0 lf (n + 1) (interval_ascending.S0 v0_0 v0_1 v0_2 v0_3) k =
  br (decide (v0_3 < v0_2)) (
   bd (idxL v0_1 v0_3) fun y1 =>
   bd (interval_number.f lf y1) fun r2 =>
   br (r2.1 != 0) (
    k .ret (interval_ascending.X0 r2.1)) (
    br (decide (v0_3 > 0)) (
     bd (idxL v0_0 (IntKind.i64.wrap (v0_3 - 1))) fun y3 =>
     bd (interval_order.f lf y3 y1) fun r4 =>
     br (decide (r4.1 ≥ 0)) (
      k .ret (interval_ascending.X0 14)) (
      interval_ascending.it0 lf n (interval_ascending.S0 v0_0 v0_1 v0_2 (IntKind.i64.wrap (v0_3 + 1))) k)) (
     interval_ascending.it0 lf n (interval_ascending.S0 v0_0 v0_1 v0_2 (IntKind.i64.wrap (v0_3 + 1))) k))) (
   k (.exit 0) (interval_ascending.X1 )) := by kernel_rfl
theorem interval_ascending.u0 {ρ : Type} (lf : Nat) (v0_0 : (List ByteArray)) (v0_1 : (List ByteArray)) (v0_2 : Int) (k : KE ρ) : ∀ (n : Nat) (v0_3 : Int), interval_ascending.it0 lf n (interval_ascending.S0 v0_0 v0_1 v0_2 v0_3) k = bd (interval_ascending.l0 lf v0_0 v0_1 v0_2 n v0_3) fun y => altK k (interval_ascending.o0 v0_0 v0_1 v0_2 y)
  | 0, _ => by rw [interval_ascending.l0, bd_none]; rfl
  | n + 1, v0_3 => by
    rw [interval_ascending.t0]; simp only [interval_ascending.l0, interval_ascending.u0 lf v0_0 v0_1 v0_2 k n, bd_br, bd_bd, bd_some', bd_none, br_t, br_f, interval_ascending.o0, altK]
theorem interval_ascending.a13_52 (lf : Nat) (ρ : Type) : ∀ i, LsAt ρ Proofs.Tryz.prog 52 (interval_ascending.anns 52).ann (interval_ascending.s13_52 lf) (interval_ascending.dr lf ρ) (goK Proofs.Tryz.prog interval_ascending.anns (lsOf (interval_ascending.ls lf)) (interval_ascending.dr lf ρ) (lookT (interval_ascending.tb lf)) 0 (lf + 40) 13) 0 (lf + 40) none i (loopP Proofs.Tryz.prog 52 i)
  | 0 => by
    intro st T h k r he
    obtain ⟨p, _, rfl⟩ := Option.map_eq_some_iff.1 h
    obtain ⟨x, rfl⟩ := p
    exact (interval_ascending.u0 lf _ _ _ k (lf + 40) _).trans he
  | _ + 1 => lsAt_none rfl
theorem interval_ascending.sums (lf : Nat) (ρ : Type) : SumsOK ρ Proofs.Tryz.prog interval_ascending.anns (lsOf (interval_ascending.ls lf)) (interval_ascending.dr lf ρ) (lookT (interval_ascending.tb lf)) 0 (lf + 40) := by
  refine sumsOK_of rfl fun p hp => ?_
  simp only [interval_ascending.ls, List.mem_cons, List.not_mem_nil, or_false] at hp
  subst hp
  exact interval_ascending.a13_52 lf ρ
noncomputable def interval_ascending.f (lf : Nat) (a0 : (List ByteArray)) : Option (Int × Unit) :=
 br (decide (((a0.length : Nat) : Int) > 1024)) (
  some (5, ())) (
  bd (interval_ascending.l0 lf a0 a0 ((a0.length : Nat) : Int) (lf + 40) 0) fun z5 =>
  br z5.1 (
   some (z5.2.1.1, ())) (
   some (0, ())))
noncomputable def interval_ascending.E (lf : Nat) : Entry := ⟨[(.sl .str)], [(.int .i64)], fun x => interval_ascending.f lf x.1⟩
theorem interval_ascending.ev (lf : Nat) (x : Tys (interval_ascending.E lf).ps) : (interval_ascending.E lf).f x = runQ Proofs.Tryz.prog interval_ascending.anns (lsOf (interval_ascending.ls lf)) (lookT (interval_ascending.tb lf)) (lf + 40) 14 6 52 (interval_ascending.E lf).ps (interval_ascending.E lf).rs x := by kernel_rfl
theorem interval_ascending.ok (lf : Nat) : EntryOK Proofs.Tryz.prog TabG 52 (interval_ascending.E lf) := entryL (l := interval_ascending.tb lf) (lookT_cons (interval_number.ok lf) (lookT_cons (interval_order.ok lf) lookT_nil)) (interval_ascending.sp) (interval_ascending.sums lf _) (interval_ascending.ev lf)
noncomputable def interval_infinite.f (lf : Nat) (a0 : Int) : Option ((Int × (ByteArray × Unit)) × Unit) :=
 some ((a0, (⟨#[]⟩ : ByteArray), ()), ())
noncomputable def interval_infinite.E (lf : Nat) : Entry := ⟨[(.int .i64)], [(.pair (.int .i64) (.pair .str .unit))], fun x => interval_infinite.f lf x.1⟩
theorem interval_infinite.ev (lf : Nat) (x : Tys (interval_infinite.E lf).ps) : (interval_infinite.E lf).f x = runQ Proofs.Tryz.prog (fun _ => FA.none) noLs (lookT []) (lf + 40) 14 6 58 (interval_infinite.E lf).ps (interval_infinite.E lf).rs x := by kernel_rfl
theorem interval_infinite.ok (lf : Nat) : EntryOK Proofs.Tryz.prog TabG 58 (interval_infinite.E lf) := entryT lookT_nil (annsOK_none fun _ => rfl) (interval_infinite.ev lf)
noncomputable def interval_finite.f (lf : Nat) (a0 : ByteArray) : Option ((Int × (ByteArray × Unit)) × Unit) :=
 some ((0, a0, ()), ())
noncomputable def interval_finite.E (lf : Nat) : Entry := ⟨[.str], [(.pair (.int .i64) (.pair .str .unit))], fun x => interval_finite.f lf x.1⟩
theorem interval_finite.ev (lf : Nat) (x : Tys (interval_finite.E lf).ps) : (interval_finite.E lf).f x = runQ Proofs.Tryz.prog (fun _ => FA.none) noLs (lookT []) (lf + 40) 14 6 59 (interval_finite.E lf).ps (interval_finite.E lf).rs x := by kernel_rfl
theorem interval_finite.ok (lf : Nat) : EntryOK Proofs.Tryz.prog TabG 59 (interval_finite.E lf) := entryT lookT_nil (annsOK_none fun _ => rfl) (interval_finite.ev lf)
noncomputable def interval_none.f (lf : Nat)  : Option (((Int × (ByteArray × Unit)) × ((Int × (ByteArray × Unit)) × Unit)) × Unit) :=
 bd (interval_infinite.f lf 1) fun r1 =>
 bd (interval_infinite.f lf (-1)) fun r2 =>
 some ((r1.1, r2.1, ()), ())
noncomputable def interval_none.E (lf : Nat) : Entry := ⟨[], [(.pair (.pair (.int .i64) (.pair .str .unit)) (.pair (.pair (.int .i64) (.pair .str .unit)) .unit))], fun x => interval_none.f lf ⟩
theorem interval_none.ev (lf : Nat) (x : Tys (interval_none.E lf).ps) : (interval_none.E lf).f x = runQ Proofs.Tryz.prog (fun _ => FA.none) noLs (lookT [(58, interval_infinite.E lf)]) (lf + 40) 14 6 64 (interval_none.E lf).ps (interval_none.E lf).rs x := by kernel_rfl
theorem interval_none.ok (lf : Nat) : EntryOK Proofs.Tryz.prog TabG 64 (interval_none.E lf) := entryT (lookT_cons (interval_infinite.ok lf) lookT_nil) (annsOK_none fun _ => rfl) (interval_none.ev lf)
noncomputable def interval_of.f (lf : Nat) (a0 : (Bool × (ByteArray × (ByteArray × Unit)))) : Option (((Int × (ByteArray × Unit)) × ((Int × (ByteArray × Unit)) × Unit)) × Unit) :=
 br a0.1 (
  bd (interval_none.f lf) fun r1 =>
  some (r1.1, ())) (
  bd (interval_infinite.f lf (-1)) fun r2 =>
  bd (interval_infinite.f lf 1) fun r3 =>
  br (!(a0.2.1.toList == (⟨#[]⟩ : ByteArray).toList)) (
   bd (interval_finite.f lf a0.2.1) fun r4 =>
   br (!(a0.2.2.1.toList == (⟨#[]⟩ : ByteArray).toList)) (
    bd (interval_finite.f lf a0.2.2.1) fun r5 =>
    some ((r4.1, r5.1, ()), ())) (
    some ((r4.1, r3.1, ()), ()))) (
   br (!(a0.2.2.1.toList == (⟨#[]⟩ : ByteArray).toList)) (
    bd (interval_finite.f lf a0.2.2.1) fun r6 =>
    some ((r2.1, r6.1, ()), ())) (
    some ((r2.1, r3.1, ()), ()))))
noncomputable def interval_of.E (lf : Nat) : Entry := ⟨[(.pair .bool (.pair .str (.pair .str .unit)))], [(.pair (.pair (.int .i64) (.pair .str .unit)) (.pair (.pair (.int .i64) (.pair .str .unit)) .unit))], fun x => interval_of.f lf x.1⟩
theorem interval_of.ev (lf : Nat) (x : Tys (interval_of.E lf).ps) : (interval_of.E lf).f x = runQ Proofs.Tryz.prog (fun _ => FA.none) noLs (lookT [(58, interval_infinite.E lf), (59, interval_finite.E lf), (64, interval_none.E lf)]) (lf + 40) 14 6 53 (interval_of.E lf).ps (interval_of.E lf).rs x := by kernel_rfl
theorem interval_of.ok (lf : Nat) : EntryOK Proofs.Tryz.prog TabG 53 (interval_of.E lf) := entryT (lookT_cons (interval_infinite.ok lf) (lookT_cons (interval_finite.ok lf) (lookT_cons (interval_none.ok lf) lookT_nil))) (annsOK_none fun _ => rfl) (interval_of.ev lf)
noncomputable def interval_compare.f (lf : Nat) (a0 : (Int × (ByteArray × Unit))) (a1 : (Int × (ByteArray × Unit))) : Option (Int × Unit) :=
 br (a0.1 != 0) (
  some ((IntKind.i64.wrap (a0.1 - a1.1)), ())) (
  br (a1.1 != 0) (
   some ((IntKind.i64.wrap (a0.1 - a1.1)), ())) (
   bd (interval_order.f lf a0.2.1 a1.2.1) fun r1 =>
   some (r1.1, ())))
noncomputable def interval_compare.E (lf : Nat) : Entry := ⟨[(.pair (.int .i64) (.pair .str .unit)), (.pair (.int .i64) (.pair .str .unit))], [(.int .i64)], fun x => interval_compare.f lf x.1 x.2.1⟩
theorem interval_compare.ev (lf : Nat) (x : Tys (interval_compare.E lf).ps) : (interval_compare.E lf).f x = runQ Proofs.Tryz.prog (fun _ => FA.none) noLs (lookT [(88, interval_order.E lf)]) (lf + 40) 14 6 57 (interval_compare.E lf).ps (interval_compare.E lf).rs x := by kernel_rfl
theorem interval_compare.ok (lf : Nat) : EntryOK Proofs.Tryz.prog TabG 57 (interval_compare.E lf) := entryT (lookT_cons (interval_order.ok lf) lookT_nil) (annsOK_none fun _ => rfl) (interval_compare.ev lf)
noncomputable def interval_span_empty.f (lf : Nat) (a0 : ((Int × (ByteArray × Unit)) × ((Int × (ByteArray × Unit)) × Unit))) : Option (Bool × Unit) :=
 bd (interval_compare.f lf a0.1 a0.2.1) fun r1 =>
 some ((decide (r1.1 > 0)), ())
noncomputable def interval_span_empty.E (lf : Nat) : Entry := ⟨[(.pair (.pair (.int .i64) (.pair .str .unit)) (.pair (.pair (.int .i64) (.pair .str .unit)) .unit))], [.bool], fun x => interval_span_empty.f lf x.1⟩
theorem interval_span_empty.ev (lf : Nat) (x : Tys (interval_span_empty.E lf).ps) : (interval_span_empty.E lf).f x = runQ Proofs.Tryz.prog (fun _ => FA.none) noLs (lookT [(57, interval_compare.E lf)]) (lf + 40) 14 6 54 (interval_span_empty.E lf).ps (interval_span_empty.E lf).rs x := by kernel_rfl
theorem interval_span_empty.ok (lf : Nat) : EntryOK Proofs.Tryz.prog TabG 54 (interval_span_empty.E lf) := entryT (lookT_cons (interval_compare.ok lf) lookT_nil) (annsOK_none fun _ => rfl) (interval_span_empty.ev lf)
noncomputable def interval_least.f (lf : Nat) (a0 : (Int × (ByteArray × Unit))) (a1 : (Int × (ByteArray × Unit))) : Option ((Int × (ByteArray × Unit)) × Unit) :=
 bd (interval_compare.f lf a1 a0) fun r1 =>
 br (decide (r1.1 < 0)) (
  some (a1, ())) (
  some (a0, ()))
noncomputable def interval_least.E (lf : Nat) : Entry := ⟨[(.pair (.int .i64) (.pair .str .unit)), (.pair (.int .i64) (.pair .str .unit))], [(.pair (.int .i64) (.pair .str .unit))], fun x => interval_least.f lf x.1 x.2.1⟩
theorem interval_least.ev (lf : Nat) (x : Tys (interval_least.E lf).ps) : (interval_least.E lf).f x = runQ Proofs.Tryz.prog (fun _ => FA.none) noLs (lookT [(57, interval_compare.E lf)]) (lf + 40) 14 6 101 (interval_least.E lf).ps (interval_least.E lf).rs x := by kernel_rfl
theorem interval_least.ok (lf : Nat) : EntryOK Proofs.Tryz.prog TabG 101 (interval_least.E lf) := entryT (lookT_cons (interval_compare.ok lf) lookT_nil) (annsOK_none fun _ => rfl) (interval_least.ev lf)
noncomputable def interval_most.f (lf : Nat) (a0 : (Int × (ByteArray × Unit))) (a1 : (Int × (ByteArray × Unit))) : Option ((Int × (ByteArray × Unit)) × Unit) :=
 bd (interval_compare.f lf a1 a0) fun r1 =>
 br (decide (r1.1 > 0)) (
  some (a1, ())) (
  some (a0, ()))
noncomputable def interval_most.E (lf : Nat) : Entry := ⟨[(.pair (.int .i64) (.pair .str .unit)), (.pair (.int .i64) (.pair .str .unit))], [(.pair (.int .i64) (.pair .str .unit))], fun x => interval_most.f lf x.1 x.2.1⟩
theorem interval_most.ev (lf : Nat) (x : Tys (interval_most.E lf).ps) : (interval_most.E lf).f x = runQ Proofs.Tryz.prog (fun _ => FA.none) noLs (lookT [(57, interval_compare.E lf)]) (lf + 40) 14 6 102 (interval_most.E lf).ps (interval_most.E lf).rs x := by kernel_rfl
theorem interval_most.ok (lf : Nat) : EntryOK Proofs.Tryz.prog TabG 102 (interval_most.E lf) := entryT (lookT_cons (interval_compare.ok lf) lookT_nil) (annsOK_none fun _ => rfl) (interval_most.ev lf)
noncomputable def interval_span_hull.f (lf : Nat) (a0 : ((Int × (ByteArray × Unit)) × ((Int × (ByteArray × Unit)) × Unit))) (a1 : ((Int × (ByteArray × Unit)) × ((Int × (ByteArray × Unit)) × Unit))) : Option (((Int × (ByteArray × Unit)) × ((Int × (ByteArray × Unit)) × Unit)) × Unit) :=
 bd (interval_span_empty.f lf a0) fun r1 =>
 br r1.1 (
  some (a1, ())) (
  bd (interval_span_empty.f lf a1) fun r2 =>
  br r2.1 (
   some (a0, ())) (
   bd (interval_least.f lf a0.1 a1.1) fun r3 =>
   bd (interval_most.f lf a0.2.1 a1.2.1) fun r4 =>
   some ((r3.1, r4.1, ()), ())))
noncomputable def interval_span_hull.E (lf : Nat) : Entry := ⟨[(.pair (.pair (.int .i64) (.pair .str .unit)) (.pair (.pair (.int .i64) (.pair .str .unit)) .unit)), (.pair (.pair (.int .i64) (.pair .str .unit)) (.pair (.pair (.int .i64) (.pair .str .unit)) .unit))], [(.pair (.pair (.int .i64) (.pair .str .unit)) (.pair (.pair (.int .i64) (.pair .str .unit)) .unit))], fun x => interval_span_hull.f lf x.1 x.2.1⟩
theorem interval_span_hull.ev (lf : Nat) (x : Tys (interval_span_hull.E lf).ps) : (interval_span_hull.E lf).f x = runQ Proofs.Tryz.prog (fun _ => FA.none) noLs (lookT [(54, interval_span_empty.E lf), (101, interval_least.E lf), (102, interval_most.E lf)]) (lf + 40) 14 6 55 (interval_span_hull.E lf).ps (interval_span_hull.E lf).rs x := by kernel_rfl
theorem interval_span_hull.ok (lf : Nat) : EntryOK Proofs.Tryz.prog TabG 55 (interval_span_hull.E lf) := entryT (lookT_cons (interval_span_empty.ok lf) (lookT_cons (interval_least.ok lf) (lookT_cons (interval_most.ok lf) lookT_nil))) (annsOK_none fun _ => rfl) (interval_span_hull.ev lf)
noncomputable def interval_text.f (lf : Nat) (a0 : (Int × (ByteArray × Unit))) : Option (ByteArray × Unit) :=
 br (a0.1 != 0) (
  some ((⟨#[]⟩ : ByteArray), ())) (
  bd (interval_digits.f lf a0.2.1) fun r1 =>
  br (decide (r1.1 > 100)) (
   some ((⟨#[]⟩ : ByteArray), ())) (
   some (a0.2.1, ())))
noncomputable def interval_text.E (lf : Nat) : Entry := ⟨[(.pair (.int .i64) (.pair .str .unit))], [.str], fun x => interval_text.f lf x.1⟩
theorem interval_text.ev (lf : Nat) (x : Tys (interval_text.E lf).ps) : (interval_text.E lf).f x = runQ Proofs.Tryz.prog (fun _ => FA.none) noLs (lookT [(135, interval_digits.E lf)]) (lf + 40) 14 6 103 (interval_text.E lf).ps (interval_text.E lf).rs x := by kernel_rfl
theorem interval_text.ok (lf : Nat) : EntryOK Proofs.Tryz.prog TabG 103 (interval_text.E lf) := entryT (lookT_cons (interval_digits.ok lf) lookT_nil) (annsOK_none fun _ => rfl) (interval_text.ev lf)
noncomputable def interval_span_interval.f (lf : Nat) (a0 : ((Int × (ByteArray × Unit)) × ((Int × (ByteArray × Unit)) × Unit))) : Option ((Bool × (ByteArray × (ByteArray × Unit))) × Unit) :=
 bd (interval_span_empty.f lf a0) fun r1 =>
 br r1.1 (
  some ((true, (⟨#[]⟩ : ByteArray), (⟨#[]⟩ : ByteArray), ()), ())) (
  bd (interval_text.f lf a0.1) fun r2 =>
  bd (interval_text.f lf a0.2.1) fun r3 =>
  some ((false, r2.1, r3.1, ()), ()))
noncomputable def interval_span_interval.E (lf : Nat) : Entry := ⟨[(.pair (.pair (.int .i64) (.pair .str .unit)) (.pair (.pair (.int .i64) (.pair .str .unit)) .unit))], [(.pair .bool (.pair .str (.pair .str .unit)))], fun x => interval_span_interval.f lf x.1⟩
theorem interval_span_interval.ev (lf : Nat) (x : Tys (interval_span_interval.E lf).ps) : (interval_span_interval.E lf).f x = runQ Proofs.Tryz.prog (fun _ => FA.none) noLs (lookT [(54, interval_span_empty.E lf), (103, interval_text.E lf)]) (lf + 40) 14 6 56 (interval_span_interval.E lf).ps (interval_span_interval.E lf).rs x := by kernel_rfl
theorem interval_span_interval.ok (lf : Nat) : EntryOK Proofs.Tryz.prog TabG 56 (interval_span_interval.E lf) := entryT (lookT_cons (interval_span_empty.ok lf) (lookT_cons (interval_text.ok lf) lookT_nil)) (annsOK_none fun _ => rfl) (interval_span_interval.ev lf)
end
end Go.Q
