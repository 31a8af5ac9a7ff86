import Derived.Test.YthfphcemoehllaaGreatDoorProg
import Derived.KernelRfl
import Derived.Test.YthfphcemoehllaaGreatDoorE3
import Derived.Test.YthfphcemoehllaaGreatDoorU10
import Derived.Test.YthfphcemoehllaaGreatDoorU6
import Derived.Test.YthfphcemoehllaaGreatDoorU7
import Derived.Test.YthfphcemoehllaaGreatDoorU8
import Derived.Test.YthfphcemoehllaaGreatDoorU9
set_option linter.unusedVariables false
set_option linter.unusedSimpArgs false
set_option linter.unusedSectionVars false
namespace Go.Q
open Go Go.RowKit
open Go.Rx (br bd sIdx sCat sCut iQuo iRem)
set_option linter.unusedVariables false
set_option linter.unusedSimpArgs false
set_option maxRecDepth 100000
noncomputable section
noncomputable def surveyorlaw21_span.f (lf : Nat) (a0 : ByteArray) (a1 : ByteArray) : Option ((Bool × (ByteArray × (ByteArray × Unit))) × Unit) :=
 some ((false, a0, a1, ()), ())
noncomputable def surveyorlaw21_span.E (lf : Nat) : Entry := ⟨[.str, .str], [(.pair .bool (.pair .str (.pair .str .unit)))], fun x => surveyorlaw21_span.f lf x.1 x.2.1⟩
theorem surveyorlaw21_span.ev (lf : Nat) (x : Tys (surveyorlaw21_span.E lf).ps) : (surveyorlaw21_span.E lf).f x = runQ Proofs.Tryz.prog (fun _ => FA.none) noLs (lookT []) (lf + 40) 14 6 39 (surveyorlaw21_span.E lf).ps (surveyorlaw21_span.E lf).rs x := by kernel_rfl
theorem surveyorlaw21_span.ok (lf : Nat) : EntryOK Proofs.Tryz.prog TabG 39 (surveyorlaw21_span.E lf) := entryT lookT_nil (annsOK_none fun _ => rfl) (surveyorlaw21_span.ev lf)
noncomputable def surveyorlaw21_awake.anns : FuncId → FA := fun g => bif g == 12 then ⟨fun li => bif li == 0 then (⟨[0, 1, 2, 3, 4, 5, 6, 7, 8, 9, 10, 11, 12, 13, 14, 15, 16, 17, 18, 19, 20, 21, 22, 23, 24, 25, 26, 27, 28, 29, 30, 31, 32, 33, 34, 35, 36, 37, 38, 39, 40, 41, 42, 43, 44, 45, 46, 47, 48, 49, 50, 51, 52, 53, 54, 55, 56, 57, 58, 59, 60, 61, 62, 63, 64, 65, 66, 67, 68, 69, 70, 71, 72, 73, 74, 75, 76, 77, 78, 79, 80, 81, 82, 83, 84, 85, 86, 87, 88, 89, 90, 91, 92, 93, 94, 95, 96, 97, 98, 99, 100, 101, 102, 106, 107, 108, 109, 110, 111, 112, 113, 114, 115, 116, 117, 118, 119, 120, 121, 122, 123, 124, 125, 126, 127, 128, 129, 130, 131, 132, 133, 134, 135, 136, 137, 138, 139, 140, 141, 142, 143, 144, 145, 146, 147, 148, 149, 150, 151, 152, 153, 154, 155, 156, 157, 158, 159, 160, 161, 162, 163, 164, 165, 166, 167, 168, 169, 170, 171, 172, 173, 174, 175, 176, 177, 178, 179, 180, 181, 182, 183, 184, 185, 186, 187, 188, 189, 190, 191, 192, 193, 194, 195, 196, 197, 198, 199, 200, 201], [], [0, 1, 2, 3, 4]⟩, ⟨[1, 2, 3, 4, 5, 6, 7, 8, 9, 10, 11, 12, 13, 14, 15, 16, 17, 18, 19, 20, 21, 22, 23, 24, 25, 26, 27, 28, 29, 30, 31, 32, 33, 34, 35, 36, 37, 38, 39, 40, 41, 42, 43, 44, 45, 46, 47, 48, 49, 50, 51, 52, 53, 54, 55, 56, 57, 58, 59, 60, 61, 62, 63, 64, 65, 66, 67, 68, 69, 70, 71, 72, 73, 74, 75, 76, 77, 78, 79, 80, 81, 82, 83, 84, 85, 86, 87, 88, 89, 90, 91, 92, 93, 94, 95, 96, 97, 98, 99, 100, 101, 102, 103, 104, 105, 106, 107, 108, 109, 110, 111, 112, 113, 114, 115, 116, 117, 118, 119, 120, 121, 122, 123, 124, 125, 126, 127, 128, 129, 130, 131, 132, 133, 134, 135, 136, 137, 138, 139, 140, 141, 142, 143, 144, 145, 146, 147, 148, 149, 150, 151, 152, 153, 154, 155, 156, 157, 158, 159, 160, 161, 162, 163, 164, 165, 166, 167, 168, 169, 170, 171, 172, 173, 174, 175, 176, 177, 178, 179, 180, 181, 182, 183, 184, 185, 186, 187, 188, 189, 190, 191, 192, 193, 194, 195, 196, 197, 198, 199, 200, 201], [], [0, 1, 2, 3, 4]⟩) else (⟨[], [], []⟩, ⟨[], [], []⟩), none⟩ else FA.none
theorem surveyorlaw21_awake.sp : AnnsOK Proofs.Tryz.prog surveyorlaw21_awake.anns := by
  intro g s h
  unfold surveyorlaw21_awake.anns at h
  by_cases e12 : g = 12
  · subst e12
    cases h
  have e12' : (g == 12) = false := by simpa using e12
  rw [e12', cond_false] at h
  cases h
noncomputable def surveyorlaw21_awake.l0 (lf : Nat) (v0_0 : Int) (v0_2 : (List ((Bool × (ByteArray × (ByteArray × Unit))) × ((Bool × (ByteArray × (ByteArray × Unit))) × ((Bool × (ByteArray × (ByteArray × Unit))) × Unit))))) : Nat → Int → Option (Bool × (Unit) × (Unit) × Unit)
  | 0, _ => none
  | n + 1, v0_1 =>
  br (decide (v0_1 < v0_0)) (
   bd (idxB v0_2.length v0_1) fun j36 =>
   bd (v0_2[j36]?) fun y37 =>
   bd (interval_Rem.f lf y37.1 y37.2.1) fun r38 =>
   br (r38.2.1 != 0) (
    some (true, (()), ((()), ()))) (
    bd (some (!((r38.1.1 == y37.2.2.1.1) && ((r38.1.2.1 == y37.2.2.1.2.1) && ((r38.1.2.2.1 == y37.2.2.1.2.2.1) && true))))) fun r39 =>
    br r39 (
     some (true, (()), ((()), ()))) (
     surveyorlaw21_awake.l0 lf v0_0 v0_2 n (IntKind.i64.wrap (v0_1 + 1))))) (
   some (false, (()), ((()), ())))
noncomputable def surveyorlaw21_awake.S0 (v0_0 : Int) (v0_1 : Int) (v0_2 : (List ((Bool × (ByteArray × (ByteArray × Unit))) × ((Bool × (ByteArray × (ByteArray × Unit))) × ((Bool × (ByteArray × (ByteArray × Unit))) × Unit))))) : St := ([.any, .any, .any, .any, .any, .any, .any, .any, .any, .any, .any, .any, .any, .any, .any, .any, .any, .any, .any, .any, .any, .any, .any, .any, .any, .any, .any, .any, .any, .any, .any, .any, .any, .any, .any, .any, .any, .any, .any, .any, .any, .any, .any, .any, .any, .any, .any, .any, .any, .any, .any, .any, .any, .any, .any, .any, .any, .any, .any, .any, .any, .any, .any, .any, .any, .any, .any, .any, .any, .any, .any, .any, .any, .any, .any, .any, .any, .any, .any, .any, .any, .any, .any, .any, .any, .any, .any, .any, .any, .any, .any, .any, .any, .any, .any, .any, .any, .any, .any, .any, .any, .any, .any, .row 5, .v (.int .i64 v0_0), .v (.int .i64 v0_1), .any, .any, .any, .any, .any, .any, .any, .any, .any, .any, .any, .any, .any, .any, .any, .any, .any, .any, .any, .any, .any, .any, .any, .any, .any, .any, .any, .any, .any, .any, .any, .any, .any, .any, .any, .any, .any, .any, .any, .any, .any, .any, .any, .any, .any, .any, .any, .any, .any, .any, .any, .any, .any, .any, .any, .any, .any, .any, .any, .any, .any, .any, .any, .any, .any, .any, .any, .any, .any, .any, .any, .any, .any, .any, .any, .any, .any, .any, .any, .any, .any, .any, .any, .any, .any, .any, .any, .any, .any, .any, .any, .any, .any, .any, .any, .any], [some .gone, some .gone, some .gone, some .gone, some .gone, some (.row (.pair (.pair .bool (.pair .str (.pair .str .unit))) (.pair (.pair .bool (.pair .str (.pair .str .unit))) (.pair (.pair .bool (.pair .str (.pair .str .unit))) .unit))) v0_2 74 false)])
noncomputable def surveyorlaw21_awake.X0 (w0 : Bool) (w1 : (List ((Bool × (ByteArray × (ByteArray × Unit))) × ((Bool × (ByteArray × (ByteArray × Unit))) × ((Bool × (ByteArray × (ByteArray × Unit))) × Unit))))) : St := ([.v (.bool w0), .any, .any, .any, .any, .any, .any, .any, .any, .any, .any, .any, .any, .any, .any, .any, .any, .any, .any, .any, .any, .any, .any, .any, .any, .any, .any, .any, .any, .any, .any, .any, .any, .any, .any, .any, .any, .any, .any, .any, .any, .any, .any, .any, .any, .any, .any, .any, .any, .any, .any, .any, .any, .any, .any, .any, .any, .any, .any, .any, .any, .any, .any, .any, .any, .any, .any, .any, .any, .any, .any, .any, .any, .any, .any, .any, .any, .any, .any, .any, .any, .any, .any, .any, .any, .any, .any, .any, .any, .any, .any, .any, .any, .any, .any, .any, .any, .any, .any, .any, .any, .any, .any, .any, .any, .any, .any, .any, .any, .any, .any, .any, .any, .any, .any, .any, .any, .any, .any, .any, .any, .any, .any, .any, .any, .any, .any, .any, .any, .any, .any, .any, .any, .any, .any, .any, .any, .any, .any, .any, .any, .any, .any, .any, .any, .any, .any, .any, .any, .any, .any, .any, .any, .any, .any, .any, .any, .any, .any, .any, .any, .any, .any, .any, .any, .any, .any, .any, .any, .any, .any, .any, .any, .any, .any, .any, .any, .any, .any, .any, .any, .any, .any, .any, .any, .any, .any, .any, .any, .any, .any, .any, .any, .any, .any, .any, .any, .any, .any, .any, .any, .any], [some .gone, some .gone, some .gone, some .gone, some .gone, some (.row (.pair (.pair .bool (.pair .str (.pair .str .unit))) (.pair (.pair .bool (.pair .str (.pair .str .unit))) (.pair (.pair .bool (.pair .str (.pair .str .unit))) .unit))) w1 74 false)])
noncomputable def surveyorlaw21_awake.X1 (w0 : (List ((Bool × (ByteArray × (ByteArray × Unit))) × ((Bool × (ByteArray × (ByteArray × Unit))) × ((Bool × (ByteArray × (ByteArray × Unit))) × Unit))))) : St := ([.any, .any, .any, .any, .any, .any, .any, .any, .any, .any, .any, .any, .any, .any, .any, .any, .any, .any, .any, .any, .any, .any, .any, .any, .any, .any, .any, .any, .any, .any, .any, .any, .any, .any, .any, .any, .any, .any, .any, .any, .any, .any, .any, .any, .any, .any, .any, .any, .any, .any, .any, .any, .any, .any, .any, .any, .any, .any, .any, .any, .any, .any, .any, .any, .any, .any, .any, .any, .any, .any, .any, .any, .any, .any, .any, .any, .any, .any, .any, .any, .any, .any, .any, .any, .any, .any, .any, .any, .any, .any, .any, .any, .any, .any, .any, .any, .any, .any, .any, .any, .any, .any, .any, .any, .any, .any, .any, .any, .any, .any, .any, .any, .any, .any, .any, .any, .any, .any, .any, .any, .any, .any, .any, .any, .any, .any, .any, .any, .any, .any, .any, .any, .any, .any, .any, .any, .any, .any, .any, .any, .any, .any, .any, .any, .any, .any, .any, .any, .any, .any, .any, .any, .any, .any, .any, .any, .any, .any, .any, .any, .any, .any, .any, .any, .any, .any, .any, .any, .any, .any, .any, .any, .any, .any, .any, .any, .any, .any, .any, .any, .any, .any, .any, .any, .any, .any, .any, .any, .any, .any, .any, .any, .any, .any, .any, .any, .any, .any, .any, .any, .any, .any], [some .gone, some .gone, some .gone, some .gone, some .gone, some (.row (.pair (.pair .bool (.pair .str (.pair .str .unit))) (.pair (.pair .bool (.pair .str (.pair .str .unit))) (.pair (.pair .bool (.pair .str (.pair .str .unit))) .unit))) w0 74 false)])
noncomputable def surveyorlaw21_awake.m0 : (st : St) → Option {x : Int × Int × (List ((Bool × (ByteArray × (ByteArray × Unit))) × ((Bool × (ByteArray × (ByteArray × Unit))) × ((Bool × (ByteArray × (ByteArray × Unit))) × Unit)))) × Unit // st = surveyorlaw21_awake.S0 x.1 x.2.1 x.2.2.1}
  | ((.any :: .any :: .any :: .any :: .any :: .any :: .any :: .any :: .any :: .any :: .any :: .any :: .any :: .any :: .any :: .any :: .any :: .any :: .any :: .any :: .any :: .any :: .any :: .any :: .any :: .any :: .any :: .any :: .any :: .any :: .any :: .any :: .any :: .any :: .any :: .any :: .any :: .any :: .any :: .any :: .any :: .any :: .any :: .any :: .any :: .any :: .any :: .any :: .any :: .any :: .any :: .any :: .any :: .any :: .any :: .any :: .any :: .any :: .any :: .any :: .any :: .any :: .any :: .any :: .any :: .any :: .any :: .any :: .any :: .any :: .any :: .any :: .any :: .any :: .any :: .any :: .any :: .any :: .any :: .any :: .any :: .any :: .any :: .any :: .any :: .any :: .any :: .any :: .any :: .any :: .any :: .any :: .any :: .any :: .any :: .any :: .any :: .any :: .any :: .any :: .any :: .any :: .any :: (.row 5) :: (.v (.int .i64 v0_0)) :: (.v (.int .i64 v0_1)) :: .any :: .any :: .any :: .any :: .any :: .any :: .any :: .any :: .any :: .any :: .any :: .any :: .any :: .any :: .any :: .any :: .any :: .any :: .any :: .any :: .any :: .any :: .any :: .any :: .any :: .any :: .any :: .any :: .any :: .any :: .any :: .any :: .any :: .any :: .any :: .any :: .any :: .any :: .any :: .any :: .any :: .any :: .any :: .any :: .any :: .any :: .any :: .any :: .any :: .any :: .any :: .any :: .any :: .any :: .any :: .any :: .any :: .any :: .any :: .any :: .any :: .any :: .any :: .any :: .any :: .any :: .any :: .any :: .any :: .any :: .any :: .any :: .any :: .any :: .any :: .any :: .any :: .any :: .any :: .any :: .any :: .any :: .any :: .any :: .any :: .any :: .any :: .any :: .any :: .any :: .any :: .any :: .any :: .any :: .any :: .any :: []), ((some .gone) :: (some .gone) :: (some .gone) :: (some .gone) :: (some .gone) :: (some (.row (.pair (.pair .bool (.pair .str (.pair .str .unit))) (.pair (.pair .bool (.pair .str (.pair .str .unit))) (.pair (.pair .bool (.pair .str (.pair .str .unit))) .unit))) v0_2 74 false)) :: [])) => some ⟨(v0_0, v0_1, v0_2, ()), rfl⟩
  | _ => none
noncomputable def surveyorlaw21_awake.o0 (v0_0 : Int) (v0_2 : (List ((Bool × (ByteArray × (ByteArray × Unit))) × ((Bool × (ByteArray × (ByteArray × Unit))) × ((Bool × (ByteArray × (ByteArray × Unit))) × Unit))))) (y : Bool × (Unit) × (Unit) × Unit) : Alt := .two y.1 (.one .ret (surveyorlaw21_awake.X0 false v0_2)) (.one (.exit 0) (surveyorlaw21_awake.X1 v0_2))
noncomputable def surveyorlaw21_awake.tb (lf : Nat) : List (FuncId × Entry) := [(13, interval_Widen.E lf), (15, interval_Narrow.E lf), (17, interval_Format.E lf), (30, interval_Refine.E lf), (39, surveyorlaw21_span.E lf), (48, interval_Mul.E lf), (49, interval_Quo.E lf), (50, interval_Rem.E lf)]
noncomputable def surveyorlaw21_awake.s13_12 (lf : Nat) : Sums := fun li st => match li with
  | 0 => ((surveyorlaw21_awake.m0 st).map fun p => (⟨Bool × (Unit) × (Unit) × Unit, surveyorlaw21_awake.l0 lf p.1.1 p.1.2.2.1 (lf + 40) p.1.2.1, surveyorlaw21_awake.o0 p.1.1 p.1.2.2.1⟩ : LTE))
  | _ => none
noncomputable def surveyorlaw21_awake.ls (lf : Nat) : List (Nat × FuncId × Sums) := [(13, 12, surveyorlaw21_awake.s13_12 lf)]
noncomputable def surveyorlaw21_awake.dr (lf : Nat) (ρ : Type) : Draws ρ := drawA Proofs.Tryz.prog (lookT (surveyorlaw21_awake.tb lf)) 0 fun n => clQ Proofs.Tryz.prog surveyorlaw21_awake.anns (lookT (surveyorlaw21_awake.tb lf)) (lf + 40) 14 6 n ρ
noncomputable def surveyorlaw21_awake.it0 {ρ : Type} (lf n : Nat) (st : St) (k : KE ρ) : Option ρ := iterK (nrmS 0 ((surveyorlaw21_awake.anns 12).ann 0).1 6) (nrmS 0 ((surveyorlaw21_awake.anns 12).ann 0).2 6) (codeK Proofs.Tryz.prog 12 (surveyorlaw21_awake.anns 12).ann (surveyorlaw21_awake.s13_12 lf) (surveyorlaw21_awake.dr lf ρ) (goK Proofs.Tryz.prog surveyorlaw21_awake.anns (lsOf (surveyorlaw21_awake.ls lf)) (surveyorlaw21_awake.dr lf ρ) (lookT (surveyorlaw21_awake.tb lf)) 0 (lf + 40) 13) 0 (lf + 40) none 1 (loopP Proofs.Tryz.prog 12 0)) n st k
theorem surveyorlaw21_awake.t0 {ρ : Type} (lf n : Nat) (v0_0 : Int) (v0_1 : Int) (v0_2 : (List ((Bool × (ByteArray × (ByteArray × Unit))) × ((Bool × (ByteArray × (ByteArray × Unit))) × ((Bool × (ByteArray × (ByteArray × Unit))) × Unit))))) (k : KE ρ) : surveyorlaw21_awake.it0 lf (n + 1) (surveyorlaw21_awake.S0 v0_0 v0_1 v0_2) k =
  br (decide (v0_1 < v0_0)) (
   bd (idxB v0_2.length v0_1) fun j36 =>
   bd (v0_2[j36]?) fun y37 =>
   bd (interval_Rem.f lf y37.1 y37.2.1) fun r38 =>
   br (r38.2.1 != 0) (
    k .ret (surveyorlaw21_awake.X0 false v0_2)) (
    bd (some (!((r38.1.1 == y37.2.2.1.1) && ((r38.1.2.1 == y37.2.2.1.2.1) && ((r38.1.2.2.1 == y37.2.2.1.2.2.1) && true))))) fun r39 =>
    br r39 (
     k .ret (surveyorlaw21_awake.X0 false v0_2)) (
     surveyorlaw21_awake.it0 lf n (surveyorlaw21_awake.S0 v0_0 (IntKind.i64.wrap (v0_1 + 1)) v0_2) k))) (
   k (.exit 0) (surveyorlaw21_awake.X1 v0_2)) := by kernel_rfl
theorem surveyorlaw21_awake.u0 {ρ : Type} (lf : Nat) (v0_0 : Int) (v0_2 : (List ((Bool × (ByteArray × (ByteArray × Unit))) × ((Bool × (ByteArray × (ByteArray × Unit))) × ((Bool × (ByteArray × (ByteArray × Unit))) × Unit))))) (k : KE ρ) : ∀ (n : Nat) (v0_1 : Int), surveyorlaw21_awake.it0 lf n (surveyorlaw21_awake.S0 v0_0 v0_1 v0_2) k = bd (surveyorlaw21_awake.l0 lf v0_0 v0_2 n v0_1) fun y => altK k (surveyorlaw21_awake.o0 v0_0 v0_2 y)
  | 0, _ => by rw [surveyorlaw21_awake.l0, bd_none]; rfl
  | n + 1, v0_1 => by
    rw [surveyorlaw21_awake.t0]; simp only [surveyorlaw21_awake.l0, surveyorlaw21_awake.u0 lf v0_0 v0_2 k n, bd_br, bd_bd, bd_some', bd_none, br_t, br_f, surveyorlaw21_awake.o0, altK]
theorem surveyorlaw21_awake.a13_12 (lf : Nat) (ρ : Type) : ∀ i, LsAt ρ Proofs.Tryz.prog 12 (surveyorlaw21_awake.anns 12).ann (surveyorlaw21_awake.s13_12 lf) (surveyorlaw21_awake.dr lf ρ) (goK Proofs.Tryz.prog surveyorlaw21_awake.anns (lsOf (surveyorlaw21_awake.ls lf)) (surveyorlaw21_awake.dr lf ρ) (lookT (surveyorlaw21_awake.tb lf)) 0 (lf + 40) 13) 0 (lf + 40) none i (loopP Proofs.Tryz.prog 12 i)
  | 0 => by
    intro st T h k r he
    obtain ⟨p, _, rfl⟩ := Option.map_eq_some_iff.1 h
    obtain ⟨x, rfl⟩ := p
    exact (surveyorlaw21_awake.u0 lf _ _ k (lf + 40) _).trans he
  | _ + 1 => lsAt_none rfl
theorem surveyorlaw21_awake.sums (lf : Nat) (ρ : Type) : SumsOK ρ Proofs.Tryz.prog surveyorlaw21_awake.anns (lsOf (surveyorlaw21_awake.ls lf)) (surveyorlaw21_awake.dr lf ρ) (lookT (surveyorlaw21_awake.tb lf)) 0 (lf + 40) := by
  refine sumsOK_of rfl fun p hp => ?_
  simp only [surveyorlaw21_awake.ls, List.mem_cons, List.not_mem_nil, or_false] at hp
  subst hp
  exact surveyorlaw21_awake.a13_12 lf ρ
noncomputable def surveyorlaw21_awake.f (lf : Nat)  : Option (Bool × Unit) :=
 bd (surveyorlaw21_span.f lf (⟨#[45, 50]⟩ : ByteArray) (⟨#[51]⟩ : ByteArray)) fun r1 =>
 bd (surveyorlaw21_span.f lf (⟨#[45, 53]⟩ : ByteArray) (⟨#[52]⟩ : ByteArray)) fun r2 =>
 bd (interval_Mul.f lf r1.1 r2.1) fun r3 =>
 bd (surveyorlaw21_span.f lf (⟨#[49]⟩ : ByteArray) (⟨#[]⟩ : ByteArray)) fun r4 =>
 bd (surveyorlaw21_span.f lf (⟨#[48]⟩ : ByteArray) (⟨#[50]⟩ : ByteArray)) fun r5 =>
 bd (interval_Mul.f lf r4.1 r5.1) fun r6 =>
 bd (surveyorlaw21_span.f lf (⟨#[45, 55]⟩ : ByteArray) (⟨#[55]⟩ : ByteArray)) fun r7 =>
 bd (surveyorlaw21_span.f lf (⟨#[45, 50]⟩ : ByteArray) (⟨#[51]⟩ : ByteArray)) fun r8 =>
 bd (interval_Quo.f lf r7.1 r8.1) fun r9 =>
 bd (surveyorlaw21_span.f lf (⟨#[53]⟩ : ByteArray) (⟨#[57]⟩ : ByteArray)) fun r10 =>
 bd (surveyorlaw21_span.f lf (⟨#[50]⟩ : ByteArray) (⟨#[52]⟩ : ByteArray)) fun r11 =>
 bd (interval_Quo.f lf r10.1 r11.1) fun r12 =>
 bd (surveyorlaw21_span.f lf (⟨#[49]⟩ : ByteArray) (⟨#[50]⟩ : ByteArray)) fun r13 =>
 bd (surveyorlaw21_span.f lf (⟨#[48]⟩ : ByteArray) (⟨#[48]⟩ : ByteArray)) fun r14 =>
 bd (interval_Quo.f lf r13.1 r14.1) fun r15 =>
 br ((IntKind.i64.wrap ((IntKind.i64.wrap ((IntKind.i64.wrap ((IntKind.i64.wrap (r3.2.1 + r6.2.1)) + r9.2.1)) + r12.2.1)) + r15.2.1)) != 0) (
  some (false, ())) (
  bd (surveyorlaw21_span.f lf (⟨#[45, 49, 53]⟩ : ByteArray) (⟨#[49, 50]⟩ : ByteArray)) fun r16 =>
  bd (some (!((r3.1.1 == r16.1.1) && ((r3.1.2.1 == r16.1.2.1) && ((r3.1.2.2.1 == r16.1.2.2.1) && true))))) fun r17 =>
  br r17 (
   some (false, ())) (
   bd (surveyorlaw21_span.f lf (⟨#[48]⟩ : ByteArray) (⟨#[]⟩ : ByteArray)) fun r18 =>
   bd (some (!((r6.1.1 == r18.1.1) && ((r6.1.2.1 == r18.1.2.1) && ((r6.1.2.2.1 == r18.1.2.2.1) && true))))) fun r19 =>
   br r19 (
    some (false, ())) (
    bd (surveyorlaw21_span.f lf (⟨#[45, 55]⟩ : ByteArray) (⟨#[55]⟩ : ByteArray)) fun r20 =>
    bd (some (!((r9.1.1 == r20.1.1) && ((r9.1.2.1 == r20.1.2.1) && ((r9.1.2.2.1 == r20.1.2.2.1) && true))))) fun r21 =>
    br r21 (
     some (false, ())) (
     bd (surveyorlaw21_span.f lf (⟨#[49]⟩ : ByteArray) (⟨#[52]⟩ : ByteArray)) fun r22 =>
     bd (some (!((r12.1.1 == r22.1.1) && ((r12.1.2.1 == r22.1.2.1) && ((r12.1.2.2.1 == r22.1.2.2.1) && true))))) fun r23 =>
     br r23 (
      some (false, ())) (
      br (!r15.1.1) (
       some (false, ())) (
       bd (surveyorlaw21_span.f lf (⟨#[53]⟩ : ByteArray) (⟨#[57]⟩ : ByteArray)) fun r24 =>
       bd (surveyorlaw21_span.f lf (⟨#[52]⟩ : ByteArray) (⟨#[52]⟩ : ByteArray)) fun r25 =>
       bd (surveyorlaw21_span.f lf (⟨#[48]⟩ : ByteArray) (⟨#[51]⟩ : ByteArray)) fun r26 =>
       bd (surveyorlaw21_span.f lf (⟨#[53]⟩ : ByteArray) (⟨#[54]⟩ : ByteArray)) fun r27 =>
       bd (surveyorlaw21_span.f lf (⟨#[52]⟩ : ByteArray) (⟨#[52]⟩ : ByteArray)) fun r28 =>
       bd (surveyorlaw21_span.f lf (⟨#[49]⟩ : ByteArray) (⟨#[50]⟩ : ByteArray)) fun r29 =>
       bd (surveyorlaw21_span.f lf (⟨#[45, 49]⟩ : ByteArray) (⟨#[50]⟩ : ByteArray)) fun r30 =>
       bd (surveyorlaw21_span.f lf (⟨#[45, 51]⟩ : ByteArray) (⟨#[45, 51]⟩ : ByteArray)) fun r31 =>
       bd (surveyorlaw21_span.f lf (⟨#[45, 50]⟩ : ByteArray) (⟨#[48]⟩ : ByteArray)) fun r32 =>
       bd (surveyorlaw21_span.f lf (⟨#[48]⟩ : ByteArray) (⟨#[57]⟩ : ByteArray)) fun r33 =>
       bd (surveyorlaw21_span.f lf (⟨#[51]⟩ : ByteArray) (⟨#[50, 48]⟩ : ByteArray)) fun r34 =>
       bd (surveyorlaw21_span.f lf (⟨#[48]⟩ : ByteArray) (⟨#[57]⟩ : ByteArray)) fun r35 =>
       bd (surveyorlaw21_awake.l0 lf 4 [(r24.1, r25.1, r26.1, ()), (r27.1, r28.1, r29.1, ()), (r30.1, r31.1, r32.1, ()), (r33.1, r34.1, r35.1, ())] (lf + 40) 0) fun z40 =>
       br z40.1 (
        some (false, ())) (
        bd (surveyorlaw21_span.f lf (⟨#[48]⟩ : ByteArray) (⟨#[57]⟩ : ByteArray)) fun r41 =>
        bd (surveyorlaw21_span.f lf (⟨#[50]⟩ : ByteArray) (⟨#[52]⟩ : ByteArray)) fun r42 =>
        bd (interval_Refine.f lf 4 r41.1 r42.1) fun r43 =>
        bd (surveyorlaw21_span.f lf (⟨#[52]⟩ : ByteArray) (⟨#[57]⟩ : ByteArray)) fun r44 =>
        bd (surveyorlaw21_span.f lf (⟨#[52]⟩ : ByteArray) (⟨#[52]⟩ : ByteArray)) fun r45 =>
        bd (interval_Refine.f lf 3 r44.1 r45.1) fun r46 =>
        bd (surveyorlaw21_span.f lf (⟨#[48]⟩ : ByteArray) (⟨#[53]⟩ : ByteArray)) fun r47 =>
        bd (surveyorlaw21_span.f lf (⟨#[48]⟩ : ByteArray) (⟨#[55]⟩ : ByteArray)) fun r48 =>
        bd (interval_Widen.f lf r47.1 r48.1 [(⟨#[54]⟩ : ByteArray), (⟨#[49, 48]⟩ : ByteArray)]) fun r49 =>
        bd (surveyorlaw21_span.f lf (⟨#[48]⟩ : ByteArray) (⟨#[]⟩ : ByteArray)) fun r50 =>
        bd (surveyorlaw21_span.f lf (⟨#[50]⟩ : ByteArray) (⟨#[57]⟩ : ByteArray)) fun r51 =>
        bd (interval_Narrow.f lf r50.1 r51.1) fun r52 =>
        bd (surveyorlaw21_span.f lf (⟨#[]⟩ : ByteArray) (⟨#[51]⟩ : ByteArray)) fun r53 =>
        bd (interval_Format.f lf r53.1) fun r54 =>
        br ((IntKind.i64.wrap ((IntKind.i64.wrap ((IntKind.i64.wrap ((IntKind.i64.wrap (r43.2.2.1 + r46.2.2.1)) + r49.2.1)) + r52.2.1)) + r54.2.1)) == 0) (
         bd (surveyorlaw21_span.f lf (⟨#[48]⟩ : ByteArray) (⟨#[51]⟩ : ByteArray)) fun r55 =>
         bd (some ((r43.1.1 == r55.1.1) && ((r43.1.2.1 == r55.1.2.1) && ((r43.1.2.2.1 == r55.1.2.2.1) && true)))) fun r56 =>
         br r56 (
          bd (surveyorlaw21_span.f lf (⟨#[50]⟩ : ByteArray) (⟨#[52]⟩ : ByteArray)) fun r57 =>
          bd (some ((r43.2.1.1 == r57.1.1) && ((r43.2.1.2.1 == r57.1.2.1) && ((r43.2.1.2.2.1 == r57.1.2.2.1) && true)))) fun r58 =>
          br r58 (
           bd (surveyorlaw21_span.f lf (⟨#[53]⟩ : ByteArray) (⟨#[57]⟩ : ByteArray)) fun r59 =>
           bd (some ((r46.1.1 == r59.1.1) && ((r46.1.2.1 == r59.1.2.1) && ((r46.1.2.2.1 == r59.1.2.2.1) && true)))) fun r60 =>
           br r60 (
            bd (surveyorlaw21_span.f lf (⟨#[52]⟩ : ByteArray) (⟨#[52]⟩ : ByteArray)) fun r61 =>
            bd (some ((r46.2.1.1 == r61.1.1) && ((r46.2.1.2.1 == r61.1.2.1) && ((r46.2.1.2.2.1 == r61.1.2.2.1) && true)))) fun r62 =>
            br r62 (
             bd (surveyorlaw21_span.f lf (⟨#[48]⟩ : ByteArray) (⟨#[49, 48]⟩ : ByteArray)) fun r63 =>
             bd (some ((r49.1.1 == r63.1.1) && ((r49.1.2.1 == r63.1.2.1) && ((r49.1.2.2.1 == r63.1.2.2.1) && true)))) fun r64 =>
             br r64 (
              bd (surveyorlaw21_span.f lf (⟨#[48]⟩ : ByteArray) (⟨#[57]⟩ : ByteArray)) fun r65 =>
              bd (some ((r52.1.1 == r65.1.1) && ((r52.1.2.1 == r65.1.2.1) && ((r52.1.2.2.1 == r65.1.2.2.1) && true)))) fun r66 =>
              br r66 (
               some ((r54.1.toList == (⟨#[91, 45, 105, 110, 102, 44, 32, 51, 93]⟩ : ByteArray).toList), ())) (
               some (false, ()))) (
              some (false, ()))) (
             some (false, ()))) (
            some (false, ()))) (
           some (false, ()))) (
          some (false, ()))) (
         some (false, ())))))))))
noncomputable def surveyorlaw21_awake.E (lf : Nat) : Entry := ⟨[], [.bool], fun x => surveyorlaw21_awake.f lf ⟩
theorem surveyorlaw21_awake.ev (lf : Nat) (x : Tys (surveyorlaw21_awake.E lf).ps) : (surveyorlaw21_awake.E lf).f x = runQ Proofs.Tryz.prog surveyorlaw21_awake.anns (lsOf (surveyorlaw21_awake.ls lf)) (lookT (surveyorlaw21_awake.tb lf)) (lf + 40) 14 6 12 (surveyorlaw21_awake.E lf).ps (surveyorlaw21_awake.E lf).rs x := by kernel_rfl
theorem surveyorlaw21_awake.ok (lf : Nat) : EntryOK Proofs.Tryz.prog TabG 12 (surveyorlaw21_awake.E lf) := entryL (l := surveyorlaw21_awake.tb lf) (lookT_cons (interval_Widen.ok lf) (lookT_cons (interval_Narrow.ok lf) (lookT_cons (interval_Format.ok lf) (lookT_cons (interval_Refine.ok lf) (lookT_cons (surveyorlaw21_span.ok lf) (lookT_cons (interval_Mul.ok lf) (lookT_cons (interval_Quo.ok lf) (lookT_cons (interval_Rem.ok lf) lookT_nil)))))))) (surveyorlaw21_awake.sp) (surveyorlaw21_awake.sums lf _) (surveyorlaw21_awake.ev lf)
noncomputable def surveyorlaw21_right.f (lf : Nat) (a0 : (Bool × (ByteArray × (ByteArray × Unit)))) (a1 : (Bool × (ByteArray × (ByteArray × Unit)))) : Option (Bool × Unit) :=
 bd (surveyorref21_Check.f lf a0) fun r1 =>
 br (r1.1 == 0) (
  bd (surveyorref21_Check.f lf a1) fun r2 =>
  some ((r2.1 == 0), ())) (
  some (false, ()))
noncomputable def surveyorlaw21_right.E (lf : Nat) : Entry := ⟨[(.pair .bool (.pair .str (.pair .str .unit))), (.pair .bool (.pair .str (.pair .str .unit)))], [.bool], fun x => surveyorlaw21_right.f lf x.1 x.2.1⟩
theorem surveyorlaw21_right.ev (lf : Nat) (x : Tys (surveyorlaw21_right.E lf).ps) : (surveyorlaw21_right.E lf).f x = runQ Proofs.Tryz.prog (fun _ => FA.none) noLs (lookT [(19, surveyorref21_Check.E lf)]) (lf + 40) 14 6 23 (surveyorlaw21_right.E lf).ps (surveyorlaw21_right.E lf).rs x := by kernel_rfl
theorem surveyorlaw21_right.ok (lf : Nat) : EntryOK Proofs.Tryz.prog TabG 23 (surveyorlaw21_right.E lf) := entryT (lookT_cons (surveyorref21_Check.ok lf) lookT_nil) (annsOK_none fun _ => rfl) (surveyorlaw21_right.ev lf)
end
end Go.Q
