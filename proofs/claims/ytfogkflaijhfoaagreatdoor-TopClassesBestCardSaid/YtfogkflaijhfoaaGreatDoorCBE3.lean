import Derived.Lib.Strings
import Derived.Lib.Walk
import Derived.Lib.Builder
import Derived.Lib.UnsafeStr
import Derived.WalkKit
import Derived.Laws.Externs
import Derived.RegionTactic
import Derived.Deep.RegionLaw
import Derived.Lib.ItoaNum
import Derived.Lib.Atoi
import Derived.Shelf.Strconv.Atoi
import Derived.Shelf.LaysM
import Derived.Shelf.Strconv.Itoa3
import Derived.Shelf.Strings.Repeat
import Derived.Shelf.Strings.SlTrimAscii
import Derived.Test.YtfogkflaijhfoaaGreatDoorProg
import Derived.Lib.SlTrimSet
import Derived.Test.YtfogkflaijhfoaaGreatDoorCBE2
set_option linter.unusedVariables false
set_option linter.unusedSimpArgs false
set_option linter.unusedSectionVars false
set_option maxRecDepth 100000
namespace Go.Q
open Go.IntKind (i64)
open Go Go.RowKit
section
variable {P : Program} (w : World)
theorem loadBytes_int : ∀ (l : List Int) (a : Addr) (acc : ByteArray), (∀ (j : Nat) (x : Int), l[j]? = some x → w.cell? (a.add j) = some (.int .u8 x)) →
  (loadBytes a acc l.length).run P w = .ok ⟨acc.data ++ (l.map fun n => UInt8.ofNat n.toNat).toArray⟩ w
 | [], a, acc, _ => by simp [loadBytes]
 | x :: l, a, acc, h => by
  have h0 : w.cell? a = some (.int .u8 x) := by
   have := h 0 x rfl
   simpa [Addr.add] using this
  have ih := loadBytes_int l (a.add 1) (acc.push (UInt8.ofNat x.toNat)) (fun j y hy => by
   have := h (j + 1) y (by simpa using hy)
   have e : (a.add 1).add j = a.add (j + 1) := by
    unfold Addr.add
    by_cases hj : j = 0
    ·subst hj; simp
    ·simp [hj]; omega
   rw [e]; exact this)
  have hx : (x.toNat).toUInt8 = UInt8.ofNat x.toNat := rfl
  simp only [List.length_cons, loadBytes, Sem.run_bind, run_load, h0, Result.andThen, hx]
  rw [ih]
  congr 1
  apply ByteArray.ext
  simp [ByteArray.push]
theorem unsafeString_int (pt it ty e : TypeId) (hp : P.underlying pt = some (.pointer e)) (hc : P.cellsOf e = 1) (g cells : Nat) (hsh : w.shape? g = some (e, cells)) (l : List Int) (h0 : l ≠ []) (hn : l.length ≤ cells) (h63 : l.length ≤ 9223372036854775807)
  (hcell : ∀ (j : Nat) (x : Int), l[j]? = some x → w.cell? ((⟨g, 0, none⟩ : Addr).add j) = some (.int .u8 x)) :
  (Builtin.unsafeString_ #[pt, it] ty #[.pointer (some ⟨g, 0, none⟩), .int .i64 l.length]).run P w = .ok (.string (bytesS l)) (w.freeze ⟨g, 0, none⟩ l.length) := by
 have hl : l.length ≠ 0 := by simpa using h0
 have hlb := loadBytes_int (P := P) w l ⟨g, 0, none⟩ .empty hcell
 have hlies := Lib.liesAt_bytes (P := P) hc (cells / P.cellsOf e) l.length (by rw [hc]; simpa using hn)
 have h63' : ¬ (9223372036854775807 : Int) < (l.length : Int) := by omega
 have hdef : Builtin.unsafeString_ #[pt, it] ty #[.pointer (some ⟨g, 0, none⟩), .int .i64 l.length] =
   (do
    let n ← asInt (.int .i64 l.length)
    if n < 0 then runtimePanic (.error "unsafe.String: len out of range")
    if n > i64.max then unsupported (.unsafePointer "String: a length above the largest int")
    if n = 0 then pure (.string .empty)
    else if ← variablesAt ⟨g, 0, none⟩ (← elemOf pt) n.toNat then do
     let s ← loadBytes ⟨g, 0, none⟩ .empty n.toNat
     freeze ⟨g, 0, none⟩ n.toNat
     pure (.string s)
    else unsupported (.unsafePointer "String: not so many bytes at ptr")) := rfl
 rw [hdef]
 have hmax : i64.max = 9223372036854775807 := rfl
 have hneg : ¬ (l.length : Int) < 0 := by omega
 have e1 : (ByteArray.empty.data ++ (l.map fun n => UInt8.ofNat n.toNat).toArray) = (l.map fun n => UInt8.ofNat n.toNat).toArray := by simp
 rw [e1] at hlb
 simp [asInt, asIntOf, hmax, h63', hneg, hl, variablesAt, hsh, elemOf, run_underlying hp, hlies, hlb, bytesS]
end
set_option maxHeartbeats 1000000 in
set_option maxRecDepth 100000 in
theorem copyCheck_used (b : Nat) (w : World) (h0 : w.cell? ⟨b, 0, none⟩ = some (.pointer (some ⟨b, 0, none⟩))) :
  Calls Proofs.Tryz.prog 378 #[.pointer (some ⟨b, 0, none⟩)] w fun e w' => e = .returned (.tuple #[]) ∧ w' = w := by
 have hp : Proofs.Tryz.prog.underlying 296 = some (.pointer 298) := by kernel_rfl
 obtain ⟨j, hj⟩ : ∃ j, Proofs.Tryz.prog.info? 298 = some j := Option.isSome_iff_exists.1 (by kernel_rfl)
 go_enter Proofs.Tryz.func378, Proofs.Tryz.ntmps378
 go_wp2
 rw [Lib.run_neq_ptr_same w _ hp hj]
 go_wp2
 go_end0
 exact ⟨rfl, rfl⟩
set_option maxHeartbeats 1000000 in
set_option maxRecDepth 100000 in
theorem copyCheck_fresh (b : Nat) (w : World) (h0 : w.cell? ⟨b, 0, none⟩ = some (.pointer none)) (hsh : w.shape? b = some (298, 2)) (hfz : w.frozen? ⟨b, 0, none⟩ = false) :
  Calls Proofs.Tryz.prog 378 #[.pointer (some ⟨b, 0, none⟩)] w fun e w' => e = .returned (.tuple #[]) ∧ w' = w.setCell ⟨b, 0, none⟩ (.pointer (some ⟨b, 0, none⟩)) := by
 have hp : Proofs.Tryz.prog.underlying 296 = some (.pointer 298) := by kernel_rfl
 have hu : Proofs.Tryz.prog.underlying 337 = some .unsafePointer := by kernel_rfl
 have hsz : (Proofs.Tryz.prog.info? 298).map (·.size) = some 2 := by kernel_rfl
 obtain ⟨j, hj, hjs⟩ := Option.map_eq_some_iff.1 hsz
 go_enter Proofs.Tryz.func378, Proofs.Tryz.ntmps378
 go_wp2
 rw [Lib.run_to_unsafe w ⟨b, 0, none⟩ hp hu hj (by rw [hjs]; decide) hsh (Nat.zero_lt_succ 1)]
 simp only [Result.andThen]
 rw [Oper.upon_value]
 go_wp2
 rw [run_callFunc_extern Proofs.Tryz.func393 (by kernel_rfl) (by kernel_rfl) (by kernel_rfl) (e := Extern.AbiNoEscape.same) (by kernel_rfl)]
 rw [Lib.run_noEscape]
 simp only [Result.andThen]
 rw [Oper.upon_value]
 go_wp2
 rw [Lib.run_from_unsafe w ⟨b, 0, none⟩ hu hp hj hsh (by kernel_rfl)]
 simp only [Result.andThen]
 rw [Oper.upon_value]
 go_wp2
 go_end0
 exact ⟨rfl, rfl⟩
set_option maxHeartbeats 1000000 in
set_option maxRecDepth 100000 in
theorem bString_any (b g n cap sz : Nat) (p : Value) (cur : Array Value) (l : List Int) (w : World) (hbk : w.heap[b]? = some (.cells #[p, .slice (some ⟨g, 0, none⟩) n cap] 298 (0, 0))) (hg : w.heap[g]? = some (.cells cur 5 (0, 0)))
  (hn : n = l.length) (h0 : l ≠ []) (hc0 : cap ≠ 0) (hsz : cur.size = sz) (hle : l.length ≤ sz) (h63 : l.length ≤ 9223372036854775807) (hcell : ∀ (j : Nat) (x : Int), l[j]? = some x → cur[j]? = some (.int .u8 x)) :
  Calls Proofs.Tryz.prog 346 #[.pointer (some ⟨b, 0, none⟩)] w fun e w' => e = .returned (.string (bytesS l)) ∧ w' = w.drew.freeze ⟨g, 0, none⟩ l.length := by
 subst hn
 have c1 : w.drew.cell? ⟨b, 1, none⟩ = some (.slice (some ⟨g, 0, none⟩) l.length cap) := by
  have : w.drew.heap[b]? = some (.cells #[p, .slice (some ⟨g, 0, none⟩) l.length cap] 298 (0, 0)) := hbk
  rw [Lib.cell_of_heap this]; rfl
 have hSD : (Builtin.unsafeSliceData_ #[239] 330 #[.slice (some ⟨g, 0, none⟩) l.length cap]).run Proofs.Tryz.prog w.drew = .ok (.pointer (some ⟨g, 0, none⟩)) w.drew :=
  Lib.run_unsafeSliceData_row _ _ _ _ _ _ hc0
 have hUS : (Builtin.unsafeString_ #[330, 3] 9 #[.pointer (some ⟨g, 0, none⟩), .int .i64 l.length]).run Proofs.Tryz.prog w.drew = .ok (.string (bytesS l)) (w.drew.freeze ⟨g, 0, none⟩ l.length) := by
  refine unsafeString_int w.drew 330 3 9 5 (by kernel_rfl) (by kernel_rfl) g cur.size (by have hg' : w.drew.heap[g]? = some (.cells cur 5 (0, 0)) := hg; simp [World.shape?, hg']) l h0 (by omega) h63 ?_
  intro j x hx
  have e : (⟨g, 0, none⟩ : Addr).add j = ⟨g, j, none⟩ := by unfold Addr.add; split <;> simp_all
  rw [e]
  have hg' : w.drew.heap[g]? = some (.cells cur 5 (0, 0)) := hg
  rw [Lib.cell_of_heap hg']
  exact hcell j x hx
 go_enter Proofs.Tryz.func346, Proofs.Tryz.ntmps346
 go_wp2
 go_region
 all_goals (go_wp2; go_ret; exact ⟨rfl, rfl⟩)
end Go.Q
namespace Go.Q
open Go Go.RowKit
theorem mem_set_self {mem : Mem} {i : Nat} {x : Blk} (h : mem[i]? = some (some x)) : mem.set i (some x) = mem := by
 apply List.ext_getElem?
 intro j
 rw [List.getElem?_set]
 by_cases e : i = j
 ·subst e; rw [if_pos rfl, if_pos (List.getElem?_eq_some_iff.1 h).1, h]
 ·rw [if_neg e]
theorem copyCheck_ok : SpkOK Proofs.Tryz.prog (.copyCheck 298) 378 := by
 intro w0 m B F mem w args vals q o mem' h ho hm hR hbd hv
 unfold spcE at h
 split at h
 ·rename_i tB b hs
  cases hs
  split at h
  ·rename_i p v t hb
   split at h
   ·rename_i hc
    obtain ⟨hmb, rfl, hfr⟩ := hc
    cases h
    obtain ⟨rfl, rfl⟩ := ho
    obtain ⟨h0, h1, ds, h2, h3⟩ := hR.blk b _ hb
    obtain ⟨d0, ds1, rfl, e1, e2⟩ := h3.head
    obtain ⟨d1, ds2, rfl, e3, e4⟩ := e2.head
    have : ds2 = [] := List.length_eq_zero_iff.1 e4.1.symm
    subst this
    obtain ⟨a0, as1, rfl, f1, f2⟩ := VRs.head hv
    have : as1 = [] := List.length_eq_zero_iff.1 f2.1.symm
    subst this
    cases f1
    rw [h1]
    have hlive : Live mem b := ⟨_, hb⟩
    have hself : ∀ w' : World, VR B F w' (.ptr b 0) (.pointer (some ⟨(B b).blk, 0, none⟩)) := fun w' => by
     have := VR.ptr (B := B) (F := F) (w := w') b 0
     rwa [h1] at this
    have hbdv : ∀ s ∈ ([.ptr b 0, v] : List SV), Bd (Live mem) s := by
     intro s hs
     simp at hs
     rcases hs with rfl | rfl
     ·exact .ptr hlive
     ·exact hR.bd b _ hb _ (by simp [Blk.refs])
    unfold freshB at hfr
    split at hfr
    ·cases e1
     refine (copyCheck_fresh (B b).blk w (by simp [World.cell?, h2]) (by simp [World.shape?, h2]) (by simp [World.frozen?, h2])).mono ?_
     rintro e w' ⟨rfl, rfl⟩
     have hheap : (w.setCell ⟨(B b).blk, 0, none⟩ (.pointer (some ⟨(B b).blk, 0, none⟩))).heap[(B b).blk]? = some (.cells #[.pointer (some ⟨(B b).blk, 0, none⟩), d1] 298 (0, 0)) := by
      simp [World.setCell, Array.getElem?_modify, h2]
     have hne : ∀ k, k ≠ (B b).blk → (w.setCell ⟨(B b).blk, 0, none⟩ (.pointer (some ⟨(B b).blk, 0, none⟩))).heap[k]? = w.heap[k]? := fun k hk => by
      simp [World.setCell, Array.getElem?_modify, Ne.symm hk]
     have hkf : KeepsF F w (w.setCell ⟨(B b).blk, 0, none⟩ (.pointer (some ⟨(B b).blk, 0, none⟩))) :=
      ⟨fun k hk => hne k fun e => hR.fr b _ hb rfl h0 rfl (e ▸ hk), fun d hd => by rw [hne d fun e => by rw [e, h2] at hd; cases hd]; exact hd, by simp [World.setCell]⟩
     refine ⟨B, F, _, rfl, VR.tup' (ds := []) .nil, ?_, ⟨fun _ _ => rfl, fun _ h => h, hkf, ext_set hb (fun r h => by cases h), fun _ h => .inl h⟩, .tup (fun s hs => by cases hs)⟩
     refine hR.turn hmb hb rfl rfl rfl (by simp [World.setCell]) ⟨rfl, rfl, rfl⟩ h0 hne (by rw [h2]; simp) ⟨h0, h1, _, hheap, ?_⟩ hbdv
     exact .cons (hself _) (.cons (e3.mono (fun _ h => h) hkf.f) .nil)
    ·rename_i c
     have : c = b := by simpa using hfr
     subst this
     cases e1
     refine (copyCheck_used (B c).blk w (by simp [World.cell?, h2, h1])).mono ?_
     rintro e w' ⟨rfl, rfl⟩
     rw [mem_set_self hb]
     exact ⟨B, F, _, rfl, VR.tup' (ds := []) .nil, hR, Nx.refl, .tup (fun s hs => by cases hs)⟩
    ·cases hfr
   ·cases h
  ·cases h
 ·rename_i hs; cases hs
 ·cases h
theorem bString_ok : SpkOK Proofs.Tryz.prog (.bString 298 5) 346 := by
 intro w0 m B F mem w args vals q o mem' h ho hm hR hbd hv
 unfold spcE at h
 split at h
 ·rename_i hs; cases hs
 ·rename_i tB tE b hs
  cases hs
  split at h
  ·rename_i p r t hb
   split at h
   ·rename_i T l e hr
    split at h
    ·rename_i hc
     obtain ⟨hmb, hmr, rfl, rfl⟩ := hc
     split at h
     ·rename_i l' hl'
      obtain ⟨rfl, e⟩ := castL_some hl'
      subst e
      cases h
      obtain ⟨s, hs, he⟩ := ho
      cases he
      split at hs
      ·rename_i hpos
       cases hs
       obtain ⟨h0, h1, ds, h2, h3⟩ := hR.blk b _ hb
       obtain ⟨d0, ds1, rfl, e1, e2⟩ := h3.head
       obtain ⟨d1, ds2, rfl, e3, e4⟩ := e2.head
       have : ds2 = [] := List.length_eq_zero_iff.1 e4.1.symm
       subst this
       obtain ⟨a0, as1, rfl, f1, f2⟩ := VRs.head hv
       have : as1 = [] := List.length_eq_zero_iff.1 f2.1.symm
       subst this
       cases f1
       cases e3
       rw [h1]
       rcases hR.blk r _ hr with ⟨_, rfl⟩ | ⟨k0, k1, k2, k3, es, k4, k5, k7, k6⟩
       ·simp at hpos
       ·obtain ⟨g1, g2⟩ := hR.give hmr hr
        have hval : (B r).val = .slice (some ⟨(B r).blk, 0, none⟩) l'.length (B r).cap := by simp [Place.val, k0, k1, k2]
        rw [hval] at h2
        refine (bString_any (B b).blk (B r).blk l'.length (B r).cap es.length d0 es.toArray l' w (by simpa using h2) k4 rfl (fun e => by simp [e] at hpos) (by omega) (by simp) (by simp only [Ty.n] at k5; omega) (by simp only [maxLen] at k7; omega) ?_).mono ?_
        ·intro j x hx
         obtain ⟨cs, c1, c2⟩ := k6 j x hx
         rw [show cs = _ from c1] at c2
         have := c2 0 _ rfl
         simpa [Ty.n] using this
        ·rintro e w' ⟨rfl, rfl⟩
         have hne : ∀ k, k ≠ (B r).blk → (w.drew.freeze ⟨(B r).blk, 0, none⟩ l'.length).heap[k]? = w.heap[k]? := fun k hk => by
          unfold World.freeze
          split
          ·rfl
          ·simp [Array.getElem?_modify, Ne.symm hk]; try rfl
         have hsz : (w.drew.freeze ⟨(B r).blk, 0, none⟩ l'.length).heap.size = w.heap.size := by
          unfold World.freeze; split <;> simp
         have hos : (w.drew.freeze ⟨(B r).blk, 0, none⟩ l'.length).os = w.os ∧ (w.drew.freeze ⟨(B r).blk, 0, none⟩ l'.length).tape = w.tape ∧ (w.drew.freeze ⟨(B r).blk, 0, none⟩ l'.length).output = w.output := by
          unfold World.freeze; split <;> exact ⟨rfl, rfl, rfl⟩
         have hkf : KeepsF F w (w.drew.freeze ⟨(B r).blk, 0, none⟩ l'.length) :=
          ⟨fun k hk => hne k fun e => hR.fr r _ hr rfl k0 rfl (e ▸ hk), fun d hd => by rw [hne d fun e => by rw [e, k4] at hd; cases hd]; exact hd, by rw [hsz]; exact Nat.le_refl _⟩
         have hRM : RM w0 m B F (mem.set r (some .gone)) (w.drew.freeze ⟨(B r).blk, 0, none⟩ l'.length) :=
          hR.turn (b' := .gone) hmr hr rfl rfl rfl hsz hos k0 hne (by rw [k4]; simp) trivial (fun s hs => by cases hs)
         exact ⟨B, F, _, rfl, .v _, hRM, ⟨fun _ _ => rfl, fun _ h => h, hkf, ext_set (y := .gone) hr (fun r h => by cases h), fun _ h => .inl h⟩, .v _⟩
      ·cases hs
     ·cases h
    ·cases h
   ·cases h
  ·cases h
 ·cases h
end Go.Q
namespace Go.N
open Go.IntKind (i64)
open Go Go.Q Go.Rx
theorem bdS {α β : Type} (x : α) (f : α → Option β) : bd (some x) f = f x := by rw [bd_eq]; rfl
theorem brT {β : Type} (x y : Option β) : br true x y = x := by rw [br_eq]; rfl
theorem brF {β : Type} (x y : Option β) : br false x y = y := by rw [br_eq]; rfl
theorem brI {β : Type} (b : Bool) (x y : Option β) : br b x y = if b = true then x else y := by rw [br_eq]; cases b <;> rfl
theorem w64 {n : Int} (h1 : -9223372036854775808 ≤ n) (h2 : n ≤ 9223372036854775807) : i64.wrap n = n := by
 unfold IntKind.wrap
 have e1 : (2 : Int) ^ i64.bits = 18446744073709551616 := by decide
 have e2 : (2 : Int) ^ (i64.bits - 1) = 9223372036854775808 := by decide
 have e3 : i64.signed = true := rfl
 simp only [e1, e2, e3, Bool.true_and, decide_eq_true_eq]
 split <;> omega
theorem idxL_nat {α : Type} (l : List α) (i : Nat) (h : i < l.length) : idxL l (i : Int) = some l[i] := by
 unfold idxL
 rw [if_pos (by omega), Int.toNat_natCast, List.getElem?_eq_getElem h]
theorem idxL_int {α : Type} (l : List α) (j : Int) (i : Nat) (e : j = i) (h : i < l.length) : idxL l j = some l[i] := by subst e; exact idxL_nat l i h
theorem idxB_nat (n i : Nat) (h : i < n) : idxB n (i : Int) = some i := by
 unfold idxB
 rw [if_pos ⟨by omega, by omega⟩, Int.toNat_natCast]
theorem upE_set {α : Type} (l : List α) (i : Nat) (z : α) (h : i < l.length) : upE l i (fun _ => some z) = some (l.set i z) := by
 unfold upE
 rw [List.getElem?_eq_getElem h]
theorem mkL_nat {α : Type} (n c : Int) (z : α) (k : Nat) (h : n = k) (h2 : c = k) (hk : k ≤ 1099511627776) : mkL n c 8 z = some (List.replicate k z) := by
 subst h; subst h2
 unfold mkL
 rw [if_pos ⟨rfl, by omega, by omega, by omega, by rw [Int.toNat_natCast]; simp only [maxLen]; omega⟩, Int.toNat_natCast]
theorem apL_ok {α : Type} (b : Nat) (l l' : List α) (hb : b ≤ 8) (h : l.length + l'.length ≤ 1099511627776) : apL true b l l' = some (l ++ l') := by
 unfold apL
 have : (l.length + l'.length) * b ≤ 1099511627776 * 8 := Nat.mul_le_mul h hb
 rw [if_pos ⟨rfl, by simp only [maxLen]; omega, by omega⟩]
theorem cutL_to {α : Type} (l : List α) (h : Int) (k : Nat) (e : h = k) (hk : k ≤ l.length) : cutL l none (some h) = some (l.take k) := by
 subst e
 unfold cutL Rx.bnd
 simp only [Option.bind_some, Int.toNat_natCast]
 rw [if_pos ⟨by omega, by omega⟩]
 simp
theorem iRem_nn {a b : Int} (ha : 0 ≤ a) (hb : b ≠ 0) : iRem a b = some (a % b) := by
 unfold iRem
 rw [if_neg hb, Int.tmod_eq_emod_of_nonneg ha]
theorem iQuo_nn {a b : Int} (ha : 0 ≤ a) (hb : 0 < b) (h : a ≤ 9223372036854775807) : iQuo .i64 a b = some (a / b) := by
 unfold iQuo
 rw [if_neg (by omega), Int.tdiv_eq_ediv_of_nonneg ha]
 have h1 : 0 ≤ a / b := Int.ediv_nonneg ha (by omega)
 have h2 : a / b ≤ a := Int.ediv_le_self b ha
 rw [w64 (by omega) (by omega)]
abbrev bs (l : List UInt8) : ByteArray := ⟨l.toArray⟩
theorem toList_eq (s : ByteArray) : s.toList = s.data.toList := by
 have h := Lib.extract_toList s 0 s.size
 have e : s.extract 0 s.size = s := by
  obtain ⟨⟨l⟩⟩ := s
  rw [ByteArray.extract_mk]
  simp [ByteArray.size]
 rw [e] at h
 rw [h, Nat.sub_zero, List.drop_zero, List.take_of_length_le (by rw [← Lib.size_eq]; exact Nat.le_refl _)]
theorem bs_toList (l : List UInt8) : (bs l).toList = l := by rw [toList_eq]
theorem bs_size (l : List UInt8) : (bs l).size = l.length := by rw [Lib.size_eq]
theorem bs_eta (s : ByteArray) : bs s.data.toList = s := by obtain ⟨⟨l⟩⟩ := s; rfl
theorem beq_bs (l m : List UInt8) : ((bs l).toList == (bs m).toList) = decide (l = m) := by
 rw [bs_toList, bs_toList]
 by_cases h : l = m
 ·rw [decide_eq_true h]; exact beq_iff_eq.2 h
 ·rw [decide_eq_false h]; exact beq_eq_false_iff_ne.2 h
theorem sIdx_bs (l : List UInt8) (j : Int) (i : Nat) (e : j = i) (h : i < l.length) : sIdx (bs l) j = some l[i] := by
 subst e
 unfold sIdx
 rw [if_pos (by omega), Int.toNat_natCast]
 have : i < (bs l).size := by rw [bs_size]; exact h
 rw [getElem?_pos (bs l) i this]
 rfl
theorem bs_extract (l : List UInt8) (a b : Nat) : (bs l).extract a b = bs ((l.drop a).take (b - a)) := by
 rw [← bs_eta ((bs l).extract a b)]
 congr 1
 rw [← toList_eq, Lib.extract_toList]
theorem sCut_bs (l : List UInt8) (i j : Int) (a b : Nat) (ei : i = a) (ej : j = b) (h1 : a ≤ b) (h2 : b ≤ l.length) : sCut (bs l) (some i) (some j) = some (bs ((l.drop a).take (b - a))) := by
 subst ei; subst ej
 unfold sCut bnd
 simp only [Int.toNat_natCast, bs_size]
 rw [if_pos ⟨by omega, by omega⟩]
 simp only [Option.bind_some]
 rw [if_pos ⟨by omega, by omega⟩]
 simp only [Option.bind_some]
 rw [bs_extract]
theorem sCut_from (l : List UInt8) (i : Int) (a : Nat) (ei : i = a) (h1 : a ≤ l.length) : sCut (bs l) (some i) none = some (bs (l.drop a)) := by
 subst ei
 unfold sCut bnd
 simp only [Int.toNat_natCast, bs_size, Option.bind_some]
 rw [if_pos ⟨by omega, by omega⟩]
 simp only [Option.bind_some]
 rw [bs_extract, List.take_of_length_le (by rw [List.length_drop]; omega)]
theorem sCut_to (l : List UInt8) (j : Int) (b : Nat) (ej : j = b) (h2 : b ≤ l.length) : sCut (bs l) none (some j) = some (bs (l.take b)) := by
 subst ej
 unfold sCut bnd
 simp only [Int.toNat_natCast, bs_size, Option.bind_some]
 rw [if_pos ⟨by omega, by omega⟩]
 simp only [Option.bind_some]
 rw [bs_extract]
 simp
theorem sCat_bs (l m : List UInt8) (h : l.length + m.length ≤ 9223372036854775807) : sCat (bs l) (bs m) = some (bs (l ++ m)) := by
 unfold sCat
 have e : i64.max = 9223372036854775807 := by decide
 rw [e, bs_size, bs_size, if_neg (by omega)]
 congr 1
theorem sBytes_bs (l : List UInt8) : sBytes (bs l) = l.map fun b => (b.toNat : Int) := rfl
theorem bytesS_map (l : List UInt8) : bytesS (l.map fun b => (b.toNat : Int)) = bs l := by
 unfold bytesS bs
 congr 1
 rw [List.map_map]
 congr 1
 conv => rhs; rw [← List.map_id l]
 apply List.map_congr_left
 intro b _
 simp
end Go.N
namespace Go.N
open Go Go.Q Go.Rx
def lv (B : Int) : List Int → Int
 | [] => 0
 | x :: l => x + B * lv B l
def Dg (B : Int) (l : List Int) : Prop := ∀ x ∈ l, 0 ≤ x ∧ x < B
theorem Dg.tail {B : Int} {x : Int} {l : List Int} (h : Dg B (x :: l)) : Dg B l := fun y hy => h y (by simp [hy])
theorem Dg.head {B : Int} {x : Int} {l : List Int} (h : Dg B (x :: l)) : 0 ≤ x ∧ x < B := h x (by simp)
theorem Dg.nil {B : Int} : Dg B [] := fun y hy => by simp at hy
theorem Dg.cons {B x : Int} {l : List Int} (h1 : 0 ≤ x ∧ x < B) (h : Dg B l) : Dg B (x :: l) := by
 intro y hy
 rcases List.mem_cons.1 hy with rfl | hy
 ·exact h1
 ·exact h y hy
theorem Dg.take {B : Int} {l : List Int} (h : Dg B l) (n : Nat) : Dg B (l.take n) := fun y hy => h y (List.mem_of_mem_take hy)
theorem Dg.drop {B : Int} {l : List Int} (h : Dg B l) (n : Nat) : Dg B (l.drop n) := fun y hy => h y (List.mem_of_mem_drop hy)
theorem Dg.app {B : Int} {l m : List Int} (h : Dg B l) (k : Dg B m) : Dg B (l ++ m) := fun y hy => by
 rcases List.mem_append.1 hy with hy | hy
 ·exact h y hy
 ·exact k y hy
theorem Dg.at {B : Int} {l : List Int} (h : Dg B l) (i : Nat) (hi : i < l.length) : 0 ≤ l[i] ∧ l[i] < B := h _ (List.getElem_mem hi)
theorem Dg.getD {B : Int} (hB : 0 < B) {l : List Int} (h : Dg B l) (i : Nat) : 0 ≤ l.getD i 0 ∧ l.getD i 0 < B := by
 by_cases hi : i < l.length
 ·rw [List.getD_eq_getElem?_getD, List.getElem?_eq_getElem hi]; exact h.at i hi
 ·rw [List.getD_eq_getElem?_getD, List.getElem?_eq_none (by omega)]; exact ⟨by simp, by simpa using hB⟩
theorem Dg.zeros {B : Int} (hB : 0 < B) (n : Nat) : Dg B (List.replicate n 0) := fun y hy => by
 rw [(List.mem_replicate.1 hy).2]; exact ⟨by omega, hB⟩
theorem lv_app (B : Int) : ∀ l m : List Int, lv B (l ++ m) = lv B l + B ^ l.length * lv B m
 | [], m => by simp [lv]
 | x :: l, m => by
  rw [List.cons_append, lv, lv, lv_app B l m, List.length_cons, Int.pow_succ, Int.mul_add, Int.mul_comm (B ^ l.length) B, Int.mul_assoc]
  omega
theorem lv_zeros (B : Int) : ∀ n : Nat, lv B (List.replicate n 0) = 0
 | 0 => rfl
 | n + 1 => by rw [List.replicate_succ, lv, lv_zeros B n]; simp
theorem lv_nonneg {B : Int} (hB : 0 < B) : ∀ {l : List Int}, Dg B l → 0 ≤ lv B l
 | [], _ => by simp [lv]
 | x :: l, h => by
  have h1 := h.head
  have h2 := lv_nonneg hB h.tail
  have h3 := Int.mul_nonneg (Int.le_of_lt hB) h2
  rw [lv]; omega
theorem lv_lt {B : Int} (hB : 0 < B) : ∀ {l : List Int}, Dg B l → lv B l < B ^ l.length
 | [], _ => by simp [lv]
 | x :: l, h => by
  have h1 := h.head
  have h2 := lv_lt hB h.tail
  have h3 : B * (lv B l + 1) ≤ B * B ^ l.length := Int.mul_le_mul_of_nonneg_left (by omega) (Int.le_of_lt hB)
  rw [lv, List.length_cons, Int.pow_succ, Int.mul_comm (B ^ l.length) B]
  rw [Int.mul_add] at h3
  omega
theorem pow_pos' {B : Int} (hB : 0 < B) (n : Nat) : 0 < B ^ n := Int.pow_pos hB
def Tr (l : List Int) : Prop := l.getLast? ≠ some 0
theorem Tr.nil : Tr [] := by simp [Tr]
theorem lv_top {B : Int} (hB : 0 < B) {l : List Int} (h : Dg B l) (ht : Tr l) (hn : l ≠ []) : B ^ (l.length - 1) ≤ lv B l := by
 obtain ⟨m, x, rfl⟩ : ∃ m x, l = m ++ [x] := ⟨l.dropLast, l.getLast hn, (List.dropLast_concat_getLast hn).symm⟩
 have hx : x ≠ 0 := by
  intro e; subst e; simp [Tr] at ht
 have hx2 := h x (by simp)
 have hm : Dg B m := fun y hy => h y (by simp [hy])
 have h0 := lv_nonneg hB hm
 rw [lv_app, List.length_append, List.length_singleton, Nat.add_sub_cancel]
 simp only [lv, Int.mul_zero, Int.add_zero]
 have : B ^ m.length * 1 ≤ B ^ m.length * x := Int.mul_le_mul_of_nonneg_left (by omega) (Int.le_of_lt (pow_pos' hB _))
 omega
theorem lv_pos {B : Int} (hB : 0 < B) {l : List Int} (h : Dg B l) (ht : Tr l) (hn : l ≠ []) : 0 < lv B l := by
 have := lv_top hB h ht hn
 have := pow_pos' hB (l.length - 1)
 omega
theorem lv_eq_zero {B : Int} (hB : 0 < B) {l : List Int} (h : Dg B l) (ht : Tr l) : lv B l = 0 ↔ l = [] := by
 constructor
 ·intro e
  by_cases hn : l = []
  ·exact hn
  ·have := lv_pos hB h ht hn; omega
 ·rintro rfl; rfl
theorem pow_mono' {B : Int} (hB : 1 ≤ B) {a b : Nat} (h : a ≤ b) : B ^ a ≤ B ^ b := by
 obtain ⟨k, rfl⟩ := Nat.exists_eq_add_of_le h
 rw [Int.pow_add]
 have h1 : 0 < B ^ a := pow_pos' (by omega) a
 have h2 : 0 < B ^ k := pow_pos' (by omega) k
 have : B ^ a * 1 ≤ B ^ a * B ^ k := Int.mul_le_mul_of_nonneg_left (by omega) (by omega)
 omega
theorem lv_len_lt {B : Int} (hB : 1 < B) {l m : List Int} (h1 : Dg B l) (h2 : Dg B m) (ht : Tr m) (h : l.length < m.length) : lv B l < lv B m := by
 have a := lv_lt (by omega) h1
 have b := lv_top (by omega) h2 ht (by intro e; subst e; simp at h)
 have c := pow_mono' (B := B) (by omega) (show l.length ≤ m.length - 1 by omega)
 omega
def tr (l : List Int) : List Int := (l.reverse.dropWhile (· == 0)).reverse
theorem tr_snoc0 (l : List Int) : tr (l ++ [0]) = tr l := by unfold tr; rw [List.reverse_append]; simp
theorem tr_snoc (l : List Int) (x : Int) (h : x ≠ 0) : tr (l ++ [x]) = l ++ [x] := by
 unfold tr; rw [List.reverse_append]; simp [h]
theorem tr_nil : tr [] = [] := rfl
theorem tr_ind {p : List Int → Prop} (l : List Int) (h0 : p []) (hz : ∀ l, p l → p (l ++ [0])) (hx : ∀ l x, x ≠ 0 → p (l ++ [x])) : p l := by
 induction h : l.length generalizing l with
 | zero => rw [List.length_eq_zero_iff.1 h]; exact h0
 | succ n ih =>
  have hn : l ≠ [] := by intro e; subst e; simp at h
  rw [← List.dropLast_concat_getLast hn]
  by_cases e : l.getLast hn = 0
  ·rw [e]; exact hz _ (ih _ (by rw [List.length_dropLast]; omega))
  ·exact hx _ _ e
theorem tr_tr (l : List Int) : Tr (tr l) := by
 refine tr_ind (p := fun l => Tr (tr l)) l Tr.nil (fun l h => by rw [tr_snoc0]; exact h) fun l x h => ?_
 rw [tr_snoc _ _ h]; simp [Tr, h]
theorem lv_tr (B : Int) (l : List Int) : lv B (tr l) = lv B l := by
 refine tr_ind (p := fun l => lv B (tr l) = lv B l) l rfl (fun l h => by rw [tr_snoc0, h, lv_app]; simp [lv]) fun l x h => by rw [tr_snoc _ _ h]
theorem dg_tr {B : Int} {l : List Int} (h : Dg B l) : Dg B (tr l) := by
 intro y hy
 apply h
 unfold tr at hy
 have := List.mem_reverse.1 hy
 exact List.mem_reverse.1 ((List.dropWhile_sublist _).subset this)
theorem tr_of_Tr {l : List Int} (h : Tr l) : tr l = l := by
 revert h
 refine tr_ind (p := fun l => Tr l → tr l = l) l (fun _ => rfl) (fun l _ h => by simp [Tr] at h) fun l x hx _ => tr_snoc _ _ hx
theorem tr_len (l : List Int) : (tr l).length ≤ l.length := by
 unfold tr
 have := (List.dropWhile_sublist (fun x : Int => x == 0) (l := l.reverse)).length_le
 simpa using this
def addL (B : Int) : List Int → List Int → Int → Nat → List Int
 | _, _, _, 0 => []
 | xs, ys, c, n + 1 => (c + xs.headD 0 + ys.headD 0) % B :: addL B xs.tail ys.tail ((c + xs.headD 0 + ys.headD 0) / B) n
def subL (B : Int) : List Int → List Int → Int → Nat → List Int
 | _, _, _, 0 => []
 | xs, ys, c, n + 1 => (xs.headD 0 - c - ys.headD 0) % B :: subL B xs.tail ys.tail (-((xs.headD 0 - c - ys.headD 0) / B)) n
theorem addL_len (B : Int) : ∀ (n : Nat) (xs ys : List Int) (c : Int), (addL B xs ys c n).length = n
 | 0, _, _, _ => rfl
 | n + 1, xs, ys, c => by rw [addL, List.length_cons, addL_len B n]
theorem subL_len (B : Int) : ∀ (n : Nat) (xs ys : List Int) (c : Int), (subL B xs ys c n).length = n
 | 0, _, _, _ => rfl
 | n + 1, xs, ys, c => by rw [subL, List.length_cons, subL_len B n]
theorem lv_headD (B : Int) (l : List Int) : lv B l = l.headD 0 + B * lv B l.tail := by
 cases l with
 | nil => simp [lv]
 | cons x l => rfl
theorem mod_split {B : Int} (hB : 0 < B) (s q : Int) (n : Nat) : s % B + B * ((s / B + q) % B ^ n) = (s + B * q) % B ^ (n + 1) := by
 have hM : 0 < B ^ n := pow_pos' hB n
 have h1 : 0 ≤ s % B := Int.emod_nonneg s (by omega)
 have h2 : s % B < B := Int.emod_lt_of_pos s hB
 have h3 : 0 ≤ (s / B + q) % B ^ n := Int.emod_nonneg _ (by omega)
 have h4 : (s / B + q) % B ^ n < B ^ n := Int.emod_lt_of_pos _ hM
 have e : s + B * q = (s % B + B * ((s / B + q) % B ^ n)) + B ^ (n + 1) * ((s / B + q) / B ^ n) := by
  have a := Int.emod_add_mul_ediv s B
  have b := Int.emod_add_mul_ediv (s / B + q) (B ^ n)
  have c : B ^ (n + 1) * ((s / B + q) / B ^ n) = B * (B ^ n * ((s / B + q) / B ^ n)) := by rw [Int.pow_succ, Int.mul_comm (B ^ n) B, Int.mul_assoc]
  have d : B * (s / B + q) = B * ((s / B + q) % B ^ n) + B * (B ^ n * ((s / B + q) / B ^ n)) := by rw [← Int.mul_add, b]
  rw [Int.mul_add] at d
  rw [c]; omega
 rw [e, Int.add_mul_emod_self_left]
 symm
 apply Int.emod_eq_of_lt
 ·have := Int.mul_nonneg (Int.le_of_lt hB) h3
  omega
 ·have : B * ((s / B + q) % B ^ n + 1) ≤ B * B ^ n := Int.mul_le_mul_of_nonneg_left (by omega) (Int.le_of_lt hB)
  rw [Int.mul_add] at this
  rw [Int.pow_succ, Int.mul_comm (B ^ n) B]
  omega
theorem lv_addL {B : Int} (hB : 0 < B) : ∀ (n : Nat) (xs ys : List Int) (c : Int), lv B (addL B xs ys c n) = (c + lv B xs + lv B ys) % B ^ n
 | 0, xs, ys, c => by simp [addL, lv, Int.emod_one]
 | n + 1, xs, ys, c => by
  rw [addL, lv, lv_addL hB n, lv_headD B xs, lv_headD B ys]
  rw [show c + (xs.headD 0 + B * lv B xs.tail) + (ys.headD 0 + B * lv B ys.tail) = (c + xs.headD 0 + ys.headD 0) + B * (lv B xs.tail + lv B ys.tail) by rw [Int.mul_add]; omega]
  rw [← mod_split hB, ← Int.add_assoc ((c + xs.headD 0 + ys.headD 0) / B)]
theorem lv_subL {B : Int} (hB : 0 < B) : ∀ (n : Nat) (xs ys : List Int) (c : Int), lv B (subL B xs ys c n) = (lv B xs - c - lv B ys) % B ^ n
 | 0, xs, ys, c => by simp [subL, lv, Int.emod_one]
 | n + 1, xs, ys, c => by
  rw [subL, lv, lv_subL hB n, lv_headD B xs, lv_headD B ys]
  rw [show xs.headD 0 + B * lv B xs.tail - c - (ys.headD 0 + B * lv B ys.tail) = (xs.headD 0 - c - ys.headD 0) + B * (lv B xs.tail - lv B ys.tail) by rw [Int.mul_sub]; omega]
  rw [← mod_split hB]
  congr 3
  omega
theorem dg_addL {B : Int} (hB : 0 < B) : ∀ (n : Nat) (xs ys : List Int) (c : Int), Dg B (addL B xs ys c n)
 | 0, xs, ys, c => Dg.nil
 | n + 1, xs, ys, c => Dg.cons ⟨Int.emod_nonneg _ (by omega), Int.emod_lt_of_pos _ hB⟩ (dg_addL hB n _ _ _)
theorem dg_subL {B : Int} (hB : 0 < B) : ∀ (n : Nat) (xs ys : List Int) (c : Int), Dg B (subL B xs ys c n)
 | 0, xs, ys, c => Dg.nil
 | n + 1, xs, ys, c => Dg.cons ⟨Int.emod_nonneg _ (by omega), Int.emod_lt_of_pos _ hB⟩ (dg_subL hB n _ _ _)
theorem take_set {α : Type} (l : List α) (i : Nat) (z : α) (h : i < l.length) : (l.set i z).take (i + 1) = l.take i ++ [z] := by
 rw [List.take_add_one]
 simp [List.getElem?_set, h, List.take_set_of_le]
theorem headD_drop (l : List Int) (i : Nat) : (l.drop i).headD 0 = l.getD i 0 := by
 simp [List.headD_eq_head?_getD, List.head?_drop, List.getD_eq_getElem?_getD]
theorem tail_drop' (l : List Int) (i : Nat) : (l.drop i).tail = l.drop (i + 1) := by simp [List.tail_drop]
theorem getD_lt (l : List Int) (i : Nat) (h : i < l.length) : l.getD i 0 = l[i] := by simp [List.getD_eq_getElem?_getD, h]
theorem getD_ge (l : List Int) (i : Nat) (h : ¬ i < l.length) : l.getD i 0 = 0 := by simp [List.getD_eq_getElem?_getD, h]
end Go.N
namespace Go.Q
open Go Go.RowKit
open Go.Rx (br bd br_eq bd_eq bd_some)
noncomputable section
inductive Sh where
 | any
 | int (k : IntKind)
 | bool
 | str
 | sl (T : Ty)
 | ep (T : Ty) (o : Nat)
 | rp (b n o : Nat)
 | p0 (b k : Nat)
 | p1 (b k : Nat)
 | q1 (b k : Nat)
 | ptr (b o : Nat)
 | row (b : Nat)
 | mp (b : Nat)
 | csl (b n k : Nat)
 | yld (i : Nat)
 | nil
 | nilp
 | nilf
 | nilm
 | nili
 | agg (l : List Sh)
 | tup (l : List Sh)
 | fn (g : FuncId) (f c : List Sh)
@[reducible] def Sh.L (s : Sh) (R : Type) (rc : List Sh → Type → Type) : Type := match s with
 | .int _ => Int × R
 | .bool => Bool × R
 | .str => ByteArray × R
 | .sl T => List T.α × R
 | .ep T _ => T.α × R
 | .rp _ _ _ => Nat × R
 | .p0 _ _ => Nat × R
 | .p1 _ _ => Nat × Nat × R
 | .q1 _ _ => Nat × Nat × R
 | .agg l => rc l R
 | .tup l => rc l R
 | .fn _ f c => rc f (rc c R)
 | _ => R
@[reducible] def DF (f : Sh → Type → Type) : List Sh → Type → Type
 | [], R => R
 | s :: l, R => f s (DF f l R)
@[reducible] def recD : Nat → List Sh → Type → Type
 | 0, _, R => R
 | d + 1, l, R => DF (fun s R => s.L R (recD d)) l R
@[reducible] def Sh.D (d : Nat) (s : Sh) (R : Type) : Type := s.L R (recD d)
abbrev BL (rc : List Sh → Type → Type) := (l : List Sh) → (R : Type) → rc l R → (γ : Type) → (List SV → R → γ) → γ
def bldS (rc : List Sh → Type → Type) (b : BL rc) (s : Sh) (R : Type) (x : s.L R rc) (γ : Type) (k : SV → R → γ) : γ := match s, x with
 | .int i, x => x.rec fun a r => k (.v (.int i a)) r
 | .bool, x => x.rec fun a r => k (.v (.bool a)) r
 | .str, x => x.rec fun a r => k (.v (.string a)) r
 | .sl T, x => x.rec fun a r => k (.sl T a) r
 | .ep T o, x => x.rec fun a r => k (.ep T a o) r
 | .rp b n o, x => x.rec fun a r => k (.rp b a n o) r
 | .p0 b i, x => x.rec fun a r => k (.part b 0 a i) r
 | .p1 b i, x => x.rec fun a r => r.rec fun c r => k (.part b a c i) r
 | .q1 b i, x => x.rec fun a r => r.rec fun c r => k (.ptc b a c i) r
 | .agg l, x => b l R x γ fun vs r => k (.agg vs) r
 | .tup l, x => b l R x γ fun vs r => k (.tup vs) r
 | .fn g f c, x => b f _ x γ fun fs r => b c R r γ fun cs r => k (.fn g fs cs) r
 | .ptr b o, x => k (.ptr b o) x
 | .row b, x => k (.row b) x
 | .mp b, x => k (.mp b) x
 | .csl b n i, x => k (.csl b n i) x
 | .yld i, x => k (.yld i) x
 | .nil, x => k (.v (.slice none 0 0)) x
 | .nilp, x => k (.v (.pointer none)) x
 | .nilf, x => k (.v .nilFunc) x
 | .nilm, x => k (.v (.map none)) x
 | .nili, x => k (.v .nilIface) x
 | .any, x => k .any x
def BF {f : Sh → Type → Type} (b : (s : Sh) → (R : Type) → f s R → (γ : Type) → (SV → R → γ) → γ) : (l : List Sh) → (R : Type) → DF f l R → (γ : Type) → (List SV → R → γ) → γ
 | [], R, x, γ, k => k [] x
 | s :: l, R, x, γ, k => b s (DF f l R) x γ fun v r => BF b l R r γ fun vs r => k (v :: vs) r
def recB : (d : Nat) → BL (recD d)
 | 0 => fun _ R x γ k => k [] x
 | d + 1 => BF (f := fun s R => s.L R (recD d)) (bldS (recD d) (recB d))
def bld (d : Nat) (s : Sh) (R : Type) (x : s.D d R) (γ : Type) (k : SV → R → γ) : γ := bldS (recD d) (recB d) s R x γ k
abbrev ML (rc : List Sh → Type → Type) := (l : List Sh) → List SV → Option ((R : Type) → R → rc l R)
def matS (rc : List Sh → Type → Type) (m : ML rc) (s : Sh) (v : SV) : Option ((R : Type) → R → s.L R rc) := match s with
 | .int k => match v with
  | .v (.int k' x) => if k' = k then some fun _ r => (x, r) else none
  | _ => none
 | .bool => match v with
  | .v (.bool x) => some fun _ r => (x, r)
  | _ => none
 | .str => match v with
  | .v (.string x) => some fun _ r => (x, r)
  | _ => none
 | .sl T => match v with
  | .sl T' l => if h : T' = T then some fun _ r => (h ▸ l, r) else none
  | _ => none
 | .ep T o => match v with
  | .ep T' x o' => if h : T' = T then (if o' = o then some fun _ r => (h ▸ x, r) else none) else none
  | _ => none
 | .rp b n o => match v with
  | .rp b' i n' o' => if b' = b ∧ n' = n ∧ o' = o then some fun _ r => (i, r) else none
  | _ => none
 | .p0 b k => match v with
  | .part b' 0 n k' => if b' = b ∧ k' = k then some fun _ r => (n, r) else none
  | _ => none
 | .p1 b k => match v with
  | .part b' lo n k' => if b' = b ∧ k' = k then some fun _ r => (lo, n, r) else none
  | _ => none
 | .q1 b k => match v with
  | .ptc b' lo n k' => if b' = b ∧ k' = k then some fun _ r => (lo, n, r) else none
  | _ => none
 | .agg l => match v with
  | .agg cs => m l cs
  | _ => none
 | .tup l => match v with
  | .tup cs => m l cs
  | _ => none
 | .fn g f c => match v with
  | .fn g' fs cs => if g' = g then (match m f fs with
   | some a => match m c cs with
    | some b => some fun R r => a _ (b R r)
    | none => none
   | none => none) else none
  | _ => none
 | .ptr b o => match v with
  | .ptr b' o' => if b' = b ∧ o' = o then some fun _ r => r else none
  | _ => none
 | .row b => match v with
  | .row b' => if b' = b then some fun _ r => r else none
  | _ => none
 | .mp b => match v with
  | .mp b' => if b' = b then some fun _ r => r else none
  | _ => none
 | .csl b n k => match v with
  | .csl b' n' k' => if b' = b ∧ n' = n ∧ k' = k then some fun _ r => r else none
  | _ => none
 | .yld i => match v with
  | .yld i' => if i' = i then some fun _ r => r else none
  | _ => none
 | .nil => match v with
  | .v (.slice none 0 0) => some fun _ r => r
  | _ => none
 | .nilp => match v with
  | .v (.pointer none) => some fun _ r => r
  | _ => none
 | .nilf => match v with
  | .v .nilFunc => some fun _ r => r
  | _ => none
 | .nilm => match v with
  | .v (.map none) => some fun _ r => r
  | _ => none
 | .nili => match v with
  | .v .nilIface => some fun _ r => r
  | _ => none
 | .any => match v with
  | .any => some fun _ r => r
  | _ => none
def MF {f : Sh → Type → Type} (m : (s : Sh) → SV → Option ((R : Type) → R → f s R)) : (l : List Sh) → List SV → Option ((R : Type) → R → DF f l R)
 | [], ss => match ss with
  | [] => some fun _ r => r
  | _ :: _ => none
 | s :: l, ss => match ss with
  | [] => none
  | v :: vs => match m s v with
   | some a => match MF m l vs with
    | some g => some fun R r => a _ (g R r)
    | none => none
   | none => none
def recM : (d : Nat) → ML (recD d)
 | 0 => fun _ _ => none
 | d + 1 => MF (f := fun s R => s.L R (recD d)) (matS (recD d) (recM d))
def mat (d : Nat) (s : Sh) (v : SV) : Option ((R : Type) → R → s.D d R) := matS (recD d) (recM d) s v
def LOK {rc : List Sh → Type → Type} (m : ML rc) (b : BL rc) : Prop := ∀ l vs f, m l vs = some f → ∀ (R : Type) (r : R) (γ : Type) (k : List SV → R → γ), b l R (f R r) γ k = k vs r
theorem matS_bldS {rc : List Sh → Type → Type} {m : ML rc} {b : BL rc} (hh : LOK m b) (s : Sh) (v : SV) (f : (R : Type) → R → s.L R rc) (h : matS rc m s v = some f) (R : Type) (r : R) (γ : Type) (k : SV → R → γ) : bldS rc b s R (f R r) γ k = k v r := by
 cases s with
 | agg l =>
  simp only [matS] at h
  split at h
  ·rename_i cs
   simp only [bldS]; rw [hh l cs f h R r]
  ·cases h
 | tup l =>
  simp only [matS] at h
  split at h
  ·rename_i cs
   simp only [bldS]; rw [hh l cs f h R r]
  ·cases h
 | fn g fl cl =>
  simp only [matS] at h
  split at h
  ·rename_i g' fs cs
   split at h
   ·rename_i hg
    split at h
    ·rename_i a ha
     split at h
     ·rename_i b' hb
      cases h
      simp only [bldS]; rw [hh fl fs a ha _ (b' R r), hh cl cs b' hb R r, hg]
     ·cases h
    ·cases h
   ·cases h
  ·cases h
 | sl T =>
  simp only [matS] at h
  split at h
  ·split at h
   ·rename_i hT; subst hT; cases h; rfl
   ·cases h
  ·cases h
 | ep T o =>
  simp only [matS] at h
  split at h
  ·split at h
   ·rename_i hT; subst hT
    split at h
    ·rename_i ho; cases h; simp only [bldS]; rw [ho]
    ·cases h
   ·cases h
  ·cases h
 | nil =>
  simp only [matS] at h
  split at h
  ·cases h; rfl
  ·cases h
 | nilp =>
  simp only [matS] at h
  split at h
  ·cases h; rfl
  ·cases h
 | nilf =>
  simp only [matS] at h
  split at h
  ·cases h; rfl
  ·cases h
 | nilm =>
  simp only [matS] at h
  split at h
  ·cases h; rfl
  ·cases h
 | nili =>
  simp only [matS] at h
  split at h
  ·cases h; rfl
  ·cases h
 | any =>
  simp only [matS] at h
  split at h
  ·cases h; rfl
  ·cases h
 | bool =>
  simp only [matS] at h
  split at h
  ·cases h; rfl
  ·cases h
 | str =>
  simp only [matS] at h
  split at h
  ·cases h; rfl
  ·cases h
 | _ =>
  simp only [matS] at h
  split at h
  ·split at h
   ·rename_i hc; cases h; simp_all [bldS]
   ·cases h
  ·cases h
theorem MF_BF {f : Sh → Type → Type} {m : (s : Sh) → SV → Option ((R : Type) → R → f s R)} {b : (s : Sh) → (R : Type) → f s R → (γ : Type) → (SV → R → γ) → γ} (h : ∀ s v a, m s v = some a → ∀ (R : Type) (r : R) (γ : Type) (k : SV → R → γ), b s R (a R r) γ k = k v r) :
  ∀ (l : List Sh) (vs : List SV) (g : (R : Type) → R → DF f l R), MF m l vs = some g → ∀ (R : Type) (r : R) (γ : Type) (k : List SV → R → γ), BF b l R (g R r) γ k = k vs r
 | [], vs, f, hf, R, r, γ, k => by
  simp only [MF] at hf
  split at hf
  ·cases hf; rfl
  ·cases hf
 | s :: l, vs, f, hf, R, r, γ, k => by
  simp only [MF] at hf
  split at hf
  ·cases hf
  ·rename_i v vs'
   split at hf
   ·rename_i f1 h1
    split at hf
    ·rename_i g h2
     cases hf
     simp only [BF]
     rw [h s v f1 h1 _ (g R r), MF_BF h l vs' g h2 R r]
    ·cases hf
   ·cases hf
theorem recM_ok : ∀ d, LOK (recM d) (recB d)
 | 0 => fun l vs f h => by cases h
 | d + 1 => fun l vs f h R r γ k => MF_BF (f := fun s R => s.L R (recD d)) (fun s v a hs R r γ k => matS_bldS (recM_ok d) s v a hs R r γ k) l vs f h R r γ k
theorem mat_bld (d : Nat) (s : Sh) (v : SV) (f : (R : Type) → R → s.D d R) (h : mat d s v = some f) (R : Type) (r : R) (γ : Type) (k : SV → R → γ) : bld d s R (f R r) γ k = k v r := matS_bldS (recM_ok d) s v f h R r γ k
inductive ShT where
 | a (n : Nat)
 | s (x : Sh)
def anyN : Nat → List SV → List SV
 | 0, l => l
 | n + 1, l => .any :: anyN n l
def dropAny : Nat → List SV → Option (List SV)
 | 0, l => some l
 | n + 1, l => match l with
  | .any :: l => dropAny n l
  | _ => none
theorem dropAny_spec : ∀ (n : Nat) (l m : List SV), dropAny n l = some m → l = anyN n m
 | 0, l, m, h => by simp only [dropAny, Option.some.injEq] at h; exact h
 | n + 1, l, m, h => by
  simp only [dropAny] at h
  split at h
  ·rw [anyN, ← dropAny_spec n _ _ h]
  ·cases h
@[reducible] def DT : List ShT → Type → Type
 | [], R => R
 | .a _ :: l, R => DT l R
 | .s x :: l, R => Sh.D 5 x (DT l R)
def bldT : (l : List ShT) → (R : Type) → DT l R → (γ : Type) → (List SV → R → γ) → γ
 | [], R, x, γ, k => k [] x
 | .a n :: l, R, x, γ, k => bldT l R x γ fun vs r => k (anyN n vs) r
 | .s h :: l, R, x, γ, k => bld 5 h (DT l R) x γ fun v r => bldT l R r γ fun vs r => k (v :: vs) r
def matT : (l : List ShT) → List SV → Option ((R : Type) → R → DT l R)
 | [], ss => match ss with
  | [] => some fun _ r => r
  | _ :: _ => none
 | .a n :: l, ss => match dropAny n ss with
  | some ss => matT l ss
  | none => none
 | .s h :: l, ss => match ss with
  | [] => none
  | v :: vs => match mat 5 h v with
   | some f => match matT l vs with
    | some g => some fun R r => f _ (g R r)
    | none => none
   | none => none
theorem matT_bldT : ∀ (l : List ShT) (vs : List SV) (f : (R : Type) → R → DT l R), matT l vs = some f → ∀ (R : Type) (r : R) (γ : Type) (k : List SV → R → γ), bldT l R (f R r) γ k = k vs r
 | [], vs, f, hf, R, r, γ, k => by
  simp only [matT] at hf
  split at hf
  ·cases hf; rfl
  ·cases hf
 | .a n :: l, vs, f, hf, R, r, γ, k => by
  simp only [matT] at hf
  split at hf
  ·rename_i ss h
   simp only [bldT]
   rw [matT_bldT l ss f hf R r, dropAny_spec _ _ _ h]
  ·cases hf
 | .s h :: l, vs, f, hf, R, r, γ, k => by
  simp only [matT] at hf
  split at hf
  ·cases hf
  ·rename_i v vs'
   split at hf
   ·rename_i f1 h1
    split at hf
    ·rename_i g h2
     cases hf
     simp only [bldT]
     rw [mat_bld 5 h v f1 h1 (DT l R) (g R r), matT_bldT l vs' g h2 R r]
    ·cases hf
   ·cases hf
inductive ShK where
 | no
 | cells (l : List ShT) (t : TypeId)
 | row (T : Ty) (t : TypeId) (fz : Bool)
 | rnd (l : List ShT) (g : FuncId) (li : Nat) (st : LoopState) (pd : Option Code)
 | dead
 | gone
 | map (k : IntKind) (is : List Int) (l : List ShT)
 | iter (mb n : Nat)
@[reducible] def DK : ShK → Type → Type
 | .cells l _, R => DT l R
 | .row T _ _, R => List T.α × R
 | .rnd l _ _ _ _, R => DT l R
 | .map _ _ l, R => DT l R
 | .iter _ _, R => List Nat × R
 | _, R => R
def bldK (b : ShK) (R : Type) (x : DK b R) (γ : Type) (k : Option Blk → R → γ) : γ := match b, x with
 | .no, x => k none x
 | .cells l t, x => bldT l R x γ fun vs r => k (some (.cells vs t)) r
 | .row T t fz, x => x.rec fun l r => k (some (.row T l t fz)) r
 | .rnd l g li st pd, x => bldT l R x γ fun vs r => k (some (.rnd ⟨vs, g, li, st, pd⟩)) r
 | .dead, x => k (some .dead) x
 | .gone, x => k (some .gone) x
 | .map kd is l, x => bldT l R x γ fun vs r => k (some (.map kd (is.zip vs))) r
 | .iter mb n, x => x.rec fun l r => k (some (.iter mb n l none)) r
def keysI : List Int → List (Int × SV) → Option (List SV)
 | [], es => match es with
  | [] => some []
  | _ :: _ => none
 | i :: is, es => match es with
  | [] => none
  | e :: es => if e.1 = i then (keysI is es).map (e.2 :: ·) else none
theorem keysI_spec : ∀ (is : List Int) (es : List (Int × SV)) (l : List SV), keysI is es = some l → es = is.zip l
 | [], es, l, h => by
  simp only [keysI] at h
  split at h
  ·cases h; rfl
  ·cases h
 | i :: is, es, l, h => by
  simp only [keysI] at h
  split at h
  ·cases h
  ·rename_i e es'
   split at h
   ·rename_i he
    obtain ⟨l', h1, rfl⟩ := Option.map_eq_some_iff.1 h
    rw [List.zip_cons_cons, ← keysI_spec is es' l' h1, ← he]
   ·cases h
def matK : (b : ShK) → Option Blk → Option ((R : Type) → R → DK b R)
 | .no, o => match o with
  | none => some fun _ r => r
  | some _ => none
 | .cells l t, o => match o with
  | some (.cells cs t') => if t' = t then matT l cs else none
  | _ => none
 | .row T t fz, o => match o with
  | some (.row T' l t' fz') => if h : T' = T then (if t' = t ∧ fz' = fz then some fun _ r => (h ▸ l, r) else none) else none
  | _ => none
 | .rnd l g li st pd, o => match st, pd with
  | .ready, none => match o with
   | some (.rnd r) => match r with
    | ⟨ts, g', li', .ready, none⟩ => if g' = g ∧ li' = li then matT l ts else none
    | _ => none
   | _ => none
  | _, _ => none
 | .dead, o => match o with
  | some .dead => some fun _ r => r
  | _ => none
 | .gone, o => match o with
  | some .gone => some fun _ r => r
  | _ => none
 | .map k is l, o => match o with
  | some (.map k' es) => if k' = k then (match keysI is es with
   | some vs => matT l vs
   | none => none) else none
  | _ => none
 | .iter mb n, o => match o with
  | some (.iter mb' n' sn none) => if mb' = mb ∧ n' = n then some fun _ r => (sn, r) else none
  | _ => none
theorem matK_bldK : ∀ (b : ShK) (o : Option Blk) (f : (R : Type) → R → DK b R), matK b o = some f → ∀ (R : Type) (r : R) (γ : Type) (k : Option Blk → R → γ), bldK b R (f R r) γ k = k o r := by
 intro b o f h R r γ k
 cases b with
 | cells l t =>
  simp only [matK] at h
  split at h
  ·rename_i cs t'
   split at h
   ·rename_i ht
    simp only [bldK]; rw [matT_bldT l cs f h R r, ht]
   ·cases h
  ·cases h
 | row T t fz =>
  simp only [matK] at h
  split at h
  ·rename_i T' l t' fz'
   split at h
   ·rename_i hT
    subst hT
    split at h
    ·rename_i ht
     cases h
     simp only [bldK]; rw [ht.1, ht.2]
    ·cases h
   ·cases h
  ·cases h
 | rnd l g li st pd =>
  simp only [matK] at h
  split at h
  ·split at h
   ·rename_i q
    split at h
    ·rename_i ts g' li'
     split at h
     ·rename_i hg
      simp only [bldK]; rw [matT_bldT l ts f h R r, hg.1, hg.2]
     ·cases h
    ·cases h
   ·cases h
  ·cases h
 | map k is l =>
  simp only [matK] at h
  split at h
  ·rename_i k' es
   split at h
   ·rename_i hk
    split at h
    ·rename_i vs hv
     simp only [bldK]; rw [matT_bldT l vs f h R r, hk, keysI_spec _ _ _ hv]
    ·cases h
   ·cases h
  ·cases h
 | iter mb n =>
  simp only [matK] at h
  split at h
  ·rename_i mb' n' sn
   split at h
   ·rename_i hc
    cases h
    simp only [bldK]; rw [hc.1, hc.2]
   ·cases h
  ·cases h
 | _ => simp only [matK] at h <;> split at h <;> first | (cases h; rfl) | cases h
@[reducible] def DM : List ShK → Type → Type
 | [], R => R
 | b :: l, R => DK b (DM l R)
def bldM : (l : List ShK) → (R : Type) → DM l R → (γ : Type) → (Mem → R → γ) → γ
 | [], R, x, γ, k => k [] x
 | b :: l, R, x, γ, k => bldK b (DM l R) x γ fun v r => bldM l R r γ fun vs r => k (v :: vs) r
def matM : (l : List ShK) → Mem → Option ((R : Type) → R → DM l R)
 | [], ss => match ss with
  | [] => some fun _ r => r
  | _ :: _ => none
 | b :: l, ss => match ss with
  | [] => none
  | v :: vs => match matK b v with
   | some f => match matM l vs with
    | some g => some fun R r => f _ (g R r)
    | none => none
   | none => none
theorem matM_bldM : ∀ (l : List ShK) (vs : Mem) (f : (R : Type) → R → DM l R), matM l vs = some f → ∀ (R : Type) (r : R) (γ : Type) (k : Mem → R → γ), bldM l R (f R r) γ k = k vs r
 | [], vs, f, hf, R, r, γ, k => by
  simp only [matM] at hf
  split at hf
  ·cases hf; rfl
  ·cases hf
 | b :: l, vs, f, hf, R, r, γ, k => by
  simp only [matM] at hf
  split at hf
  ·cases hf
  ·rename_i v vs'
   split at hf
   ·rename_i f1 h1
    split at hf
    ·rename_i g h2
     cases hf
     simp only [bldM]
     rw [matK_bldK b v f1 h1 (DM l R) (g R r), matM_bldM l vs' g h2 R r]
    ·cases hf
   ·cases hf
structure ShS where
 t : List ShT
 m : List ShK
@[reducible] def ShS.D (s : ShS) : Type := DT s.t (DM s.m Unit)
def ShS.b (s : ShS) (x : s.D) : St := bldT s.t (DM s.m Unit) x St fun ts r => bldM s.m Unit r St fun mem _ => (ts, mem)
def ShS.m? (s : ShS) (st : St) : Option s.D := match matT s.t st.1 with
 | some f => match matM s.m st.2 with
  | some g => some (f _ (g Unit ()))
  | none => none
 | none => none
theorem ShS.m?_spec {s : ShS} {st : St} {x : s.D} (h : s.m? st = some x) : st = s.b x := by
 unfold ShS.m? at h
 split at h
 ·rename_i f hf
  split at h
  ·rename_i g hg
   cases h
   unfold ShS.b
   rw [matT_bldT _ _ f hf, matM_bldM _ _ g hg]
  ·cases h
 ·cases h
end
end Go.Q
namespace Go.Q
open Go Go.RowKit
open Go.Rx (br bd br_eq bd_eq bd_some)
abbrev Ok (g : FuncId) (E : Entry) : Prop := EntryOK Proofs.Tryz.prog TabG g E
def kxF : Nat → Nat → List Nat → List Nat
 | 0, _, _ => []
 | f + 1, i, ks => match ks with
  | [] => i :: kxF f (i + 1) []
  | k :: ks => bif Nat.beq i k then kxF f (i + 1) ks else i :: kxF f (i + 1) (k :: ks)
def kx (n : Nat) (l : List Nat) : List Nat := kxF n 0 l
def annOf : List (Nat × Nr × Nr) → Nat → Nr × Nr
 | [], _ => (⟨[], [], []⟩, ⟨[], [], []⟩)
 | p :: l, li => bif li == p.1 then p.2 else annOf l li
def annsL : List (FuncId × FA) → FuncId → FA
 | [], _ => FA.none
 | p :: l, g => bif g == p.1 then p.2 else annsL l g
theorem aoN : AnnsOK Proofs.Tryz.prog (annsL []) := fun g s h => by cases h
theorem aoS {g : FuncId} {a : FA} {l : List (FuncId × FA)} (h : ∀ s, a.spc = some s → SpkOK Proofs.Tryz.prog s g) (hl : AnnsOK Proofs.Tryz.prog (annsL l)) : AnnsOK Proofs.Tryz.prog (annsL ((g, a) :: l)) := by
 intro g' s hs
 simp only [annsL] at hs
 by_cases e : g' = g
 ·subst e
  simp only [BEq.rfl, cond_true] at hs
  exact h s hs
 ·rw [show (g' == g) = false from by simpa using e, cond_false] at hs
  exact hl g' s hs
theorem aoC {g : FuncId} {n : List (Nat × Nr × Nr)} {i : List Nat} {l : List (FuncId × FA)} (hl : AnnsOK Proofs.Tryz.prog (annsL l)) : AnnsOK Proofs.Tryz.prog (annsL ((g, ⟨annOf n, none, i⟩) :: l)) :=
 aoS (fun s h => by cases h) hl
theorem aoP {g : FuncId} {n : List (Nat × Nr × Nr)} {i : List Nat} {s : Spk} {l : List (FuncId × FA)} (h : SpkOK Proofs.Tryz.prog s g) (hl : AnnsOK Proofs.Tryz.prog (annsL l)) : AnnsOK Proofs.Tryz.prog (annsL ((g, ⟨annOf n, some s, i⟩) :: l)) :=
 aoS (fun s' h' => by cases h'; exact h) hl
section
variable (an : FuncId → FA) (ls : List (Nat × FuncId × Sums)) (tb : List (FuncId × Entry)) (lf : Nat)
noncomputable def drG (ρ : Type) : Draws ρ := drawA Proofs.Tryz.prog (lookT tb) 0 fun n => clQ Proofs.Tryz.prog an (lookT tb) (lf + 40) 14 6 n ρ
noncomputable def itG {ρ : Type} (n0 g li j : Nat) (sg : Sums) (n : Nat) (st : St) (k : KE ρ) : Option ρ :=
 iterK (nrmS 0 ((an g).ann li).1 j) (nrmS 0 ((an g).ann li).2 j) (codeK Proofs.Tryz.prog g (an g).ann sg (drG an tb lf ρ) (goK true Proofs.Tryz.prog an (lsOf ls) (drG an tb lf ρ) (lookT tb) 0 (lf + 40) n0) 0 (lf + 40) none (li + 1) (loopP Proofs.Tryz.prog g li)) n st k
def sumE (sh : ShS) (f : sh.D → LTE) : St → Option LTE := fun st => (sh.m? st).map f
def sumsL : List (Nat × (St → Option LTE)) → Nat → St → Option LTE
 | [], _, _ => none
 | p :: l, li, st => bif li == p.1 then (match p.2 st with
  | some T => some T
  | none => sumsL l li st) else sumsL l li st
def LA (n0 g : Nat) (sg : Sums) (l : List (Nat × (St → Option LTE))) : Prop :=
 ∀ p ∈ l, ∀ (ρ : Type) (st : St) (T : LTE), p.2 st = some T → ∀ (k : KE ρ) (r : ρ), bd T.x (fun y => altK k (T.out y)) = some r → itG an ls tb lf n0 g p.1 (st.2.length - ((an g).ann p.1).1.acc.length) sg (lf + 40) st k = some r
def SL (q : List (Nat × FuncId × Sums)) : Prop := ∀ p ∈ q, ∃ l, p.2.2 = sumsL l ∧ LA an ls tb lf p.1 p.2.1 p.2.2 l
variable {an ls tb lf}
theorem laN {n0 g : Nat} {sg : Sums} : LA an ls tb lf n0 g sg [] := fun p hp => by cases hp
theorem laC {n0 g li j : Nat} {sg : Sums} {sh : ShS} {f : sh.D → LTE} {l : List (Nat × (St → Option LTE))} (hj : ∀ x : sh.D, (sh.b x).2.length - ((an g).ann li).1.acc.length = j)
  (h : ∀ (ρ : Type) (x : sh.D) (k : KE ρ), LeO (bd (f x).x fun y => altK k ((f x).out y)) (itG an ls tb lf n0 g li j sg (lf + 40) (sh.b x) k)) (hl : LA an ls tb lf n0 g sg l) : LA an ls tb lf n0 g sg ((li, sumE sh f) :: l) := by
 intro p hp ρ st T hT k r he
 rcases List.mem_cons.1 hp with rfl | hp
 ·simp only [sumE] at hT
  obtain ⟨x, hx, rfl⟩ := Option.map_eq_some_iff.1 hT
  have e := ShS.m?_spec hx
  subst e
  rw [hj]
  exact h ρ x k r he
 ·exact hl p hp ρ st T hT k r he
theorem slN : SL an ls tb lf [] := fun p hp => by cases hp
theorem slC {n0 g : Nat} {l : List (Nat × (St → Option LTE))} {q : List (Nat × FuncId × Sums)} (h : LA an ls tb lf n0 g (sumsL l) l) (hq : SL an ls tb lf q) : SL an ls tb lf ((n0, g, sumsL l) :: q) := by
 intro p hp
 rcases List.mem_cons.1 hp with rfl | hp
 ·exact ⟨l, rfl, h⟩
 ·exact hq p hp
theorem sumsL_some : ∀ {l : List (Nat × (St → Option LTE))} {li : Nat} {st : St} {T : LTE}, sumsL l li st = some T → ∃ p ∈ l, p.1 = li ∧ p.2 st = some T
 | p :: l, li, st, T, h => by
  simp only [sumsL] at h
  cases hb : li == p.1 with
  | true =>
   rw [hb, cond_true] at h
   split at h
   ·rename_i T' hT
    cases h
    exact ⟨p, List.mem_cons_self .., (by simpa using hb : li = p.1).symm, hT⟩
   ·obtain ⟨q, h1, h2⟩ := sumsL_some h
    exact ⟨q, List.mem_cons_of_mem _ h1, h2⟩
  | false =>
   rw [hb, cond_false] at h
   obtain ⟨q, h1, h2⟩ := sumsL_some h
   exact ⟨q, List.mem_cons_of_mem _ h1, h2⟩
theorem sumsG (h : SL an ls tb lf ls) (ρ : Type) : SumsOK true ρ Proofs.Tryz.prog an (lsOf ls) (drG an tb lf ρ) (lookT tb) 0 (lf + 40) := by
 refine sumsOK_of rfl fun p hp i st T hT k r he => ?_
 obtain ⟨l, e, hl⟩ := h p hp
 rw [e] at hT
 obtain ⟨q, h1, rfl, h3⟩ := sumsL_some hT
 exact hl q h1 ρ st T h3 k r he
theorem okL (hl : TabOK Proofs.Tryz.prog TabG (lookT tb)) (hsp : AnnsOK Proofs.Tryz.prog an) (hs : SL an ls tb lf ls) {g : FuncId} {E : Entry}
  (h : ∀ x, E.f x = runQ Proofs.Tryz.prog an (lsOf ls) (lookT tb) (lf + 40) 14 6 g E.ps E.rs x) : Ok g E := entryL hl hsp (sumsG hs _) h
theorem okT (hl : TabOK Proofs.Tryz.prog TabG (lookT tb)) (hsp : AnnsOK Proofs.Tryz.prog an) {g : FuncId} {E : Entry}
  (h : ∀ x, E.f x = runQ Proofs.Tryz.prog an noLs (lookT tb) (lf + 40) 14 6 g E.ps E.rs x) : Ok g E := entryT hl hsp h
theorem tN : TabOK Proofs.Tryz.prog TabG (lookT []) := lookT_nil
theorem tC {g : FuncId} {E : Entry} {l : List (FuncId × Entry)} (h : Ok g E) (hl : TabOK Proofs.Tryz.prog TabG (lookT l)) : TabOK Proofs.Tryz.prog TabG (lookT ((g, E) :: l)) := lookT_cons h hl
theorem leq_of {ρ : Type} {a b : Option ρ} (h : b = a) : LeO a b := fun r hr => h.trans hr
end
end Go.Q
/-
 DERIVED: THE SHELF's CONTRACTS AT THIS DUMP, IN PLAIN WORDS (tools/lay-plain.mjs out of 'TryzShelf.lean', which tools/lay-shelf.mjs wrote): THE SAME DECLARATIONS UNDER THE SAME NAMES: 'import', 'namespace', 'open', 'def', 'theorem' AND NOTHING ELSE: no command of the shelf's: FOR A HAND-IN. Each laying: the table of numbers ('.._ren') and one theorem, a field a fact of the dump's own or the kernel's comparison; each contract: ONE APPLICATION.
-/
namespace Go.Proofs
open Go.Shelf
def Tryz.lays172_ren : Go.Shelf.Ren := ⟨fun | 172 => 391 | 244 => 401 | 245 => 402 | 247 => 412 | 279 => 413 | 280 => 414 | 281 => 415 | 282 => 416 | 287 => 423 | 316 => 424 | 171 => 343 | 205 => 425 | 321 => 429 | 322 => 430 | 243 => 380 | 246 => 394 | 283 => 403 | 284 => 404 | 285 => 405 | 286 => 406 | 129 => 418 | 317 => 417 | 318 => 419 | 319 => 420 | 320 => 421 | 337 => 426 | 338 => 427 | n => n, fun | 9 => 9 | 3 => 3 | 75 => 300 | 76 => 306 | 4 => 4 | 5 => 5 | 167 => 361 | 37 => 239 | 0 => 0 | 85 => 362 | 2 => 2 | 168 => 364 | 53 => 343 | 175 => 371 | 46 => 294 | 210 => 375 | 127 => 330 | 145 => 381 | 143 => 379 | 21 => 21 | 171 => 348 | 173 => 351 | 212 => 368 | 51 => 340 | 20 => 20 | 213 => 369 | 232 => 382 | 233 => 383 | 80 => 309 | n => n, fun | 15 => 4 | 16 => 5 | 17 => 2 | 18 => 6 | 19 => 7 | n => n⟩
theorem Tryz.lays172 : Go.Proofs.Lays.n172 Tryz.prog Tryz.lays172_ren := {
 mixed := by kernel_rfl
 f129 := Tryz.func418.trans (congrArg some (by kernel_rfl))
 f171 := Tryz.func343.trans (congrArg some (by kernel_rfl))
 f172 := Tryz.func391.trans (congrArg some (by kernel_rfl))
 f205 := Tryz.func425.trans (congrArg some (by kernel_rfl))
 f243 := Tryz.func380.trans (congrArg some (by kernel_rfl))
 f244 := Tryz.func401.trans (congrArg some (by kernel_rfl))
 f245 := Tryz.func402.trans (congrArg some (by kernel_rfl))
 f246 := Tryz.func394.trans (congrArg some (by kernel_rfl))
 f247 := Tryz.func412.trans (congrArg some (by kernel_rfl))
 f279 := Tryz.func413.trans (congrArg some (by kernel_rfl))
 f280 := Tryz.func414.trans (congrArg some (by kernel_rfl))
 f281 := Tryz.func415.trans (congrArg some (by kernel_rfl))
 f282 := Tryz.func416.trans (congrArg some (by kernel_rfl))
 f283 := Tryz.func403.trans (congrArg some (by kernel_rfl))
 f284 := Tryz.func404.trans (congrArg some (by kernel_rfl))
 f285 := Tryz.func405.trans (congrArg some (by kernel_rfl))
 f286 := Tryz.func406.trans (congrArg some (by kernel_rfl))
 f287 := Tryz.func423.trans (congrArg some (by kernel_rfl))
 f316 := Tryz.func424.trans (congrArg some (by kernel_rfl))
 f317 := Tryz.func417.trans (congrArg some (by kernel_rfl))
 f318 := Tryz.func419.trans (congrArg some (by kernel_rfl))
 f319 := Tryz.func420.trans (congrArg some (by kernel_rfl))
 f320 := Tryz.func421.trans (congrArg some (by kernel_rfl))
 f321 := Tryz.func429.trans (congrArg some (by kernel_rfl))
 f322 := Tryz.func430.trans (congrArg some (by kernel_rfl))
 f337 := Tryz.func426.trans (congrArg some (by kernel_rfl))
 f338 := Tryz.func427.trans (congrArg some (by kernel_rfl))
 t0 := Tryz.underlying0
 a0 := Tryz.isAgg0
 z0 := Tryz.sizeOf0
 v0 := Tryz.zeroValue0
 t2 := Tryz.underlying2
 a2 := Tryz.isAgg2
 z2 := Tryz.sizeOf2
 v2 := Tryz.zeroValue2
 t3 := Tryz.underlying3
 a3 := Tryz.isAgg3
 z3 := Tryz.sizeOf3
 v3 := Tryz.zeroValue3
 t4 := Tryz.underlying4
 a4 := Tryz.isAgg4
 z4 := Tryz.sizeOf4
 v4 := Tryz.zeroValue4
 t5 := Tryz.underlying5
 a5 := Tryz.isAgg5
 z5 := Tryz.sizeOf5
 v5 := Tryz.zeroValue5
 t9 := Tryz.underlying9
 a9 := Tryz.isAgg9
 z9 := Tryz.sizeOf9
 v9 := Tryz.zeroValue9
 t20 := Tryz.underlying20
 a20 := Tryz.isAgg20
 z20 := Tryz.sizeOf20
 v20 := Tryz.zeroValue20
 t21 := Tryz.underlying21
 a21 := Tryz.isAgg21
 z21 := Tryz.sizeOf21
 v21 := Tryz.zeroValue21
 t37 := Tryz.underlying239
 a37 := Tryz.isAgg239
 z37 := Tryz.sizeOf239
 v37 := Tryz.zeroValue239
 t46 := Tryz.underlying294
 a46 := Tryz.isAgg294
 z46 := Tryz.sizeOf294
 v46 := Tryz.zeroValue294
 t51 := Tryz.underlying340
 a51 := Tryz.isAgg340
 z51 := Tryz.sizeOf340
 v51 := Tryz.zeroValue340
 t53 := Tryz.underlying343
 a53 := Tryz.isAgg343
 z53 := Tryz.sizeOf343
 v53 := Tryz.zeroValue343
 t75 := Tryz.underlying300
 a75 := Tryz.isAgg300
 z75 := Tryz.sizeOf300
 v75 := Tryz.zeroValue300
 t76 := Tryz.underlying306
 a76 := Tryz.isAgg306
 z76 := Tryz.sizeOf306
 v76 := Tryz.zeroValue306
 t85 := Tryz.underlying362
 a85 := Tryz.isAgg362
 z85 := Tryz.sizeOf362
 v85 := Tryz.zeroValue362
 t127 := Tryz.underlying330
 a127 := Tryz.isAgg330
 z127 := Tryz.sizeOf330
 v127 := Tryz.zeroValue330
 t143 := Tryz.underlying379
 a143 := Tryz.isAgg379
 z143 := Tryz.sizeOf379
 v143 := Tryz.zeroValue379
 t145 := Tryz.underlying381
 a145 := Tryz.isAgg381
 z145 := Tryz.sizeOf381
 v145 := Tryz.zeroValue381
 t167 := Tryz.underlying361
 a167 := Tryz.isAgg361
 z167 := Tryz.sizeOf361
 v167 := Tryz.zeroValue361
 t168 := Tryz.underlying364
 a168 := Tryz.isAgg364
 z168 := Tryz.sizeOf364
 v168 := Tryz.zeroValue364
 t171 := Tryz.underlying348
 a171 := Tryz.isAgg348
 z171 := Tryz.sizeOf348
 v171 := Tryz.zeroValue348
 t173 := Tryz.underlying351
 a173 := Tryz.isAgg351
 z173 := Tryz.sizeOf351
 v173 := Tryz.zeroValue351
 t175 := Tryz.underlying371
 a175 := Tryz.isAgg371
 z175 := Tryz.sizeOf371
 v175 := Tryz.zeroValue371
 t210 := Tryz.underlying375
 a210 := Tryz.isAgg375
 z210 := Tryz.sizeOf375
 v210 := Tryz.zeroValue375
 t212 := Tryz.underlying368
 a212 := Tryz.isAgg368
 z212 := Tryz.sizeOf368
 v212 := Tryz.zeroValue368
 t213 := Tryz.underlying369
 a213 := Tryz.isAgg369
 z213 := Tryz.sizeOf369
 t232 := Tryz.underlying382
 a232 := Tryz.isAgg382
 z232 := Tryz.sizeOf382
 v232 := Tryz.zeroValue382
 t233 := Tryz.underlying383
 a233 := Tryz.isAgg383
 z233 := Tryz.sizeOf383
 v233 := Tryz.zeroValue383
 g15 := by kernel_rfl
 g16 := by kernel_rfl
 g17 := by kernel_rfl
 g18 := by kernel_rfl
 g19 := by kernel_rfl }
open Go.RowKit in
theorem Tryz.strconv_Atoi (s : ByteArray) (n : Int) (hl : s.size ≤ 18) (h : Lib.atoi s.data.toList = some n) (w : World) :
  Calls Tryz.prog 391 #[.string s] w fun e w' => e = .returned (.tuple #[.int .i64 n, .nilIface]) ∧ ∃ t, w' = Lib.bytesWorld w 5 t := Any.strconv_Atoi Tryz.lays172 s n hl h w
def Tryz.laysM171_ren : Go.Shelf.Ren := ⟨fun | 171 => 343 | 243 => 380 | 246 => 394 | 283 => 403 | 284 => 404 | 285 => 405 | 286 => 406 | 129 => 418 | 317 => 417 | 318 => 419 | 319 => 420 | 320 => 421 | 337 => 426 | 338 => 427 | n => n, fun | 3 => 3 | 9 => 9 | 2 => 2 | 4 => 4 | 171 => 348 | 0 => 0 | 53 => 343 | 37 => 239 | 5 => 5 | 173 => 351 | 212 => 368 | 51 => 340 | 20 => 20 | 213 => 369 | 46 => 294 | 232 => 382 | 233 => 383 | n => n, fun | 17 => 2 | 18 => 6 | 19 => 7 | n => n⟩
theorem Tryz.laysM171 : Go.Proofs.LaysM.n171 Tryz.prog Tryz.laysM171_ren := {
 mixed := by kernel_rfl
 f129 := Tryz.func418.trans (congrArg some (by kernel_rfl))
 f171 := Tryz.func343.trans (congrArg some (by kernel_rfl))
 f243 := Tryz.func380.trans (congrArg some (by kernel_rfl))
 f246 := Tryz.func394.trans (congrArg some (by kernel_rfl))
 f283 := Tryz.func403.trans (congrArg some (by kernel_rfl))
 f284 := Tryz.func404.trans (congrArg some (by kernel_rfl))
 f285 := Tryz.func405.trans (congrArg some (by kernel_rfl))
 f286 := Tryz.func406.trans (congrArg some (by kernel_rfl))
 f317 := Tryz.func417.trans (congrArg some (by kernel_rfl))
 f318 := Tryz.func419.trans (congrArg some (by kernel_rfl))
 f319 := Tryz.func420.trans (congrArg some (by kernel_rfl))
 f320 := Tryz.func421.trans (congrArg some (by kernel_rfl))
 f337 := Tryz.func426.trans (congrArg some (by kernel_rfl))
 f338 := Tryz.func427.trans (congrArg some (by kernel_rfl))
 t0 := Tryz.underlying0
 a0 := Tryz.isAgg0
 z0 := Tryz.sizeOf0
 v0 := Tryz.zeroValue0
 t2 := Tryz.underlying2
 a2 := Tryz.isAgg2
 z2 := Tryz.sizeOf2
 v2 := Tryz.zeroValue2
 t3 := Tryz.underlying3
 a3 := Tryz.isAgg3
 z3 := Tryz.sizeOf3
 v3 := Tryz.zeroValue3
 t4 := Tryz.underlying4
 a4 := Tryz.isAgg4
 z4 := Tryz.sizeOf4
 v4 := Tryz.zeroValue4
 t5 := Tryz.underlying5
 a5 := Tryz.isAgg5
 z5 := Tryz.sizeOf5
 v5 := Tryz.zeroValue5
 t9 := Tryz.underlying9
 a9 := Tryz.isAgg9
 z9 := Tryz.sizeOf9
 v9 := Tryz.zeroValue9
 t20 := Tryz.underlying20
 a20 := Tryz.isAgg20
 z20 := Tryz.sizeOf20
 v20 := Tryz.zeroValue20
 t37 := Tryz.underlying239
 a37 := Tryz.isAgg239
 z37 := Tryz.sizeOf239
 v37 := Tryz.zeroValue239
 t46 := Tryz.underlying294
 a46 := Tryz.isAgg294
 z46 := Tryz.sizeOf294
 v46 := Tryz.zeroValue294
 t51 := Tryz.underlying340
 a51 := Tryz.isAgg340
 z51 := Tryz.sizeOf340
 v51 := Tryz.zeroValue340
 t53 := Tryz.underlying343
 a53 := Tryz.isAgg343
 z53 := Tryz.sizeOf343
 v53 := Tryz.zeroValue343
 t171 := Tryz.underlying348
 a171 := Tryz.isAgg348
 z171 := Tryz.sizeOf348
 v171 := Tryz.zeroValue348
 t173 := Tryz.underlying351
 a173 := Tryz.isAgg351
 z173 := Tryz.sizeOf351
 v173 := Tryz.zeroValue351
 t212 := Tryz.underlying368
 a212 := Tryz.isAgg368
 z212 := Tryz.sizeOf368
 v212 := Tryz.zeroValue368
 t213 := Tryz.underlying369
 a213 := Tryz.isAgg369
 z213 := Tryz.sizeOf369
 t232 := Tryz.underlying382
 a232 := Tryz.isAgg382
 z232 := Tryz.sizeOf382
 v232 := Tryz.zeroValue382
 t233 := Tryz.underlying383
 a233 := Tryz.isAgg383
 z233 := Tryz.sizeOf383
 v233 := Tryz.zeroValue383
 g17 := by kernel_rfl
 g18 := by kernel_rfl
 g19 := by kernel_rfl
 i0 := by kernel_rfl
 i2 := by kernel_rfl
 i3 := by kernel_rfl
 i4 := by kernel_rfl
 i5 := by kernel_rfl
 i9 := by kernel_rfl
 i20 := by kernel_rfl
 i37 := by kernel_rfl
 i46 := by kernel_rfl
 i51 := by kernel_rfl
 i53 := by kernel_rfl
 i171 := by kernel_rfl
 i173 := by kernel_rfl
 i212 := by kernel_rfl
 i232 := by kernel_rfl
 i233 := by kernel_rfl
 m17 := by kernel_rfl
 m18 := by kernel_rfl
 m19 := by kernel_rfl }
open Go.RowKit Go.Sort Go.Lib in
theorem Tryz.strconv_Itoa (n : Int) (h0 : -9223372036854775808 ≤ n) (h1 : n ≤ 9223372036854775807) (w : World) (htab : Lib.TabIs Tryz.prog w "internal/strconv.uint64pow10" .u64 Lib.pow10Tab) :
  Calls Tryz.prog 343 #[.int .i64 n] w fun e w' => e = .returned (.string ⟨(Lib.itoa n).toArray⟩) ∧ ∃ k os, w' = grow (w.drewN k) os := Any.strconv_Itoa Tryz.laysM171 n h0 h1 w htab
def Tryz.lays105_ren : Go.Shelf.Ren := ⟨fun | 105 => 345 | 212 => 381 | 99 => 382 | 165 => 383 | 166 => 344 | 170 => 384 | 169 => 346 | 263 => 395 | 264 => 396 | 206 => 365 | 240 => 378 | 241 => 397 | 276 => 393 | 277 => 407 | n => n, fun | 9 => 9 | 3 => 3 | 4 => 4 | 20 => 20 | 0 => 0 | 46 => 294 | 109 => 327 | 5 => 5 | 72 => 298 | 76 => 306 | 51 => 340 | 146 => 341 | 53 => 343 | 148 => 344 | 70 => 296 | 37 => 239 | 75 => 300 | 127 => 330 | 164 => 337 | 80 => 309 | n => n, fun | n => n⟩
theorem Tryz.lays105 : Go.Proofs.Lays.n105 Tryz.prog Tryz.lays105_ren := {
 mixed := by kernel_rfl
 f99 := Tryz.func382.trans (congrArg some (by kernel_rfl))
 f105 := Tryz.func345.trans (congrArg some (by kernel_rfl))
 f165 := Tryz.func383.trans (congrArg some (by kernel_rfl))
 f166 := Tryz.func344.trans (congrArg some (by kernel_rfl))
 f169 := Tryz.func346.trans (congrArg some (by kernel_rfl))
 f170 := Tryz.func384.trans (congrArg some (by kernel_rfl))
 f206 := Tryz.func365.trans (congrArg some (by kernel_rfl))
 f212 := Tryz.func381.trans (congrArg some (by kernel_rfl))
 f240 := Tryz.func378.trans (congrArg some (by kernel_rfl))
 f241 := Tryz.func397.trans (congrArg some (by kernel_rfl))
 f263 := Tryz.func395.trans (congrArg some (by kernel_rfl))
 f264 := Tryz.func396.trans (congrArg some (by kernel_rfl))
 f276 := Tryz.func393.trans (congrArg some (by kernel_rfl))
 f277 := Tryz.func407.trans (congrArg some (by kernel_rfl))
 t0 := Tryz.underlying0
 a0 := Tryz.isAgg0
 z0 := Tryz.sizeOf0
 v0 := Tryz.zeroValue0
 t3 := Tryz.underlying3
 a3 := Tryz.isAgg3
 z3 := Tryz.sizeOf3
 v3 := Tryz.zeroValue3
 t4 := Tryz.underlying4
 a4 := Tryz.isAgg4
 z4 := Tryz.sizeOf4
 v4 := Tryz.zeroValue4
 t5 := Tryz.underlying5
 a5 := Tryz.isAgg5
 z5 := Tryz.sizeOf5
 v5 := Tryz.zeroValue5
 t9 := Tryz.underlying9
 a9 := Tryz.isAgg9
 z9 := Tryz.sizeOf9
 v9 := Tryz.zeroValue9
 t20 := Tryz.underlying20
 a20 := Tryz.isAgg20
 z20 := Tryz.sizeOf20
 v20 := Tryz.zeroValue20
 t37 := Tryz.underlying239
 a37 := Tryz.isAgg239
 z37 := Tryz.sizeOf239
 v37 := Tryz.zeroValue239
 t46 := Tryz.underlying294
 a46 := Tryz.isAgg294
 z46 := Tryz.sizeOf294
 v46 := Tryz.zeroValue294
 t51 := Tryz.underlying340
 a51 := Tryz.isAgg340
 z51 := Tryz.sizeOf340
 v51 := Tryz.zeroValue340
 t53 := Tryz.underlying343
 a53 := Tryz.isAgg343
 z53 := Tryz.sizeOf343
 v53 := Tryz.zeroValue343
 t70 := Tryz.underlying296
 a70 := Tryz.isAgg296
 z70 := Tryz.sizeOf296
 v70 := Tryz.zeroValue296
 t72 := Tryz.underlying298
 a72 := Tryz.isAgg298
 z72 := Tryz.sizeOf298
 v72 := Tryz.zeroValue298
 t75 := Tryz.underlying300
 a75 := Tryz.isAgg300
 z75 := Tryz.sizeOf300
 v75 := Tryz.zeroValue300
 t76 := Tryz.underlying306
 a76 := Tryz.isAgg306
 z76 := Tryz.sizeOf306
 v76 := Tryz.zeroValue306
 t109 := Tryz.underlying327
 a109 := Tryz.isAgg327
 z109 := Tryz.sizeOf327
 v109 := Tryz.zeroValue327
 t127 := Tryz.underlying330
 a127 := Tryz.isAgg330
 z127 := Tryz.sizeOf330
 v127 := Tryz.zeroValue330
 t146 := Tryz.underlying341
 a146 := Tryz.isAgg341
 z146 := Tryz.sizeOf341
 v146 := Tryz.zeroValue341
 t148 := Tryz.underlying344
 a148 := Tryz.isAgg344
 z148 := Tryz.sizeOf344
 v148 := Tryz.zeroValue344
 t164 := Tryz.underlying337
 a164 := Tryz.isAgg337
 z164 := Tryz.sizeOf337
 v164 := Tryz.zeroValue337 }
theorem Tryz.Builder_Extra_105 : Builder.Extra Tryz.prog Tryz.lays105_ren := {
 sizeBuilder := by kernel_rfl
 liesBuilder := by kernel_rfl
 t5 := Tryz.underlying5
 a5 := Tryz.isAgg5
 z5 := Tryz.sizeOf5
 v5 := Tryz.zeroValue5
 infoByte := by kernel_rfl
 cellsByte := by kernel_rfl
 sizeByte := by kernel_rfl
 neB5 := by decide }
open Go.RowKit Go.Lib in
theorem Tryz.strings_Repeat (s : ByteArray) (c : Nat) (w : World) (hc : c ≤ 9223372036854775807) (hlen : s.size * c ≤ 140737488355328) :
  Calls Tryz.prog 345 #[.string s, .int .i64 c] w fun e w' => e = .returned (.string ⟨(Lib.repeatL s.data.toList c).toArray⟩) ∧ Below w.heap.size w w' := Any.strings_Repeat Tryz.lays105 Tryz.Builder_Extra_105 s c w hc hlen
def Tryz.lays160_ren : Go.Shelf.Ren := ⟨fun | 160 => 321 | 232 => 359 | 231 => 358 | 227 => 360 | 234 => 362 | 233 => 361 | 236 => 364 | 235 => 363 | 228 => 385 | 271 => 388 | 151 => 387 | 197 => 386 | 120 => 400 | 152 => 399 | 260 => 398 | 137 => 408 | 119 => 409 | 224 => 410 | 225 => 411 | 217 => 422 | 266 => 428 | n => n, fun | 9 => 9 | 4 => 4 | 3 => 3 | 5 => 5 | 117 => 317 | 116 => 316 | 0 => 0 | 124 => 320 | 21 => 21 | 105 => 332 | 46 => 294 | 119 => 354 | 139 => 357 | 138 => 356 | n => n, fun | 3 => 0 | 4 => 1 | n => n⟩
theorem Tryz.lays160 : Go.Proofs.Lays.n160 Tryz.prog Tryz.lays160_ren := {
 mixed := by kernel_rfl
 f119 := Tryz.func409.trans (congrArg some (by kernel_rfl))
 f120 := Tryz.func400.trans (congrArg some (by kernel_rfl))
 f137 := Tryz.func408.trans (congrArg some (by kernel_rfl))
 f151 := Tryz.func387.trans (congrArg some (by kernel_rfl))
 f152 := Tryz.func399.trans (congrArg some (by kernel_rfl))
 f160 := Tryz.func321.trans (congrArg some (by kernel_rfl))
 f197 := Tryz.func386.trans (congrArg some (by kernel_rfl))
 f217 := Tryz.func422.trans (congrArg some (by kernel_rfl))
 f224 := Tryz.func410.trans (congrArg some (by kernel_rfl))
 f225 := Tryz.func411.trans (congrArg some (by kernel_rfl))
 f227 := Tryz.func360.trans (congrArg some (by kernel_rfl))
 f228 := Tryz.func385.trans (congrArg some (by kernel_rfl))
 f231 := Tryz.func358.trans (congrArg some (by kernel_rfl))
 f232 := Tryz.func359.trans (congrArg some (by kernel_rfl))
 f233 := Tryz.func361.trans (congrArg some (by kernel_rfl))
 f234 := Tryz.func362.trans (congrArg some (by kernel_rfl))
 f235 := Tryz.func363.trans (congrArg some (by kernel_rfl))
 f236 := Tryz.func364.trans (congrArg some (by kernel_rfl))
 f260 := Tryz.func398.trans (congrArg some (by kernel_rfl))
 f266 := Tryz.func428.trans (congrArg some (by kernel_rfl))
 f271 := Tryz.func388.trans (congrArg some (by kernel_rfl))
 t0 := Tryz.underlying0
 a0 := Tryz.isAgg0
 z0 := Tryz.sizeOf0
 v0 := Tryz.zeroValue0
 t3 := Tryz.underlying3
 a3 := Tryz.isAgg3
 z3 := Tryz.sizeOf3
 v3 := Tryz.zeroValue3
 t4 := Tryz.underlying4
 a4 := Tryz.isAgg4
 z4 := Tryz.sizeOf4
 v4 := Tryz.zeroValue4
 t5 := Tryz.underlying5
 a5 := Tryz.isAgg5
 z5 := Tryz.sizeOf5
 v5 := Tryz.zeroValue5
 t9 := Tryz.underlying9
 a9 := Tryz.isAgg9
 z9 := Tryz.sizeOf9
 v9 := Tryz.zeroValue9
 t21 := Tryz.underlying21
 a21 := Tryz.isAgg21
 z21 := Tryz.sizeOf21
 v21 := Tryz.zeroValue21
 t46 := Tryz.underlying294
 a46 := Tryz.isAgg294
 z46 := Tryz.sizeOf294
 v46 := Tryz.zeroValue294
 t105 := Tryz.underlying332
 a105 := Tryz.isAgg332
 z105 := Tryz.sizeOf332
 v105 := Tryz.zeroValue332
 t116 := Tryz.underlying316
 a116 := Tryz.isAgg316
 z116 := Tryz.sizeOf316
 t117 := Tryz.underlying317
 a117 := Tryz.isAgg317
 z117 := Tryz.sizeOf317
 v117 := Tryz.zeroValue317
 t119 := Tryz.underlying354
 a119 := Tryz.isAgg354
 z119 := Tryz.sizeOf354
 t124 := Tryz.underlying320
 a124 := Tryz.isAgg320
 z124 := Tryz.sizeOf320
 v124 := Tryz.zeroValue320
 t138 := Tryz.underlying356
 a138 := Tryz.isAgg356
 z138 := Tryz.sizeOf356
 v138 := Tryz.zeroValue356
 t139 := Tryz.underlying357
 a139 := Tryz.isAgg357
 z139 := Tryz.sizeOf357
 v139 := Tryz.zeroValue357
 g3 := by kernel_rfl
 g4 := by kernel_rfl }
open Go.RowKit in
theorem Tryz.strings_Trim_laid (s cutset : ByteArray) (w : World) (hs : s.size ≤ 9223372036854775807) (hcs : cutset.size < 4294967281) (hascii : ∀ (j : Nat) b, cutset.data.toList[j]? = some b → b.toNat < 128) :
  Calls Tryz.prog 321 #[.string s, .string cutset] w fun e w' => e = .returned (.string ⟨(Lib.trimS s.data.toList cutset.data.toList).toArray⟩) ∧ Below w.heap.size w w' := Any.strings_Trim_laid Tryz.lays160 (by kernel_rfl) s cutset w hs hcs hascii
end Go.Proofs
namespace Go.Q
open Go Go.RowKit
open Go.Rx (br bd sIdx sCat sCut iQuo iRem)
noncomputable section
theorem res1 {F : Nat → Prop} {w : World} {t : Ty} {x : t.α} {v : Value} (h : ValR F w t x v) : ResR F w [t] (x, ()) v := ⟨[v], ⟨v, [], rfl, h, rfl⟩, rfl⟩
theorem res2 {F : Nat → Prop} {w : World} {t u : Ty} {x : t.α} {y : u.α} {v v' : Value} (h : ValR F w t x v) (k : ValR F w u y v') : ResR F w [t, u] (x, y, ()) (.tuple #[v, v']) := ⟨[v, v'], ⟨v, [v'], rfl, h, v', [], rfl, k, rfl⟩, rfl⟩
theorem valR_str {F : Nat → Prop} {w : World} (s : ByteArray) : ValR F w .str s (.string s) := by unfold ValR; rw [if_neg (by decide)]; rfl
theorem valR_int {F : Nat → Prop} {w : World} (k : IntKind) (n : Int) : ValR F w (.int k) n (.int k n) := by unfold ValR; rw [if_neg (by simp [isSt])]; rfl
theorem valR_nul {F : Nat → Prop} {w : World} : ValR F w .nul () .nilIface := by unfold ValR; rw [if_neg (by decide)]; rfl
theorem of_valR_str {F : Nat → Prop} {w : World} {s : ByteArray} {v : Value} (h : ValR F w .str s v) : v = .string s := by
 unfold ValR at h; rw [if_neg (by decide)] at h; simpa using (show [v] = _ from h)
theorem of_valR_int {F : Nat → Prop} {w : World} {k : IntKind} {n : Int} {v : Value} (h : ValR F w (.int k) n v) : v = .int k n := by
 unfold ValR at h; rw [if_neg (by simp [isSt])] at h; simpa using (show [v] = _ from h)
def B.Trim.f (lf : Nat) (a0 : ByteArray) (a1 : ByteArray) : Option (ByteArray × Unit) :=
 if a0.size ≤ 9223372036854775807 ∧ a1.size < 4294967281 ∧ a1.data.toList.all (fun b => decide (b.toNat < 128)) = true then some (⟨(Lib.trimS a0.data.toList a1.data.toList).toArray⟩, ()) else none
def B.Trim.E (lf : Nat) : Entry := ⟨[.str, .str], [.str], fun x => B.Trim.f lf x.1 x.2.1⟩
theorem B.Trim.ok (lf : Nat) : EntryOK Proofs.Tryz.prog TabG 321 (B.Trim.E lf) := by
 rintro ⟨s, c, ⟨⟩⟩ y hy F w vals hG hF ⟨v, r, rfl, h1, v2, r2, rfl, h2, h3⟩
 cases h3
 rw [of_valR_str h1, of_valR_str h2]
 simp only [B.Trim.E, B.Trim.f] at hy
 split at hy
 ·rename_i hc
  cases hy
  refine (Proofs.Tryz.strings_Trim_laid s c w hc.1 hc.2.1 (Proofs.ascii_of_all hc.2.2)).mono ?_
  rintro e w' ⟨rfl, hb⟩
  exact ⟨_, rfl, hb, res1 (valR_str _)⟩
 ·cases hy
def B.Atoi.f (lf : Nat) (a0 : ByteArray) : Option (Int × Unit × Unit) := if a0.size ≤ 18 then (Lib.atoi a0.data.toList).map fun n => (n, (), ()) else none
def B.Atoi.E (lf : Nat) : Entry := ⟨[.str], [.int .i64, .nul], fun x => B.Atoi.f lf x.1⟩
theorem B.Atoi.ok (lf : Nat) : EntryOK Proofs.Tryz.prog TabG 391 (B.Atoi.E lf) := by
 rintro ⟨s, ⟨⟩⟩ y hy F w vals hG hF ⟨v, r, rfl, h1, h3⟩
 cases h3
 rw [of_valR_str h1]
 simp only [B.Atoi.E, B.Atoi.f] at hy
 split at hy
 ·rename_i hc
  obtain ⟨n, hn, rfl⟩ := Option.map_eq_some_iff.1 hy
  refine (Proofs.Tryz.strconv_Atoi s n hc hn w).mono ?_
  rintro e w' ⟨rfl, t, rfl⟩
  refine ⟨_, rfl, ?_, res2 (valR_int _ _) valR_nul⟩
  unfold Lib.bytesWorld
  exact Lib.below_freeze ((Below.drew (Below.refl _ w)).alloc (Nat.le_refl _) _) (Nat.le_refl _) _
 ·cases hy
def B.Itoa.f (lf : Nat) (a0 : Int) : Option (ByteArray × Unit) := if -9223372036854775808 ≤ a0 ∧ a0 ≤ 9223372036854775807 then some (⟨(Lib.itoa a0).toArray⟩, ()) else none
def B.Itoa.E (lf : Nat) : Entry := ⟨[.int .i64], [.str], fun x => B.Itoa.f lf x.1⟩
theorem B.Itoa.ok (lf : Nat) : EntryOK Proofs.Tryz.prog TabG 343 (B.Itoa.E lf) := by
 rintro ⟨n, ⟨⟩⟩ y hy F w vals hG hF ⟨v, r, rfl, h1, h3⟩
 cases h3
 rw [of_valR_int h1]
 simp only [B.Itoa.E, B.Itoa.f] at hy
 split at hy
 ·rename_i hc
  cases hy
  refine (Proofs.Tryz.strconv_Itoa n hc.1 hc.2 w hG).mono ?_
  rintro e w' ⟨rfl, k, os, rfl⟩
  refine ⟨_, rfl, ?_, res1 (valR_str _)⟩
  refine ⟨rfl, rfl, rfl, ?_, fun i hi => ?_⟩
  ·simp [Go.Sort.grow, World.drewN]
  ·simp only [Go.Sort.grow, World.drewN]
   rw [Array.getElem?_append_left hi]
 ·cases hy
def B.Repeat.f (lf : Nat) (a0 : ByteArray) (a1 : Int) : Option (ByteArray × Unit) :=
 if 0 ≤ a1 ∧ a1 ≤ 9223372036854775807 ∧ a0.size * a1.toNat ≤ 140737488355328 then some (⟨(Lib.repeatL a0.data.toList a1.toNat).toArray⟩, ()) else none
def B.Repeat.E (lf : Nat) : Entry := ⟨[.str, .int .i64], [.str], fun x => B.Repeat.f lf x.1 x.2.1⟩
theorem B.Repeat.ok (lf : Nat) : EntryOK Proofs.Tryz.prog TabG 345 (B.Repeat.E lf) := by
 rintro ⟨s, c, ⟨⟩⟩ y hy F w vals hG hF ⟨v, r, rfl, h1, v2, r2, rfl, h2, h3⟩
 cases h3
 rw [of_valR_str h1, of_valR_int h2]
 simp only [B.Repeat.E, B.Repeat.f] at hy
 split at hy
 ·rename_i hc
  cases hy
  have e : (c.toNat : Int) = c := Int.toNat_of_nonneg hc.1
  have := Proofs.Tryz.strings_Repeat s c.toNat w (by omega) hc.2.2
  rw [e] at this
  refine this.mono ?_
  rintro e w' ⟨rfl, hb⟩
  exact ⟨_, rfl, hb, res1 (valR_str _)⟩
 ·cases hy
end
end Go.Q
namespace Go.Q
open Go Go.RowKit
def eqL {α : Type} (f : α → α → Bool) : List α → List α → Bool
 | [], [] => true
 | x :: l, y :: m => f x y && eqL f l m
 | _, _ => false
def eqT : (T : Ty) → T.α → T.α → Bool
 | .int _, x, y => decide ((show Int from x) = y)
 | .bool, x, y => (show Bool from x) == y
 | .str, x, y => (show ByteArray from x).data.toList == (show ByteArray from y).data.toList
 | .unit, _, _ => true
 | .nul, _, _ => true
 | .pair a b, x, y => eqT a x.1 y.1 && eqT b x.2 y.2
 | .sl e, x, y => eqL (eqT e) x y
theorem eqL_eq {α : Type} {f : α → α → Bool} (h : ∀ x y, f x y = true → x = y) : ∀ {l m : List α}, eqL f l m = true → l = m
 | [], [], _ => rfl
 | x :: l, y :: m, e => by
  simp only [eqL, Bool.and_eq_true] at e
  rw [h x y e.1, eqL_eq h e.2]
theorem eqT_eq : ∀ {T : Ty} {x y : T.α}, eqT T x y = true → x = y
 | .int _, x, y, h => of_decide_eq_true h
 | .bool, x, y, h => by simpa [eqT] using h
 | .str, x, y, h => by
  have h' : x.data.toList = y.data.toList := by simpa [eqT] using h
  obtain ⟨⟨x⟩⟩ := x
  obtain ⟨⟨y⟩⟩ := y
  simp only at h'
  rw [h']
 | .unit, _, _, _ => rfl
 | .nul, _, _, _ => rfl
 | .pair a b, x, y, h => by
  simp only [eqT, Bool.and_eq_true] at h
  exact Prod.ext (eqT_eq h.1) (eqT_eq h.2)
 | .sl e, x, y, h => eqL_eq (fun _ _ => eqT_eq) h
def eqTs : (ps : List Ty) → Tys ps → Tys ps → Bool
 | [], _, _ => true
 | t :: ts, x, y => eqT t x.1 y.1 && eqTs ts x.2 y.2
theorem eqTs_eq : ∀ {ps : List Ty} {x y : Tys ps}, eqTs ps x y = true → x = y
 | [], _, _, _ => rfl
 | t :: ts, x, y, h => by
  simp only [eqTs, Bool.and_eq_true] at h
  exact Prod.ext (eqT_eq h.1) (eqTs_eq h.2)
def pick {β : Type} (ps : List Ty) : List (Tys ps × β) → Tys ps → Option β
 | [], _ => none
 | p :: l, x => bif eqTs ps p.1 x then some p.2 else pick ps l x
def AllL {α : Type} (P : α → Prop) : List α → Prop
 | [] => True
 | p :: l => P p ∧ AllL P l
theorem pick_some {β : Type} {ps : List Ty} {P : Tys ps × β → Prop} : ∀ {l : List (Tys ps × β)} {x : Tys ps} {y : β}, AllL P l → pick ps l x = some y → P (x, y)
 | p :: l, x, y, h, e => by
  unfold pick at e
  cases hx : eqTs ps p.1 x with
  | true => rw [hx] at e; cases e; rw [← eqTs_eq hx]; exact h.1
  | false => rw [hx] at e; exact pick_some h.2 e
theorem entry_weak {P : Program} {G : World → Prop} {g : FuncId} {ps rs : List Ty} {f f' : Tys ps → Option (Tys rs)} (h : EntryOK P G g ⟨ps, rs, f'⟩) (hw : ∀ x y, f x = some y → f' x = some y) : EntryOK P G g ⟨ps, rs, f⟩ := fun x y hy => h x y (hw x y hy)
theorem okP {an : FuncId → FA} {tb : List (FuncId × Entry)} {lf : Nat} (hl : TabOK Proofs.Tryz.prog TabG (lookT tb)) (hsp : AnnsOK Proofs.Tryz.prog an) {g : FuncId} {ps rs : List Ty} {f : Tys ps → Option (Tys rs)} {l : List (Tys ps × Tys rs)} (hf : ∀ x, f x = pick ps l x)
  {R : Tys ps → Option (Tys rs)} (hR : ∀ x, R x = runQ Proofs.Tryz.prog an noLs (lookT tb) (lf + 40) 14 6 g ps rs x) (h : AllL (fun p => R p.1 = some p.2) l) : Ok g ⟨ps, rs, f⟩ :=
 entry_weak (okT (E := ⟨ps, rs, R⟩) hl hsp hR) fun x y hy => pick_some (P := fun p => R p.1 = some p.2) h ((hf x).symm.trans hy)
end Go.Q
namespace Go.N
open Go Go.Q Go.Rx
def isDig (b : UInt8) : Bool := decide (48 ≤ b.toNat ∧ b.toNat ≤ 57)
def dig (b : UInt8) : Nat := b.toNat - 48
def dch (d : Nat) : UInt8 := UInt8.ofNat (48 + d)
theorem dch_nat {d : Nat} (h : d < 10) : (dch d).toNat = 48 + d := by
 unfold dch
 rw [UInt8.toNat_ofNat']
 omega
theorem dch_isDig {d : Nat} (h : d < 10) : isDig (dch d) = true := by
 unfold isDig
 rw [dch_nat h]
 simp; omega
theorem dig_dch {d : Nat} (h : d < 10) : dig (dch d) = d := by unfold dig; rw [dch_nat h]; omega
theorem dch_dig {b : UInt8} (h : isDig b = true) : dch (dig b) = b := by
 unfold isDig at h
 simp only [decide_eq_true_eq] at h
 apply UInt8.toNat_inj.1
 unfold dch dig
 rw [UInt8.toNat_ofNat']
 omega
theorem dig_lt {b : UInt8} (h : isDig b = true) : dig b < 10 := by
 unfold isDig at h
 simp only [decide_eq_true_eq] at h
 unfold dig; omega
def dv (l : List UInt8) : Nat := l.foldl (fun a b => a * 10 + dig b) 0
theorem dv_nil : dv [] = 0 := rfl
theorem dv_snoc (l : List UInt8) (b : UInt8) : dv (l ++ [b]) = dv l * 10 + dig b := by simp [dv]
theorem snoc_ind {p : List UInt8 → Prop} (l : List UInt8) (h0 : p []) (hs : ∀ l b, p l → p (l ++ [b])) : p l := by
 induction h : l.length generalizing l with
 | zero => rw [List.length_eq_zero_iff.1 h]; exact h0
 | succ n ih =>
  have hn : l ≠ [] := by intro e; subst e; simp at h
  rw [← List.dropLast_concat_getLast hn]
  exact hs _ _ (ih _ (by rw [List.length_dropLast]; omega))
theorem dv_app (l : List UInt8) : ∀ m : List UInt8, dv (l ++ m) = dv l * 10 ^ m.length + dv m := by
 intro m
 refine snoc_ind (p := fun m => dv (l ++ m) = dv l * 10 ^ m.length + dv m) m (by simp [dv_nil]) fun m b ih => ?_
 rw [← List.append_assoc, dv_snoc, dv_snoc, ih, List.length_append, List.length_singleton, Nat.pow_succ, Nat.add_mul, Nat.mul_assoc]
 omega
theorem dv_lt : ∀ l : List UInt8, l.all isDig = true → dv l < 10 ^ l.length := by
 intro l
 refine snoc_ind (p := fun l => l.all isDig = true → dv l < 10 ^ l.length) l (by simp [dv_nil]) fun l b ih h => ?_
 rw [List.all_append, Bool.and_eq_true] at h
 have h1 := ih h.1
 have h2 := dig_lt (b := b) (by simpa using h.2)
 rw [dv_snoc, List.length_append, List.length_singleton, Nat.pow_succ]
 omega
theorem dec_small {n : Nat} (h : n < 10) : Lib.decDigits n = [dch n] := by rw [Lib.decDigits, dif_pos h]; rfl
theorem dec_big {n : Nat} (h : ¬ n < 10) : Lib.decDigits n = Lib.decDigits (n / 10) ++ [dch (n % 10)] := by rw [Lib.decDigits, dif_neg h]; rfl
theorem dec_ne (n : Nat) : Lib.decDigits n ≠ [] := by
 by_cases h : n < 10
 ·rw [dec_small h]; simp
 ·rw [dec_big h]; simp
theorem dec_all (n : Nat) : (Lib.decDigits n).all isDig = true := by
 induction n using Nat.strongRecOn with
 | _ n ih =>
  by_cases h : n < 10
  ·rw [dec_small h]; simp [dch_isDig h]
  ·rw [dec_big h, List.all_append, ih (n / 10) (by omega)]
   simp [dch_isDig (show n % 10 < 10 by omega)]
theorem dv_dec (n : Nat) : dv (Lib.decDigits n) = n := by
 induction n using Nat.strongRecOn with
 | _ n ih =>
  by_cases h : n < 10
  ·rw [dec_small h]; simp [dv, dig_dch h]
  ·rw [dec_big h, dv_snoc, ih (n / 10) (by omega), dig_dch (by omega)]; omega
theorem dec_head {n : Nat} (h : n ≠ 0) : ∃ b r, Lib.decDigits n = b :: r ∧ b ≠ 48 := by
 induction n using Nat.strongRecOn with
 | _ n ih =>
  by_cases h10 : n < 10
  ·refine ⟨dch n, [], dec_small h10, ?_⟩
   intro e
   have := congrArg UInt8.toNat e
   rw [dch_nat h10] at this
   have h48 : (48 : UInt8).toNat = 48 := rfl
   omega
  ·obtain ⟨b, r, e, hb⟩ := ih (n / 10) (by omega) (by omega)
   exact ⟨b, r ++ [dch (n % 10)], by rw [dec_big h10, e]; rfl, hb⟩
theorem dec_of {l : List UInt8} (h : l.all isDig = true) (hn : l ≠ []) (hh : l.head? ≠ some 48 ∨ l.length = 1) : l = Lib.decDigits (dv l) := by
 revert h hn hh
 refine snoc_ind (p := fun l => l.all isDig = true → l ≠ [] → (l.head? ≠ some 48 ∨ l.length = 1) → l = Lib.decDigits (dv l)) l (fun _ h => absurd rfl h) fun l b ih h _ hh => ?_
 rw [List.all_append, Bool.and_eq_true] at h
 have hb : isDig b = true := by simpa using h.2
 have hd := dig_lt hb
 by_cases hl : l = []
 ·subst hl
  rw [List.nil_append, show dv [b] = dig b by simp [dv], dec_small hd, dch_dig hb]
 ·have hh' : l.head? ≠ some 48 := by
   rcases hh with hh | hh
   ·cases l with
    | nil => exact absurd rfl hl
    | cons x r => exact hh
   ·rw [List.length_append, List.length_singleton] at hh
    exact absurd (List.length_eq_zero_iff.1 (by omega)) hl
  have e := ih h.1 hl (.inl hh')
  have hpos : dv l ≠ 0 := by
   intro e0
   rw [e0, dec_small (by omega)] at e
   rw [e] at hh'
   exact hh' rfl
  rw [dv_snoc, dec_big (by omega), show (dv l * 10 + dig b) / 10 = dv l by omega, show (dv l * 10 + dig b) % 10 = dig b by omega, ← e, dch_dig hb]
theorem dec_len_le : ∀ (k n : Nat), n < 10 ^ (k + 1) → (Lib.decDigits n).length ≤ k + 1
 | 0, n, h => by rw [dec_small (by simpa using h)]; simp
 | k + 1, n, h => by
  by_cases h10 : n < 10
  ·rw [dec_small h10]; simp
  ·rw [dec_big h10, List.length_append, List.length_singleton]
   have : n / 10 < 10 ^ (k + 1) := by rw [Nat.pow_succ] at h; omega
   have := dec_len_le k (n / 10) this
   omega
theorem dec_zero : Lib.decDigits 0 = [48] := dec_small (by omega)
theorem dec_no45 (n : Nat) : (Lib.decDigits n).head? ≠ some 45 := by
 have h := dec_all n
 cases e : Lib.decDigits n with
 | nil => simp
 | cons b r =>
  rw [e, List.all_cons, Bool.and_eq_true] at h
  intro h45
  simp only [List.head?_cons, Option.some.injEq] at h45
  subst h45
  have : isDig 45 = false := rfl
  rw [this] at h
  cases h.1
def body (l : List UInt8) : List UInt8 := if l.head? = some 45 then l.tail else l
def neg (l : List UInt8) : Bool := decide (l.head? = some 45)
def can (l : List UInt8) : Bool := decide (l = [48]) || (decide (body l ≠ []) && (decide ((body l).head? ≠ some 48) && (body l).all isDig))
def iv (l : List UInt8) : Int := if neg l = true then -(dv (body l) : Int) else (dv (body l) : Int)
theorem can_itoa (z : Int) : can (Lib.itoa z) = true := by
 unfold can Lib.itoa body
 by_cases h : z < 0
 ·rw [if_pos h]
  obtain ⟨b, r, e, hb⟩ := dec_head (show z.natAbs ≠ 0 by omega)
  have ha := dec_all z.natAbs
  rw [e] at ha ⊢
  simp only [List.head?_cons, if_true, List.tail_cons]
  simp [hb, ha]
 ·rw [if_neg h]
  by_cases h0 : z = 0
  ·subst h0
   rw [show (0 : Int).toNat = 0 from rfl, dec_zero]
   simp
  ·rw [if_neg (dec_no45 _)]
   obtain ⟨b, r, e, hb⟩ := dec_head (show z.toNat ≠ 0 by omega)
   have ha := dec_all z.toNat
   rw [e] at ha ⊢
   simp [hb, ha]
theorem iv_itoa (z : Int) : iv (Lib.itoa z) = z := by
 unfold iv neg body Lib.itoa
 by_cases h : z < 0
 ·rw [if_pos h]
  simp only [List.head?_cons, if_true, List.tail_cons, decide_true, dv_dec]
  omega
 ·rw [if_neg h, if_neg (dec_no45 _), decide_eq_false (dec_no45 _), if_neg (by simp), dv_dec]
  omega
theorem itoa_iv {l : List UInt8} (h : can l = true) : l = Lib.itoa (iv l) := by
 unfold can at h
 rw [Bool.or_eq_true] at h
 rcases h with h | h
 ·have e : l = [48] := by simpa using h
  subst e
  have : iv [48] = 0 := by decide
  rw [this]
  unfold Lib.itoa
  rw [if_neg (by omega)]
  exact dec_zero.symm
 ·simp only [Bool.and_eq_true, decide_eq_true_eq] at h
  obtain ⟨h1, h2, h3⟩ := h
  have e := dec_of h3 h1 (.inl h2)
  have hpos : dv (body l) ≠ 0 := by
   intro e0
   rw [e0, dec_zero] at e
   rw [e] at h2
   exact h2 rfl
  unfold iv Lib.itoa
  by_cases hn : l.head? = some 45
  ·have hneg : neg l = true := by unfold neg; exact decide_eq_true hn
   rw [if_pos hneg, if_pos (by omega), show (-(dv (body l) : Int)).natAbs = dv (body l) by omega, ← e]
   unfold body
   rw [if_pos hn]
   cases l with
   | nil => simp at hn
   | cons b r => simp at hn; subst hn; rfl
  ·have hneg : ¬ neg l = true := by unfold neg; rw [decide_eq_false hn]; simp
   rw [if_neg hneg, if_neg (by omega), show ((dv (body l) : Int)).toNat = dv (body l) by omega, ← e]
   unfold body
   rw [if_neg hn]
theorem iv_inj {l m : List UInt8} (h1 : can l = true) (h2 : can m = true) (h : iv l = iv m) : l = m := by rw [itoa_iv h1, itoa_iv h2, h]
theorem can_parts {l : List UInt8} (h : can l = true) : (body l).all isDig = true ∧ body l ≠ [] ∧ l ≠ [] := by
 unfold can at h
 rw [Bool.or_eq_true] at h
 rcases h with h | h
 ·have e : l = [48] := by simpa using h
  subst e
  exact ⟨by decide, by decide, by simp⟩
 ·simp only [Bool.and_eq_true, decide_eq_true_eq] at h
  refine ⟨h.2.2, h.1, ?_⟩
  rintro rfl
  exact h.1 rfl
def nlen (l : List UInt8) : Nat := (body l).length
theorem nlen_le (l : List UInt8) : nlen l ≤ l.length := by unfold nlen body; split <;> simp
theorem len_nlen (l : List UInt8) : l.length ≤ nlen l + 1 := by unfold nlen body; split <;> simp <;> omega
def chk (l : List UInt8) : Int := if can l = true then (if nlen l > 4096 then 10 else 0) else 3
def num (l : List UInt8) : Int := if chk l ≠ 0 then chk l else if nlen l > 100 then 10 else 0
theorem chk_zero {l : List UInt8} : chk l = 0 ↔ can l = true ∧ nlen l ≤ 4096 := by
 unfold chk
 split
 ·split
  ·simp; omega
  ·simp_all
 ·simp_all
theorem num_zero {l : List UInt8} : num l = 0 ↔ can l = true ∧ nlen l ≤ 100 := by
 unfold num
 split
 ·rename_i h
  constructor
  ·intro e; exact absurd e h
  ·intro e; exact absurd (chk_zero.2 ⟨e.1, by omega⟩) h
 ·rename_i h
  have := chk_zero.1 (Classical.not_not.1 h)
  split
  ·simp; intro; omega
  ·simp; exact ⟨this.1, by omega⟩
theorem atoi_digs {l : List UInt8} (h : l.all isDig = true) (hn : l ≠ []) : Lib.atoi l = some (dv l : Int) := by
 have key : ∀ (m : List UInt8) (acc : Nat), m.all isDig = true → Lib.decFrom acc m = some (m.foldl (fun a b => a * 10 + dig b) acc) := by
  intro m
  induction m with
  | nil => intro acc _; rfl
  | cons b r ih =>
   intro acc ha
   rw [List.all_cons, Bool.and_eq_true] at ha
   have hb := ha.1
   unfold isDig at hb
   simp only [decide_eq_true_eq] at hb
   rw [Lib.decFrom, Lib.digitVal, if_pos hb, List.foldl_cons]
   exact ih _ ha.2
 cases l with
 | nil => exact absurd rfl hn
 | cons b r =>
  have ha := h
  rw [List.all_cons, Bool.and_eq_true] at ha
  have hb := ha.1
  have n45 : (b == 45) = false := by
   rw [beq_eq_false_iff_ne]; rintro rfl
   have : isDig 45 = false := rfl
   rw [this] at hb; cases hb
  have n43 : (b == 43) = false := by
   rw [beq_eq_false_iff_ne]; rintro rfl
   have : isDig 43 = false := rfl
   rw [this] at hb; cases hb
  rw [Lib.atoi, n45, n43]
  simp only [Bool.false_eq_true, if_false]
  rw [Lib.decNat, if_neg (by simp), key _ 0 h]
  rfl
theorem dropWhile_nil {α : Type} {p : α → Bool} : ∀ {l : List α}, l.dropWhile p = [] ↔ ∀ x ∈ l, p x = true
 | [] => by simp
 | x :: l => by
  rw [List.dropWhile_cons]
  by_cases h : p x = true
  ·rw [if_pos h, dropWhile_nil (l := l)]; simp [h]
  ·rw [if_neg h]; simp [h]
theorem trimS_nil (l cs : List UInt8) : Lib.trimS l cs = [] ↔ l.all (cs.contains ·) = true := by
 unfold Lib.trimS Lib.trimLeftS Lib.trimRightS
 constructor
 ·intro h
  rw [dropWhile_nil] at h
  have h1 : (l.reverse.dropWhile (cs.contains ·)) = [] := by
   cases e : l.reverse.dropWhile (cs.contains ·) with
   | nil => rfl
   | cons b r =>
    have hb := h b (by rw [e]; simp)
    have := List.head?_dropWhile_not (cs.contains ·) l.reverse
    rw [e] at this
    simp at this hb
    exact absurd hb this
  rw [dropWhile_nil] at h1
  exact List.all_eq_true.2 fun b hb => h1 b (by simpa using hb)
 ·intro h
  have h1 : (l.reverse.dropWhile (cs.contains ·)) = [] := by
   rw [dropWhile_nil]
   intro b hb
   exact List.all_eq_true.1 h b (by simpa using hb)
  rw [h1]; rfl
theorem digs_fin : ∀ n : Fin 256, ([48, 49, 50, 51, 52, 53, 54, 55, 56, 57] : List UInt8).contains (UInt8.ofNat n.val) = isDig (UInt8.ofNat n.val) := by decide +kernel
theorem digs_contains (b : UInt8) : ([48, 49, 50, 51, 52, 53, 54, 55, 56, 57] : List UInt8).contains b = isDig b := by
 have := digs_fin ⟨b.toNat, b.toNat_lt⟩
 simpa using this
end Go.N
namespace Go.Q
open Go
abbrev yI : Ty := .pair .bool (.pair .str (.pair .str .unit))
abbrev yV : Ty := .pair yI (.pair yI .unit)
abbrev yB : Ty := .pair .bool (.pair (.sl (.int .i64)) .unit)
abbrev yX : Ty := .pair (.int .i64) (.pair .str .unit)
abbrev yS : Ty := .pair yX (.pair yX .unit)
abbrev TI : Type := Bool × (ByteArray × (ByteArray × Unit))
abbrev TV : Type := TI × (TI × Unit)
abbrev TB : Type := Bool × ((List Int) × Unit)
abbrev TX : Type := Int × (ByteArray × Unit)
abbrev TS : Type := TX × (TX × Unit)
end Go.Q
