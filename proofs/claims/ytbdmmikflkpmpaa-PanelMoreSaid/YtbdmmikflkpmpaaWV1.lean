/- PanelWaive returns true -/
import Derived.Test.YtbdmmikflkpmpaaProg
import Derived.Test.YtbdmmikflkpmpaaNA1
import Derived.Test.YtbdmmikflkpmpaaNA4
import Derived.Test.YtbdmmikflkpmpaaNA3
import Derived.Maps.AppendAt
import Derived.Test.YtbdmmikflkpmpaaNA2
import Derived.WalkKit
import Derived.WalkSpells
import Derived.WalkLawsBesides
import Derived.Outline
import Derived.OwnWalkIn
import Derived.TacticsInMore
import Derived.LoopNIn
import Derived.LoopIn
import Derived.Shelf.RegionOpen
import Derived.Deep.QuietTactic
import Derived.BigQuiet
import Derived.Lib.Hide
import Derived.Deep.SlicePairs
import Derived.Lib.SmallJoins
import Derived.Carry
import Derived.ChangeArms
import Derived.ChangeOld
import Derived.WideShapes
import Derived.ProofKit
import Derived.OpenShut
import Derived.ShutString
import Derived.Below
import Derived.SizedLaws
import Derived.Test.YtbdmmikflkpmpaaRows
section
set_option linter.unusedVariables false
set_option linter.unusedSimpArgs false
namespace Go.Proofs.Ytbdmmikflkpmpaa
open Go.RowKit Go.TL Go.Shelf Go.Pn
attribute [local go_sem] Oper.semAt_some
attribute [local go_sem] run_store_func
theorem in70 (x lo hi : Int) (w : World) : Calls Try.prog 70 #[vi x, vi lo, vi hi] w fun e w' => e = .returned (.bool (inB x lo hi)) ∧ Below w.heap.size w w' := by
  refine calls_of_exec Try.func70 rfl ?_
  simp only [Try.ntmps70, List.size_toArray, List.length_cons, List.length_nil, Nat.reduceAdd, Nat.reduceSub, Array.replicate_succ, Array.replicate_zero, List.push_toArray, List.append_toArray, List.nil_append, List.cons_append]
  refine exec_seq (exec_region_o fun ds => ?_)
  gi_wp2
  refine eq_mk (Keep.refl w) ?_
  show Exec _ _ _ _ _ _
  refine exec_seq (exec_region_o fun ds => ?_)
  obtain ⟨R, hR⟩ : ∃ R, inB x lo hi = R := ⟨_, rfl⟩
  simp only [hR]
  have HR := Lib.hid hR
  clear hR
  by_cases h1 : lo ≤ x
  · gi_wp2
    refine eq_mk (Keep.refl w) ?_
    refine exec_ret ⟨.inr rfl, fun W' hG => ⟨.bool R, ?_, rfl, hG.below (Nat.le_refl _) (Nat.le_refl _)⟩⟩
    have : R = decide (x ≤ hi) := by rw [← HR.out]; simp [inB, h1]
    subst this
    simp [results, Try.f70, go_sem]
  · gi_wp2
    refine eq_mk (Keep.refl w) ?_
    refine exec_ret ⟨.inr rfl, fun W' hG => ⟨.bool R, ?_, rfl, hG.below (Nat.le_refl _) (Nat.le_refl _)⟩⟩
    have : R = false := by rw [← HR.out]; unfold inB; rw [decide_eq_false (by omega), Bool.false_and]
    subst this
    simp [results, Try.f70, go_sem]
    try (intro h; omega)
def AlI72 (w : World) (A : Option Addr) (c : Nat) (l : List Int) (hi : Int) (n : Nat) (t : Array Value) (W : World) : Prop :=
  ∃ k : Nat, k ≤ l.length ∧ n = l.length - k ∧ (∀ y ∈ l.take k, inB y 0 hi = true) ∧ Below w.heap.size w W ∧ Slots (some (.slice A l.length c) :: some (vi hi) :: none :: none :: none :: some (iv k) :: none :: o4 (o4 (o4 []))) t
set_option maxRecDepth 100000 in
set_option maxHeartbeats 1000000 in
theorem all72 (A : Option Addr) (c : Nat) (l : List Int) (hl : l.length ≤ 1000000) (hi : Int) (w : World) (hA : RowV w A (l.map vi)) : Calls Try.prog 72 #[.slice A l.length c, vi hi] w fun e w' => e = .returned (.bool (l.all fun y => inB y 0 hi)) ∧ Below w.heap.size w w' := by
  have hu22 := Try.underlying22
  obtain ⟨R, hR⟩ : ∃ R, (l.all fun y => inB y 0 hi) = R := ⟨_, rfl⟩
  rw [hR]
  have HR := Lib.hid hR
  clear hR
  refine calls_of_exec Try.func72 rfl ?_
  simp only [Try.ntmps72, List.size_toArray, List.length_cons, List.length_nil, Nat.reduceAdd, Nat.reduceSub, Array.replicate_succ, Array.replicate_zero, List.push_toArray, List.append_toArray, List.nil_append, List.cons_append]
  refine exec_seq (exec_region_o fun ds => ?_)
  gi_wp2
  refine eq_mk (Keep.refl _) ?_
  show Exec _ _ (Code.seq (Code.seq _ _) _) _ _ _
  refine exec_seq (exec_seq (exec_region_o fun ds => ?_))
  gi_wp2
  refine eq_mk (Keep.refl _) ?_
  show Exec _ _ (Code.block _ _) _ _ _
  refine exec_block ?_
  refine exec_loop (AlI72 w A c l hi) l.length ⟨0, by omega, rfl, by simp, Below.refl _ _, by simp [Slots, Fits]⟩ ?_
  rintro n t W ⟨k, hk, hn, htk, hV, hSl⟩
  have HT := Lib.hid htk
  clear htk
  obtain ⟨x, hx⟩ := Slots.open_ hSl; simp only [fill, Nat.reduceAdd] at hx; subst hx; clear hSl
  show Exec _ _ (Code.seq (Code.seq _ _) _) _ _ _
  refine exec_seq (exec_seq (exec_region_o fun ds => ?_))
  gi_wp2
  refine eq_mk (Keep.refl _) ?_
  show Exec _ _ (Code.cond _ _ _) _ _ _
  refine (exec_cond (b := decide (k < l.length)) (by first | rfl | (show Value.bool _ = _; congr 1; exact decide_eq_decide.2 (by omega))) (fun hp => exec_skip ?_) (fun hp => exec_exit ?_))
  · have hkl : k < l.length := by have := of_decide_eq_true hp; omega
    show Exec _ _ (Code.seq (Code.block _ _) _) _ _ _
    obtain ⟨a1, e1, h1⟩ := row_int (hA.below hV) hkl
    obtain ⟨y1, hy1⟩ : ∃ y, l[k] = y := ⟨_, rfl⟩
    rw [hy1] at h1
    have HY : inB y1 0 hi = true → ∀ y ∈ l.take (k + 1), inB y 0 hi = true := fun e y hy => by
      rw [List.take_succ_eq_append_getElem hkl, List.mem_append, List.mem_singleton] at hy
      rcases hy with hy | hy
      · exact HT.out y hy
      · rw [hy, hy1]; exact e
    have HN : inB y1 0 hi = false → (l.all fun y => inB y 0 hi) = false := fun e => by
      rw [List.all_eq_false]
      exact ⟨y1, by rw [← hy1]; exact List.getElem_mem hkl, by simp [e]⟩
    have HY := Lib.hid HY
    have HN := Lib.hid HN
    clear hy1
    have hkI : (k : Int) < l.length := by omega
    simp only [e1]
    have E1 := Lib.hid e1
    clear e1
    refine exec_cut (fun t' Y => inB y1 0 hi = true ∧ Below w.heap.size w Y ∧ Slots (some (.slice A l.length c) :: some (vi hi) :: none :: none :: none :: some (iv k) :: none :: o4 (o4 (o4 []))) t') (exec_block ?_) ?_
    · show Exec _ _ (Code.seq _ _) _ _ _
      refine exec_seq (exec_region_o fun ds => ?_)
      gi_wp2_with fail
      refine ⟨trivial, rfl, (callsIn_wide.2 (in70 y1 0 hi W)).mono ?_⟩
      rintro e Y ⟨rfl, hy⟩
      have hBd := hV.trans (hy.mono hV.size)
      gi_wp2
      refine eq_mk (Keep.of_below hy) ?_
      show Exec _ _ (Code.cond _ _ _) _ _ _
      cases hq : inB y1 0 hi with
      | true =>
        refine exec_cond (b := false) rfl (fun h => by cases h) (fun _ => exec_skip ?_)
        exact ⟨rfl, hBd, by simp [Slots, Fits, E1.out]⟩
      | false =>
        have hf := HN.out hq
        refine exec_cond (b := true) rfl (fun _ => ?_) (fun h => by cases h)
        have hr : R = false := by rw [← HR.out]; exact hf
        subst hr
        clear hf hq
        refine exec_seq (exec_region_o fun ds => ?_)
        gi_wp2
        refine eq_mk (Keep.refl _) ?_
        show Exec _ _ _ _ _ _
        exact exec_ret ⟨.inr rfl, fun W' hG => ⟨.bool false, by simp [results, Try.f72, go_sem], rfl, hBd.trans (hG.below (Nat.le_refl _) hBd.size)⟩⟩
    · clear hV h1 x
      clear W
      rintro t' Y ⟨hy, hV, hSl⟩
      have hT2 := HY.out hy
      have HT2 := Lib.hid hT2
      clear hT2 hy
      obtain ⟨x, hx⟩ := Slots.open_ hSl; simp only [fill, Nat.reduceAdd] at hx; subst hx; clear hSl
      have hw : IntKind.i64.wrap ((k : Int) + 1) = ((k + 1 : Nat) : Int) := by rw [IntWalk.i64_in _ (by omega)]; norm_cast
      refine exec_region_o fun ds => ?_
      gi_wp2
      exact eq_mk (Keep.refl _) ⟨n - 1, by omega, k + 1, by omega, by omega, HT2.out, hV, by simp only [Slots, Fits, and_self]; simp [E1.out]⟩
  · have hkl : k = l.length := by have := of_decide_eq_false hp; omega
    have htk := HT.out
    rw [hkl, List.take_length] at htk
    have hr : R = true := by rw [← HR.out]; exact List.all_eq_true.2 htk
    subst hr
    clear htk
    show Exec _ _ (Code.seq _ _) _ _ _
    refine exec_seq (exec_region_o fun ds => ?_)
    gi_wp2
    refine eq_mk (Keep.refl _) ?_
    show Exec _ _ _ _ _ _
    exact exec_ret ⟨.inr rfl, fun W' hG => ⟨.bool true, by simp [results, Try.f72, go_sem], rfl, hV.trans (hG.below (Nat.le_refl _) hV.size)⟩⟩
end Go.Proofs.Ytbdmmikflkpmpaa
end

section
set_option linter.unusedVariables false
set_option linter.unusedSimpArgs false
namespace Go.Proofs.Ytbdmmikflkpmpaa
open Go.RowKit Go.TL Go.Shelf Go.Pn
attribute [local go_sem] Oper.semAt_some
attribute [local go_sem] run_store_func
def PvI (w : World) (a : XP) (n : Nat) (t : Array Value) (W : World) : Prop :=
  ∃ k : Nat, k ≤ a.K.length ∧ n = a.K.length - k ∧ (∀ y ∈ a.K.take k, kinOut a.L.length a.N.length y = false) ∧ PBx W w.heap.size a ∧ Below w.heap.size w W ∧ Slots (none :: some (.pointer (some ⟨w.heap.size, 0, none⟩)) :: none :: some (iv k) :: none :: none :: none :: o4 (o4 (o16 (o16 (o16 []))))) t
theorem isP_eq (a : XP) : a.isP = (decide (a.L.length ≤ 6) && decide (a.N.length ≤ 6) && decide (a.K.length ≤ 10) && (a.L.all fun y => inB y 0 6) && (a.N.all fun y => inB y 0 3) && !a.K.any (kinOut a.L.length a.N.length)) := by
  have h : ∀ (p : Int → Bool) (l : List Int), (!l.any fun y => !p y) = l.all p := fun p l => by
    rw [List.all_eq_not_any_not]
  unfold XP.isP XP.lens
  rw [h, h]
set_option maxRecDepth 100000 in
set_option maxHeartbeats 2000000 in
theorem panels22 (a : XP) (w : World) (ha : a.At w) : Calls Try.prog 22 #[a.val] w fun e w' => e = .returned (.bool a.isP) ∧ Below w.heap.size w w' := by
  have hu25 := Try.underlying25
  have hu22 := Try.underlying22
  have hu23 := Try.underlying23
  have hu50 := Try.underlying50
  have h4 := ha.l4
  have h5 := ha.n4
  have h6 := ha.k4
  obtain ⟨R, hR⟩ : ∃ R, a.isP = R := ⟨_, rfl⟩
  rw [hR]
  rw [isP_eq] at hR
  have HR := Lib.hid hR
  clear hR
  refine calls_of_exec Try.func22 rfl ?_
  simp only [Try.ntmps22, List.size_toArray, List.length_cons, List.length_nil, Nat.reduceAdd, Nat.reduceSub, Array.replicate_succ, Array.replicate_zero, List.push_toArray, List.append_toArray, List.nil_append, List.cons_append]
  simp only [XP.val]
  refine exec_seq (exec_region_o fun ds => ?_)
  gi_wp2
  refine eq_mk ((Keep.refl _).alloc _) ?_
  show Exec _ _ (Code.seq (Code.seq _ _) _) _ (w.alloc (.cells #[a.sL, a.sN, a.sK] 25)) _
  have hB := (Below.refl w.heap.size w).alloc (Nat.le_refl _) (.cells #[a.sL, a.sN, a.sK] 25)
  have hX : PBx (w.alloc (.cells #[a.sL, a.sN, a.sK] 25)) w.heap.size a := ⟨World.alloc_heap_new _ _, ha.below hB⟩
  generalize w.alloc (.cells #[a.sL, a.sN, a.sK] 25) = X at *
  refine exec_seq (exec_seq (exec_region_o fun ds => ?_))
  gi_wp2
  refine eq_mk (Keep.refl _) ?_
  show Exec _ _ (Code.block _ _) _ _ _
  refine exec_block ?_
  refine exec_loop (PvI w a) a.K.length ⟨0, by omega, rfl, by simp, hX, hB, by simp [Slots, Fits]⟩ ?_
  clear hX hB
  clear X
  rintro n t W ⟨k, hk, hn, htk, hX, hV, hSl⟩
  have HT := Lib.hid htk
  have HN := Lib.hid hn
  clear htk hn
  have hh := hX.heap
  simp only [XP.sL, XP.sN, XP.sK] at hh
  have c0 : ∀ Y, Below W.heap.size W Y → Y.cell? ⟨w.heap.size, 0, none⟩ = some (.slice a.AL a.L.length a.cL) := fun Y hY => cells_get (cs := [_, _, _]) (k := 0) ((hX.keep hY).heap) rfl
  have c1 : ∀ Y, Below W.heap.size W Y → Y.cell? ⟨w.heap.size, 1, none⟩ = some (.slice a.AN a.N.length a.cN) := fun Y hY => cells_get (cs := [_, _, _]) (k := 1) ((hX.keep hY).heap) rfl
  have c2 : ∀ Y, Below W.heap.size W Y → Y.cell? ⟨w.heap.size, 2, none⟩ = some (.slice a.AK a.K.length a.cK) := fun Y hY => cells_get (cs := [_, _, _]) (k := 2) ((hX.keep hY).heap) rfl
  clear hh
  have e2 := c2 W (Below.refl _ _)
  obtain ⟨x, hx⟩ := Slots.open_ hSl; simp only [fill, Nat.reduceAdd] at hx; subst hx; clear hSl
  show Exec _ _ (Code.seq (Code.seq _ _) _) _ _ _
  refine exec_seq (exec_seq (exec_region_o fun ds => ?_))
  gi_wp2
  refine eq_mk (Keep.refl _) ?_
  show Exec _ _ (Code.cond _ _ _) _ _ _
  refine (exec_cond (b := decide (k < a.K.length)) (by first | rfl | (show Value.bool _ = _; congr 1; exact decide_eq_decide.2 (by omega))) (fun hp => exec_skip ?_) (fun hp => exec_exit ?_))
  · have hkl : k < a.K.length := by have := of_decide_eq_true hp; omega
    clear e2
    show Exec _ _ (Code.seq (Code.block _ _) _) _ _ _
    obtain ⟨y, hy⟩ : ∃ y, a.K[k]? = some y := ⟨_, List.getElem?_eq_getElem hkl⟩
    obtain ⟨ad, hA, hc1, hc2⟩ := hX.at_.k k y hy
    have hym := List.mem_of_getElem? hy
    have HY : kinOut a.L.length a.N.length y = false → ∀ z ∈ a.K.take (k + 1), kinOut a.L.length a.N.length z = false := fun e z hz => by
      rw [List.take_add_one, hy] at hz
      rcases List.mem_append.1 hz with hz | hz
      · exact HT.out z hz
      · simp at hz
        rw [hz]; exact e
    have HF : kinOut a.L.length a.N.length y = true → R = false := fun e => by
      rw [← HR.out]
      have : a.K.any (kinOut a.L.length a.N.length) = true := List.any_eq_true.2 ⟨y, hym, e⟩
      rw [this]
      simp
    have HY := Lib.hid HY
    have HF := Lib.hid HF
    clear hy hym
    obtain ⟨y1, y2⟩ := y
    simp only at hc1 hc2
    have hkI : (k : Int) < a.K.length := by omega
    have hw1 : IntKind.i64.wrap ((a.L.length : Int) - 1) = (a.L.length : Int) - 1 := IntWalk.i64_in _ (by omega)
    have hw2 : IntKind.i64.wrap ((a.N.length : Int) - 1) = (a.N.length : Int) - 1 := IntWalk.i64_in _ (by omega)
    rw [hA] at c2
    have hS0 : ∀ {Y : World}, Below W.heap.size W Y → Y.cell? (ad.add (k * 2)) = some (vi y1) ∧ Y.cell? ⟨(ad.add (k * 2)).block, (ad.add (k * 2)).off + 1, none⟩ = some (vi y2) := fun hY => ⟨(Grow.of_below (B := 0) hY).cell hc1, (Grow.of_below (B := 0) hY).cell hc2⟩
    refine exec_cut (fun t' Y => kinOut a.L.length a.N.length (y1, y2) = false ∧ PBx Y w.heap.size a ∧ Below w.heap.size w Y ∧ Slots (none :: some (.pointer (some ⟨w.heap.size, 0, none⟩)) :: none :: some (iv k) :: none :: none :: none :: o4 (o4 (o16 (o16 (o16 []))))) t') (exec_block ?_) ?_
    · have hd : Below W.heap.size W W.drew := (Below.refl _ W).drew
      show Exec _ _ (Code.seq _ _) _ _ _
      refine exec_seq (region_of_tail 26 (by kernel_rfl) (by kernel_rfl) (by kernel_rfl) (fun Y => Below W.heap.size W Y) (fun _ _ _ => False) (fun _ _ _ h => h.elim) fun ds => ?_)
      have hS := hd
      refine held_take 0 (.pointer (some ⟨w.heap.size, 2, none⟩)) rfl (by kernel_rfl) (by kernel_rfl) (by kernel_rfl) (by intro _ _ _ h; first | exact h | (simpa [behind, Act.put] using h)) rfl (by first | exact hS | assumption) (fun wq hq => ?_) ?_; (focus (simp [go_sem, hu25]; done)); simp only [Act.put, Array.getInternal_eq_getElem, List.take_succ_cons, List.take_zero, List.take_nil, List.getElem_toArray, List.getElem_cons_succ, List.getElem_cons_zero, List.setIfInBounds_toArray, List.set_cons_succ, List.set_cons_zero]
      refine held_take 1 (.slice (some ad) a.K.length a.cK) rfl (by kernel_rfl) (by kernel_rfl) (by kernel_rfl) (by intro _ _ _ h; first | exact h | (simpa [behind, Act.put] using h)) rfl (by first | exact hS | assumption) (fun wq hq => ?_) ?_; (focus (simp [go_sem, c2 wq hq]; done)); simp only [Act.put, Array.getInternal_eq_getElem, List.take_succ_cons, List.take_zero, List.take_nil, List.getElem_toArray, List.getElem_cons_succ, List.getElem_cons_zero, List.setIfInBounds_toArray, List.set_cons_succ, List.set_cons_zero]
      refine held_take 2 (iv k) rfl (by kernel_rfl) (by kernel_rfl) (by kernel_rfl) (by intro _ _ _ h; first | exact h | (simpa [behind, Act.put] using h)) rfl (by first | exact hS | assumption) (fun wq hq => ?_) ?_; (focus (first | rfl | (simp [go_sem]; done))); simp only [Act.put, Array.getInternal_eq_getElem, List.take_succ_cons, List.take_zero, List.take_nil, List.getElem_toArray, List.getElem_cons_succ, List.getElem_cons_zero, List.setIfInBounds_toArray, List.set_cons_succ, List.set_cons_zero]
      refine held_take 3 (.pointer (some (ad.add (k * 2)))) rfl (by kernel_rfl) (by kernel_rfl) (by kernel_rfl) (by intro _ _ _ h; first | exact h | (simpa [behind, Act.put] using h)) rfl (by first | exact hS | assumption) (fun wq hq => ?_) ?_; (focus (simp [go_sem, hu23, hkI]; done)); simp only [Act.put, Array.getInternal_eq_getElem, List.take_succ_cons, List.take_zero, List.take_nil, List.getElem_toArray, List.getElem_cons_succ, List.getElem_cons_zero, List.setIfInBounds_toArray, List.set_cons_succ, List.set_cons_zero]
      refine held_take 4 (.pointer (some (ad.add (k * 2)))) rfl (by kernel_rfl) (by kernel_rfl) (by kernel_rfl) (by intro _ _ _ h; first | exact h | (simpa [behind, Act.put] using h)) rfl (by first | exact hS | assumption) (fun wq hq => ?_) ?_; (focus (simp [go_sem, hu50]; done)); simp only [Act.put, Array.getInternal_eq_getElem, List.take_succ_cons, List.take_zero, List.take_nil, List.getElem_toArray, List.getElem_cons_succ, List.getElem_cons_zero, List.setIfInBounds_toArray, List.set_cons_succ, List.set_cons_zero]
      refine held_take 5 (vi y1) rfl (by kernel_rfl) (by kernel_rfl) (by kernel_rfl) (by intro _ _ _ h; first | exact h | (simpa [behind, Act.put] using h)) rfl (by first | exact hS | assumption) (fun wq hq => ?_) ?_; (focus (simp [go_sem, (hS0 hq).1]; done)); simp only [Act.put, Array.getInternal_eq_getElem, List.take_succ_cons, List.take_zero, List.take_nil, List.getElem_toArray, List.getElem_cons_succ, List.getElem_cons_zero, List.setIfInBounds_toArray, List.set_cons_succ, List.set_cons_zero]
      refine held_take 6 (.pointer (some ⟨w.heap.size, 0, none⟩)) rfl (by kernel_rfl) (by kernel_rfl) (by kernel_rfl) (by intro _ _ _ h; first | exact h | (simpa [behind, Act.put] using h)) rfl (by first | exact hS | assumption) (fun wq hq => ?_) ?_; (focus (simp [go_sem, hu25]; done)); simp only [Act.put, Array.getInternal_eq_getElem, List.take_succ_cons, List.take_zero, List.take_nil, List.getElem_toArray, List.getElem_cons_succ, List.getElem_cons_zero, List.setIfInBounds_toArray, List.set_cons_succ, List.set_cons_zero]
      refine held_take 7 (.slice a.AL a.L.length a.cL) rfl (by kernel_rfl) (by kernel_rfl) (by kernel_rfl) (by intro _ _ _ h; first | exact h | (simpa [behind, Act.put] using h)) rfl (by first | exact hS | assumption) (fun wq hq => ?_) ?_; (focus (simp [go_sem, c0 wq hq]; done)); simp only [Act.put, Array.getInternal_eq_getElem, List.take_succ_cons, List.take_zero, List.take_nil, List.getElem_toArray, List.getElem_cons_succ, List.getElem_cons_zero, List.setIfInBounds_toArray, List.set_cons_succ, List.set_cons_zero]
      refine held_take 8 (iv a.L.length) rfl (by kernel_rfl) (by kernel_rfl) (by kernel_rfl) (by intro _ _ _ h; first | exact h | (simpa [behind, Act.put] using h)) rfl (by first | exact hS | assumption) (fun wq hq => ?_) ?_; (focus (simp [go_sem]; done)); simp only [Act.put, Array.getInternal_eq_getElem, List.take_succ_cons, List.take_zero, List.take_nil, List.getElem_toArray, List.getElem_cons_succ, List.getElem_cons_zero, List.setIfInBounds_toArray, List.set_cons_succ, List.set_cons_zero]
      refine held_take 9 (vi ((a.L.length : Int) - 1)) rfl (by kernel_rfl) (by kernel_rfl) (by kernel_rfl) (by intro _ _ _ h; first | exact h | (simpa [behind, Act.put] using h)) rfl (by first | exact hS | assumption) (fun wq hq => ?_) ?_; (focus (simp [go_sem, hw1]; done)); simp only [Act.put, Array.getInternal_eq_getElem, List.take_succ_cons, List.take_zero, List.take_nil, List.getElem_toArray, List.getElem_cons_succ, List.getElem_cons_zero, List.setIfInBounds_toArray, List.set_cons_succ, List.set_cons_zero]
      refine held_call 10 (f := 70) (args := #[vi y1, vi 0, vi ((a.L.length : Int) - 1)]) rfl (by kernel_rfl) rfl (by simp [go_sem]) ?_
      refine (in70 y1 0 ((a.L.length : Int) - 1) W.drew).mono ?_
      rintro e X1 ⟨rfl, hx1⟩
      have k1 : Below W.heap.size W X1 := hS.trans hx1
      refine .inl ⟨_, rfl, k1, ?_⟩
      simp only [Act.put, Array.getInternal_eq_getElem, List.take_succ_cons, List.take_zero, List.take_nil, List.getElem_toArray, List.getElem_cons_succ, List.getElem_cons_zero, List.setIfInBounds_toArray, List.set_cons_succ, List.set_cons_zero]
      have hko : kinOut a.L.length a.N.length (y1, y2) = (!inB y1 0 ((a.L.length : Int) - 1) || !inB y2 0 ((a.N.length : Int) - 1)) := rfl
      have HKO := Lib.hid hko
      clear hko
      generalize inB y1 0 ((a.L.length : Int) - 1) = q1 at *
      have hX1 := hX.keep k1
      have hB1 := hV.trans (k1.mono hV.size)
      clear hS
      cases q1 with
      | false =>
        refine held_take 11 (.bool true) rfl (by kernel_rfl) (by kernel_rfl) (by kernel_rfl) (by intro _ _ _ h; first | exact h | (simpa [behind, Act.put] using h)) rfl (by first | exact hS | assumption) (fun wq hq => ?_) ?_; (focus (simp [go_sem]; done)); simp only [Act.put, Array.getInternal_eq_getElem, List.take_succ_cons, List.take_zero, List.take_nil, List.getElem_toArray, List.getElem_cons_succ, List.getElem_cons_zero, List.setIfInBounds_toArray, List.set_cons_succ, List.set_cons_zero]
        refine held_take 12 (.bool true) rfl (by kernel_rfl) (by kernel_rfl) (by kernel_rfl) (by intro _ _ _ h; first | exact h | (simpa [behind, Act.put] using h)) rfl (by first | exact hS | assumption) (fun wq hq => ?_) ?_; (focus (simp [go_sem]; done)); simp only [Act.put, Array.getInternal_eq_getElem, List.take_succ_cons, List.take_zero, List.take_nil, List.getElem_toArray, List.getElem_cons_succ, List.getElem_cons_zero, List.setIfInBounds_toArray, List.set_cons_succ, List.set_cons_zero]
        refine held_pass 13 rfl (by kernel_rfl) (by kernel_rfl) (by kernel_rfl) (by intro _ _ _ h; exact h) (by kernel_rfl) (by first | exact hS | assumption) ?_; simp only [Act.put, Array.getInternal_eq_getElem, List.take_succ_cons, List.take_zero, List.take_nil, List.getElem_toArray, List.getElem_cons_succ, List.getElem_cons_zero, List.setIfInBounds_toArray, List.set_cons_succ, List.set_cons_zero]
        refine held_pass 14 rfl (by kernel_rfl) (by kernel_rfl) (by kernel_rfl) (by intro _ _ _ h; exact h) (by kernel_rfl) (by first | exact hS | assumption) ?_; simp only [Act.put, Array.getInternal_eq_getElem, List.take_succ_cons, List.take_zero, List.take_nil, List.getElem_toArray, List.getElem_cons_succ, List.getElem_cons_zero, List.setIfInBounds_toArray, List.set_cons_succ, List.set_cons_zero]
        refine held_pass 15 rfl (by kernel_rfl) (by kernel_rfl) (by kernel_rfl) (by intro _ _ _ h; exact h) (by kernel_rfl) (by first | exact hS | assumption) ?_; simp only [Act.put, Array.getInternal_eq_getElem, List.take_succ_cons, List.take_zero, List.take_nil, List.getElem_toArray, List.getElem_cons_succ, List.getElem_cons_zero, List.setIfInBounds_toArray, List.set_cons_succ, List.set_cons_zero]
        refine held_pass 16 rfl (by kernel_rfl) (by kernel_rfl) (by kernel_rfl) (by intro _ _ _ h; exact h) (by kernel_rfl) (by first | exact hS | assumption) ?_; simp only [Act.put, Array.getInternal_eq_getElem, List.take_succ_cons, List.take_zero, List.take_nil, List.getElem_toArray, List.getElem_cons_succ, List.getElem_cons_zero, List.setIfInBounds_toArray, List.set_cons_succ, List.set_cons_zero]
        refine held_pass 17 rfl (by kernel_rfl) (by kernel_rfl) (by kernel_rfl) (by intro _ _ _ h; exact h) (by kernel_rfl) (by first | exact hS | assumption) ?_; simp only [Act.put, Array.getInternal_eq_getElem, List.take_succ_cons, List.take_zero, List.take_nil, List.getElem_toArray, List.getElem_cons_succ, List.getElem_cons_zero, List.setIfInBounds_toArray, List.set_cons_succ, List.set_cons_zero]
        refine held_pass 18 rfl (by kernel_rfl) (by kernel_rfl) (by kernel_rfl) (by intro _ _ _ h; exact h) (by kernel_rfl) (by first | exact hS | assumption) ?_; simp only [Act.put, Array.getInternal_eq_getElem, List.take_succ_cons, List.take_zero, List.take_nil, List.getElem_toArray, List.getElem_cons_succ, List.getElem_cons_zero, List.setIfInBounds_toArray, List.set_cons_succ, List.set_cons_zero]
        refine held_pass 19 rfl (by kernel_rfl) (by kernel_rfl) (by kernel_rfl) (by intro _ _ _ h; exact h) (by kernel_rfl) (by first | exact hS | assumption) ?_; simp only [Act.put, Array.getInternal_eq_getElem, List.take_succ_cons, List.take_zero, List.take_nil, List.getElem_toArray, List.getElem_cons_succ, List.getElem_cons_zero, List.setIfInBounds_toArray, List.set_cons_succ, List.set_cons_zero]
        refine held_pass 20 rfl (by kernel_rfl) (by kernel_rfl) (by kernel_rfl) (by intro _ _ _ h; exact h) (by kernel_rfl) (by first | exact hS | assumption) ?_; simp only [Act.put, Array.getInternal_eq_getElem, List.take_succ_cons, List.take_zero, List.take_nil, List.getElem_toArray, List.getElem_cons_succ, List.getElem_cons_zero, List.setIfInBounds_toArray, List.set_cons_succ, List.set_cons_zero]
        refine held_pass 21 rfl (by kernel_rfl) (by kernel_rfl) (by kernel_rfl) (by intro _ _ _ h; exact h) (by kernel_rfl) (by first | exact hS | assumption) ?_; simp only [Act.put, Array.getInternal_eq_getElem, List.take_succ_cons, List.take_zero, List.take_nil, List.getElem_toArray, List.getElem_cons_succ, List.getElem_cons_zero, List.setIfInBounds_toArray, List.set_cons_succ, List.set_cons_zero]
        refine held_pass 22 rfl (by kernel_rfl) (by kernel_rfl) (by kernel_rfl) (by intro _ _ _ h; exact h) (by kernel_rfl) (by first | exact hS | assumption) ?_; simp only [Act.put, Array.getInternal_eq_getElem, List.take_succ_cons, List.take_zero, List.take_nil, List.getElem_toArray, List.getElem_cons_succ, List.getElem_cons_zero, List.setIfInBounds_toArray, List.set_cons_succ, List.set_cons_zero]
        refine held_pass 23 rfl (by kernel_rfl) (by kernel_rfl) (by kernel_rfl) (by intro _ _ _ h; exact h) (by kernel_rfl) (by first | exact hS | assumption) ?_; simp only [Act.put, Array.getInternal_eq_getElem, List.take_succ_cons, List.take_zero, List.take_nil, List.getElem_toArray, List.getElem_cons_succ, List.getElem_cons_zero, List.setIfInBounds_toArray, List.set_cons_succ, List.set_cons_zero]
        refine held_pass 24 rfl (by kernel_rfl) (by kernel_rfl) (by kernel_rfl) (by intro _ _ _ h; exact h) (by kernel_rfl) (by first | exact hS | assumption) ?_; simp only [Act.put, Array.getInternal_eq_getElem, List.take_succ_cons, List.take_zero, List.take_nil, List.getElem_toArray, List.getElem_cons_succ, List.getElem_cons_zero, List.setIfInBounds_toArray, List.set_cons_succ, List.set_cons_zero]
        refine held_take 25 (.bool true) rfl (by kernel_rfl) (by kernel_rfl) (by kernel_rfl) (by intro _ _ _ h; first | exact h | (simpa [behind, Act.put] using h)) rfl (by first | exact hS | assumption) (fun wq hq => ?_) ?_; (focus (simp [go_sem]; done)); simp only [Act.put, Array.getInternal_eq_getElem, List.take_succ_cons, List.take_zero, List.take_nil, List.getElem_toArray, List.getElem_cons_succ, List.getElem_cons_zero, List.setIfInBounds_toArray, List.set_cons_succ, List.set_cons_zero]
        refine held_done (by kernel_rfl) ?_
        refine any_done (by kernel_rfl) ⟨rfl, Keep.of_below k1, ?_⟩
        show Exec _ _ (Code.cond _ _ _) _ _ _
        refine exec_cond (b := true) rfl (fun _ => ?_) (fun h => by cases h)
        have hr : R = false := HF.out (by rw [HKO.out]; rfl)
        subst hr
        refine exec_seq (exec_region_o fun ds => ?_)
        gi_wp2
        refine eq_mk (Keep.refl _) ?_
        show Exec _ _ _ _ _ _
        exact exec_ret ⟨.inr rfl, fun W' hG => ⟨.bool false, by simp [results, Try.f22, go_sem], rfl, hB1.trans (hG.below (Nat.le_refl _) hB1.size)⟩⟩
      | true =>
        refine held_take 11 (.bool false) rfl (by kernel_rfl) (by kernel_rfl) (by kernel_rfl) (by intro _ _ _ h; first | exact h | (simpa [behind, Act.put] using h)) rfl (by first | exact hS | assumption) (fun wq hq => ?_) ?_; (focus (simp [go_sem]; done)); simp only [Act.put, Array.getInternal_eq_getElem, List.take_succ_cons, List.take_zero, List.take_nil, List.getElem_toArray, List.getElem_cons_succ, List.getElem_cons_zero, List.setIfInBounds_toArray, List.set_cons_succ, List.set_cons_zero]
        refine held_take 12 (.bool false) rfl (by kernel_rfl) (by kernel_rfl) (by kernel_rfl) (by intro _ _ _ h; first | exact h | (simpa [behind, Act.put] using h)) rfl (by first | exact hS | assumption) (fun wq hq => ?_) ?_; (focus (simp [go_sem]; done)); simp only [Act.put, Array.getInternal_eq_getElem, List.take_succ_cons, List.take_zero, List.take_nil, List.getElem_toArray, List.getElem_cons_succ, List.getElem_cons_zero, List.setIfInBounds_toArray, List.set_cons_succ, List.set_cons_zero]
        refine held_take 13 (.pointer (some ⟨w.heap.size, 2, none⟩)) rfl (by kernel_rfl) (by kernel_rfl) (by kernel_rfl) (by intro _ _ _ h; exact h) (by kernel_rfl) (by first | exact hS | assumption) (fun wq hq => ?_) ?_; (focus (simp [go_sem, hu25]; done)); simp only [Act.put, Array.getInternal_eq_getElem, List.take_succ_cons, List.take_zero, List.take_nil, List.getElem_toArray, List.getElem_cons_succ, List.getElem_cons_zero, List.setIfInBounds_toArray, List.set_cons_succ, List.set_cons_zero]
        refine held_take 14 (.slice (some ad) a.K.length a.cK) rfl (by kernel_rfl) (by kernel_rfl) (by kernel_rfl) (by intro _ _ _ h; exact h) (by kernel_rfl) (by first | exact hS | assumption) (fun wq hq => ?_) ?_; (focus (simp [go_sem, c2 wq hq]; done)); simp only [Act.put, Array.getInternal_eq_getElem, List.take_succ_cons, List.take_zero, List.take_nil, List.getElem_toArray, List.getElem_cons_succ, List.getElem_cons_zero, List.setIfInBounds_toArray, List.set_cons_succ, List.set_cons_zero]
        refine held_take 15 (iv k) rfl (by kernel_rfl) (by kernel_rfl) (by kernel_rfl) (by intro _ _ _ h; exact h) (by kernel_rfl) (by first | exact hS | assumption) (fun wq hq => ?_) ?_; (focus (simp [go_sem]; done)); simp only [Act.put, Array.getInternal_eq_getElem, List.take_succ_cons, List.take_zero, List.take_nil, List.getElem_toArray, List.getElem_cons_succ, List.getElem_cons_zero, List.setIfInBounds_toArray, List.set_cons_succ, List.set_cons_zero]
        refine held_take 16 (.pointer (some (ad.add (k * 2)))) rfl (by kernel_rfl) (by kernel_rfl) (by kernel_rfl) (by intro _ _ _ h; exact h) (by kernel_rfl) (by first | exact hS | assumption) (fun wq hq => ?_) ?_; (focus (simp [go_sem, hu23, hkI]; done)); simp only [Act.put, Array.getInternal_eq_getElem, List.take_succ_cons, List.take_zero, List.take_nil, List.getElem_toArray, List.getElem_cons_succ, List.getElem_cons_zero, List.setIfInBounds_toArray, List.set_cons_succ, List.set_cons_zero]
        refine held_take 17 (.pointer (some ⟨(ad.add (k * 2)).block, (ad.add (k * 2)).off + 1, none⟩)) rfl (by kernel_rfl) (by kernel_rfl) (by kernel_rfl) (by intro _ _ _ h; exact h) (by kernel_rfl) (by first | exact hS | assumption) (fun wq hq => ?_) ?_; (focus (simp [go_sem, hu50]; done)); simp only [Act.put, Array.getInternal_eq_getElem, List.take_succ_cons, List.take_zero, List.take_nil, List.getElem_toArray, List.getElem_cons_succ, List.getElem_cons_zero, List.setIfInBounds_toArray, List.set_cons_succ, List.set_cons_zero]
        refine held_take 18 (vi y2) rfl (by kernel_rfl) (by kernel_rfl) (by kernel_rfl) (by intro _ _ _ h; exact h) (by kernel_rfl) (by first | exact hS | assumption) (fun wq hq => ?_) ?_; (focus (simp [go_sem, (hS0 hq).2]; done)); simp only [Act.put, Array.getInternal_eq_getElem, List.take_succ_cons, List.take_zero, List.take_nil, List.getElem_toArray, List.getElem_cons_succ, List.getElem_cons_zero, List.setIfInBounds_toArray, List.set_cons_succ, List.set_cons_zero]
        refine held_take 19 (.pointer (some ⟨w.heap.size, 1, none⟩)) rfl (by kernel_rfl) (by kernel_rfl) (by kernel_rfl) (by intro _ _ _ h; exact h) (by kernel_rfl) (by first | exact hS | assumption) (fun wq hq => ?_) ?_; (focus (simp [go_sem, hu25]; done)); simp only [Act.put, Array.getInternal_eq_getElem, List.take_succ_cons, List.take_zero, List.take_nil, List.getElem_toArray, List.getElem_cons_succ, List.getElem_cons_zero, List.setIfInBounds_toArray, List.set_cons_succ, List.set_cons_zero]
        refine held_take 20 (.slice a.AN a.N.length a.cN) rfl (by kernel_rfl) (by kernel_rfl) (by kernel_rfl) (by intro _ _ _ h; exact h) (by kernel_rfl) (by first | exact hS | assumption) (fun wq hq => ?_) ?_; (focus (simp [go_sem, c1 wq hq]; done)); simp only [Act.put, Array.getInternal_eq_getElem, List.take_succ_cons, List.take_zero, List.take_nil, List.getElem_toArray, List.getElem_cons_succ, List.getElem_cons_zero, List.setIfInBounds_toArray, List.set_cons_succ, List.set_cons_zero]
        refine held_take 21 (iv a.N.length) rfl (by kernel_rfl) (by kernel_rfl) (by kernel_rfl) (by intro _ _ _ h; exact h) (by kernel_rfl) (by first | exact hS | assumption) (fun wq hq => ?_) ?_; (focus (simp [go_sem]; done)); simp only [Act.put, Array.getInternal_eq_getElem, List.take_succ_cons, List.take_zero, List.take_nil, List.getElem_toArray, List.getElem_cons_succ, List.getElem_cons_zero, List.setIfInBounds_toArray, List.set_cons_succ, List.set_cons_zero]
        refine held_take 22 (vi ((a.N.length : Int) - 1)) rfl (by kernel_rfl) (by kernel_rfl) (by kernel_rfl) (by intro _ _ _ h; exact h) (by kernel_rfl) (by first | exact hS | assumption) (fun wq hq => ?_) ?_; (focus (simp [go_sem, hw2]; done)); simp only [Act.put, Array.getInternal_eq_getElem, List.take_succ_cons, List.take_zero, List.take_nil, List.getElem_toArray, List.getElem_cons_succ, List.getElem_cons_zero, List.setIfInBounds_toArray, List.set_cons_succ, List.set_cons_zero]
        refine held_call 23 (f := 70) (args := #[vi y2, vi 0, vi ((a.N.length : Int) - 1)]) rfl (by kernel_rfl) (by kernel_rfl) (by simp [go_sem]) ?_
        refine (in70 y2 0 ((a.N.length : Int) - 1) X1).mono ?_
        rintro e X2 ⟨rfl, hx2⟩
        have k2 : Below W.heap.size W X2 := k1.trans (hx2.mono k1.size)
        refine .inl ⟨_, rfl, k2, ?_⟩
        simp only [Act.put, Array.getInternal_eq_getElem, List.take_succ_cons, List.take_zero, List.take_nil, List.getElem_toArray, List.getElem_cons_succ, List.getElem_cons_zero, List.setIfInBounds_toArray, List.set_cons_succ, List.set_cons_zero]
        generalize inB y2 0 ((a.N.length : Int) - 1) = q2 at *
        refine held_take 24 (.bool (!q2)) rfl (by kernel_rfl) (by kernel_rfl) (by kernel_rfl) (by intro _ _ _ h; exact h) (by kernel_rfl) (by first | exact hS | assumption) (fun wq hq => ?_) ?_; (focus (simp [go_sem]; done)); simp only [Act.put, Array.getInternal_eq_getElem, List.take_succ_cons, List.take_zero, List.take_nil, List.getElem_toArray, List.getElem_cons_succ, List.getElem_cons_zero, List.setIfInBounds_toArray, List.set_cons_succ, List.set_cons_zero]
        refine held_take 25 (.bool (!q2)) rfl (by kernel_rfl) (by kernel_rfl) (by kernel_rfl) (by intro _ _ _ h; exact h) (by kernel_rfl) (by first | exact hS | assumption) (fun wq hq => ?_) ?_; (focus (simp [go_sem]; done)); simp only [Act.put, Array.getInternal_eq_getElem, List.take_succ_cons, List.take_zero, List.take_nil, List.getElem_toArray, List.getElem_cons_succ, List.getElem_cons_zero, List.setIfInBounds_toArray, List.set_cons_succ, List.set_cons_zero]
        refine held_done (by kernel_rfl) ?_
        refine any_done (by kernel_rfl) ⟨rfl, Keep.of_below k2, ?_⟩
        show Exec _ _ (Code.cond _ _ _) _ _ _
        have hB2 := hV.trans (k2.mono hV.size)
        cases q2 with
        | true =>
          refine exec_cond (b := false) rfl (fun h => by cases h) (fun _ => exec_skip ?_)
          exact ⟨by rw [HKO.out]; rfl, hX.keep k2, hB2, by simp [Slots, Fits]⟩
        | false =>
          refine exec_cond (b := true) rfl (fun _ => ?_) (fun h => by cases h)
          have hr : R = false := HF.out (by rw [HKO.out]; rfl)
          subst hr
          refine exec_seq (exec_region_o fun ds => ?_)
          gi_wp2
          refine eq_mk (Keep.refl _) ?_
          show Exec _ _ _ _ _ _
          exact exec_ret ⟨.inr rfl, fun W' hG => ⟨.bool false, by simp [results, Try.f22, go_sem], rfl, hB2.trans (hG.below (Nat.le_refl _) hB2.size)⟩⟩
    · clear hV hX hc1 hc2 c0 c1 c2 hS0 x
      clear W
      rintro t' Y ⟨hy, hX, hV, hSl⟩
      have hT2 := HY.out hy
      have HT2 := Lib.hid hT2
      clear hT2 hy
      obtain ⟨x, hx⟩ := Slots.open_ hSl; simp only [fill, Nat.reduceAdd] at hx; subst hx; clear hSl
      have hw : IntKind.i64.wrap ((k : Int) + 1) = ((k + 1 : Nat) : Int) := by rw [IntWalk.i64_in _ (by omega)]; norm_cast
      refine exec_region_o fun ds => ?_
      gi_wp2
      exact eq_mk (Keep.refl _) ⟨n - 1, by rw [HN.out]; omega, k + 1, by omega, by rw [HN.out]; omega, HT2.out, hX, hV, by simp only [Slots, Fits, and_self]; simp⟩
  · have hkl : k = a.K.length := by have := of_decide_eq_false hp; omega
    have htk := HT.out
    rw [hkl, List.take_length] at htk
    have hka : a.K.any (kinOut a.L.length a.N.length) = false := List.any_eq_false.2 fun y hy => by simp [htk y hy]
    have hR := HR.out
    rw [hka, Bool.not_false, Bool.and_true] at hR
    have HR2 := Lib.hid hR
    clear hR hka htk
    have e0 := c0 W (Below.refl _ _)
    have e1 := c1 W (Below.refl _ _)
    show Exec _ _ (Code.seq _ _) _ _ _
    have hl1 : (a.L.length ≤ 6) ∨ ¬ a.L.length ≤ 6 := Classical.em _
    have hn1 : (a.N.length ≤ 6) ∨ ¬ a.N.length ≤ 6 := Classical.em _
    have hk1 : (a.K.length ≤ 10) ∨ ¬ a.K.length ≤ 10 := Classical.em _
    refine exec_seq (exec_region_o fun ds => ?_)
    have hno : ¬ (a.L.length ≤ 6 ∧ a.N.length ≤ 6 ∧ a.K.length ≤ 10) → R = false := fun c => by
      rw [← HR2.out]
      by_cases x1 : a.L.length ≤ 6 <;> by_cases x2 : a.N.length ≤ 6 <;> by_cases x3 : a.K.length ≤ 10 <;> first | (simp [x1, x2, x3]; done) | exact absurd ⟨x1, x2, x3⟩ c
    have hyes : a.L.length ≤ 6 → a.N.length ≤ 6 → a.K.length ≤ 10 → R = ((a.L.all fun y => inB y 0 6) && (a.N.all fun y => inB y 0 3)) := fun x1 x2 x3 => by
      rw [← HR2.out]
      simp [x1, x2, x3]
    have HNo := Lib.hid hno
    have HYes := Lib.hid hyes
    clear hno hyes
    rcases hl1 with hl1 | hl1
    · rcases hn1 with hn1 | hn1
      · rcases hk1 with hk1 | hk1
        · have hr := HYes.out hl1 hn1 hk1
          have HRR := Lib.hid hr
          clear hr HYes HNo
          gi_wp2_with fail
          refine ⟨trivial, rfl, (callsIn_wide.2 (all72 a.AL a.cL a.L (by omega) 6 W hX.at_.l)).mono ?_⟩
          rintro e X1 ⟨rfl, hx1⟩
          have hX1 := hX.keep hx1
          have hB1 := hV.trans (hx1.mono hV.size)
          have e1 := c1 X1 hx1
          have hK1 := Keep.of_below hx1
          generalize (a.L.all fun y => inB y 0 6) = q1 at *
          cases q1 with
          | false =>
            have hr : R = false := HRR.out
            subst hr
            gi_wp2
            first | refine ⟨trivial, ?_⟩ | skip
            rename_i hK
            refine hK _ _ ?_
            gi_wp2
            refine eq_mk hK1 ?_
            show Exec _ _ _ _ _ _
            exact exec_ret ⟨.inr rfl, fun W' hG => ⟨.bool false, by simp [results, Try.f22, go_sem], rfl, hB1.trans (hG.below (Nat.le_refl _) hB1.size)⟩⟩
          | true =>
            have hr : R = (a.N.all fun y => inB y 0 3) := HRR.out
            subst hr
            gi_wp2_with fail
            refine ⟨trivial, rfl, (callsIn_wide.2 (all72 a.AN a.cN a.N (by omega) 3 X1 hX1.at_.n)).mono ?_⟩
            rintro e X2 ⟨rfl, hx2⟩
            have hB2 := hB1.trans (hx2.mono hB1.size)
            have hK2 := hK1.trans (Keep.of_below hx2)
            gi_wp2
            refine eq_mk hK2 ?_
            show Exec _ _ _ _ _ _
            exact exec_ret ⟨.inr rfl, fun W' hG => ⟨.bool (a.N.all fun y => inB y 0 3), by simp [results, Try.f22, go_sem], rfl, hB2.trans (hG.below (Nat.le_refl _) hB2.size)⟩⟩
        · have hr : R = false := HNo.out (fun c => hk1 c.2.2)
          subst hr
          have hkI : ¬ ((a.K.length : Int) ≤ 10) := by omega
          clear HYes HNo
          gi_wp2
          first | refine ⟨trivial, ?_⟩ | skip
          rename_i hK
          refine hK _ _ ?_
          gi_wp2
          first | refine ⟨trivial, ?_⟩ | skip
          rename_i hK
          refine hK _ _ ?_
          gi_wp2
          refine eq_mk (Keep.refl _) ?_
          show Exec _ _ _ _ _ _
          exact exec_ret ⟨.inr rfl, fun W' hG => ⟨.bool false, by simp [results, Try.f22, go_sem], rfl, hV.trans (hG.below (Nat.le_refl _) hV.size)⟩⟩
      · have hr : R = false := HNo.out (fun c => hn1 c.2.1)
        subst hr
        have hnI : ¬ ((a.N.length : Int) ≤ 6) := by omega
        clear HYes HNo hk1
        gi_wp2
        first | refine ⟨trivial, ?_⟩ | skip
        rename_i hK
        refine hK _ _ ?_
        gi_wp2
        first | refine ⟨trivial, ?_⟩ | skip
        rename_i hK
        refine hK _ _ ?_
        gi_wp2
        refine eq_mk (Keep.refl _) ?_
        show Exec _ _ _ _ _ _
        exact exec_ret ⟨.inr rfl, fun W' hG => ⟨.bool false, by simp [results, Try.f22, go_sem], rfl, hV.trans (hG.below (Nat.le_refl _) hV.size)⟩⟩
    · have hr : R = false := HNo.out (fun c => hl1 c.1)
      subst hr
      have hlI : ¬ ((a.L.length : Int) ≤ 6) := by omega
      clear HYes HNo hk1 hn1
      gi_wp2
      first | refine ⟨trivial, ?_⟩ | skip
      rename_i hK
      refine hK _ _ ?_
      gi_wp2
      first | refine ⟨trivial, ?_⟩ | skip
      rename_i hK
      refine hK _ _ ?_
      gi_wp2
      refine eq_mk (Keep.refl _) ?_
      show Exec _ _ _ _ _ _
      exact exec_ret ⟨.inr rfl, fun W' hG => ⟨.bool false, by simp [results, Try.f22, go_sem], rfl, hV.trans (hG.below (Nat.le_refl _) hV.size)⟩⟩
end Go.Proofs.Ytbdmmikflkpmpaa
end

section
set_option linter.unusedVariables false
set_option linter.unusedSimpArgs false
namespace Go.Proofs.Ytbdmmikflkpmpaa
open Go.RowKit Go.TL Go.Shelf Go.Pn
attribute [local go_sem] Oper.semAt_some
attribute [local go_sem] run_store_func
/-- Panels as they are handed over, of any size. -/
structure XP.Row (x : XP) (w : World) : Prop where
  l : RowV w x.AL (x.L.map vi)
  n : RowV w x.AN (x.N.map vi)
  k : RowKI w x.AK x.K
theorem XP.Row.at_ {x : XP} {w : World} (h : x.Row w) (h1 : x.L.length ≤ 40) (h2 : x.N.length ≤ 40) (h3 : x.K.length ≤ 40) : x.At w := ⟨h.l, h.n, h.k, h1, h2, h3⟩
theorem XP.Row.below {x : XP} {w w' : World} (h : x.Row w) (hb : Below w.heap.size w w') : x.Row w' := ⟨h.l.below hb, h.n.below hb, h.k.grow (Grow.of_below (B := 0) hb)⟩
def XP.small (x : XP) : Bool := decide (x.L.length ≤ 40) && decide (x.N.length ≤ 40) && decide (x.K.length ≤ 40)
def XP.big (x : XP) (j p k : Nat) : Bool := decide (j < x.L.length) || decide (p < x.N.length) || decide (k < x.K.length)
def heavyB (x : XP) (j p k : Nat) : Bool := !x.small || (x.isP && x.big j p k)
set_option maxRecDepth 100000 in
set_option maxHeartbeats 1000000 in
theorem heavy13 (a : XP) (j p k : Nat) (w : World) (ha : a.Row w) : Calls Try.prog 13 #[a.val, iv j, iv p, iv k] w fun e w' => e = .returned (.bool (heavyB a j p k)) ∧ Below w.heap.size w w' := by
  have hu25 := Try.underlying25
  obtain ⟨R, hR⟩ : ∃ R, heavyB a j p k = R := ⟨_, rfl⟩
  rw [hR]
  have HR := Lib.hid hR
  clear hR
  refine calls_of_exec Try.func13 rfl ?_
  simp only [Try.ntmps13, List.size_toArray, List.length_cons, List.length_nil, Nat.reduceAdd, Nat.reduceSub, Array.replicate_succ, Array.replicate_zero, List.push_toArray, List.append_toArray, List.nil_append, List.cons_append]
  simp only [XP.val]
  refine exec_seq (exec_region_o fun ds => ?_)
  gi_wp2
  refine eq_mk ((Keep.refl _).alloc _) ?_
  show Exec _ _ (Code.seq (Code.seq _ _) _) _ (w.alloc (.cells #[a.sL, a.sN, a.sK] 25)) _
  have hB := (Below.refl w.heap.size w).alloc (Nat.le_refl _) (.cells #[a.sL, a.sN, a.sK] 25)
  have hh : (w.alloc (.cells #[a.sL, a.sN, a.sK] 25)).heap[w.heap.size]? = some (.cells #[a.sL, a.sN, a.sK] 25 (0, 0)) := World.alloc_heap_new _ _
  have hX := ha.below hB
  generalize w.alloc (.cells #[a.sL, a.sN, a.sK] 25) = X at *
  have hh2 := hh
  simp only [XP.sL, XP.sN, XP.sK] at hh2
  have c0 := cells_get (cs := [_, _, _]) (k := 0) hh2 rfl
  have c1 := cells_get (cs := [_, _, _]) (k := 1) hh2 rfl
  have c2 := cells_get (cs := [_, _, _]) (k := 2) hh2 rfl
  refine exec_seq (exec_cut (fun t' W' => W' = X ∧ Slots (none :: some (iv j) :: some (iv p) :: some (iv k) :: some (.pointer (some ⟨w.heap.size, 0, none⟩)) :: none :: none :: none :: some (.bool false) :: none :: none :: o4 (o4 (some (.bool (!a.small)) :: none :: none :: none :: o4 (o16 [])))) t') (exec_region_o fun ds => ?_) ?_)
  · obtain ⟨S, hS⟩ : ∃ S, (!a.small) = S := ⟨_, rfl⟩
    simp only [hS]
    have HS := Lib.hid hS
    clear hS
    gi_wp2
    all_goals
      refine eq_mk (Keep.refl _) ⟨rfl, ?_⟩
      simp only [Slots, Fits, true_and, and_true, and_self, Value.bool.injEq]
      rw [← HS.out, Bool.eq_iff_iff]
      simp only [XP.small, decide_eq_true_eq, Bool.not_eq_true', Bool.and_eq_false_iff, decide_eq_false_iff_not]
      omega
  · rintro t X' ⟨rfl, hSl⟩
    obtain ⟨x, hx⟩ := Slots.open_ hSl; simp only [fill, Nat.reduceAdd] at hx; subst hx; clear hSl
    show Exec _ _ (Code.cond _ _ _) _ _ _
    cases hs : a.small with
    | false =>
      have hr : R = true := by rw [← HR.out]; simp [heavyB, hs]
      subst hr
      refine exec_cond (b := true) rfl (fun _ => ?_) (fun h => by cases h)
      refine exec_seq (exec_region_o fun ds => ?_)
      gi_wp2
      refine eq_mk (Keep.refl _) ?_
      show Exec _ _ _ _ _ _
      exact exec_ret ⟨.inr rfl, fun W' hG => ⟨.bool true, by simp [results, Try.f13, go_sem], rfl, hB.trans (hG.below (Nat.le_refl _) hB.size)⟩⟩
    | true =>
      have h3 : (a.L.length ≤ 40 ∧ a.N.length ≤ 40) ∧ a.K.length ≤ 40 := by
        simpa [XP.small] using hs
      have hr : R = (a.isP && a.big j p k) := by rw [← HR.out]; simp [heavyB, hs]
      refine exec_cond (b := false) rfl (fun h => by cases h) (fun _ => exec_skip ?_)
      have hat := hX.at_ h3.1.1 h3.1.2 h3.2
      have HRR := Lib.hid hr
      clear hr hs HR c0 c1 c2
      have c0 := cells_get (cs := [_, _, _]) (k := 0) hh rfl
      have c1 := cells_get (cs := [_, _, _]) (k := 1) hh rfl
      have c2 := cells_get (cs := [_, _, _]) (k := 2) hh rfl
      show Exec _ _ (Code.seq _ _) _ _ _
      refine exec_cut (fun t' W' => Below w.heap.size w W' ∧ Slots (o4 (o4 (some (.bool R) :: none :: none :: o16 (o16 [])))) t') (exec_region_o fun ds => ?_) ?_
      · gi_wp2_with fail
        refine ⟨trivial, rfl, (callsIn_wide.2 (panels22 a X' hat)).mono ?_⟩
        rintro e Y ⟨rfl, hy⟩
        have hBY := hB.trans (hy.mono hB.size)
        have hhY := (hy.block _ (heap_lt hh)).trans hh
        simp only [XP.sL, XP.sN, XP.sK] at hhY
        clear c0 c1 c2
        have c0 := cells_get (cs := [_, _, _]) (k := 0) hhY rfl
        have c1 := cells_get (cs := [_, _, _]) (k := 1) hhY rfl
        have c2 := cells_get (cs := [_, _, _]) (k := 2) hhY rfl
        have hKY := Keep.of_below hy
        clear hy
        cases hq : a.isP with
        | false =>
          have hr : R = false := by rw [HRR.out, hq]; rfl
          subst hr
          clear hq
          gi_wp2
          all_goals first | exact eq_mk hKY ⟨hBY, (by simp only [Slots, Fits, and_self])⟩ | (rename_i h1 h2; cases h1; done) | (rename_i h1 h2; simp [undef] at h1; done)
        | true =>
          have hr : R = a.big j p k := by rw [HRR.out, hq]; rfl
          have HR2 := Lib.hid hr
          clear hr hq
          gi_wp2
          all_goals
            refine eq_mk hKY ⟨hBY, ?_⟩
            simp only [Slots, Fits, true_and, and_true, and_self, Value.bool.injEq]
            rw [HR2.out]
            unfold XP.big
            first
              | (rw [eq_comm, Bool.eq_iff_iff]; simp only [Bool.or_eq_true, decide_eq_true_eq]; done)
              | (rw [eq_comm, Bool.eq_iff_iff]; simp only [Bool.or_eq_true, decide_eq_true_eq]; omega)
              | (symm; simp only [Bool.or_eq_true, decide_eq_true_eq, Bool.or_eq_false_iff, decide_eq_false_iff_not]; done)
              | (symm; simp only [Bool.or_eq_true, decide_eq_true_eq, Bool.or_eq_false_iff, decide_eq_false_iff_not]; omega)
              | (rename_i h1 h2; simp [h1, h2]; done)
      · rintro t' Y ⟨hBY, hSl⟩
        obtain ⟨x, hx⟩ := Slots.open_ hSl; simp only [fill, Nat.reduceAdd] at hx; subst hx; clear hSl
        exact exec_ret ⟨.inr rfl, fun W' hG => ⟨.bool R, by simp [results, Try.f13, go_sem], rfl, hBY.trans (hG.below (Nat.le_refl _) hBY.size)⟩⟩
end Go.Proofs.Ytbdmmikflkpmpaa
end

section
set_option linter.unusedVariables false
set_option linter.unusedSimpArgs false
namespace Go.Proofs.Ytbdmmikflkpmpaa
open Go.RowKit Go.TL Go.Shelf Go.Pn
attribute [local go_sem] Oper.semAt_some
attribute [local go_sem] run_store_func
def kinB (a : XP) (x y : Int) : Bool := a.K.any fun k => decide (k.1 = x) && decide (k.2 = y)
def KnI (w : World) (a : XP) (x y : Int) (n : Nat) (t : Array Value) (W : World) : Prop :=
  ∃ k : Nat, k ≤ a.K.length ∧ n = a.K.length - k ∧ (∀ z ∈ a.K.take k, (decide (z.1 = x) && decide (z.2 = y)) = false) ∧ PBx W w.heap.size a ∧ Below w.heap.size w W ∧ Slots (none :: some (vi x) :: some (vi y) :: some (.pointer (some ⟨w.heap.size, 0, none⟩)) :: none :: none :: none :: some (iv k) :: none :: o4 (o4 (o16 []))) t
set_option maxRecDepth 100000 in
set_option maxHeartbeats 1000000 in
theorem kin29 (a : XP) (x0 y0 : Int) (w : World) (ha : a.At w) : Calls Try.prog 29 #[a.val, vi x0, vi y0] w fun e w' => e = .returned (.bool (kinB a x0 y0)) ∧ Below w.heap.size w w' := by
  have hu25 := Try.underlying25
  have hu23 := Try.underlying23
  have hu50 := Try.underlying50
  have h6 := ha.k4
  obtain ⟨R, hR⟩ : ∃ R, kinB a x0 y0 = R := ⟨_, rfl⟩
  rw [hR]
  have HR := Lib.hid hR
  clear hR
  refine calls_of_exec Try.func29 rfl ?_
  simp only [Try.ntmps29, List.size_toArray, List.length_cons, List.length_nil, Nat.reduceAdd, Nat.reduceSub, Array.replicate_succ, Array.replicate_zero, List.push_toArray, List.append_toArray, List.nil_append, List.cons_append]
  simp only [XP.val]
  refine exec_seq (exec_region_o fun ds => ?_)
  gi_wp2
  refine eq_mk ((Keep.refl _).alloc _) ?_
  show Exec _ _ (Code.seq (Code.seq _ _) _) _ (w.alloc (.cells #[a.sL, a.sN, a.sK] 25)) _
  have hB := (Below.refl w.heap.size w).alloc (Nat.le_refl _) (.cells #[a.sL, a.sN, a.sK] 25)
  have hX : PBx (w.alloc (.cells #[a.sL, a.sN, a.sK] 25)) w.heap.size a := ⟨World.alloc_heap_new _ _, ha.below hB⟩
  generalize w.alloc (.cells #[a.sL, a.sN, a.sK] 25) = X at *
  refine exec_seq (exec_seq (exec_region_o fun ds => ?_))
  gi_wp2
  refine eq_mk (Keep.refl _) ?_
  show Exec _ _ (Code.block _ _) _ _ _
  refine exec_block ?_
  refine exec_loop (KnI w a x0 y0) a.K.length ⟨0, by omega, rfl, by simp, hX, hB, by simp [Slots, Fits]⟩ ?_
  clear hX hB
  clear X
  rintro n t W ⟨k, hk, hn, htk, hX, hV, hSl⟩
  have HT := Lib.hid htk
  have HN := Lib.hid hn
  clear htk hn
  have hh := hX.heap
  simp only [XP.sK] at hh
  have e2 := cells_get (cs := [_, _, _]) (k := 2) hh rfl
  clear hh
  obtain ⟨x, hx⟩ := Slots.open_ hSl; simp only [fill, Nat.reduceAdd] at hx; subst hx; clear hSl
  show Exec _ _ (Code.seq (Code.seq _ _) _) _ _ _
  refine exec_seq (exec_seq (exec_region_o fun ds => ?_))
  gi_wp2
  refine eq_mk (Keep.refl _) ?_
  show Exec _ _ (Code.cond _ _ _) _ _ _
  refine (exec_cond (b := decide (k < a.K.length)) (by first | rfl | (show Value.bool _ = _; congr 1; exact decide_eq_decide.2 (by omega))) (fun hp => exec_skip ?_) (fun hp => exec_exit ?_))
  · have hkl : k < a.K.length := by have := of_decide_eq_true hp; omega
    show Exec _ _ (Code.seq (Code.block _ _) _) _ _ _
    obtain ⟨z, hz⟩ : ∃ z, a.K[k]? = some z := ⟨_, List.getElem?_eq_getElem hkl⟩
    obtain ⟨ad, hA, hc1, hc2⟩ := hX.at_.k k z hz
    have hzm := List.mem_of_getElem? hz
    have HY : (decide (z.1 = x0) && decide (z.2 = y0)) = false → ∀ z ∈ a.K.take (k + 1), (decide (z.1 = x0) && decide (z.2 = y0)) = false := fun e z' hz' => by
      rw [List.take_add_one, hz] at hz'
      rcases List.mem_append.1 hz' with h | h
      · exact HT.out z' h
      · simp at h
        rw [h]; exact e
    have HF : (decide (z.1 = x0) && decide (z.2 = y0)) = true → R = true := fun e => by
      rw [← HR.out]
      exact List.any_eq_true.2 ⟨z, hzm, e⟩
    have HY := Lib.hid HY
    have HF := Lib.hid HF
    clear hz hzm
    obtain ⟨z1, z2⟩ := z
    simp only at hc1 hc2
    have hkI : (k : Int) < a.K.length := by omega
    rw [hA] at e2
    obtain ⟨q, hq⟩ : ∃ q, (decide (z1 = x0) && decide (z2 = y0)) = q := ⟨_, rfl⟩
    have HQ := Lib.hid hq
    refine exec_cut (fun t' Y => q = false ∧ PBx Y w.heap.size a ∧ Below w.heap.size w Y ∧ Slots (none :: some (vi x0) :: some (vi y0) :: some (.pointer (some ⟨w.heap.size, 0, none⟩)) :: none :: none :: none :: some (iv k) :: none :: o4 (o4 (o16 []))) t') (exec_block ?_) ?_
    · clear hq
      show Exec _ _ (Code.seq _ _) _ _ _
      refine exec_cut (fun t' Y => Y = W ∧ Slots (none :: some (vi x0) :: some (vi y0) :: some (.pointer (some ⟨w.heap.size, 0, none⟩)) :: none :: none :: none :: some (iv k) :: o4 (o4 (o16 (some (.bool q) :: [])))) t') (exec_region_o fun ds => ?_) ?_
      · by_cases h1 : z1 = x0
        · by_cases h2 : z2 = y0
          · have hq : q = true := by rw [← HQ.out]; simp [h1, h2]
            clear HQ HY HF
            subst hq
            subst h1 h2
            gi_wp2
            all_goals exact eq_mk (Keep.refl _) ⟨rfl, by simp [Slots, Fits]⟩
          · have hq : q = false := by rw [← HQ.out]; simp [h2]
            clear HQ HY HF
            subst hq
            subst h1
            gi_wp2
            all_goals exact eq_mk (Keep.refl _) ⟨rfl, by simp [Slots, Fits, h2]⟩
        · have hq : q = false := by rw [← HQ.out]; simp [h1]
          clear HQ HY HF
          subst hq
          gi_wp2
          all_goals exact eq_mk (Keep.refl _) ⟨rfl, by simp [Slots, Fits]⟩
      · rintro t' Y ⟨rfl, hSl⟩
        clear x
        obtain ⟨x, hx⟩ := Slots.open_ hSl; simp only [fill, Nat.reduceAdd] at hx; subst hx; clear hSl
        show Exec _ _ (Code.cond _ _ _) _ _ _
        cases q with
        | false =>
          refine exec_cond (b := false) rfl (fun h => by cases h) (fun _ => exec_skip ?_)
          exact ⟨rfl, hX, hV, by simp [Slots, Fits]⟩
        | true =>
          have hr : R = true := HF.out HQ.out
          subst hr
          refine exec_cond (b := true) rfl (fun _ => ?_) (fun h => by cases h)
          refine exec_seq (exec_region_o fun ds => ?_)
          gi_wp2
          refine eq_mk (Keep.refl _) ?_
          show Exec _ _ _ _ _ _
          exact exec_ret ⟨.inr rfl, fun W' hG => ⟨.bool true, by simp [results, Try.f29, go_sem], rfl, hV.trans (hG.below (Nat.le_refl _) hV.size)⟩⟩
    · clear hV hX hc1 hc2 e2 x
      clear W
      rintro t' Y ⟨hy, hX, hV, hSl⟩
      have hT2 := HY.out (by rw [hq, hy])
      have HT2 := Lib.hid hT2
      clear hT2 hy hq
      obtain ⟨x, hx⟩ := Slots.open_ hSl; simp only [fill, Nat.reduceAdd] at hx; subst hx; clear hSl
      have hw : IntKind.i64.wrap ((k : Int) + 1) = ((k + 1 : Nat) : Int) := by rw [IntWalk.i64_in _ (by omega)]; norm_cast
      refine exec_region_o fun ds => ?_
      gi_wp2
      exact eq_mk (Keep.refl _) ⟨n - 1, by rw [HN.out]; omega, k + 1, by omega, by rw [HN.out]; omega, HT2.out, hX, hV, by simp only [Slots, Fits, and_self]; simp⟩
  · have hkl : k = a.K.length := by have := of_decide_eq_false hp; omega
    have htk := HT.out
    rw [hkl, List.take_length] at htk
    have hr : R = false := by
      rw [← HR.out]
      exact List.any_eq_false.2 fun z hz => by simp only [htk z hz]; simp
    subst hr
    clear htk
    show Exec _ _ (Code.seq _ _) _ _ _
    refine exec_seq (exec_region_o fun ds => ?_)
    gi_wp2
    refine eq_mk (Keep.refl _) ?_
    show Exec _ _ _ _ _ _
    exact exec_ret ⟨.inr rfl, fun W' hG => ⟨.bool false, by simp [results, Try.f29, go_sem], rfl, hV.trans (hG.below (Nat.le_refl _) hV.size)⟩⟩
def bitsTo (s k : Nat) : Nat := sumN (fun j => b1 (s.testBit j)) k
def SzI (w : World) (s : Nat) (n : Nat) (t : Array Value) (W : World) : Prop :=
  ∃ k : Nat, k ≤ 10 ∧ n = 10 - k ∧ Below w.heap.size w W ∧ Slots (some (iv (s / 2 ^ k)) :: none :: none :: some (iv (bitsTo s k)) :: none :: o4 (o4 [])) t
set_option maxRecDepth 100000 in
set_option maxHeartbeats 1000000 in
theorem size30 (s : Nat) (hs : s < 1024) (w : World) : Calls Try.prog 30 #[iv s] w fun e w' => e = .returned (iv (pop s)) ∧ Below w.heap.size w w' := by
  refine calls_of_exec Try.func30 rfl ?_
  simp only [Try.ntmps30, List.size_toArray, List.length_cons, List.length_nil, Nat.reduceAdd, Nat.reduceSub, Array.replicate_succ, Array.replicate_zero, List.push_toArray, List.append_toArray, List.nil_append, List.cons_append]
  refine exec_seq (exec_region_o fun ds => ?_)
  gi_wp2
  refine eq_mk (Keep.refl w) ?_
  show Exec _ _ (Code.seq _ _) _ _ _
  refine exec_seq (exec_region_o fun ds => ?_)
  gi_wp2
  refine eq_mk (Keep.refl _) ?_
  show Exec _ _ (Code.seq (Code.block _ _) _) _ _ _
  refine exec_seq (exec_block ?_)
  refine exec_loop (SzI w s) 10 ⟨0, by omega, rfl, Below.refl _ _, by simp [Slots, Fits, bitsTo, sumN]⟩ ?_
  rintro n t W ⟨k, hk, hn, hV, hSl⟩
  have HN := Lib.hid hn
  clear hn
  have hble : bitsTo s k ≤ k := by
    have := sumN_le (f := fun j => b1 (s.testBit j)) (g := fun _ => 1) k (fun i _ => by unfold b1; split <;> omega)
    have h1 : ∀ k, sumN (fun _ => 1) k = k := fun k => by
      induction k with
      | zero => rfl
      | succ k ih => show sumN _ k + 1 = _; rw [ih]
    rw [h1] at this
    exact this
  have hdle : s / 2 ^ k ≤ s := Nat.div_le_self _ _
  have hnext : bitsTo s (k + 1) = bitsTo s k + (s / 2 ^ k) % 2 := by
    show bitsTo s k + b1 (s.testBit k) = _
    congr 1
    rw [Nat.testBit_eq_decide_div_mod_eq]
    unfold b1
    have := Nat.mod_lt (s / 2 ^ k) (show 0 < 2 by omega)
    by_cases h : s / 2 ^ k % 2 = 1
    · rw [if_pos (decide_eq_true h), h]
    · rw [if_neg (by simp [h])]
      omega
  have hdiv : s / 2 ^ (k + 1) = s / 2 ^ k / 2 := by rw [Nat.pow_succ, Nat.div_div_eq_div_mul]
  have hend : s / 2 ^ k = 0 → pop s = bitsTo s k := fun h => by
    have hlt : s < 2 ^ k := by
      have := Nat.div_eq_zero_iff.1 h
      rcases this with h | h
      · have := Nat.pow_pos (n := k) (show 0 < 2 by omega)
        omega
      · exact h
    exact pop_n hlt hk
  have hten : k = 10 → s / 2 ^ k = 0 := fun h => by rw [h]; exact Nat.div_eq_of_lt hs
  obtain ⟨d, hd⟩ : ∃ d, s / 2 ^ k = d := ⟨_, rfl⟩
  rw [hd] at hSl hdle hnext hdiv hend hten
  have H1 := Lib.hid hnext
  have H2 := Lib.hid hdiv
  have H3 := Lib.hid hend
  clear hd hnext hdiv hend
  generalize hbk : bitsTo s k = bk at *
  have HB := Lib.hid hbk
  clear hbk
  obtain ⟨x, hx⟩ := Slots.open_ hSl; simp only [fill, Nat.reduceAdd] at hx; subst hx; clear hSl
  show Exec _ _ (Code.seq (Code.seq _ _) _) _ _ _
  refine exec_seq (exec_seq (exec_region_o fun ds => ?_))
  gi_wp2
  refine eq_mk (Keep.refl _) ?_
  show Exec _ _ (Code.cond _ _ _) _ _ _
  refine (exec_cond (b := decide (0 < d)) (by first | rfl | (show Value.bool _ = _; congr 1; exact decide_eq_decide.2 (by omega))) (fun hp => exec_skip ?_) (fun hp => exec_exit ?_))
  · have hd0 : 0 < d := of_decide_eq_true hp
    have hk10 : k < 10 := by
      apply Classical.byContradiction
      intro c
      have := hten (by omega)
      omega
    clear hten
    have hr : (d : Int).tmod 2 = ((d % 2 : Nat) : Int) := by rw [Int.tmod_eq_emod_of_nonneg (by omega)]; omega
    have hq : (d : Int).tdiv 2 = ((d / 2 : Nat) : Int) := by rw [Int.tdiv_eq_ediv_of_nonneg (by omega)]; omega
    have hw1 : IntKind.i64.wrap ((d % 2 : Nat) : Int) = ((d % 2 : Nat) : Int) := IntWalk.i64_in _ (by omega)
    have hw2 : IntKind.i64.wrap ((d / 2 : Nat) : Int) = ((d / 2 : Nat) : Int) := IntWalk.i64_in _ (by omega)
    have hw3 : IntKind.i64.wrap ((bk : Int) + ((d % 2 : Nat) : Int)) = ((bk + d % 2 : Nat) : Int) := by rw [IntWalk.i64_in _ (by omega)]; norm_cast
    show Exec _ _ (Code.block _ _) _ _ _
    refine exec_block (exec_seq (exec_region_o fun ds => ?_))
    gi_wp2
    refine eq_mk (Keep.refl _) ?_
    show Exec _ _ _ _ _ _
    refine exec_region_o fun ds => ?_
    gi_wp2
    refine eq_mk (Keep.refl _) ⟨n - 1, by rw [HN.out]; omega, k + 1, by omega, by rw [HN.out]; omega, hV, ?_⟩
    rw [H1.out, H2.out]
    simp only [Slots, Fits, and_self, true_and, and_true]
    exact ⟨by simp, by simp⟩
  · have hd0 : d = 0 := by have := of_decide_eq_false hp; omega
    have hp := H3.out hd0
    have HP := Lib.hid hp
    clear hp
    show Exec _ _ (Code.seq _ _) _ _ _
    refine exec_seq (exec_region_o fun ds => ?_)
    gi_wp2
    refine eq_mk (Keep.refl _) ?_
    show Exec _ _ _ _ _ _
    exact exec_ret ⟨.inr rfl, fun W' hG => ⟨iv bk, by simp [results, Try.f30, go_sem], by rw [HP.out], hV.trans (hG.below (Nat.le_refl _) hV.size)⟩⟩
end Go.Proofs.Ytbdmmikflkpmpaa
end

section
set_option linter.unusedVariables false
set_option linter.unusedSimpArgs false
namespace Go.Proofs.Ytbdmmikflkpmpaa
open Go.RowKit Go.TL Go.Shelf Go.Pn
attribute [local go_sem] Oper.semAt_some
attribute [local go_sem] run_store_func
theorem and_i (a b : Nat) (ha : a < 2 ^ 63) (hb : b < 2 ^ 63) : bits .and .i64 (a : Int) (b : Int) = ((a &&& b : Nat) : Int) := (bits_nat .i64 63 (by decide) wrapi a b ha hb).1
theorem div_pow_cast (s x : Nat) : (s : Int) / (2 : Int) ^ x = ((s / 2 ^ x : Nat) : Int) := by rw [pow_cast]; norm_cast
theorem bit_and (s x : Nat) : s / 2 ^ x &&& 1 = b1 (s.testBit x) := by
  rw [Nat.and_one_is_mod, Nat.testBit_eq_decide_div_mod_eq]
  unfold b1
  have := Nat.mod_lt (s / 2 ^ x) (show 0 < 2 by omega)
  by_cases h : s / 2 ^ x % 2 = 1
  · rw [if_pos (decide_eq_true h), h]
  · rw [if_neg (by simp [h])]
    omega
theorem bit_i (s x : Nat) (hs : s < 2 ^ 62) : bits .and .i64 ((s : Int) / (2 : Int) ^ x) 1 = ((b1 (s.testBit x) : Nat) : Int) := by
  rw [div_pow_cast, show (1 : Int) = ((1 : Nat) : Int) from rfl, and_i _ _ (Nat.lt_of_le_of_lt (Nat.div_le_self _ _) (by omega)) (by decide), bit_and]
structure W38 (w : World) (a : XP) (v : Value) (M : List (Nat × Nat)) (W : World) : Prop where
  b2 : PBx W w.heap.size a
  b4 : W.heap[w.heap.size + 1]? = some (.cells #[.slice none 0 0, .slice none 0 0, .slice none 0 0] 25 (0, 0))
  b5 : W.heap[w.heap.size + 1 + 1]? = some (.cells #[a.sL, a.sN, v] 25 (0, 0))
  own : W.ownsRow (w.heap.size + 1 + 1 + 1) 50 2 v M.length (flatV M)
  below : Below w.heap.size w W
theorem W38.keep {w : World} {a : XP} {v : Value} {M : List (Nat × Nat)} {W W' : World} (h : W38 w a v M W) (hb : Below W.heap.size W W') : W38 w a v M W' := ⟨h.b2.keep hb, (hb.block _ (heap_lt h.b4)).trans h.b4, (hb.block _ (heap_lt h.b5)).trans h.b5, own_grow h.own (Grow.of_below (B := 0) hb), h.below.trans (hb.mono h.below.size)⟩
def I38 (w : World) (a : XP) (s : Nat) (n : Nat) (t : Array Value) (W : World) : Prop :=
  ∃ (k : Nat) (v : Value), k ≤ a.K.length ∧ n = a.K.length - k ∧ W38 w a v (waiveTo s a.s3.2.2 k) W ∧ Slots (none :: some (iv s) :: some (.pointer (some ⟨w.heap.size, 0, none⟩)) :: none :: some (.pointer (some ⟨w.heap.size + 1, 0, none⟩)) :: some (.pointer (some ⟨w.heap.size + 1 + 1, 0, none⟩)) :: none :: o4 (some (.slice a.AK a.K.length a.cK) :: some (iv a.K.length) :: some (iv k) :: none :: o16 [])) t
def M38 (w : World) (a : XP) (s k : Nat) (M : List (Nat × Nat)) (t : Array Value) (W : World) : Prop :=
  ∃ (v : Value), W38 w a v M W ∧ Slots (none :: some (iv s) :: some (.pointer (some ⟨w.heap.size, 0, none⟩)) :: none :: some (.pointer (some ⟨w.heap.size + 1, 0, none⟩)) :: some (.pointer (some ⟨w.heap.size + 1 + 1, 0, none⟩)) :: none :: o4 (some (.slice a.AK a.K.length a.cK) :: some (iv a.K.length) :: some (iv k) :: none :: o16 [])) t
theorem XP.castK {a : XP} (hf : a.Fine) : a.s3.2.2.map (fun k => ((k.1 : Int), (k.2 : Int))) = a.K := by
  show (a.K.map fun k => (k.1.toNat, k.2.toNat)).map _ = _
  rw [List.map_map]
  conv => rhs; rw [← List.map_id a.K]
  refine List.map_congr_left fun k hk => ?_
  have := hf.kb k hk
  simp only [Function.comp, id]
  rw [Int.toNat_of_nonneg this.1.1, Int.toNat_of_nonneg this.2.1]
/-- The panels with pairs left out. -/
def XP.waived (a : XP) (A : Option Addr) (c s : Nat) : XP := { a with AK := A, cK := c, K := (waiveK s a.s3.2.2).map fun k => ((k.1 : Int), (k.2 : Int)) }
theorem XP.waived_s3 (a : XP) (A : Option Addr) (c s : Nat) : (a.waived A c s).s3 = a.s3.waive s := by
  show (_, _, _) = (_, _, _)
  congr 1
  congr 1
  show ((waiveK s a.s3.2.2).map _).map _ = _
  rw [List.map_map]
  conv => rhs; rw [← List.map_id (waiveK s a.s3.2.2)]
  exact List.map_congr_left fun k _ => by simp
theorem XP.waived_fine {a : XP} (hf : a.Fine) (A : Option Addr) (c s : Nat) : (a.waived A c s).Fine := by
  refine ⟨hf.j, hf.p, ?_, hf.lb, hf.nb, ?_⟩
  · show ((waiveK s a.s3.2.2).map _).length ≤ 10
    rw [List.length_map]
    have := waiveTo_len s a.s3.2.2 a.s3.2.2.length
    have h2 : a.s3.2.2.length = a.K.length := by simp [XP.s3]
    have := hf.k
    unfold waiveK
    omega
  · intro y hy
    obtain ⟨z, hz, rfl⟩ := List.mem_map.1 hy
    obtain ⟨i, _, hi⟩ := waiveK_mem.1 hz
    obtain ⟨q, hq, rfl⟩ := List.mem_map.1 (show z ∈ a.K.map fun k => (k.1.toNat, k.2.toNat) from List.mem_of_getElem? hi)
    have := hf.kb q hq
    show ((_ : Int) ≤ _ ∧ _ < (a.L.length : Int)) ∧ _ ≤ _ ∧ _ < (a.N.length : Int)
    simp only
    omega
theorem XP.waived_at {a : XP} {W : World} (ha : a.At W) {A : Option Addr} {c s : Nat} (hr : RowK W A (waiveK s a.s3.2.2)) : (a.waived A c s).At W := by
  refine ⟨ha.l, ha.n, rowKI_of hr, ha.l4, ha.n4, ?_⟩
  show ((waiveK s a.s3.2.2).map _).length ≤ 40
  rw [List.length_map]
  have := waiveTo_len s a.s3.2.2 a.s3.2.2.length
  have h2 : a.s3.2.2.length = a.K.length := by simp [XP.s3]
  have := ha.k4
  unfold waiveK
  omega
set_option maxRecDepth 100000 in
set_option maxHeartbeats 2000000 in
theorem waived38 (a : XP) (hf : a.Fine) (s : Nat) (hs : s < 2 ^ 62) (w : World) (ha : a.At w) : Calls Try.prog 38 #[a.val, iv s] w fun e w' => ∃ A c, e = .returned (a.waived A c s).val ∧ (a.waived A c s).At w' ∧ Below w.heap.size w w' := by
  have hu25 := Try.underlying25
  have hu23 := Try.underlying23
  have hu50 := Try.underlying50
  have h10 := hf.k
  have hKl : a.s3.2.2.length = a.K.length := by simp [XP.s3]
  refine calls_of_exec Try.func38 rfl ?_
  simp only [Try.ntmps38, List.size_toArray, List.length_cons, List.length_nil, Nat.reduceAdd, Nat.reduceSub, Array.replicate_succ, Array.replicate_zero, List.push_toArray, List.append_toArray, List.nil_append, List.cons_append]
  simp only [XP.val]
  refine exec_seq (exec_region_o fun ds => ?_)
  gi_wp2
  refine eq_mk (((Keep.refl _).alloc _).alloc _) ?_
  show Exec _ _ (Code.seq _ _) _ ((w.alloc (.cells #[a.sL, a.sN, a.sK] 25)).alloc (.cells #[.slice none 0 0, .slice none 0 0, .slice none 0 0] 25)) _
  have hB := ((Below.refl w.heap.size w).alloc (Nat.le_refl _) (.cells #[a.sL, a.sN, a.sK] 25)).alloc (by simp) (.cells #[.slice none 0 0, .slice none 0 0, .slice none 0 0] 25)
  have b2 : PBx ((w.alloc (.cells #[a.sL, a.sN, a.sK] 25)).alloc (.cells #[.slice none 0 0, .slice none 0 0, .slice none 0 0] 25)) w.heap.size a := ⟨heap_next (World.alloc_heap_new _ _) _, ha.below hB⟩
  have b4 : ((w.alloc (.cells #[a.sL, a.sN, a.sK] 25)).alloc (.cells #[.slice none 0 0, .slice none 0 0, .slice none 0 0] 25)).heap[w.heap.size + 1]? = some (.cells #[.slice none 0 0, .slice none 0 0, .slice none 0 0] 25 (0, 0)) := by
    have := World.alloc_heap_new (w.alloc (.cells #[a.sL, a.sN, a.sK] 25)) (.cells #[.slice none 0 0, .slice none 0 0, .slice none 0 0] 25)
    rwa [World.size_alloc] at this
  have hsz : ((w.alloc (.cells #[a.sL, a.sN, a.sK] 25)).alloc (.cells #[.slice none 0 0, .slice none 0 0, .slice none 0 0] 25)).heap.size = w.heap.size + 1 + 1 := by simp
  generalize (w.alloc (.cells #[a.sL, a.sN, a.sK] 25)).alloc (.cells #[.slice none 0 0, .slice none 0 0, .slice none 0 0] 25) = X at *
  have hh := b2.heap
  simp only [XP.sL, XP.sN, XP.sK] at hh
  have c0 := cells_get (cs := [_, _, _]) (k := 0) hh rfl
  have c1 := cells_get (cs := [_, _, _]) (k := 1) hh rfl
  have c2 := cells_get (cs := [_, _, _]) (k := 2) hh rfl
  clear hh
  refine exec_seq (exec_region_o fun ds => ?_)
  gi_wp2
  refine eq_mk ((Keep.refl _).alloc _) ?_
  show Exec _ _ (Code.seq _ _) _ (X.alloc (.cells #[a.sL, a.sN, a.sK] 25)) _
  have hal := (Below.refl X.heap.size X).alloc (Nat.le_refl _) (.cells #[a.sL, a.sN, a.sK] 25)
  have b5 : (X.alloc (.cells #[a.sL, a.sN, a.sK] 25)).heap[X.heap.size]? = some (.cells #[a.sL, a.sN, a.sK] 25 (0, 0)) := World.alloc_heap_new _ _
  have hsY : (X.alloc (.cells #[a.sL, a.sN, a.sK] 25)).heap.size = X.heap.size + 1 := by simp
  have d2 := b2.keep hal
  have d4 := (hal.block _ (heap_lt b4)).trans b4
  have hBY := hB.trans (hal.mono hB.size)
  clear c0 c1 c2 b2 b4 hal hB
  generalize X.alloc (.cells #[a.sL, a.sN, a.sK] 25) = Y at *
  rw [hsz] at hsY b5
  clear hsz
  clear X
  have hh := b5
  simp only [XP.sL, XP.sN, XP.sK] at hh
  have c2 := cells_get (cs := [_, _, _]) (k := 2) hh rfl
  have f2 : Y.frozen? ⟨w.heap.size + 1 + 1, 2, none⟩ = false := frozen_cells b5
  refine exec_seq (exec_region_o fun ds => ?_)
  gi_wp2
  refine eq_mk ((Keep.refl _).setCell _ _) ?_
  show Exec _ _ (Code.seq (Code.seq _ _) _) _ _ _
  have e5 : (Y.setCell ⟨w.heap.size + 1 + 1, 2, none⟩ (.slice none 0 0)).heap[w.heap.size + 1 + 1]? = some (.cells #[a.sL, a.sN, .slice none 0 0] 25 (0, 0)) := box_set Y _ 2 [a.sL, a.sN, a.sK] 25 _ b5
  have hBZ : Below w.heap.size w (Y.setCell ⟨w.heap.size + 1 + 1, 2, none⟩ (.slice none 0 0)) := hBY.setCell (by show w.heap.size ≤ w.heap.size + 1 + 1; omega) _
  have hW : W38 w a (.slice none 0 0) [] (Y.setCell ⟨w.heap.size + 1 + 1, 2, none⟩ (.slice none 0 0)) := ⟨⟨box_far _ _ _ _ _ _ d2.heap (by omega), ha.below hBZ⟩, box_far _ _ _ _ _ _ d4 (by omega), e5, World.ownsRow_nil _ _ _ _, hBZ⟩
  clear hh c2 f2 d2 d4 b5 hBY e5 hBZ
  generalize Y.setCell ⟨w.heap.size + 1 + 1, 2, none⟩ (.slice none 0 0) = Z at *
  clear hsY
  clear Y
  have hh := hW.b2.heap
  simp only [XP.sK] at hh
  have c2 := cells_get (cs := [_, _, _]) (k := 2) hh rfl
  clear hh
  refine exec_seq (exec_seq (exec_region_o fun ds => ?_))
  gi_wp2
  refine eq_mk (Keep.refl _) ?_
  show Exec _ _ (Code.block _ _) _ _ _
  refine exec_block ?_
  refine exec_loop (I38 w a s) a.K.length ⟨0, .slice none 0 0, by omega, rfl, hW, by simp [Slots, Fits]⟩ ?_
  clear hW c2
  clear Z
  rintro n t X ⟨k, v, hk, hn, hW, hSl⟩
  have HN := Lib.hid hn
  clear hn
  have hsu := waiveTo_succ s a.s3.2.2 k
  have hMl := waiveTo_len s a.s3.2.2 k
  have hend : k = a.K.length → waiveTo s a.s3.2.2 k = waiveK s a.s3.2.2 := fun e => by unfold waiveK; rw [e, hKl]
  generalize waiveTo s a.s3.2.2 k = M at *
  obtain ⟨x, hx⟩ := Slots.open_ hSl; simp only [fill, Nat.reduceAdd] at hx; subst hx; clear hSl
  show Exec _ _ (Code.seq _ (Code.seq _ _)) _ _ _
  refine exec_seq (exec_region_o fun ds => ?_)
  gi_wp2
  refine eq_mk (Keep.refl _) ?_
  show Exec _ _ (Code.seq (Code.cond _ _ _) _) _ _ _
  refine exec_seq (exec_cond (b := decide (k < a.K.length)) (by first | rfl | (show Value.bool _ = _; congr 1; exact decide_eq_decide.2 (by omega))) (fun hp => exec_skip ?_) (fun hp => exec_exit ?_))
  · have hkl : k < a.K.length := by have := of_decide_eq_true hp; omega
    obtain ⟨y, hy⟩ : ∃ y, a.s3.2.2[k]? = some y := ⟨_, List.getElem?_eq_getElem (by omega)⟩
    obtain ⟨al, hA, hc1, hc2⟩ := (XP.np_at hW.b2.at_ hf).k k y hy
    have hA : a.AK = some al := hA
    have hsu := hsu y hy
    obtain ⟨y1, y2⟩ := y
    simp only at hc1 hc2
    obtain ⟨M2, hM2⟩ : ∃ M2, (if s.testBit k then M else M ++ [(y1, y2)]) = M2 := ⟨_, rfl⟩
    rw [hM2] at hsu
    have HS := Lib.hid hsu
    have HM := Lib.hid hM2
    clear hsu hend hM2 hy
    have hkI : (k : Int) < a.K.length := by omega
    simp only [hA]
    have HA := Lib.hid hA
    clear hA
    refine exec_cut (M38 w a s k M2) (exec_block (exec_seq (exec_region_o fun ds => ?_))) ?_
    · gi_wp2
      refine eq_mk ((Keep.refl _).alloc _) ?_
      show Exec _ _ _ _ _ _
      have p1 : (X.alloc (.cells #[iv y1, iv y2] 50)).heap[X.heap.size]? = some (.cells #[iv y1, iv y2] 50 (0, 0)) := World.alloc_heap_new _ _
      have hWY := hW.keep ((Below.refl X.heap.size X).alloc (Nat.le_refl _) (.cells #[iv y1, iv y2] 50))
      have hlt5 := heap_lt hW.b5
      clear hc1 hc2 hW
      generalize X.alloc (.cells #[iv y1, iv y2] 50) = Y at *
      generalize X.heap.size = b7 at *
      clear X
      have hbit := bit_i s k hs
      refine exec_seq (exec_region_o fun ds => ?_)
      gi_wp2
      refine eq_mk (Keep.refl _) ?_
      show Exec _ _ (Code.cond _ _ _) _ _ _
      clear hbit
      cases hq : s.testBit k with
      | true =>
        have HE : RowKit.Hid (M2 = M) := Lib.hid (by rw [← HM.out, hq]; rfl)
        refine exec_cond (b := false) rfl (fun hp => by cases hp) (fun hp => exec_skip ?_)
        exact ⟨v, by rw [HE.out]; exact hWY, by simp [Slots, Fits, HA.out]⟩
      | false =>
        have HE : RowKit.Hid (M2 = M ++ [(y1, y2)]) := Lib.hid (by rw [← HM.out, hq]; rfl)
        clear hq
        refine exec_cond (b := true) rfl (fun hp => ?_) (fun hp => by cases hp)
        have e1 := cells_get (cs := [_, _]) (k := 0) p1 rfl
        have e2 := cells_get (cs := [_, _]) (k := 1) p1 rfl
        have e3 := cells_get (cs := [_, _, _]) (k := 2) hWY.b5 rfl
        obtain ⟨i0, z, hi0, hz0, hz3, hz1, hz2⟩ := info50
        have hsz := hWY.below.size
        have hfl := flatV_len M
        have o2 := hWY.own
        have hb5 := hWY.b5
        have hl5 := heap_lt hb5
        refine exec_region_o fun ds => ?_
        gi_wp2_with (gi_at_builtin; refine wpListIn_append_own _ rfl _ _ 23 rfl (w.heap.size + 1 + 1 + 1) 50 i0 z 2 16 Try.underlying23 hi0 hz0 hz1 hz2 hz3 (by decide) v M.length (flatV M) rfl (o2.alloc _) ⟨Y.heap.size, 0, none⟩ 1 1 [iv y1, iv y2] rfl rfl (cell_pair _ _ _ _) (by simp [Value.oneCell']) (by unfold maxLen; omega) (by omega) (by simp; omega) ?_; intro v' w' hown2 hgr _; obtain ⟨A1, c1, rfl, hr1, ha1⟩ := row_own_pairs (K := M ++ [(y1, y2)]) (by rw [flatV_app]; exact hown2) (by simp); have hblk : ∀ k o, Y.heap[k]? = some o → k < w.heap.size + 1 + 1 + 1 → w'.heap[k]? = some o := (fun k o hk hlt => (hgr.block k (by rw [World.size_alloc]; have := heap_lt hk; omega) (fun e => by have := (o2.lt k e.symm).1; omega)).trans (heap_next hk _)); have hb4 := hblk _ _ hb5 (by omega); have k2' := cells_get (cs := [_, _, _]) (k := 2) hb4 rfl; have kf := (frozen_cells hb4 : w'.frozen? ⟨w.heap.size + 1 + 1, 2, none⟩ = false))
        have hbk : ∀ j o, v.ownBlock = some j → (Y.alloc (.cells #[iv y1, iv y2] 50)).heap[j]? = some o → book o = false := by
          intro j o hv ho
          rcases (o2.alloc (.cells #[iv y1, iv y2] 50)).2 with ⟨rfl, _⟩ | ⟨g', cap', cur, rfl, _, hg', _⟩
          · simp [Value.ownBlock] at hv
          · simp only [Value.ownBlock, Option.some.injEq] at hv
            subst hv
            rw [hg'] at ho
            cases ho
            rfl
        have hB3 : Below w.heap.size w w' := (hWY.below.alloc hsz (.cells #[iv y1, iv y2] 50)).grown hgr (by simp; omega) (fun q e => by have := (o2.lt q e).1; omega)
        have hB4 : Below w.heap.size w (w'.setCell ⟨w.heap.size + 1 + 1, 2, none⟩ (.slice A1 (M.length + 1) c1)) := hB3.setCell (by show w.heap.size ≤ w.heap.size + 1 + 1; omega) _
        refine eq_mk ((((Keep.refl _).alloc _).grown hgr hbk).setCell _ _) ⟨_, ⟨⟨box_far _ _ _ _ _ _ (hblk _ _ hWY.b2.heap (by omega)) (by omega), ha.below hB4⟩, box_far _ _ _ _ _ _ (hblk _ _ hWY.b4 (by omega)) (by omega), box_set w' _ 2 [a.sL, a.sN, v] 25 _ hb4, ?_, hB4⟩, by simp [Slots, Fits, HA.out]⟩
        rw [HE.out]
        refine own_other ?_ (by omega)
        have hlen : (M ++ [(y1, y2)]).length = M.length + 1 := by simp
        rw [hlen] at hown2 ⊢
        rw [flatV_app]
        exact hown2
    · clear hW hc1 hc2 x
      clear X
      rintro t' Y ⟨v', hW, hSl⟩
      obtain ⟨x, hx⟩ := Slots.open_ hSl; simp only [fill, Nat.reduceAdd] at hx; subst hx; clear hSl
      have hw : IntKind.i64.wrap ((k : Int) + 1) = ((k + 1 : Nat) : Int) := by rw [IntWalk.i64_in _ (by omega)]; norm_cast
      refine exec_region_o fun ds => ?_
      gi_wp2
      exact eq_mk (Keep.refl _) ⟨n - 1, by rw [HN.out]; omega, k + 1, v', by omega, by rw [HN.out]; omega, by rw [HS.out]; exact hW, by simp only [Slots, Fits, and_self]; simp [HA.out]⟩
  · have hkl : k = a.K.length := by have := of_decide_eq_false hp; omega
    have he := hend hkl
    subst he
    clear hsu hend hMl
    obtain ⟨A, c, rfl, hRK, hAl⟩ := row_own_pairs hW.own rfl
    have hb5 := hW.b5
    simp only [XP.sL, XP.sN] at hb5
    have c0 := cells_get (cs := [_, _, _]) (k := 0) hb5 rfl
    have c1 := cells_get (cs := [_, _, _]) (k := 1) hb5 rfl
    have c2 := cells_get (cs := [_, _, _]) (k := 2) hb5 rfl
    have d0 := cells_get (cs := [_, _, _]) (k := 0) hW.b4 rfl
    have d1 := cells_get (cs := [_, _, _]) (k := 1) hW.b4 rfl
    have d2 := cells_get (cs := [_, _, _]) (k := 2) hW.b4 rfl
    have df : ∀ o, X.frozen? ⟨w.heap.size + 1, o, none⟩ = false := fun o => frozen_cells hW.b4
    have e0 := box_set _ (w.heap.size + 1) 0 [.slice none 0 0, .slice none 0 0, .slice none 0 0] 25 (.slice a.AL a.L.length a.cL) hW.b4
    have e1 := box_set _ (w.heap.size + 1) 1 [.slice a.AL a.L.length a.cL, .slice none 0 0, .slice none 0 0] 25 (.slice a.AN a.N.length a.cN) e0
    have e2 := box_set _ (w.heap.size + 1) 2 [.slice a.AL a.L.length a.cL, .slice a.AN a.N.length a.cN, .slice none 0 0] 25 (.slice A (waiveK s a.s3.2.2).length c) e1
    have hB := ((hW.below.setCell (p := ⟨w.heap.size + 1, 0, none⟩) (by show w.heap.size ≤ w.heap.size + 1; omega) (.slice a.AL a.L.length a.cL)).setCell (p := ⟨w.heap.size + 1, 1, none⟩) (by show w.heap.size ≤ w.heap.size + 1; omega) (.slice a.AN a.N.length a.cN)).setCell (p := ⟨w.heap.size + 1, 2, none⟩) (by show w.heap.size ≤ w.heap.size + 1; omega) (.slice A (waiveK s a.s3.2.2).length c)
    have hR2 := ((hRK.far (b := w.heap.size + 1) (o := 0) (fun _ ad e => by have := hAl ad e; omega) (.slice a.AL a.L.length a.cL)).far (b := w.heap.size + 1) (o := 1) (fun _ ad e => by have := hAl ad e; omega) (.slice a.AN a.N.length a.cN)).far (b := w.heap.size + 1) (o := 2) (fun _ ad e => by have := hAl ad e; omega) (.slice A (waiveK s a.s3.2.2).length c)
    show Exec _ _ (Code.seq _ _) _ _ _
    refine exec_seq (exec_region_o fun ds => ?_)
    gi_wp2
    refine eq_mk ((((Keep.refl _).setCell _ _).setCell _ _).setCell _ _) ?_
    show Exec _ _ _ _ _ _
    refine exec_ret ⟨.inr rfl, fun W' hG => ?_⟩
    have g2 := hG.same _ _ e2 (.inr rfl)
    have k0 := cells_get (cs := [_, _, _]) (k := 0) g2 rfl
    have k1 := cells_get (cs := [_, _, _]) (k := 1) g2 rfl
    have k2 := cells_get (cs := [_, _, _]) (k := 2) g2 rfl
    have hBG := hB.trans (hG.below (Nat.le_refl _) hB.size)
    refine ⟨.agg #[.slice a.AL a.L.length a.cL, .slice a.AN a.N.length a.cN, .slice A (waiveK s a.s3.2.2).length c], by simp [results, Try.f38, go_sem, hu25, k0, k1, k2], A, c, ?_, XP.waived_at (ha.below hBG) (hR2.grow hG), hBG⟩
    simp [XP.val, XP.sL, XP.sN, XP.sK, XP.waived]
end Go.Proofs.Ytbdmmikflkpmpaa
end

section
set_option linter.unusedVariables false
set_option linter.unusedSimpArgs false
namespace Go.Proofs.Ytbdmmikflkpmpaa
open Go.RowKit Go.TL Go.Shelf Go.Pn
attribute [local go_sem] Oper.semAt_some
attribute [local go_sem] run_store_func
theorem isP_of_fine {a : XP} (h : a.Fine) : a.isP = true := by
  rw [isP_eq]
  simp only [Bool.and_eq_true, decide_eq_true_eq, List.all_eq_true, Bool.not_eq_true', List.any_eq_false]
  refine ⟨⟨⟨⟨⟨h.j, h.p⟩, h.k⟩, fun y hy => ?_⟩, fun y hy => ?_⟩, fun y hy => ?_⟩
  · have := h.lb y hy
    simp [inB, this]
  · have := h.nb y hy
    simp [inB, this]
  · have := h.kb y hy
    have h1 : inB y.1 0 ((a.L.length : Int) - 1) = true := by
      unfold inB
      rw [Bool.and_eq_true, decide_eq_true_eq, decide_eq_true_eq]
      omega
    have h2 : inB y.2 0 ((a.N.length : Int) - 1) = true := by
      unfold inB
      rw [Bool.and_eq_true, decide_eq_true_eq, decide_eq_true_eq]
      omega
    simp [kinOut, h1, h2]
set_option maxRecDepth 100000 in
set_option maxHeartbeats 1000000 in
theorem can37 (a : XP) (hf : a.Fine) (s : Nat) (hs : s < 2 ^ 62) (b : Nat) (w : World) (hb : PBx w b a) : Calls Try.prog 37 #[iv s, .pointer (some ⟨b, 0, none⟩)] w fun e w' => e = .returned (.bool (canV (toP (a.s3.waive s)))) ∧ Below w.heap.size w w' := by
  have hu25 := Try.underlying25
  obtain ⟨R, hR⟩ : ∃ R, canV (toP (a.s3.waive s)) = R := ⟨_, rfl⟩
  rw [hR]
  have HR := Lib.hid hR
  clear hR
  refine calls_of_exec Try.func37 rfl ?_
  simp only [Try.ntmps37, List.size_toArray, List.length_cons, List.length_nil, Nat.reduceAdd, Nat.reduceSub, Array.replicate_succ, Array.replicate_zero, List.push_toArray, List.append_toArray, List.nil_append, List.cons_append]
  refine exec_seq (exec_region_o fun ds => ?_)
  gi_wp2
  refine eq_mk (Keep.refl w) ?_
  show Exec _ _ (Code.seq _ _) _ _ _
  have c0 := cells_get (cs := [_, _, _]) (k := 0) hb.heap rfl
  have c1 := cells_get (cs := [_, _, _]) (k := 1) hb.heap rfl
  have c2 := cells_get (cs := [_, _, _]) (k := 2) hb.heap rfl
  refine exec_seq (exec_region_o fun ds => ?_)
  gi_wp2_with fail
  refine ⟨trivial, rfl, (callsIn_wide.2 (waived38 a hf s hs w hb.at_)).mono ?_⟩
  rintro e X ⟨A, c, rfl, ha, hx⟩
  have hfy := XP.waived_fine hf A c s
  have hs3 := XP.waived_s3 a A c s
  have hres : (sitA (a.waived A c s)).2 = if R then 0 else 4 := by
    unfold sitA
    rw [isP_of_fine hfy, if_pos rfl, hs3, HR.out]
    cases R <;> rfl
  generalize a.waived A c s = y at *
  gi_wp2_with fail
  refine ⟨trivial, rfl, (callsIn_wide.2 (Sit_any y X ha)).mono ?_⟩
  rintro e Y ⟨A2, c2', rfl, hr, hy⟩
  rw [hres]
  have hxy := hx.trans (hy.mono hx.size)
  clear hr hres
  cases R with
  | true =>
    simp only [if_true]
    gi_wp2
    refine eq_mk (Keep.of_below hxy) ?_
    show Exec _ _ (Code.seq _ _) _ _ _
    refine exec_seq (exec_region_o fun ds => ?_)
    gi_wp2
    refine eq_mk (Keep.refl _) ?_
    exact exec_ret ⟨.inr rfl, fun W' hG => ⟨.bool true, by simp [results, Try.f37, go_sem], rfl, hxy.trans (hG.below (Nat.le_refl _) hxy.size)⟩⟩
  | false =>
    simp only [Bool.false_eq_true, if_false]
    gi_wp2
    refine eq_mk (Keep.of_below hxy) ?_
    show Exec _ _ (Code.seq _ _) _ _ _
    refine exec_seq (exec_region_o fun ds => ?_)
    gi_wp2
    refine eq_mk (Keep.refl _) ?_
    exact exec_ret ⟨.inr rfl, fun W' hG => ⟨.bool false, by simp [results, Try.f37, go_sem], rfl, hxy.trans (hG.below (Nat.le_refl _) hxy.size)⟩⟩
/-! ### The least set, in plain words -/
theorem pop_le {s n : Nat} (hs : s < 2 ^ n) (hn : n ≤ 10) : pop s ≤ n := by
  rw [pop_n hs hn]
  have := sumN_le (f := fun j => b1 (s.testBit j)) (g := fun _ => 1) n (fun i _ => by unfold b1; split <;> omega)
  have h1 : ∀ k, sumN (fun _ => 1) k = k := fun k => by
    induction k with
    | zero => rfl
    | succ k ih => show sumN _ k + 1 = _; rw [ih]
  rw [h1] at this
  exact this
theorem mem_bySize_iff {n s : Nat} (hn : n ≤ 10) : s ∈ bySize n ↔ s < 2 ^ n := by
  refine ⟨mem_bySize, fun h => ?_⟩
  unfold bySize
  rw [List.mem_flatten]
  exact ⟨ofSize n (pop s), List.mem_map.2 ⟨pop s, List.mem_range.2 (by have := pop_le h hn; omega), rfl⟩, List.mem_filter.2 ⟨List.mem_range.2 h, by simp⟩⟩
theorem range_find {q : Nat → Bool} {n s : Nat} (h : (List.range n).find? q = some s) : s < n ∧ q s = true ∧ ∀ t, t < s → q t = false := by
  obtain ⟨h1, as0, bs, h2, h3⟩ := List.find?_eq_some_iff_append.1 h
  have hs := List.mem_range.1 (List.mem_of_find?_eq_some h)
  refine ⟨hs, h1, fun t ht => ?_⟩
  have hl : as0.length = s := by
    have := congrArg (fun l => l[as0.length]?) h2
    try simp only at this
    rw [List.getElem?_append_right (Nat.le_refl _), Nat.sub_self, List.getElem?_cons_zero] at this
    have hlt := (List.getElem?_eq_some_iff.1 this).1
    rw [List.getElem?_range (by simpa using hlt)] at this
    exact Option.some.inj this
  have hm : t ∈ as0 := by
    have := congrArg (fun l => l[t]?) h2
    try simp only at this
    rw [List.getElem?_range (by omega), List.getElem?_append_left (by omega)] at this
    exact List.mem_of_getElem? this.symm
  have := h3 t hm
  simpa using this
/-- The first one by size is the least. -/
theorem bySize_min {n s : Nat} {q : Nat → Bool} (hn : n ≤ 10) (h : (bySize n).find? q = some s) : s < 2 ^ n ∧ q s = true ∧ ∀ t, t < 2 ^ n → q t = true → pop s < pop t ∨ (pop s = pop t ∧ s ≤ t) := by
  have hq := List.find?_some h
  have hm := List.mem_of_find?_eq_some h
  refine ⟨mem_bySize hm, hq, fun t ht hqt => ?_⟩
  have hf : (bySize n).find? q = (List.range (n + 1)).findSome? fun z => (ofSize n z).find? q := by
    unfold bySize
    rw [← List.flatMap_def, List.find?_flatMap]
  rw [hf, List.findSome?_eq_some_iff] at h
  obtain ⟨l1, z, l2, hl, hz, hnone⟩ := h
  have hsz : s ∈ ofSize n z := List.mem_of_find?_eq_some hz
  have hps : pop s = z := by simpa using (List.mem_filter.1 hsz).2
  have hl1 : l1.length = z := by
    have := congrArg (fun l => l[l1.length]?) hl
    try simp only at this
    rw [List.getElem?_append_right (Nat.le_refl _), Nat.sub_self, List.getElem?_cons_zero] at this
    have hlt := (List.getElem?_eq_some_iff.1 this).1
    rw [List.getElem?_range (by simpa using hlt)] at this
    exact Option.some.inj this
  have htm : t ∈ ofSize n (pop t) := List.mem_filter.2 ⟨List.mem_range.2 ht, by simp⟩
  rcases Nat.lt_trichotomy (pop t) z with hlt | heq | hgt
  · have hzl : z < n + 1 := by
      have := congrArg List.length hl
      simp only [List.length_range, List.length_append, List.length_cons] at this
      omega
    have hmem : pop t ∈ l1 := by
      have := congrArg (fun l => l[pop t]?) hl
      try simp only at this
      rw [List.getElem?_range (by omega), List.getElem?_append_left (by omega)] at this
      exact List.mem_of_getElem? this.symm
    have := List.find?_eq_none.1 (hnone (pop t) hmem) t htm
    exact absurd hqt this
  · right
    refine ⟨by omega, ?_⟩
    rw [show ofSize n z = (List.range (2 ^ n)).filter fun s => pop s == z from rfl, List.find?_filter] at hz
    obtain ⟨_, _, h3⟩ := range_find hz
    apply Classical.byContradiction
    intro c
    have := h3 t (by omega)
    simp [hqt, heq] at this
  · left
    omega
/-- With fewer kin there is a seating still. -/
theorem can_fewer {L N : List Nat} {K1 K2 : List (Nat × Nat)} (h1 : S3.Good (L, N, K1)) (h2 : S3.Good (L, N, K2)) (hsub : ∀ k ∈ K2, k ∈ K1) (h : canV (toP (L, N, K1)) = true) : canV (toP (L, N, K2)) = true := by
  have f1 := toP_Fit h1
  have f2 := toP_Fit h2
  obtain ⟨a, ha⟩ := (can_is f1.ok).1 h
  refine (can_is f2.ok).2 ⟨a, ⟨⟨fun p j hp hj hb => ?_, ha.feas.load⟩, ha.eq⟩⟩
  have := ha.feas.fit p j hp hj hb
  have hg1 := h1.k1
  have hg2 := h2.k1
  have hj6 := h1.j
  simp only at hg1 hg2 hj6
  have hlt : ∀ q, (List.replicate N.length (2 ^ L.length - 1)).getD q 0 < 2 ^ 64 := fun q => rep_lt (two_lt hj6) q
  have hpN : p < (List.replicate N.length (2 ^ L.length - 1)).length := by rw [List.length_replicate]; exact hp
  have e1 := kinF_bit K1 (List.replicate N.length (2 ^ L.length - 1)) (fun k hk => by have := hg1 k hk; omega) hlt p j hpN
  have e2 := kinF_bit K2 (List.replicate N.length (2 ^ L.length - 1)) (fun k hk => by have := hg2 k hk; omega) hlt p j hpN
  have this' : ((kinF (List.replicate N.length (2 ^ L.length - 1)) K1).getD p 0).testBit j = true := this
  show ((kinF (List.replicate N.length (2 ^ L.length - 1)) K2).getD p 0).testBit j = true
  rw [e1, Bool.and_eq_true] at this'
  rw [e2, this'.1, Bool.true_and]
  cases hd : decide ((j, p) ∈ K2) with
  | false => rfl
  | true =>
    have := hsub _ (of_decide_eq_true hd)
    rw [decide_eq_true this] at this'
    exact this'.2
end Go.Proofs.Ytbdmmikflkpmpaa
end

section
set_option linter.unusedVariables false
set_option linter.unusedSimpArgs false
namespace Go.Proofs.Ytbdmmikflkpmpaa
open Go.RowKit Go.TL Go.Shelf Go.Pn
attribute [local go_sem] Oper.semAt_some
attribute [local go_sem] run_store_func
theorem andNot_i (a b : Nat) (ha : a < 2 ^ 63) (hb : b < 2 ^ 64) : bits .andNot .i64 (a : Int) (b : Int) = ((a &&& (2 ^ 64 - 1 - b) : Nat) : Int) := by
  have hb' : b % 2 ^ IntKind.i64.bits = b := Nat.mod_eq_of_lt hb
  have ha' : a % 2 ^ IntKind.i64.bits = a := Nat.mod_eq_of_lt (Nat.lt_of_lt_of_le ha (by decide))
  simp only [bits, BitVec.ofInt_natCast, BitVec.toNat_and, BitVec.toNat_not, BitVec.toNat_ofNat, ha', hb']
  refine wrapi _ (Int.natCast_nonneg _) ?_
  have : a &&& (2 ^ IntKind.i64.bits - 1 - b) ≤ a := Nat.and_le_left
  exact_mod_cast Nat.lt_of_le_of_lt this ha
theorem pop_clr {s i : Nat} (hs : s < 2 ^ 64) (hi : i < 10) (hb : s.testBit i = true) : pop s = pop (clrB s i) + 1 := by
  unfold pop
  rw [sumN_upd (fun j => b1 ((clrB s i).testBit j)) (fun j => b1 (s.testBit j)) i 1 10 (fun j _ hne => ?_) (fun _ => ?_), if_pos hi]
  · rw [clrB_bit s i j hs (by omega), decide_eq_false (fun c => hne c.symm)]
    simp
  · rw [clrB_bit s i i hs (by omega), hb]
    simp [b1]
theorem waive_zero (x : S3) : x.waive 0 = x := by
  have : waiveK 0 x.2.2 = x.2.2 := by
    have h : ∀ k, k ≤ x.2.2.length → waiveTo 0 x.2.2 k = x.2.2.take k := fun k => by
      induction k with
      | zero => intro _; rfl
      | succ k ih =>
        intro hk
        rw [waiveTo_succ 0 x.2.2 k _ (List.getElem?_eq_getElem (by omega)), Nat.zero_testBit, if_neg (by simp), ih (by omega), List.take_succ_eq_append_getElem (by omega)]
    unfold waiveK
    rw [h _ (Nat.le_refl _), List.take_length]
  unfold S3.waive
  rw [this]
/-- What is told of the pairs that must be waived. -/
structure WvFacts (a : XP) (wf : Nat) : Prop where
  lt : wf < 2 ^ a.K.length
  can : canV (toP (a.s3.waive wf)) = true
  min : ∀ t, t < 2 ^ a.K.length → canV (toP (a.s3.waive t)) = true → pop wf < pop t ∨ (pop wf = pop t ∧ wf ≤ t)
  zero : decide (wf = 0) = canV (toP a.s3)
theorem waive_facts {a : XP} (hf : a.Fine) (h : canV (toP (a.s3.waive (every a.K.length))) = true) : WvFacts a (waiveF a.s3) := by
  have hk := hf.k
  have hl : a.s3.2.2.length = a.K.length := by simp [XP.s3]
  have hev : every a.K.length < 2 ^ a.K.length := by
    unfold every
    have := Nat.one_le_two_pow (n := a.K.length)
    omega
  unfold waiveF
  rw [hl]
  cases hfd : (bySize a.K.length).find? (fun s => canV (toP (a.s3.waive s))) with
  | none =>
    have := List.find?_eq_none.1 hfd _ ((mem_bySize_iff hk).2 hev)
    exact absurd h (by simpa using this)
  | some s =>
    obtain ⟨h1, h2, h3⟩ := bySize_min hk hfd
    refine ⟨h1, h2, h3, ?_⟩
    simp only [Option.getD_some]
    cases hc : canV (toP a.s3) with
    | true =>
      rcases h3 0 (Nat.pow_pos (by omega)) (by rw [waive_zero]; exact hc) with h | h
      · have h0 : pop 0 = 0 := by decide
        omega
      · exact decide_eq_true (by omega)
    | false =>
      refine decide_eq_false fun c => ?_
      rw [c, waive_zero, hc] at h2
      cases h2
theorem waive_fewer {a : XP} (hf : a.Fine) (s : Nat) (h : canV (toP (a.s3.waive s)) = true) : canV (toP (a.s3.waive (every a.K.length))) = true := by
  refine can_fewer (K1 := waiveK s a.s3.2.2) (s3_waive (XP.good hf) s) (s3_waive (XP.good hf) _) (fun k hk => ?_) h
  obtain ⟨i, hi, hki⟩ := waiveK_mem.1 hk
  have hil := (List.getElem?_eq_some_iff.1 hki).1
  have hl : a.s3.2.2.length = a.K.length := by simp [XP.s3]
  unfold every at hi
  rw [Nat.testBit_two_pow_sub_one, decide_eq_true (by omega)] at hi
  cases hi
def WlI (w : World) (a : XP) (wf own : Nat) (n : Nat) (t : Array Value) (W : World) : Prop :=
  ∃ k : Nat, k ≤ a.K.length ∧ n = a.K.length - k ∧ PBx W w.heap.size a ∧ Below w.heap.size w W ∧ Slots (none :: none :: some (.pointer (some ⟨w.heap.size, 0, none⟩)) :: none :: some (.bool false) :: some (iv wf) :: none :: none :: none :: some (.func (.func 37) #[] #[.pointer (some ⟨w.heap.size, 0, none⟩)]) :: none :: some (iv own) :: o4 (o4 (o16 (o64 (some (iv a.K.length) :: some (iv k) :: none :: none :: o4 (o4 (o16 (o16 [])))))))) t
def WlE (w : World) (a : XP) (wf own : Nat) (t : Array Value) (W : World) : Prop :=
  PBx W w.heap.size a ∧ Below w.heap.size w W ∧ Slots (none :: none :: some (.pointer (some ⟨w.heap.size, 0, none⟩)) :: none :: some (.bool false) :: some (iv wf) :: none :: none :: none :: some (.func (.func 37) #[] #[.pointer (some ⟨w.heap.size, 0, none⟩)]) :: none :: some (iv own) :: o4 (o64 (o64 []))) t
noncomputable abbrev wcode : Code := Try.f7.body.getD .skip
set_option maxRecDepth 100000 in
set_option maxHeartbeats 2000000 in
theorem wv_loop {w : World} {a : XP} {wf own : Nat} (hf : a.Fine) (hF : WvFacts a wf) {W : World} (hX : PBx W w.heap.size a) (hB : Below w.heap.size w W) {t : Array Value} (hSl : Slots (none :: none :: some (.pointer (some ⟨w.heap.size, 0, none⟩)) :: none :: some (.bool false) :: some (iv wf) :: none :: none :: none :: some (.func (.func 37) #[] #[.pointer (some ⟨w.heap.size, 0, none⟩)]) :: none :: some (iv own) :: o4 (o64 (o64 []))) t) {Q : Exit → Array Value → World → Prop} :
    Exec Try.prog none (sub wcode [1, 1, 1, 1, 1, 1, 1, 1, 1, 1, 0]) t W (andThen (WlE w a wf own) fun _ _ _ => False) := by
  have hu25 := Try.underlying25
  have hk10 := hf.k
  obtain ⟨x, hx⟩ := Slots.open_ hSl; simp only [fill, Nat.reduceAdd] at hx; subst hx; clear hSl
  have hh := hX.heap
  simp only [XP.sK] at hh
  have c2 := cells_get (cs := [_, _, _]) (k := 2) hh rfl
  clear hh
  show Exec _ _ (Code.seq _ (Code.block _ _)) _ _ _
  refine exec_seq (exec_region_o fun ds => ?_)
  gi_wp2
  refine eq_mk (Keep.refl _) ?_
  show Exec _ _ (Code.block _ _) _ _ _
  refine exec_block ?_
  refine exec_loop (WlI w a wf own) a.K.length ⟨0, by omega, rfl, hX, hB, by simp [Slots, Fits]⟩ ?_
  clear hX hB c2 x
  clear W
  rintro n t W ⟨k, hk, hn, hX, hV, hSl⟩
  have HN := Lib.hid hn
  clear hn
  have hwlt : wf < 2 ^ 10 := Nat.lt_of_lt_of_le hF.lt (Nat.pow_le_pow_right (by omega) hk10)
  obtain ⟨x, hx⟩ := Slots.open_ hSl; simp only [fill, Nat.reduceAdd] at hx; subst hx; clear hSl
  show Exec _ _ (Code.seq _ (Code.seq _ _)) _ _ _
  refine exec_seq (exec_region_o fun ds => ?_)
  gi_wp2
  refine eq_mk (Keep.refl _) ?_
  show Exec _ _ (Code.seq (Code.cond _ _ _) _) _ _ _
  refine exec_seq (exec_cond (b := decide (k < a.K.length)) (by first | rfl | (show Value.bool _ = _; congr 1; exact decide_eq_decide.2 (by omega))) (fun hp => exec_skip ?_) (fun hp => exec_exit ?_))
  · have hkl : k < a.K.length := by have := of_decide_eq_true hp; omega
    show Exec _ _ (Code.seq (Code.block _ _) _) _ _ _
    refine exec_cut (fun t' Y => PBx Y w.heap.size a ∧ Below w.heap.size w Y ∧ Slots (none :: none :: some (.pointer (some ⟨w.heap.size, 0, none⟩)) :: none :: some (.bool false) :: some (iv wf) :: none :: none :: none :: some (.func (.func 37) #[] #[.pointer (some ⟨w.heap.size, 0, none⟩)]) :: none :: some (iv own) :: o4 (o4 (o16 (o64 (some (iv a.K.length) :: some (iv k) :: none :: none :: o4 (o4 (o16 (o16 [])))))))) t') (exec_block ?_) ?_
    · show Exec _ _ (Code.seq _ (Code.seq _ _)) _ _ _
      refine exec_seq (exec_region_o fun ds => ?_)
      gi_wp2
      refine eq_mk (Keep.refl _) ?_
      show Exec _ _ (Code.seq _ _) _ _ _
      have hbit := bit_i wf k (by omega)
      refine exec_seq (exec_region_o fun ds => ?_)
      cases hq : wf.testBit k with
      | false =>
        rw [hq] at hbit
        clear hq
        simp only [b1, Bool.false_eq_true, if_false] at hbit
        gi_wp2
        refine ⟨fun f h => (by cases h), ?_⟩
        rename_i hK _ _ _ _
        refine hK _ _ ?_
        gi_wp2
        refine eq_mk (Keep.refl _) ?_
        show Exec _ _ (Code.cond _ _ _) _ _ _
        refine exec_cond (b := false) rfl (fun h => by cases h) (fun _ => exec_skip ?_)
        exact ⟨hX, hV, by simp [Slots, Fits]⟩
      | true =>
        have hcl := pop_clr (s := wf) (i := k) (by omega) (by omega) hq
        have hclt : clrB wf k < 2 ^ a.K.length := Nat.lt_of_le_of_lt (by unfold clrB; exact Nat.and_le_left) hF.lt
        have hno : canV (toP (a.s3.waive (clrB wf k))) = false := by
          cases hc : canV (toP (a.s3.waive (clrB wf k))) with
          | false => rfl
          | true =>
            rcases hF.min _ hclt hc with h | h <;> omega
        have hcall := can37 a hf (clrB wf k) (by have : clrB wf k ≤ wf := (by unfold clrB; exact Nat.and_le_left); omega) w.heap.size W hX
        rw [hno] at hcall
        have hsh := shl_i k (by omega)
        have han : bits .andNot .i64 (wf : Int) ((2 : Int) ^ k) = ((clrB wf k : Nat) : Int) := by
          rw [pow_cast]
          exact andNot_i wf (2 ^ k) (by omega) (Nat.pow_lt_pow_right (by omega) (by omega))
        rw [← pow_cast] at hsh
        rw [hq] at hbit
        clear hq hno hcl hclt
        simp only [b1, if_true] at hbit
        gi_wp2_with fail
        refine ⟨trivial, rfl, (callsIn_wide.2 hcall).mono ?_⟩
        rintro e Y ⟨rfl, hy⟩
        gi_wp2
        refine eq_mk (Keep.of_below hy) ?_
        show Exec _ _ (Code.cond _ _ _) _ _ _
        refine exec_cond (b := false) rfl (fun h => by cases h) (fun _ => exec_skip ?_)
        exact ⟨hX.keep hy, hV.trans (hy.mono hV.size), by simp [Slots, Fits]⟩
    · clear hX hV x
      clear W
      rintro t' Y ⟨hX, hV, hSl⟩
      obtain ⟨x, hx⟩ := Slots.open_ hSl; simp only [fill, Nat.reduceAdd] at hx; subst hx; clear hSl
      have hw : IntKind.i64.wrap ((k : Int) + 1) = ((k + 1 : Nat) : Int) := by rw [IntWalk.i64_in _ (by omega)]; norm_cast
      refine exec_region_o fun ds => ?_
      gi_wp2
      exact eq_mk (Keep.refl _) ⟨n - 1, by rw [HN.out]; omega, k + 1, by omega, by rw [HN.out]; omega, hX, hV, by simp only [Slots, Fits, and_self]; simp⟩
  · exact ⟨hX, hV, by simp [Slots, Fits]⟩
end Go.Proofs.Ytbdmmikflkpmpaa
end

section
set_option linter.unusedVariables false
set_option linter.unusedSimpArgs false
namespace Go.Proofs.Ytbdmmikflkpmpaa
open Go.RowKit Go.TL Go.Shelf Go.Pn
attribute [local go_sem] Oper.semAt_some
attribute [local go_sem] run_store_func
set_option maxRecDepth 100000 in
set_option maxHeartbeats 2000000 in
theorem wv_end {w : World} {a : XP} {wf own : Nat} {cO : Bool} (hF : WvFacts a wf) (h1 : own < 1024) (h2 : wf < 1024) (callO : ∀ (W : World), PBx W w.heap.size a → Calls Try.prog 37 #[iv own, .pointer (some ⟨w.heap.size, 0, none⟩)] W fun e w' => e = .returned (.bool cO) ∧ Below W.heap.size W w')
    (HMIN : RowKit.Hid (cO = true → pop wf < pop own ∨ (pop wf = pop own ∧ wf ≤ own))) {t : Array Value} {W : World} (hE : WlE w a wf own t W) :
    Exec Try.prog none (sub wcode [1, 1, 1, 1, 1, 1, 1, 1, 1, 1, 1]) t W fun e t W => (e = .normal ∨ e = .ret) ∧ ∀ W', Grow w.heap.size W W' → ∃ v, (results Try.f7 t).run Try.prog W' = .ok v W' ∧ v = .bool true ∧ Below w.heap.size w W' := by
  obtain ⟨hX, hB, hSl⟩ := hE
  obtain ⟨x, hx⟩ := Slots.open_ hSl; simp only [fill, Nat.reduceAdd] at hx; subst hx; clear hSl
  obtain ⟨x1, hx1⟩ : ∃ x, pop own = x := ⟨_, rfl⟩
  obtain ⟨x2, hx2⟩ : ∃ x, pop wf = x := ⟨_, rfl⟩
  have s1 := size30 own h1 W
  rw [hx1] at s1
  show Exec _ _ (Code.seq _ (Code.seq _ _)) _ _ _
  refine exec_seq (exec_region_o fun ds => ?_)
  gi_wp2_with fail
  refine ⟨trivial, rfl, (callsIn_wide.2 s1).mono ?_⟩
  rintro e Y ⟨rfl, hy⟩
  have s2 := size30 wf h2 Y
  rw [hx2] at s2
  gi_wp2_with fail
  refine ⟨trivial, rfl, (callsIn_wide.2 s2).mono ?_⟩
  rintro e Z ⟨rfl, hz⟩
  have hyz := hy.trans (hz.mono hy.size)
  have hXZ := hX.keep hyz
  have hBZ := hB.trans (hyz.mono hB.size)
  have hm := HMIN.out
  rw [hx1, hx2] at hm
  have HM := Lib.hid hm
  clear hm s1 s2 hx1 hx2 HMIN hX hB hy hz
  gi_wp2
  refine eq_mk (Keep.of_below hyz) ?_
  show Exec _ _ (Code.seq _ _) _ _ _
  clear hyz
  refine exec_seq (exec_region_o fun ds => ?_)
  gi_wp2_with fail
  refine ⟨trivial, rfl, (callsIn_wide.2 (callO Z hXZ)).mono ?_⟩
  rintro e Q1 ⟨rfl, hq⟩
  have hBQ := hBZ.trans (hq.mono hBZ.size)
  have hKQ := Keep.of_below hq
  clear hq hBZ callO
  cases cO with
  | false =>
    gi_wp2_with fail
    refine ⟨trivial, rfl, (callsIn_wide.2 (alive14 Q1)).mono ?_⟩
    rintro e Q2 ⟨rfl, hq2⟩
    have hBY := hBQ.trans (hq2.mono hBQ.size)
    gi_wp2
    refine eq_mk (hKQ.trans (Keep.of_below hq2)) ?_
    show Exec _ _ _ _ _ _
    exact exec_ret ⟨.inr rfl, fun W' hG => ⟨.bool true, by simp [results, Try.f7, go_sem], rfl, hBY.trans (hG.below (Nat.le_refl _) hBY.size)⟩⟩
  | true =>
    rcases HM.out rfl with hlt | ⟨heq, hle⟩
    · have hltI : ((x2 : Int) < (x1 : Int)) := by omega
      gi_wp2_with fail
      refine ⟨trivial, rfl, (callsIn_wide.2 (alive14 Q1)).mono ?_⟩
      rintro e Q2 ⟨rfl, hq2⟩
      have hBY := hBQ.trans (hq2.mono hBQ.size)
      gi_wp2
      refine eq_mk (hKQ.trans (Keep.of_below hq2)) ?_
      show Exec _ _ _ _ _ _
      exact exec_ret ⟨.inr rfl, fun W' hG => ⟨.bool true, by simp [results, Try.f7, go_sem], rfl, hBY.trans (hG.below (Nat.le_refl _) hBY.size)⟩⟩
    · subst heq
      have hleI : ((wf : Int) ≤ (own : Int)) := by omega
      gi_wp2_with fail
      refine ⟨trivial, rfl, (callsIn_wide.2 (alive14 Q1)).mono ?_⟩
      rintro e Q2 ⟨rfl, hq2⟩
      have hBY := hBQ.trans (hq2.mono hBQ.size)
      gi_wp2
      refine eq_mk (hKQ.trans (Keep.of_below hq2)) ?_
      show Exec _ _ _ _ _ _
      exact exec_ret ⟨.inr rfl, fun W' hG => ⟨.bool true, by simp [results, Try.f7, go_sem], rfl, hBY.trans (hG.below (Nat.le_refl _) hBY.size)⟩⟩
set_option maxRecDepth 100000 in
set_option maxHeartbeats 4000000 in
theorem waive_law (a : XP) (n : Nat) (w : World) (h : a.Row w) (hn : n < 65536) : Calls Try.prog 7 #[a.val, .int .u16 n] w fun e w' => e = .returned (.bool true) ∧ Below w.heap.size w w' := by
  have hu25 := Try.underlying25
  have hu22 := Try.underlying22
  have hu23 := Try.underlying23
  have hmf : ∀ fn first cap w, (Instr.makeFunc fn first cap).run Try.prog w = .ok (.func fn first cap) w := fun _ _ _ _ => rfl
  refine calls_of_exec Try.func7 rfl ?_
  simp only [Try.ntmps7, List.size_toArray, List.length_cons, List.length_nil, Nat.reduceAdd, Nat.reduceSub, Array.replicate_succ, Array.replicate_zero, List.push_toArray, List.append_toArray, List.nil_append, List.cons_append]
  simp only [XP.val]
  refine exec_seq (exec_region_o fun ds => ?_)
  gi_wp2
  refine eq_mk ((Keep.refl w).alloc _) ?_
  show Exec _ _ (Code.seq _ _) _ (w.alloc (.cells #[a.sL, a.sN, a.sK] 25)) _
  have hB := (Below.refl w.heap.size w).alloc (Nat.le_refl _) (.cells #[a.sL, a.sN, a.sK] 25)
  have hh : (w.alloc (.cells #[a.sL, a.sN, a.sK] 25)).heap[w.heap.size]? = some (.cells #[a.sL, a.sN, a.sK] 25 (0, 0)) := World.alloc_heap_new _ _
  have hR := h.below hB
  generalize w.alloc (.cells #[a.sL, a.sN, a.sK] 25) = W0 at *
  have c0 := cells_get (cs := [_, _, _]) (k := 0) hh rfl
  have c1 := cells_get (cs := [_, _, _]) (k := 1) hh rfl
  have c2 := cells_get (cs := [_, _, _]) (k := 2) hh rfl
  obtain ⟨hv, hhv⟩ : ∃ b, heavyB a 6 6 10 = b := ⟨_, rfl⟩
  have hvy : Calls Try.prog 13 #[.agg #[a.sL, a.sN, a.sK], .int .i64 6, .int .i64 6, .int .i64 10] W0 fun e w' => e = .returned (.bool (heavyB a 6 6 10)) ∧ Below W0.heap.size W0 w' := heavy13 a 6 6 10 W0 hR
  rw [hhv] at hvy
  refine exec_seq (exec_seq (exec_region_o fun ds => ?_))
  gi_wp2_with fail
  refine ⟨trivial, rfl, (callsIn_wide.2 hvy).mono ?_⟩
  rintro e X0 ⟨rfl, hx⟩
  have hhX := (hx.block _ (heap_lt hh)).trans hh
  have hRX := hR.below hx
  have hBX := hB.trans (hx.mono hB.size)
  have hK := Keep.of_below hx
  clear hx hvy c0 c1 c2 hh hR hB h
  gi_wp2
  refine eq_mk hK ?_
  show Exec _ _ (Code.cond _ _ _) _ _ _
  clear hK
  clear W0
  cases hv with
  | true =>
    refine exec_cond (b := true) rfl (fun _ => ?_) (fun h => by cases h)
    refine exec_seq (exec_region_o fun ds => ?_)
    gi_wp2_with fail
    refine ⟨trivial, rfl, (callsIn_wide.2 (alive14 X0)).mono ?_⟩
    rintro e Y ⟨rfl, hy⟩
    have hBY := hBX.trans (hy.mono hBX.size)
    gi_wp2
    refine eq_mk (Keep.of_below hy) ?_
    show Exec _ _ _ _ _ _
    exact exec_ret ⟨.inr rfl, fun W' hG => ⟨.bool true, by simp [results, Try.f7, go_sem], rfl, hBY.trans (hG.below (Nat.le_refl _) hBY.size)⟩⟩
  | false =>
  refine exec_cond (b := false) rfl (fun h => by cases h) (fun _ => exec_skip ?_)
  have hsm : a.small = true := by
    cases hs : a.small with
    | true => rfl
    | false => rw [heavyB, hs] at hhv; cases hhv
  have h3 : (a.L.length ≤ 40 ∧ a.N.length ≤ 40) ∧ a.K.length ≤ 40 := by simpa [XP.small] using hsm
  have hX0 : PBx X0 w.heap.size a := ⟨hhX, hRX.at_ h3.1.1 h3.1.2 h3.2⟩
  have HVY := Lib.hid hhv
  clear hhv hsm h3 hhX hRX
  show Exec _ _ (Code.seq _ _) _ _ _
  obtain ⟨wa, hwa⟩ : ∃ x, waiveA a = x := ⟨_, rfl⟩
  have hc3 := Waive_any a X0 hX0.at_
  rw [hwa] at hc3
  obtain ⟨w1, w2⟩ := wa
  have HWA := Lib.hid hwa
  clear hwa
  have c0 := cells_get (cs := [_, _, _]) (k := 0) hX0.heap rfl
  have c1 := cells_get (cs := [_, _, _]) (k := 1) hX0.heap rfl
  have c2 := cells_get (cs := [_, _, _]) (k := 2) hX0.heap rfl
  refine exec_seq (exec_region_o fun ds => ?_)
  gi_wp2_with fail
  refine ⟨trivial, rfl, (callsIn_wide.2 hc3).mono ?_⟩
  rintro e X1 ⟨rfl, hy⟩
  have hX1 := hX0.keep hy
  replace hBX := hBX.trans (hy.mono hBX.size)
  have hK := Keep.of_below hy
  clear hy c0 c1 c2 hX0 hc3
  gi_wp2
  refine eq_mk hK ?_
  show Exec _ _ (Code.seq _ _) _ _ _
  clear hK
  clear X0
  obtain ⟨sa, hsa⟩ : ∃ x, sitA a = x := ⟨_, rfl⟩
  have hc3 := Sit_any a X1 hX1.at_
  rw [hsa] at hc3
  obtain ⟨s1, s2⟩ := sa
  have HSA := Lib.hid hsa
  clear hsa
  have c0 := cells_get (cs := [_, _, _]) (k := 0) hX1.heap rfl
  have c1 := cells_get (cs := [_, _, _]) (k := 1) hX1.heap rfl
  have c2 := cells_get (cs := [_, _, _]) (k := 2) hX1.heap rfl
  refine exec_seq (exec_region_o fun ds => ?_)
  gi_wp2_with fail
  refine ⟨trivial, rfl, (callsIn_wide.2 hc3).mono ?_⟩
  rintro e X2 ⟨A, c, rfl, hr, hy⟩
  have hX2 := hX1.keep hy
  replace hBX := hBX.trans (hy.mono hBX.size)
  have hK := Keep.of_below hy
  clear hy c0 c1 c2 hX1 hc3 hr
  gi_wp2
  refine eq_mk hK ?_
  show Exec _ _ (Code.seq (Code.seq _ _) _) _ _ _
  clear hK
  clear X1
  have hc3 := panels22 a X2 hX2.at_
  have c0 := cells_get (cs := [_, _, _]) (k := 0) hX2.heap rfl
  have c1 := cells_get (cs := [_, _, _]) (k := 1) hX2.heap rfl
  have c2 := cells_get (cs := [_, _, _]) (k := 2) hX2.heap rfl
  refine exec_seq (exec_seq (exec_region_o fun ds => ?_))
  gi_wp2_with fail
  refine ⟨trivial, rfl, (callsIn_wide.2 hc3).mono ?_⟩
  rintro e X3 ⟨rfl, hy⟩
  have hX3 := hX2.keep hy
  replace hBX := hBX.trans (hy.mono hBX.size)
  have hK := Keep.of_below hy
  clear hy c0 c1 c2 hX2 hc3
  obtain ⟨q, hq⟩ : ∃ q, a.isP = q := ⟨_, rfl⟩
  rw [hq]
  have HQ := Lib.hid hq
  clear hq
  gi_wp2
  refine eq_mk hK ?_
  show Exec _ _ (Code.cond _ _ _) _ _ _
  clear hK
  clear X2
  cases q with
  | false =>
    have e1 : ((w1, w2) : Int × Int) = (0, 1) := by rw [← HWA.out]; simp [waiveA, HQ.out]
    have e2 : ((s1, s2) : List Nat × Int) = ([], 1) := by rw [← HSA.out]; simp [sitA, HQ.out]
    simp only [Prod.mk.injEq] at e1 e2
    obtain ⟨rfl, rfl⟩ := e1
    obtain ⟨rfl, rfl⟩ := e2
    clear HWA HSA
    refine exec_cond (b := true) rfl (fun _ => ?_) (fun h => by cases h)
    refine exec_seq (exec_region_o fun ds => ?_)
    gi_wp2_with fail
    refine ⟨trivial, rfl, (callsIn_wide.2 (alive14 X3)).mono ?_⟩
    rintro e Y ⟨rfl, hy⟩
    have hBY := hBX.trans (hy.mono hBX.size)
    gi_wp2
    refine eq_mk (Keep.of_below hy) ?_
    show Exec _ _ _ _ _ _
    exact exec_ret ⟨.inr rfl, fun W' hG => ⟨.bool true, by simp [results, Try.f7, go_sem], rfl, hBY.trans (hG.below (Nat.le_refl _) hBY.size)⟩⟩
  | true =>
  refine exec_cond (b := false) rfl (fun h => by cases h) (fun _ => exec_skip ?_)
  have hf := a.fine HQ.out
  have hk10 := hf.k
  have hwa : ((w1, w2) : Int × Int) = if canV (toP (a.s3.waive (every a.K.length))) then (((waiveF a.s3 : Nat) : Int), 0) else (0, 4) := by rw [← HWA.out]; simp [waiveA, HQ.out]
  have hsa : s2 = if canV (toP a.s3) then 0 else 4 := by
    have := congrArg Prod.snd HSA.out
    simp only at this
    rw [← this]
    simp only [sitA, HQ.out, if_true]
    split <;> rfl
  have HW2 := Lib.hid hwa
  have HS2 := Lib.hid hsa
  clear HWA HSA hwa hsa
  show Exec _ _ (Code.seq _ _) _ _ _
  refine exec_seq (exec_region_o fun ds => ?_)
  gi_wp2
  refine eq_mk (Keep.refl _) ?_
  show Exec _ _ (Code.seq _ _) _ _ _
  have hhX := hX3.heap
  simp only [XP.sK] at hhX
  have c2 := cells_get (cs := [_, _, _]) (k := 2) hhX rfl
  have hev : every a.K.length < 1024 := by
    unfold every
    have : 2 ^ a.K.length ≤ 2 ^ 10 := Nat.pow_le_pow_right (by omega) hk10
    omega
  have hsh := shl_i a.K.length (by omega)
  have hsb : IntKind.i64.wrap ((2 : Int) ^ a.K.length - 1) = ((every a.K.length : Nat) : Int) := by
    have h1 : 1 ≤ 2 ^ a.K.length := Nat.one_le_two_pow
    unfold every at hev ⊢
    rw [pow_cast, wrapi _ (by omega) (by omega)]
    omega
  refine exec_seq (exec_region_o fun ds => ?_)
  gi_wp2
  refine eq_mk (Keep.refl _) ?_
  show Exec _ _ (Code.seq _ _) _ _ _
  clear hsh hsb c2 hhX
  have hconv : IntKind.i64.wrap (n : Int) = (n : Int) := IntWalk.i64_in _ (by omega)
  have hand := and_i n (every a.K.length) (by omega) (by omega)
  have hown : (n &&& every a.K.length) < 2 ^ a.K.length := by
    refine Nat.lt_of_le_of_lt Nat.and_le_right ?_
    unfold every
    have := Nat.one_le_two_pow (n := a.K.length)
    omega
  obtain ⟨E, hE⟩ : ∃ E, every a.K.length = E := ⟨_, rfl⟩
  rw [hE] at hand hown hev HW2
  simp only [hE]
  obtain ⟨own, hown2⟩ : ∃ o, n &&& E = o := ⟨_, rfl⟩
  rw [hown2] at hand hown
  clear hown2
  have HE := Lib.hid hE
  clear hE
  refine exec_seq (exec_region_o fun ds => ?_)
  gi_wp2
  refine eq_mk (Keep.refl _) ?_
  show Exec _ _ (Code.seq (Code.seq _ _) _) _ _ _
  clear hconv hand
  have hown10 : own < 1024 := Nat.lt_of_lt_of_le hown (Nat.pow_le_pow_right (n := 2) (by omega) hk10)
  obtain ⟨cE, hcE⟩ : ∃ b, canV (toP (a.s3.waive E)) = b := ⟨_, rfl⟩
  obtain ⟨cO, hcO⟩ : ∃ b, canV (toP (a.s3.waive own)) = b := ⟨_, rfl⟩
  have callE := fun W h => can37 a hf E (by omega) w.heap.size W h
  have callO := fun W h => can37 a hf own (by omega) w.heap.size W h
  rw [hcE] at HW2
  simp only [hcE] at callE
  simp only [hcO] at callO
  cases cE with
  | false =>
    have hcO' : cO = false := by
      cases cO with
      | false => rfl
      | true =>
        have := waive_fewer hf own hcO
        rw [HE.out, hcE] at this
        cases this
    subst hcO'
    have e1 := HW2.out
    simp only [Bool.false_eq_true, if_false, Prod.mk.injEq] at e1
    obtain ⟨rfl, rfl⟩ := e1
    clear hcE hcO HW2 HS2 HE
    refine exec_seq (exec_seq (exec_region_o fun ds => ?_))
    gi_wp2
    refine eq_mk (Keep.refl _) ?_
    show Exec _ _ (Code.cond _ _ _) _ _ _
    refine exec_cond (b := true) rfl (fun _ => ?_) (fun h => by cases h)
    refine exec_seq (exec_region_o fun ds => ?_)
    gi_wp2_with fail
    refine ⟨trivial, rfl, (callsIn_wide.2 (callE X3 hX3)).mono ?_⟩
    rintro e X4 ⟨rfl, hy4⟩
    have hX4 := hX3.keep hy4
    gi_wp2_with fail
    refine ⟨trivial, rfl, (callsIn_wide.2 (callO X4 hX4)).mono ?_⟩
    rintro e X5 ⟨rfl, hy5⟩
    gi_wp2_with fail
    refine ⟨trivial, rfl, (callsIn_wide.2 (alive14 X5)).mono ?_⟩
    rintro e X6 ⟨rfl, hy6⟩
    have hy := (hy4.trans (hy5.mono hy4.size)).trans (hy6.mono (Nat.le_trans hy4.size hy5.size))
    have hBY := hBX.trans (hy.mono hBX.size)
    gi_wp2
    refine eq_mk (Keep.of_below hy) ?_
    show Exec _ _ _ _ _ _
    exact exec_ret ⟨.inr rfl, fun W' hG => ⟨.bool true, by simp [results, Try.f7, go_sem], rfl, hBY.trans (hG.below (Nat.le_refl _) hBY.size)⟩⟩
  | true =>
    have hF : WvFacts a (waiveF a.s3) := waive_facts hf (by rw [HE.out]; exact hcE)
    have e1 := HW2.out
    simp only [if_true, Prod.mk.injEq] at e1
    obtain ⟨rfl, rfl⟩ := e1
    generalize waiveF a.s3 = wf at *
    clear hcE HW2 callE
    have hwf10 : wf < 1024 := Nat.lt_of_lt_of_le hF.lt (Nat.pow_le_pow_right (n := 2) (by omega) hk10)
    have hwfE : wf ≤ E := by
      rw [← HE.out]
      have := hF.lt
      unfold every
      omega
    have callW := fun W h => can37 a hf wf (by omega) w.heap.size W h
    simp only [hF.can] at callW
    have hs2 : decide (s2 = 0) = decide (wf = 0) := by
      rw [HS2.out, hF.zero]
      cases canV (toP a.s3) <;> rfl
    have hmin : cO = true → pop wf < pop own ∨ (pop wf = pop own ∧ wf ≤ own) := fun h => hF.min own hown (by rw [hcO, h])
    have HMIN := Lib.hid hmin
    have HZ := Lib.hid hs2
    clear hcO HS2 hmin hs2 HE
    refine exec_seq (exec_seq (exec_region_o fun ds => ?_))
    gi_wp2
    refine eq_mk (Keep.refl _) ?_
    show Exec _ _ (Code.cond _ _ _) _ _ _
    refine exec_cond (b := false) rfl (fun h => by cases h) (fun _ => exec_skip ?_)
    show Exec _ _ (Code.seq (Code.seq _ _) _) _ _ _
    have hlt0 : ¬ ((wf : Int) < 0) := by omega
    have hgtE : ¬ ((E : Int) < (wf : Int)) := by omega
    have hwfI : ((wf : Int) = 0) = (wf = 0) := by
      apply propext
      omega
    refine exec_seq (exec_seq (exec_region_o fun ds => ?_))
    gi_wp2_with fail
    refine ⟨trivial, rfl, (callsIn_wide.2 (callW X3 hX3)).mono ?_⟩
    rintro e X4 ⟨rfl, hy4⟩
    have hX4 := hX3.keep hy4
    have hB4 := hBX.trans (hy4.mono hBX.size)
    have hK4 := Keep.of_below hy4
    clear hy4 hX3 hBX callW hwfI
    refine (show ∀ {C : Prop}, (wf = 0 → s2 = 0 → C) → (wf ≠ 0 → s2 ≠ 0 → C) → C from fun h1 h2 => by
      by_cases h : wf = 0
      · have := HZ.out
        rw [decide_eq_true h] at this
        exact h1 h (of_decide_eq_true this)
      · have := HZ.out
        rw [decide_eq_false h] at this
        exact h2 h (of_decide_eq_false this)) (fun hz1 hz2 => ?_) (fun hz1 hz2 => ?_)
    · subst hz1
      subst hz2
      clear HZ
      gi_wp2
      refine eq_mk hK4 ?_
      show Exec _ _ (Code.cond _ _ _) _ _ _
      refine exec_cond (b := false) rfl (fun h => by cases h) (fun _ => exec_skip ?_)
      show Exec _ _ (Code.seq (sub wcode [1, 1, 1, 1, 1, 1, 1, 1, 1, 1, 0]) (sub wcode [1, 1, 1, 1, 1, 1, 1, 1, 1, 1, 1])) _ _ _
      refine exec_seq ((wv_loop (own := own) (wf := 0) hf hF hX4 hB4 (by simp [Slots, Fits]) (Q := fun _ _ _ => False)).mono ?_)
      intro e t Z hh
      obtain ⟨rfl, hE⟩ := only_normal hh
      exact wv_end hF hown10 hwf10 callO HMIN hE
    · have hb1 : ((wf : Int) == 0) = false := by simp; omega
      have hb2 : (s2 == 0) = false := by simpa using hz2
      clear HZ
      gi_wp2
      refine eq_mk hK4 ?_
      show Exec _ _ (Code.cond _ _ _) _ _ _
      refine exec_cond (b := false) rfl (fun h => by cases h) (fun _ => exec_skip ?_)
      show Exec _ _ (Code.seq (sub wcode [1, 1, 1, 1, 1, 1, 1, 1, 1, 1, 0]) (sub wcode [1, 1, 1, 1, 1, 1, 1, 1, 1, 1, 1])) _ _ _
      refine exec_seq ((wv_loop (own := own) (wf := wf) hf hF hX4 hB4 (by simp [Slots, Fits]) (Q := fun _ _ _ => False)).mono ?_)
      intro e t Z hh
      obtain ⟨rfl, hE⟩ := only_normal hh
      exact wv_end hF hown10 hwf10 callO HMIN hE
end Go.Proofs.Ytbdmmikflkpmpaa
end

section
set_option linter.unusedVariables false
namespace Go.Proofs.Ytbdmmikflkpmpaa
open Go.ChangeShapes Go.WideShapes Go.ChangeAt Go.RowKit Go.Joins Go.Deep
section
variable {H : Type} {enc : TypeId × Value → H} {w : World}
theorem row_ints {n : Nat} {v : Value} {y : DataW H × List MemPlace} (h : DataW.trod enc Try.prog w 0 (fun _ => true) true n 22 [v] = some y) : ∃ A c l, v = .slice A (l : List Int).length c ∧ RowV w A (l.map vi) := by
  rcases open_ints Try.underlying22 Try.underlying3 (by kernel_rfl) h with ⟨hcs, _⟩ | ⟨x, l, c, zs, hcs, _, hl, hm, hz, _, hcell, hwz⟩
  · simp only [List.cons.injEq, and_true] at hcs
    exact ⟨none, 0, [], hcs, fun i v hv => by simp at hv⟩
  · simp only [List.cons.injEq, and_true] at hcs
    have hz' : zs.length = c := by simpa using hz
    have htl : (zs.take l).length = l := by rw [List.length_take]; omega
    refine ⟨some x, c, zs.take l, by rw [htl]; exact hcs, fun i v hv => ⟨x, rfl, ?_⟩⟩
    rw [List.getElem?_map] at hv
    obtain ⟨u, hu, rfl⟩ := Option.map_eq_some_iff.1 hv
    have hi : i < l := by
      have := (List.getElem?_eq_some_iff.1 hu).1
      omega
    rw [List.getElem?_take_of_lt hi] at hu
    have := hcell i (by omega)
    rw [this, List.getD_eq_getElem?_getD, hu]
    rfl
theorem row_pairs {n : Nat} {v : Value} {y : DataW H × List MemPlace} (h : DataW.trod enc Try.prog w 0 (fun _ => true) true n 23 [v] = some y) : ∃ A c l, v = .slice A (l : List (Int × Int)).length c ∧ RowKI w A l := by
  rcases open_slice_pairs Try.underlying23 Try.underlying50 (by kernel_rfl) rfl rfl (by kernel_rfl) (by kernel_rfl) h with ⟨hcs, _⟩ | ⟨a, len, cap, m, n', V0, V1, D0, D1, P0, P1, hcs, _, hl, hm, hmm, _, hi⟩
  · simp only [List.cons.injEq, and_true] at hcs
    exact ⟨none, 0, [], hcs, fun i k hk => by simp at hk⟩
  · simp only [List.cons.injEq, and_true] at hcs
    have hlm : len ≤ m := by rw [hmm]; split <;> omega
    have each : ∀ i, i < len → ∃ x : Int × Int, w.cell? (a.add (i * 2)) = some (.int .i64 x.1) ∧ w.cell? (a.add (i * 2 + 1)) = some (.int .i64 x.2) := by
      intro i hi'
      obtain ⟨c0, c1, t0, t1⟩ := hi i (by omega)
      obtain ⟨x, e0, _, _⟩ := DataW.trod_int Try.underlying3 t0
      obtain ⟨z, e1, _, _⟩ := DataW.trod_int Try.underlying3 t1
      simp only [List.cons.injEq, and_true] at e0 e1
      exact ⟨⟨x, z⟩, by rw [c0, e0], by rw [c1, e1]⟩
    have hex : ∀ k, k ≤ len → ∃ l : List (Int × Int), l.length = k ∧ ∀ i p, l[i]? = some p → w.cell? (a.add (i * 2)) = some (.int .i64 p.1) ∧ w.cell? (a.add (i * 2 + 1)) = some (.int .i64 p.2) := by
      intro k
      induction k with
      | zero => exact fun _ => ⟨[], rfl, fun i p hp => by simp at hp⟩
      | succ k ih =>
        intro hk
        obtain ⟨l, hl1, hl2⟩ := ih (by omega)
        obtain ⟨x, h1, h2⟩ := each k (by omega)
        refine ⟨l ++ [x], by simp [hl1], fun i p hp => ?_⟩
        rcases Nat.lt_or_ge i l.length with hlt | hge
        · rw [List.getElem?_append_left hlt] at hp
          exact hl2 i p hp
        · rw [List.getElem?_append_right hge] at hp
          have hi0 : i - l.length = 0 := by
            rcases Nat.eq_zero_or_pos (i - l.length) with h0 | h0
            · exact h0
            · obtain ⟨q, hq⟩ : ∃ q, i - l.length = q + 1 := ⟨i - l.length - 1, by omega⟩
              rw [hq] at hp
              simp at hp
          rw [hi0] at hp
          simp only [List.getElem?_cons_zero, Option.some.injEq] at hp
          subst hp
          obtain rfl : i = k := by omega
          exact ⟨h1, h2⟩
    obtain ⟨l, hl1, hl2⟩ := hex len (Nat.le_refl _)
    refine ⟨some a, cap, l, by rw [hcs, hl1], fun i p hp => ⟨a, rfl, ?_⟩⟩
    obtain ⟨h1, h2⟩ := hl2 i p hp
    refine ⟨h1, ?_⟩
    rw [← h2]
    congr 1
    unfold Addr.add
    split <;> (try rfl) <;> simp_all <;> omega
set_option maxRecDepth 100000 in
theorem xp_open {r : Reach} {b0 : Nat} {v : Value} {d : DataW H} {p : List MemPlace} (hv : Value.okWide Try.prog w r b0 25 v) (h : DataW.Trod enc Try.prog w 0 (fun _ => true) true 25 v d p) : ∃ F : XP, v = F.val ∧ F.Row w := by
  obtain ⟨v0, v1, v2, y0, y1, y2, n, rfl, _, _, h0, h1, h2⟩ := open_agg3 Try.underlying25 (by kernel_rfl) (by kernel_rfl) hv h
  obtain ⟨A0, c0, l0, rfl, r0⟩ := row_ints h0
  obtain ⟨A1, c1, l1, rfl, r1⟩ := row_ints h1
  obtain ⟨A2, c2, l2, rfl, r2⟩ := row_pairs h2
  exact ⟨⟨A0, c0, l0, A1, c1, l1, A2, c2, l2⟩, rfl, ⟨r0, r1, r2⟩⟩
end
end Go.Proofs.Ytbdmmikflkpmpaa
end

section
namespace Go.Proofs.Ytbdmmikflkpmpaa
open Go.RowKit
theorem bounds_u16 {n : Int} (h : (Lit.int .u16 n).wf = true) : 0 ≤ n ∧ n < 65536 := by
  have h2 : IntKind.u16.min ≤ n ∧ n ≤ IntKind.u16.max := by simpa [Lit.wf] using h
  have h3 : IntKind.u16.min = 0 := rfl
  have h4 : IntKind.u16.max + 1 = 65536 := rfl
  omega
theorem waive_row (a : XP) (n : Int) (w : World) (h : a.Row w) (hn : (Lit.int .u16 n).wf = true) : Calls Try.prog 7 #[a.val, .int .u16 n] w fun e w' => e = .returned (.bool true) ∧ Below w.heap.size w w' := by
  have hb := bounds_u16 hn
  obtain ⟨m, rfl⟩ : ∃ m : Nat, n = m := ⟨n.toNat, by omega⟩
  exact waive_law a m w h (by omega)
end Go.Proofs.Ytbdmmikflkpmpaa
namespace Go.Proofs.Ytbdmmikflkpmpaa.panelWaive
open Go.ChangeShapes Go.WideShapes Go.ChangeAt Go.RowKit
open Go.ChangeMaps (open_string shut_string)
set_option linter.unusedVariables false
theorem own : ownKnob Try.prog.godebug = none := by kernel_rfl
theorem laidOut : laidOutB Try.prog = true := by kernel_rfl
set_option maxRecDepth 100000 in
theorem lifted (os : Os) (started : os.Started) (H : Type) (enc : TypeId × Value → H) :
    ReturnsInHanded {} Try.checked os 7 .any (Rows.panelWaiveSpec.pre6 enc Try.prog Try.f7 Rows.panelWaiveRow.domain false) (Rows.panelWaiveSpec.post enc Try.prog Try.f7 false true false false) := by
  refine returnsInHanded_of_change_sized (C := Try.checked) own started (by kernel_rfl) Try.func7
    (ChangeSpec.witness6 (enc := enc) (C := Try.checked) false ⟨#[], #[.agg #[.slice none 0 0, .slice none 0 0, .slice none 0 0], .int .u16 0], []⟩ 8 (by kernel_rfl) (by kernel_rfl) (by kernel_rfl) (by kernel_rfl)) ?_
  intro W base args ds gs before hval0 hW hcnd hsz0 _
  have hsz : (DataW.weightsEach Try.prog (Try.f7.params.toList ++ Rows.panelWaiveSpec.plain.varTypes Try.prog) (ds ++ gs)).all (· ≤ reachBytes) = true := hsz0
  have hval : ∀ (j : Nat) t v, Try.f7.params[j]? = some t → args[j]? = some v → Value.okWide Try.prog W .any base t v := hval0
  have hW' := hW
  obtain ⟨p, q, hA0, hV, rfl, hfz, hnd⟩ := hW
  have hA : DataW.TrodAll enc Try.prog W 0 (fun _ => true) true Try.f7.params.toList args.toList ds p := hA0
  rw [Try.params7] at hA hval hsz
  obtain ⟨v0, vs0, d0, ds0, p0, q0, hargs, rfl, rfl, h0, r0⟩ := trodAll_cons hA
  obtain ⟨v1, vs1, d1, ds1, p1, q1, rfl, rfl, rfl, h1, r1⟩ := trodAll_cons r0
  obtain ⟨rfl, rfl, rfl⟩ := trodAll_nil r1
  obtain rfl : args = #[v0, v1] := by cases args; simp_all
  obtain ⟨rfl, rfl⟩ := trodVars_none hV
  have k0 := h0
  have lt0 : ∀ x ∈ p0, x.block < W.heap.size := by obtain ⟨m, hm⟩ := k0; exact DataW.trod_lt m _ _ _ hm
  obtain ⟨F0, rfl, hF0⟩ := xp_open (hval 0 25 v0 rfl rfl) h0
  obtain ⟨a1, rfl, rfl, rfl, w1⟩ := open_int Try.underlying58 (hval 1 58 v1 rfl rfl) h1
  clear hA0 hval0 hsz0 hsz
  refine (waive_row F0 a1 W hF0 w1).mono fun e W' ⟨he, bel⟩ => ?_
  subst he
  exact ⟨_, rfl, _, _, _, [], _, [], hW', trodAll_mk1 (shut_bool Try.underlying4 _), (trodAll_cons_mk (Below.trod laidOut (by kernel_rfl) (of_decide_eq_true (by kernel_rfl)) k0 bel lt0) (trodAll_cons_mk (shut_int Try.underlying58 w1) trodAll_mk0)), rfl, bel.frame _, fun h => by cases h⟩
theorem over : Rows.panelWaiveRow.holds Try.pinned (OpenSpec.ofChange Rows.panelWaiveSpec) :=
  OpenClaim.holds_of_wide 7 Try.f7 rfl rfl rfl rfl rfl rfl rfl ⟨rfl, rfl, rfl, rfl, rfl⟩ rfl rfl rfl rfl rfl (by kernel_rfl) Try.func7 (by kernel_rfl)
    (of_decide_eq_true (by kernel_rfl)) (by unfold Func.isWrapper; first | (rw [if_pos (by decide +kernel)]; kernel_rfl) | (rw [if_neg (by decide +kernel)]; exact ⟨rfl, rfl⟩))
    (fun os started H enc _ => lifted os started H enc)
theorem proved : Rows.PanelWaiveSaid := over
#print axioms proved
end Go.Proofs.Ytbdmmikflkpmpaa.panelWaive
namespace Go.Proofs.Ytbdmmikflkpmpaa
/-- The row, under a short name, for the claim. -/
theorem panelWaive_holds : Rows.PanelWaiveSaid := panelWaive.proved
end Go.Proofs.Ytbdmmikflkpmpaa
end
